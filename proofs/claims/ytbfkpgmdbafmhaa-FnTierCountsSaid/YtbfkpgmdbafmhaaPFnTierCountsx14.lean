/- Printed for this claim: functions of the program as Lean functions, and that the calls answer so. -/
import Derived.Test.YtbfkpgmdbafmhaaPFnTierCountsx0
import Derived.Test.YtbfkpgmdbafmhaaPFnTierCountsx1
import Derived.Test.YtbfkpgmdbafmhaaPFnTierCountsx2
import Derived.Test.YtbfkpgmdbafmhaaPFnTierCountsx3
import Derived.Test.YtbfkpgmdbafmhaaPFnTierCountsx4
import Derived.Test.YtbfkpgmdbafmhaaPFnTierCountsx5
import Derived.Test.YtbfkpgmdbafmhaaPFnTierCountsx13
import Derived.Test.YtbfkpgmdbafmhaaPFnTierCountsxD0
import Derived.Test.YtbfkpgmdbafmhaaPFnTierCountsxD1
namespace Go.Proofs.Ytbfkpgmdbafmhaa.PFnTierCounts
open Go.RowKit Go.Proofs.YtbfkpgmdbafmhaaW.PrintWords Go.Proofs.YtbfkpgmdbafmhaaW.PrintLast Go.Proofs.YtbfkpgmdbafmhaaW.PrintMore
theorem z14_0_ {p : Prop} (h : p := by repeat (first | exact (Kd.C_below HR0.out HB.out) | (with_reducible first | apply cA_ | apply cN_ | apply cD_))) : p := h
theorem z14_1_ {p : Prop} (h : p := by first | exact Kd.R_nil _ _ _ _ _ | exact Kd.N_nil _ _ _ _ _ | exact Kd.V_nil _ _ _ _ _ | exact Kd.Q_nil _ _ _ _ _ | exact Kd.S_nil _ _ _ _ _) : p := h
theorem z14_2_ {p : Prop} (h : p := by first | rfl | (simp; done) | (simp [*]; done)) : p := h
theorem z14_3_ {p : Prop} (h : p := by (try simp only [List.map_toArray, List.map_cons, List.map_nil]); first | done | rfl | simp | (simp; rfl)) : p := h
theorem z14_4_ {p : Prop} (h : p := by have := HJ1.out; have := HK2.out; omega) : p := h
theorem z14_5_ {p : Prop} (h : p := by first | rfl | (simp; done) | (simp only [← hji9] <;> (first | rfl | simp)) | (simp [*]; done)) : p := h
theorem z14_6_ {p : Prop} (h : p := by repeat (first | exact Drawn0.refl _ | apply Drawn0.step)) : p := h
set_option maxHeartbeats 8000000
set_option maxRecDepth 100000
attribute [local go_sem] max2_int min2_int max_two min_two max_three min_three max_four min_four isSome_setCell   -- for this text's walks alone
set_option linter.unusedVariables false
set_option linter.unusedSimpArgs false

/-! ### impl_LongNotes: function 14 -/
theorem impl_LongNotes.calls (k : Nat) (A0 : Option Addr) (c0 : Nat) (l0 : List (S50)) (a1 : Int) (r1 : List Int) (r2 : Bool) (w : World) (hr0 : Kd.C k50 w A0 l0.length l0) (hc0 : l0.length ≤ c0) (h : impl_LongNotes.f k l0 a1 = some (r1, r2)) :
 Calls Try.prog 14 #[.slice A0 l0.length c0, .int .i64 a1] w fun e w' => ∃ v0_ : Value, e = .returned (.tuple #[v0_, .bool r2]) ∧ Kd.R (Kd.int .i64) 3 w' w.heap.size (fun _ => True) v0_ r1 ∧ Below w.heap.size w w' := by
 have hu3 := Try.underlying3
 have HR0 := Aside0.mk hr0
 have HC0 := Aside0.mk hc0
 clear hr0 hc0
 have HB := Aside0.mk (Below.refl w.heap.size w)
 have H : ((impl_IsTier.f k l0).bind fun t585 => (if t585 = true then ((impl_isFrame.f a1).bind fun t586 => (if t586 = true then ((impl_those_Note_impl_LongNotes_1.f k l0 a1).bind fun t587 => (some (t587, true))) else (some (([] : List Int), false)))) else (some (([] : List Int), false)))) = some (r1, r2) := h
 clear h
 replace H := ob_ H; obtain ⟨t585, A3, H⟩ := H; try dsimp only at H
 by_cases c4 : t585 = true
 rotate_left
 ·replace c4 := Bool.eq_false_iff.mpr c4
  subst c4
  replace H := in_ H (show ¬ (false = true) by decide)
  simp only [Option.some.injEq, Prod.mk.injEq] at H
  obtain ⟨rfl, rfl⟩ := H
  go_enter Try.func14, Try.ntmps14
  go_wp2_with (first | ((with_reducible refine gate_dst (N := 3) rfl ?_); refine bx_ 3 #[.int .i64 a1] 3 fun gb584 hg w13 hbox hb => ?_; have BK584 := aM_ (hbox); have GW584 := aM_ (gw_ w hg); have GE584 := aM_ (gw_ w hg); replace HB := aM_ (below_step hB_ hb); clear hb hbox hg; clear BK584) | (refine gM_ (some 7) Try.func27 #[.slice A0 l0.length c0] ?_; (with_reducible refine (impl_IsTier.calls k _ _ l0 false _ ?side1 ?side2 A3.out).mono ?_); (case side1 => exact z14_0_); (case side2 => exact HC0.out); rintro e w14 ⟨rfl, hb⟩; refine ⟨_, rfl, ?_⟩; replace HB := aM_ (below_step hB_ hb); (try clear hb)))
  go_ret2
  exact ⟨_, rT_, z14_1_, hB_⟩
 subst c4
 replace H := ip_ H rfl
 replace H := ob_ H; obtain ⟨t586, A5, H⟩ := H; try dsimp only at H
 have HC6 := Aside0.mk H
 clear H
 go_enter Try.func14, Try.ntmps14
 go_upto_if 13 with (first | ((with_reducible refine gate_dst (N := 3) rfl ?_); refine bx_ 3 #[.int .i64 a1] 3 fun gb584 hg w7 hbox hb => ?_; have BK584 := aM_ (hbox); have GW584 := aM_ (gw_ w hg); have GE584 := aM_ (gw_ w hg); replace HB := aM_ (below_step hB_ hb); clear hb hbox hg) | (refine gM_ (some 7) Try.func27 #[.slice A0 l0.length c0] ?_; (with_reducible refine (impl_IsTier.calls k _ _ l0 true _ ?side1 ?side2 A3.out).mono ?_); (case side1 => exact z14_0_); (case side2 => exact HC0.out); rintro e w8 ⟨rfl, hb⟩; refine ⟨_, rfl, ?_⟩; replace BK584 := aM_ (blk_below (g := gb584) (kR_ BK584) hb); replace HB := aM_ (below_step hB_ hb); (try clear hb); have hz9 := cf1_ BK584.out) | (go_at_call 37; (with_reducible refine (impl_isFrame.calls a1 t586 _ A5.out).mono ?_); rintro e w' ⟨rfl, ⟨nd, rfl⟩⟩))
 (try simp only [Act.put, List.setIfInBounds_toArray, List.set_cons_zero, List.set_cons_succ])
 have H := HC6.out
 clear HC6
 by_cases c10 : t586 = true
 rotate_left
 ·replace c10 := Bool.eq_false_iff.mpr c10
  subst c10
  replace H := in_ H (show ¬ (false = true) by decide)
  simp only [Option.some.injEq, Prod.mk.injEq] at H
  obtain ⟨rfl, rfl⟩ := H
  go_wp2
  go_ret2
  exact ⟨_, rT_, z14_1_, hB_⟩
 subst c10
 replace H := ip_ H rfl
 replace H := ob_ H; obtain ⟨t587, A11, H⟩ := H; try dsimp only at H
 simp only [Option.some.injEq, Prod.mk.injEq] at H
 obtain ⟨rfl, rfl⟩ := H
 go_wp2_with (first | (refine gM_ (some 16) Try.func38 #[.slice A0 l0.length c0, .func (.func 48) #[] #[.pointer (some ⟨gb584, 0, none⟩)]] ?_; (with_reducible refine (impl_those_Note_impl_LongNotes_1.calls k _ _ l0 gb584 a1 t587 _ ?side1 ?side2 ?side3 A11.out).mono ?_); (case side1 => exact z14_0_); (case side2 => exact HC0.out); (case side3 => (with_reducible repeat (first | apply kN_ | apply kD_ | apply kA_)); exact BK584.out); rintro e w12 ⟨v588, rfl, ho0, hb⟩; refine ⟨_, rfl, ?_⟩; have HO589 := aM_ (Kd.R_lower (Kd.R_newB ho0 (g := gb584) kP_) (below_size hB_)); replace BK584 := aM_ (blk_below (g := gb584) (kR_ BK584) hb); replace HB := aM_ (below_step hB_ hb); (try clear hb); (try clear ho0)))
 go_ret2
 exact ⟨_, rT_, by (with_reducible repeat (first | apply rA_ | apply rN_ | apply rD_)); exact Kd.R_mono HO589.out (fun _ hk => trivial), hB_⟩

/-! ### spec_LongNotes: function 15 -/
theorem spec_LongNotes.calls (k : Nat) (A0 : Option Addr) (c0 : Nat) (l0 : List (S50)) (a1 : Int) (r1 : List Int) (r2 : Bool) (w : World) (hr0 : Kd.C k50 w A0 l0.length l0) (hc0 : l0.length ≤ c0) (h : spec_LongNotes.f k l0 a1 = some (r1, r2)) :
 Calls Try.prog 15 #[.slice A0 l0.length c0, .int .i64 a1] w fun e w' => ∃ v0_ : Value, e = .returned (.tuple #[v0_, .bool r2]) ∧ Kd.R (Kd.int .i64) 3 w' w.heap.size (fun _ => True) v0_ r1 ∧ Below w.heap.size w w' := by
 have hu50 := Try.underlying50
 have HR0 := Aside0.mk hr0
 have HC0 := Aside0.mk hc0
 clear hr0 hc0
 have HB := Aside0.mk (Below.refl w.heap.size w)
 have H : ((spec_tiGood.f k l0).bind fun t590 => (if t590 = true then ((spec_tiFrame.f a1).bind fun t591 => (spec_LongNotes.j0 k l0 a1 (!t591))) else (spec_LongNotes.j0 k l0 a1 true))) = some (r1, r2) := h
 clear h
 have HC3 := Aside0.mk H
 clear H
 go_enter Try.func15, Try.ntmps15
 go_upto_region 1 with (fail)
 go_cut [16] (fun v16 wc => ∃ (kq : Nat) (x16_2 : Bool), v16 = .bool x16_2 ∧ Aside0 (spec_LongNotes.j0 kq l0 a1 x16_2 = some (r1, r2)) ∧ Aside0 (kq ≤ k) ∧ Aside0 (Below w.heap.size w wc))
 case first =>
  have H := HC3.out
  clear HC3
  replace H := ob_ H; obtain ⟨t590, A4, H⟩ := H; try dsimp only at H
  by_cases c5 : t590 = true
  rotate_left
  ·replace c5 := Bool.eq_false_iff.mpr c5
   subst c5
   replace H := in_ H (show ¬ (false = true) by decide)
   have H' := Aside0.mk H
   clear H
   go_wp2_with (first | (refine gM_ (some 10) Try.func31 #[.slice A0 l0.length c0] ?_; (with_reducible refine (spec_tiGood.calls k _ _ l0 false _ ?side1 ?side2 A4.out).mono ?_); (case side1 => exact z14_0_); (case side2 => exact HC0.out); rintro e w8 ⟨rfl, hb⟩; refine ⟨_, rfl, ?_⟩; replace HB := aM_ (below_step hB_ hb); (try clear hb)))
   go_meet
   case rel => exact ⟨_, (true), z14_2_, H', ⟨oR_⟩, ⟨hB_⟩⟩
  subst c5
  replace H := ip_ H rfl
  replace H := ob_ H; obtain ⟨t591, A6, H⟩ := H; try dsimp only at H
  have H' := Aside0.mk H
  clear H
  go_wp2_with (first | (refine gM_ (some 10) Try.func31 #[.slice A0 l0.length c0] ?_; (with_reducible refine (spec_tiGood.calls k _ _ l0 true _ ?side1 ?side2 A4.out).mono ?_); (case side1 => exact z14_0_); (case side2 => exact HC0.out); rintro e w7 ⟨rfl, hb⟩; refine ⟨_, rfl, ?_⟩; replace HB := aM_ (below_step hB_ hb); (try clear hb)) | (go_at_call 42; (with_reducible refine (spec_tiFrame.calls a1 t591 _ A6.out).mono ?_); rintro e w' ⟨rfl, ⟨nd, rfl⟩⟩))
  go_meet
  case rel => exact ⟨_, (!t591), z14_2_, H', ⟨oR_⟩, ⟨hB_⟩⟩
 case rest =>
  clear HC3
  obtain ⟨kq, x16_2, rfl, HA, HJ2, HB⟩ := hcut
  cases kq with
  | zero => exact absurd HA.out (by simp [spec_LongNotes.j0])
  | succ kj2 =>
   have H := HA.out
   clear HA
   simp only [spec_LongNotes.j0] at H
   by_cases c9 : x16_2 = true
   ·subst c9
    replace H := ip_ H rfl
    simp only [Option.some.injEq, Prod.mk.injEq] at H
    obtain ⟨rfl, rfl⟩ := H
    go_wp2
    go_ret2
    exact ⟨_, rT_, z14_1_, hB_⟩
   replace c9 := Bool.eq_false_iff.mpr c9
   subst c9
   replace H := in_ H (show ¬ (false = true) by decide)
   have H' := Aside0.mk H
   clear H
   go_wp2
   go_loopg [6, 19] kj2 (fun kq v6 v19 w' => ∃ (x6_2 : List Int) (x19_2 : Int), v19 = .int .i64 x19_2 ∧ Aside0 (spec_LongNotes.l0 kq a1 x6_2 l0 (l0.length : Int) x19_2 = some (r1, r2)) ∧ Aside0 (kq ≤ kj2) ∧ Aside0 (Kd.R (Kd.int .i64) 3 w' w.heap.size (fun _ => True) v6 x6_2) ∧ Aside0 (Below w.heap.size w w'))
   case atStart => exact ⟨(([] : List Int)), (0), z14_2_, H', ⟨Nat.le_refl _⟩, ⟨z14_1_⟩, ⟨hB_⟩⟩
   case round =>
    clear H'
    (try clear c9)
    obtain ⟨x6_2, x19_2, rfl, HA, HK2, HO_6, HB⟩ := hrel
    cases gk with
    | zero => exact absurd HA.out (by simp [spec_LongNotes.l0])
    | succ k2 =>
     have H := HA.out
     clear HA
     simp only [spec_LongNotes.l0] at H
     replace H := iF_ H; obtain ⟨c10b0, H⟩ | ⟨c10b0, H⟩ := H
     ·simp only [Option.some.injEq, Prod.mk.injEq] at H
      obtain ⟨rfl, rfl⟩ := H
      go_wp2
      go_ret2
      exact ⟨_, rT_, (rR_ HO_6), hB_⟩
     replace H := ig_ H; obtain ⟨c11b0, H⟩ := H
     replace H := ig_ H; obtain ⟨c12b0, H⟩ := H
     have HC13 := Aside0.mk H
     clear H
     have p592 : 0 ≤ (x19_2 : Int) := ode_
     have q592 : x19_2 < (l0.length : Int) := ode_
     obtain ⟨ad592, e592, hx592_0, hx592_1, hx592_2⟩ := at_T50 HR0.out x19_2 p592 q592
     cases e592
     replace hx592_0 := hc_ HB hx592_0
     replace hx592_1 := hc_ HB hx592_1
     replace hx592_2 := hc_ HB hx592_2
     replace p592 := eq_true p592
     replace q592 := eq_true q592
     go_upto_if 30 with (first | ((with_reducible refine gate_dst (N := 8) rfl ?_); refine bx_ 8 #[.int .i64 0, .int .i64 0, .string (⟨#[]⟩ : ByteArray)] 50 fun gb593 hg w14 hbox hb => ?_; have BK593 := aM_ (hbox); have GW593 := aM_ (gw_ w hg); have GE593 := aM_ (gw_ w hg); replace HO_6 := aM_ (Kd.R_below (rR_ HO_6) hb); replace HB := aM_ (below_step hB_ hb); clear hb hbox hg; have hz15 := cf3_ BK593.out))
     (try simp only [Act.put, List.setIfInBounds_toArray, List.set_cons_zero, List.set_cons_succ])
     have H := HC13.out
     clear HC13
     by_cases c16 : (wrap64 (((rd_T50 l0 x19_2).f1) - ((rd_T50 l0 x19_2).f0))) ≥ a1
     rotate_left
     ·rw [if_neg c16] at H
      have c16b0 : decide (a1 ≤ (wrap64 (((rd_T50 l0 x19_2).f1) - ((rd_T50 l0 x19_2).f0)))) = false := decide_eq_false c16
      clear c16
      (first | rw [c16b0] | (simp only [i64_w, i32_w]; rw [c16b0]) | skip)
      have H' := Aside0.mk H
      clear H
      go_wp2
      go_roundg k2
      case measure => have := HJ2.out; have := HK2.out; omega
      case rel => exact ⟨(x6_2), (wrap64 (x19_2 + 1)), z14_2_, H', ⟨by have := HJ2.out; have := HK2.out; omega⟩, ⟨by (with_reducible repeat (first | apply rA_ | apply rN_ | apply rD_)); exact Kd.R_mono (Kd.R_far (p := ⟨gb593, 2, none⟩) (Kd.R_far (p := ⟨gb593, 1, none⟩) (Kd.R_far (p := ⟨gb593, 0, none⟩) (Kd.R_types HO_6.out BK593.out (by decide)) (fun _ hk => hk.2) (.int .i64 ((rd_T50 l0 x19_2).f0))) (fun _ hk => hk.2) (.int .i64 ((rd_T50 l0 x19_2).f1))) (fun _ hk => hk.2) (.string ((rd_T50 l0 x19_2).f2))) (fun _ hk => trivial)⟩, ⟨hB_⟩⟩
     rw [if_pos c16] at H
     have c16b0 : decide (a1 ≤ (wrap64 (((rd_T50 l0 x19_2).f1) - ((rd_T50 l0 x19_2).f0)))) = true := decide_eq_true c16
     clear c16
     (first | rw [c16b0] | (simp only [i64_w, i32_w]; rw [c16b0]) | skip)
     replace H := il_ H; obtain ⟨LMc17, H⟩ := H
     obtain ⟨y594, hy594⟩ : ∃ y_ : List Int, y_ = (x6_2 ++ [x19_2]) := ⟨_, rfl⟩
     rw [← hy594] at H
     have Ny594 := Aside0.mk hy594; clear hy594
     have H' := Aside0.mk H
     clear H
     go_wp2_with (first | ((with_reducible refine gate_builtin (b := .append) (xs := #[.tmp 31, .tmp 33]) rfl ?_); at_builtin; refine Kd.R_append (Kd.int .i64) (w0 := w) w.heap.size rfl (.tmp 31) (.tmp 33) 26 3 (.int .i64 0) 8 rfl Try.underlying26 info3 rfl (by decide) (by omega) u6 x6_2 x19_2 [.int .i64 x19_2] (fun _ => True) (fun _ => False) rfl (by first | (go_simp; done) | (go_simp; rfl)) ?aP (fun _ hk => hk.elim) ?aF ?aO ?aB ?aS ?aL ?_; (case aP => exact rfl); (case aB => exact hB_); (case aF => exact (fun _ _ => trivial)); (case aO => exact (by (with_reducible repeat (first | apply rA_ | apply rN_ | apply rD_)); exact Kd.R_mono (Kd.R_far (p := ⟨gb593, 2, none⟩) (Kd.R_far (p := ⟨gb593, 1, none⟩) (Kd.R_far (p := ⟨gb593, 0, none⟩) (Kd.R_types HO_6.out BK593.out (by decide)) (fun _ hk => hk.2) (.int .i64 ((rd_T50 l0 x19_2).f0))) (fun _ hk => hk.2) (.int .i64 ((rd_T50 l0 x19_2).f1))) (fun _ hk => hk.2) (.string ((rd_T50 l0 x19_2).f2))) (fun _ hk => trivial))); (case aS => exact (below_size hB_)); (case aL => have := LMc17.out; omega); intro v595 w18 ho hb hg hat; rw [← Ny594.out] at ho; have HO596 := aM_ (ho); replace BK593 := aM_ (blk_grown (g := gb593) (o := .cells #[.int .i64 ((rd_T50 l0 x19_2).f0), .int .i64 ((rd_T50 l0 x19_2).f1), .string ((rd_T50 l0 x19_2).f2)] 50 (0, 0)) (by (with_reducible repeat (first | apply kN_ | apply kD_ | apply kA_)); refine blk_put (cs := #[.int .i64 ((rd_T50 l0 x19_2).f0), .int .i64 ((rd_T50 l0 x19_2).f1), .string (⟨#[]⟩ : ByteArray)]) ?_ 2 _ rfl; (with_reducible repeat (first | apply kN_ | apply kD_ | apply kA_)); refine blk_put (cs := #[.int .i64 ((rd_T50 l0 x19_2).f0), .int .i64 0, .string (⟨#[]⟩ : ByteArray)]) ?_ 1 _ rfl; (with_reducible repeat (first | apply kN_ | apply kD_ | apply kA_)); refine blk_put (cs := #[.int .i64 0, .int .i64 0, .string (⟨#[]⟩ : ByteArray)]) ?_ 0 _ rfl; (with_reducible repeat (first | apply kN_ | apply kD_ | apply kA_)); exact BK593.out) hg (Kd.R_ne HO_6.out BK593.out (by decide))); replace HB := aM_ (hb); clear HO_6; clear ho hb hg hat))
     go_roundg k2
     case measure => have := HJ2.out; have := HK2.out; omega
     case rel => exact ⟨(y594), (wrap64 (x19_2 + 1)), z14_2_, H', ⟨by have := HJ2.out; have := HK2.out; omega⟩, ⟨rR_ HO596⟩, ⟨hB_⟩⟩

/-! ### spec_DrawLongestGap: function 16 -/
theorem spec_DrawLongestGap.calls (k : Nat) (A0 : Option Addr) (c0 : Nat) (l0 : List Int) (r : List (S50)) (w : World) (hr0 : Kd.C (Kd.int .u8) w A0 l0.length l0) (hc0 : l0.length ≤ c0) (h : spec_DrawLongestGap.f k l0 = some r) :
 Calls Try.prog 16 #[.slice A0 l0.length c0] w fun e w' => ∃ v0_ : Value, e = .returned (v0_) ∧ Kd.R k50 50 w' w.heap.size (fun _ => True) v0_ r ∧ Below w.heap.size w w' := by
 have HR0 := Aside0.mk hr0
 have HC0 := Aside0.mk hc0
 clear hr0 hc0
 have HB := Aside0.mk (Below.refl w.heap.size w)
 have H : ((spec_DrawIsTier.f k l0).bind fun t597 => (some t597)) = some r := h
 clear h
 replace H := ob_ H; obtain ⟨t597, A2, H⟩ := H; try dsimp only at H
 obtain rfl := Option.some.inj H
 go_enter Try.func16, Try.ntmps16
 go_wp2_with (first | (refine gM_ (some 4) Try.func26 #[.slice A0 l0.length c0] ?_; (with_reducible refine (spec_DrawIsTier.calls k _ _ l0 t597 _ ?side1 ?side2 A2.out).mono ?_); (case side1 => exact cC_ HR0); (case side2 => exact HC0.out); rintro e w3 ⟨v598, rfl, ho0, hb⟩; refine ⟨_, rfl, ?_⟩; have HO599 := aM_ (Kd.R_lower ho0 (below_size hB_)); replace HB := aM_ (below_step hB_ hb); (try clear hb); (try clear ho0)))
 go_ret
 exact ⟨_, rT_, by (with_reducible repeat (first | apply rA_ | apply rN_ | apply rD_)); exact HO599.out, hB_⟩

/-! ### impl_LongestGap_1: function 116 -/
theorem impl_LongestGap_1.calls (a0 : Int) (g1_0 : Nat) (A1_0 : Option Addr) (c1_0 : Nat) (l1_0 : List (S50)) (r : Int) (w : World) (hr1_0 : Kd.C k50 w A1_0 l1_0.length l1_0) (hc1_0 : l1_0.length ≤ c1_0) (hb1_0 : w.heap[g1_0]? = some (.cells #[.slice A1_0 l1_0.length c1_0] 23 (0, 0))) (h : impl_LongestGap_1.f a0 l1_0 = some r) :
 Calls Try.prog 49 #[.int .i64 a0, .pointer (some ⟨g1_0, 0, none⟩)] w fun e w' => e = .returned (.int .i64 r) ∧ Below w.heap.size w w' := by
 have HR1_0 := Aside0.mk hr1_0
 have HC1_0 := Aside0.mk hc1_0
 clear hr1_0 hc1_0
 have BK38 := Aside0.mk hb1_0
 clear hb1_0
 have HB := Aside0.mk (Below.refl w.heap.size w)
 have H : (if 0 ≤ (wrap64 (a0 + 1)) then (if (wrap64 (a0 + 1)) < (l1_0.length : Int) then (if 0 ≤ a0 then (if a0 < (l1_0.length : Int) then (some (wrap64 (((rd_T50 l1_0 (wrap64 (a0 + 1))).f0) - ((rd_T50 l1_0 a0).f1)))) else (none)) else (none)) else (none)) else (none)) = some r := h
 clear h
 obtain ⟨ji3, hji3⟩ : ∃ j_ : Int, (wrap64 (a0 + 1)) = j_ := ⟨_, rfl⟩
 replace H : (if 0 ≤ (ji3) then (if (ji3) < (l1_0.length : Int) then (if 0 ≤ a0 then (if a0 < (l1_0.length : Int) then (some (wrap64 (((rd_T50 l1_0 (ji3)).f0) - ((rd_T50 l1_0 a0).f1)))) else (none)) else (none)) else (none)) else (none)) = some r := by first | (rw [hji3] at H; exact H) | (simp only [hji3] at H ⊢; exact H)
 have hji3w : (IntKind.i64.wrap (a0 + 1)) = ji3 := (i64_w _).trans hji3
 replace H := ig_ H; obtain ⟨c4b0, H⟩ := H
 replace H := ig_ H; obtain ⟨c5b0, H⟩ := H
 replace H := ig_ H; obtain ⟨c6b0, H⟩ := H
 replace H := ig_ H; obtain ⟨c7b0, H⟩ := H
 obtain rfl := Option.some.inj H
 have hz8 := cf1_ BK38.out
 obtain ⟨⟨ad600, e600, hx600_0, hx600_1, hx600_2⟩, p600, q600⟩ := at2_ (at_T50 HR1_0.out (ji3)); cases e600
 clear BK38
 have p601 : 0 ≤ (a0 : Int) := ode_
 have q601 : a0 < (l1_0.length : Int) := ode_
 obtain ⟨ad601, e601, hx601_0, hx601_1, hx601_2⟩ := at_T50 HR1_0.out a0 p601 q601
 obtain rfl : ad600 = ad601 := (by injection e601)
 replace p601 := eq_true p601
 replace q601 := eq_true q601
 go_enter Try.func49, Try.ntmps49
 go_wp2
 repeat (go_quiet (fail); try go_wp2)
 go_ret
 exact ⟨by first | rfl | (simp [errW_none, errW_some] <;> rfl) | (simp only [← hji3]; first | rfl | (simp [errW_none, errW_some] <;> rfl)) | (simp [*, errW_none, errW_some] <;> rfl), hB_⟩

/-! ### impl_LongestGap: function 17 -/
theorem impl_LongestGap.calls (k : Nat) (A0 : Option Addr) (c0 : Nat) (l0 : List (S50)) (r1 : Int) (r2 : Int) (r3 : Bool) (w : World) (hr0 : Kd.C k50 w A0 l0.length l0) (hc0 : l0.length ≤ c0) (h : impl_LongestGap.f k l0 = some (r1, r2, r3)) :
 Calls Try.prog 17 #[.slice A0 l0.length c0] w fun e w' => e = .returned (.tuple #[.int .i64 r1, .int .i64 r2, .bool r3]) ∧ Below w.heap.size w w' := by
 have hu23 := Try.underlying23
 have HR0 := Aside0.mk hr0
 have HC0 := Aside0.mk hc0
 clear hr0 hc0
 have HB := Aside0.mk (Below.refl w.heap.size w)
 have H : ((impl_IsTier.f k l0).bind fun t603 => (if t603 = true then (impl_LongestGap.j0 k (decide ((l0.length : Int) < 2)) l0) else (impl_LongestGap.j0 k true l0))) = some (r1, r2, r3) := h
 clear h
 have HC2 := Aside0.mk H
 clear H
 go_enter Try.func17, Try.ntmps17
 go_upto_region 1 with (first | ((with_reducible refine gate_dst (N := 1) rfl ?_); (try (refine gate_guard (by rfl) ?_; dsimp only)); refine bx_ 1 #[.slice A0 l0.length c0] 23 fun gb602 hg w3 hbox hb => ?_; have BK602 := aM_ (hbox); have GW602 := aM_ (gw_ w hg); have GE602 := aM_ (gw_ w hg); replace HB := aM_ (below_step hB_ hb); clear hb hbox hg))
 (try simp only [Act.put, List.setIfInBounds_toArray, List.set_cons_zero, List.set_cons_succ])
 go_cut [15] (fun v15 wc => ∃ (kq : Nat) (x15_1 : Bool), v15 = .bool x15_1 ∧ Aside0 (impl_LongestGap.j0 kq x15_1 l0 = some (r1, r2, r3)) ∧ Aside0 (kq ≤ k) ∧ Aside0 (wc.heap[gb602]? = some (.cells #[(.slice A0 l0.length c0)] 23 (0, 0))) ∧ Aside0 (Below w.heap.size w wc))
 case first =>
  have H := HC2.out
  clear HC2
  replace H := ob_ H; obtain ⟨t603, A4, H⟩ := H; try dsimp only at H
  by_cases c5 : t603 = true
  ·subst c5
   replace H := ip_ H rfl
   have H' := Aside0.mk H
   clear H
   have hz6 := cf1_ BK602.out
   go_wp2_with (first | (refine gM_ (some 9) Try.func27 #[.slice A0 l0.length c0] ?_; (with_reducible refine (impl_IsTier.calls k _ _ l0 true _ ?side1 ?side2 A4.out).mono ?_); (case side1 => exact z14_0_); (case side2 => exact HC0.out); rintro e w7 ⟨rfl, hb⟩; refine ⟨_, rfl, ?_⟩; replace BK602 := aM_ (blk_below (g := gb602) (kR_ BK602) hb); replace HB := aM_ (below_step hB_ hb); (try clear hb); have hz8 := cf1_ BK602.out))
   go_meet
   case rel => exact ⟨_, (decide ((l0.length : Int) < 2)), z14_2_, H', ⟨oR_⟩, ⟨kP_⟩, ⟨hB_⟩⟩
  replace c5 := Bool.eq_false_iff.mpr c5
  subst c5
  replace H := in_ H (show ¬ (false = true) by decide)
  have H' := Aside0.mk H
  clear H
  have hz9 := cf1_ BK602.out
  go_wp2_with (first | (refine gM_ (some 9) Try.func27 #[.slice A0 l0.length c0] ?_; (with_reducible refine (impl_IsTier.calls k _ _ l0 false _ ?side1 ?side2 A4.out).mono ?_); (case side1 => exact z14_0_); (case side2 => exact HC0.out); rintro e w10 ⟨rfl, hb⟩; refine ⟨_, rfl, ?_⟩; replace BK602 := aM_ (blk_below (g := gb602) (kR_ BK602) hb); replace HB := aM_ (below_step hB_ hb); (try clear hb)))
  go_meet
  case rel => exact ⟨_, (true), z14_2_, H', ⟨oR_⟩, ⟨kP_⟩, ⟨hB_⟩⟩
 case rest =>
  clear HC2
  obtain ⟨kq, x15_1, rfl, HA, HJ1, BK602, HB⟩ := hcut
  cases kq with
  | zero => exact absurd HA.out (by simp [impl_LongestGap.j0])
  | succ kj1 =>
   have H := HA.out
   clear HA
   simp only [impl_LongestGap.j0] at H
   by_cases c11 : x15_1 = true
   ·subst c11
    replace H := ip_ H rfl
    simp only [Option.some.injEq, Prod.mk.injEq] at H
    obtain ⟨rfl, rfl, rfl⟩ := H
    go_wp2
    go_ret3
    exact ⟨rT_, hB_⟩
   replace c11 := Bool.eq_false_iff.mpr c11
   subst c11
   replace H := in_ H (show ¬ (false = true) by decide)
   have H' := Aside0.mk H
   clear H
   have hz12 := cf1_ BK602.out
   go_wp2
   go_loopg [5, 20] kj1 (fun kq v5 v20 w' => ∃ (x5_2 : Int) (x20_2 : Int), v5 = .int .i64 x5_2 ∧ v20 = .int .i64 x20_2 ∧ Aside0 (impl_LongestGap.l0 kq x5_2 (wrap64 ((l0.length : Int) - 1)) x20_2 l0 = some (r1, r2, r3)) ∧ Aside0 (kq ≤ kj1) ∧ Aside0 (w'.heap[gb602]? = some (.cells #[(.slice A0 l0.length c0)] 23 (0, 0))) ∧ Aside0 (Below w.heap.size w w'))
   case atStart => exact ⟨(0), (0), z14_2_, z14_2_, H', ⟨Nat.le_refl _⟩, ⟨kP_⟩, ⟨hB_⟩⟩
   case round =>
    clear H'
    (try clear c11);(try clear hcz12_0);(try clear hfz12_0)
    obtain ⟨x5_2, x20_2, rfl, rfl, HA, HK2, BK602, HB⟩ := hrel
    cases gk with
    | zero => exact absurd HA.out (by simp [impl_LongestGap.l0])
    | succ k2 =>
     have H := HA.out
     clear HA
     simp only [impl_LongestGap.l0] at H
     replace H := iF_ H; obtain ⟨c13b0, H⟩ | ⟨c13b0, H⟩ := H
     ·replace H := ob_ H; obtain ⟨t604, A20, H⟩ := H; try dsimp only at H
      simp only [Option.some.injEq, Prod.mk.injEq] at H
      obtain ⟨rfl, rfl, rfl⟩ := H
      go_wp2_with (first | ((with_reducible refine gate_via (t := 33) rfl ?_); refine goesV_ (some 35) rfl rfl Try.func49 (by kernel_rfl) rfl #[.int .i64 x5_2, .pointer (some ⟨gb602, 0, none⟩)] rfl rfl z14_3_ ?_; (with_reducible refine (impl_LongestGap_1.calls x5_2 gb602 A0 c0 l0 t604 _ ?side1 ?side2 ?side3 A20.out).mono ?_); (case side1 => exact z14_0_); (case side2 => exact HC0.out); (case side3 => (with_reducible repeat (first | apply kN_ | apply kD_ | apply kA_)); exact BK602.out); rintro e w21 ⟨rfl, hb⟩; refine ⟨_, rfl, ?_⟩; replace BK602 := aM_ (blk_below (g := gb602) (kR_ BK602) hb); replace HB := aM_ (below_step hB_ hb); (try clear hb)))
      go_ret3
      exact ⟨rT_, hB_⟩
     replace H := ob_ H; obtain ⟨t605, A14, H⟩ := H; try dsimp only at H
     replace H := ob_ H; obtain ⟨t606, A15, H⟩ := H; try dsimp only at H
     have HC16 := Aside0.mk H
     clear H
     go_upto_if 29 with (first | ((with_reducible refine gate_via (t := 23) rfl ?_); refine goesV_ (some 25) rfl rfl Try.func49 (by kernel_rfl) rfl #[.int .i64 x20_2, .pointer (some ⟨gb602, 0, none⟩)] rfl rfl z14_3_ ?_; (with_reducible refine (impl_LongestGap_1.calls x20_2 gb602 A0 c0 l0 t605 _ ?side1 ?side2 ?side3 A14.out).mono ?_); (case side1 => exact z14_0_); (case side2 => exact HC0.out); (case side3 => (with_reducible repeat (first | apply kN_ | apply kD_ | apply kA_)); exact BK602.out); rintro e w17 ⟨rfl, hb⟩; refine ⟨_, rfl, ?_⟩; replace BK602 := aM_ (blk_below (g := gb602) (kR_ BK602) hb); replace HB := aM_ (below_step hB_ hb); (try clear hb)) | ((with_reducible refine gate_via (t := 26) rfl ?_); refine goesV_ (some 28) rfl rfl Try.func49 (by kernel_rfl) rfl #[.int .i64 x5_2, .pointer (some ⟨gb602, 0, none⟩)] rfl rfl z14_3_ ?_; (with_reducible refine (impl_LongestGap_1.calls x5_2 gb602 A0 c0 l0 t606 _ ?side1 ?side2 ?side3 A15.out).mono ?_); (case side1 => exact z14_0_); (case side2 => exact HC0.out); (case side3 => (with_reducible repeat (first | apply kN_ | apply kD_ | apply kA_)); exact BK602.out); rintro e w18 ⟨rfl, hb⟩; refine ⟨_, rfl, ?_⟩; replace BK602 := aM_ (blk_below (g := gb602) (kR_ BK602) hb); replace HB := aM_ (below_step hB_ hb); (try clear hb)))
     (try simp only [Act.put, List.setIfInBounds_toArray, List.set_cons_zero, List.set_cons_succ])
     have H := HC16.out
     clear HC16
     by_cases c19 : t605 > t606
     ·rw [if_pos c19] at H
      have c19b0 : decide (t606 < t605) = true := decide_eq_true c19
      clear c19
      (first | rw [c19b0] | (simp only [i64_w, i32_w]; rw [c19b0]) | skip)
      have H' := Aside0.mk H
      clear H
      go_wp2
      go_roundg k2
      case measure => have := HJ1.out; have := HK2.out; omega
      case rel => exact ⟨(x20_2), (wrap64 (x20_2 + 1)), z14_2_, z14_2_, H', ⟨z14_4_⟩, ⟨kP_⟩, ⟨hB_⟩⟩
     rw [if_neg c19] at H
     have c19b0 : decide (t606 < t605) = false := decide_eq_false c19
     clear c19
     (first | rw [c19b0] | (simp only [i64_w, i32_w]; rw [c19b0]) | skip)
     have H' := Aside0.mk H
     clear H
     go_wp2
     go_roundg k2
     case measure => have := HJ1.out; have := HK2.out; omega
     case rel => exact ⟨(x5_2), (wrap64 (x20_2 + 1)), z14_2_, z14_2_, H', ⟨z14_4_⟩, ⟨kP_⟩, ⟨hB_⟩⟩

/-! ### spec_LongestGap: function 18 -/
theorem spec_LongestGap.calls (k : Nat) (A0 : Option Addr) (c0 : Nat) (l0 : List (S50)) (r1 : Int) (r2 : Int) (r3 : Bool) (w : World) (hr0 : Kd.C k50 w A0 l0.length l0) (hc0 : l0.length ≤ c0) (h : spec_LongestGap.f k l0 = some (r1, r2, r3)) :
 Calls Try.prog 18 #[.slice A0 l0.length c0] w fun e w' => e = .returned (.tuple #[.int .i64 r1, .int .i64 r2, .bool r3]) ∧ Below w.heap.size w w' := by
 have HR0 := Aside0.mk hr0
 have HC0 := Aside0.mk hc0
 clear hr0 hc0
 have HB := Aside0.mk (Below.refl w.heap.size w)
 have H : ((spec_tiGood.f k l0).bind fun t607 => (if t607 = true then (spec_LongestGap.j0 k l0 (decide ((l0.length : Int) < 2))) else (spec_LongestGap.j0 k l0 true))) = some (r1, r2, r3) := h
 clear h
 have HC2 := Aside0.mk H
 clear H
 go_enter Try.func18, Try.ntmps18
 go_upto_region 1 with (fail)
 repeat (go_quiet (fail); go_upto_region 1 with (fail))
 go_cut [16] (fun v16 wc => ∃ (kq : Nat) (x16_1 : Bool), v16 = .bool x16_1 ∧ Aside0 (spec_LongestGap.j0 kq l0 x16_1 = some (r1, r2, r3)) ∧ Aside0 (kq ≤ k) ∧ Aside0 (Below w.heap.size w wc))
 case first =>
  have H := HC2.out
  clear HC2
  replace H := ob_ H; obtain ⟨t607, A3, H⟩ := H; try dsimp only at H
  by_cases c4 : t607 = true
  ·subst c4
   replace H := ip_ H rfl
   have H' := Aside0.mk H
   clear H
   go_wp2_with (first | (go_at_call 31; (with_reducible refine (spec_tiGood.calls k _ _ l0 true _ ?side1 ?side2 A3.out).mono ?_); (case side1 => exact z14_0_); (case side2 => exact HC0.out); rintro e w5 ⟨rfl, hb⟩; replace HB := aM_ (below_step hB_ hb); (try clear hb)) | (go_quiet (fail)))
   go_meet
   case rel => exact ⟨_, (decide ((l0.length : Int) < 2)), z14_2_, H', ⟨oR_⟩, ⟨hB_⟩⟩
  replace c4 := Bool.eq_false_iff.mpr c4
  subst c4
  replace H := in_ H (show ¬ (false = true) by decide)
  have H' := Aside0.mk H
  clear H
  go_wp2_with (first | (go_at_call 31; (with_reducible refine (spec_tiGood.calls k _ _ l0 false _ ?side1 ?side2 A3.out).mono ?_); (case side1 => exact z14_0_); (case side2 => exact HC0.out); rintro e w6 ⟨rfl, hb⟩; replace HB := aM_ (below_step hB_ hb); (try clear hb)) | (go_quiet (fail)))
  go_meet
  case rel => exact ⟨_, (true), z14_2_, H', ⟨oR_⟩, ⟨hB_⟩⟩
 case rest =>
  clear HC2
  obtain ⟨kq, x16_1, rfl, HA, HJ1, HB⟩ := hcut
  cases kq with
  | zero => exact absurd HA.out (by simp [spec_LongestGap.j0])
  | succ kj1 =>
   have H := HA.out
   clear HA
   simp only [spec_LongestGap.j0] at H
   by_cases c7 : x16_1 = true
   ·subst c7
    replace H := ip_ H rfl
    simp only [Option.some.injEq, Prod.mk.injEq] at H
    obtain ⟨rfl, rfl, rfl⟩ := H
    go_wp2
    repeat (go_quiet (fail); try go_wp2)
    go_ret3
    exact ⟨rT_, hB_⟩
   replace c7 := Bool.eq_false_iff.mpr c7
   subst c7
   replace H := in_ H (show ¬ (false = true) by decide)
   have H' := Aside0.mk H
   clear H
   go_wp2
   repeat (go_quiet (fail); try go_wp2)
   go_loopg [5, 6, 7] kj1 (fun kq v5 v6 v7 w' => ∃ (x5_2 : Int) (x6_2 : Int) (x7_2 : Int), v5 = .int .i64 x5_2 ∧ v6 = .int .i64 x6_2 ∧ v7 = .int .i64 x7_2 ∧ Aside0 (spec_LongestGap.l0 kq l0 x5_2 x6_2 x7_2 = some (r1, r2, r3)) ∧ Aside0 (kq ≤ kj1) ∧ Aside0 (Below w.heap.size w w'))
   case atStart => exact ⟨(0), ((-1)), (0), z14_2_, z14_2_, z14_2_, H', ⟨Nat.le_refl _⟩, ⟨hB_⟩⟩
   case round =>
    clear H'
    (try clear c7)
    obtain ⟨x5_2, x6_2, x7_2, rfl, rfl, rfl, HA, HK2, HB⟩ := hrel
    cases gk with
    | zero => exact absurd HA.out (by simp [spec_LongestGap.l0])
    | succ k2 =>
     have H := HA.out
     clear HA
     simp only [spec_LongestGap.l0] at H
     replace H := iF_ H; obtain ⟨c8b0, H⟩ | ⟨c8b0, H⟩ := H
     ·simp only [Option.some.injEq, Prod.mk.injEq] at H
      obtain ⟨rfl, rfl, rfl⟩ := H
      go_wp2
      repeat (go_quiet (fail); try go_wp2)
      go_ret3
      exact ⟨rT_, hB_⟩
     obtain ⟨ji9, hji9⟩ : ∃ j_ : Int, (wrap64 (x7_2 + 1)) = j_ := ⟨_, rfl⟩
     replace H : (if 0 ≤ (ji9) then (if 0 ≤ x7_2 then (if x7_2 < (l0.length : Int) then (if (wrap64 (((rd_T50 l0 (ji9)).f0) - ((rd_T50 l0 x7_2).f1))) > x6_2 then (spec_LongestGap.l0 k2 l0 x7_2 (wrap64 (((rd_T50 l0 (ji9)).f0) - ((rd_T50 l0 x7_2).f1))) ji9) else (spec_LongestGap.l0 k2 l0 x5_2 x6_2 ji9)) else (none)) else (none)) else (none)) = some (r1, r2, r3) := by first | (rw [hji9] at H; exact H) | (simp only [hji9] at H ⊢; exact H)
     (try rw [hji9] at c8b0)
     have hji9w : (IntKind.i64.wrap (x7_2 + 1)) = ji9 := (i64_w _).trans hji9
     replace H := ig_ H; obtain ⟨c10b0, H⟩ := H
     replace H := ig_ H; obtain ⟨c11b0, H⟩ := H
     replace H := ig_ H; obtain ⟨c12b0, H⟩ := H
     by_cases c13 : (wrap64 (((rd_T50 l0 (ji9)).f0) - ((rd_T50 l0 x7_2).f1))) > x6_2
     rotate_left
     ·rw [if_neg c13] at H
      have c13b0 : decide (x6_2 < (wrap64 (((rd_T50 l0 (ji9)).f0) - ((rd_T50 l0 x7_2).f1)))) = false := decide_eq_false c13
      clear c13
      have H' := Aside0.mk H
      clear H
      have p608 : 0 ≤ ((ji9) : Int) := ode_
      have q608 : (ji9) < (l0.length : Int) := ode_
      obtain ⟨ad608, e608, hx608_0, hx608_1, hx608_2⟩ := at_T50 HR0.out (ji9) p608 q608
      cases e608
      replace hx608_0 := hc_ HB hx608_0
      replace hx608_1 := hc_ HB hx608_1
      replace hx608_2 := hc_ HB hx608_2
      replace p608 := eq_true p608
      replace q608 := eq_true q608
      have p609 : 0 ≤ (x7_2 : Int) := ode_
      have q609 : x7_2 < (l0.length : Int) := ode_
      obtain ⟨ad609, e609, hx609_0, hx609_1, hx609_2⟩ := at_T50 HR0.out x7_2 p609 q609
      obtain rfl : ad608 = ad609 := (by injection e609)
      replace hx609_0 := hc_ HB hx609_0
      replace hx609_1 := hc_ HB hx609_1
      replace hx609_2 := hc_ HB hx609_2
      replace p609 := eq_true p609
      replace q609 := eq_true q609
      go_wp2
      repeat (go_quiet (fail); try go_wp2)
      go_roundg k2
      case measure => have := HJ1.out; have := HK2.out; omega
      case rel => exact ⟨(x5_2), (x6_2), (ji9), z14_2_, z14_2_, z14_5_, H', ⟨z14_4_⟩, ⟨hB_⟩⟩
     rw [if_pos c13] at H
     have c13b0 : decide (x6_2 < (wrap64 (((rd_T50 l0 (ji9)).f0) - ((rd_T50 l0 x7_2).f1)))) = true := decide_eq_true c13
     clear c13
     have H' := Aside0.mk H
     clear H
     have p608 : 0 ≤ ((ji9) : Int) := ode_
     have q608 : (ji9) < (l0.length : Int) := ode_
     obtain ⟨ad608, e608, hx608_0, hx608_1, hx608_2⟩ := at_T50 HR0.out (ji9) p608 q608
     cases e608
     replace hx608_0 := hc_ HB hx608_0
     replace hx608_1 := hc_ HB hx608_1
     replace hx608_2 := hc_ HB hx608_2
     replace p608 := eq_true p608
     replace q608 := eq_true q608
     have p609 : 0 ≤ (x7_2 : Int) := ode_
     have q609 : x7_2 < (l0.length : Int) := ode_
     obtain ⟨ad609, e609, hx609_0, hx609_1, hx609_2⟩ := at_T50 HR0.out x7_2 p609 q609
     obtain rfl : ad608 = ad609 := (by injection e609)
     replace hx609_0 := hc_ HB hx609_0
     replace hx609_1 := hc_ HB hx609_1
     replace hx609_2 := hc_ HB hx609_2
     replace p609 := eq_true p609
     replace q609 := eq_true q609
     go_wp2
     repeat (go_quiet (fail); try go_wp2)
     go_roundg k2
     case measure => have := HJ1.out; have := HK2.out; omega
     case rel => exact ⟨(x7_2), (wrap64 (((rd_T50 l0 (ji9)).f0) - ((rd_T50 l0 x7_2).f1))), (ji9), z14_2_, z14_5_, z14_5_, H', ⟨z14_4_⟩, ⟨hB_⟩⟩

/-! ### laws_qTexts: function 19 -/
theorem laws_qTexts.calls (k : Nat) (A0 : Option Addr) (c0 : Nat) (l0 : List ByteArray) (A1 : Option Addr) (c1 : Nat) (l1 : List ByteArray) (r : Bool) (w : World) (hr0 : Kd.C Kd.string w A0 l0.length l0) (hc0 : l0.length ≤ c0) (hr1 : Kd.C Kd.string w A1 l1.length l1) (hc1 : l1.length ≤ c1) (h : laws_qTexts.f k l0 l1 = some r) :
 Calls Try.prog 19 #[.slice A0 l0.length c0, .slice A1 l1.length c1] w fun e w' => e = .returned (.bool r) ∧ Drawn0 w w' := by
 have HR0 := Aside0.mk hr0
 have HC0 := Aside0.mk hc0
 clear hr0 hc0
 have HR1 := Aside0.mk hr1
 have HC1 := Aside0.mk hc1
 clear hr1 hc1
 have H : (if (l0.length : Int) = (l1.length : Int) then (laws_qTexts.l0 k l0 l1 (l0.length : Int) 0) else (some false)) = some r := h
 clear h
 by_cases c3 : (l0.length : Int) = (l1.length : Int)
 rotate_left
 ·rw [if_neg c3] at H
  have c3b0 : ((l0.length : Int) == (l1.length : Int)) = false := beq_eq_false_iff_ne.mpr c3
  have c3b1 : ((l0.length : Int) != (l1.length : Int)) = true := bne_iff_ne.mpr c3
  have c3b2 : (l0.length == l1.length) = false := by first | simpa using c3 | (simp at c3 ⊢; omega)
  obtain rfl := Option.some.inj H
  go_enter Try.func19, Try.ntmps19
  go_wp2
  repeat (go_quiet (fail); try go_wp2)
  go_ret
  exact ⟨z14_2_, z14_6_⟩
 rw [if_pos c3] at H
 have c3b0 : ((l0.length : Int) == (l1.length : Int)) = true := beq_iff_eq.mpr c3
 have c3b1 : ((l0.length : Int) != (l1.length : Int)) = false := bne_eq_false_iff_eq.mpr c3
 have c3b2 : (l0.length == l1.length) = true := by first | simpa using c3 | (simp at c3 ⊢; omega)
 clear c3
 have H' := Aside0.mk H
 clear H
 go_enter Try.func19, Try.ntmps19
 go_wp2
 repeat (go_quiet (fail); try go_wp2)
 go_loopg [13] k (fun kq v13 w' => ∃ (x13_1 : Int), v13 = .int .i64 x13_1 ∧ Aside0 (laws_qTexts.l0 kq l0 l1 (l0.length : Int) x13_1 = some r) ∧ Aside0 (kq ≤ k) ∧ Drawn0 w w')
 case atStart => exact ⟨(0), z14_2_, H', ⟨Nat.le_refl _⟩, z14_6_⟩
 case round =>
  clear H'
  (try clear c1);(try clear c3);(try clear c3b0);(try clear c3b1);(try clear c3b2)
  obtain ⟨x13_1, rfl, HA, HK1, ⟨m1, rfl⟩⟩ := hrel
  cases gk with
  | zero => exact absurd HA.out (by simp [laws_qTexts.l0])
  | succ k1 =>
   have H := HA.out
   clear HA
   simp only [laws_qTexts.l0] at H
   replace H := iF_ H; obtain ⟨c4b0, H⟩ | ⟨c4b0, H⟩ := H
   ·obtain rfl := Option.some.inj H
    go_wp2
    repeat (go_quiet (fail); try go_wp2)
    go_ret
    exact ⟨z14_2_, z14_6_⟩
   replace H := ig_ H; obtain ⟨c5b0, H⟩ := H
   replace H := ig_ H; obtain ⟨c6b0, H⟩ := H
   replace H := ig_ H; obtain ⟨c7b0, H⟩ := H
   by_cases c8 : (rdOf ByteArray.empty l0 x13_1).toList = (rdOf ByteArray.empty l1 x13_1).toList
   rotate_left
   ·rw [if_neg c8] at H
    have c8b0 : ((rdOf ByteArray.empty l0 x13_1).toList == (rdOf ByteArray.empty l1 x13_1).toList) = false := beq_eq_false_iff_ne.mpr c8
    have c8b1 : ((rdOf ByteArray.empty l0 x13_1).toList != (rdOf ByteArray.empty l1 x13_1).toList) = true := bne_iff_ne.mpr c8
    obtain rfl := Option.some.inj H
    obtain ⟨⟨ad610, e610, hx610_0⟩, p610, q610⟩ := at2_ (Kd.at_string HR0.out x13_1); cases e610
    obtain ⟨⟨ad611, e611, hx611_0⟩, p611, q611⟩ := at2_ (Kd.at_string HR1.out x13_1); cases e611
    go_wp2
    repeat (go_quiet (fail); try go_wp2)
    go_ret
    exact ⟨z14_2_, z14_6_⟩
   rw [if_pos c8] at H
   have c8b0 : ((rdOf ByteArray.empty l0 x13_1).toList == (rdOf ByteArray.empty l1 x13_1).toList) = true := beq_iff_eq.mpr c8
   have c8b1 : ((rdOf ByteArray.empty l0 x13_1).toList != (rdOf ByteArray.empty l1 x13_1).toList) = false := bne_eq_false_iff_eq.mpr c8
   clear c8
   have H' := Aside0.mk H
   clear H
   obtain ⟨⟨ad610, e610, hx610_0⟩, p610, q610⟩ := at2_ (Kd.at_string HR0.out x13_1); cases e610
   obtain ⟨⟨ad611, e611, hx611_0⟩, p611, q611⟩ := at2_ (Kd.at_string HR1.out x13_1); cases e611
   go_wp2
   repeat (go_quiet (fail); try go_wp2)
   go_roundg k1
   case measure => have := HK1.out; omega
   case rel => exact ⟨(wrap64 (x13_1 + 1)), z14_2_, H', ⟨by have := HK1.out; omega⟩, z14_6_⟩

end Go.Proofs.Ytbfkpgmdbafmhaa.PFnTierCounts
