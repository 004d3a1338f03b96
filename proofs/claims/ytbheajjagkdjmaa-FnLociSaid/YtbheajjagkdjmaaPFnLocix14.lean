/- Printed for this claim: functions of the program as Lean functions, and that the calls answer so. -/
import Derived.Test.YtbheajjagkdjmaaPFnLocix0
import Derived.Test.YtbheajjagkdjmaaPFnLocix6
import Derived.Test.YtbheajjagkdjmaaPFnLocix7
import Derived.Test.YtbheajjagkdjmaaPFnLocix8
import Derived.Test.YtbheajjagkdjmaaPFnLocix9
import Derived.Test.YtbheajjagkdjmaaPFnLocix10
import Derived.Test.YtbheajjagkdjmaaPFnLocix11
import Derived.Test.YtbheajjagkdjmaaPFnLocix12
import Derived.Test.YtbheajjagkdjmaaPFnLocix13
import Derived.Test.YtbheajjagkdjmaaPFnLocixD0
namespace Go.Proofs.Ytbheajjagkdjmaa.PFnLoci
open Go.RowKit Go.Proofs.YtbheajjagkdjmaaW.PrintWords Go.Proofs.YtbheajjagkdjmaaW.PrintLast Go.Proofs.YtbheajjagkdjmaaW.PrintMore
attribute [local go_sem] max2_int min2_int max_two min_two max_three min_three max_four min_four isSome_setCell   -- for this text's walks alone
set_option linter.unusedVariables false
set_option linter.unusedSimpArgs false

theorem y14_0_ {p : Prop} (h : p := by (with_reducible repeat (first | apply rA_ | apply rN_ | apply rD_)); exact HO499.out) : p := h
theorem y14_1_ {p : Prop} (h : p := by (with_reducible repeat (first | apply rA_ | apply rN_ | apply rD_)); exact HO503.out) : p := h
theorem y14_2_ {p : Prop} (h : p := by first | rfl | (simp; done) | (simp [*]; done)) : p := h
theorem y14_3_ {p : Prop} (h : p := by (with_reducible repeat (first | apply rA_ | apply rN_ | apply rD_)); exact Kd.R_mono HO503.out (fun _ hk => hk.2)) : p := h
theorem y14_4_ {p : Prop} (h : p := by (with_reducible repeat (first | apply rA_ | apply rN_ | apply rD_)); exact Kd.R_mono HO507.out (fun _ hk => hk.2)) : p := h
theorem y14_5_ {p : Prop} (h : p := by (with_reducible repeat (first | apply rA_ | apply rN_ | apply rD_)); exact HO_8.out) : p := h
theorem y14_6_ {p : Prop} (h : p := by (with_reducible repeat (first | apply rA_ | apply rN_ | apply rD_)); exact HO_10.out) : p := h
theorem y14_7_ {p : Prop} (h : p := by (with_reducible repeat (first | apply rA_ | apply rN_ | apply rD_)); exact HO514.out) : p := h
theorem y14_8_ {p : Prop} (h : p := by (with_reducible repeat (first | apply rA_ | apply rN_ | apply rD_)); exact HO518.out) : p := h
theorem y14_9_ {p : Prop} (h : p := by (with_reducible repeat (first | apply rA_ | apply rN_ | apply rD_)); exact HO524.out) : p := h
theorem y14_10_ {p : Prop} (h : p := by (with_reducible repeat (first | apply rA_ | apply rN_ | apply rD_)); exact HO_18.out) : p := h
theorem y14_11_ {p : Prop} (h : p := by (with_reducible repeat (first | apply rA_ | apply rN_ | apply rD_)); exact HO_159.out) : p := h
theorem y14_12_ {p : Prop} (h : p := by have := HJ7.out; have := HJ17.out; have := HJ84.out; have := HK4.out; omega) : p := h
theorem y14_13_ {p : Prop} (h : p := by (with_reducible repeat (first | apply rA_ | apply rN_ | apply rD_)); exact Kd.R_mono (Kd.R_far (p := ⟨gb530, 1, none⟩) (Kd.R_far (p := ⟨gb530, 0, none⟩) (Kd.R_mono HO_18.out (fun k_ hk => (⟨hk, hk.2⟩ : _ ∧ k_ ≠ gb530))) (fun _ hk => hk.2) (.string ((rd_T55 t521 x161_4).f0))) (fun _ hk => hk.2) (.int .i64 ((rd_T55 t521 x161_4).f1))) (fun _ hk => trivial)) : p := h
theorem y14_14_ {p : Prop} (h : p := by (with_reducible repeat (first | apply rA_ | apply rN_ | apply rD_)); exact Kd.R_mono (Kd.R_far (p := ⟨gb530, 1, none⟩) (Kd.R_far (p := ⟨gb530, 0, none⟩) (Kd.R_mono HO_159.out (fun k_ hk => (⟨hk, hk.2⟩ : _ ∧ k_ ≠ gb530))) (fun _ hk => hk.2) (.string ((rd_T55 t521 x161_4).f0))) (fun _ hk => hk.2) (.int .i64 ((rd_T55 t521 x161_4).f1))) (fun _ hk => trivial)) : p := h
theorem y14_15_ {p : Prop} (h : p := by have := HJ7.out; have := HJ17.out; have := HJ84.out; have := HK4.out; first | omega | exact Nat.le_refl _) : p := h
theorem y14_16_ {p : Prop} (h : p := by (with_reducible repeat (first | apply rA_ | apply rN_ | apply rD_)); exact HO_181.out) : p := h
theorem y14_17_ {p : Prop} (h : p := by have := HJ7.out; have := HJ17.out; have := HJ84.out; have := HK4.out; have := HJ102.out; have := HK6.out; omega) : p := h
theorem y14_18_ {p : Prop} (h : p := by (with_reducible repeat (first | apply rA_ | apply rN_ | apply rD_)); exact Kd.R_mono (Kd.R_far (p := ⟨gb533, 1, none⟩) (Kd.R_far (p := ⟨gb533, 0, none⟩) (Kd.R_mono HO_181.out (fun k_ hk => (⟨hk, hk.2⟩ : _ ∧ k_ ≠ gb533))) (fun _ hk => hk.2) (.string ((rd_T55 t521 x183_6).f0))) (fun _ hk => hk.2) (.int .i64 ((rd_T55 t521 x183_6).f1))) (fun _ hk => trivial)) : p := h
theorem y14_19_ {p : Prop} (h : p := by (with_reducible repeat (first | apply rA_ | apply rN_ | apply rD_)); exact HO538.out) : p := h
theorem y14_20_ {p : Prop} (h : p := by (with_reducible repeat (first | apply rA_ | apply rN_ | apply rD_)); exact HO542.out) : p := h
theorem y14_21_ {p : Prop} (h : p := by (with_reducible repeat (first | apply rA_ | apply rN_ | apply rD_)); exact HO546.out) : p := h
theorem y14_22_ {p : Prop} (h : p := by have := HJ7.out; have := HJ17.out; have := HJ84.out; have := HJ91.out; first | omega | exact Nat.le_refl _) : p := h
theorem y14_23_ {p : Prop} (h : p := by (with_reducible repeat (first | apply rA_ | apply rN_ | apply rD_)); exact Kd.R_mono HO538.out (fun _ hk => ⟨hk.1.2, hk.2⟩)) : p := h
theorem y14_24_ {p : Prop} (h : p := by (with_reducible repeat (first | apply rA_ | apply rN_ | apply rD_)); exact Kd.R_mono HO542.out (fun _ hk => ⟨hk.1.2, hk.2⟩)) : p := h
theorem y14_25_ {p : Prop} (h : p := by (with_reducible repeat (first | apply rA_ | apply rN_ | apply rD_)); exact Kd.R_mono HO546.out (fun _ hk => ⟨hk.1.2, hk.2⟩)) : p := h
theorem y14_26_ {p : Prop} (h : p := by have := HJ7.out; have := HJ17.out; have := HJ84.out; have := HJ91.out; have := HJ122.out; first | omega | exact Nat.le_refl _) : p := h
theorem y14_27_ {p : Prop} (h : p := by (with_reducible repeat (first | apply rA_ | apply rN_ | apply rD_)); exact Kd.R_mono HO_29.out (fun _ hk => trivial)) : p := h
theorem y14_28_ {p : Prop} (h : p := by (with_reducible repeat (first | apply rA_ | apply rN_ | apply rD_)); exact HO_29.out) : p := h
theorem y14_29_ {p : Prop} (h : p := by (with_reducible repeat (first | apply rA_ | apply rN_ | apply rD_)); exact HO_31.out) : p := h
theorem y14_30_ {p : Prop} (h : p := by (with_reducible repeat (first | apply rA_ | apply rN_ | apply rD_)); exact HO_33.out) : p := h
theorem y14_31_ {p : Prop} (h : p := by (with_reducible repeat (first | apply rA_ | apply rN_ | apply rD_)); exact HO_281.out) : p := h
theorem y14_32_ {p : Prop} (h : p := by have := HJ7.out; have := HJ17.out; have := HJ84.out; have := HJ91.out; have := HJ122.out; have := HJ143.out; have := HK7.out; omega) : p := h
theorem y14_33_ {p : Prop} (h : p := by (with_reducible repeat (first | apply rA_ | apply rN_ | apply rD_)); exact Kd.R_mono (Kd.R_far (p := ⟨gb558, 1, none⟩) (Kd.R_far (p := ⟨gb558, 0, none⟩) (Kd.R_mono HO_29.out (fun k_ hk => (⟨hk, hk.2⟩ : _ ∧ k_ ≠ gb558))) (fun _ hk => hk.2) (.string ((rd_T55 t535 x283_7).f0))) (fun _ hk => hk.2) (.int .i64 ((rd_T55 t535 x283_7).f1))) (fun _ hk => trivial)) : p := h
theorem y14_34_ {p : Prop} (h : p := by (with_reducible repeat (first | apply rA_ | apply rN_ | apply rD_)); exact Kd.R_mono (Kd.R_far (p := ⟨gb558, 1, none⟩) (Kd.R_far (p := ⟨gb558, 0, none⟩) (Kd.R_mono HO_281.out (fun k_ hk => (⟨hk, hk.2⟩ : _ ∧ k_ ≠ gb558))) (fun _ hk => hk.2) (.string ((rd_T55 t535 x283_7).f0))) (fun _ hk => hk.2) (.int .i64 ((rd_T55 t535 x283_7).f1))) (fun _ hk => trivial)) : p := h
theorem y14_35_ {p : Prop} (h : p := by (with_reducible repeat (first | apply rA_ | apply rN_ | apply rD_)); exact HO_294.out) : p := h
theorem y14_36_ {p : Prop} (h : p := by have := HJ7.out; have := HJ17.out; have := HJ84.out; have := HJ91.out; have := HJ122.out; have := HJ143.out; have := HK7.out; have := HK8.out; omega) : p := h
theorem y14_37_ {p : Prop} (h : p := by (with_reducible repeat (first | apply rA_ | apply rN_ | apply rD_)); exact Kd.R_mono (Kd.R_far (p := ⟨gb560, 1, none⟩) (Kd.R_far (p := ⟨gb560, 0, none⟩) (Kd.R_mono HO_294.out (fun k_ hk => (⟨hk, hk.2⟩ : _ ∧ k_ ≠ gb560))) (fun _ hk => hk.2) (.string ((rd_T55 t535 x296_8).f0))) (fun _ hk => hk.2) (.int .i64 ((rd_T55 t535 x296_8).f1))) (fun _ hk => trivial)) : p := h
/-! ### laws_FnLoci: function 6 -/
set_option maxHeartbeats 8000000 in
set_option maxRecDepth 100000 in
theorem laws_FnLoci.calls (k : Nat) (A0 : Option Addr) (c0 : Nat) (l0 : List Int) (A1 : Option Addr) (c1 : Nat) (l1 : List Int) (r : Bool) (w : World) (hr0 : Kd.C (Kd.int .u8) w A0 l0.length l0) (hc0 : l0.length ≤ c0) (hr1 : Kd.C (Kd.int .u8) w A1 l1.length l1) (hc1 : l1.length ≤ c1) (h : laws_FnLoci.f k l0 l1 = some r) :
 Calls Try.prog 6 #[.slice A0 l0.length c0, .slice A1 l1.length c1] w fun e w' => e = .returned (.bool r) ∧ Below w.heap.size w w' := by
 have hu55 := Try.underlying55
 have HR0 := Aside0.mk hr0
 have HC0 := Aside0.mk hc0
 clear hr0 hc0
 have HR1 := Aside0.mk hr1
 have HC1 := Aside0.mk hc1
 clear hr1 hc1
 have HB := Aside0.mk (Below.refl w.heap.size w)
 have H : ((laws_big.f l0 l1).bind fun t494 => (if t494 = true then (some true) else ((spec_DrawPutReferent.f k l0).bind fun bt495 => ((impl_PutReferent.f k bt495.1 bt495.2.1 bt495.2.2).bind fun bt500 => ((spec_PutReferent.f k bt495.1 bt495.2.1 bt495.2.2).bind fun bt504 => (if (bt500.2 != bt504.2) = true then (laws_FnLoci.j0 k l1 bt495.2.1 bt495.2.2 bt500.1 bt500.2 bt504.1 true) else ((laws_pSameLoci.f k bt500.1 bt504.1).bind fun t508 => (laws_FnLoci.j0 k l1 bt495.2.1 bt495.2.2 bt500.1 bt500.2 bt504.1 (!t508))))))))) = some r := h
 clear h
 replace H := Option.bind_eq_some_iff.mp H
 obtain ⟨t494, A30, H⟩ := H
 try dsimp only at H
 have A3 := Aside0.mk A30
 clear A30
 by_cases c4 : t494 = true
 ·subst c4
  replace H := ip_ H rfl
  as_aux_lemma =>
   obtain rfl := Option.some.inj H
   go_enter Try.func6, Try.ntmps6
   go_wp2_with (first | ((with_reducible refine gate_callee (f := 25) rfl ?_); refine goesM_ (some 50) Try.func25 #[.slice A0 l0.length c0, .slice A1 l1.length c1] ?_; (with_reducible refine (laws_big.calls _ _ l0 _ _ l1 true _ ?side1 ?side2 ?side3 ?side4 A3.out).mono ?_); (case side1 => repeat (first | exact HR0.out | (with_reducible first | apply cA_ | apply cN_ | apply cD_))); (case side2 => exact HC0.out); (case side3 => repeat (first | exact HR1.out | (with_reducible first | apply cA_ | apply cN_ | apply cD_))); (case side4 => exact HC1.out); rintro e w' ⟨rfl, ⟨nd, rfl⟩⟩; refine ⟨_, rfl, ?_⟩))
   go_ret
   exact ⟨rT_, hB_⟩
 replace c4 := Bool.eq_false_iff.mpr c4
 subst c4
 replace H := in_ H (show ¬ (false = true) by decide)
 replace H := Option.bind_eq_some_iff.mp H
 obtain ⟨⟨t495, t496, t497⟩, A50, H⟩ := H
 try dsimp only at H
 have A5 := Aside0.mk A50
 clear A50
 replace H := Option.bind_eq_some_iff.mp H
 obtain ⟨⟨t500, t501⟩, A60, H⟩ := H
 try dsimp only at H
 have A6 := Aside0.mk A60
 clear A60
 replace H := Option.bind_eq_some_iff.mp H
 obtain ⟨⟨t504, t505⟩, A70, H⟩ := H
 try dsimp only at H
 have A7 := Aside0.mk A70
 clear A70
 have HC8 := Aside0.mk H
 clear H
 go_enter Try.func6, Try.ntmps6
 go_upto_region 6 with (first | ((with_reducible refine gate_callee (f := 25) rfl ?_); refine goesM_ (some 50) Try.func25 #[.slice A0 l0.length c0, .slice A1 l1.length c1] ?_; (with_reducible refine (laws_big.calls _ _ l0 _ _ l1 false _ ?side1 ?side2 ?side3 ?side4 A3.out).mono ?_); (case side1 => repeat (first | exact HR0.out | (with_reducible first | apply cA_ | apply cN_ | apply cD_))); (case side2 => exact HC0.out); (case side3 => repeat (first | exact HR1.out | (with_reducible first | apply cA_ | apply cN_ | apply cD_))); (case side4 => exact HC1.out); rintro e w' ⟨rfl, ⟨nd, rfl⟩⟩; refine ⟨_, rfl, ?_⟩) | ((with_reducible refine gate_callee (f := 26) rfl ?_); refine goesM_ (some 53) Try.func26 #[.slice A0 l0.length c0] ?_; (with_reducible refine (spec_DrawPutReferent.calls k _ _ l0 t495 t496 t497 _ ?side1 ?side2 A5.out).mono ?_); (case side1 => repeat (first | exact HR0.out | (with_reducible first | apply cA_ | apply cN_ | apply cD_))); (case side2 => exact HC0.out); rintro e w9 ⟨v498, rfl, ho0, hb⟩; refine ⟨_, rfl, ?_⟩; have HO499 := aM_ (Kd.R_lower ho0 (below_size hB_)); replace HB := aM_ (below_step hB_ hb); (try clear hb); (try clear ho0); obtain ⟨Ao10, co10, eo10⟩ := Kd.R_slice HO499.out; subst eo10) | ((with_reducible refine gate_callee (f := 10) rfl ?_); refine goesM_ (some 61) Try.func10 #[.slice Ao10 t495.length co10, .string t496, .int .i64 t497] ?_; (with_reducible refine (impl_PutReferent.calls k _ _ t495 t496 t497 t500 t501 _ ?side1 ?side2 A6.out).mono ?_); (case side1 => repeat (first | exact (Kd.R_reads' HO499.out).2.2 | (with_reducible first | apply cA_ | apply cN_ | apply cD_))); (case side2 => exact (Kd.R_reads' HO499.out).2.1); rintro e w11 ⟨v502, rfl, ho0, hb⟩; refine ⟨_, rfl, ?_⟩; have HO503 := aM_ (Kd.R_lower (Kd.R_new' ho0 (Kd.R_lt y14_0_)) (below_size hB_)); replace HO499 := aM_ (Kd.R_elder' y14_0_ (Kd.R_base ho0) hb); replace HB := aM_ (below_step hB_ hb); (try clear hb); (try clear ho0)) | ((with_reducible refine gate_callee (f := 8) rfl ?_); refine goesM_ (some 68) Try.func8 #[.slice Ao10 t495.length co10, .string t496, .int .i64 t497] ?_; (with_reducible refine (spec_PutReferent.calls k _ _ t495 t496 t497 t504 t505 _ ?side1 ?side2 A7.out).mono ?_); (case side1 => repeat (first | exact (Kd.R_reads' HO499.out).2.2 | (with_reducible first | apply cA_ | apply cN_ | apply cD_))); (case side2 => exact (Kd.R_reads' HO499.out).2.1); rintro e w12 ⟨v506, rfl, ho0, hb⟩; refine ⟨_, rfl, ?_⟩; have HO507 := aM_ (Kd.R_lower (Kd.R_new' (Kd.R_new' ho0 (Kd.R_lt y14_0_)) (Kd.R_lt y14_1_)) (below_size hB_)); replace HO499 := aM_ (Kd.R_elder' y14_0_ (Kd.R_base ho0) hb); replace HO503 := aM_ (Kd.R_elder' y14_1_ (Kd.R_base ho0) hb); replace HB := aM_ (below_step hB_ hb); (try clear hb); (try clear ho0)))
 (try simp only [Act.put, List.setIfInBounds_toArray, List.set_cons_zero, List.set_cons_succ])
 go_cut [79] (fun v79 wc => ∃ (kq : Nat) (x79_7 : Bool), v79 = .bool x79_7 ∧ Aside0 (laws_FnLoci.j0 kq l1 t496 t497 t500 t501 t504 x79_7 = some r) ∧ Aside0 (kq ≤ k) ∧ Aside0 (Kd.R k55 55 wc w.heap.size (fun k_ => some k_ ≠ (v506 : Value).ownBlock) v502 t500) ∧ Aside0 (Kd.R k55 55 wc w.heap.size (fun k_ => some k_ ≠ (v502 : Value).ownBlock) v506 t504) ∧ Aside0 (Below w.heap.size w wc))
 case first =>
  as_aux_lemma =>
   have H := HC8.out
   clear HC8
   by_cases c13 : (t501 != t505) = true
   ·rw [if_pos c13] at H
    have c13b0 : (t501 != t505) = true := c13
    (try (have c13b1 : decide (t501 = t505) = false := by simpa using c13))
    (try (have c13b2 : (t501 == t505) = false := by simpa using c13))
    (try (have c13b3 : ¬ (t501 = t505) := by simpa using c13))
    clear c13
    (first | rw [c13b0] | (simp only [i64_w, i32_w]; rw [c13b0]) | skip)
    as_aux_lemma =>
     have H' := Aside0.mk H
     clear H
     go_wp2
     go_meet
     case rel => exact ⟨_, (true), y14_2_, H', ⟨oR_⟩, ⟨y14_3_⟩, ⟨y14_4_⟩, ⟨hB_⟩⟩
   rw [if_neg c13] at H
   have c13b0 : (t501 != t505) = false := by simpa using c13
   (try (have c13b1 : decide (t501 = t505) = true := by simpa using c13))
   (try (have c13b2 : (t501 == t505) = true := by simpa using c13))
   clear c13
   (first | rw [c13b0] | (simp only [i64_w, i32_w]; rw [c13b0]) | skip)
   replace H := Option.bind_eq_some_iff.mp H
   obtain ⟨t508, A140, H⟩ := H
   try dsimp only at H
   have A14 := Aside0.mk A140
   clear A140
   as_aux_lemma =>
    have H' := Aside0.mk H
    clear H
    obtain ⟨Ao15, co15, eo15⟩ := Kd.R_slice HO503.out
    subst eo15
    obtain ⟨Ao16, co16, eo16⟩ := Kd.R_slice HO507.out
    subst eo16
    go_wp2_with (first | (go_at_call 27; (with_reducible refine (laws_pSameLoci.calls k _ _ t500 _ _ t504 t508 _ ?side1 ?side2 ?side3 ?side4 A14.out).mono ?_); (case side1 => repeat (first | exact (Kd.R_reads' HO503.out).2.2 | (with_reducible first | apply cA_ | apply cN_ | apply cD_))); (case side2 => exact (Kd.R_reads' HO503.out).2.1); (case side3 => repeat (first | exact (Kd.R_reads' HO507.out).2.2 | (with_reducible first | apply cA_ | apply cN_ | apply cD_))); (case side4 => exact (Kd.R_reads' HO507.out).2.1); rintro e w' ⟨rfl, ⟨nd, rfl⟩⟩))
    go_meet
    case rel => exact ⟨_, (!t508), y14_2_, H', ⟨oR_⟩, ⟨y14_3_⟩, ⟨y14_4_⟩, ⟨hB_⟩⟩
 case rest =>
  as_aux_lemma =>
   clear HC8
   (try clear c1);(try clear c4)
   obtain ⟨kq, x79_7, rfl, HA, HJ7, HO_8, HO_10, HB⟩ := hcut
   cases kq with
   | zero => exact absurd HA.out (by simp [laws_FnLoci.j0])
   | succ kj7 =>
    as_aux_lemma =>
     have H := HA.out
     clear HA
     simp only [laws_FnLoci.j0] at H
     by_cases c17 : x79_7 = true
     ·subst c17
      replace H := ip_ H rfl
      as_aux_lemma =>
       obtain rfl := Option.some.inj H
       go_wp2
       go_ret
       exact ⟨rT_, hB_⟩
     replace c17 := Bool.eq_false_iff.mpr c17
     subst c17
     replace H := in_ H (show ¬ (false = true) by decide)
     have HC18 := Aside0.mk H
     clear H
     go_upto_if 80 with (fail)
     go_cut [] (fun wc => ∃ (kq : Nat), Aside0 (laws_FnLoci.j1 kq l1 = some r) ∧ Aside0 (kq ≤ kj7) ∧ Aside0 (Below w.heap.size w wc))
     case first =>
      as_aux_lemma =>
       have H := HC18.out
       clear HC18
       by_cases c19 : t501 = true
       rotate_left
       ·replace c19 := Bool.eq_false_iff.mpr c19
        subst c19
        replace H := in_ H (show ¬ (false = true) by decide)
        as_aux_lemma =>
         have H' := Aside0.mk H
         clear H
         go_wp2
         go_meet
         case rel => exact ⟨_, H', ⟨by have := HJ7.out; first | omega | exact Nat.le_refl _⟩, ⟨hB_⟩⟩
       subst c19
       replace H := ip_ H rfl
       replace H := Option.bind_eq_some_iff.mp H
       obtain ⟨⟨t509, t510⟩, A200, H⟩ := H
       try dsimp only at H
       have A20 := Aside0.mk A200
       clear A200
       replace H := Option.bind_eq_some_iff.mp H
       obtain ⟨⟨t511, t512⟩, A210, H⟩ := H
       try dsimp only at H
       have A21 := Aside0.mk A210
       clear A210
       replace H := Option.bind_eq_some_iff.mp H
       obtain ⟨⟨t515, t516⟩, A220, H⟩ := H
       try dsimp only at H
       have A22 := Aside0.mk A220
       clear A220
       by_cases c23 : t510 = true
       rotate_left
       ·replace c23 := Bool.eq_false_iff.mpr c23
        subst c23
        replace H := in_ H (show ¬ (false = true) by decide)
        as_aux_lemma =>
         obtain rfl := Option.some.inj H
         obtain ⟨Ao77, co77, eo77⟩ := Kd.R_slice HO_8.out
         subst eo77
         go_wp2_with (first | ((with_reducible refine gate_callee (f := 28) rfl ?_); refine goesM_ (some 84) Try.func28 #[.slice Ao77 t500.length co77, .int .i64 t497] ?_; (with_reducible refine (impl_PointsAt.calls kj7 _ _ t500 t497 t509 false _ ?side1 ?side2 A20.out).mono ?_); (case side1 => repeat (first | exact (Kd.R_reads' HO_8.out).2.2 | (with_reducible first | apply cA_ | apply cN_ | apply cD_))); (case side2 => exact (Kd.R_reads' HO_8.out).2.1); rintro e w78 ⟨rfl, hb⟩; refine ⟨_, rfl, ?_⟩; replace HO_8 := aM_ (Kd.R_below y14_5_ hb); replace HO_10 := aM_ (Kd.R_below y14_6_ hb); replace HB := aM_ (below_step hB_ hb); (try clear hb)) | ((with_reducible refine gate_callee (f := 29) rfl ?_); refine goesM_ (some 90) Try.func29 #[.slice Ao77 t500.length co77, .string t496] ?_; (with_reducible refine (impl_DropReferent.calls kj7 _ _ t500 t496 t511 t512 _ ?side1 ?side2 A21.out).mono ?_); (case side1 => repeat (first | exact (Kd.R_reads' HO_8.out).2.2 | (with_reducible first | apply cA_ | apply cN_ | apply cD_))); (case side2 => exact (Kd.R_reads' HO_8.out).2.1); rintro e w79 ⟨v513, rfl, ho0, hb⟩; refine ⟨_, rfl, ?_⟩; have HO514 := aM_ (Kd.R_lower (Kd.R_new' (Kd.R_new' ho0 (Kd.R_lt y14_5_)) (Kd.R_lt y14_6_)) (below_size hB_)); replace HO_8 := aM_ (Kd.R_elder' y14_5_ (Kd.R_base ho0) hb); replace HO_10 := aM_ (Kd.R_elder' y14_6_ (Kd.R_base ho0) hb); replace HB := aM_ (below_step hB_ hb); (try clear hb); (try clear ho0); obtain ⟨Ao80, co80, eo80⟩ := Kd.R_slice HO_10.out; subst eo80) | ((with_reducible refine gate_callee (f := 30) rfl ?_); refine goesM_ (some 96) Try.func30 #[.slice Ao80 t504.length co80, .string t496] ?_; (with_reducible refine (spec_DropReferent.calls kj7 _ _ t504 t496 t515 t516 _ ?side1 ?side2 A22.out).mono ?_); (case side1 => repeat (first | exact (Kd.R_reads' HO_10.out).2.2 | (with_reducible first | apply cA_ | apply cN_ | apply cD_))); (case side2 => exact (Kd.R_reads' HO_10.out).2.1); rintro e w81 ⟨v517, rfl, ho0, hb⟩; refine ⟨_, rfl, ?_⟩; have HO518 := aM_ (Kd.R_lower (Kd.R_new' (Kd.R_new' (Kd.R_new' ho0 (Kd.R_lt y14_5_)) (Kd.R_lt y14_6_)) (Kd.R_lt y14_7_)) (below_size hB_)); replace HO_8 := aM_ (Kd.R_elder' y14_5_ (Kd.R_base ho0) hb); replace HO_10 := aM_ (Kd.R_elder' y14_6_ (Kd.R_base ho0) hb); replace HO514 := aM_ (Kd.R_elder' y14_7_ (Kd.R_base ho0) hb); replace HB := aM_ (below_step hB_ hb); (try clear hb); (try clear ho0)))
         go_ret
         exact ⟨rT_, hB_⟩
       subst c23
       replace H := ip_ H rfl
       by_cases c24 : t509.toList = t496.toList
       rotate_left
       ·rw [if_neg c24] at H
        have c24b0 : (t509.toList == t496.toList) = false := beq_eq_false_iff_ne.mpr c24
        have c24b1 : (t509.toList != t496.toList) = true := bne_iff_ne.mpr c24
        (first | rw [c24b0] | (simp only [i64_w, i32_w]; rw [c24b0]) | skip)
        as_aux_lemma =>
         obtain rfl := Option.some.inj H
         obtain ⟨Ao72, co72, eo72⟩ := Kd.R_slice HO_8.out
         subst eo72
         go_wp2_with (first | ((with_reducible refine gate_callee (f := 28) rfl ?_); refine goesM_ (some 84) Try.func28 #[.slice Ao72 t500.length co72, .int .i64 t497] ?_; (with_reducible refine (impl_PointsAt.calls kj7 _ _ t500 t497 t509 true _ ?side1 ?side2 A20.out).mono ?_); (case side1 => repeat (first | exact (Kd.R_reads' HO_8.out).2.2 | (with_reducible first | apply cA_ | apply cN_ | apply cD_))); (case side2 => exact (Kd.R_reads' HO_8.out).2.1); rintro e w73 ⟨rfl, hb⟩; refine ⟨_, rfl, ?_⟩; replace HO_8 := aM_ (Kd.R_below y14_5_ hb); replace HO_10 := aM_ (Kd.R_below y14_6_ hb); replace HB := aM_ (below_step hB_ hb); (try clear hb)) | ((with_reducible refine gate_callee (f := 29) rfl ?_); refine goesM_ (some 90) Try.func29 #[.slice Ao72 t500.length co72, .string t496] ?_; (with_reducible refine (impl_DropReferent.calls kj7 _ _ t500 t496 t511 t512 _ ?side1 ?side2 A21.out).mono ?_); (case side1 => repeat (first | exact (Kd.R_reads' HO_8.out).2.2 | (with_reducible first | apply cA_ | apply cN_ | apply cD_))); (case side2 => exact (Kd.R_reads' HO_8.out).2.1); rintro e w74 ⟨v513, rfl, ho0, hb⟩; refine ⟨_, rfl, ?_⟩; have HO514 := aM_ (Kd.R_lower (Kd.R_new' (Kd.R_new' ho0 (Kd.R_lt y14_5_)) (Kd.R_lt y14_6_)) (below_size hB_)); replace HO_8 := aM_ (Kd.R_elder' y14_5_ (Kd.R_base ho0) hb); replace HO_10 := aM_ (Kd.R_elder' y14_6_ (Kd.R_base ho0) hb); replace HB := aM_ (below_step hB_ hb); (try clear hb); (try clear ho0); obtain ⟨Ao75, co75, eo75⟩ := Kd.R_slice HO_10.out; subst eo75) | ((with_reducible refine gate_callee (f := 30) rfl ?_); refine goesM_ (some 96) Try.func30 #[.slice Ao75 t504.length co75, .string t496] ?_; (with_reducible refine (spec_DropReferent.calls kj7 _ _ t504 t496 t515 t516 _ ?side1 ?side2 A22.out).mono ?_); (case side1 => repeat (first | exact (Kd.R_reads' HO_10.out).2.2 | (with_reducible first | apply cA_ | apply cN_ | apply cD_))); (case side2 => exact (Kd.R_reads' HO_10.out).2.1); rintro e w76 ⟨v517, rfl, ho0, hb⟩; refine ⟨_, rfl, ?_⟩; have HO518 := aM_ (Kd.R_lower (Kd.R_new' (Kd.R_new' (Kd.R_new' ho0 (Kd.R_lt y14_5_)) (Kd.R_lt y14_6_)) (Kd.R_lt y14_7_)) (below_size hB_)); replace HO_8 := aM_ (Kd.R_elder' y14_5_ (Kd.R_base ho0) hb); replace HO_10 := aM_ (Kd.R_elder' y14_6_ (Kd.R_base ho0) hb); replace HO514 := aM_ (Kd.R_elder' y14_7_ (Kd.R_base ho0) hb); replace HB := aM_ (below_step hB_ hb); (try clear hb); (try clear ho0)))
         go_ret
         exact ⟨rT_, hB_⟩
       rw [if_pos c24] at H
       have c24b0 : (t509.toList == t496.toList) = true := beq_iff_eq.mpr c24
       have c24b1 : (t509.toList != t496.toList) = false := bne_eq_false_iff_eq.mpr c24
       clear c24
       (first | rw [c24b0] | (simp only [i64_w, i32_w]; rw [c24b0]) | skip)
       by_cases c25 : t512 = true
       rotate_left
       ·replace c25 := Bool.eq_false_iff.mpr c25
        subst c25
        replace H := in_ H (show ¬ (false = true) by decide)
        as_aux_lemma =>
         obtain rfl := Option.some.inj H
         obtain ⟨Ao67, co67, eo67⟩ := Kd.R_slice HO_8.out
         subst eo67
         go_wp2_with (first | ((with_reducible refine gate_callee (f := 28) rfl ?_); refine goesM_ (some 84) Try.func28 #[.slice Ao67 t500.length co67, .int .i64 t497] ?_; (with_reducible refine (impl_PointsAt.calls kj7 _ _ t500 t497 t509 true _ ?side1 ?side2 A20.out).mono ?_); (case side1 => repeat (first | exact (Kd.R_reads' HO_8.out).2.2 | (with_reducible first | apply cA_ | apply cN_ | apply cD_))); (case side2 => exact (Kd.R_reads' HO_8.out).2.1); rintro e w68 ⟨rfl, hb⟩; refine ⟨_, rfl, ?_⟩; replace HO_8 := aM_ (Kd.R_below y14_5_ hb); replace HO_10 := aM_ (Kd.R_below y14_6_ hb); replace HB := aM_ (below_step hB_ hb); (try clear hb)) | ((with_reducible refine gate_callee (f := 29) rfl ?_); refine goesM_ (some 90) Try.func29 #[.slice Ao67 t500.length co67, .string t496] ?_; (with_reducible refine (impl_DropReferent.calls kj7 _ _ t500 t496 t511 false _ ?side1 ?side2 A21.out).mono ?_); (case side1 => repeat (first | exact (Kd.R_reads' HO_8.out).2.2 | (with_reducible first | apply cA_ | apply cN_ | apply cD_))); (case side2 => exact (Kd.R_reads' HO_8.out).2.1); rintro e w69 ⟨v513, rfl, ho0, hb⟩; refine ⟨_, rfl, ?_⟩; have HO514 := aM_ (Kd.R_lower (Kd.R_new' (Kd.R_new' ho0 (Kd.R_lt y14_5_)) (Kd.R_lt y14_6_)) (below_size hB_)); replace HO_8 := aM_ (Kd.R_elder' y14_5_ (Kd.R_base ho0) hb); replace HO_10 := aM_ (Kd.R_elder' y14_6_ (Kd.R_base ho0) hb); replace HB := aM_ (below_step hB_ hb); (try clear hb); (try clear ho0); obtain ⟨Ao70, co70, eo70⟩ := Kd.R_slice HO_10.out; subst eo70) | ((with_reducible refine gate_callee (f := 30) rfl ?_); refine goesM_ (some 96) Try.func30 #[.slice Ao70 t504.length co70, .string t496] ?_; (with_reducible refine (spec_DropReferent.calls kj7 _ _ t504 t496 t515 t516 _ ?side1 ?side2 A22.out).mono ?_); (case side1 => repeat (first | exact (Kd.R_reads' HO_10.out).2.2 | (with_reducible first | apply cA_ | apply cN_ | apply cD_))); (case side2 => exact (Kd.R_reads' HO_10.out).2.1); rintro e w71 ⟨v517, rfl, ho0, hb⟩; refine ⟨_, rfl, ?_⟩; have HO518 := aM_ (Kd.R_lower (Kd.R_new' (Kd.R_new' (Kd.R_new' ho0 (Kd.R_lt y14_5_)) (Kd.R_lt y14_6_)) (Kd.R_lt y14_7_)) (below_size hB_)); replace HO_8 := aM_ (Kd.R_elder' y14_5_ (Kd.R_base ho0) hb); replace HO_10 := aM_ (Kd.R_elder' y14_6_ (Kd.R_base ho0) hb); replace HO514 := aM_ (Kd.R_elder' y14_7_ (Kd.R_base ho0) hb); replace HB := aM_ (below_step hB_ hb); (try clear hb); (try clear ho0)))
         go_ret
         exact ⟨rT_, hB_⟩
       subst c25
       replace H := ip_ H rfl
       by_cases c26 : t516 = true
       rotate_left
       ·replace c26 := Bool.eq_false_iff.mpr c26
        subst c26
        replace H := in_ H (show ¬ (false = true) by decide)
        as_aux_lemma =>
         obtain rfl := Option.some.inj H
         obtain ⟨Ao62, co62, eo62⟩ := Kd.R_slice HO_8.out
         subst eo62
         go_wp2_with (first | ((with_reducible refine gate_callee (f := 28) rfl ?_); refine goesM_ (some 84) Try.func28 #[.slice Ao62 t500.length co62, .int .i64 t497] ?_; (with_reducible refine (impl_PointsAt.calls kj7 _ _ t500 t497 t509 true _ ?side1 ?side2 A20.out).mono ?_); (case side1 => repeat (first | exact (Kd.R_reads' HO_8.out).2.2 | (with_reducible first | apply cA_ | apply cN_ | apply cD_))); (case side2 => exact (Kd.R_reads' HO_8.out).2.1); rintro e w63 ⟨rfl, hb⟩; refine ⟨_, rfl, ?_⟩; replace HO_8 := aM_ (Kd.R_below y14_5_ hb); replace HO_10 := aM_ (Kd.R_below y14_6_ hb); replace HB := aM_ (below_step hB_ hb); (try clear hb)) | ((with_reducible refine gate_callee (f := 29) rfl ?_); refine goesM_ (some 90) Try.func29 #[.slice Ao62 t500.length co62, .string t496] ?_; (with_reducible refine (impl_DropReferent.calls kj7 _ _ t500 t496 t511 true _ ?side1 ?side2 A21.out).mono ?_); (case side1 => repeat (first | exact (Kd.R_reads' HO_8.out).2.2 | (with_reducible first | apply cA_ | apply cN_ | apply cD_))); (case side2 => exact (Kd.R_reads' HO_8.out).2.1); rintro e w64 ⟨v513, rfl, ho0, hb⟩; refine ⟨_, rfl, ?_⟩; have HO514 := aM_ (Kd.R_lower (Kd.R_new' (Kd.R_new' ho0 (Kd.R_lt y14_5_)) (Kd.R_lt y14_6_)) (below_size hB_)); replace HO_8 := aM_ (Kd.R_elder' y14_5_ (Kd.R_base ho0) hb); replace HO_10 := aM_ (Kd.R_elder' y14_6_ (Kd.R_base ho0) hb); replace HB := aM_ (below_step hB_ hb); (try clear hb); (try clear ho0); obtain ⟨Ao65, co65, eo65⟩ := Kd.R_slice HO_10.out; subst eo65) | ((with_reducible refine gate_callee (f := 30) rfl ?_); refine goesM_ (some 96) Try.func30 #[.slice Ao65 t504.length co65, .string t496] ?_; (with_reducible refine (spec_DropReferent.calls kj7 _ _ t504 t496 t515 false _ ?side1 ?side2 A22.out).mono ?_); (case side1 => repeat (first | exact (Kd.R_reads' HO_10.out).2.2 | (with_reducible first | apply cA_ | apply cN_ | apply cD_))); (case side2 => exact (Kd.R_reads' HO_10.out).2.1); rintro e w66 ⟨v517, rfl, ho0, hb⟩; refine ⟨_, rfl, ?_⟩; have HO518 := aM_ (Kd.R_lower (Kd.R_new' (Kd.R_new' (Kd.R_new' ho0 (Kd.R_lt y14_5_)) (Kd.R_lt y14_6_)) (Kd.R_lt y14_7_)) (below_size hB_)); replace HO_8 := aM_ (Kd.R_elder' y14_5_ (Kd.R_base ho0) hb); replace HO_10 := aM_ (Kd.R_elder' y14_6_ (Kd.R_base ho0) hb); replace HO514 := aM_ (Kd.R_elder' y14_7_ (Kd.R_base ho0) hb); replace HB := aM_ (below_step hB_ hb); (try clear hb); (try clear ho0)))
         go_ret
         exact ⟨rT_, hB_⟩
       subst c26
       replace H := ip_ H rfl
       replace H := Option.bind_eq_some_iff.mp H
       obtain ⟨t519, A270, H⟩ := H
       try dsimp only at H
       have A27 := Aside0.mk A270
       clear A270
       by_cases c28 : t519 = true
       rotate_left
       ·replace c28 := Bool.eq_false_iff.mpr c28
        subst c28
        replace H := in_ H (show ¬ (false = true) by decide)
        as_aux_lemma =>
         obtain rfl := Option.some.inj H
         obtain ⟨Ao55, co55, eo55⟩ := Kd.R_slice HO_8.out
         subst eo55
         go_wp2_with (first | ((with_reducible refine gate_callee (f := 28) rfl ?_); refine goesM_ (some 84) Try.func28 #[.slice Ao55 t500.length co55, .int .i64 t497] ?_; (with_reducible refine (impl_PointsAt.calls kj7 _ _ t500 t497 t509 true _ ?side1 ?side2 A20.out).mono ?_); (case side1 => repeat (first | exact (Kd.R_reads' HO_8.out).2.2 | (with_reducible first | apply cA_ | apply cN_ | apply cD_))); (case side2 => exact (Kd.R_reads' HO_8.out).2.1); rintro e w56 ⟨rfl, hb⟩; refine ⟨_, rfl, ?_⟩; replace HO_8 := aM_ (Kd.R_below y14_5_ hb); replace HO_10 := aM_ (Kd.R_below y14_6_ hb); replace HB := aM_ (below_step hB_ hb); (try clear hb)) | ((with_reducible refine gate_callee (f := 29) rfl ?_); refine goesM_ (some 90) Try.func29 #[.slice Ao55 t500.length co55, .string t496] ?_; (with_reducible refine (impl_DropReferent.calls kj7 _ _ t500 t496 t511 true _ ?side1 ?side2 A21.out).mono ?_); (case side1 => repeat (first | exact (Kd.R_reads' HO_8.out).2.2 | (with_reducible first | apply cA_ | apply cN_ | apply cD_))); (case side2 => exact (Kd.R_reads' HO_8.out).2.1); rintro e w57 ⟨v513, rfl, ho0, hb⟩; refine ⟨_, rfl, ?_⟩; have HO514 := aM_ (Kd.R_lower (Kd.R_new' (Kd.R_new' ho0 (Kd.R_lt y14_5_)) (Kd.R_lt y14_6_)) (below_size hB_)); replace HO_8 := aM_ (Kd.R_elder' y14_5_ (Kd.R_base ho0) hb); replace HO_10 := aM_ (Kd.R_elder' y14_6_ (Kd.R_base ho0) hb); replace HB := aM_ (below_step hB_ hb); (try clear hb); (try clear ho0); obtain ⟨Ao58, co58, eo58⟩ := Kd.R_slice HO_10.out; subst eo58) | ((with_reducible refine gate_callee (f := 30) rfl ?_); refine goesM_ (some 96) Try.func30 #[.slice Ao58 t504.length co58, .string t496] ?_; (with_reducible refine (spec_DropReferent.calls kj7 _ _ t504 t496 t515 true _ ?side1 ?side2 A22.out).mono ?_); (case side1 => repeat (first | exact (Kd.R_reads' HO_10.out).2.2 | (with_reducible first | apply cA_ | apply cN_ | apply cD_))); (case side2 => exact (Kd.R_reads' HO_10.out).2.1); rintro e w59 ⟨v517, rfl, ho0, hb⟩; refine ⟨_, rfl, ?_⟩; have HO518 := aM_ (Kd.R_lower (Kd.R_new' (Kd.R_new' (Kd.R_new' ho0 (Kd.R_lt y14_5_)) (Kd.R_lt y14_6_)) (Kd.R_lt y14_7_)) (below_size hB_)); replace HO_8 := aM_ (Kd.R_elder' y14_5_ (Kd.R_base ho0) hb); replace HO_10 := aM_ (Kd.R_elder' y14_6_ (Kd.R_base ho0) hb); replace HO514 := aM_ (Kd.R_elder' y14_7_ (Kd.R_base ho0) hb); replace HB := aM_ (below_step hB_ hb); (try clear hb); (try clear ho0); obtain ⟨Ao60, co60, eo60⟩ := Kd.R_slice HO514.out; subst eo60; obtain ⟨Ao61, co61, eo61⟩ := Kd.R_slice HO518.out; subst eo61) | (go_at_call 27; (with_reducible refine (laws_pSameLoci.calls kj7 _ _ t511 _ _ t515 false _ ?side1 ?side2 ?side3 ?side4 A27.out).mono ?_); (case side1 => repeat (first | exact (Kd.R_reads' HO514.out).2.2 | (with_reducible first | apply cA_ | apply cN_ | apply cD_))); (case side2 => exact (Kd.R_reads' HO514.out).2.1); (case side3 => repeat (first | exact (Kd.R_reads' HO518.out).2.2 | (with_reducible first | apply cA_ | apply cN_ | apply cD_))); (case side4 => exact (Kd.R_reads' HO518.out).2.1); rintro e w' ⟨rfl, ⟨nd, rfl⟩⟩))
         go_ret
         exact ⟨rT_, hB_⟩
       subst c28
       replace H := ip_ H rfl
       by_cases c29 : (t515.length : Int) = (wrap64 ((t504.length : Int) - 1))
       rotate_left
       ·rw [if_neg c29] at H
        have c29b0 : ((t515.length : Int) == (wrap64 ((t504.length : Int) - 1))) = false := beq_eq_false_iff_ne.mpr c29
        have c29b1 : ((t515.length : Int) != (wrap64 ((t504.length : Int) - 1))) = true := bne_iff_ne.mpr c29
        as_aux_lemma =>
         obtain rfl := Option.some.inj H
         obtain ⟨Ao48, co48, eo48⟩ := Kd.R_slice HO_8.out
         subst eo48
         go_wp2_with (first | ((with_reducible refine gate_callee (f := 28) rfl ?_); refine goesM_ (some 84) Try.func28 #[.slice Ao48 t500.length co48, .int .i64 t497] ?_; (with_reducible refine (impl_PointsAt.calls kj7 _ _ t500 t497 t509 true _ ?side1 ?side2 A20.out).mono ?_); (case side1 => repeat (first | exact (Kd.R_reads' HO_8.out).2.2 | (with_reducible first | apply cA_ | apply cN_ | apply cD_))); (case side2 => exact (Kd.R_reads' HO_8.out).2.1); rintro e w49 ⟨rfl, hb⟩; refine ⟨_, rfl, ?_⟩; replace HO_8 := aM_ (Kd.R_below y14_5_ hb); replace HO_10 := aM_ (Kd.R_below y14_6_ hb); replace HB := aM_ (below_step hB_ hb); (try clear hb)) | ((with_reducible refine gate_callee (f := 29) rfl ?_); refine goesM_ (some 90) Try.func29 #[.slice Ao48 t500.length co48, .string t496] ?_; (with_reducible refine (impl_DropReferent.calls kj7 _ _ t500 t496 t511 true _ ?side1 ?side2 A21.out).mono ?_); (case side1 => repeat (first | exact (Kd.R_reads' HO_8.out).2.2 | (with_reducible first | apply cA_ | apply cN_ | apply cD_))); (case side2 => exact (Kd.R_reads' HO_8.out).2.1); rintro e w50 ⟨v513, rfl, ho0, hb⟩; refine ⟨_, rfl, ?_⟩; have HO514 := aM_ (Kd.R_lower (Kd.R_new' (Kd.R_new' ho0 (Kd.R_lt y14_5_)) (Kd.R_lt y14_6_)) (below_size hB_)); replace HO_8 := aM_ (Kd.R_elder' y14_5_ (Kd.R_base ho0) hb); replace HO_10 := aM_ (Kd.R_elder' y14_6_ (Kd.R_base ho0) hb); replace HB := aM_ (below_step hB_ hb); (try clear hb); (try clear ho0); obtain ⟨Ao51, co51, eo51⟩ := Kd.R_slice HO_10.out; subst eo51) | ((with_reducible refine gate_callee (f := 30) rfl ?_); refine goesM_ (some 96) Try.func30 #[.slice Ao51 t504.length co51, .string t496] ?_; (with_reducible refine (spec_DropReferent.calls kj7 _ _ t504 t496 t515 true _ ?side1 ?side2 A22.out).mono ?_); (case side1 => repeat (first | exact (Kd.R_reads' HO_10.out).2.2 | (with_reducible first | apply cA_ | apply cN_ | apply cD_))); (case side2 => exact (Kd.R_reads' HO_10.out).2.1); rintro e w52 ⟨v517, rfl, ho0, hb⟩; refine ⟨_, rfl, ?_⟩; have HO518 := aM_ (Kd.R_lower (Kd.R_new' (Kd.R_new' (Kd.R_new' ho0 (Kd.R_lt y14_5_)) (Kd.R_lt y14_6_)) (Kd.R_lt y14_7_)) (below_size hB_)); replace HO_8 := aM_ (Kd.R_elder' y14_5_ (Kd.R_base ho0) hb); replace HO_10 := aM_ (Kd.R_elder' y14_6_ (Kd.R_base ho0) hb); replace HO514 := aM_ (Kd.R_elder' y14_7_ (Kd.R_base ho0) hb); replace HB := aM_ (below_step hB_ hb); (try clear hb); (try clear ho0); obtain ⟨Ao53, co53, eo53⟩ := Kd.R_slice HO514.out; subst eo53; obtain ⟨Ao54, co54, eo54⟩ := Kd.R_slice HO518.out; subst eo54) | (go_at_call 27; (with_reducible refine (laws_pSameLoci.calls kj7 _ _ t511 _ _ t515 true _ ?side1 ?side2 ?side3 ?side4 A27.out).mono ?_); (case side1 => repeat (first | exact (Kd.R_reads' HO514.out).2.2 | (with_reducible first | apply cA_ | apply cN_ | apply cD_))); (case side2 => exact (Kd.R_reads' HO514.out).2.1); (case side3 => repeat (first | exact (Kd.R_reads' HO518.out).2.2 | (with_reducible first | apply cA_ | apply cN_ | apply cD_))); (case side4 => exact (Kd.R_reads' HO518.out).2.1); rintro e w' ⟨rfl, ⟨nd, rfl⟩⟩))
         go_ret
         exact ⟨rT_, hB_⟩
       rw [if_pos c29] at H
       have c29b0 : ((t515.length : Int) == (wrap64 ((t504.length : Int) - 1))) = true := beq_iff_eq.mpr c29
       have c29b1 : ((t515.length : Int) != (wrap64 ((t504.length : Int) - 1))) = false := bne_eq_false_iff_eq.mpr c29
       clear c29
       replace H := Option.bind_eq_some_iff.mp H
       obtain ⟨t520, A300, H⟩ := H
       try dsimp only at H
       have A30 := Aside0.mk A300
       clear A300
       by_cases c31 : t520 = true
       rotate_left
       ·replace c31 := Bool.eq_false_iff.mpr c31
        subst c31
        replace H := in_ H (show ¬ (false = true) by decide)
        as_aux_lemma =>
         obtain rfl := Option.some.inj H
         obtain ⟨Ao40, co40, eo40⟩ := Kd.R_slice HO_8.out
         subst eo40
         go_wp2_with (first | ((with_reducible refine gate_callee (f := 28) rfl ?_); refine goesM_ (some 84) Try.func28 #[.slice Ao40 t500.length co40, .int .i64 t497] ?_; (with_reducible refine (impl_PointsAt.calls kj7 _ _ t500 t497 t509 true _ ?side1 ?side2 A20.out).mono ?_); (case side1 => repeat (first | exact (Kd.R_reads' HO_8.out).2.2 | (with_reducible first | apply cA_ | apply cN_ | apply cD_))); (case side2 => exact (Kd.R_reads' HO_8.out).2.1); rintro e w41 ⟨rfl, hb⟩; refine ⟨_, rfl, ?_⟩; replace HO_8 := aM_ (Kd.R_below y14_5_ hb); replace HO_10 := aM_ (Kd.R_below y14_6_ hb); replace HB := aM_ (below_step hB_ hb); (try clear hb)) | ((with_reducible refine gate_callee (f := 29) rfl ?_); refine goesM_ (some 90) Try.func29 #[.slice Ao40 t500.length co40, .string t496] ?_; (with_reducible refine (impl_DropReferent.calls kj7 _ _ t500 t496 t511 true _ ?side1 ?side2 A21.out).mono ?_); (case side1 => repeat (first | exact (Kd.R_reads' HO_8.out).2.2 | (with_reducible first | apply cA_ | apply cN_ | apply cD_))); (case side2 => exact (Kd.R_reads' HO_8.out).2.1); rintro e w42 ⟨v513, rfl, ho0, hb⟩; refine ⟨_, rfl, ?_⟩; have HO514 := aM_ (Kd.R_lower (Kd.R_new' (Kd.R_new' ho0 (Kd.R_lt y14_5_)) (Kd.R_lt y14_6_)) (below_size hB_)); replace HO_8 := aM_ (Kd.R_elder' y14_5_ (Kd.R_base ho0) hb); replace HO_10 := aM_ (Kd.R_elder' y14_6_ (Kd.R_base ho0) hb); replace HB := aM_ (below_step hB_ hb); (try clear hb); (try clear ho0); obtain ⟨Ao43, co43, eo43⟩ := Kd.R_slice HO_10.out; subst eo43) | ((with_reducible refine gate_callee (f := 30) rfl ?_); refine goesM_ (some 96) Try.func30 #[.slice Ao43 t504.length co43, .string t496] ?_; (with_reducible refine (spec_DropReferent.calls kj7 _ _ t504 t496 t515 true _ ?side1 ?side2 A22.out).mono ?_); (case side1 => repeat (first | exact (Kd.R_reads' HO_10.out).2.2 | (with_reducible first | apply cA_ | apply cN_ | apply cD_))); (case side2 => exact (Kd.R_reads' HO_10.out).2.1); rintro e w44 ⟨v517, rfl, ho0, hb⟩; refine ⟨_, rfl, ?_⟩; have HO518 := aM_ (Kd.R_lower (Kd.R_new' (Kd.R_new' (Kd.R_new' ho0 (Kd.R_lt y14_5_)) (Kd.R_lt y14_6_)) (Kd.R_lt y14_7_)) (below_size hB_)); replace HO_8 := aM_ (Kd.R_elder' y14_5_ (Kd.R_base ho0) hb); replace HO_10 := aM_ (Kd.R_elder' y14_6_ (Kd.R_base ho0) hb); replace HO514 := aM_ (Kd.R_elder' y14_7_ (Kd.R_base ho0) hb); replace HB := aM_ (below_step hB_ hb); (try clear hb); (try clear ho0); obtain ⟨Ao45, co45, eo45⟩ := Kd.R_slice HO514.out; subst eo45; obtain ⟨Ao46, co46, eo46⟩ := Kd.R_slice HO518.out; subst eo46) | (go_at_call 27; (with_reducible refine (laws_pSameLoci.calls kj7 _ _ t511 _ _ t515 true _ ?side1 ?side2 ?side3 ?side4 A27.out).mono ?_); (case side1 => repeat (first | exact (Kd.R_reads' HO514.out).2.2 | (with_reducible first | apply cA_ | apply cN_ | apply cD_))); (case side2 => exact (Kd.R_reads' HO514.out).2.1); (case side3 => repeat (first | exact (Kd.R_reads' HO518.out).2.2 | (with_reducible first | apply cA_ | apply cN_ | apply cD_))); (case side4 => exact (Kd.R_reads' HO518.out).2.1); rintro e w' ⟨rfl, ⟨nd, rfl⟩⟩) | (go_at_call 31; (with_reducible refine (impl_AreLoci.calls kj7 _ _ t500 false _ ?side1 ?side2 A30.out).mono ?_); (case side1 => repeat (first | exact (Kd.R_reads' HO_8.out).2.2 | (with_reducible first | apply cA_ | apply cN_ | apply cD_))); (case side2 => exact (Kd.R_reads' HO_8.out).2.1); rintro e w47 ⟨rfl, hb⟩; replace HO_8 := aM_ (Kd.R_below y14_5_ hb); replace HO_10 := aM_ (Kd.R_below y14_6_ hb); replace HO514 := aM_ (Kd.R_below y14_7_ hb); replace HO518 := aM_ (Kd.R_below y14_8_ hb); replace HB := aM_ (below_step hB_ hb); (try clear hb)))
         go_ret
         exact ⟨rT_, hB_⟩
       subst c31
       replace H := ip_ H rfl
       as_aux_lemma =>
        have H' := Aside0.mk H
        clear H
        obtain ⟨Ao32, co32, eo32⟩ := Kd.R_slice HO_8.out
        subst eo32
        go_wp2_with (first | ((with_reducible refine gate_callee (f := 28) rfl ?_); refine goesM_ (some 84) Try.func28 #[.slice Ao32 t500.length co32, .int .i64 t497] ?_; (with_reducible refine (impl_PointsAt.calls kj7 _ _ t500 t497 t509 true _ ?side1 ?side2 A20.out).mono ?_); (case side1 => repeat (first | exact (Kd.R_reads' HO_8.out).2.2 | (with_reducible first | apply cA_ | apply cN_ | apply cD_))); (case side2 => exact (Kd.R_reads' HO_8.out).2.1); rintro e w33 ⟨rfl, hb⟩; refine ⟨_, rfl, ?_⟩; replace HO_8 := aM_ (Kd.R_below y14_5_ hb); replace HO_10 := aM_ (Kd.R_below y14_6_ hb); replace HB := aM_ (below_step hB_ hb); (try clear hb)) | ((with_reducible refine gate_callee (f := 29) rfl ?_); refine goesM_ (some 90) Try.func29 #[.slice Ao32 t500.length co32, .string t496] ?_; (with_reducible refine (impl_DropReferent.calls kj7 _ _ t500 t496 t511 true _ ?side1 ?side2 A21.out).mono ?_); (case side1 => repeat (first | exact (Kd.R_reads' HO_8.out).2.2 | (with_reducible first | apply cA_ | apply cN_ | apply cD_))); (case side2 => exact (Kd.R_reads' HO_8.out).2.1); rintro e w34 ⟨v513, rfl, ho0, hb⟩; refine ⟨_, rfl, ?_⟩; have HO514 := aM_ (Kd.R_lower (Kd.R_new' (Kd.R_new' ho0 (Kd.R_lt y14_5_)) (Kd.R_lt y14_6_)) (below_size hB_)); replace HO_8 := aM_ (Kd.R_elder' y14_5_ (Kd.R_base ho0) hb); replace HO_10 := aM_ (Kd.R_elder' y14_6_ (Kd.R_base ho0) hb); replace HB := aM_ (below_step hB_ hb); (try clear hb); (try clear ho0); obtain ⟨Ao35, co35, eo35⟩ := Kd.R_slice HO_10.out; subst eo35) | ((with_reducible refine gate_callee (f := 30) rfl ?_); refine goesM_ (some 96) Try.func30 #[.slice Ao35 t504.length co35, .string t496] ?_; (with_reducible refine (spec_DropReferent.calls kj7 _ _ t504 t496 t515 true _ ?side1 ?side2 A22.out).mono ?_); (case side1 => repeat (first | exact (Kd.R_reads' HO_10.out).2.2 | (with_reducible first | apply cA_ | apply cN_ | apply cD_))); (case side2 => exact (Kd.R_reads' HO_10.out).2.1); rintro e w36 ⟨v517, rfl, ho0, hb⟩; refine ⟨_, rfl, ?_⟩; have HO518 := aM_ (Kd.R_lower (Kd.R_new' (Kd.R_new' (Kd.R_new' ho0 (Kd.R_lt y14_5_)) (Kd.R_lt y14_6_)) (Kd.R_lt y14_7_)) (below_size hB_)); replace HO_8 := aM_ (Kd.R_elder' y14_5_ (Kd.R_base ho0) hb); replace HO_10 := aM_ (Kd.R_elder' y14_6_ (Kd.R_base ho0) hb); replace HO514 := aM_ (Kd.R_elder' y14_7_ (Kd.R_base ho0) hb); replace HB := aM_ (below_step hB_ hb); (try clear hb); (try clear ho0); obtain ⟨Ao37, co37, eo37⟩ := Kd.R_slice HO514.out; subst eo37; obtain ⟨Ao38, co38, eo38⟩ := Kd.R_slice HO518.out; subst eo38) | (go_at_call 27; (with_reducible refine (laws_pSameLoci.calls kj7 _ _ t511 _ _ t515 true _ ?side1 ?side2 ?side3 ?side4 A27.out).mono ?_); (case side1 => repeat (first | exact (Kd.R_reads' HO514.out).2.2 | (with_reducible first | apply cA_ | apply cN_ | apply cD_))); (case side2 => exact (Kd.R_reads' HO514.out).2.1); (case side3 => repeat (first | exact (Kd.R_reads' HO518.out).2.2 | (with_reducible first | apply cA_ | apply cN_ | apply cD_))); (case side4 => exact (Kd.R_reads' HO518.out).2.1); rintro e w' ⟨rfl, ⟨nd, rfl⟩⟩) | (go_at_call 31; (with_reducible refine (impl_AreLoci.calls kj7 _ _ t500 true _ ?side1 ?side2 A30.out).mono ?_); (case side1 => repeat (first | exact (Kd.R_reads' HO_8.out).2.2 | (with_reducible first | apply cA_ | apply cN_ | apply cD_))); (case side2 => exact (Kd.R_reads' HO_8.out).2.1); rintro e w39 ⟨rfl, hb⟩; replace HO_8 := aM_ (Kd.R_below y14_5_ hb); replace HO_10 := aM_ (Kd.R_below y14_6_ hb); replace HO514 := aM_ (Kd.R_below y14_7_ hb); replace HO518 := aM_ (Kd.R_below y14_8_ hb); replace HB := aM_ (below_step hB_ hb); (try clear hb)))
        go_meet
        case rel => exact ⟨_, H', ⟨by have := HJ7.out; first | omega | exact Nat.le_refl _⟩, ⟨hB_⟩⟩
     case rest =>
      as_aux_lemma =>
       clear HC18
       (try clear c1);(try clear c4);(try clear c17)
       obtain ⟨kq, HA, HJ17, HB⟩ := hcut
       cases kq with
       | zero => exact absurd HA.out (by simp [laws_FnLoci.j1])
       | succ kj17 =>
        as_aux_lemma =>
         have H := HA.out
         clear HA
         simp only [laws_FnLoci.j1] at H
         replace H := Option.bind_eq_some_iff.mp H
         obtain ⟨⟨t521, t522⟩, A820, H⟩ := H
         try dsimp only at H
         have A82 := Aside0.mk A820
         clear A820
         replace H := Option.bind_eq_some_iff.mp H
         obtain ⟨⟨t525, t526⟩, A830, H⟩ := H
         try dsimp only at H
         have A83 := Aside0.mk A830
         clear A830
         replace H := Option.bind_eq_some_iff.mp H
         obtain ⟨⟨t527, t528⟩, A840, H⟩ := H
         try dsimp only at H
         have A84 := Aside0.mk A840
         clear A840
         have HC85 := Aside0.mk H
         clear H
         go_upto_region 17 with (first | ((with_reducible refine gate_callee (f := 32) rfl ?_); refine goesM_ (some 135) Try.func32 #[.slice A1 l1.length c1] ?_; (with_reducible refine (spec_DrawPointsAt.calls kj17 _ _ l1 t521 t522 _ ?side1 ?side2 A82.out).mono ?_); (case side1 => repeat (first | exact (Kd.C_below HR1.out HB.out) | (with_reducible first | apply cA_ | apply cN_ | apply cD_))); (case side2 => exact HC1.out); rintro e w86 ⟨v523, rfl, ho0, hb⟩; refine ⟨_, rfl, ?_⟩; have HO524 := aM_ (Kd.R_lower ho0 (below_size hB_)); replace HB := aM_ (below_step hB_ hb); (try clear hb); (try clear ho0); obtain ⟨Ao87, co87, eo87⟩ := Kd.R_slice HO524.out; subst eo87) | ((with_reducible refine gate_callee (f := 28) rfl ?_); refine goesM_ (some 141) Try.func28 #[.slice Ao87 t521.length co87, .int .i64 t522] ?_; (with_reducible refine (impl_PointsAt.calls kj17 _ _ t521 t522 t525 t526 _ ?side1 ?side2 A83.out).mono ?_); (case side1 => repeat (first | exact (Kd.R_reads' HO524.out).2.2 | (with_reducible first | apply cA_ | apply cN_ | apply cD_))); (case side2 => exact (Kd.R_reads' HO524.out).2.1); rintro e w88 ⟨rfl, hb⟩; refine ⟨_, rfl, ?_⟩; replace HO524 := aM_ (Kd.R_below y14_9_ hb); replace HB := aM_ (below_step hB_ hb); (try clear hb)) | ((with_reducible refine gate_callee (f := 33) rfl ?_); refine goesM_ (some 147) Try.func33 #[.slice Ao87 t521.length co87, .int .i64 t522] ?_; (with_reducible refine (spec_PointsAt.calls kj17 _ _ t521 t522 t527 t528 _ ?side1 ?side2 A84.out).mono ?_); (case side1 => repeat (first | exact (Kd.R_reads' HO524.out).2.2 | (with_reducible first | apply cA_ | apply cN_ | apply cD_))); (case side2 => exact (Kd.R_reads' HO524.out).2.1); rintro e w89 ⟨rfl, hb⟩; refine ⟨_, rfl, ?_⟩; replace HO524 := aM_ (Kd.R_below y14_9_ hb); replace HB := aM_ (below_step hB_ hb); (try clear hb)))
         (try simp only [Act.put, List.setIfInBounds_toArray, List.set_cons_zero, List.set_cons_succ])
         go_cut [157] (fun v157 wc => ∃ (kq : Nat) (x157_84 : Bool), v157 = .bool x157_84 ∧ Aside0 (laws_FnLoci.j2 kq l1 t521 t522 t526 t527 x157_84 = some r) ∧ Aside0 (kq ≤ kj17) ∧ Aside0 (Kd.R k55 55 wc w.heap.size (fun _ => True) (.slice Ao87 t521.length co87) t521) ∧ Aside0 (Below w.heap.size w wc))
         case first =>
          as_aux_lemma =>
           have H := HC85.out
           clear HC85
           by_cases c90 : (t526 != t528) = true
           rotate_left
           ·rw [if_neg c90] at H
            have c90b0 : (t526 != t528) = false := by simpa using c90
            (try (have c90b1 : decide (t526 = t528) = true := by simpa using c90))
            (try (have c90b2 : (t526 == t528) = true := by simpa using c90))
            clear c90
            (first | rw [c90b0] | (simp only [i64_w, i32_w]; rw [c90b0]) | skip)
            as_aux_lemma =>
             have H' := Aside0.mk H
             clear H
             go_wp2
             go_meet
             case rel => exact ⟨_, ((t525.toList != t527.toList)), y14_2_, H', ⟨by have := HJ7.out; have := HJ17.out; first | omega | exact Nat.le_refl _⟩, ⟨y14_9_⟩, ⟨hB_⟩⟩
           rw [if_pos c90] at H
           have c90b0 : (t526 != t528) = true := c90
           (try (have c90b1 : decide (t526 = t528) = false := by simpa using c90))
           (try (have c90b2 : (t526 == t528) = false := by simpa using c90))
           (try (have c90b3 : ¬ (t526 = t528) := by simpa using c90))
           clear c90
           (first | rw [c90b0] | (simp only [i64_w, i32_w]; rw [c90b0]) | skip)
           as_aux_lemma =>
            have H' := Aside0.mk H
            clear H
            go_wp2
            go_meet
            case rel => exact ⟨_, (true), y14_2_, H', ⟨by have := HJ7.out; have := HJ17.out; first | omega | exact Nat.le_refl _⟩, ⟨y14_9_⟩, ⟨hB_⟩⟩
         case rest =>
          as_aux_lemma =>
           clear HC85
           (try clear c1);(try clear c4);(try clear c17)
           obtain ⟨kq, x157_84, rfl, HA, HJ84, HO_18, HB⟩ := hcut
           cases kq with
           | zero => exact absurd HA.out (by simp [laws_FnLoci.j2])
           | succ kj84 =>
            as_aux_lemma =>
             have H := HA.out
             clear HA
             simp only [laws_FnLoci.j2] at H
             by_cases c91 : x157_84 = true
             ·subst c91
              replace H := ip_ H rfl
              as_aux_lemma =>
               obtain rfl := Option.some.inj H
               go_wp2
               go_ret
               exact ⟨rT_, hB_⟩
             replace c91 := Bool.eq_false_iff.mpr c91
             subst c91
             replace H := in_ H (show ¬ (false = true) by decide)
             have HC92 := Aside0.mk H
             clear H
             go_upto_if 158 with (fail)
             go_cut [] (fun wc => ∃ (kq : Nat), Aside0 (laws_FnLoci.j6 kq l1 = some r) ∧ Aside0 (kq ≤ kj84) ∧ Aside0 (Below w.heap.size w wc))
             case first =>
              as_aux_lemma =>
               have H := HC92.out
               clear HC92
               by_cases c93 : t526 = true
               rotate_left
               ·replace c93 := Bool.eq_false_iff.mpr c93
                subst c93
                replace H := in_ H (show ¬ (false = true) by decide)
                as_aux_lemma =>
                 have H' := Aside0.mk H
                 clear H
                 go_wp2
                 go_meet
                 case rel => exact ⟨_, H', ⟨by have := HJ7.out; have := HJ17.out; have := HJ84.out; first | omega | exact Nat.le_refl _⟩, ⟨hB_⟩⟩
               subst c93
               replace H := ip_ H rfl
               have H' := Aside0.mk H
               clear H
               go_wp2
               go_loopg [24, 161] kj84 (fun kq v24 v161 w' => ∃ (x24_4 : Int) (x161_4 : Int), v24 = .int .i64 x24_4 ∧ v161 = .int .i64 x161_4 ∧ Aside0 (laws_FnLoci.l0 kq l1 t521 t522 t527 x24_4 t521 (t521.length : Int) x161_4 = some r) ∧ Aside0 (kq ≤ kj84) ∧ Aside0 (Kd.R k55 55 w' w.heap.size (fun _ => True) (.slice Ao87 t521.length co87) t521) ∧ Aside0 (Kd.R k55 55 w' w.heap.size (fun _ => True) (.slice Ao87 t521.length co87) t521) ∧ Aside0 (Below w.heap.size w w'))
               case atStart => exact ⟨((-1)), (0), y14_2_, y14_2_, H', ⟨Nat.le_refl _⟩, ⟨y14_10_⟩, ⟨y14_10_⟩, ⟨hB_⟩⟩
               case round =>
                as_aux_lemma =>
                 clear H'
                 (try clear c1);(try clear c4);(try clear c17);(try clear c91);(try clear c93)
                 obtain ⟨x24_4, x161_4, rfl, rfl, HA, HK4, HO_18, HO_159, HB⟩ := hrel
                 cases gk with
                 | zero => exact absurd HA.out (by simp [laws_FnLoci.l0])
                 | succ k4 =>
                  as_aux_lemma =>
                   have H := HA.out
                   clear HA
                   simp only [laws_FnLoci.l0] at H
                   by_cases c94 : x161_4 < (t521.length : Int)
                   ·rw [if_pos c94] at H
                    have c94b0 : decide (x161_4 < (t521.length : Int)) = true := decide_eq_true c94
                    clear c94
                    (first | rw [c94b0] | (simp only [i64_w, i32_w]; rw [c94b0]) | skip)
                    by_cases c95 : 0 ≤ x161_4
                    rotate_left
                    ·rw [if_neg c95] at H
                     exact absurd H (by simp)
                    rw [if_pos c95] at H
                    have c95b0 : decide (0 ≤ x161_4) = true := decide_eq_true c95
                    clear c95
                    by_cases c96 : x161_4 < (t521.length : Int)
                    rotate_left
                    ·rw [if_neg c96] at H
                     exact absurd H (by simp)
                    rw [if_pos c96] at H
                    have c96b0 : decide (x161_4 < (t521.length : Int)) = true := decide_eq_true c96
                    clear c96
                    by_cases c97 : ((rd_T55 t521 x161_4).f0).toList = t527.toList
                    rotate_left
                    ·rw [if_neg c97] at H
                     have c97b0 : (((rd_T55 t521 x161_4).f0).toList == t527.toList) = false := beq_eq_false_iff_ne.mpr c97
                     have c97b1 : (((rd_T55 t521 x161_4).f0).toList != t527.toList) = true := bne_iff_ne.mpr c97
                     as_aux_lemma =>
                      have H' := Aside0.mk H
                      clear H
                      have p529 : 0 ≤ (x161_4 : Int) := ode_
                      have q529 : x161_4 < (t521.length : Int) := ode_
                      obtain ⟨ad529, e529, hx529_0, hx529_1⟩ := at_T55 (Kd.R_reads' HO_159.out).2.2 x161_4 p529 q529
                      cases e529
                      replace p529 := eq_true p529
                      replace q529 := eq_true q529
                      go_wp2_with (first | ((with_reducible refine gate_dst (N := 26) rfl ?_); (try (refine gate_guard (by rfl) ?_; dsimp only)); refine box_event ?hg (N := 26) ?hd (cs := #[.string (⟨#[]⟩ : ByteArray), .int .i64 0]) (t := 55) ?hr ?_; (case hd => rfl); (case hg => rfl); (case hr => first | (go_simp; done) | (go_simp; rfl)); intro gb530 hg w101 hbox hb; have BK530 := aM_ (hbox); have GW530 := aM_ (gw_ w hg); have GE530 := aM_ (gw_ w hg); replace HO_18 := aM_ (Kd.R_below (Kd.R_elderB y14_10_ gb530 (Nat.le_of_eq hg.symm)) hb); replace HO_159 := aM_ (Kd.R_below (Kd.R_elderB y14_11_ gb530 (Nat.le_of_eq hg.symm)) hb); replace HB := aM_ (below_step hB_ hb); clear hb hbox hg; have hz102 := cf2_ BK530.out))
                      go_roundg k4
                      case measure => have := HJ7.out; have := HJ17.out; have := HJ84.out; have := HK4.out; omega
                      case rel => exact ⟨(x24_4), (wrap64 (x161_4 + 1)), y14_2_, y14_2_, H', ⟨y14_12_⟩, ⟨y14_13_⟩, ⟨y14_14_⟩, ⟨hB_⟩⟩
                    rw [if_pos c97] at H
                    have c97b0 : (((rd_T55 t521 x161_4).f0).toList == t527.toList) = true := beq_iff_eq.mpr c97
                    have c97b1 : (((rd_T55 t521 x161_4).f0).toList != t527.toList) = false := bne_eq_false_iff_eq.mpr c97
                    clear c97
                    replace H := Option.bind_eq_some_iff.mp H
                    obtain ⟨t531, A980, H⟩ := H
                    try dsimp only at H
                    have A98 := Aside0.mk A980
                    clear A980
                    as_aux_lemma =>
                     have H' := Aside0.mk H
                     clear H
                     have p529 : 0 ≤ (x161_4 : Int) := ode_
                     have q529 : x161_4 < (t521.length : Int) := ode_
                     obtain ⟨ad529, e529, hx529_0, hx529_1⟩ := at_T55 (Kd.R_reads' HO_159.out).2.2 x161_4 p529 q529
                     cases e529
                     replace p529 := eq_true p529
                     replace q529 := eq_true q529
                     go_wp2_with (first | ((with_reducible refine gate_dst (N := 26) rfl ?_); (try (refine gate_guard (by rfl) ?_; dsimp only)); refine box_event ?hg (N := 26) ?hd (cs := #[.string (⟨#[]⟩ : ByteArray), .int .i64 0]) (t := 55) ?hr ?_; (case hd => rfl); (case hg => rfl); (case hr => first | (go_simp; done) | (go_simp; rfl)); intro gb530 hg w99 hbox hb; have BK530 := aM_ (hbox); have GW530 := aM_ (gw_ w hg); have GE530 := aM_ (gw_ w hg); replace HO_18 := aM_ (Kd.R_below (Kd.R_elderB y14_10_ gb530 (Nat.le_of_eq hg.symm)) hb); replace HO_159 := aM_ (Kd.R_below (Kd.R_elderB y14_11_ gb530 (Nat.le_of_eq hg.symm)) hb); replace HB := aM_ (below_step hB_ hb); clear hb hbox hg; have hz100 := cf2_ BK530.out) | ((with_reducible refine gate_callee (f := 34) rfl ?_); refine goesM_ (some 173) Try.func34 #[.int .i64 (wrap64 (((rd_T55 t521 x161_4).f1) - t522))] ?_; (with_reducible refine (laws_pAbs.calls (wrap64 (((rd_T55 t521 x161_4).f1) - t522)) t531 _ A98.out).mono ?_); rintro e w' ⟨rfl, ⟨nd, rfl⟩⟩; refine ⟨_, rfl, ?_⟩))
                     go_roundg k4
                     case measure => have := HJ7.out; have := HJ17.out; have := HJ84.out; have := HK4.out; omega
                     case rel => exact ⟨(t531), (wrap64 (x161_4 + 1)), y14_2_, y14_2_, H', ⟨y14_12_⟩, ⟨y14_13_⟩, ⟨y14_14_⟩, ⟨hB_⟩⟩
                   rw [if_neg c94] at H
                   have c94b0 : decide (x161_4 < (t521.length : Int)) = false := decide_eq_false c94
                   clear c94
                   (first | rw [c94b0] | (simp only [i64_w, i32_w]; rw [c94b0]) | skip)
                   have HC103 := Aside0.mk H
                   clear H
                   go_upto_region 27 with (fail)
                   go_cut [180] (fun v180 wc => ∃ (kq : Nat) (x180_102 : Bool), v180 = .bool x180_102 ∧ Aside0 (laws_FnLoci.j4 kq l1 t521 t522 t527 x24_4 x180_102 = some r) ∧ Aside0 (kq ≤ k4) ∧ Aside0 (Kd.R k55 55 wc w.heap.size (fun _ => True) (.slice Ao87 t521.length co87) t521) ∧ Aside0 (Below w.heap.size w wc))
                   case first =>
                    as_aux_lemma =>
                     have H := HC103.out
                     clear HC103
                     by_cases c104 : x24_4 < 0
                     ·rw [if_pos c104] at H
                      have c104b0 : decide (x24_4 < 0) = true := decide_eq_true c104
                      clear c104
                      (first | rw [c104b0] | (simp only [i64_w, i32_w]; rw [c104b0]) | skip)
                      as_aux_lemma =>
                       have H' := Aside0.mk H
                       clear H
                       go_wp2
                       go_meet
                       case rel => exact ⟨_, (true), y14_2_, H', ⟨y14_15_⟩, ⟨y14_10_⟩, ⟨hB_⟩⟩
                     rw [if_neg c104] at H
                     have c104b0 : decide (x24_4 < 0) = false := decide_eq_false c104
                     clear c104
                     (first | rw [c104b0] | (simp only [i64_w, i32_w]; rw [c104b0]) | skip)
                     as_aux_lemma =>
                      have H' := Aside0.mk H
                      clear H
                      go_wp2
                      go_meet
                      case rel => exact ⟨_, (decide (x24_4 > 20)), y14_2_, H', ⟨y14_15_⟩, ⟨y14_10_⟩, ⟨hB_⟩⟩
                   case rest =>
                    as_aux_lemma =>
                     clear HC103
                     (try clear c1);(try clear c4);(try clear c17);(try clear c91);(try clear c93);(try clear c94);(try clear c94b0)
                     obtain ⟨kq, x180_102, rfl, HA, HJ102, HO_18, HB⟩ := hcut
                     cases kq with
                     | zero => exact absurd HA.out (by simp [laws_FnLoci.j4])
                     | succ kj102 =>
                      as_aux_lemma =>
                       have H := HA.out
                       clear HA
                       simp only [laws_FnLoci.j4] at H
                       by_cases c105 : x180_102 = true
                       ·subst c105
                        replace H := ip_ H rfl
                        as_aux_lemma =>
                         obtain rfl := Option.some.inj H
                         go_wp2
                         go_ret
                         exact ⟨rT_, hB_⟩
                       replace c105 := Bool.eq_false_iff.mpr c105
                       subst c105
                       replace H := in_ H (show ¬ (false = true) by decide)
                       have H' := Aside0.mk H
                       clear H
                       go_wp2
                       go_loopg [183] kj102 (fun kq v183 w' => ∃ (x183_6 : Int), v183 = .int .i64 x183_6 ∧ Aside0 (laws_FnLoci.l1 kq l1 t522 t527 x24_4 t521 (t521.length : Int) x183_6 = some r) ∧ Aside0 (kq ≤ kj102) ∧ Aside0 (Kd.R k55 55 w' w.heap.size (fun _ => True) (.slice Ao87 t521.length co87) t521) ∧ Aside0 (Below w.heap.size w w'))
                       case atStart => exact ⟨(0), y14_2_, H', ⟨Nat.le_refl _⟩, ⟨y14_10_⟩, ⟨hB_⟩⟩
                       case round =>
                        as_aux_lemma =>
                         clear H'
                         (try clear c1);(try clear c4);(try clear c17);(try clear c91);(try clear c93);(try clear c94);(try clear c94b0);(try clear c105)
                         obtain ⟨x183_6, rfl, HA, HK6, HO_181, HB⟩ := hrel
                         cases gk with
                         | zero => exact absurd HA.out (by simp [laws_FnLoci.l1])
                         | succ k6 =>
                          as_aux_lemma =>
                           have H := HA.out
                           clear HA
                           simp only [laws_FnLoci.l1] at H
                           by_cases c106 : x183_6 < (t521.length : Int)
                           rotate_left
                           ·rw [if_neg c106] at H
                            have c106b0 : decide (x183_6 < (t521.length : Int)) = false := decide_eq_false c106
                            clear c106
                            as_aux_lemma =>
                             have H' := Aside0.mk H
                             clear H
                             go_wp2
                             go_meet
                             case rel => exact ⟨_, H', ⟨by have := HJ7.out; have := HJ17.out; have := HJ84.out; have := HK4.out; have := HJ102.out; have := HK6.out; first | omega | exact Nat.le_refl _⟩, ⟨hB_⟩⟩
                           rw [if_pos c106] at H
                           have c106b0 : decide (x183_6 < (t521.length : Int)) = true := decide_eq_true c106
                           clear c106
                           by_cases c107 : 0 ≤ x183_6
                           rotate_left
                           ·rw [if_neg c107] at H
                            exact absurd H (by simp)
                           rw [if_pos c107] at H
                           have c107b0 : decide (0 ≤ x183_6) = true := decide_eq_true c107
                           clear c107
                           by_cases c108 : x183_6 < (t521.length : Int)
                           rotate_left
                           ·rw [if_neg c108] at H
                            exact absurd H (by simp)
                           rw [if_pos c108] at H
                           have c108b0 : decide (x183_6 < (t521.length : Int)) = true := decide_eq_true c108
                           clear c108
                           by_cases c109 : ((rd_T55 t521 x183_6).f0).toList = t527.toList
                           ·rw [if_pos c109] at H
                            have c109b0 : (((rd_T55 t521 x183_6).f0).toList == t527.toList) = true := beq_iff_eq.mpr c109
                            have c109b1 : (((rd_T55 t521 x183_6).f0).toList != t527.toList) = false := bne_eq_false_iff_eq.mpr c109
                            clear c109
                            as_aux_lemma =>
                             have H' := Aside0.mk H
                             clear H
                             have p532 : 0 ≤ (x183_6 : Int) := ode_
                             have q532 : x183_6 < (t521.length : Int) := ode_
                             obtain ⟨ad532, e532, hx532_0, hx532_1⟩ := at_T55 (Kd.R_reads' HO_181.out).2.2 x183_6 p532 q532
                             cases e532
                             replace p532 := eq_true p532
                             replace q532 := eq_true q532
                             go_wp2_with (first | ((with_reducible refine gate_dst (N := 28) rfl ?_); (try (refine gate_guard (by rfl) ?_; dsimp only)); refine box_event ?hg (N := 28) ?hd (cs := #[.string (⟨#[]⟩ : ByteArray), .int .i64 0]) (t := 55) ?hr ?_; (case hd => rfl); (case hg => rfl); (case hr => first | (go_simp; done) | (go_simp; rfl)); intro gb533 hg w110 hbox hb; have BK533 := aM_ (hbox); have GW533 := aM_ (gw_ w hg); have GE533 := aM_ (gw_ w hg); replace HO_181 := aM_ (Kd.R_below (Kd.R_elderB y14_16_ gb533 (Nat.le_of_eq hg.symm)) hb); replace HB := aM_ (below_step hB_ hb); clear hb hbox hg; have hz111 := cf2_ BK533.out))
                             go_roundg k6
                             case measure => have := HJ7.out; have := HJ17.out; have := HJ84.out; have := HK4.out; have := HJ102.out; have := HK6.out; omega
                             case rel => exact ⟨(wrap64 (x183_6 + 1)), y14_2_, H', ⟨y14_17_⟩, ⟨y14_18_⟩, ⟨hB_⟩⟩
                           rw [if_neg c109] at H
                           have c109b0 : (((rd_T55 t521 x183_6).f0).toList == t527.toList) = false := beq_eq_false_iff_ne.mpr c109
                           have c109b1 : (((rd_T55 t521 x183_6).f0).toList != t527.toList) = true := bne_iff_ne.mpr c109
                           replace H := Option.bind_eq_some_iff.mp H
                           obtain ⟨t534, A1120, H⟩ := H
                           try dsimp only at H
                           have A112 := Aside0.mk A1120
                           clear A1120
                           by_cases c113 : t534 ≤ x24_4
                           ·rw [if_pos c113] at H
                            have c113b0 : decide (t534 ≤ x24_4) = true := decide_eq_true c113
                            clear c113
                            as_aux_lemma =>
                             obtain rfl := Option.some.inj H
                             have p532 : 0 ≤ (x183_6 : Int) := ode_
                             have q532 : x183_6 < (t521.length : Int) := ode_
                             obtain ⟨ad532, e532, hx532_0, hx532_1⟩ := at_T55 (Kd.R_reads' HO_181.out).2.2 x183_6 p532 q532
                             cases e532
                             replace p532 := eq_true p532
                             replace q532 := eq_true q532
                             go_wp2_with (first | ((with_reducible refine gate_dst (N := 28) rfl ?_); (try (refine gate_guard (by rfl) ?_; dsimp only)); refine box_event ?hg (N := 28) ?hd (cs := #[.string (⟨#[]⟩ : ByteArray), .int .i64 0]) (t := 55) ?hr ?_; (case hd => rfl); (case hg => rfl); (case hr => first | (go_simp; done) | (go_simp; rfl)); intro gb533 hg w114 hbox hb; have BK533 := aM_ (hbox); have GW533 := aM_ (gw_ w hg); have GE533 := aM_ (gw_ w hg); replace HO_181 := aM_ (Kd.R_below (Kd.R_elderB y14_16_ gb533 (Nat.le_of_eq hg.symm)) hb); replace HB := aM_ (below_step hB_ hb); clear hb hbox hg; have hz115 := cf2_ BK533.out) | (go_at_call 34; (with_reducible refine (laws_pAbs.calls (wrap64 (((rd_T55 t521 x183_6).f1) - t522)) t534 _ A112.out).mono ?_); rintro e w' ⟨rfl, ⟨nd, rfl⟩⟩))
                             go_ret
                             exact ⟨rT_, hB_⟩
                           rw [if_neg c113] at H
                           have c113b0 : decide (t534 ≤ x24_4) = false := decide_eq_false c113
                           clear c113
                           as_aux_lemma =>
                            have H' := Aside0.mk H
                            clear H
                            have p532 : 0 ≤ (x183_6 : Int) := ode_
                            have q532 : x183_6 < (t521.length : Int) := ode_
                            obtain ⟨ad532, e532, hx532_0, hx532_1⟩ := at_T55 (Kd.R_reads' HO_181.out).2.2 x183_6 p532 q532
                            cases e532
                            replace p532 := eq_true p532
                            replace q532 := eq_true q532
                            go_wp2_with (first | ((with_reducible refine gate_dst (N := 28) rfl ?_); (try (refine gate_guard (by rfl) ?_; dsimp only)); refine box_event ?hg (N := 28) ?hd (cs := #[.string (⟨#[]⟩ : ByteArray), .int .i64 0]) (t := 55) ?hr ?_; (case hd => rfl); (case hg => rfl); (case hr => first | (go_simp; done) | (go_simp; rfl)); intro gb533 hg w116 hbox hb; have BK533 := aM_ (hbox); have GW533 := aM_ (gw_ w hg); have GE533 := aM_ (gw_ w hg); replace HO_181 := aM_ (Kd.R_below (Kd.R_elderB y14_16_ gb533 (Nat.le_of_eq hg.symm)) hb); replace HB := aM_ (below_step hB_ hb); clear hb hbox hg; have hz117 := cf2_ BK533.out) | (go_at_call 34; (with_reducible refine (laws_pAbs.calls (wrap64 (((rd_T55 t521 x183_6).f1) - t522)) t534 _ A112.out).mono ?_); rintro e w' ⟨rfl, ⟨nd, rfl⟩⟩))
                            go_roundg k6
                            case measure => have := HJ7.out; have := HJ17.out; have := HJ84.out; have := HK4.out; have := HJ102.out; have := HK6.out; omega
                            case rel => exact ⟨(wrap64 (x183_6 + 1)), y14_2_, H', ⟨y14_17_⟩, ⟨y14_18_⟩, ⟨hB_⟩⟩
             case rest =>
              as_aux_lemma =>
               clear HC92
               (try clear c1);(try clear c4);(try clear c17);(try clear c91)
               obtain ⟨kq, HA, HJ91, HB⟩ := hcut
               cases kq with
               | zero => exact absurd HA.out (by simp [laws_FnLoci.j6])
               | succ kj91 =>
                as_aux_lemma =>
                 have H := HA.out
                 clear HA
                 simp only [laws_FnLoci.j6] at H
                 replace H := Option.bind_eq_some_iff.mp H
                 obtain ⟨⟨t535, t536⟩, A1180, H⟩ := H
                 try dsimp only at H
                 have A118 := Aside0.mk A1180
                 clear A1180
                 replace H := Option.bind_eq_some_iff.mp H
                 obtain ⟨⟨t539, t540⟩, A1190, H⟩ := H
                 try dsimp only at H
                 have A119 := Aside0.mk A1190
                 clear A1190
                 replace H := Option.bind_eq_some_iff.mp H
                 obtain ⟨⟨t543, t544⟩, A1200, H⟩ := H
                 try dsimp only at H
                 have A120 := Aside0.mk A1200
                 clear A1200
                 replace H := Option.bind_eq_some_iff.mp H
                 obtain ⟨⟨t547, t548, t549⟩, A1210, H⟩ := H
                 try dsimp only at H
                 have A121 := Aside0.mk A1210
                 clear A1210
                 replace H := Option.bind_eq_some_iff.mp H
                 obtain ⟨⟨t550, t551, t552⟩, A1220, H⟩ := H
                 try dsimp only at H
                 have A122 := Aside0.mk A1220
                 clear A1220
                 have HC123 := Aside0.mk H
                 clear H
                 go_upto_region 40 with (first | ((with_reducible refine gate_callee (f := 35) rfl ?_); refine goesM_ (some 203) Try.func35 #[.slice A1 l1.length c1] ?_; (with_reducible refine (spec_DrawShiftRole.calls kj91 _ _ l1 t535 t536 _ ?side1 ?side2 A118.out).mono ?_); (case side1 => repeat (first | exact (Kd.C_below HR1.out HB.out) | (with_reducible first | apply cA_ | apply cN_ | apply cD_))); (case side2 => exact HC1.out); rintro e w124 ⟨v537, rfl, ho0, hb⟩; refine ⟨_, rfl, ?_⟩; have HO538 := aM_ (Kd.R_lower ho0 (below_size hB_)); replace HB := aM_ (below_step hB_ hb); (try clear hb); (try clear ho0); obtain ⟨Ao125, co125, eo125⟩ := Kd.R_slice HO538.out; subst eo125) | ((with_reducible refine gate_callee (f := 15) rfl ?_); refine goesM_ (some 209) Try.func15 #[.slice Ao125 t535.length co125, .string t536] ?_; (with_reducible refine (impl_ShiftRole.calls kj91 _ _ t535 t536 t539 t540 _ ?side1 ?side2 A119.out).mono ?_); (case side1 => repeat (first | exact (Kd.R_reads' HO538.out).2.2 | (with_reducible first | apply cA_ | apply cN_ | apply cD_))); (case side2 => exact (Kd.R_reads' HO538.out).2.1); rintro e w126 ⟨v541, rfl, ho0, hb⟩; refine ⟨_, rfl, ?_⟩; have HO542 := aM_ (Kd.R_lower (Kd.R_new' ho0 (Kd.R_lt y14_19_)) (below_size hB_)); replace HO538 := aM_ (Kd.R_elder' y14_19_ (Kd.R_base ho0) hb); replace HB := aM_ (below_step hB_ hb); (try clear hb); (try clear ho0)) | ((with_reducible refine gate_callee (f := 14) rfl ?_); refine goesM_ (some 215) Try.func14 #[.slice Ao125 t535.length co125, .string t536] ?_; (with_reducible refine (spec_ShiftRole.calls kj91 _ _ t535 t536 t543 t544 _ ?side1 ?side2 A120.out).mono ?_); (case side1 => repeat (first | exact (Kd.R_reads' HO538.out).2.2 | (with_reducible first | apply cA_ | apply cN_ | apply cD_))); (case side2 => exact (Kd.R_reads' HO538.out).2.1); rintro e w127 ⟨v545, rfl, ho0, hb⟩; refine ⟨_, rfl, ?_⟩; have HO546 := aM_ (Kd.R_lower (Kd.R_new' (Kd.R_new' ho0 (Kd.R_lt y14_19_)) (Kd.R_lt y14_20_)) (below_size hB_)); replace HO538 := aM_ (Kd.R_elder' y14_19_ (Kd.R_base ho0) hb); replace HO542 := aM_ (Kd.R_elder' y14_20_ (Kd.R_base ho0) hb); replace HB := aM_ (below_step hB_ hb); (try clear hb); (try clear ho0)) | ((with_reducible refine gate_callee (f := 36) rfl ?_); refine goesM_ (some 221) Try.func36 #[.slice Ao125 t535.length co125, .string t536] ?_; (with_reducible refine (impl_NearestTo.calls kj91 _ _ t535 t536 t547 t548 t549 _ ?side1 ?side2 A121.out).mono ?_); (case side1 => repeat (first | exact (Kd.R_reads' HO538.out).2.2 | (with_reducible first | apply cA_ | apply cN_ | apply cD_))); (case side2 => exact (Kd.R_reads' HO538.out).2.1); rintro e w128 ⟨rfl, hb⟩; refine ⟨_, rfl, ?_⟩; replace HO538 := aM_ (Kd.R_below y14_19_ hb); replace HO542 := aM_ (Kd.R_below y14_20_ hb); replace HO546 := aM_ (Kd.R_below y14_21_ hb); replace HB := aM_ (below_step hB_ hb); (try clear hb)) | ((with_reducible refine gate_callee (f := 37) rfl ?_); refine goesM_ (some 228) Try.func37 #[.slice Ao125 t535.length co125, .string t536] ?_; (with_reducible refine (spec_NearestTo.calls kj91 _ _ t535 t536 t550 t551 t552 _ ?side1 ?side2 A122.out).mono ?_); (case side1 => repeat (first | exact (Kd.R_reads' HO538.out).2.2 | (with_reducible first | apply cA_ | apply cN_ | apply cD_))); (case side2 => exact (Kd.R_reads' HO538.out).2.1); rintro e w129 ⟨rfl, hb⟩; refine ⟨_, rfl, ?_⟩; replace HO538 := aM_ (Kd.R_below y14_19_ hb); replace HO542 := aM_ (Kd.R_below y14_20_ hb); replace HO546 := aM_ (Kd.R_below y14_21_ hb); replace HB := aM_ (below_step hB_ hb); (try clear hb)))
                 (try simp only [Act.put, List.setIfInBounds_toArray, List.set_cons_zero, List.set_cons_succ])
                 go_cut [255] (fun v255 wc => ∃ (kq : Nat) (x255_122 : Bool), v255 = .bool x255_122 ∧ Aside0 (laws_FnLoci.j7 kq t535 t536 t539 t540 t543 t549 t550 t551 x255_122 = some r) ∧ Aside0 (kq ≤ kj91) ∧ Aside0 (Kd.R k55 55 wc w.heap.size (fun k_ => some k_ ≠ (v541 : Value).ownBlock ∧ some k_ ≠ (v545 : Value).ownBlock) (.slice Ao125 t535.length co125) t535) ∧ Aside0 (Kd.R k55 55 wc w.heap.size (fun k_ => some k_ ≠ ((.slice Ao125 t535.length co125) : Value).ownBlock ∧ some k_ ≠ (v545 : Value).ownBlock) v541 t539) ∧ Aside0 (Kd.R k55 55 wc w.heap.size (fun k_ => some k_ ≠ ((.slice Ao125 t535.length co125) : Value).ownBlock ∧ some k_ ≠ (v541 : Value).ownBlock) v545 t543) ∧ Aside0 (Below w.heap.size w wc))
                 case first =>
                  as_aux_lemma =>
                   have H := HC123.out
                   clear HC123
                   by_cases c130 : (t540 != t544) = true
                   ·rw [if_pos c130] at H
                    have c130b0 : (t540 != t544) = true := c130
                    (try (have c130b1 : decide (t540 = t544) = false := by simpa using c130))
                    (try (have c130b2 : (t540 == t544) = false := by simpa using c130))
                    (try (have c130b3 : ¬ (t540 = t544) := by simpa using c130))
                    clear c130
                    (first | rw [c130b0] | (simp only [i64_w, i32_w]; rw [c130b0]) | skip)
                    as_aux_lemma =>
                     have H' := Aside0.mk H
                     clear H
                     go_wp2
                     go_meet
                     case rel => exact ⟨_, (true), y14_2_, H', ⟨y14_22_⟩, ⟨y14_23_⟩, ⟨y14_24_⟩, ⟨y14_25_⟩, ⟨hB_⟩⟩
                   rw [if_neg c130] at H
                   have c130b0 : (t540 != t544) = false := by simpa using c130
                   (try (have c130b1 : decide (t540 = t544) = true := by simpa using c130))
                   (try (have c130b2 : (t540 == t544) = true := by simpa using c130))
                   clear c130
                   (first | rw [c130b0] | (simp only [i64_w, i32_w]; rw [c130b0]) | skip)
                   replace H := Option.bind_eq_some_iff.mp H
                   obtain ⟨t553, A1310, H⟩ := H
                   try dsimp only at H
                   have A131 := Aside0.mk A1310
                   clear A1310
                   by_cases c132 : t553 = true
                   rotate_left
                   ·replace c132 := Bool.eq_false_iff.mpr c132
                    subst c132
                    replace H := in_ H (show ¬ (false = true) by decide)
                    as_aux_lemma =>
                     have H' := Aside0.mk H
                     clear H
                     obtain ⟨Ao141, co141, eo141⟩ := Kd.R_slice HO542.out
                     subst eo141
                     obtain ⟨Ao142, co142, eo142⟩ := Kd.R_slice HO546.out
                     subst eo142
                     go_wp2_with (first | (go_at_call 27; (with_reducible refine (laws_pSameLoci.calls kj91 _ _ t539 _ _ t543 false _ ?side1 ?side2 ?side3 ?side4 A131.out).mono ?_); (case side1 => repeat (first | exact (Kd.R_reads' HO542.out).2.2 | (with_reducible first | apply cA_ | apply cN_ | apply cD_))); (case side2 => exact (Kd.R_reads' HO542.out).2.1); (case side3 => repeat (first | exact (Kd.R_reads' HO546.out).2.2 | (with_reducible first | apply cA_ | apply cN_ | apply cD_))); (case side4 => exact (Kd.R_reads' HO546.out).2.1); rintro e w' ⟨rfl, ⟨nd, rfl⟩⟩))
                     go_meet
                     case rel => exact ⟨_, (true), y14_2_, H', ⟨y14_22_⟩, ⟨y14_23_⟩, ⟨y14_24_⟩, ⟨y14_25_⟩, ⟨hB_⟩⟩
                   subst c132
                   replace H := ip_ H rfl
                   by_cases c133 : (t549 != t552) = true
                   ·rw [if_pos c133] at H
                    have c133b0 : (t549 != t552) = true := c133
                    (try (have c133b1 : decide (t549 = t552) = false := by simpa using c133))
                    (try (have c133b2 : (t549 == t552) = false := by simpa using c133))
                    (try (have c133b3 : ¬ (t549 = t552) := by simpa using c133))
                    clear c133
                    as_aux_lemma =>
                     have H' := Aside0.mk H
                     clear H
                     obtain ⟨Ao134, co134, eo134⟩ := Kd.R_slice HO542.out
                     subst eo134
                     obtain ⟨Ao135, co135, eo135⟩ := Kd.R_slice HO546.out
                     subst eo135
                     go_wp2_with (first | (go_at_call 27; (with_reducible refine (laws_pSameLoci.calls kj91 _ _ t539 _ _ t543 true _ ?side1 ?side2 ?side3 ?side4 A131.out).mono ?_); (case side1 => repeat (first | exact (Kd.R_reads' HO542.out).2.2 | (with_reducible first | apply cA_ | apply cN_ | apply cD_))); (case side2 => exact (Kd.R_reads' HO542.out).2.1); (case side3 => repeat (first | exact (Kd.R_reads' HO546.out).2.2 | (with_reducible first | apply cA_ | apply cN_ | apply cD_))); (case side4 => exact (Kd.R_reads' HO546.out).2.1); rintro e w' ⟨rfl, ⟨nd, rfl⟩⟩))
                     go_meet
                     case rel => exact ⟨_, (true), y14_2_, H', ⟨y14_22_⟩, ⟨y14_23_⟩, ⟨y14_24_⟩, ⟨y14_25_⟩, ⟨hB_⟩⟩
                   rw [if_neg c133] at H
                   have c133b0 : (t549 != t552) = false := by simpa using c133
                   (try (have c133b1 : decide (t549 = t552) = true := by simpa using c133))
                   (try (have c133b2 : (t549 == t552) = true := by simpa using c133))
                   clear c133
                   by_cases c136 : t547.toList = t550.toList
                   rotate_left
                   ·rw [if_neg c136] at H
                    have c136b0 : (t547.toList == t550.toList) = false := beq_eq_false_iff_ne.mpr c136
                    have c136b1 : (t547.toList != t550.toList) = true := bne_iff_ne.mpr c136
                    as_aux_lemma =>
                     have H' := Aside0.mk H
                     clear H
                     obtain ⟨Ao139, co139, eo139⟩ := Kd.R_slice HO542.out
                     subst eo139
                     obtain ⟨Ao140, co140, eo140⟩ := Kd.R_slice HO546.out
                     subst eo140
                     go_wp2_with (first | (go_at_call 27; (with_reducible refine (laws_pSameLoci.calls kj91 _ _ t539 _ _ t543 true _ ?side1 ?side2 ?side3 ?side4 A131.out).mono ?_); (case side1 => repeat (first | exact (Kd.R_reads' HO542.out).2.2 | (with_reducible first | apply cA_ | apply cN_ | apply cD_))); (case side2 => exact (Kd.R_reads' HO542.out).2.1); (case side3 => repeat (first | exact (Kd.R_reads' HO546.out).2.2 | (with_reducible first | apply cA_ | apply cN_ | apply cD_))); (case side4 => exact (Kd.R_reads' HO546.out).2.1); rintro e w' ⟨rfl, ⟨nd, rfl⟩⟩))
                     go_meet
                     case rel => exact ⟨_, (true), y14_2_, H', ⟨y14_22_⟩, ⟨y14_23_⟩, ⟨y14_24_⟩, ⟨y14_25_⟩, ⟨hB_⟩⟩
                   rw [if_pos c136] at H
                   have c136b0 : (t547.toList == t550.toList) = true := beq_iff_eq.mpr c136
                   have c136b1 : (t547.toList != t550.toList) = false := bne_eq_false_iff_eq.mpr c136
                   clear c136
                   as_aux_lemma =>
                    have H' := Aside0.mk H
                    clear H
                    obtain ⟨Ao137, co137, eo137⟩ := Kd.R_slice HO542.out
                    subst eo137
                    obtain ⟨Ao138, co138, eo138⟩ := Kd.R_slice HO546.out
                    subst eo138
                    go_wp2_with (first | (go_at_call 27; (with_reducible refine (laws_pSameLoci.calls kj91 _ _ t539 _ _ t543 true _ ?side1 ?side2 ?side3 ?side4 A131.out).mono ?_); (case side1 => repeat (first | exact (Kd.R_reads' HO542.out).2.2 | (with_reducible first | apply cA_ | apply cN_ | apply cD_))); (case side2 => exact (Kd.R_reads' HO542.out).2.1); (case side3 => repeat (first | exact (Kd.R_reads' HO546.out).2.2 | (with_reducible first | apply cA_ | apply cN_ | apply cD_))); (case side4 => exact (Kd.R_reads' HO546.out).2.1); rintro e w' ⟨rfl, ⟨nd, rfl⟩⟩))
                    go_meet
                    case rel => exact ⟨_, ((t548 != t551)), y14_2_, H', ⟨y14_22_⟩, ⟨y14_23_⟩, ⟨y14_24_⟩, ⟨y14_25_⟩, ⟨hB_⟩⟩
                 case rest =>
                  as_aux_lemma =>
                   clear HC123
                   (try clear c1);(try clear c4);(try clear c17);(try clear c91)
                   obtain ⟨kq, x255_122, rfl, HA, HJ122, HO_29, HO_31, HO_33, HB⟩ := hcut
                   cases kq with
                   | zero => exact absurd HA.out (by simp [laws_FnLoci.j7])
                   | succ kj122 =>
                    as_aux_lemma =>
                     have H := HA.out
                     clear HA
                     simp only [laws_FnLoci.j7] at H
                     by_cases c143 : x255_122 = true
                     ·subst c143
                      replace H := ip_ H rfl
                      as_aux_lemma =>
                       obtain rfl := Option.some.inj H
                       go_wp2
                       go_ret
                       exact ⟨rT_, hB_⟩
                     replace c143 := Bool.eq_false_iff.mpr c143
                     subst c143
                     replace H := in_ H (show ¬ (false = true) by decide)
                     have HC144 := Aside0.mk H
                     clear H
                     go_upto_if 256 with (fail)
                     go_cut [] (fun wc => ∃ (kq : Nat), Aside0 (laws_FnLoci.j8 kq t535 t536 t549 t550 t551 = some r) ∧ Aside0 (kq ≤ kj122) ∧ Aside0 (Kd.R k55 55 wc w.heap.size (fun _ => True) (.slice Ao125 t535.length co125) t535) ∧ Aside0 (Below w.heap.size w wc))
                     case first =>
                      as_aux_lemma =>
                       have H := HC144.out
                       clear HC144
                       by_cases c145 : t540 = true
                       rotate_left
                       ·replace c145 := Bool.eq_false_iff.mpr c145
                        subst c145
                        replace H := in_ H (show ¬ (false = true) by decide)
                        as_aux_lemma =>
                         have H' := Aside0.mk H
                         clear H
                         go_wp2
                         go_meet
                         case rel => exact ⟨_, H', ⟨y14_26_⟩, ⟨y14_27_⟩, ⟨hB_⟩⟩
                       subst c145
                       replace H := ip_ H rfl
                       replace H := Option.bind_eq_some_iff.mp H
                       obtain ⟨⟨t554, t555⟩, A1460, H⟩ := H
                       try dsimp only at H
                       have A146 := Aside0.mk A1460
                       clear A1460
                       by_cases c147 : t555 = true
                       rotate_left
                       ·replace c147 := Bool.eq_false_iff.mpr c147
                        subst c147
                        replace H := in_ H (show ¬ (false = true) by decide)
                        as_aux_lemma =>
                         obtain rfl := Option.some.inj H
                         obtain ⟨Ao165, co165, eo165⟩ := Kd.R_slice HO_31.out
                         subst eo165
                         go_wp2_with (first | ((with_reducible refine gate_callee (f := 28) rfl ?_); refine goesM_ (some 259) Try.func28 #[.slice Ao165 t539.length co165, .int .i64 0] ?_; (with_reducible refine (impl_PointsAt.calls kj122 _ _ t539 0 t554 false _ ?side1 ?side2 A146.out).mono ?_); (case side1 => repeat (first | exact (Kd.R_reads' HO_31.out).2.2 | (with_reducible first | apply cA_ | apply cN_ | apply cD_))); (case side2 => exact (Kd.R_reads' HO_31.out).2.1); rintro e w166 ⟨rfl, hb⟩; refine ⟨_, rfl, ?_⟩; replace HO_29 := aM_ (Kd.R_below y14_28_ hb); replace HO_31 := aM_ (Kd.R_below y14_29_ hb); replace HO_33 := aM_ (Kd.R_below y14_30_ hb); replace HB := aM_ (below_step hB_ hb); (try clear hb)))
                         go_ret
                         exact ⟨rT_, hB_⟩
                       subst c147
                       replace H := ip_ H rfl
                       by_cases c148 : t554.toList = ([115, 105, 103, 110, 101, 114] : List UInt8)
                       rotate_left
                       ·rw [if_neg c148] at H
                        have c148b0 : (t554.toList == ([115, 105, 103, 110, 101, 114] : List UInt8)) = false := beq_eq_false_iff_ne.mpr c148
                        have c148b1 : (t554.toList != ([115, 105, 103, 110, 101, 114] : List UInt8)) = true := bne_iff_ne.mpr c148
                        (first | rw [c148b0] | (simp only [i64_w, i32_w]; rw [c148b0]) | skip)
                        as_aux_lemma =>
                         obtain rfl := Option.some.inj H
                         obtain ⟨Ao163, co163, eo163⟩ := Kd.R_slice HO_31.out
                         subst eo163
                         go_wp2_with (first | ((with_reducible refine gate_callee (f := 28) rfl ?_); refine goesM_ (some 259) Try.func28 #[.slice Ao163 t539.length co163, .int .i64 0] ?_; (with_reducible refine (impl_PointsAt.calls kj122 _ _ t539 0 t554 true _ ?side1 ?side2 A146.out).mono ?_); (case side1 => repeat (first | exact (Kd.R_reads' HO_31.out).2.2 | (with_reducible first | apply cA_ | apply cN_ | apply cD_))); (case side2 => exact (Kd.R_reads' HO_31.out).2.1); rintro e w164 ⟨rfl, hb⟩; refine ⟨_, rfl, ?_⟩; replace HO_29 := aM_ (Kd.R_below y14_28_ hb); replace HO_31 := aM_ (Kd.R_below y14_29_ hb); replace HO_33 := aM_ (Kd.R_below y14_30_ hb); replace HB := aM_ (below_step hB_ hb); (try clear hb)))
                         go_ret
                         exact ⟨rT_, hB_⟩
                       rw [if_pos c148] at H
                       have c148b0 : (t554.toList == ([115, 105, 103, 110, 101, 114] : List UInt8)) = true := beq_iff_eq.mpr c148
                       have c148b1 : (t554.toList != ([115, 105, 103, 110, 101, 114] : List UInt8)) = false := bne_eq_false_iff_eq.mpr c148
                       clear c148
                       (first | rw [c148b0] | (simp only [i64_w, i32_w]; rw [c148b0]) | skip)
                       by_cases c149 : (t543.length : Int) = (t535.length : Int)
                       rotate_left
                       ·rw [if_neg c149] at H
                        have c149b0 : ((t543.length : Int) == (t535.length : Int)) = false := beq_eq_false_iff_ne.mpr c149
                        have c149b1 : ((t543.length : Int) != (t535.length : Int)) = true := bne_iff_ne.mpr c149
                        have c149b2 : (t543.length == t535.length) = false := by first | simpa using c149 | (simp at c149 ⊢; omega)
                        as_aux_lemma =>
                         obtain rfl := Option.some.inj H
                         obtain ⟨Ao160, co160, eo160⟩ := Kd.R_slice HO_31.out
                         subst eo160
                         go_wp2_with (first | ((with_reducible refine gate_callee (f := 28) rfl ?_); refine goesM_ (some 259) Try.func28 #[.slice Ao160 t539.length co160, .int .i64 0] ?_; (with_reducible refine (impl_PointsAt.calls kj122 _ _ t539 0 t554 true _ ?side1 ?side2 A146.out).mono ?_); (case side1 => repeat (first | exact (Kd.R_reads' HO_31.out).2.2 | (with_reducible first | apply cA_ | apply cN_ | apply cD_))); (case side2 => exact (Kd.R_reads' HO_31.out).2.1); rintro e w161 ⟨rfl, hb⟩; refine ⟨_, rfl, ?_⟩; replace HO_29 := aM_ (Kd.R_below y14_28_ hb); replace HO_31 := aM_ (Kd.R_below y14_29_ hb); replace HO_33 := aM_ (Kd.R_below y14_30_ hb); replace HB := aM_ (below_step hB_ hb); (try clear hb); obtain ⟨Ao162, co162, eo162⟩ := Kd.R_slice HO_33.out; subst eo162))
                         go_ret
                         exact ⟨rT_, hB_⟩
                       rw [if_pos c149] at H
                       have c149b0 : ((t543.length : Int) == (t535.length : Int)) = true := beq_iff_eq.mpr c149
                       have c149b1 : ((t543.length : Int) != (t535.length : Int)) = false := bne_eq_false_iff_eq.mpr c149
                       have c149b2 : (t543.length == t535.length) = true := by first | simpa using c149 | (simp at c149 ⊢; omega)
                       clear c149
                       replace H := Option.bind_eq_some_iff.mp H
                       obtain ⟨t556, A1500, H⟩ := H
                       try dsimp only at H
                       have A150 := Aside0.mk A1500
                       clear A1500
                       by_cases c151 : t556 = true
                       rotate_left
                       ·replace c151 := Bool.eq_false_iff.mpr c151
                        subst c151
                        replace H := in_ H (show ¬ (false = true) by decide)
                        as_aux_lemma =>
                         obtain rfl := Option.some.inj H
                         obtain ⟨Ao156, co156, eo156⟩ := Kd.R_slice HO_31.out
                         subst eo156
                         go_wp2_with (first | ((with_reducible refine gate_callee (f := 28) rfl ?_); refine goesM_ (some 259) Try.func28 #[.slice Ao156 t539.length co156, .int .i64 0] ?_; (with_reducible refine (impl_PointsAt.calls kj122 _ _ t539 0 t554 true _ ?side1 ?side2 A146.out).mono ?_); (case side1 => repeat (first | exact (Kd.R_reads' HO_31.out).2.2 | (with_reducible first | apply cA_ | apply cN_ | apply cD_))); (case side2 => exact (Kd.R_reads' HO_31.out).2.1); rintro e w157 ⟨rfl, hb⟩; refine ⟨_, rfl, ?_⟩; replace HO_29 := aM_ (Kd.R_below y14_28_ hb); replace HO_31 := aM_ (Kd.R_below y14_29_ hb); replace HO_33 := aM_ (Kd.R_below y14_30_ hb); replace HB := aM_ (below_step hB_ hb); (try clear hb); obtain ⟨Ao158, co158, eo158⟩ := Kd.R_slice HO_33.out; subst eo158) | (go_at_call 31; (with_reducible refine (impl_AreLoci.calls kj122 _ _ t539 false _ ?side1 ?side2 A150.out).mono ?_); (case side1 => repeat (first | exact (Kd.R_reads' HO_31.out).2.2 | (with_reducible first | apply cA_ | apply cN_ | apply cD_))); (case side2 => exact (Kd.R_reads' HO_31.out).2.1); rintro e w159 ⟨rfl, hb⟩; replace HO_29 := aM_ (Kd.R_below y14_28_ hb); replace HO_31 := aM_ (Kd.R_below y14_29_ hb); replace HO_33 := aM_ (Kd.R_below y14_30_ hb); replace HB := aM_ (below_step hB_ hb); (try clear hb)))
                         go_ret
                         exact ⟨rT_, hB_⟩
                       subst c151
                       replace H := ip_ H rfl
                       as_aux_lemma =>
                        have H' := Aside0.mk H
                        clear H
                        obtain ⟨Ao152, co152, eo152⟩ := Kd.R_slice HO_31.out
                        subst eo152
                        go_wp2_with (first | ((with_reducible refine gate_callee (f := 28) rfl ?_); refine goesM_ (some 259) Try.func28 #[.slice Ao152 t539.length co152, .int .i64 0] ?_; (with_reducible refine (impl_PointsAt.calls kj122 _ _ t539 0 t554 true _ ?side1 ?side2 A146.out).mono ?_); (case side1 => repeat (first | exact (Kd.R_reads' HO_31.out).2.2 | (with_reducible first | apply cA_ | apply cN_ | apply cD_))); (case side2 => exact (Kd.R_reads' HO_31.out).2.1); rintro e w153 ⟨rfl, hb⟩; refine ⟨_, rfl, ?_⟩; replace HO_29 := aM_ (Kd.R_below y14_28_ hb); replace HO_31 := aM_ (Kd.R_below y14_29_ hb); replace HO_33 := aM_ (Kd.R_below y14_30_ hb); replace HB := aM_ (below_step hB_ hb); (try clear hb); obtain ⟨Ao154, co154, eo154⟩ := Kd.R_slice HO_33.out; subst eo154) | (go_at_call 31; (with_reducible refine (impl_AreLoci.calls kj122 _ _ t539 true _ ?side1 ?side2 A150.out).mono ?_); (case side1 => repeat (first | exact (Kd.R_reads' HO_31.out).2.2 | (with_reducible first | apply cA_ | apply cN_ | apply cD_))); (case side2 => exact (Kd.R_reads' HO_31.out).2.1); rintro e w155 ⟨rfl, hb⟩; replace HO_29 := aM_ (Kd.R_below y14_28_ hb); replace HO_31 := aM_ (Kd.R_below y14_29_ hb); replace HO_33 := aM_ (Kd.R_below y14_30_ hb); replace HB := aM_ (below_step hB_ hb); (try clear hb)))
                        go_meet
                        case rel => exact ⟨_, H', ⟨y14_26_⟩, ⟨y14_27_⟩, ⟨hB_⟩⟩
                     case rest =>
                      as_aux_lemma =>
                       clear HC144
                       (try clear c1);(try clear c4);(try clear c17);(try clear c91);(try clear c143)
                       obtain ⟨kq, HA, HJ143, HO_29, HB⟩ := hcut
                       cases kq with
                       | zero => exact absurd HA.out (by simp [laws_FnLoci.j8])
                       | succ kj143 =>
                        as_aux_lemma =>
                         have H := HA.out
                         clear HA
                         simp only [laws_FnLoci.j8] at H
                         by_cases c167 : t549 = true
                         rotate_left
                         ·replace c167 := Bool.eq_false_iff.mpr c167
                          subst c167
                          replace H := in_ H (show ¬ (false = true) by decide)
                          as_aux_lemma =>
                           obtain rfl := Option.some.inj H
                           go_wp2
                           go_ret
                           exact ⟨rT_, hB_⟩
                         subst c167
                         replace H := ip_ H rfl
                         have H' := Aside0.mk H
                         clear H
                         go_wp2
                         go_loopg [43, 283] kj143 (fun kq v43 v283 w' => ∃ (x43_7 : Int) (x283_7 : Int), v43 = .int .i64 x43_7 ∧ v283 = .int .i64 x283_7 ∧ Aside0 (laws_FnLoci.l2 kq t535 t536 t550 t551 x43_7 t535 (t535.length : Int) x283_7 = some r) ∧ Aside0 (kq ≤ kj143) ∧ Aside0 (Kd.R k55 55 w' w.heap.size (fun _ => True) (.slice Ao125 t535.length co125) t535) ∧ Aside0 (Kd.R k55 55 w' w.heap.size (fun _ => True) (.slice Ao125 t535.length co125) t535) ∧ Aside0 (Below w.heap.size w w'))
                         case atStart => exact ⟨(0), (0), y14_2_, y14_2_, H', ⟨Nat.le_refl _⟩, ⟨y14_28_⟩, ⟨y14_28_⟩, ⟨hB_⟩⟩
                         case round =>
                          as_aux_lemma =>
                           clear H'
                           (try clear c1);(try clear c4);(try clear c17);(try clear c91);(try clear c143);(try clear c167)
                           obtain ⟨x43_7, x283_7, rfl, rfl, HA, HK7, HO_29, HO_281, HB⟩ := hrel
                           cases gk with
                           | zero => exact absurd HA.out (by simp [laws_FnLoci.l2])
                           | succ k7 =>
                            as_aux_lemma =>
                             have H := HA.out
                             clear HA
                             simp only [laws_FnLoci.l2] at H
                             by_cases c168 : x283_7 < (t535.length : Int)
                             ·rw [if_pos c168] at H
                              have c168b0 : decide (x283_7 < (t535.length : Int)) = true := decide_eq_true c168
                              clear c168
                              by_cases c169 : 0 ≤ x283_7
                              rotate_left
                              ·rw [if_neg c169] at H
                               exact absurd H (by simp)
                              rw [if_pos c169] at H
                              have c169b0 : decide (0 ≤ x283_7) = true := decide_eq_true c169
                              clear c169
                              by_cases c170 : x283_7 < (t535.length : Int)
                              rotate_left
                              ·rw [if_neg c170] at H
                               exact absurd H (by simp)
                              rw [if_pos c170] at H
                              have c170b0 : decide (x283_7 < (t535.length : Int)) = true := decide_eq_true c170
                              clear c170
                              by_cases c171 : ((rd_T55 t535 x283_7).f0).toList = t536.toList
                              rotate_left
                              ·rw [if_neg c171] at H
                               have c171b0 : (((rd_T55 t535 x283_7).f0).toList == t536.toList) = false := beq_eq_false_iff_ne.mpr c171
                               have c171b1 : (((rd_T55 t535 x283_7).f0).toList != t536.toList) = true := bne_iff_ne.mpr c171
                               as_aux_lemma =>
                                have H' := Aside0.mk H
                                clear H
                                have p557 : 0 ≤ (x283_7 : Int) := ode_
                                have q557 : x283_7 < (t535.length : Int) := ode_
                                obtain ⟨ad557, e557, hx557_0, hx557_1⟩ := at_T55 (Kd.R_reads' HO_281.out).2.2 x283_7 p557 q557
                                cases e557
                                replace p557 := eq_true p557
                                replace q557 := eq_true q557
                                go_wp2_with (first | ((with_reducible refine gate_dst (N := 45) rfl ?_); (try (refine gate_guard (by rfl) ?_; dsimp only)); refine box_event ?hg (N := 45) ?hd (cs := #[.string (⟨#[]⟩ : ByteArray), .int .i64 0]) (t := 55) ?hr ?_; (case hd => rfl); (case hg => rfl); (case hr => first | (go_simp; done) | (go_simp; rfl)); intro gb558 hg w174 hbox hb; have BK558 := aM_ (hbox); have GW558 := aM_ (gw_ w hg); have GE558 := aM_ (gw_ w hg); replace HO_29 := aM_ (Kd.R_below (Kd.R_elderB y14_28_ gb558 (Nat.le_of_eq hg.symm)) hb); replace HO_281 := aM_ (Kd.R_below (Kd.R_elderB y14_31_ gb558 (Nat.le_of_eq hg.symm)) hb); replace HB := aM_ (below_step hB_ hb); clear hb hbox hg; have hz175 := cf2_ BK558.out))
                                go_roundg k7
                                case measure => have := HJ7.out; have := HJ17.out; have := HJ84.out; have := HJ91.out; have := HJ122.out; have := HJ143.out; have := HK7.out; omega
                                case rel => exact ⟨(x43_7), (wrap64 (x283_7 + 1)), y14_2_, y14_2_, H', ⟨y14_32_⟩, ⟨y14_33_⟩, ⟨y14_34_⟩, ⟨hB_⟩⟩
                              rw [if_pos c171] at H
                              have c171b0 : (((rd_T55 t535 x283_7).f0).toList == t536.toList) = true := beq_iff_eq.mpr c171
                              have c171b1 : (((rd_T55 t535 x283_7).f0).toList != t536.toList) = false := bne_eq_false_iff_eq.mpr c171
                              clear c171
                              as_aux_lemma =>
                               have H' := Aside0.mk H
                               clear H
                               have p557 : 0 ≤ (x283_7 : Int) := ode_
                               have q557 : x283_7 < (t535.length : Int) := ode_
                               obtain ⟨ad557, e557, hx557_0, hx557_1⟩ := at_T55 (Kd.R_reads' HO_281.out).2.2 x283_7 p557 q557
                               cases e557
                               replace p557 := eq_true p557
                               replace q557 := eq_true q557
                               go_wp2_with (first | ((with_reducible refine gate_dst (N := 45) rfl ?_); (try (refine gate_guard (by rfl) ?_; dsimp only)); refine box_event ?hg (N := 45) ?hd (cs := #[.string (⟨#[]⟩ : ByteArray), .int .i64 0]) (t := 55) ?hr ?_; (case hd => rfl); (case hg => rfl); (case hr => first | (go_simp; done) | (go_simp; rfl)); intro gb558 hg w172 hbox hb; have BK558 := aM_ (hbox); have GW558 := aM_ (gw_ w hg); have GE558 := aM_ (gw_ w hg); replace HO_29 := aM_ (Kd.R_below (Kd.R_elderB y14_28_ gb558 (Nat.le_of_eq hg.symm)) hb); replace HO_281 := aM_ (Kd.R_below (Kd.R_elderB y14_31_ gb558 (Nat.le_of_eq hg.symm)) hb); replace HB := aM_ (below_step hB_ hb); clear hb hbox hg; have hz173 := cf2_ BK558.out))
                               go_roundg k7
                               case measure => have := HJ7.out; have := HJ17.out; have := HJ84.out; have := HJ91.out; have := HJ122.out; have := HJ143.out; have := HK7.out; omega
                               case rel => exact ⟨((rd_T55 t535 x283_7).f1), (wrap64 (x283_7 + 1)), y14_2_, y14_2_, H', ⟨y14_32_⟩, ⟨y14_33_⟩, ⟨y14_34_⟩, ⟨hB_⟩⟩
                             rw [if_neg c168] at H
                             have c168b0 : decide (x283_7 < (t535.length : Int)) = false := decide_eq_false c168
                             clear c168
                             have H' := Aside0.mk H
                             clear H
                             go_wp2
                             go_loopg [296] k7 (fun kq v296 w' => ∃ (x296_8 : Int), v296 = .int .i64 x296_8 ∧ Aside0 (laws_FnLoci.l3 kq t536 t550 t551 x43_7 t535 (t535.length : Int) x296_8 = some r) ∧ Aside0 (kq ≤ k7) ∧ Aside0 (Kd.R k55 55 w' w.heap.size (fun _ => True) (.slice Ao125 t535.length co125) t535) ∧ Aside0 (Below w.heap.size w w'))
                             case atStart => exact ⟨(0), y14_2_, H', ⟨Nat.le_refl _⟩, ⟨y14_28_⟩, ⟨hB_⟩⟩
                             case round =>
                              as_aux_lemma =>
                               clear H'
                               (try clear c1);(try clear c4);(try clear c17);(try clear c91);(try clear c143);(try clear c167);(try clear c168);(try clear c168b0)
                               obtain ⟨x296_8, rfl, HA, HK8, HO_294, HB⟩ := hrel
                               cases gk with
                               | zero => exact absurd HA.out (by simp [laws_FnLoci.l3])
                               | succ k8 =>
                                as_aux_lemma =>
                                 have H := HA.out
                                 clear HA
                                 simp only [laws_FnLoci.l3] at H
                                 by_cases c176 : x296_8 < (t535.length : Int)
                                 rotate_left
                                 ·rw [if_neg c176] at H
                                  have c176b0 : decide (x296_8 < (t535.length : Int)) = false := decide_eq_false c176
                                  clear c176
                                  as_aux_lemma =>
                                   obtain rfl := Option.some.inj H
                                   go_wp2
                                   go_ret
                                   exact ⟨rT_, hB_⟩
                                 rw [if_pos c176] at H
                                 have c176b0 : decide (x296_8 < (t535.length : Int)) = true := decide_eq_true c176
                                 clear c176
                                 by_cases c177 : 0 ≤ x296_8
                                 rotate_left
                                 ·rw [if_neg c177] at H
                                  exact absurd H (by simp)
                                 rw [if_pos c177] at H
                                 have c177b0 : decide (0 ≤ x296_8) = true := decide_eq_true c177
                                 clear c177
                                 by_cases c178 : x296_8 < (t535.length : Int)
                                 rotate_left
                                 ·rw [if_neg c178] at H
                                  exact absurd H (by simp)
                                 rw [if_pos c178] at H
                                 have c178b0 : decide (x296_8 < (t535.length : Int)) = true := decide_eq_true c178
                                 clear c178
                                 by_cases c179 : ((rd_T55 t535 x296_8).f0).toList = t536.toList
                                 ·rw [if_pos c179] at H
                                  have c179b0 : (((rd_T55 t535 x296_8).f0).toList == t536.toList) = true := beq_iff_eq.mpr c179
                                  have c179b1 : (((rd_T55 t535 x296_8).f0).toList != t536.toList) = false := bne_eq_false_iff_eq.mpr c179
                                  clear c179
                                  by_cases c180 : ((rd_T55 t535 x296_8).f0).toList = t550.toList
                                  rotate_left
                                  ·rw [if_neg c180] at H
                                   have c180b0 : (((rd_T55 t535 x296_8).f0).toList == t550.toList) = false := beq_eq_false_iff_ne.mpr c180
                                   have c180b1 : (((rd_T55 t535 x296_8).f0).toList != t550.toList) = true := bne_iff_ne.mpr c180
                                   as_aux_lemma =>
                                    have H' := Aside0.mk H
                                    clear H
                                    have p559 : 0 ≤ (x296_8 : Int) := ode_
                                    have q559 : x296_8 < (t535.length : Int) := ode_
                                    obtain ⟨ad559, e559, hx559_0, hx559_1⟩ := at_T55 (Kd.R_reads' HO_294.out).2.2 x296_8 p559 q559
                                    cases e559
                                    replace p559 := eq_true p559
                                    replace q559 := eq_true q559
                                    go_wp2_with (first | ((with_reducible refine gate_dst (N := 47) rfl ?_); (try (refine gate_guard (by rfl) ?_; dsimp only)); refine box_event ?hg (N := 47) ?hd (cs := #[.string (⟨#[]⟩ : ByteArray), .int .i64 0]) (t := 55) ?hr ?_; (case hd => rfl); (case hg => rfl); (case hr => first | (go_simp; done) | (go_simp; rfl)); intro gb560 hg w187 hbox hb; have BK560 := aM_ (hbox); have GW560 := aM_ (gw_ w hg); have GE560 := aM_ (gw_ w hg); replace HO_294 := aM_ (Kd.R_below (Kd.R_elderB y14_35_ gb560 (Nat.le_of_eq hg.symm)) hb); replace HB := aM_ (below_step hB_ hb); clear hb hbox hg; have hz188 := cf2_ BK560.out))
                                    go_roundg k8
                                    case measure => have := HJ7.out; have := HJ17.out; have := HJ84.out; have := HJ91.out; have := HJ122.out; have := HJ143.out; have := HK7.out; have := HK8.out; omega
                                    case rel => exact ⟨(wrap64 (x296_8 + 1)), y14_2_, H', ⟨y14_36_⟩, ⟨y14_37_⟩, ⟨hB_⟩⟩
                                  rw [if_pos c180] at H
                                  have c180b0 : (((rd_T55 t535 x296_8).f0).toList == t550.toList) = true := beq_iff_eq.mpr c180
                                  have c180b1 : (((rd_T55 t535 x296_8).f0).toList != t550.toList) = false := bne_eq_false_iff_eq.mpr c180
                                  clear c180
                                  replace H := Option.bind_eq_some_iff.mp H
                                  obtain ⟨t561, A1810, H⟩ := H
                                  try dsimp only at H
                                  have A181 := Aside0.mk A1810
                                  clear A1810
                                  by_cases c182 : t561 = t551
                                  rotate_left
                                  ·rw [if_neg c182] at H
                                   have c182b0 : (t561 == t551) = false := beq_eq_false_iff_ne.mpr c182
                                   have c182b1 : (t561 != t551) = true := bne_iff_ne.mpr c182
                                   as_aux_lemma =>
                                    obtain rfl := Option.some.inj H
                                    have p559 : 0 ≤ (x296_8 : Int) := ode_
                                    have q559 : x296_8 < (t535.length : Int) := ode_
                                    obtain ⟨ad559, e559, hx559_0, hx559_1⟩ := at_T55 (Kd.R_reads' HO_294.out).2.2 x296_8 p559 q559
                                    cases e559
                                    replace p559 := eq_true p559
                                    replace q559 := eq_true q559
                                    go_wp2_with (first | ((with_reducible refine gate_dst (N := 47) rfl ?_); (try (refine gate_guard (by rfl) ?_; dsimp only)); refine box_event ?hg (N := 47) ?hd (cs := #[.string (⟨#[]⟩ : ByteArray), .int .i64 0]) (t := 55) ?hr ?_; (case hd => rfl); (case hg => rfl); (case hr => first | (go_simp; done) | (go_simp; rfl)); intro gb560 hg w185 hbox hb; have BK560 := aM_ (hbox); have GW560 := aM_ (gw_ w hg); have GE560 := aM_ (gw_ w hg); replace HO_294 := aM_ (Kd.R_below (Kd.R_elderB y14_35_ gb560 (Nat.le_of_eq hg.symm)) hb); replace HB := aM_ (below_step hB_ hb); clear hb hbox hg; have hz186 := cf2_ BK560.out) | (go_at_call 34; (with_reducible refine (laws_pAbs.calls (wrap64 (((rd_T55 t535 x296_8).f1) - x43_7)) t561 _ A181.out).mono ?_); rintro e w' ⟨rfl, ⟨nd, rfl⟩⟩))
                                    go_ret
                                    exact ⟨rT_, hB_⟩
                                  rw [if_pos c182] at H
                                  have c182b0 : (t561 == t551) = true := beq_iff_eq.mpr c182
                                  have c182b1 : (t561 != t551) = false := bne_eq_false_iff_eq.mpr c182
                                  clear c182
                                  as_aux_lemma =>
                                   have H' := Aside0.mk H
                                   clear H
                                   have p559 : 0 ≤ (x296_8 : Int) := ode_
                                   have q559 : x296_8 < (t535.length : Int) := ode_
                                   obtain ⟨ad559, e559, hx559_0, hx559_1⟩ := at_T55 (Kd.R_reads' HO_294.out).2.2 x296_8 p559 q559
                                   cases e559
                                   replace p559 := eq_true p559
                                   replace q559 := eq_true q559
                                   go_wp2_with (first | ((with_reducible refine gate_dst (N := 47) rfl ?_); (try (refine gate_guard (by rfl) ?_; dsimp only)); refine box_event ?hg (N := 47) ?hd (cs := #[.string (⟨#[]⟩ : ByteArray), .int .i64 0]) (t := 55) ?hr ?_; (case hd => rfl); (case hg => rfl); (case hr => first | (go_simp; done) | (go_simp; rfl)); intro gb560 hg w183 hbox hb; have BK560 := aM_ (hbox); have GW560 := aM_ (gw_ w hg); have GE560 := aM_ (gw_ w hg); replace HO_294 := aM_ (Kd.R_below (Kd.R_elderB y14_35_ gb560 (Nat.le_of_eq hg.symm)) hb); replace HB := aM_ (below_step hB_ hb); clear hb hbox hg; have hz184 := cf2_ BK560.out) | (go_at_call 34; (with_reducible refine (laws_pAbs.calls (wrap64 (((rd_T55 t535 x296_8).f1) - x43_7)) t561 _ A181.out).mono ?_); rintro e w' ⟨rfl, ⟨nd, rfl⟩⟩))
                                   go_roundg k8
                                   case measure => have := HJ7.out; have := HJ17.out; have := HJ84.out; have := HJ91.out; have := HJ122.out; have := HJ143.out; have := HK7.out; have := HK8.out; omega
                                   case rel => exact ⟨(wrap64 (x296_8 + 1)), y14_2_, H', ⟨y14_36_⟩, ⟨y14_37_⟩, ⟨hB_⟩⟩
                                 rw [if_neg c179] at H
                                 have c179b0 : (((rd_T55 t535 x296_8).f0).toList == t536.toList) = false := beq_eq_false_iff_ne.mpr c179
                                 have c179b1 : (((rd_T55 t535 x296_8).f0).toList != t536.toList) = true := bne_iff_ne.mpr c179
                                 replace H := Option.bind_eq_some_iff.mp H
                                 obtain ⟨t562, A1890, H⟩ := H
                                 try dsimp only at H
                                 have A189 := Aside0.mk A1890
                                 clear A1890
                                 by_cases c190 : t562 < t551
                                 ·rw [if_pos c190] at H
                                  have c190b0 : decide (t562 < t551) = true := decide_eq_true c190
                                  clear c190
                                  as_aux_lemma =>
                                   obtain rfl := Option.some.inj H
                                   have p559 : 0 ≤ (x296_8 : Int) := ode_
                                   have q559 : x296_8 < (t535.length : Int) := ode_
                                   obtain ⟨ad559, e559, hx559_0, hx559_1⟩ := at_T55 (Kd.R_reads' HO_294.out).2.2 x296_8 p559 q559
                                   cases e559
                                   replace p559 := eq_true p559
                                   replace q559 := eq_true q559
                                   go_wp2_with (first | ((with_reducible refine gate_dst (N := 47) rfl ?_); (try (refine gate_guard (by rfl) ?_; dsimp only)); refine box_event ?hg (N := 47) ?hd (cs := #[.string (⟨#[]⟩ : ByteArray), .int .i64 0]) (t := 55) ?hr ?_; (case hd => rfl); (case hg => rfl); (case hr => first | (go_simp; done) | (go_simp; rfl)); intro gb560 hg w191 hbox hb; have BK560 := aM_ (hbox); have GW560 := aM_ (gw_ w hg); have GE560 := aM_ (gw_ w hg); replace HO_294 := aM_ (Kd.R_below (Kd.R_elderB y14_35_ gb560 (Nat.le_of_eq hg.symm)) hb); replace HB := aM_ (below_step hB_ hb); clear hb hbox hg; have hz192 := cf2_ BK560.out) | (go_at_call 34; (with_reducible refine (laws_pAbs.calls (wrap64 (((rd_T55 t535 x296_8).f1) - x43_7)) t562 _ A189.out).mono ?_); rintro e w' ⟨rfl, ⟨nd, rfl⟩⟩))
                                   go_ret
                                   exact ⟨rT_, hB_⟩
                                 rw [if_neg c190] at H
                                 have c190b0 : decide (t562 < t551) = false := decide_eq_false c190
                                 clear c190
                                 by_cases c193 : ((rd_T55 t535 x296_8).f0).toList = t550.toList
                                 rotate_left
                                 ·rw [if_neg c193] at H
                                  have c193b0 : (((rd_T55 t535 x296_8).f0).toList == t550.toList) = false := beq_eq_false_iff_ne.mpr c193
                                  have c193b1 : (((rd_T55 t535 x296_8).f0).toList != t550.toList) = true := bne_iff_ne.mpr c193
                                  as_aux_lemma =>
                                   have H' := Aside0.mk H
                                   clear H
                                   have p559 : 0 ≤ (x296_8 : Int) := ode_
                                   have q559 : x296_8 < (t535.length : Int) := ode_
                                   obtain ⟨ad559, e559, hx559_0, hx559_1⟩ := at_T55 (Kd.R_reads' HO_294.out).2.2 x296_8 p559 q559
                                   cases e559
                                   replace p559 := eq_true p559
                                   replace q559 := eq_true q559
                                   go_wp2_with (first | ((with_reducible refine gate_dst (N := 47) rfl ?_); (try (refine gate_guard (by rfl) ?_; dsimp only)); refine box_event ?hg (N := 47) ?hd (cs := #[.string (⟨#[]⟩ : ByteArray), .int .i64 0]) (t := 55) ?hr ?_; (case hd => rfl); (case hg => rfl); (case hr => first | (go_simp; done) | (go_simp; rfl)); intro gb560 hg w200 hbox hb; have BK560 := aM_ (hbox); have GW560 := aM_ (gw_ w hg); have GE560 := aM_ (gw_ w hg); replace HO_294 := aM_ (Kd.R_below (Kd.R_elderB y14_35_ gb560 (Nat.le_of_eq hg.symm)) hb); replace HB := aM_ (below_step hB_ hb); clear hb hbox hg; have hz201 := cf2_ BK560.out) | (go_at_call 34; (with_reducible refine (laws_pAbs.calls (wrap64 (((rd_T55 t535 x296_8).f1) - x43_7)) t562 _ A189.out).mono ?_); rintro e w' ⟨rfl, ⟨nd, rfl⟩⟩))
                                   go_roundg k8
                                   case measure => have := HJ7.out; have := HJ17.out; have := HJ84.out; have := HJ91.out; have := HJ122.out; have := HJ143.out; have := HK7.out; have := HK8.out; omega
                                   case rel => exact ⟨(wrap64 (x296_8 + 1)), y14_2_, H', ⟨y14_36_⟩, ⟨y14_37_⟩, ⟨hB_⟩⟩
                                 rw [if_pos c193] at H
                                 have c193b0 : (((rd_T55 t535 x296_8).f0).toList == t550.toList) = true := beq_iff_eq.mpr c193
                                 have c193b1 : (((rd_T55 t535 x296_8).f0).toList != t550.toList) = false := bne_eq_false_iff_eq.mpr c193
                                 clear c193
                                 replace H := Option.bind_eq_some_iff.mp H
                                 obtain ⟨t563, A1940, H⟩ := H
                                 try dsimp only at H
                                 obtain rfl : t562 = t563 := Option.some.inj (A189.out.symm.trans A1940)
                                 have A194 := Aside0.mk A1940
                                 clear A1940
                                 by_cases c195 : t562 = t551
                                 rotate_left
                                 ·rw [if_neg c195] at H
                                  have c195b0 : (t562 == t551) = false := beq_eq_false_iff_ne.mpr c195
                                  have c195b1 : (t562 != t551) = true := bne_iff_ne.mpr c195
                                  as_aux_lemma =>
                                   obtain rfl := Option.some.inj H
                                   have p559 : 0 ≤ (x296_8 : Int) := ode_
                                   have q559 : x296_8 < (t535.length : Int) := ode_
                                   obtain ⟨ad559, e559, hx559_0, hx559_1⟩ := at_T55 (Kd.R_reads' HO_294.out).2.2 x296_8 p559 q559
                                   cases e559
                                   replace p559 := eq_true p559
                                   replace q559 := eq_true q559
                                   go_wp2_with (first | ((with_reducible refine gate_dst (N := 47) rfl ?_); (try (refine gate_guard (by rfl) ?_; dsimp only)); refine box_event ?hg (N := 47) ?hd (cs := #[.string (⟨#[]⟩ : ByteArray), .int .i64 0]) (t := 55) ?hr ?_; (case hd => rfl); (case hg => rfl); (case hr => first | (go_simp; done) | (go_simp; rfl)); intro gb560 hg w198 hbox hb; have BK560 := aM_ (hbox); have GW560 := aM_ (gw_ w hg); have GE560 := aM_ (gw_ w hg); replace HO_294 := aM_ (Kd.R_below (Kd.R_elderB y14_35_ gb560 (Nat.le_of_eq hg.symm)) hb); replace HB := aM_ (below_step hB_ hb); clear hb hbox hg; have hz199 := cf2_ BK560.out) | (go_at_call 34; (with_reducible refine (laws_pAbs.calls (wrap64 (((rd_T55 t535 x296_8).f1) - x43_7)) t562 _ A189.out).mono ?_); rintro e w' ⟨rfl, ⟨nd, rfl⟩⟩) | (go_at_call 34; (with_reducible refine (laws_pAbs.calls (wrap64 (((rd_T55 t535 x296_8).f1) - x43_7)) t562 _ A194.out).mono ?_); rintro e w' ⟨rfl, ⟨nd, rfl⟩⟩))
                                   go_ret
                                   exact ⟨rT_, hB_⟩
                                 rw [if_pos c195] at H
                                 have c195b0 : (t562 == t551) = true := beq_iff_eq.mpr c195
                                 have c195b1 : (t562 != t551) = false := bne_eq_false_iff_eq.mpr c195
                                 clear c195
                                 as_aux_lemma =>
                                  have H' := Aside0.mk H
                                  clear H
                                  have p559 : 0 ≤ (x296_8 : Int) := ode_
                                  have q559 : x296_8 < (t535.length : Int) := ode_
                                  obtain ⟨ad559, e559, hx559_0, hx559_1⟩ := at_T55 (Kd.R_reads' HO_294.out).2.2 x296_8 p559 q559
                                  cases e559
                                  replace p559 := eq_true p559
                                  replace q559 := eq_true q559
                                  go_wp2_with (first | ((with_reducible refine gate_dst (N := 47) rfl ?_); (try (refine gate_guard (by rfl) ?_; dsimp only)); refine box_event ?hg (N := 47) ?hd (cs := #[.string (⟨#[]⟩ : ByteArray), .int .i64 0]) (t := 55) ?hr ?_; (case hd => rfl); (case hg => rfl); (case hr => first | (go_simp; done) | (go_simp; rfl)); intro gb560 hg w196 hbox hb; have BK560 := aM_ (hbox); have GW560 := aM_ (gw_ w hg); have GE560 := aM_ (gw_ w hg); replace HO_294 := aM_ (Kd.R_below (Kd.R_elderB y14_35_ gb560 (Nat.le_of_eq hg.symm)) hb); replace HB := aM_ (below_step hB_ hb); clear hb hbox hg; have hz197 := cf2_ BK560.out) | (go_at_call 34; (with_reducible refine (laws_pAbs.calls (wrap64 (((rd_T55 t535 x296_8).f1) - x43_7)) t562 _ A189.out).mono ?_); rintro e w' ⟨rfl, ⟨nd, rfl⟩⟩) | (go_at_call 34; (with_reducible refine (laws_pAbs.calls (wrap64 (((rd_T55 t535 x296_8).f1) - x43_7)) t562 _ A194.out).mono ?_); rintro e w' ⟨rfl, ⟨nd, rfl⟩⟩))
                                  go_roundg k8
                                  case measure => have := HJ7.out; have := HJ17.out; have := HJ84.out; have := HJ91.out; have := HJ122.out; have := HJ143.out; have := HK7.out; have := HK8.out; omega
                                  case rel => exact ⟨(wrap64 (x296_8 + 1)), y14_2_, H', ⟨y14_36_⟩, ⟨y14_37_⟩, ⟨hB_⟩⟩

/-- THE ONE PURE STATEMENT of laws_FnLoci: yours. -/
theorem laws_FnLoci.walk (P : laws_FnLoci.Pure) (a0 : Option Addr) (len0 cap0 : Nat) (z0 : List Int) (a1 : Option Addr) (len1 cap1 : Nat) (z1 : List Int) (w : World) (w0 : (a0 = none ∧ len0 = 0 ∧ cap0 = 0 ∧ z0 = []) ∨ ∃ x, a0 = some x ∧ len0 ≤ cap0 ∧ cap0 ≤ maxLen ∧ z0.length = cap0 ∧ (∀ i, i < z0.length → w.cell? (x.add i) = some (.int .u8 (z0.getD i 0))) ∧ ∀ n ∈ z0, (Lit.int .u8 n).wf = true) (y0 : len0 * 1 ≤ 140737488351232) (w1 : (a1 = none ∧ len1 = 0 ∧ cap1 = 0 ∧ z1 = []) ∨ ∃ x, a1 = some x ∧ len1 ≤ cap1 ∧ cap1 ≤ maxLen ∧ z1.length = cap1 ∧ (∀ i, i < z1.length → w.cell? (x.add i) = some (.int .u8 (z1.getD i 0))) ∧ ∀ n ∈ z1, (Lit.int .u8 n).wf = true) (y1 : len1 * 1 ≤ 140737488351232) :
 Calls Try.prog 6 #[.slice a0 len0 cap0, .slice a1 len1 cap1] w fun e w' => e = .returned (.bool true) ∧ Below w.heap.size w w' := by
 obtain ⟨l0, rfl, hr0, hm0, hw0, hc0⟩ := ReadsInt.ofRowC w0
 obtain ⟨l1, rfl, hr1, hm1, hw1, hc1⟩ := ReadsInt.ofRowC w1
 obtain ⟨k, h⟩ := P l0 l1 hm0 y0 hw0 hm1 y1 hw1
 refine (laws_FnLoci.calls k _ _ l0 _ _ l1 true w (Kd.C_of_reads (d := (0 : Int)) (h1 := fun _ => rfl) hr0) hc0 (Kd.C_of_reads (d := (0 : Int)) (h1 := fun _ => rfl) hr1) hc1 h).mono ?_
 rintro e w' ⟨rfl, hd⟩
 exact ⟨rfl, hd⟩

end Go.Proofs.Ytbheajjagkdjmaa.PFnLoci
