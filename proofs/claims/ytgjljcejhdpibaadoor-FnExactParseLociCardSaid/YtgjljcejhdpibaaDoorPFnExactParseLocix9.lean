/- Written by a program of this claim's author, out of the loaded program as Lean prints it: the functions as Lean functions, and that the calls answer so. -/
import Derived.Test.YtgjljcejhdpibaaDoorPFnExactParseLocix0
import Derived.Test.YtgjljcejhdpibaaDoorPFnExactParseLocix4
import Derived.Test.YtgjljcejhdpibaaDoorPFnExactParseLocix7
import Derived.Test.YtgjljcejhdpibaaDoorPFnExactParseLocix8
import Derived.Test.YtgjljcejhdpibaaDoorPFnExactParseLocixD0
namespace Go.Proofs.YtgjljcejhdpibaaDoor.PFnExactParseLoci
open Go.RowKit Go.Proofs.YtgjljcejhdpibaaDoorW.PrintWords Go.Proofs.YtgjljcejhdpibaaDoorW.PrintLast Go.Proofs.YtgjljcejhdpibaaDoorW.PrintMore
attribute [local go_sem] max2_int min2_int max_two min_two max_three min_three max_four min_four isSome_setCell   -- for this text's walks alone
set_option linter.unusedVariables false
set_option linter.unusedSimpArgs false

theorem yactParseLocix9_0_ {p : Prop} (h : p := by (with_reducible repeat (first | apply Kd.R_alloc | apply Kd.R_drewN | apply Kd.R_drew)); exact HO213.out) : p := h
theorem yactParseLocix9_1_ {p : Prop} (h : p := by (with_reducible repeat (first | apply Kd.R_alloc | apply Kd.R_drewN | apply Kd.R_drew)); exact HO217.out) : p := h
theorem yactParseLocix9_2_ {p : Prop} (h : p := by first | rfl | (simp; done) | (simp [*]; done)) : p := h
theorem yactParseLocix9_3_ {p : Prop} (h : p := by (with_reducible repeat (first | apply Kd.R_alloc | apply Kd.R_drewN | apply Kd.R_drew)); exact Kd.R_mono HO213.out (fun _ hk => hk.2)) : p := h
theorem yactParseLocix9_4_ {p : Prop} (h : p := by (with_reducible repeat (first | apply Kd.R_alloc | apply Kd.R_drewN | apply Kd.R_drew)); exact Kd.R_mono HO217.out (fun _ hk => hk.2)) : p := h
theorem yactParseLocix9_5_ {p : Prop} (h : p := by (try simp only [List.map_toArray, List.map_cons, List.map_nil]); first | done | (rw [show t220.length = t214.length from (Kd.R_reads' HO_5.out).1.symm] <;> rfl) | rfl | (simp only [List.length_drop, List.length_take]; rfl)) : p := h
theorem yactParseLocix9_6_ {p : Prop} (h : p := by (with_reducible repeat (first | apply Kd.R_alloc | apply Kd.R_drewN | apply Kd.R_drew)); exact HO_3.out) : p := h
theorem yactParseLocix9_7_ {p : Prop} (h : p := by (with_reducible repeat (first | apply Kd.R_alloc | apply Kd.R_drewN | apply Kd.R_drew)); exact HO_5.out) : p := h
theorem yactParseLocix9_8_ {p : Prop} (h : p := by (with_reducible repeat (first | apply Kd.R_alloc | apply Kd.R_drewN | apply Kd.R_drew)); exact HO225.out) : p := h
theorem yactParseLocix9_9_ {p : Prop} (h : p := by (with_reducible repeat (first | apply Kd.R_alloc | apply Kd.R_drewN | apply Kd.R_drew)); exact Kd.R_mono HO_5.out (fun _ hk => trivial)) : p := h
/-! ### laws_FnExactParseLoci: function 3 -/
set_option maxHeartbeats 8000000 in
set_option maxRecDepth 100000 in
theorem laws_FnExactParseLoci.calls (k : Nat) (a0 : ByteArray) (r : Bool) (w : World) (hT_ : TabW Tryd.prog 1 w) (h : laws_FnExactParseLoci.f k a0 = some r) :
 Calls Tryd.prog 3 #[.string a0] w fun e w' => e = .returned (.bool r) ∧ Below w.heap.size w w' := by
 have HT := Aside0.mk hT_
 clear hT_
 have HB := Aside0.mk (Below.refl w.heap.size w)
 have H : (if (a0.size : Int) > 1048576 then (some true) else ((spec_ParseLoci.f k a0).bind fun bt210 => ((impl_ParseLoci.f k a0).bind fun bt214 => ((laws_eqLocusS.f k bt214.1 bt210.1).bind fun t218 => (if t218 = true then (laws_FnExactParseLoci.j0 k a0 bt210.1 bt210.2 bt214.1 (bt214.2 != bt210.2)) else (laws_FnExactParseLoci.j0 k a0 bt210.1 bt210.2 bt214.1 true)))))) = some r := h
 clear h
 by_cases c2 : (a0.size : Int) > 1048576
 ·rw [if_pos c2] at H
  have c2b0 : decide (1048576 < (a0.size : Int)) = true := decide_eq_true c2
  have c2b1 : decide (1048576 < a0.size) = true := decide_eq_true (by omega)
  clear c2
  obtain rfl := Option.some.inj H
  go_enter Tryd.func3, Tryd.ntmps3
  go_wp2
  go_ret
  exact ⟨rT_, hB_⟩
 ·rw [if_neg c2] at H
  have c2b0 : decide (1048576 < (a0.size : Int)) = false := decide_eq_false c2
  have c2b1 : decide (1048576 < a0.size) = false := decide_eq_false (by omega)
  clear c2
  replace H := Option.bind_eq_some_iff.mp H
  obtain ⟨⟨t210, t211⟩, A30, H⟩ := H
  try dsimp only at H
  have A3 := Aside0.mk A30
  clear A30
  replace H := Option.bind_eq_some_iff.mp H
  obtain ⟨⟨t214, t215⟩, A40, H⟩ := H
  try dsimp only at H
  have A4 := Aside0.mk A40
  clear A40
  have HC5 := Aside0.mk H
  clear H
  go_enter Tryd.func3, Tryd.ntmps3
  go_upto_region 5 with (first | ((with_reducible refine gate_callee (f := 5) rfl ?_); refine goesM_ (some 16) Tryd.func5 #[.string a0] ?_; (with_reducible refine (spec_ParseLoci.calls k a0 t210 t211 _ A3.out).mono ?_); rintro e w6 ⟨v212, rfl, ho0, hb⟩; refine ⟨_, rfl, ?_⟩; have HO213 := aM_ (Kd.R_lower ho0 (below_size hB_)); replace HB := aM_ (below_step hB_ hb); (try clear hb); (try clear hb2); (try clear hk); (try clear hi); (try clear ho0)) | ((with_reducible refine gate_callee (f := 6) rfl ?_); refine goesM_ (some 21) Tryd.func6 #[.string a0] ?_; (with_reducible refine (impl_ParseLoci.calls k a0 t214 t215 _ ?side1 A4.out).mono ?_); (case side1 => exact TabW.below HT.out hB_); rintro e w7 ⟨v216, rfl, ho0, hb⟩; refine ⟨_, rfl, ?_⟩; have HO217 := aM_ (Kd.R_lower (Kd.R_new' ho0 (Kd.R_lt yactParseLocix9_0_)) (below_size hB_)); replace HO213 := aM_ (Kd.R_elder' yactParseLocix9_0_ (Kd.R_base ho0) hb); replace HB := aM_ (below_step hB_ hb); (try clear hb); (try clear hb2); (try clear hk); (try clear hi); (try clear ho0)))
  (try simp only [Act.put, List.setIfInBounds_toArray, List.set_cons_zero, List.set_cons_succ])
  go_cut [32] (fun v32 wc => ∃ (kq : Nat) (x32_4 : Bool), v32 = .bool x32_4 ∧ Aside0 (laws_FnExactParseLoci.j0 kq a0 t210 t211 t214 x32_4 = some r) ∧ Aside0 (kq ≤ k) ∧ Aside0 (Kd.R k40 40 wc w.heap.size (fun k_ => some k_ ≠ (v216 : Value).ownBlock) v212 t210) ∧ Aside0 (Kd.R k40 40 wc w.heap.size (fun k_ => some k_ ≠ (v212 : Value).ownBlock) v216 t214) ∧ Aside0 (Below w.heap.size w wc))
  case first =>
   have H := HC5.out
   clear HC5
   replace H := Option.bind_eq_some_iff.mp H
   obtain ⟨t218, A80, H⟩ := H
   try dsimp only at H
   have A8 := Aside0.mk A80
   clear A80
   by_cases c9 : t218 = true
   ·subst c9
    replace H := ip_ H rfl
    have H' := Aside0.mk H
    clear H
    obtain ⟨Ao10, co10, eo10⟩ := Kd.R_slice HO217.out
    subst eo10
    obtain ⟨Ao11, co11, eo11⟩ := Kd.R_slice HO213.out
    subst eo11
    go_wp2_with (first | ((with_reducible refine gate_callee (f := 7) rfl ?_); refine goesM_ (some 26) Tryd.func7 #[.slice Ao10 t214.length co10, .slice Ao11 t210.length co11] ?_; (with_reducible refine (laws_eqLocusS.calls k _ _ t214 _ _ t210 true _ ?side1 ?side2 ?side3 ?side4 A8.out).mono ?_); (case side1 => repeat (first | exact (Kd.R_reads' HO217.out).2.2 | (with_reducible refine Kd.C_alloc ?_ _) | (with_reducible refine Kd.C_drewN ?_ _) | (with_reducible refine Kd.C_drew ?_))); (case side2 => exact (Kd.R_reads' HO217.out).2.1); (case side3 => repeat (first | exact (Kd.R_reads' HO213.out).2.2 | (with_reducible refine Kd.C_alloc ?_ _) | (with_reducible refine Kd.C_drewN ?_ _) | (with_reducible refine Kd.C_drew ?_))); (case side4 => exact (Kd.R_reads' HO213.out).2.1); rintro e w12 ⟨rfl, hb⟩; refine ⟨_, rfl, ?_⟩; replace HO213 := aM_ (Kd.R_below yactParseLocix9_0_ hb); replace HO217 := aM_ (Kd.R_below yactParseLocix9_1_ hb); replace HB := aM_ (below_step hB_ hb); (try clear hb); (try clear hb2); (try clear hk); (try clear hi)))
    go_meet
    case rel => exact ⟨_, ((t215 != t211)), yactParseLocix9_2_, H', ⟨oR_⟩, ⟨yactParseLocix9_3_⟩, ⟨yactParseLocix9_4_⟩, ⟨hB_⟩⟩
   ·replace c9 := Bool.eq_false_iff.mpr c9
    subst c9
    replace H := in_ H (show ¬ (false = true) by decide)
    have H' := Aside0.mk H
    clear H
    obtain ⟨Ao13, co13, eo13⟩ := Kd.R_slice HO217.out
    subst eo13
    obtain ⟨Ao14, co14, eo14⟩ := Kd.R_slice HO213.out
    subst eo14
    go_wp2_with (first | ((with_reducible refine gate_callee (f := 7) rfl ?_); refine goesM_ (some 26) Tryd.func7 #[.slice Ao13 t214.length co13, .slice Ao14 t210.length co14] ?_; (with_reducible refine (laws_eqLocusS.calls k _ _ t214 _ _ t210 false _ ?side1 ?side2 ?side3 ?side4 A8.out).mono ?_); (case side1 => repeat (first | exact (Kd.R_reads' HO217.out).2.2 | (with_reducible refine Kd.C_alloc ?_ _) | (with_reducible refine Kd.C_drewN ?_ _) | (with_reducible refine Kd.C_drew ?_))); (case side2 => exact (Kd.R_reads' HO217.out).2.1); (case side3 => repeat (first | exact (Kd.R_reads' HO213.out).2.2 | (with_reducible refine Kd.C_alloc ?_ _) | (with_reducible refine Kd.C_drewN ?_ _) | (with_reducible refine Kd.C_drew ?_))); (case side4 => exact (Kd.R_reads' HO213.out).2.1); rintro e w15 ⟨rfl, hb⟩; refine ⟨_, rfl, ?_⟩; replace HO213 := aM_ (Kd.R_below yactParseLocix9_0_ hb); replace HO217 := aM_ (Kd.R_below yactParseLocix9_1_ hb); replace HB := aM_ (below_step hB_ hb); (try clear hb); (try clear hb2); (try clear hk); (try clear hi)))
    go_meet
    case rel => exact ⟨_, (true), yactParseLocix9_2_, H', ⟨oR_⟩, ⟨yactParseLocix9_3_⟩, ⟨yactParseLocix9_4_⟩, ⟨hB_⟩⟩
  case rest =>
   clear HC5
   (try clear c2);(try clear c2b0);(try clear c2b1)
   obtain ⟨kq, x32_4, rfl, HA, HJ4, HO_3, HO_5, HB⟩ := hcut
   cases kq with
   | zero => exact absurd HA.out (by simp [laws_FnExactParseLoci.j0])
   | succ kj4 =>
    have H := HA.out
    clear HA
    simp only [laws_FnExactParseLoci.j0] at H
    by_cases c16 : x32_4 = true
    ·subst c16
     replace H := ip_ H rfl
     obtain rfl := Option.some.inj H
     go_wp2
     go_ret
     exact ⟨rT_, hB_⟩
    ·replace c16 := Bool.eq_false_iff.mpr c16
     subst c16
     replace H := in_ H (show ¬ (false = true) by decide)
     replace H := Option.bind_eq_some_iff.mp H
     obtain ⟨⟨t219, t220⟩, A170, H⟩ := H
     try dsimp only at H
     have A17 := Aside0.mk A170
     clear A170
     replace H := Option.bind_eq_some_iff.mp H
     obtain ⟨t221, A180, H⟩ := H
     try dsimp only at H
     have A18 := Aside0.mk A180
     clear A180
     by_cases c19 : t221 < 0
     ·rw [if_pos c19] at H
      have c19b0 : decide (t221 < 0) = true := decide_eq_true c19
      clear c19
      obtain rfl := Option.some.inj H
      obtain ⟨Ao20, co20, eo20⟩ := Kd.R_slice HO_5.out
      subst eo20
      go_wp2_with (first | ((with_reducible refine gate_callee (f := 8) rfl ?_); refine goesM_ (some 35) Tryd.func8 #[.slice Ao20 t214.length co20, .int .i64 1] ?_; (with_reducible refine (laws_markLocusS.calls kj4 (fun k_ => some k_ = (.slice Ao20 t214.length co20 : Value).ownBlock) (.slice Ao20 t214.length co20) t214 1 t219 t220 w _ ?side1 ?side2 A17.out).mono ?_); (case side1 => repeat (first | (with_reducible first | exact HB.out | apply lA_ | apply lN_ | apply lD_) | exact HB.out)); (case side2 => exact Kd.R_tight rfl HO_5.out); rintro e w21 ⟨rfl, hy0, hb, hkp⟩; refine ⟨_, rfl, ?_⟩; replace HO_3 := aM_ (Kd.R_mono (ok' := fun k_ => some k_ ≠ (.slice Ao20 t214.length co20 : Value).ownBlock) (Kd.R_keptB (HO_3.out) hkp (fun k_ hk_ hs_ => (hk_) hs_)) (fun k_ hk_ => hk_.1)); replace HO_5 := aM_ (Kd.R_reok rfl hy0 (fun k_ e_ => HO_5.out.1 k_ e_)); replace HB := aM_ (hb); (try clear hb); (try clear hkp); (try clear hy0)) | ((with_reducible refine gate_callee (f := 9) rfl ?_); refine goesL_ (some 38) rfl rfl Tryd.func9 (by kernel_rfl) rfl #[.slice Ao20 t220.length co20, .int .i64 1] rfl yactParseLocix9_5_ ?_; (with_reducible refine (laws_heldLocusS.calls kj4 _ _ t220 1 t221 _ ?side1 ?side2 A18.out).mono ?_); (case side1 => repeat (first | exact (Kd.R_reads' HO_5.out).2.2 | (with_reducible refine Kd.C_alloc ?_ _) | (with_reducible refine Kd.C_drewN ?_ _) | (with_reducible refine Kd.C_drew ?_))); (case side2 => rw [show t220.length = t214.length from (Kd.R_reads' HO_5.out).1.symm]; exact (Kd.R_reads' HO_5.out).2.1); rintro e w22 ⟨rfl, hb⟩; refine ⟨_, rfl, ?_⟩; replace HO_3 := aM_ (Kd.R_below yactParseLocix9_6_ hb); replace HO_5 := aM_ (Kd.R_below yactParseLocix9_7_ hb); replace HB := aM_ (below_step hB_ hb); (try clear hb); (try clear hb2); (try clear hk); (try clear hi)))
      go_ret
      exact ⟨rT_, hB_⟩
     ·rw [if_neg c19] at H
      have c19b0 : decide (t221 < 0) = false := decide_eq_false c19
      clear c19
      by_cases c23 : t221 = t219
      ·rw [if_pos c23] at H
       have c23b0 : (t221 == t219) = true := beq_iff_eq.mpr c23
       have c23b1 : (t221 != t219) = false := bne_eq_false_iff_eq.mpr c23
       clear c23
       replace H := Option.bind_eq_some_iff.mp H
       obtain ⟨⟨t222, t223⟩, A240, H⟩ := H
       try dsimp only at H
       have A24 := Aside0.mk A240
       clear A240
       have HC25 := Aside0.mk H
       clear H
       obtain ⟨Ao26, co26, eo26⟩ := Kd.R_slice HO_5.out
       subst eo26
       go_upto_region 16 with (first | ((with_reducible refine gate_callee (f := 8) rfl ?_); refine goesM_ (some 35) Tryd.func8 #[.slice Ao26 t214.length co26, .int .i64 1] ?_; (with_reducible refine (laws_markLocusS.calls kj4 (fun k_ => some k_ = (.slice Ao26 t214.length co26 : Value).ownBlock) (.slice Ao26 t214.length co26) t214 1 t219 t220 w _ ?side1 ?side2 A17.out).mono ?_); (case side1 => repeat (first | (with_reducible first | exact HB.out | apply lA_ | apply lN_ | apply lD_) | exact HB.out)); (case side2 => exact Kd.R_tight rfl HO_5.out); rintro e w27 ⟨rfl, hy0, hb, hkp⟩; refine ⟨_, rfl, ?_⟩; replace HO_3 := aM_ (Kd.R_mono (ok' := fun k_ => some k_ ≠ (.slice Ao26 t214.length co26 : Value).ownBlock) (Kd.R_keptB (HO_3.out) hkp (fun k_ hk_ hs_ => (hk_) hs_)) (fun k_ hk_ => hk_.1)); replace HO_5 := aM_ (Kd.R_reok rfl hy0 (fun k_ e_ => HO_5.out.1 k_ e_)); replace HB := aM_ (hb); (try clear hb); (try clear hkp); (try clear hy0)) | ((with_reducible refine gate_callee (f := 9) rfl ?_); refine goesL_ (some 38) rfl rfl Tryd.func9 (by kernel_rfl) rfl #[.slice Ao26 t220.length co26, .int .i64 1] rfl yactParseLocix9_5_ ?_; (with_reducible refine (laws_heldLocusS.calls kj4 _ _ t220 1 t221 _ ?side1 ?side2 A18.out).mono ?_); (case side1 => repeat (first | exact (Kd.R_reads' HO_5.out).2.2 | (with_reducible refine Kd.C_alloc ?_ _) | (with_reducible refine Kd.C_drewN ?_ _) | (with_reducible refine Kd.C_drew ?_))); (case side2 => rw [show t220.length = t214.length from (Kd.R_reads' HO_5.out).1.symm]; exact (Kd.R_reads' HO_5.out).2.1); rintro e w28 ⟨rfl, hb⟩; refine ⟨_, rfl, ?_⟩; replace HO_3 := aM_ (Kd.R_below yactParseLocix9_6_ hb); replace HO_5 := aM_ (Kd.R_below yactParseLocix9_7_ hb); replace HB := aM_ (below_step hB_ hb); (try clear hb); (try clear hb2); (try clear hk); (try clear hi)) | ((with_reducible refine gate_callee (f := 6) rfl ?_); refine goesM_ (some 46) Tryd.func6 #[.string a0] ?_; (with_reducible refine (impl_ParseLoci.calls kj4 a0 t222 t223 _ ?side1 A24.out).mono ?_); (case side1 => exact TabW.below HT.out hB_); rintro e w29 ⟨v224, rfl, ho0, hb⟩; refine ⟨_, rfl, ?_⟩; have HO225 := aM_ (Kd.R_lower (Kd.R_new' (Kd.R_new' ho0 (Kd.R_lt yactParseLocix9_6_)) (Kd.R_lt yactParseLocix9_7_)) (below_size hB_)); replace HO_3 := aM_ (Kd.R_elder' yactParseLocix9_6_ (Kd.R_base ho0) hb); replace HO_5 := aM_ (Kd.R_elder' yactParseLocix9_7_ (Kd.R_base ho0) hb); replace HB := aM_ (below_step hB_ hb); (try clear hb); (try clear hb2); (try clear hk); (try clear hi); (try clear ho0)))
       (try simp only [Act.put, List.setIfInBounds_toArray, List.set_cons_zero, List.set_cons_succ])
       go_cut [57] (fun v57 wc => ∃ (kq : Nat) (x57_24 : Bool), v57 = .bool x57_24 ∧ Aside0 (laws_FnExactParseLoci.j1 kq t220 t219 x57_24 = some r) ∧ Aside0 (kq ≤ kj4) ∧ Aside0 (Kd.R k40 40 wc w.heap.size (fun _ => True) (.slice Ao26 t214.length co26) t220) ∧ Aside0 (Below w.heap.size w wc))
       case first =>
        have H := HC25.out
        clear HC25
        replace H := Option.bind_eq_some_iff.mp H
        obtain ⟨t226, A300, H⟩ := H
        try dsimp only at H
        have A30 := Aside0.mk A300
        clear A300
        by_cases c31 : t226 = true
        ·subst c31
         replace H := ip_ H rfl
         have H' := Aside0.mk H
         clear H
         obtain ⟨Ao32, co32, eo32⟩ := Kd.R_slice HO225.out
         subst eo32
         obtain ⟨Ao33, co33, eo33⟩ := Kd.R_slice HO_3.out
         subst eo33
         go_wp2_with (first | ((with_reducible refine gate_callee (f := 7) rfl ?_); refine goesM_ (some 51) Tryd.func7 #[.slice Ao32 t222.length co32, .slice Ao33 t210.length co33] ?_; (with_reducible refine (laws_eqLocusS.calls kj4 _ _ t222 _ _ t210 true _ ?side1 ?side2 ?side3 ?side4 A30.out).mono ?_); (case side1 => repeat (first | exact (Kd.R_reads' HO225.out).2.2 | (with_reducible refine Kd.C_alloc ?_ _) | (with_reducible refine Kd.C_drewN ?_ _) | (with_reducible refine Kd.C_drew ?_))); (case side2 => exact (Kd.R_reads' HO225.out).2.1); (case side3 => repeat (first | exact (Kd.R_reads' HO_3.out).2.2 | (with_reducible refine Kd.C_alloc ?_ _) | (with_reducible refine Kd.C_drewN ?_ _) | (with_reducible refine Kd.C_drew ?_))); (case side4 => exact (Kd.R_reads' HO_3.out).2.1); rintro e w34 ⟨rfl, hb⟩; refine ⟨_, rfl, ?_⟩; replace HO_3 := aM_ (Kd.R_below yactParseLocix9_6_ hb); replace HO_5 := aM_ (Kd.R_below yactParseLocix9_7_ hb); replace HO225 := aM_ (Kd.R_below yactParseLocix9_8_ hb); replace HB := aM_ (below_step hB_ hb); (try clear hb); (try clear hb2); (try clear hk); (try clear hi)))
         go_meet
         case rel => exact ⟨_, ((t223 != t211)), yactParseLocix9_2_, H', ⟨by have := HJ4.out; first | omega | exact Nat.le_refl _⟩, ⟨yactParseLocix9_9_⟩, ⟨hB_⟩⟩
        ·replace c31 := Bool.eq_false_iff.mpr c31
         subst c31
         replace H := in_ H (show ¬ (false = true) by decide)
         have H' := Aside0.mk H
         clear H
         obtain ⟨Ao35, co35, eo35⟩ := Kd.R_slice HO225.out
         subst eo35
         obtain ⟨Ao36, co36, eo36⟩ := Kd.R_slice HO_3.out
         subst eo36
         go_wp2_with (first | ((with_reducible refine gate_callee (f := 7) rfl ?_); refine goesM_ (some 51) Tryd.func7 #[.slice Ao35 t222.length co35, .slice Ao36 t210.length co36] ?_; (with_reducible refine (laws_eqLocusS.calls kj4 _ _ t222 _ _ t210 false _ ?side1 ?side2 ?side3 ?side4 A30.out).mono ?_); (case side1 => repeat (first | exact (Kd.R_reads' HO225.out).2.2 | (with_reducible refine Kd.C_alloc ?_ _) | (with_reducible refine Kd.C_drewN ?_ _) | (with_reducible refine Kd.C_drew ?_))); (case side2 => exact (Kd.R_reads' HO225.out).2.1); (case side3 => repeat (first | exact (Kd.R_reads' HO_3.out).2.2 | (with_reducible refine Kd.C_alloc ?_ _) | (with_reducible refine Kd.C_drewN ?_ _) | (with_reducible refine Kd.C_drew ?_))); (case side4 => exact (Kd.R_reads' HO_3.out).2.1); rintro e w37 ⟨rfl, hb⟩; refine ⟨_, rfl, ?_⟩; replace HO_3 := aM_ (Kd.R_below yactParseLocix9_6_ hb); replace HO_5 := aM_ (Kd.R_below yactParseLocix9_7_ hb); replace HO225 := aM_ (Kd.R_below yactParseLocix9_8_ hb); replace HB := aM_ (below_step hB_ hb); (try clear hb); (try clear hb2); (try clear hk); (try clear hi)))
         go_meet
         case rel => exact ⟨_, (true), yactParseLocix9_2_, H', ⟨by have := HJ4.out; first | omega | exact Nat.le_refl _⟩, ⟨yactParseLocix9_9_⟩, ⟨hB_⟩⟩
       case rest =>
        clear HC25
        (try clear c2);(try clear c2b0);(try clear c2b1);(try clear c16);(try clear c19);(try clear c19b0);(try clear c23);(try clear c23b0);(try clear c23b1)
        obtain ⟨kq, x57_24, rfl, HA, HJ24, HO_5, HB⟩ := hcut
        have hl5_24 := (Kd.R_reads' HO_5.out).1
        rw [hl5_24] at HO_5
        (try simp only [hl5_24])
        cases kq with
        | zero => exact absurd HA.out (by simp [laws_FnExactParseLoci.j1])
        | succ kj24 =>
         have H := HA.out
         clear HA
         simp only [laws_FnExactParseLoci.j1] at H
         by_cases c38 : x57_24 = true
         ·subst c38
          replace H := ip_ H rfl
          obtain rfl := Option.some.inj H
          go_wp2
          go_ret
          exact ⟨rT_, hB_⟩
         ·replace c38 := Bool.eq_false_iff.mpr c38
          subst c38
          replace H := in_ H (show ¬ (false = true) by decide)
          replace H := Option.bind_eq_some_iff.mp H
          obtain ⟨t227, A390, H⟩ := H
          try dsimp only at H
          have A39 := Aside0.mk A390
          clear A390
          by_cases c40 : t227 < 0
          ·rw [if_pos c40] at H
           have c40b0 : decide (t227 < 0) = true := decide_eq_true c40
           clear c40
           obtain rfl := Option.some.inj H
           go_wp2_with (first | ((with_reducible refine gate_callee (f := 9) rfl ?_); refine goesM_ (some 60) Tryd.func9 #[.slice Ao26 t220.length co26, .int .i64 1] ?_; (with_reducible refine (laws_heldLocusS.calls kj24 _ _ t220 1 t227 _ ?side1 ?side2 A39.out).mono ?_); (case side1 => repeat (first | exact (Kd.R_reads' HO_5.out).2.2 | (with_reducible refine Kd.C_alloc ?_ _) | (with_reducible refine Kd.C_drewN ?_ _) | (with_reducible refine Kd.C_drew ?_))); (case side2 => exact (Kd.R_reads' HO_5.out).2.1); rintro e w41 ⟨rfl, hb⟩; refine ⟨_, rfl, ?_⟩; replace HO_5 := aM_ (Kd.R_below yactParseLocix9_7_ hb); replace HB := aM_ (below_step hB_ hb); (try clear hb); (try clear hb2); (try clear hk); (try clear hi)))
           go_ret
           exact ⟨rT_, hB_⟩
          ·rw [if_neg c40] at H
           have c40b0 : decide (t227 < 0) = false := decide_eq_false c40
           clear c40
           by_cases c42 : t227 = t219
           ·rw [if_pos c42] at H
            have c42b0 : (t227 == t219) = true := beq_iff_eq.mpr c42
            have c42b1 : (t227 != t219) = false := bne_eq_false_iff_eq.mpr c42
            clear c42
            obtain rfl := Option.some.inj H
            go_wp2_with (first | ((with_reducible refine gate_callee (f := 9) rfl ?_); refine goesM_ (some 60) Tryd.func9 #[.slice Ao26 t220.length co26, .int .i64 1] ?_; (with_reducible refine (laws_heldLocusS.calls kj24 _ _ t220 1 t227 _ ?side1 ?side2 A39.out).mono ?_); (case side1 => repeat (first | exact (Kd.R_reads' HO_5.out).2.2 | (with_reducible refine Kd.C_alloc ?_ _) | (with_reducible refine Kd.C_drewN ?_ _) | (with_reducible refine Kd.C_drew ?_))); (case side2 => exact (Kd.R_reads' HO_5.out).2.1); rintro e w43 ⟨rfl, hb⟩; refine ⟨_, rfl, ?_⟩; replace HO_5 := aM_ (Kd.R_below yactParseLocix9_7_ hb); replace HB := aM_ (below_step hB_ hb); (try clear hb); (try clear hb2); (try clear hk); (try clear hi)))
            go_ret
            exact ⟨rT_, hB_⟩
           ·rw [if_neg c42] at H
            have c42b0 : (t227 == t219) = false := beq_eq_false_iff_ne.mpr c42
            have c42b1 : (t227 != t219) = true := bne_iff_ne.mpr c42
            obtain rfl := Option.some.inj H
            go_wp2_with (first | ((with_reducible refine gate_callee (f := 9) rfl ?_); refine goesM_ (some 60) Tryd.func9 #[.slice Ao26 t220.length co26, .int .i64 1] ?_; (with_reducible refine (laws_heldLocusS.calls kj24 _ _ t220 1 t227 _ ?side1 ?side2 A39.out).mono ?_); (case side1 => repeat (first | exact (Kd.R_reads' HO_5.out).2.2 | (with_reducible refine Kd.C_alloc ?_ _) | (with_reducible refine Kd.C_drewN ?_ _) | (with_reducible refine Kd.C_drew ?_))); (case side2 => exact (Kd.R_reads' HO_5.out).2.1); rintro e w44 ⟨rfl, hb⟩; refine ⟨_, rfl, ?_⟩; replace HO_5 := aM_ (Kd.R_below yactParseLocix9_7_ hb); replace HB := aM_ (below_step hB_ hb); (try clear hb); (try clear hb2); (try clear hk); (try clear hi)))
            go_ret
            exact ⟨rT_, hB_⟩
      ·rw [if_neg c23] at H
       have c23b0 : (t221 == t219) = false := beq_eq_false_iff_ne.mpr c23
       have c23b1 : (t221 != t219) = true := bne_iff_ne.mpr c23
       obtain rfl := Option.some.inj H
       obtain ⟨Ao45, co45, eo45⟩ := Kd.R_slice HO_5.out
       subst eo45
       go_wp2_with (first | ((with_reducible refine gate_callee (f := 8) rfl ?_); refine goesM_ (some 35) Tryd.func8 #[.slice Ao45 t214.length co45, .int .i64 1] ?_; (with_reducible refine (laws_markLocusS.calls kj4 (fun k_ => some k_ = (.slice Ao45 t214.length co45 : Value).ownBlock) (.slice Ao45 t214.length co45) t214 1 t219 t220 w _ ?side1 ?side2 A17.out).mono ?_); (case side1 => repeat (first | (with_reducible first | exact HB.out | apply lA_ | apply lN_ | apply lD_) | exact HB.out)); (case side2 => exact Kd.R_tight rfl HO_5.out); rintro e w46 ⟨rfl, hy0, hb, hkp⟩; refine ⟨_, rfl, ?_⟩; replace HO_3 := aM_ (Kd.R_mono (ok' := fun k_ => some k_ ≠ (.slice Ao45 t214.length co45 : Value).ownBlock) (Kd.R_keptB (HO_3.out) hkp (fun k_ hk_ hs_ => (hk_) hs_)) (fun k_ hk_ => hk_.1)); replace HO_5 := aM_ (Kd.R_reok rfl hy0 (fun k_ e_ => HO_5.out.1 k_ e_)); replace HB := aM_ (hb); (try clear hb); (try clear hkp); (try clear hy0)) | ((with_reducible refine gate_callee (f := 9) rfl ?_); refine goesL_ (some 38) rfl rfl Tryd.func9 (by kernel_rfl) rfl #[.slice Ao45 t220.length co45, .int .i64 1] rfl yactParseLocix9_5_ ?_; (with_reducible refine (laws_heldLocusS.calls kj4 _ _ t220 1 t221 _ ?side1 ?side2 A18.out).mono ?_); (case side1 => repeat (first | exact (Kd.R_reads' HO_5.out).2.2 | (with_reducible refine Kd.C_alloc ?_ _) | (with_reducible refine Kd.C_drewN ?_ _) | (with_reducible refine Kd.C_drew ?_))); (case side2 => rw [show t220.length = t214.length from (Kd.R_reads' HO_5.out).1.symm]; exact (Kd.R_reads' HO_5.out).2.1); rintro e w47 ⟨rfl, hb⟩; refine ⟨_, rfl, ?_⟩; replace HO_3 := aM_ (Kd.R_below yactParseLocix9_6_ hb); replace HO_5 := aM_ (Kd.R_below yactParseLocix9_7_ hb); replace HB := aM_ (below_step hB_ hb); (try clear hb); (try clear hb2); (try clear hk); (try clear hi)))
       go_ret
       exact ⟨rT_, hB_⟩
theorem laws_FnExactParseLoci.walk : True := trivial

end Go.Proofs.YtgjljcejhdpibaaDoor.PFnExactParseLoci
