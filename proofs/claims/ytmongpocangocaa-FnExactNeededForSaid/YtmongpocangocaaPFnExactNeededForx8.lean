/- Written by a program of this claim's author, out of the loaded program as Lean prints it: the functions as Lean functions, and that the calls answer so. -/
import Derived.Test.YtmongpocangocaaPFnExactNeededForx0
import Derived.Test.YtmongpocangocaaPFnExactNeededForx1
import Derived.Test.YtmongpocangocaaPFnExactNeededForx3
import Derived.Test.YtmongpocangocaaPFnExactNeededForx6
import Derived.Test.YtmongpocangocaaPFnExactNeededForx7
import Derived.Test.YtmongpocangocaaPFnExactNeededForxD0
namespace Go.Proofs.Ytmongpocangocaa.PFnExactNeededFor
open Go.RowKit Go.Proofs.YtmongpocangocaaW.PrintWords Go.Proofs.YtmongpocangocaaW.PrintLast Go.Proofs.YtmongpocangocaaW.PrintMore
attribute [local go_sem] max2_int min2_int max_two min_two max_three min_three max_four min_four isSome_setCell   -- for this text's walks alone
set_option linter.unusedVariables false
set_option linter.unusedSimpArgs false

theorem yactNeededForx8_0_ {p : Prop} (h : p := by first | exact (below_size hB_) | omega) : p := h
theorem yactNeededForx8_1_ {p : Prop} (h : p := by (with_reducible repeat (first | apply Kd.S_alloc | apply Kd.S_drewN | apply Kd.S_drew)); exact HO301.out) : p := h
theorem yactNeededForx8_2_ {p : Prop} (h : p := by (with_reducible repeat (first | apply Kd.R_alloc | apply Kd.R_drewN | apply Kd.R_drew)); exact HO305.out) : p := h
theorem yactNeededForx8_3_ {p : Prop} (h : p := by first | rfl | (simp; done) | (simp [*]; done)) : p := h
theorem yactNeededForx8_4_ {p : Prop} (h : p := by (with_reducible repeat (first | apply Kd.R_alloc | apply Kd.R_drewN | apply Kd.R_drew)); exact Kd.R_mono HO305.out (fun _ hk => ⟨hk.1.2, ⟨hk.1.1.1.2, ⟨hk.1.1.2, hk.2⟩⟩⟩)) : p := h
theorem yactNeededForx8_5_ {p : Prop} (h : p := by (with_reducible repeat (first | apply Kd.S_alloc | apply Kd.S_drewN | apply Kd.S_drew)); exact Kd.S_mono HO308.out (fun _ hk => ⟨hk.1.1.2, ⟨hk.1.2, ⟨hk.1.1.1.1.2, hk.2⟩⟩⟩)) : p := h
theorem yactNeededForx8_6_ {p : Prop} (h : p := by (with_reducible repeat (first | apply Kd.R_alloc | apply Kd.R_drewN | apply Kd.R_drew)); exact Kd.R_mono HO312.out (fun _ hk => ⟨hk.2, hk.1.2⟩)) : p := h
theorem yactNeededForx8_7_ {p : Prop} (h : p := by (with_reducible repeat (first | apply Kd.R_alloc | apply Kd.R_drewN | apply Kd.R_drew)); exact HO_6.out) : p := h
theorem yactNeededForx8_8_ {p : Prop} (h : p := by (with_reducible repeat (first | apply Kd.S_alloc | apply Kd.S_drewN | apply Kd.S_drew)); exact HO_8.out) : p := h
theorem yactNeededForx8_9_ {p : Prop} (h : p := by (with_reducible repeat (first | apply Kd.R_alloc | apply Kd.R_drewN | apply Kd.R_drew)); exact HO_9.out) : p := h
theorem yactNeededForx8_10_ {p : Prop} (h : p := by (with_reducible repeat (first | apply Kd.S_alloc | apply Kd.S_drewN | apply Kd.S_drew)); exact HO316.out) : p := h
theorem yactNeededForx8_11_ {p : Prop} (h : p := by have := HJ9.out; first | omega | exact Nat.le_refl _) : p := h
theorem yactNeededForx8_12_ {p : Prop} (h : p := by (try simp only [List.map_toArray, List.map_cons, List.map_nil]); first | done | (rw [show t322.length = t309.length from (Kd.R_reads' HO_9.out).1.symm] <;> rfl) | rfl | (simp only [List.length_drop, List.length_take]; rfl)) : p := h
theorem yactNeededForx8_13_ {p : Prop} (h : p := by (with_reducible repeat (first | apply Kd.R_alloc | apply Kd.R_drewN | apply Kd.R_drew)); exact Kd.R_mono HO_9.out (fun _ hk => ⟨hk.1.1.1.2.1, ⟨hk.1.1.1.2.2, ⟨hk.1.1.2, hk.2⟩⟩⟩)) : p := h
/-! ### laws_FnExactNeededFor: function 3 -/
set_option maxHeartbeats 8000000 in
set_option maxRecDepth 100000 in
theorem laws_FnExactNeededFor.calls (k : Nat) (A0 : Option Addr) (c0 : Nat) (l0 : List (S38)) (a1 : Int) (r : Bool) (w : World) (hr0 : Kd.C k38 w A0 l0.length l0) (hc0 : l0.length ≤ c0) (h : laws_FnExactNeededFor.f k l0 a1 = some r) :
 Calls Try.prog 3 #[.slice A0 l0.length c0, .int .i64 a1] w fun e w' => e = .returned (.bool r) ∧ Below w.heap.size w w' := by
 have HR0 := Aside0.mk hr0
 have HC0 := Aside0.mk hc0
 clear hr0 hc0
 have HB := Aside0.mk (Below.refl w.heap.size w)
 have H : ((laws_szWordS.f k l0 1048576).bind fun t298 => (if t298 < 0 then (some true) else ((laws_toWordS.f k l0).bind fun t299 => ((spec_NeededFor.f k t299 a1).bind fun bt302 => ((laws_toWordS.f k l0).bind fun t306 => ((impl_NeededFor.f k t306 a1).bind fun bt309 => ((laws_eqIntS.f k bt309.1 bt302.1).bind fun t313 => (if t313 = true then (laws_FnExactNeededFor.j0 k l0 a1 bt302.1 bt302.2 t306 bt309.1 bt309.2 (bt309.2 != bt302.2)) else (laws_FnExactNeededFor.j0 k l0 a1 bt302.1 bt302.2 t306 bt309.1 bt309.2 true))))))))) = some r := h
 clear h
 replace H := Option.bind_eq_some_iff.mp H
 obtain ⟨t298, A30, H⟩ := H
 try dsimp only at H
 have A3 := Aside0.mk A30
 clear A30
 by_cases c4 : t298 < 0
 ·rw [if_pos c4] at H
  have c4b0 : decide (t298 < 0) = true := decide_eq_true c4
  clear c4
  obtain rfl := Option.some.inj H
  go_enter Try.func3, Try.ntmps3
  go_wp2_with (first | ((with_reducible refine gate_callee (f := 5) rfl ?_); refine goesM_ (some 18) Try.func5 #[.slice A0 l0.length c0, .int .i64 1048576] ?_; (with_reducible refine (laws_szWordS.calls k _ _ l0 1048576 t298 _ ?side1 ?side2 A3.out).mono ?_); (case side1 => repeat (first | exact HR0.out | (with_reducible refine Kd.C_alloc ?_ _) | (with_reducible refine Kd.C_drewN ?_ _) | (with_reducible refine Kd.C_drew ?_))); (case side2 => exact HC0.out); rintro e w5 ⟨rfl, hb⟩; refine ⟨_, rfl, ?_⟩; replace HB := aM_ (below_step hB_ hb); (try clear hb); (try clear hb2); (try clear hk); (try clear hi)))
  go_ret
  exact ⟨rT_, hB_⟩
 ·rw [if_neg c4] at H
  have c4b0 : decide (t298 < 0) = false := decide_eq_false c4
  clear c4
  replace H := Option.bind_eq_some_iff.mp H
  obtain ⟨t299, A60, H⟩ := H
  try dsimp only at H
  have A6 := Aside0.mk A60
  clear A60
  replace H := Option.bind_eq_some_iff.mp H
  obtain ⟨⟨t302, t303⟩, A70, H⟩ := H
  try dsimp only at H
  have A7 := Aside0.mk A70
  clear A70
  replace H := Option.bind_eq_some_iff.mp H
  obtain ⟨t306, A80, H⟩ := H
  try dsimp only at H
  have A8 := Aside0.mk A80
  clear A80
  replace H := Option.bind_eq_some_iff.mp H
  obtain ⟨⟨t309, t310⟩, A90, H⟩ := H
  try dsimp only at H
  have A9 := Aside0.mk A90
  clear A90
  have HC10 := Aside0.mk H
  clear H
  go_enter Try.func3, Try.ntmps3
  go_upto_region 8 with (first | ((with_reducible refine gate_callee (f := 5) rfl ?_); refine goesM_ (some 18) Try.func5 #[.slice A0 l0.length c0, .int .i64 1048576] ?_; (with_reducible refine (laws_szWordS.calls k _ _ l0 1048576 t298 _ ?side1 ?side2 A3.out).mono ?_); (case side1 => repeat (first | exact HR0.out | (with_reducible refine Kd.C_alloc ?_ _) | (with_reducible refine Kd.C_drewN ?_ _) | (with_reducible refine Kd.C_drew ?_))); (case side2 => exact HC0.out); rintro e w11 ⟨rfl, hb⟩; refine ⟨_, rfl, ?_⟩; replace HB := aM_ (below_step hB_ hb); (try clear hb); (try clear hb2); (try clear hk); (try clear hi)) | ((with_reducible refine gate_callee (f := 7) rfl ?_); refine goesM_ (some 23) Try.func7 #[.slice A0 l0.length c0] ?_; (with_reducible refine (laws_toWordS.calls k _ _ l0 t299 _ ?side1 ?side2 A6.out).mono ?_); (case side1 => repeat (first | exact (Kd.C_below HR0.out HB.out) | (with_reducible refine Kd.C_alloc ?_ _) | (with_reducible refine Kd.C_drewN ?_ _) | (with_reducible refine Kd.C_drew ?_))); (case side2 => exact HC0.out); rintro e w12 ⟨v300, rfl, ho0, hb⟩; refine ⟨_, rfl, ?_⟩; obtain ⟨lq13, hL_, q3_⟩ := Kd.letter_ (w := w) hb yactNeededForx8_0_; have Hlq13 := Aside0.mk q3_; have HO301 := aM_ (Kd.S_lower (Kd.S_geL hL_ ho0) (below_size hB_)); replace HB := aM_ (below_step hB_ hb); (try clear hL_ q3_); (try clear hb); (try clear hb2); (try clear hk); (try clear hi); (try clear ho0); obtain ⟨Ao14, co14, eo14⟩ := Kd.S_slice HO301.out; subst eo14) | ((with_reducible refine gate_callee (f := 6) rfl ?_); refine goesM_ (some 25) Try.func6 #[.slice Ao14 t299.length co14, .int .i64 a1] ?_; (with_reducible refine (spec_NeededFor.calls k _ _ t299 a1 t302 t303 _ ?side1 ?side2 A7.out).mono ?_); (case side1 => repeat (first | exact (Kd.S_reads' HO301.out).2.2 | (with_reducible refine Kd.C_alloc ?_ _) | (with_reducible refine Kd.C_drewN ?_ _) | (with_reducible refine Kd.C_drew ?_))); (case side2 => exact (Kd.S_reads' HO301.out).2.1); rintro e w15 ⟨v304, rfl, ho0, hb⟩; refine ⟨_, rfl, ?_⟩; obtain ⟨lq16, hL_, q3_⟩ := Kd.letter_ (w := w) hb yactNeededForx8_0_; have Hlq16 := Aside0.mk q3_; have HO305 := aM_ (Kd.R_lower (Kd.R_geL hL_ ho0) (below_size hB_)); replace HO301 := aM_ (Kd.S_ltL hL_ (Kd.S_told (Kd.S_old yactNeededForx8_1_ hb) (Kd.R_base ho0))); replace HB := aM_ (below_step hB_ hb); (try clear hL_ q3_); (try clear hb); (try clear hb2); (try clear hk); (try clear hi); (try clear ho0)) | ((with_reducible refine gate_callee (f := 7) rfl ?_); refine goesM_ (some 29) Try.func7 #[.slice A0 l0.length c0] ?_; (with_reducible refine (laws_toWordS.calls k _ _ l0 t306 _ ?side1 ?side2 A8.out).mono ?_); (case side1 => repeat (first | exact (Kd.C_below HR0.out HB.out) | (with_reducible refine Kd.C_alloc ?_ _) | (with_reducible refine Kd.C_drewN ?_ _) | (with_reducible refine Kd.C_drew ?_))); (case side2 => exact HC0.out); rintro e w17 ⟨v307, rfl, ho0, hb⟩; refine ⟨_, rfl, ?_⟩; obtain ⟨lq18, hL_, q3_⟩ := Kd.letter_ (w := w) hb yactNeededForx8_0_; have Hlq18 := Aside0.mk q3_; have HO308 := aM_ (Kd.S_lower (Kd.S_new' (Kd.S_new' (Kd.S_geL hL_ ho0) (Kd.S_lt yactNeededForx8_1_)) (Kd.R_lt yactNeededForx8_2_)) (below_size hB_)); replace HO301 := aM_ (Kd.S_ltL hL_ (Kd.S_told (Kd.S_old yactNeededForx8_1_ hb) (Kd.S_base ho0))); replace HO305 := aM_ (Kd.R_ltL hL_ (Kd.R_old yactNeededForx8_2_ hb)); replace HB := aM_ (below_step hB_ hb); (try clear hL_ q3_); (try clear hb); (try clear hb2); (try clear hk); (try clear hi); (try clear ho0); obtain ⟨Ao19, co19, eo19⟩ := Kd.S_slice HO308.out; subst eo19) | ((with_reducible refine gate_callee (f := 8) rfl ?_); refine goesM_ (some 33) Try.func8 #[.slice Ao19 t306.length co19, .int .i64 a1] ?_; (with_reducible refine (impl_NeededFor.calls k _ _ t306 a1 t309 t310 _ ?side1 ?side2 A9.out).mono ?_); (case side1 => repeat (first | exact (Kd.S_reads' HO308.out).2.2 | (with_reducible refine Kd.C_alloc ?_ _) | (with_reducible refine Kd.C_drewN ?_ _) | (with_reducible refine Kd.C_drew ?_))); (case side2 => exact (Kd.S_reads' HO308.out).2.1); rintro e w20 ⟨v311, rfl, ho0, hb⟩; refine ⟨_, rfl, ?_⟩; obtain ⟨lq21, hL_, q3_⟩ := Kd.letter_ (w := w) hb yactNeededForx8_0_; have Hlq21 := Aside0.mk q3_; have HO312 := aM_ (Kd.R_lower (Kd.R_new' (Kd.R_geL hL_ ho0) (Kd.R_lt yactNeededForx8_2_)) (below_size hB_)); replace HO301 := aM_ (Kd.S_ltL hL_ (Kd.S_told (Kd.S_old yactNeededForx8_1_ hb) (Kd.R_base ho0))); replace HO305 := aM_ (Kd.R_ltL hL_ (Kd.R_told (Kd.R_old yactNeededForx8_2_ hb) (Kd.R_base ho0))); replace HO308 := aM_ (Kd.S_ltL hL_ (Kd.S_told (Kd.S_old (by (with_reducible repeat (first | apply Kd.S_alloc | apply Kd.S_drewN | apply Kd.S_drew)); exact HO308.out) hb) (Kd.R_base ho0))); replace HB := aM_ (below_step hB_ hb); (try clear hL_ q3_); (try clear hb); (try clear hb2); (try clear hk); (try clear hi); (try clear ho0)))
  (try simp only [Act.put, List.setIfInBounds_toArray, List.set_cons_zero, List.set_cons_succ])
  go_cut [44] (fun v44 wc => ∃ (kq : Nat) (x44_9 : Bool), v44 = .bool x44_9 ∧ Aside0 (laws_FnExactNeededFor.j0 kq l0 a1 t302 t303 t306 t309 t310 x44_9 = some r) ∧ Aside0 (kq ≤ k) ∧ Aside0 (Kd.R (Kd.int .i64) 3 wc w.heap.size (fun k_ => some k_ ≠ (v311 : Value).ownBlock ∧ lq16 ≤ k_ ∧ k_ < lq18 ∧ k_ < lq21) v304 t302) ∧ Aside0 (Kd.S k43 43 wc w.heap.size (fun k_ => some k_ ≠ (v304 : Value).ownBlock ∧ some k_ ≠ (v311 : Value).ownBlock ∧ lq18 ≤ k_ ∧ k_ < lq21) (.slice Ao19 t306.length co19) t306) ∧ Aside0 (Kd.R (Kd.int .i64) 3 wc w.heap.size (fun k_ => some k_ ≠ (v304 : Value).ownBlock ∧ lq21 ≤ k_) v311 t309) ∧ Aside0 (Below w.heap.size w wc))
  case first =>
   have H := HC10.out
   clear HC10
   replace H := Option.bind_eq_some_iff.mp H
   obtain ⟨t313, A220, H⟩ := H
   try dsimp only at H
   have A22 := Aside0.mk A220
   clear A220
   by_cases c23 : t313 = true
   ·subst c23
    replace H := ip_ H rfl
    have H' := Aside0.mk H
    clear H
    obtain ⟨Ao24, co24, eo24⟩ := Kd.R_slice HO312.out
    subst eo24
    obtain ⟨Ao25, co25, eo25⟩ := Kd.R_slice HO305.out
    subst eo25
    go_wp2_with (first | ((with_reducible refine gate_callee (f := 9) rfl ?_); refine goesM_ (some 38) Try.func9 #[.slice Ao24 t309.length co24, .slice Ao25 t302.length co25] ?_; (with_reducible refine (laws_eqIntS.calls k _ _ t309 _ _ t302 true _ ?side1 ?side2 ?side3 ?side4 A22.out).mono ?_); (case side1 => repeat (first | exact (Kd.R_reads' HO312.out).2.2 | (with_reducible refine Kd.C_alloc ?_ _) | (with_reducible refine Kd.C_drewN ?_ _) | (with_reducible refine Kd.C_drew ?_))); (case side2 => exact (Kd.R_reads' HO312.out).2.1); (case side3 => repeat (first | exact (Kd.R_reads' HO305.out).2.2 | (with_reducible refine Kd.C_alloc ?_ _) | (with_reducible refine Kd.C_drewN ?_ _) | (with_reducible refine Kd.C_drew ?_))); (case side4 => exact (Kd.R_reads' HO305.out).2.1); rintro e w' ⟨rfl, ⟨nd, rfl⟩⟩; refine ⟨_, rfl, ?_⟩))
    go_meet
    case rel => exact ⟨_, ((t310 != t303)), yactNeededForx8_3_, H', ⟨oR_⟩, ⟨yactNeededForx8_4_⟩, ⟨yactNeededForx8_5_⟩, ⟨yactNeededForx8_6_⟩, ⟨hB_⟩⟩
   ·replace c23 := Bool.eq_false_iff.mpr c23
    subst c23
    replace H := in_ H (show ¬ (false = true) by decide)
    have H' := Aside0.mk H
    clear H
    obtain ⟨Ao26, co26, eo26⟩ := Kd.R_slice HO312.out
    subst eo26
    obtain ⟨Ao27, co27, eo27⟩ := Kd.R_slice HO305.out
    subst eo27
    go_wp2_with (first | ((with_reducible refine gate_callee (f := 9) rfl ?_); refine goesM_ (some 38) Try.func9 #[.slice Ao26 t309.length co26, .slice Ao27 t302.length co27] ?_; (with_reducible refine (laws_eqIntS.calls k _ _ t309 _ _ t302 false _ ?side1 ?side2 ?side3 ?side4 A22.out).mono ?_); (case side1 => repeat (first | exact (Kd.R_reads' HO312.out).2.2 | (with_reducible refine Kd.C_alloc ?_ _) | (with_reducible refine Kd.C_drewN ?_ _) | (with_reducible refine Kd.C_drew ?_))); (case side2 => exact (Kd.R_reads' HO312.out).2.1); (case side3 => repeat (first | exact (Kd.R_reads' HO305.out).2.2 | (with_reducible refine Kd.C_alloc ?_ _) | (with_reducible refine Kd.C_drewN ?_ _) | (with_reducible refine Kd.C_drew ?_))); (case side4 => exact (Kd.R_reads' HO305.out).2.1); rintro e w' ⟨rfl, ⟨nd, rfl⟩⟩; refine ⟨_, rfl, ?_⟩))
    go_meet
    case rel => exact ⟨_, (true), yactNeededForx8_3_, H', ⟨oR_⟩, ⟨yactNeededForx8_4_⟩, ⟨yactNeededForx8_5_⟩, ⟨yactNeededForx8_6_⟩, ⟨hB_⟩⟩
  case rest =>
   clear HC10
   (try clear c4);(try clear c4b0);(try clear HB)
   obtain ⟨kq, x44_9, rfl, HA, HJ9, HO_6, HO_8, HO_9, HB⟩ := hcut
   cases kq with
   | zero => exact absurd HA.out (by simp [laws_FnExactNeededFor.j0])
   | succ kj9 =>
    have H := HA.out
    clear HA
    simp only [laws_FnExactNeededFor.j0] at H
    by_cases c28 : x44_9 = true
    ·subst c28
     replace H := ip_ H rfl
     obtain rfl := Option.some.inj H
     go_wp2
     go_ret
     exact ⟨rT_, hB_⟩
    ·replace c28 := Bool.eq_false_iff.mpr c28
     subst c28
     replace H := in_ H (show ¬ (false = true) by decide)
     replace H := Option.bind_eq_some_iff.mp H
     obtain ⟨t314, A290, H⟩ := H
     try dsimp only at H
     have A29 := Aside0.mk A290
     clear A290
     replace H := Option.bind_eq_some_iff.mp H
     obtain ⟨t317, A300, H⟩ := H
     try dsimp only at H
     have A30 := Aside0.mk A300
     clear A300
     by_cases c31 : t317 = true
     ·subst c31
      replace H := ip_ H rfl
      replace H := Option.bind_eq_some_iff.mp H
      obtain ⟨⟨t318, t319⟩, A320, H⟩ := H
      try dsimp only at H
      have A32 := Aside0.mk A320
      clear A320
      have HC33 := Aside0.mk H
      clear H
      go_upto_region 14 with (first | ((with_reducible refine gate_callee (f := 7) rfl ?_); refine goesM_ (some 47) Try.func7 #[.slice A0 l0.length c0] ?_; (with_reducible refine (laws_toWordS.calls kj9 _ _ l0 t314 _ ?side1 ?side2 A29.out).mono ?_); (case side1 => repeat (first | exact (Kd.C_below HR0.out HB.out) | (with_reducible refine Kd.C_alloc ?_ _) | (with_reducible refine Kd.C_drewN ?_ _) | (with_reducible refine Kd.C_drew ?_))); (case side2 => exact HC0.out); rintro e w34 ⟨v315, rfl, ho0, hb⟩; refine ⟨_, rfl, ?_⟩; obtain ⟨lq35, hL_, q3_⟩ := Kd.letter_ (w := w) hb yactNeededForx8_0_; have Hlq35 := Aside0.mk q3_; have HO316 := aM_ (Kd.S_lower (Kd.S_new' (Kd.S_new' (Kd.S_new' (Kd.S_geL hL_ ho0) (Kd.R_lt yactNeededForx8_7_)) (Kd.S_lt yactNeededForx8_8_)) (Kd.R_lt yactNeededForx8_9_)) (below_size hB_)); replace HO_6 := aM_ (Kd.R_ltL hL_ (Kd.R_old yactNeededForx8_7_ hb)); replace HO_8 := aM_ (Kd.S_ltL hL_ (Kd.S_told (Kd.S_old yactNeededForx8_8_ hb) (Kd.S_base ho0))); replace HO_9 := aM_ (Kd.R_ltL hL_ (Kd.R_old yactNeededForx8_9_ hb)); replace HB := aM_ (below_step hB_ hb); (try clear hL_ q3_); (try clear hb); (try clear hb2); (try clear hk); (try clear hi); (try clear ho0); obtain ⟨Ao36, co36, eo36⟩ := Kd.S_slice HO316.out; subst eo36) | ((with_reducible refine gate_callee (f := 10) rfl ?_); refine goesM_ (some 48) Try.func10 #[.slice Ao19 t306.length co19, .slice Ao36 t314.length co36] ?_; (with_reducible refine (laws_eqWordS.calls kj9 _ _ t306 _ _ t314 true _ ?side1 ?side2 ?side3 ?side4 A30.out).mono ?_); (case side1 => repeat (first | exact (Kd.S_reads' HO_8.out).2.2 | (with_reducible refine Kd.C_alloc ?_ _) | (with_reducible refine Kd.C_drewN ?_ _) | (with_reducible refine Kd.C_drew ?_))); (case side2 => exact (Kd.S_reads' HO_8.out).2.1); (case side3 => repeat (first | exact (Kd.S_reads' HO316.out).2.2 | (with_reducible refine Kd.C_alloc ?_ _) | (with_reducible refine Kd.C_drewN ?_ _) | (with_reducible refine Kd.C_drew ?_))); (case side4 => exact (Kd.S_reads' HO316.out).2.1); rintro e w37 ⟨rfl, hb⟩; refine ⟨_, rfl, ?_⟩; replace HO_6 := aM_ (Kd.R_below yactNeededForx8_7_ hb); replace HO_8 := aM_ (Kd.S_below yactNeededForx8_8_ hb); replace HO_9 := aM_ (Kd.R_below yactNeededForx8_9_ hb); replace HO316 := aM_ (Kd.S_below yactNeededForx8_10_ hb); replace HB := aM_ (below_step hB_ hb); (try clear hb); (try clear hb2); (try clear hk); (try clear hi)) | ((with_reducible refine gate_callee (f := 11) rfl ?_); refine goesM_ (some 52) Try.func11 #[.slice Ao19 t306.length co19, .int .i64 1] ?_; (with_reducible refine (laws_markWordS.calls (fun k_ => lq18 ≤ k_ ∧ k_ < lq21 ∧ k_ < lq35) (.slice Ao19 t306.length co19) t306 1 t318 t319 w _ ?side1 ?side2 A32.out).mono ?_); (case side1 => repeat (first | (with_reducible first | exact HB.out | apply lA_ | apply lN_ | apply lD_) | exact HB.out)); (case side2 => exact Kd.S_mono (HO_8.out) (fun k_ hk_ => ⟨hk_.1.1.2.2.1, hk_.1.1.2.2.2, hk_.2⟩)); rintro e w38 ⟨rfl, hy0, hb, hkp⟩; refine ⟨_, rfl, ?_⟩; replace HO_6 := aM_ (Kd.R_mono (ok' := fun k_ => some k_ ≠ (v311 : Value).ownBlock ∧ lq16 ≤ k_ ∧ k_ < lq18 ∧ k_ < lq21 ∧ k_ < lq35) (Kd.R_keptB (HO_6.out) hkp (fun k_ hk_ hs_ => (fun e_ => Nat.not_le.2 hk_.1.2.2.1 (e_.1)) hs_)) (fun k_ hk_ => ⟨hk_.1.1.1, hk_.1.1.2.1, hk_.1.1.2.2.1, hk_.1.1.2.2.2, hk_.1.2⟩)); replace HO_8 := aM_ (Kd.S_mono (ok' := fun k_ => True) hy0 (fun _ _ => trivial)); replace HO_9 := aM_ (Kd.R_mono (ok' := fun k_ => some k_ ≠ (v304 : Value).ownBlock ∧ lq21 ≤ k_ ∧ k_ < lq35) (Kd.R_keptB (HO_9.out) hkp (fun k_ hk_ hs_ => (fun e_ => Nat.not_le.2 (e_.2.1) hk_.1.2) hs_)) (fun k_ hk_ => ⟨hk_.1.1.1, hk_.1.1.2, hk_.1.2⟩)); replace HO316 := aM_ (Kd.S_mono (ok' := fun k_ => some k_ ≠ (v304 : Value).ownBlock ∧ some k_ ≠ (.slice Ao19 t306.length co19 : Value).ownBlock ∧ some k_ ≠ (v311 : Value).ownBlock ∧ lq35 ≤ k_) (Kd.S_keptB (HO316.out) hkp (fun k_ hk_ hs_ => (fun e_ => Nat.not_le.2 (e_.2.2) hk_.1.1.1.2) hs_)) (fun k_ hk_ => ⟨hk_.1.1.1.2, hk_.1.1.2, hk_.1.2, hk_.1.1.1.1.2⟩)); replace HB := aM_ (hb); (try clear hb); (try clear hkp); (try clear hy0)))
      (try simp only [Act.put, List.setIfInBounds_toArray, List.set_cons_zero, List.set_cons_succ])
      go_cut [65] (fun v65 wc => ∃ (kq : Nat) (x65_32 : Bool), v65 = .bool x65_32 ∧ Aside0 (laws_FnExactNeededFor.j1 kq l0 a1 t302 t303 t309 x65_32 = some r) ∧ Aside0 (kq ≤ kj9) ∧ Aside0 (Kd.R (Kd.int .i64) 3 wc w.heap.size (fun k_ => some k_ ≠ (v311 : Value).ownBlock ∧ lq16 ≤ k_ ∧ k_ < lq18 ∧ k_ < lq21 ∧ k_ < lq35) v304 t302) ∧ Aside0 (Kd.R (Kd.int .i64) 3 wc w.heap.size (fun k_ => some k_ ≠ (v304 : Value).ownBlock ∧ lq21 ≤ k_ ∧ k_ < lq35) v311 t309) ∧ Aside0 (Below w.heap.size w wc))
      case first =>
       have H := HC33.out
       clear HC33
       by_cases c39 : t318 < 0
       ·rw [if_pos c39] at H
        have c39b0 : decide (t318 < 0) = true := decide_eq_true c39
        clear c39
        (first | rw [c39b0] | (simp only [i64_w, i32_w]; rw [c39b0]) | skip)
        have H' := Aside0.mk H
        clear H
        go_wp2
        go_meet
        case rel => exact ⟨_, (true), yactNeededForx8_3_, H', ⟨yactNeededForx8_11_⟩, ⟨yactNeededForx8_7_⟩, ⟨yactNeededForx8_9_⟩, ⟨hB_⟩⟩
       ·rw [if_neg c39] at H
        have c39b0 : decide (t318 < 0) = false := decide_eq_false c39
        clear c39
        (first | rw [c39b0] | (simp only [i64_w, i32_w]; rw [c39b0]) | skip)
        replace H := Option.bind_eq_some_iff.mp H
        obtain ⟨t320, A400, H⟩ := H
        try dsimp only at H
        have A40 := Aside0.mk A400
        clear A400
        by_cases c41 : t320 = true
        ·subst c41
         replace H := ip_ H rfl
         have H' := Aside0.mk H
         clear H
         obtain ⟨Ao42, co42, eo42⟩ := Kd.R_slice HO_9.out
         subst eo42
         obtain ⟨Ao43, co43, eo43⟩ := Kd.R_slice HO_6.out
         subst eo43
         go_wp2_with (first | (go_at_call 9; (with_reducible refine (laws_eqIntS.calls kj9 _ _ t309 _ _ t302 true _ ?side1 ?side2 ?side3 ?side4 A40.out).mono ?_); (case side1 => repeat (first | exact (Kd.R_reads' HO_9.out).2.2 | (with_reducible refine Kd.C_alloc ?_ _) | (with_reducible refine Kd.C_drewN ?_ _) | (with_reducible refine Kd.C_drew ?_))); (case side2 => exact (Kd.R_reads' HO_9.out).2.1); (case side3 => repeat (first | exact (Kd.R_reads' HO_6.out).2.2 | (with_reducible refine Kd.C_alloc ?_ _) | (with_reducible refine Kd.C_drewN ?_ _) | (with_reducible refine Kd.C_drew ?_))); (case side4 => exact (Kd.R_reads' HO_6.out).2.1); rintro e w' ⟨rfl, ⟨nd, rfl⟩⟩))
         go_meet
         case rel => exact ⟨_, ((t310 != t303)), yactNeededForx8_3_, H', ⟨yactNeededForx8_11_⟩, ⟨yactNeededForx8_7_⟩, ⟨yactNeededForx8_9_⟩, ⟨hB_⟩⟩
        ·replace c41 := Bool.eq_false_iff.mpr c41
         subst c41
         replace H := in_ H (show ¬ (false = true) by decide)
         have H' := Aside0.mk H
         clear H
         obtain ⟨Ao44, co44, eo44⟩ := Kd.R_slice HO_9.out
         subst eo44
         obtain ⟨Ao45, co45, eo45⟩ := Kd.R_slice HO_6.out
         subst eo45
         go_wp2_with (first | (go_at_call 9; (with_reducible refine (laws_eqIntS.calls kj9 _ _ t309 _ _ t302 false _ ?side1 ?side2 ?side3 ?side4 A40.out).mono ?_); (case side1 => repeat (first | exact (Kd.R_reads' HO_9.out).2.2 | (with_reducible refine Kd.C_alloc ?_ _) | (with_reducible refine Kd.C_drewN ?_ _) | (with_reducible refine Kd.C_drew ?_))); (case side2 => exact (Kd.R_reads' HO_9.out).2.1); (case side3 => repeat (first | exact (Kd.R_reads' HO_6.out).2.2 | (with_reducible refine Kd.C_alloc ?_ _) | (with_reducible refine Kd.C_drewN ?_ _) | (with_reducible refine Kd.C_drew ?_))); (case side4 => exact (Kd.R_reads' HO_6.out).2.1); rintro e w' ⟨rfl, ⟨nd, rfl⟩⟩))
         go_meet
         case rel => exact ⟨_, (true), yactNeededForx8_3_, H', ⟨yactNeededForx8_11_⟩, ⟨yactNeededForx8_7_⟩, ⟨yactNeededForx8_9_⟩, ⟨hB_⟩⟩
      case rest =>
       clear HC33
       (try clear c4);(try clear c4b0);(try clear c28);(try clear c31);(try clear HO_6);(try clear HO_9);(try clear HB)
       obtain ⟨kq, x65_32, rfl, HA, HJ32, HO_6, HO_9, HB⟩ := hcut
       cases kq with
       | zero => exact absurd HA.out (by simp [laws_FnExactNeededFor.j1])
       | succ kj32 =>
        have H := HA.out
        clear HA
        simp only [laws_FnExactNeededFor.j1] at H
        by_cases c46 : x65_32 = true
        ·subst c46
         replace H := ip_ H rfl
         obtain rfl := Option.some.inj H
         go_wp2
         go_ret
         exact ⟨rT_, hB_⟩
        ·replace c46 := Bool.eq_false_iff.mpr c46
         subst c46
         replace H := in_ H (show ¬ (false = true) by decide)
         replace H := Option.bind_eq_some_iff.mp H
         obtain ⟨⟨t321, t322⟩, A470, H⟩ := H
         try dsimp only at H
         have A47 := Aside0.mk A470
         clear A470
         replace H := Option.bind_eq_some_iff.mp H
         obtain ⟨t323, A480, H⟩ := H
         try dsimp only at H
         have A48 := Aside0.mk A480
         clear A480
         by_cases c49 : t323 < 0
         ·rw [if_pos c49] at H
          have c49b0 : decide (t323 < 0) = true := decide_eq_true c49
          clear c49
          obtain rfl := Option.some.inj H
          obtain ⟨Ao50, co50, eo50⟩ := Kd.R_slice HO_9.out
          subst eo50
          go_wp2_with (first | ((with_reducible refine gate_callee (f := 12) rfl ?_); refine goesM_ (some 68) Try.func12 #[.slice Ao50 t309.length co50, .int .i64 1] ?_; (with_reducible refine (laws_markIntS.calls kj32 (fun k_ => some k_ = (.slice Ao50 t309.length co50 : Value).ownBlock) (.slice Ao50 t309.length co50) t309 1 t321 t322 w _ ?side1 ?side2 A47.out).mono ?_); (case side1 => repeat (first | (with_reducible first | exact HB.out | apply lA_ | apply lN_ | apply lD_) | exact HB.out)); (case side2 => exact Kd.R_tight rfl HO_9.out); rintro e w51 ⟨rfl, hy0, hb, hkp⟩; refine ⟨_, rfl, ?_⟩; replace HO_6 := aM_ (Kd.R_mono (ok' := fun k_ => some k_ ≠ (.slice Ao50 t309.length co50 : Value).ownBlock ∧ lq16 ≤ k_ ∧ k_ < lq18 ∧ k_ < lq21 ∧ k_ < lq35) (Kd.R_keptB (HO_6.out) hkp (fun k_ hk_ hs_ => (hk_.1) hs_)) (fun k_ hk_ => ⟨hk_.1.1, hk_.1.2.1, hk_.1.2.2.1, hk_.1.2.2.2.1, hk_.1.2.2.2.2⟩)); replace HO_9 := aM_ (Kd.R_reok rfl hy0 (fun k_ e_ => HO_9.out.1 k_ e_)); replace HB := aM_ (hb); (try clear hb); (try clear hkp); (try clear hy0)) | ((with_reducible refine gate_callee (f := 13) rfl ?_); refine goesL_ (some 71) rfl rfl Try.func13 (by kernel_rfl) rfl #[.slice Ao50 t322.length co50, .int .i64 1] rfl yactNeededForx8_12_ ?_; (with_reducible refine (laws_heldIntS.calls kj32 _ _ t322 1 t323 _ ?side1 ?side2 A48.out).mono ?_); (case side1 => repeat (first | exact (Kd.R_reads' HO_9.out).2.2 | (with_reducible refine Kd.C_alloc ?_ _) | (with_reducible refine Kd.C_drewN ?_ _) | (with_reducible refine Kd.C_drew ?_))); (case side2 => rw [show t322.length = t309.length from (Kd.R_reads' HO_9.out).1.symm]; exact (Kd.R_reads' HO_9.out).2.1); rintro e w' ⟨rfl, ⟨nd, rfl⟩⟩; refine ⟨_, rfl, ?_⟩))
          go_ret
          exact ⟨rT_, hB_⟩
         ·rw [if_neg c49] at H
          have c49b0 : decide (t323 < 0) = false := decide_eq_false c49
          clear c49
          by_cases c52 : t323 = t321
          ·rw [if_pos c52] at H
           have c52b0 : (t323 == t321) = true := beq_iff_eq.mpr c52
           have c52b1 : (t323 != t321) = false := bne_eq_false_iff_eq.mpr c52
           clear c52
           replace H := Option.bind_eq_some_iff.mp H
           obtain ⟨t324, A530, H⟩ := H
           try dsimp only at H
           have A53 := Aside0.mk A530
           clear A530
           replace H := Option.bind_eq_some_iff.mp H
           obtain ⟨⟨t327, t328⟩, A540, H⟩ := H
           try dsimp only at H
           have A54 := Aside0.mk A540
           clear A540
           have HC55 := Aside0.mk H
           clear H
           obtain ⟨Ao56, co56, eo56⟩ := Kd.R_slice HO_9.out
           subst eo56
           go_upto_region 25 with (first | ((with_reducible refine gate_callee (f := 12) rfl ?_); refine goesM_ (some 68) Try.func12 #[.slice Ao56 t309.length co56, .int .i64 1] ?_; (with_reducible refine (laws_markIntS.calls kj32 (fun k_ => some k_ = (.slice Ao56 t309.length co56 : Value).ownBlock) (.slice Ao56 t309.length co56) t309 1 t321 t322 w _ ?side1 ?side2 A47.out).mono ?_); (case side1 => repeat (first | (with_reducible first | exact HB.out | apply lA_ | apply lN_ | apply lD_) | exact HB.out)); (case side2 => exact Kd.R_tight rfl HO_9.out); rintro e w57 ⟨rfl, hy0, hb, hkp⟩; refine ⟨_, rfl, ?_⟩; replace HO_6 := aM_ (Kd.R_mono (ok' := fun k_ => some k_ ≠ (.slice Ao56 t309.length co56 : Value).ownBlock ∧ lq16 ≤ k_ ∧ k_ < lq18 ∧ k_ < lq21 ∧ k_ < lq35) (Kd.R_keptB (HO_6.out) hkp (fun k_ hk_ hs_ => (hk_.1) hs_)) (fun k_ hk_ => ⟨hk_.1.1, hk_.1.2.1, hk_.1.2.2.1, hk_.1.2.2.2.1, hk_.1.2.2.2.2⟩)); replace HO_9 := aM_ (Kd.R_reok rfl hy0 (fun k_ e_ => HO_9.out.1 k_ e_)); replace HB := aM_ (hb); (try clear hb); (try clear hkp); (try clear hy0)) | ((with_reducible refine gate_callee (f := 13) rfl ?_); refine goesL_ (some 71) rfl rfl Try.func13 (by kernel_rfl) rfl #[.slice Ao56 t322.length co56, .int .i64 1] rfl yactNeededForx8_12_ ?_; (with_reducible refine (laws_heldIntS.calls kj32 _ _ t322 1 t323 _ ?side1 ?side2 A48.out).mono ?_); (case side1 => repeat (first | exact (Kd.R_reads' HO_9.out).2.2 | (with_reducible refine Kd.C_alloc ?_ _) | (with_reducible refine Kd.C_drewN ?_ _) | (with_reducible refine Kd.C_drew ?_))); (case side2 => rw [show t322.length = t309.length from (Kd.R_reads' HO_9.out).1.symm]; exact (Kd.R_reads' HO_9.out).2.1); rintro e w' ⟨rfl, ⟨nd, rfl⟩⟩; refine ⟨_, rfl, ?_⟩) | ((with_reducible refine gate_callee (f := 7) rfl ?_); refine goesM_ (some 79) Try.func7 #[.slice A0 l0.length c0] ?_; (with_reducible refine (laws_toWordS.calls kj32 _ _ l0 t324 _ ?side1 ?side2 A53.out).mono ?_); (case side1 => repeat (first | exact (Kd.C_below HR0.out hB_) | (with_reducible refine Kd.C_alloc ?_ _) | (with_reducible refine Kd.C_drewN ?_ _) | (with_reducible refine Kd.C_drew ?_))); (case side2 => exact HC0.out); rintro e w58 ⟨v325, rfl, ho0, hb⟩; refine ⟨_, rfl, ?_⟩; obtain ⟨lq59, hL_, q3_⟩ := Kd.letter_ (w := w) hb yactNeededForx8_0_; have Hlq59 := Aside0.mk q3_; have HO326 := aM_ (Kd.S_lower (Kd.S_new' (Kd.S_new' (Kd.S_geL hL_ ho0) (Kd.R_lt yactNeededForx8_7_)) (Kd.R_lt yactNeededForx8_9_)) (below_size hB_)); replace HO_6 := aM_ (Kd.R_ltL hL_ (Kd.R_old yactNeededForx8_7_ hb)); replace HO_9 := aM_ (Kd.R_ltL hL_ (Kd.R_old yactNeededForx8_9_ hb)); replace HB := aM_ (below_step hB_ hb); (try clear hL_ q3_); (try clear hb); (try clear hb2); (try clear hk); (try clear hi); (try clear ho0); obtain ⟨Ao60, co60, eo60⟩ := Kd.S_slice HO326.out; subst eo60) | ((with_reducible refine gate_callee (f := 8) rfl ?_); refine goesM_ (some 81) Try.func8 #[.slice Ao60 t324.length co60, .int .i64 a1] ?_; (with_reducible refine (impl_NeededFor.calls kj32 _ _ t324 a1 t327 t328 _ ?side1 ?side2 A54.out).mono ?_); (case side1 => repeat (first | exact (Kd.S_reads' HO326.out).2.2 | (with_reducible refine Kd.C_alloc ?_ _) | (with_reducible refine Kd.C_drewN ?_ _) | (with_reducible refine Kd.C_drew ?_))); (case side2 => exact (Kd.S_reads' HO326.out).2.1); rintro e w61 ⟨v329, rfl, ho0, hb⟩; refine ⟨_, rfl, ?_⟩; obtain ⟨lq62, hL_, q3_⟩ := Kd.letter_ (w := w) hb yactNeededForx8_0_; have Hlq62 := Aside0.mk q3_; have HO330 := aM_ (Kd.R_lower (Kd.R_new' (Kd.R_new' (Kd.R_geL hL_ ho0) (Kd.R_lt yactNeededForx8_7_)) (Kd.R_lt yactNeededForx8_9_)) (below_size hB_)); replace HO_6 := aM_ (Kd.R_ltL hL_ (Kd.R_told (Kd.R_old yactNeededForx8_7_ hb) (Kd.R_base ho0))); replace HO_9 := aM_ (Kd.R_ltL hL_ (Kd.R_told (Kd.R_old yactNeededForx8_9_ hb) (Kd.R_base ho0))); replace HO326 := aM_ (Kd.S_ltL hL_ (Kd.S_told (Kd.S_old (by (with_reducible repeat (first | apply Kd.S_alloc | apply Kd.S_drewN | apply Kd.S_drew)); exact HO326.out) hb) (Kd.R_base ho0))); replace HB := aM_ (below_step hB_ hb); (try clear hL_ q3_); (try clear hb); (try clear hb2); (try clear hk); (try clear hi); (try clear ho0)))
           (try simp only [Act.put, List.setIfInBounds_toArray, List.set_cons_zero, List.set_cons_succ])
           go_cut [92] (fun v92 wc => ∃ (kq : Nat) (x92_54 : Bool), v92 = .bool x92_54 ∧ Aside0 (laws_FnExactNeededFor.j2 kq t322 t321 x92_54 = some r) ∧ Aside0 (kq ≤ kj32) ∧ Aside0 (Kd.R (Kd.int .i64) 3 wc w.heap.size (fun k_ => lq21 ≤ k_ ∧ k_ < lq35 ∧ k_ < lq59 ∧ k_ < lq62) (.slice Ao56 t309.length co56) t322) ∧ Aside0 (Below w.heap.size w wc))
           case first =>
            have H := HC55.out
            clear HC55
            replace H := Option.bind_eq_some_iff.mp H
            obtain ⟨t331, A630, H⟩ := H
            try dsimp only at H
            have A63 := Aside0.mk A630
            clear A630
            by_cases c64 : t331 = true
            ·subst c64
             replace H := ip_ H rfl
             have H' := Aside0.mk H
             clear H
             obtain ⟨Ao65, co65, eo65⟩ := Kd.R_slice HO330.out
             subst eo65
             obtain ⟨Ao66, co66, eo66⟩ := Kd.R_slice HO_6.out
             subst eo66
             go_wp2_with (first | ((with_reducible refine gate_callee (f := 9) rfl ?_); refine goesM_ (some 86) Try.func9 #[.slice Ao65 t327.length co65, .slice Ao66 t302.length co66] ?_; (with_reducible refine (laws_eqIntS.calls kj32 _ _ t327 _ _ t302 true _ ?side1 ?side2 ?side3 ?side4 A63.out).mono ?_); (case side1 => repeat (first | exact (Kd.R_reads' HO330.out).2.2 | (with_reducible refine Kd.C_alloc ?_ _) | (with_reducible refine Kd.C_drewN ?_ _) | (with_reducible refine Kd.C_drew ?_))); (case side2 => exact (Kd.R_reads' HO330.out).2.1); (case side3 => repeat (first | exact (Kd.R_reads' HO_6.out).2.2 | (with_reducible refine Kd.C_alloc ?_ _) | (with_reducible refine Kd.C_drewN ?_ _) | (with_reducible refine Kd.C_drew ?_))); (case side4 => exact (Kd.R_reads' HO_6.out).2.1); rintro e w' ⟨rfl, ⟨nd, rfl⟩⟩; refine ⟨_, rfl, ?_⟩))
             go_meet
             case rel => exact ⟨_, ((t328 != t303)), yactNeededForx8_3_, H', ⟨by have := HJ9.out; have := HJ32.out; first | omega | exact Nat.le_refl _⟩, ⟨yactNeededForx8_13_⟩, ⟨hB_⟩⟩
            ·replace c64 := Bool.eq_false_iff.mpr c64
             subst c64
             replace H := in_ H (show ¬ (false = true) by decide)
             have H' := Aside0.mk H
             clear H
             obtain ⟨Ao67, co67, eo67⟩ := Kd.R_slice HO330.out
             subst eo67
             obtain ⟨Ao68, co68, eo68⟩ := Kd.R_slice HO_6.out
             subst eo68
             go_wp2_with (first | ((with_reducible refine gate_callee (f := 9) rfl ?_); refine goesM_ (some 86) Try.func9 #[.slice Ao67 t327.length co67, .slice Ao68 t302.length co68] ?_; (with_reducible refine (laws_eqIntS.calls kj32 _ _ t327 _ _ t302 false _ ?side1 ?side2 ?side3 ?side4 A63.out).mono ?_); (case side1 => repeat (first | exact (Kd.R_reads' HO330.out).2.2 | (with_reducible refine Kd.C_alloc ?_ _) | (with_reducible refine Kd.C_drewN ?_ _) | (with_reducible refine Kd.C_drew ?_))); (case side2 => exact (Kd.R_reads' HO330.out).2.1); (case side3 => repeat (first | exact (Kd.R_reads' HO_6.out).2.2 | (with_reducible refine Kd.C_alloc ?_ _) | (with_reducible refine Kd.C_drewN ?_ _) | (with_reducible refine Kd.C_drew ?_))); (case side4 => exact (Kd.R_reads' HO_6.out).2.1); rintro e w' ⟨rfl, ⟨nd, rfl⟩⟩; refine ⟨_, rfl, ?_⟩))
             go_meet
             case rel => exact ⟨_, (true), yactNeededForx8_3_, H', ⟨by have := HJ9.out; have := HJ32.out; first | omega | exact Nat.le_refl _⟩, ⟨yactNeededForx8_13_⟩, ⟨hB_⟩⟩
           case rest =>
            clear HC55
            (try clear c4);(try clear c4b0);(try clear c28);(try clear c31);(try clear c46);(try clear c49);(try clear c49b0);(try clear c52);(try clear c52b0);(try clear c52b1);(try clear HO_9);(try clear HB)
            obtain ⟨kq, x92_54, rfl, HA, HJ54, HO_9, HB⟩ := hcut
            have hl9_54 := (Kd.R_reads' HO_9.out).1
            rw [hl9_54] at HO_9
            (try simp only [hl9_54])
            cases kq with
            | zero => exact absurd HA.out (by simp [laws_FnExactNeededFor.j2])
            | succ kj54 =>
             have H := HA.out
             clear HA
             simp only [laws_FnExactNeededFor.j2] at H
             by_cases c69 : x92_54 = true
             ·subst c69
              replace H := ip_ H rfl
              obtain rfl := Option.some.inj H
              go_wp2
              go_ret
              exact ⟨rT_, hB_⟩
             ·replace c69 := Bool.eq_false_iff.mpr c69
              subst c69
              replace H := in_ H (show ¬ (false = true) by decide)
              replace H := Option.bind_eq_some_iff.mp H
              obtain ⟨t332, A700, H⟩ := H
              try dsimp only at H
              have A70 := Aside0.mk A700
              clear A700
              by_cases c71 : t332 < 0
              ·rw [if_pos c71] at H
               have c71b0 : decide (t332 < 0) = true := decide_eq_true c71
               clear c71
               obtain rfl := Option.some.inj H
               go_wp2_with (first | ((with_reducible refine gate_callee (f := 13) rfl ?_); refine goesM_ (some 95) Try.func13 #[.slice Ao56 t322.length co56, .int .i64 1] ?_; (with_reducible refine (laws_heldIntS.calls kj54 _ _ t322 1 t332 _ ?side1 ?side2 A70.out).mono ?_); (case side1 => repeat (first | exact (Kd.R_reads' HO_9.out).2.2 | (with_reducible refine Kd.C_alloc ?_ _) | (with_reducible refine Kd.C_drewN ?_ _) | (with_reducible refine Kd.C_drew ?_))); (case side2 => exact (Kd.R_reads' HO_9.out).2.1); rintro e w' ⟨rfl, ⟨nd, rfl⟩⟩; refine ⟨_, rfl, ?_⟩))
               go_ret
               exact ⟨rT_, hB_⟩
              ·rw [if_neg c71] at H
               have c71b0 : decide (t332 < 0) = false := decide_eq_false c71
               clear c71
               by_cases c72 : t332 = t321
               ·rw [if_pos c72] at H
                have c72b0 : (t332 == t321) = true := beq_iff_eq.mpr c72
                have c72b1 : (t332 != t321) = false := bne_eq_false_iff_eq.mpr c72
                clear c72
                obtain rfl := Option.some.inj H
                go_wp2_with (first | ((with_reducible refine gate_callee (f := 13) rfl ?_); refine goesM_ (some 95) Try.func13 #[.slice Ao56 t322.length co56, .int .i64 1] ?_; (with_reducible refine (laws_heldIntS.calls kj54 _ _ t322 1 t332 _ ?side1 ?side2 A70.out).mono ?_); (case side1 => repeat (first | exact (Kd.R_reads' HO_9.out).2.2 | (with_reducible refine Kd.C_alloc ?_ _) | (with_reducible refine Kd.C_drewN ?_ _) | (with_reducible refine Kd.C_drew ?_))); (case side2 => exact (Kd.R_reads' HO_9.out).2.1); rintro e w' ⟨rfl, ⟨nd, rfl⟩⟩; refine ⟨_, rfl, ?_⟩))
                go_ret
                exact ⟨rT_, hB_⟩
               ·rw [if_neg c72] at H
                have c72b0 : (t332 == t321) = false := beq_eq_false_iff_ne.mpr c72
                have c72b1 : (t332 != t321) = true := bne_iff_ne.mpr c72
                obtain rfl := Option.some.inj H
                go_wp2_with (first | ((with_reducible refine gate_callee (f := 13) rfl ?_); refine goesM_ (some 95) Try.func13 #[.slice Ao56 t322.length co56, .int .i64 1] ?_; (with_reducible refine (laws_heldIntS.calls kj54 _ _ t322 1 t332 _ ?side1 ?side2 A70.out).mono ?_); (case side1 => repeat (first | exact (Kd.R_reads' HO_9.out).2.2 | (with_reducible refine Kd.C_alloc ?_ _) | (with_reducible refine Kd.C_drewN ?_ _) | (with_reducible refine Kd.C_drew ?_))); (case side2 => exact (Kd.R_reads' HO_9.out).2.1); rintro e w' ⟨rfl, ⟨nd, rfl⟩⟩; refine ⟨_, rfl, ?_⟩))
                go_ret
                exact ⟨rT_, hB_⟩
          ·rw [if_neg c52] at H
           have c52b0 : (t323 == t321) = false := beq_eq_false_iff_ne.mpr c52
           have c52b1 : (t323 != t321) = true := bne_iff_ne.mpr c52
           obtain rfl := Option.some.inj H
           obtain ⟨Ao73, co73, eo73⟩ := Kd.R_slice HO_9.out
           subst eo73
           go_wp2_with (first | ((with_reducible refine gate_callee (f := 12) rfl ?_); refine goesM_ (some 68) Try.func12 #[.slice Ao73 t309.length co73, .int .i64 1] ?_; (with_reducible refine (laws_markIntS.calls kj32 (fun k_ => some k_ = (.slice Ao73 t309.length co73 : Value).ownBlock) (.slice Ao73 t309.length co73) t309 1 t321 t322 w _ ?side1 ?side2 A47.out).mono ?_); (case side1 => repeat (first | (with_reducible first | exact HB.out | apply lA_ | apply lN_ | apply lD_) | exact HB.out)); (case side2 => exact Kd.R_tight rfl HO_9.out); rintro e w74 ⟨rfl, hy0, hb, hkp⟩; refine ⟨_, rfl, ?_⟩; replace HO_6 := aM_ (Kd.R_mono (ok' := fun k_ => some k_ ≠ (.slice Ao73 t309.length co73 : Value).ownBlock ∧ lq16 ≤ k_ ∧ k_ < lq18 ∧ k_ < lq21 ∧ k_ < lq35) (Kd.R_keptB (HO_6.out) hkp (fun k_ hk_ hs_ => (hk_.1) hs_)) (fun k_ hk_ => ⟨hk_.1.1, hk_.1.2.1, hk_.1.2.2.1, hk_.1.2.2.2.1, hk_.1.2.2.2.2⟩)); replace HO_9 := aM_ (Kd.R_reok rfl hy0 (fun k_ e_ => HO_9.out.1 k_ e_)); replace HB := aM_ (hb); (try clear hb); (try clear hkp); (try clear hy0)) | ((with_reducible refine gate_callee (f := 13) rfl ?_); refine goesL_ (some 71) rfl rfl Try.func13 (by kernel_rfl) rfl #[.slice Ao73 t322.length co73, .int .i64 1] rfl yactNeededForx8_12_ ?_; (with_reducible refine (laws_heldIntS.calls kj32 _ _ t322 1 t323 _ ?side1 ?side2 A48.out).mono ?_); (case side1 => repeat (first | exact (Kd.R_reads' HO_9.out).2.2 | (with_reducible refine Kd.C_alloc ?_ _) | (with_reducible refine Kd.C_drewN ?_ _) | (with_reducible refine Kd.C_drew ?_))); (case side2 => rw [show t322.length = t309.length from (Kd.R_reads' HO_9.out).1.symm]; exact (Kd.R_reads' HO_9.out).2.1); rintro e w' ⟨rfl, ⟨nd, rfl⟩⟩; refine ⟨_, rfl, ?_⟩))
           go_ret
           exact ⟨rT_, hB_⟩
     ·replace c31 := Bool.eq_false_iff.mpr c31
      subst c31
      replace H := in_ H (show ¬ (false = true) by decide)
      obtain rfl := Option.some.inj H
      go_wp2_with (first | ((with_reducible refine gate_callee (f := 7) rfl ?_); refine goesM_ (some 47) Try.func7 #[.slice A0 l0.length c0] ?_; (with_reducible refine (laws_toWordS.calls kj9 _ _ l0 t314 _ ?side1 ?side2 A29.out).mono ?_); (case side1 => repeat (first | exact (Kd.C_below HR0.out HB.out) | (with_reducible refine Kd.C_alloc ?_ _) | (with_reducible refine Kd.C_drewN ?_ _) | (with_reducible refine Kd.C_drew ?_))); (case side2 => exact HC0.out); rintro e w75 ⟨v315, rfl, ho0, hb⟩; refine ⟨_, rfl, ?_⟩; obtain ⟨lq76, hL_, q3_⟩ := Kd.letter_ (w := w) hb yactNeededForx8_0_; have Hlq76 := Aside0.mk q3_; have HO316 := aM_ (Kd.S_lower (Kd.S_new' (Kd.S_new' (Kd.S_new' (Kd.S_geL hL_ ho0) (Kd.R_lt yactNeededForx8_7_)) (Kd.S_lt yactNeededForx8_8_)) (Kd.R_lt yactNeededForx8_9_)) (below_size hB_)); replace HO_6 := aM_ (Kd.R_ltL hL_ (Kd.R_old yactNeededForx8_7_ hb)); replace HO_8 := aM_ (Kd.S_ltL hL_ (Kd.S_told (Kd.S_old yactNeededForx8_8_ hb) (Kd.S_base ho0))); replace HO_9 := aM_ (Kd.R_ltL hL_ (Kd.R_old yactNeededForx8_9_ hb)); replace HB := aM_ (below_step hB_ hb); (try clear hL_ q3_); (try clear hb); (try clear hb2); (try clear hk); (try clear hi); (try clear ho0); obtain ⟨Ao77, co77, eo77⟩ := Kd.S_slice HO316.out; subst eo77) | ((with_reducible refine gate_callee (f := 10) rfl ?_); refine goesM_ (some 48) Try.func10 #[.slice Ao19 t306.length co19, .slice Ao77 t314.length co77] ?_; (with_reducible refine (laws_eqWordS.calls kj9 _ _ t306 _ _ t314 false _ ?side1 ?side2 ?side3 ?side4 A30.out).mono ?_); (case side1 => repeat (first | exact (Kd.S_reads' HO_8.out).2.2 | (with_reducible refine Kd.C_alloc ?_ _) | (with_reducible refine Kd.C_drewN ?_ _) | (with_reducible refine Kd.C_drew ?_))); (case side2 => exact (Kd.S_reads' HO_8.out).2.1); (case side3 => repeat (first | exact (Kd.S_reads' HO316.out).2.2 | (with_reducible refine Kd.C_alloc ?_ _) | (with_reducible refine Kd.C_drewN ?_ _) | (with_reducible refine Kd.C_drew ?_))); (case side4 => exact (Kd.S_reads' HO316.out).2.1); rintro e w78 ⟨rfl, hb⟩; refine ⟨_, rfl, ?_⟩; replace HO_6 := aM_ (Kd.R_below yactNeededForx8_7_ hb); replace HO_8 := aM_ (Kd.S_below yactNeededForx8_8_ hb); replace HO_9 := aM_ (Kd.R_below yactNeededForx8_9_ hb); replace HO316 := aM_ (Kd.S_below yactNeededForx8_10_ hb); replace HB := aM_ (below_step hB_ hb); (try clear hb); (try clear hb2); (try clear hk); (try clear hi)))
      go_ret
      exact ⟨rT_, hB_⟩
theorem laws_FnExactNeededFor.walk : True := trivial

end Go.Proofs.Ytmongpocangocaa.PFnExactNeededFor
