/- Printed for this claim: functions of the program as Lean functions, and that the calls answer so. -/
import Derived.Test.YtbfkpgmdbafmhaaDoorPFnShapesx0
import Derived.Test.YtbfkpgmdbafmhaaDoorPFnShapesx2
import Derived.Test.YtbfkpgmdbafmhaaDoorPFnShapesxD0
import Derived.Test.YtbfkpgmdbafmhaaDoorPFnShapesxD1
namespace Go.Proofs.YtbfkpgmdbafmhaaDoor.PFnShapes
open Go.RowKit Go.Proofs.YtbfkpgmdbafmhaaDoorW.PrintWords Go.Proofs.YtbfkpgmdbafmhaaDoorW.PrintLast Go.Proofs.YtbfkpgmdbafmhaaDoorW.PrintMore
theorem z8_0_ {p : Prop} (h : p := by first | rfl | (simp; done) | (simp [*]; done)) : p := h
theorem z8_1_ {p : Prop} (h : p := by repeat (first | exact Drawn0.refl _ | apply Drawn0.step)) : p := h
set_option maxHeartbeats 8000000
set_option maxRecDepth 100000
attribute [local go_sem] max2_int min2_int max_two min_two max_three min_three max_four min_four isSome_setCell   -- for this text's walks alone
set_option linter.unusedVariables false
set_option linter.unusedSimpArgs false

/-! ### spec_shSet: function 26 -/
theorem spec_shSet.calls (k : Nat) (a0_0 : Int) (a0_1 : Int) (a0_2 : Int) (a0_3 : Int) (a0_4 : Int) (a0_5 : Bool) (a1 : Int) (a2 : Int) (r1 : Int) (r2 : Int) (r3 : Int) (r4 : Int) (r5 : Int) (r6 : Bool) (w : World) (h : spec_shSet.f k a0_0 a0_1 a0_2 a0_3 a0_4 a0_5 a1 a2 = some (r1, r2, r3, r4, r5, r6)) :
 Calls Tryd.prog 26 #[.agg #[.int .i64 a0_0, .int .i64 a0_1, .int .i64 a0_2, .int .i64 a0_3, .int .i64 a0_4, .bool a0_5], .int .i64 a1, .int .i64 a2] w fun e w' => e = .returned (.agg #[.int .i64 r1, .int .i64 r2, .int .i64 r3, .int .i64 r4, .int .i64 r5, .bool r6]) ∧ Below w.heap.size w w' := by
 have hu25 := Tryd.underlying25
 have HB := Aside0.mk (Below.refl w.heap.size w)
 have H : (if a1 = 0 then ((spec_shFingers.f a0_0 a0_1 a0_2 a0_3 a0_4 a0_5).bind fun t353 => ((spec_shMade.f k a2 t353 a0_5).bind fun bt356 => (some (bt356.1, bt356.2.1, bt356.2.2.1, bt356.2.2.2.1, bt356.2.2.2.2.1, bt356.2.2.2.2.2)))) else ((spec_shFingers.f a0_0 a0_1 a0_2 a0_3 a0_4 a0_5).bind fun t362 => (if 0 ≤ (wrap64 (a1 - 1)) then (if (wrap64 (a1 - 1)) < (t362.length : Int) then ((spec_shMade.f k a0_0 (t362.set ((wrap64 (a1 - 1)) : Int).toNat a2) a0_5).bind fun bt366 => (some (bt366.1, bt366.2.1, bt366.2.2.1, bt366.2.2.2.1, bt366.2.2.2.2.1, bt366.2.2.2.2.2))) else (none)) else (none)))) = some (r1, r2, r3, r4, r5, r6) := h
 clear h
 have HC4 := Aside0.mk H
 clear H
 go_enter Tryd.func26, Tryd.ntmps26
 go_upto_if 9 with (first | ((with_reducible refine gate_dst (N := 3) rfl ?_); refine bx_ 3 #[.int .i64 a0_0, .int .i64 a0_1, .int .i64 a0_2, .int .i64 a0_3, .int .i64 a0_4, .bool a0_5] 25 fun gb351 hg w5 hbox hb => ?_; have BK351 := aM_ (hbox); have GW351 := aM_ (gw_ w hg); have GE351 := aM_ (gw_ w hg); replace HB := aM_ (below_step hB_ hb); clear hb hbox hg) | ((with_reducible refine gate_dst (N := 6) rfl ?_); refine bx_ 6 #[.int .i64 0, .int .i64 0, .int .i64 0, .int .i64 0, .int .i64 0, .bool false] 25 fun gb352 hg w6 hbox hb => ?_; have BK352 := aM_ (hbox); have GW352 := aM_ (gw_ w hg); have GE352 := aM_ (gw_ w hg); have NB351_352 := aM_ (nR_ BK351 hg); have NB352_351 := aM_ (mR_ BK351 hg); replace BK351 := aM_ (blk_below (g := gb351) (kR_ BK351) hb); replace HB := aM_ (below_step hB_ hb); clear hb hbox hg))
 (try simp only [Act.put, List.setIfInBounds_toArray, List.set_cons_zero, List.set_cons_succ])
 have H := HC4.out
 clear HC4
 by_cases c7 : a1 = 0
 rotate_left
 ·rw [if_neg c7] at H
  have c7b0 : (a1 == 0) = false := beq_eq_false_iff_ne.mpr c7
  have c7b1 : (a1 != 0) = true := bne_iff_ne.mpr c7
  (first | rw [c7b0] | (simp only [i64_w, i32_w]; rw [c7b0]) | skip)
  replace H := ob_ H; obtain ⟨t362, A20, H⟩ := H; try dsimp only at H
  obtain ⟨ji21, hji21⟩ : ∃ j_ : Int, (wrap64 (a1 - 1)) = j_ := ⟨_, rfl⟩
  replace H : (if 0 ≤ (ji21) then (if (ji21) < (t362.length : Int) then ((spec_shMade.f k a0_0 (t362.set ((ji21) : Int).toNat a2) a0_5).bind fun bt366 => (some (bt366.1, bt366.2.1, bt366.2.2.1, bt366.2.2.2.1, bt366.2.2.2.2.1, bt366.2.2.2.2.2))) else (none)) else (none)) = some (r1, r2, r3, r4, r5, r6) := by first | (rw [hji21] at H; exact H) | (simp only [hji21] at H ⊢; exact H)
  (try rw [hji21] at A20)
  have hji21w : (IntKind.i64.wrap (a1 - 1)) = ji21 := (i64_w _).trans hji21
  replace H := ig_ H; obtain ⟨c22b0, H⟩ := H
  replace H := ig_ H; obtain ⟨c23b0, H⟩ := H
  obtain ⟨y365, hy365⟩ : ∃ y_ : List Int, y_ = (t362.set ((ji21) : Int).toNat a2) := ⟨_, rfl⟩
  rw [← hy365] at H
  have Ny365 := Aside0.mk hy365; clear hy365
  replace H := ob_ H; obtain ⟨⟨t366, t367, t368, t369, t370, t371⟩, A25, H⟩ := H; try dsimp only at H
  simp only [Option.some.injEq, Prod.mk.injEq] at H
  obtain ⟨rfl, rfl, rfl, rfl, rfl, rfl⟩ := H
  have hnb26 := NB351_352.out
  have hnc26 := NB352_351.out
  have hz27 := cf6_ BK351.out
  go_wp2_with (first | ((with_reducible refine gC_ 25 ?_); refine gM_ (some 17) Tryd.func25 #[.agg #[.int .i64 a0_0, .int .i64 a0_1, .int .i64 a0_2, .int .i64 a0_3, .int .i64 a0_4, .bool a0_5]] ?_; (with_reducible refine (spec_shFingers.calls a0_0 a0_1 a0_2 a0_3 a0_4 a0_5 t362 _ A20.out).mono ?_); rintro e w28 ⟨v363, rfl, ho0, hb⟩; refine ⟨_, rfl, ?_⟩; have HO364 := aM_ (Kd.R_lower ho0 (below_size hB_)); replace BK351 := aM_ (blk_below (g := gb351) (kR_ BK351) hb); replace BK352 := aM_ (blk_below (g := gb352) (kR_ BK352) hb); replace HB := aM_ (below_step hB_ hb); (try clear hb); (try clear ho0); have p24 : 0 ≤ ((ji21) : Int) := ode_; have q24 : ((ji21) : Int) < ((t362.length : Int) : Int) := ode_; obtain ⟨go24, co24, eo24, gb24, gl24, cl24, HG24⟩ := Kd.R_form HO364.out (by omega); (first | cases eo24 | (injection eo24 with ea_ en_ ec_; (first | subst ea_ | (injection ea_ with ea_; subst ea_)); subst ec_; clear en_)); have GB24 := Aside0.mk gb24; have GG24 := Aside0.mk HG24; clear gb24 gl24 HG24; obtain ⟨hx24_0, hf24_0⟩ := Kd.R_celln 0 HO364.out ((ji21) : Int) p24 q24; replace p24 := eq_true p24; replace q24 := eq_true q24; obtain ⟨hy29_, hz29_⟩ := Kd.R_celln 0 HO364.out ((ji21) : Int) ode_ ode_; have HP29 := Kd.R_putg HO364.out ((ji21) : Int) a2) | ((with_reducible refine gate_store (t := 3) (p := 22) rfl ?_); refine store_event (t := 3) (p := 22) (v := ?vo_w30) (w1 := (w28.setCell ⟨go24, ((ji21) : Int).toNat, none⟩ (.int .i64 a2))) ?hg ?ho ?hn ?hr ?_; (case ho => rfl); (case hg => rfl); (case hn => rfl); (case hr => first | (go_simp; done) | (go_simp; rfl)); intro w30 hw; have hg : w28.grownBy w30 (some go24) := (by rw [hw]; exact HP29.2); have hp_ : Kd.R (Kd.int .i64) 3 w30 w.heap.size (fun _ => True) (.slice (some ⟨go24, 0, none⟩) t362.length co24) y365 := (by rw [hw, Ny365.out]; exact HP29.1); clear HP29; replace BK351 := aM_ (blk_grown (g := gb351) (kR_ BK351) hg (Kd.R_ne HO364.out BK351.out (by decide))); replace BK352 := aM_ (blk_grown (g := gb352) (kR_ BK352) hg (Kd.R_ne HO364.out BK352.out (by decide))); replace HO364 := aM_ (hp_); replace HB := aM_ ((by rw [hw]; exact below_set (HB.out) GB24.out : Below w.heap.size w w30)); clear hg hw hp_; have hz31 := cf6_ BK351.out; clear BK351) | ((with_reducible refine gate_callee (f := 30) rfl ?_); refine goesL_ (some 28) rfl rfl Tryd.func30 (by kernel_rfl) rfl #[.int .i64 a0_0, .slice (some ⟨go24, 0, none⟩) y365.length co24, .bool a0_5] rfl (by (try simp only [List.map_toArray, List.map_cons, List.map_nil]); first | done | (rw [show y365.length = t362.length from (Kd.R_reads' HO364.out).1.symm] <;> rfl) | rfl) ?_; (with_reducible refine (spec_shMade.calls k a0_0 _ _ y365 a0_5 t366 t367 t368 t369 t370 t371 _ ?side1 ?side2 A25.out).mono ?_); (case side1 => exact cR_ HO364); (case side2 => rw [show y365.length = t362.length from (Kd.R_reads' HO364.out).1.symm]; exact (Kd.R_reads' HO364.out).2.1); rintro e w32 ⟨rfl, hb⟩; refine ⟨_, rfl, ?_⟩; replace HO364 := aM_ (Kd.R_below (rR_ HO364) hb); replace BK352 := aM_ (blk_below (g := gb352) (kR_ BK352) hb); replace HB := aM_ (below_step hB_ hb); (try clear hb); have hz33 := cf6_ BK352.out))
  refine bodyPost_ret (results_cell_row rfl _ _ gb352 25 #[.int .i64 t366, .int .i64 t367, .int .i64 t368, .int .i64 t369, .int .i64 t370, .bool t371] (0, 0) _ rfl (by (with_reducible repeat (first | apply kN_ | apply kD_ | apply kA_)); refine blk_put (cs := #[.int .i64 t366, .int .i64 t367, .int .i64 t368, .int .i64 t369, .int .i64 t370, .bool false]) ?_ 5 _ rfl; (with_reducible repeat (first | apply kN_ | apply kD_ | apply kA_)); refine blk_put (cs := #[.int .i64 t366, .int .i64 t367, .int .i64 t368, .int .i64 t369, .int .i64 0, .bool false]) ?_ 4 _ rfl; (with_reducible repeat (first | apply kN_ | apply kD_ | apply kA_)); refine blk_put (cs := #[.int .i64 t366, .int .i64 t367, .int .i64 t368, .int .i64 0, .int .i64 0, .bool false]) ?_ 3 _ rfl; (with_reducible repeat (first | apply kN_ | apply kD_ | apply kA_)); refine blk_put (cs := #[.int .i64 t366, .int .i64 t367, .int .i64 0, .int .i64 0, .int .i64 0, .bool false]) ?_ 2 _ rfl; (with_reducible repeat (first | apply kN_ | apply kD_ | apply kA_)); refine blk_put (cs := #[.int .i64 t366, .int .i64 0, .int .i64 0, .int .i64 0, .int .i64 0, .bool false]) ?_ 1 _ rfl; (with_reducible repeat (first | apply kN_ | apply kD_ | apply kA_)); refine blk_put (cs := #[.int .i64 0, .int .i64 0, .int .i64 0, .int .i64 0, .int .i64 0, .bool false]) ?_ 0 _ rfl; (with_reducible repeat (first | apply kN_ | apply kD_ | apply kA_)); exact BK352.out) Tryd.underlying25 rfl (by kernel_rfl)) rfl ?_
  exact ⟨by first | rfl | (simp [errW_none, errW_some] <;> rfl) | (simp only [← hji21]; first | rfl | (simp [errW_none, errW_some] <;> rfl)) | (simp [*, errW_none, errW_some] <;> rfl), hB_⟩
 rw [if_pos c7] at H
 have c7b0 : (a1 == 0) = true := beq_iff_eq.mpr c7
 have c7b1 : (a1 != 0) = false := bne_eq_false_iff_eq.mpr c7
 clear c7
 (first | rw [c7b0] | (simp only [i64_w, i32_w]; rw [c7b0]) | skip)
 replace H := ob_ H; obtain ⟨t353, A8, H⟩ := H; try dsimp only at H
 replace H := ob_ H; obtain ⟨⟨t356, t357, t358, t359, t360, t361⟩, A9, H⟩ := H; try dsimp only at H
 simp only [Option.some.injEq, Prod.mk.injEq] at H
 obtain ⟨rfl, rfl, rfl, rfl, rfl, rfl⟩ := H
 try go_wp2
 replace BK351 := aM_ (blk_drew BK351.out)
 replace BK352 := aM_ (blk_drew BK352.out)
 replace HB := aM_ (below_drew1 HB.out)
 refine start_ (n := 7) (S := fun w' => w'.cell? ⟨gb351, 0, none⟩ = some (.int .i64 a0_0) ∧ w'.cell? ⟨gb351, 1, none⟩ = some (.int .i64 a0_1) ∧ w'.cell? ⟨gb351, 2, none⟩ = some (.int .i64 a0_2) ∧ w'.cell? ⟨gb351, 3, none⟩ = some (.int .i64 a0_3) ∧ w'.cell? ⟨gb351, 4, none⟩ = some (.int .i64 a0_4) ∧ w'.cell? ⟨gb351, 5, none⟩ = some (.bool a0_5)) (ds := []) #[false, false, false, false, false, false, false] (by kernel_rfl) rfl rfl ⟨(blk_cell BK351.out 0).trans rfl, (blk_cell BK351.out 1).trans rfl, (blk_cell BK351.out 2).trans rfl, (blk_cell BK351.out 3).trans rfl, (blk_cell BK351.out 4).trans rfl, (blk_cell BK351.out 5).trans rfl⟩ (fun hHeld => ?_)
 generalize w6.drew = w10 at BK351 BK352 HB hHeld ⊢
 refine pure_ (i := 0) (N := some 10) (v := ?_) (a' := ?_) #[true, false, false, false, false, false, false] rfl rfl (by kernel_rfl) (fun _ _ _ h => h) (Or.inl ⟨by rfl, ?_⟩) ?_ ?_; rotate_left; (focus intro w'; go_simp; with_reducible rfl); rotate_left; (focus simp only [aP_, aQ_, aS_, aZ_, aU_, i64_w, i32_w]; try rfl)
 refine pure_ (i := 3) (N := some 13) (v := ?_) (a' := ?_) #[true, false, false, true, false, false, false] rfl rfl (by kernel_rfl) (fun _ _ _ h => h) (Or.inl ⟨by rfl, ?_⟩) ?_ ?_; rotate_left; (focus intro w'; go_simp; with_reducible rfl); rotate_left; (focus simp only [aP_, aQ_, aS_, aZ_, aU_, i64_w, i32_w]; try rfl)
 refine take_ (i := 1) (N := some 11) (v := ?_) (a' := ?_) #[true, true, false, true, false, false, false] rfl rfl (by kernel_rfl) (fun _ _ _ h => h) (Or.inl ⟨by rfl, ?_⟩) hHeld ?_ ?_; rotate_left; (focus rintro w' ⟨s0, s1, s2, s3, s4, s5⟩; go_simp; with_reducible rfl); rotate_left; (focus simp only [aP_, aQ_, aS_, aZ_, aU_, i64_w, i32_w]; try rfl)
 refine take_ (i := 4) (N := some 14) (v := ?_) (a' := ?_) #[true, true, false, true, true, false, false] rfl rfl (by kernel_rfl) (fun _ _ _ h => h) (Or.inl ⟨by rfl, ?_⟩) hHeld ?_ ?_; rotate_left; (focus rintro w' ⟨s0, s1, s2, s3, s4, s5⟩; go_simp; with_reducible rfl); rotate_left; (focus simp only [aP_, aQ_, aS_, aZ_, aU_, i64_w, i32_w]; try rfl)
 refine one_ (i := 2) (N := some 12) #[true, true, true, true, true, false, false] rfl rfl (by kernel_rfl) (by decide) (fun K hK => ?_)
 refine gS_ Tryd.func25 #[.agg #[.int .i64 a0_0, .int .i64 a0_1, .int .i64 a0_2, .int .i64 a0_3, .int .i64 a0_4, .bool a0_5]] ?_
 with_reducible refine (spec_shFingers.calls a0_0 a0_1 a0_2 a0_3 a0_4 a0_5 t353 _ A8.out).mono ?_
 rintro e w11 ⟨v354, rfl, ho0, hb⟩
 refine ⟨_, rfl, ?_⟩
 have HO355 := aM_ (Kd.R_lower ho0 (below_size hB_))
 replace BK351 := aM_ (blk_below (g := gb351) (kR_ BK351) hb)
 replace BK352 := aM_ (blk_below (g := gb352) (kR_ BK352) hb)
 replace HB := aM_ (below_step hB_ hb)
 (try clear hb)
 (try clear hb2)
 (try clear hk)
 (try clear hi)
 (try clear ho0)
 obtain ⟨Ao12, co12, eo12⟩ := Kd.R_slice HO355.out
 (first | subst eo12 | (injection eo12 with f1_ f2_ f3_; have f4_ := f1_.symm; have f5_ := f3_.symm; clear f1_ f2_ f3_; subst f4_; subst f5_))
 refine hK.out _ _ ⟨(blk_cell BK351.out 0).trans rfl, (blk_cell BK351.out 1).trans rfl, (blk_cell BK351.out 2).trans rfl, (blk_cell BK351.out 3).trans rfl, (blk_cell BK351.out 4).trans rfl, (blk_cell BK351.out 5).trans rfl⟩ (fun hHeld => ?_)
 clear hK K
 refine nm_ 12 ?_
 refine one_ (i := 5) (N := some 15) #[true, true, true, true, true, true, false] rfl rfl (by kernel_rfl) (by decide) (fun K hK => ?_)
 refine gS_ Tryd.func30 #[.int .i64 a2, .slice Ao12 t353.length co12, .bool a0_5] ?_
 with_reducible refine (spec_shMade.calls k a2 _ _ t353 a0_5 t356 t357 t358 t359 t360 t361 _ ?side1 ?side2 A9.out).mono ?_
 (case side1 => exact cR_ HO355)
 (case side2 => exact (Kd.R_reads' HO355.out).2.1)
 rintro e w13 ⟨rfl, hb⟩
 refine ⟨_, rfl, ?_⟩
 replace HO355 := aM_ (Kd.R_below (rR_ HO355) hb)
 replace BK351 := aM_ (blk_below (g := gb351) (kR_ BK351) hb)
 replace BK352 := aM_ (blk_below (g := gb352) (kR_ BK352) hb)
 replace HB := aM_ (below_step hB_ hb)
 (try clear hb)
 (try clear hb2)
 (try clear hk)
 (try clear hi)
 refine hK.out _ _ ⟨(blk_cell BK351.out 0).trans rfl, (blk_cell BK351.out 1).trans rfl, (blk_cell BK351.out 2).trans rfl, (blk_cell BK351.out 3).trans rfl, (blk_cell BK351.out 4).trans rfl, (blk_cell BK351.out 5).trans rfl⟩ (fun hHeld => ?_)
 clear hK K
 refine nm_ 15 ?_
 refine one_ (i := 6) (N := none) #[true, true, true, true, true, true, true] rfl rfl (by kernel_rfl) (by decide) (fun K hK => ?_)
 have hs14 : w13.cell? ⟨gb352, 0, none⟩ = some (.int .i64 0) := (blk_cell BK352.out 0).trans rfl
 have hfs14 := blk_frozen BK352.out 0
 have hns14_0 := NB351_352.out
 have hms14_0 := NB352_351.out
 have hs15 : w13.cell? ⟨gb352, 1, none⟩ = some (.int .i64 0) := (blk_cell BK352.out 1).trans rfl
 have hfs15 := blk_frozen BK352.out 1
 have hns15_0 := NB351_352.out
 have hms15_0 := NB352_351.out
 have hs16 : w13.cell? ⟨gb352, 2, none⟩ = some (.int .i64 0) := (blk_cell BK352.out 2).trans rfl
 have hfs16 := blk_frozen BK352.out 2
 have hns16_0 := NB351_352.out
 have hms16_0 := NB352_351.out
 have hs17 : w13.cell? ⟨gb352, 3, none⟩ = some (.int .i64 0) := (blk_cell BK352.out 3).trans rfl
 have hfs17 := blk_frozen BK352.out 3
 have hns17_0 := NB351_352.out
 have hms17_0 := NB352_351.out
 have hs18 : w13.cell? ⟨gb352, 4, none⟩ = some (.int .i64 0) := (blk_cell BK352.out 4).trans rfl
 have hfs18 := blk_frozen BK352.out 4
 have hns18_0 := NB351_352.out
 have hms18_0 := NB352_351.out
 have hs19 : w13.cell? ⟨gb352, 5, none⟩ = some (.bool false) := (blk_cell BK352.out 5).trans rfl
 have hfs19 := blk_frozen BK352.out 5
 have hns19_0 := NB351_352.out
 have hms19_0 := NB352_351.out
 refine skip_ (w1 := ?_) (by rfl) rfl ?_ ?_
 rotate_left
 ·go_simp
  rfl
 refine hK.out _ _ ⟨((cell_far (p := ⟨gb352, _, none⟩) NB351_352.out _).trans (((cell_far (p := ⟨gb352, _, none⟩) NB351_352.out _).trans (((cell_far (p := ⟨gb352, _, none⟩) NB351_352.out _).trans (((cell_far (p := ⟨gb352, _, none⟩) NB351_352.out _).trans (((cell_far (p := ⟨gb352, _, none⟩) NB351_352.out _).trans (((cell_far (p := ⟨gb352, _, none⟩) NB351_352.out _).trans (hHeld.1)))))))))))), ((cell_far (p := ⟨gb352, _, none⟩) NB351_352.out _).trans (((cell_far (p := ⟨gb352, _, none⟩) NB351_352.out _).trans (((cell_far (p := ⟨gb352, _, none⟩) NB351_352.out _).trans (((cell_far (p := ⟨gb352, _, none⟩) NB351_352.out _).trans (((cell_far (p := ⟨gb352, _, none⟩) NB351_352.out _).trans (((cell_far (p := ⟨gb352, _, none⟩) NB351_352.out _).trans (hHeld.2.1)))))))))))), ((cell_far (p := ⟨gb352, _, none⟩) NB351_352.out _).trans (((cell_far (p := ⟨gb352, _, none⟩) NB351_352.out _).trans (((cell_far (p := ⟨gb352, _, none⟩) NB351_352.out _).trans (((cell_far (p := ⟨gb352, _, none⟩) NB351_352.out _).trans (((cell_far (p := ⟨gb352, _, none⟩) NB351_352.out _).trans (((cell_far (p := ⟨gb352, _, none⟩) NB351_352.out _).trans (hHeld.2.2.1)))))))))))), ((cell_far (p := ⟨gb352, _, none⟩) NB351_352.out _).trans (((cell_far (p := ⟨gb352, _, none⟩) NB351_352.out _).trans (((cell_far (p := ⟨gb352, _, none⟩) NB351_352.out _).trans (((cell_far (p := ⟨gb352, _, none⟩) NB351_352.out _).trans (((cell_far (p := ⟨gb352, _, none⟩) NB351_352.out _).trans (((cell_far (p := ⟨gb352, _, none⟩) NB351_352.out _).trans (hHeld.2.2.2.1)))))))))))), ((cell_far (p := ⟨gb352, _, none⟩) NB351_352.out _).trans (((cell_far (p := ⟨gb352, _, none⟩) NB351_352.out _).trans (((cell_far (p := ⟨gb352, _, none⟩) NB351_352.out _).trans (((cell_far (p := ⟨gb352, _, none⟩) NB351_352.out _).trans (((cell_far (p := ⟨gb352, _, none⟩) NB351_352.out _).trans (((cell_far (p := ⟨gb352, _, none⟩) NB351_352.out _).trans (hHeld.2.2.2.2.1)))))))))))), ((cell_far (p := ⟨gb352, _, none⟩) NB351_352.out _).trans (((cell_far (p := ⟨gb352, _, none⟩) NB351_352.out _).trans (((cell_far (p := ⟨gb352, _, none⟩) NB351_352.out _).trans (((cell_far (p := ⟨gb352, _, none⟩) NB351_352.out _).trans (((cell_far (p := ⟨gb352, _, none⟩) NB351_352.out _).trans (((cell_far (p := ⟨gb352, _, none⟩) NB351_352.out _).trans (hHeld.2.2.2.2.2))))))))))))⟩ (fun hHeld => ?_)
 clear hK K
 refine done_ (by kernel_rfl) ?_
 try go_wp2
 refine bodyPost_ret (results_cell_row rfl _ _ gb352 25 #[.int .i64 t356, .int .i64 t357, .int .i64 t358, .int .i64 t359, .int .i64 t360, .bool t361] (0, 0) _ rfl (by (with_reducible repeat (first | apply kN_ | apply kD_ | apply kA_)); refine blk_put (cs := #[.int .i64 t356, .int .i64 t357, .int .i64 t358, .int .i64 t359, .int .i64 t360, .bool false]) ?_ 5 _ rfl; (with_reducible repeat (first | apply kN_ | apply kD_ | apply kA_)); refine blk_put (cs := #[.int .i64 t356, .int .i64 t357, .int .i64 t358, .int .i64 t359, .int .i64 0, .bool false]) ?_ 4 _ rfl; (with_reducible repeat (first | apply kN_ | apply kD_ | apply kA_)); refine blk_put (cs := #[.int .i64 t356, .int .i64 t357, .int .i64 t358, .int .i64 0, .int .i64 0, .bool false]) ?_ 3 _ rfl; (with_reducible repeat (first | apply kN_ | apply kD_ | apply kA_)); refine blk_put (cs := #[.int .i64 t356, .int .i64 t357, .int .i64 0, .int .i64 0, .int .i64 0, .bool false]) ?_ 2 _ rfl; (with_reducible repeat (first | apply kN_ | apply kD_ | apply kA_)); refine blk_put (cs := #[.int .i64 t356, .int .i64 0, .int .i64 0, .int .i64 0, .int .i64 0, .bool false]) ?_ 1 _ rfl; (with_reducible repeat (first | apply kN_ | apply kD_ | apply kA_)); refine blk_put (cs := #[.int .i64 0, .int .i64 0, .int .i64 0, .int .i64 0, .int .i64 0, .bool false]) ?_ 0 _ rfl; (with_reducible repeat (first | apply kN_ | apply kD_ | apply kA_)); exact BK352.out) Tryd.underlying25 rfl (by kernel_rfl)) rfl ?_
 exact ⟨rT_, hB_⟩

/-! ### spec_l1Sign: function 27 -/
theorem spec_l1Sign.calls (a0 : Int) (r : Int) (w : World) (h : spec_l1Sign.f a0 = some r) :
 Calls Tryd.prog 27 #[.int .i64 a0] w fun e w' => e = .returned (.int .i64 r) ∧ Drawn0 w w' := by
 have H : (if a0 > 0 then (some 1) else (if a0 < 0 then (some (-1)) else (some 0))) = some r := h
 clear h
 by_cases c2 : a0 > 0
 ·rw [if_pos c2] at H
  have c2b0 : decide (0 < a0) = true := decide_eq_true c2
  clear c2
  obtain rfl := Option.some.inj H
  go_enter Tryd.func27, Tryd.ntmps27
  go_wp2
  go_ret
  exact ⟨z8_0_, z8_1_⟩
 rw [if_neg c2] at H
 have c2b0 : decide (0 < a0) = false := decide_eq_false c2
 clear c2
 replace H := iT_ H; obtain ⟨c3b0, H⟩ | ⟨c3b0, H⟩ := H
 ·obtain rfl := Option.some.inj H
  go_enter Tryd.func27, Tryd.ntmps27
  go_wp2
  go_ret
  exact ⟨z8_0_, z8_1_⟩
 obtain rfl := Option.some.inj H
 go_enter Tryd.func27, Tryd.ntmps27
 go_wp2
 go_ret
 exact ⟨z8_0_, z8_1_⟩

end Go.Proofs.YtbfkpgmdbafmhaaDoor.PFnShapes
