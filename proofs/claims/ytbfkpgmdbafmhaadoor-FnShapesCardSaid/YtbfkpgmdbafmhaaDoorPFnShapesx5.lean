/- Printed for this claim: functions of the program as Lean functions, and that the calls answer so. -/
import Derived.Test.YtbfkpgmdbafmhaaDoorPFnShapesx0
import Derived.Test.YtbfkpgmdbafmhaaDoorPFnShapesx3
import Derived.Test.YtbfkpgmdbafmhaaDoorPFnShapesx4
import Derived.Test.YtbfkpgmdbafmhaaDoorPFnShapesxD0
import Derived.Test.YtbfkpgmdbafmhaaDoorPFnShapesxD1
namespace Go.Proofs.YtbfkpgmdbafmhaaDoor.PFnShapes
open Go.RowKit Go.Proofs.YtbfkpgmdbafmhaaDoorW.PrintWords Go.Proofs.YtbfkpgmdbafmhaaDoorW.PrintLast Go.Proofs.YtbfkpgmdbafmhaaDoorW.PrintMore
theorem z5_0_ {p : Prop} (h : p := by repeat (first | (with_reducible first | exact HK.out | apply KeepBut.set_ | apply keep_drewN | apply keep_drew | apply keep_alloc) | exact HK.out)) : p := h
theorem z5_1_ {p : Prop} (h : p := by repeat (first | (with_reducible first | exact HI0.out | apply IsS59.alloc | apply IsS59.drewN | apply IsS59.drew | apply IsS59.set_1 | apply IsS59.set_2 | refine IsS59.far ?_ (Aside0.out (by assumption)) _) | exact HI0.out)) : p := h
theorem z5_2_ {p : Prop} (h : p := by repeat (first | (with_reducible first | exact HB.out | apply lA_ | apply lN_ | apply lD_ | refine below_set ?_ (IsS59.ge HI0.out) | refine below_set ?_ GE202.out) | exact HB.out)) : p := h
theorem z5_3_ {p : Prop} (h : p := by repeat (first | (with_reducible first | exact HK.out | apply KeepBut.set_ | apply keep_drewN | apply keep_drew | apply keep_alloc | refine keep_far ?_ GW202.out _) | exact HK.out)) : p := h
theorem z5_4_ {p : Prop} (h : p := by assumption) : p := h
theorem z5_5_ {p : Prop} (h : p := by repeat (first | (with_reducible first | exact HB.out | apply lA_ | apply lN_ | apply lD_ | refine below_set ?_ (IsS59.ge HI0.out) | refine below_set ?_ GE202.out | refine below_set ?_ GE211.out) | exact HB.out)) : p := h
theorem z5_6_ {p : Prop} (h : p := by repeat (first | (with_reducible first | exact HK.out | apply KeepBut.set_ | apply keep_drewN | apply keep_drew | apply keep_alloc | refine keep_far ?_ GW202.out _ | refine keep_far ?_ GW211.out _) | exact HK.out)) : p := h
theorem z5_7_ {p : Prop} (h : p := by repeat (first | (with_reducible first | exact HI241.out | apply IsS59.alloc | apply IsS59.drewN | apply IsS59.drew | apply IsS59.set_1 | apply IsS59.set_2 | refine IsS59.far ?_ (Aside0.out (by assumption)) _) | exact HI241.out)) : p := h
theorem z5_8_ {p : Prop} (h : p := by repeat (first | (with_reducible first | exact HB.out | apply lA_ | apply lN_ | apply lD_ | refine below_set ?_ (IsS59.ge HI241.out) | refine below_set ?_ GE239.out | refine below_set ?_ GE240.out) | exact HB.out)) : p := h
theorem z5_9_ {p : Prop} (h : p := by repeat (first | exact (Kd.C_below HR0.out HB.out) | (with_reducible first | apply cA_ | apply cN_ | apply cD_))) : p := h
theorem z5_10_ {p : Prop} (h : p := by first | rfl | (simp; done) | (simp [*]; done)) : p := h
theorem z5_11_ {p : Prop} (h : p := by simp only [putAll, Act.put, List.setIfInBounds_toArray, List.set_cons_zero, List.set_cons_succ]) : p := h
set_option maxHeartbeats 8000000
set_option maxRecDepth 100000
attribute [local go_sem] max2_int min2_int max_two min_two max_three min_three max_four min_four isSome_setCell   -- for this text's walks alone
set_option linter.unusedVariables false
set_option linter.unusedSimpArgs false

/-! ### spec_l1Cur_anyShape: function 42 -/
theorem spec_l1Cur_anyShape.calls (k : Nat) (g : Nat) (s0_0 : List Int) (s0_1 : Int) (s0_2 : Int) (r1 : Int) (r2 : Int) (r3 : Int) (r4 : Int) (r5 : Int) (r6 : Bool) (r7 : Int) (r8 : Int) (w0 w : World) (hI : IsS59 w0 w g s0_0 s0_1 s0_2) (hB : Below w0.heap.size w0 w) (h : spec_l1Cur_anyShape.f k s0_0 s0_1 s0_2 = some (r1, r2, r3, r4, r5, r6, r7, r8)) :
 Calls Tryd.prog 42 #[.pointer (some ⟨g, 0, none⟩)] w fun e w' => e = .returned (.agg #[.int .i64 r1, .int .i64 r2, .int .i64 r3, .int .i64 r4, .int .i64 r5, .bool r6]) ∧ IsS59 w0 w' g s0_0 r7 r8 ∧ Below w0.heap.size w0 w' ∧ KeepBut w w' g none := by
 have hu25 := Tryd.underlying25
 have HI0 := Aside0.mk hI
 have HK := Aside0.mk (KeepBut.refl w g none)
 have HL := Aside0.mk hB.size
 clear hI
 have HW0 := Aside0.mk hB.size
 have HB := Aside0.mk hB
 clear hB
 have H : ((spec_l1Cur_shape.f k s0_0 s0_1 s0_2).bind fun bt203 => ((spec_l1Cur_pick.f s0_0 bt203.2.2.2.2.2.2.1 bt203.2.2.2.2.2.2.2 40).bind fun bt212 => (if bt212.1 = 0 then ((spec_l1Cur_among.f s0_0 bt212.2.1 bt212.2.2 (([(-1), 3] : List Int))).bind fun bt218 => (some (bt218.1, bt203.2.1, bt203.2.2.1, bt203.2.2.2.1, bt203.2.2.2.2.1, bt203.2.2.2.2.2.1, bt218.2.1, bt218.2.2))) else (if bt212.1 = 1 then ((spec_l1Cur_among.f s0_0 bt212.2.1 bt212.2.2 (([(-1), 3, (-9223372036854775808)] : List Int))).bind fun bt224 => (some (bt203.1, bt203.2.1, bt203.2.2.1, bt224.1, bt203.2.2.2.2.1, bt203.2.2.2.2.2.1, bt224.2.1, bt224.2.2))) else (if bt212.1 = 2 then ((spec_l1Cur_among.f s0_0 bt212.2.1 bt212.2.2 (([(-1), 3] : List Int))).bind fun bt230 => (some (bt203.1, bt230.1, bt203.2.2.1, bt203.2.2.2.1, 2, bt203.2.2.2.2.2.1, bt230.2.1, bt230.2.2))) else (if bt212.1 = 3 then ((spec_l1Cur_pick.f s0_0 bt212.2.1 bt212.2.2 3).bind fun bt233 => ((spec_l1Cur_pick.f s0_0 bt233.2.1 bt233.2.2 2).bind fun bt236 => (some (0, bt233.1, wrap64 (1 + bt236.1), 0, 1, true, bt236.2.1, bt236.2.2)))) else (some (bt203.1, bt203.2.1, bt203.2.2.1, bt203.2.2.2.1, bt203.2.2.2.2.1, bt203.2.2.2.2.2.1, bt212.2.1, bt212.2.2)))))))) = some (r1, r2, r3, r4, r5, r6, r7, r8) := h
 clear h
 replace H := ob_ H; obtain ⟨⟨t203, t204, t205, t206, t207, t208, t209, t210⟩, A2, H⟩ := H; try dsimp only at H
 replace H := ob_ H; obtain ⟨⟨t212, t213, t214⟩, A3, H⟩ := H; try dsimp only at H
 have HC4 := Aside0.mk H
 clear H
 go_enter Tryd.func42, Tryd.ntmps42
 go_upto_if 8 with (first | ((with_reducible refine gate_dst (N := 2) rfl ?_); refine bx_ 2 #[.int .i64 0, .int .i64 0, .int .i64 0, .int .i64 0, .int .i64 0, .bool false] 25 fun gb202 hg w5 hbox hb => ?_; have BK202 := aM_ (hbox); have GW202 := aM_ ((by rw [hg]; exact (keep_size (w := w) (g := g) (row := none) z5_0_) : w.heap.size ≤ gb202)); have GE202 := aM_ ((Nat.le_trans HW0.out (by rw [hg]; exact (keep_size (w := w) (g := g) (row := none) z5_0_) : w.heap.size ≤ gb202) : w0.heap.size ≤ gb202)); have NB0_202 := aM_ ((by rw [hg]; exact Nat.ne_of_lt (IsS59.lt (show IsS59 w0 _ g s0_0 s0_1 s0_2 from by repeat (first | (with_reducible first | exact HI0.out | apply IsS59.alloc | apply IsS59.drewN | apply IsS59.drew | apply IsS59.set_1 | apply IsS59.set_2) | exact HI0.out))) : g ≠ gb202)); have NB202_0 := aM_ ((by rw [hg]; exact Nat.ne_of_gt (IsS59.lt (show IsS59 w0 _ g s0_0 s0_1 s0_2 from by repeat (first | (with_reducible first | exact HI0.out | apply IsS59.alloc | apply IsS59.drewN | apply IsS59.drew | apply IsS59.set_1 | apply IsS59.set_2) | exact HI0.out))) : gb202 ≠ g)); replace HK := aM_ (KeepBut.trans z5_0_ (KeepBut.of_below hb g none) (.inl rfl)); replace HB := aM_ (below_step (by repeat (first | (with_reducible first | exact HB.out | apply lA_ | apply lN_ | apply lD_ | refine below_set ?_ (IsS59.ge HI0.out)) | exact HB.out)) hb); replace HI0 := aM_ (IsS59.below (by repeat (first | (with_reducible first | exact HI0.out | apply IsS59.alloc | apply IsS59.drewN | apply IsS59.drew | apply IsS59.set_1 | apply IsS59.set_2) | exact HI0.out)) hb); clear hb hbox hg) | ((with_reducible refine gC_ 36 ?_); refine gM_ (some 5) Tryd.func36 #[.pointer (some ⟨g, 0, none⟩)] ?_; (with_reducible refine (spec_l1Cur_shape.calls k g s0_0 s0_1 s0_2 t203 t204 t205 t206 t207 t208 t209 t210 w0 _ ?side1 ?side2 A2.out).mono ?_); (case side1 => exact z5_1_); (case side2 => exact z5_2_); rintro e w6 ⟨rfl, hi, hb, hk⟩; refine ⟨_, rfl, ?_⟩; replace BK202 := aM_ (KeepBut.blk hk (g' := gb202) (o := .cells #[.int .i64 0, .int .i64 0, .int .i64 0, .int .i64 0, .int .i64 0, .bool false] 25 (0, 0)) (kR_ BK202) NB202_0.out (by simp)); replace HK := aM_ (KeepBut.trans z5_3_ hk (.inl rfl)); replace HB := aM_ (hb); replace HI0 := aM_ (hi); (try clear hb); (try clear hk); (try clear hi)) | ((with_reducible refine gate_dst (N := 3) rfl ?_); refine bx_ 3 #[.int .i64 0, .int .i64 0, .int .i64 0, .int .i64 0, .int .i64 0, .bool false] 25 fun gb211 hg w7 hbox hb => ?_; have BK211 := aM_ (hbox); have GW211 := aM_ ((by rw [hg]; exact (keep_size (w := w) (g := g) (row := none) z5_3_) : w.heap.size ≤ gb211)); have GE211 := aM_ ((Nat.le_trans HW0.out (by rw [hg]; exact (keep_size (w := w) (g := g) (row := none) z5_3_) : w.heap.size ≤ gb211) : w0.heap.size ≤ gb211)); have NB202_211 := aM_ (nR_ BK202 hg); have NB211_202 := aM_ (mR_ BK202 hg); have NB0_211 := aM_ ((by rw [hg]; exact Nat.ne_of_lt (IsS59.lt (show IsS59 w0 _ g s0_0 t209 t210 from by repeat (first | (with_reducible first | exact HI0.out | apply IsS59.alloc | apply IsS59.drewN | apply IsS59.drew | apply IsS59.set_1 | apply IsS59.set_2 | refine IsS59.far ?_ (Aside0.out z5_4_) _) | exact HI0.out))) : g ≠ gb211)); have NB211_0 := aM_ ((by rw [hg]; exact Nat.ne_of_gt (IsS59.lt (show IsS59 w0 _ g s0_0 t209 t210 from by repeat (first | (with_reducible first | exact HI0.out | apply IsS59.alloc | apply IsS59.drewN | apply IsS59.drew | apply IsS59.set_1 | apply IsS59.set_2 | refine IsS59.far ?_ (Aside0.out z5_4_) _) | exact HI0.out))) : gb211 ≠ g)); replace BK202 := aM_ (blk_below (g := gb202) (kR_ BK202) hb); replace HK := aM_ (KeepBut.trans z5_3_ (KeepBut.of_below hb g none) (.inl rfl)); replace HB := aM_ (below_step z5_2_ hb); replace HI0 := aM_ (IsS59.below z5_1_ hb); clear hb hbox hg; have hnb8 := NB211_202.out; have hnc8 := NB202_211.out; have hnb9 := NB211_0.out; have hnc9 := NB0_211.out; have hz10 := cf6_ BK211.out) | ((with_reducible refine gC_ 37 ?_); refine gM_ (some 7) Tryd.func37 #[.pointer (some ⟨g, 0, none⟩), .int .i64 40] ?_; (with_reducible refine (spec_l1Cur_pick.calls g s0_0 t209 t210 40 t212 t213 t214 w0 _ ?side1 ?side2 A3.out).mono ?_); (case side1 => exact z5_1_); (case side2 => exact z5_5_); rintro e w11 ⟨rfl, hi, hb, hk⟩; refine ⟨_, rfl, ?_⟩; replace BK202 := aM_ (KeepBut.blk hk (g' := gb202) (o := .cells #[.int .i64 0, .int .i64 0, .int .i64 0, .int .i64 0, .int .i64 0, .bool false] 25 (0, 0)) (by (with_reducible repeat (first | apply kN_ | apply kD_ | apply kA_)); refine blk_far ?_ NB202_211.out _; (with_reducible repeat (first | apply kN_ | apply kD_ | apply kA_)); refine blk_far ?_ NB202_211.out _; (with_reducible repeat (first | apply kN_ | apply kD_ | apply kA_)); refine blk_far ?_ NB202_211.out _; (with_reducible repeat (first | apply kN_ | apply kD_ | apply kA_)); refine blk_far ?_ NB202_211.out _; (with_reducible repeat (first | apply kN_ | apply kD_ | apply kA_)); refine blk_far ?_ NB202_211.out _; (with_reducible repeat (first | apply kN_ | apply kD_ | apply kA_)); refine blk_far ?_ NB202_211.out _; (with_reducible repeat (first | apply kN_ | apply kD_ | apply kA_)); exact BK202.out) NB202_0.out (by simp)); replace BK211 := aM_ (KeepBut.blk hk (g' := gb211) (o := .cells #[.int .i64 t203, .int .i64 t204, .int .i64 t205, .int .i64 t206, .int .i64 t207, .bool t208] 25 (0, 0)) (by (with_reducible repeat (first | apply kN_ | apply kD_ | apply kA_)); refine blk_put (cs := #[.int .i64 t203, .int .i64 t204, .int .i64 t205, .int .i64 t206, .int .i64 t207, .bool false]) ?_ 5 _ rfl; (with_reducible repeat (first | apply kN_ | apply kD_ | apply kA_)); refine blk_put (cs := #[.int .i64 t203, .int .i64 t204, .int .i64 t205, .int .i64 t206, .int .i64 0, .bool false]) ?_ 4 _ rfl; (with_reducible repeat (first | apply kN_ | apply kD_ | apply kA_)); refine blk_put (cs := #[.int .i64 t203, .int .i64 t204, .int .i64 t205, .int .i64 0, .int .i64 0, .bool false]) ?_ 3 _ rfl; (with_reducible repeat (first | apply kN_ | apply kD_ | apply kA_)); refine blk_put (cs := #[.int .i64 t203, .int .i64 t204, .int .i64 0, .int .i64 0, .int .i64 0, .bool false]) ?_ 2 _ rfl; (with_reducible repeat (first | apply kN_ | apply kD_ | apply kA_)); refine blk_put (cs := #[.int .i64 t203, .int .i64 0, .int .i64 0, .int .i64 0, .int .i64 0, .bool false]) ?_ 1 _ rfl; (with_reducible repeat (first | apply kN_ | apply kD_ | apply kA_)); refine blk_put (cs := #[.int .i64 0, .int .i64 0, .int .i64 0, .int .i64 0, .int .i64 0, .bool false]) ?_ 0 _ rfl; (with_reducible repeat (first | apply kN_ | apply kD_ | apply kA_)); exact BK211.out) NB211_0.out (by simp)); replace HK := aM_ (KeepBut.trans z5_6_ hk (.inl rfl)); replace HB := aM_ (hb); replace HI0 := aM_ (hi); (try clear hb); (try clear hk); (try clear hi)))
 (try simp only [Act.put, List.setIfInBounds_toArray, List.set_cons_zero, List.set_cons_succ])
 have H := HC4.out
 clear HC4
 by_cases c12 : t212 = 0
 ·rw [if_pos c12] at H
  have c12b0 : (t212 == 0) = true := beq_iff_eq.mpr c12
  have c12b1 : (t212 != 0) = false := bne_eq_false_iff_eq.mpr c12
  clear c12
  (first | rw [c12b0] | (simp only [i64_w, i32_w]; rw [c12b0]) | skip)
  obtain ⟨y215, hy215⟩ : ∃ y_ : List Int, y_ = (([(-1), 3] : List Int)) := ⟨_, rfl⟩
  rw [← hy215] at H
  have Ny215 := Aside0.mk hy215; clear hy215
  replace H := ob_ H; obtain ⟨⟨t218, t219, t220⟩, A13, H⟩ := H; try dsimp only at H
  simp only [Option.some.injEq, Prod.mk.injEq] at H
  obtain ⟨rfl, rfl, rfl, rfl, rfl, rfl, rfl, rfl⟩ := H
  go_wp2_with (first | ((with_reducible refine gate_dst (N := 11) rfl ?_); refine rl_ (Kd.int .i64) 3 11 ([(-1), 3] : List Int) [.int .i64 (-1), .int .i64 3] (Reps.one (show Kd.M (Kd.int .i64) _ _ _ (-1) [.int .i64 (-1)] from rfl) (Reps.one (show Kd.M (Kd.int .i64) _ _ _ 3 [.int .i64 3] from rfl) (Reps.none _ _))) ?_; intro v216 w14 ho15 hb hg_ hnew_; clear hg_ hnew_; (first | rw [← Ny215.out] at ho15 | (simp only [Int.reduceToNat] at ho15; rw [← Ny215.out] at ho15)); have HO217 := aM_ (Kd.R_lower ho15 (keep_size (w := w) (g := g) (row := none) z5_6_)); replace BK202 := aM_ (blk_below (g := gb202) (kR_ BK202) hb); replace BK211 := aM_ (blk_below (g := gb211) (kR_ BK211) hb); replace HK := aM_ (KeepBut.trans z5_6_ (KeepBut.of_below hb g none) (.inl rfl)); replace HB := aM_ (below_step z5_5_ hb); replace HI0 := aM_ (IsS59.below z5_1_ hb); clear hb ho15; obtain ⟨Ao16, co16, eo16⟩ := Kd.R_slice HO217.out; subst eo16) | ((with_reducible refine gC_ 55 ?_); refine gM_ (some 12) Tryd.func55 #[.pointer (some ⟨g, 0, none⟩), .slice Ao16 y215.length co16] ?_; (with_reducible refine (spec_l1Cur_among.calls g s0_0 t213 t214 _ _ y215 t218 t219 t220 w0 _ ?side1 ?side2 ?side3 ?side4 ?side5 A13.out).mono ?_); (case side1 => exact z5_1_); (case side2 => exact z5_5_); (case side3 => exact cR_ HO217); (case side4 => exact (Kd.R_reads' HO217.out).2.1); (case side5 => exact far_slice (IsS59.own_ne HI0.out HO217.out (by decide))); rintro e w17 ⟨rfl, hi, hb, hk⟩; refine ⟨_, rfl, ?_⟩; replace BK202 := aM_ (KeepBut.blk hk (g' := gb202) (o := .cells #[.int .i64 0, .int .i64 0, .int .i64 0, .int .i64 0, .int .i64 0, .bool false] 25 (0, 0)) (kR_ BK202) NB202_0.out (by simp)); replace BK211 := aM_ (KeepBut.blk hk (g' := gb211) (o := .cells #[.int .i64 t203, .int .i64 t204, .int .i64 t205, .int .i64 t206, .int .i64 t207, .bool t208] 25 (0, 0)) (kR_ BK211) NB211_0.out (by simp)); replace HO217 := aM_ (Kd.R_mono (Kd.R_keep (IsS59.apart (show IsS59 w0 _ g s0_0 t213 t214 from by repeat (first | (with_reducible first | exact HI0.out | apply IsS59.alloc | apply IsS59.drewN | apply IsS59.drew | apply IsS59.set_1 | apply IsS59.set_2 | refine IsS59.far ?_ (Aside0.out z5_4_) _) | exact HI0.out)) (rR_ HO217) (by decide)) hk (fun _ h => h.2)) (fun _ h => h.1)); replace HK := aM_ (KeepBut.trans z5_6_ hk (.inl rfl)); replace HB := aM_ (hb); replace HI0 := aM_ (hi); (try clear hb); (try clear hk); (try clear hi); have hnb18 := NB211_202.out; have hnc18 := NB202_211.out; have hnb19 := NB211_0.out; have hnc19 := NB0_211.out; have hz20 := cf6_ BK211.out; have hnb21 := NB202_0.out; have hnc21 := NB0_202.out; have hz22 := cf6_ BK202.out))
  refine bodyPost_ret (results_cell_row rfl _ _ gb202 25 #[.int .i64 t218, .int .i64 t204, .int .i64 t205, .int .i64 t206, .int .i64 t207, .bool t208] (0, 0) _ rfl (by (with_reducible repeat (first | apply kN_ | apply kD_ | apply kA_)); refine blk_put (cs := #[.int .i64 t218, .int .i64 t204, .int .i64 t205, .int .i64 t206, .int .i64 t207, .bool false]) ?_ 5 _ rfl; (with_reducible repeat (first | apply kN_ | apply kD_ | apply kA_)); refine blk_put (cs := #[.int .i64 t218, .int .i64 t204, .int .i64 t205, .int .i64 t206, .int .i64 0, .bool false]) ?_ 4 _ rfl; (with_reducible repeat (first | apply kN_ | apply kD_ | apply kA_)); refine blk_put (cs := #[.int .i64 t218, .int .i64 t204, .int .i64 t205, .int .i64 0, .int .i64 0, .bool false]) ?_ 3 _ rfl; (with_reducible repeat (first | apply kN_ | apply kD_ | apply kA_)); refine blk_put (cs := #[.int .i64 t218, .int .i64 t204, .int .i64 0, .int .i64 0, .int .i64 0, .bool false]) ?_ 2 _ rfl; (with_reducible repeat (first | apply kN_ | apply kD_ | apply kA_)); refine blk_put (cs := #[.int .i64 t218, .int .i64 0, .int .i64 0, .int .i64 0, .int .i64 0, .bool false]) ?_ 1 _ rfl; (with_reducible repeat (first | apply kN_ | apply kD_ | apply kA_)); refine blk_put (cs := #[.int .i64 0, .int .i64 0, .int .i64 0, .int .i64 0, .int .i64 0, .bool false]) ?_ 0 _ rfl; (with_reducible repeat (first | apply kN_ | apply kD_ | apply kA_)); refine blk_far ?_ NB202_211.out _; (with_reducible repeat (first | apply kN_ | apply kD_ | apply kA_)); exact BK202.out) Tryd.underlying25 rfl (by kernel_rfl)) rfl ?_
  exact ⟨rT_, z5_1_, z5_5_, z5_6_⟩
 rw [if_neg c12] at H
 have c12b0 : (t212 == 0) = false := beq_eq_false_iff_ne.mpr c12
 have c12b1 : (t212 != 0) = true := bne_iff_ne.mpr c12
 (first | rw [c12b0] | (simp only [i64_w, i32_w]; rw [c12b0]) | skip)
 by_cases c23 : t212 = 1
 ·rw [if_pos c23] at H
  have c23b0 : (t212 == 1) = true := beq_iff_eq.mpr c23
  have c23b1 : (t212 != 1) = false := bne_eq_false_iff_eq.mpr c23
  clear c23
  obtain ⟨y221, hy221⟩ : ∃ y_ : List Int, y_ = (([(-1), 3, (-9223372036854775808)] : List Int)) := ⟨_, rfl⟩
  rw [← hy221] at H
  have Ny221 := Aside0.mk hy221; clear hy221
  replace H := ob_ H; obtain ⟨⟨t224, t225, t226⟩, A24, H⟩ := H; try dsimp only at H
  simp only [Option.some.injEq, Prod.mk.injEq] at H
  obtain ⟨rfl, rfl, rfl, rfl, rfl, rfl, rfl, rfl⟩ := H
  go_wp2_with (first | ((with_reducible refine gate_dst (N := 17) rfl ?_); refine rl_ (Kd.int .i64) 3 17 ([(-1), 3, (-9223372036854775808)] : List Int) [.int .i64 (-1), .int .i64 3, .int .i64 (-9223372036854775808)] (Reps.one (show Kd.M (Kd.int .i64) _ _ _ (-1) [.int .i64 (-1)] from rfl) (Reps.one (show Kd.M (Kd.int .i64) _ _ _ 3 [.int .i64 3] from rfl) (Reps.one (show Kd.M (Kd.int .i64) _ _ _ (-9223372036854775808) [.int .i64 (-9223372036854775808)] from rfl) (Reps.none _ _)))) ?_; intro v222 w25 ho26 hb hg_ hnew_; clear hg_ hnew_; (first | rw [← Ny221.out] at ho26 | (simp only [Int.reduceToNat] at ho26; rw [← Ny221.out] at ho26)); have HO223 := aM_ (Kd.R_lower ho26 (keep_size (w := w) (g := g) (row := none) z5_6_)); replace BK202 := aM_ (blk_below (g := gb202) (kR_ BK202) hb); replace BK211 := aM_ (blk_below (g := gb211) (kR_ BK211) hb); replace HK := aM_ (KeepBut.trans z5_6_ (KeepBut.of_below hb g none) (.inl rfl)); replace HB := aM_ (below_step z5_5_ hb); replace HI0 := aM_ (IsS59.below z5_1_ hb); clear hb ho26; obtain ⟨Ao27, co27, eo27⟩ := Kd.R_slice HO223.out; subst eo27) | ((with_reducible refine gC_ 55 ?_); refine gM_ (some 18) Tryd.func55 #[.pointer (some ⟨g, 0, none⟩), .slice Ao27 y221.length co27] ?_; (with_reducible refine (spec_l1Cur_among.calls g s0_0 t213 t214 _ _ y221 t224 t225 t226 w0 _ ?side1 ?side2 ?side3 ?side4 ?side5 A24.out).mono ?_); (case side1 => exact z5_1_); (case side2 => exact z5_5_); (case side3 => exact cR_ HO223); (case side4 => exact (Kd.R_reads' HO223.out).2.1); (case side5 => exact far_slice (IsS59.own_ne HI0.out HO223.out (by decide))); rintro e w28 ⟨rfl, hi, hb, hk⟩; refine ⟨_, rfl, ?_⟩; replace BK202 := aM_ (KeepBut.blk hk (g' := gb202) (o := .cells #[.int .i64 0, .int .i64 0, .int .i64 0, .int .i64 0, .int .i64 0, .bool false] 25 (0, 0)) (kR_ BK202) NB202_0.out (by simp)); replace BK211 := aM_ (KeepBut.blk hk (g' := gb211) (o := .cells #[.int .i64 t203, .int .i64 t204, .int .i64 t205, .int .i64 t206, .int .i64 t207, .bool t208] 25 (0, 0)) (kR_ BK211) NB211_0.out (by simp)); replace HO223 := aM_ (Kd.R_mono (Kd.R_keep (IsS59.apart (show IsS59 w0 _ g s0_0 t213 t214 from by repeat (first | (with_reducible first | exact HI0.out | apply IsS59.alloc | apply IsS59.drewN | apply IsS59.drew | apply IsS59.set_1 | apply IsS59.set_2 | refine IsS59.far ?_ (Aside0.out z5_4_) _) | exact HI0.out)) (rR_ HO223) (by decide)) hk (fun _ h => h.2)) (fun _ h => h.1)); replace HK := aM_ (KeepBut.trans z5_6_ hk (.inl rfl)); replace HB := aM_ (hb); replace HI0 := aM_ (hi); (try clear hb); (try clear hk); (try clear hi); have hnb29 := NB211_202.out; have hnc29 := NB202_211.out; have hnb30 := NB211_0.out; have hnc30 := NB0_211.out; have hz31 := cf6_ BK211.out; have hnb32 := NB202_0.out; have hnc32 := NB0_202.out; have hz33 := cf6_ BK202.out))
  refine bodyPost_ret (results_cell_row rfl _ _ gb202 25 #[.int .i64 t203, .int .i64 t204, .int .i64 t205, .int .i64 t224, .int .i64 t207, .bool t208] (0, 0) _ rfl (by (with_reducible repeat (first | apply kN_ | apply kD_ | apply kA_)); refine blk_put (cs := #[.int .i64 t203, .int .i64 t204, .int .i64 t205, .int .i64 t224, .int .i64 t207, .bool false]) ?_ 5 _ rfl; (with_reducible repeat (first | apply kN_ | apply kD_ | apply kA_)); refine blk_put (cs := #[.int .i64 t203, .int .i64 t204, .int .i64 t205, .int .i64 t224, .int .i64 0, .bool false]) ?_ 4 _ rfl; (with_reducible repeat (first | apply kN_ | apply kD_ | apply kA_)); refine blk_put (cs := #[.int .i64 t203, .int .i64 t204, .int .i64 t205, .int .i64 0, .int .i64 0, .bool false]) ?_ 3 _ rfl; (with_reducible repeat (first | apply kN_ | apply kD_ | apply kA_)); refine blk_put (cs := #[.int .i64 t203, .int .i64 t204, .int .i64 0, .int .i64 0, .int .i64 0, .bool false]) ?_ 2 _ rfl; (with_reducible repeat (first | apply kN_ | apply kD_ | apply kA_)); refine blk_put (cs := #[.int .i64 t203, .int .i64 0, .int .i64 0, .int .i64 0, .int .i64 0, .bool false]) ?_ 1 _ rfl; (with_reducible repeat (first | apply kN_ | apply kD_ | apply kA_)); refine blk_put (cs := #[.int .i64 0, .int .i64 0, .int .i64 0, .int .i64 0, .int .i64 0, .bool false]) ?_ 0 _ rfl; (with_reducible repeat (first | apply kN_ | apply kD_ | apply kA_)); refine blk_far ?_ NB202_211.out _; (with_reducible repeat (first | apply kN_ | apply kD_ | apply kA_)); exact BK202.out) Tryd.underlying25 rfl (by kernel_rfl)) rfl ?_
  exact ⟨rT_, z5_1_, z5_5_, z5_6_⟩
 rw [if_neg c23] at H
 have c23b0 : (t212 == 1) = false := beq_eq_false_iff_ne.mpr c23
 have c23b1 : (t212 != 1) = true := bne_iff_ne.mpr c23
 by_cases c34 : t212 = 2
 ·rw [if_pos c34] at H
  have c34b0 : (t212 == 2) = true := beq_iff_eq.mpr c34
  have c34b1 : (t212 != 2) = false := bne_eq_false_iff_eq.mpr c34
  clear c34
  obtain ⟨y227, hy227⟩ : ∃ y_ : List Int, y_ = (([(-1), 3] : List Int)) := ⟨_, rfl⟩
  rw [← hy227] at H
  have Ny227 := Aside0.mk hy227; clear hy227
  replace H := ob_ H; obtain ⟨⟨t230, t231, t232⟩, A35, H⟩ := H; try dsimp only at H
  simp only [Option.some.injEq, Prod.mk.injEq] at H
  obtain ⟨rfl, rfl, rfl, rfl, rfl, rfl, rfl, rfl⟩ := H
  go_wp2_with (first | ((with_reducible refine gate_dst (N := 23) rfl ?_); refine rl_ (Kd.int .i64) 3 23 ([(-1), 3] : List Int) [.int .i64 (-1), .int .i64 3] (Reps.one (show Kd.M (Kd.int .i64) _ _ _ (-1) [.int .i64 (-1)] from rfl) (Reps.one (show Kd.M (Kd.int .i64) _ _ _ 3 [.int .i64 3] from rfl) (Reps.none _ _))) ?_; intro v228 w36 ho37 hb hg_ hnew_; clear hg_ hnew_; (first | rw [← Ny227.out] at ho37 | (simp only [Int.reduceToNat] at ho37; rw [← Ny227.out] at ho37)); have HO229 := aM_ (Kd.R_lower ho37 (keep_size (w := w) (g := g) (row := none) z5_6_)); replace BK202 := aM_ (blk_below (g := gb202) (kR_ BK202) hb); replace BK211 := aM_ (blk_below (g := gb211) (kR_ BK211) hb); replace HK := aM_ (KeepBut.trans z5_6_ (KeepBut.of_below hb g none) (.inl rfl)); replace HB := aM_ (below_step z5_5_ hb); replace HI0 := aM_ (IsS59.below z5_1_ hb); clear hb ho37; obtain ⟨Ao38, co38, eo38⟩ := Kd.R_slice HO229.out; subst eo38) | ((with_reducible refine gC_ 55 ?_); refine gM_ (some 24) Tryd.func55 #[.pointer (some ⟨g, 0, none⟩), .slice Ao38 y227.length co38] ?_; (with_reducible refine (spec_l1Cur_among.calls g s0_0 t213 t214 _ _ y227 t230 t231 t232 w0 _ ?side1 ?side2 ?side3 ?side4 ?side5 A35.out).mono ?_); (case side1 => exact z5_1_); (case side2 => exact z5_5_); (case side3 => exact cR_ HO229); (case side4 => exact (Kd.R_reads' HO229.out).2.1); (case side5 => exact far_slice (IsS59.own_ne HI0.out HO229.out (by decide))); rintro e w39 ⟨rfl, hi, hb, hk⟩; refine ⟨_, rfl, ?_⟩; replace BK202 := aM_ (KeepBut.blk hk (g' := gb202) (o := .cells #[.int .i64 0, .int .i64 0, .int .i64 0, .int .i64 0, .int .i64 0, .bool false] 25 (0, 0)) (kR_ BK202) NB202_0.out (by simp)); replace BK211 := aM_ (KeepBut.blk hk (g' := gb211) (o := .cells #[.int .i64 t203, .int .i64 t204, .int .i64 t205, .int .i64 t206, .int .i64 t207, .bool t208] 25 (0, 0)) (kR_ BK211) NB211_0.out (by simp)); replace HO229 := aM_ (Kd.R_mono (Kd.R_keep (IsS59.apart (show IsS59 w0 _ g s0_0 t213 t214 from by repeat (first | (with_reducible first | exact HI0.out | apply IsS59.alloc | apply IsS59.drewN | apply IsS59.drew | apply IsS59.set_1 | apply IsS59.set_2 | refine IsS59.far ?_ (Aside0.out z5_4_) _) | exact HI0.out)) (rR_ HO229) (by decide)) hk (fun _ h => h.2)) (fun _ h => h.1)); replace HK := aM_ (KeepBut.trans z5_6_ hk (.inl rfl)); replace HB := aM_ (hb); replace HI0 := aM_ (hi); (try clear hb); (try clear hk); (try clear hi); have hnb40 := NB211_202.out; have hnc40 := NB202_211.out; have hnb41 := NB211_0.out; have hnc41 := NB0_211.out; have hz42 := cf6_ BK211.out; have hnb43 := NB202_0.out; have hnc43 := NB0_202.out; have hz44 := cf6_ BK202.out))
  refine bodyPost_ret (results_cell_row rfl _ _ gb202 25 #[.int .i64 t203, .int .i64 t230, .int .i64 t205, .int .i64 t206, .int .i64 2, .bool t208] (0, 0) _ rfl (by (with_reducible repeat (first | apply kN_ | apply kD_ | apply kA_)); refine blk_put (cs := #[.int .i64 t203, .int .i64 t230, .int .i64 t205, .int .i64 t206, .int .i64 2, .bool false]) ?_ 5 _ rfl; (with_reducible repeat (first | apply kN_ | apply kD_ | apply kA_)); refine blk_put (cs := #[.int .i64 t203, .int .i64 t230, .int .i64 t205, .int .i64 t206, .int .i64 0, .bool false]) ?_ 4 _ rfl; (with_reducible repeat (first | apply kN_ | apply kD_ | apply kA_)); refine blk_put (cs := #[.int .i64 t203, .int .i64 t230, .int .i64 t205, .int .i64 0, .int .i64 0, .bool false]) ?_ 3 _ rfl; (with_reducible repeat (first | apply kN_ | apply kD_ | apply kA_)); refine blk_put (cs := #[.int .i64 t203, .int .i64 t230, .int .i64 0, .int .i64 0, .int .i64 0, .bool false]) ?_ 2 _ rfl; (with_reducible repeat (first | apply kN_ | apply kD_ | apply kA_)); refine blk_put (cs := #[.int .i64 t203, .int .i64 0, .int .i64 0, .int .i64 0, .int .i64 0, .bool false]) ?_ 1 _ rfl; (with_reducible repeat (first | apply kN_ | apply kD_ | apply kA_)); refine blk_put (cs := #[.int .i64 0, .int .i64 0, .int .i64 0, .int .i64 0, .int .i64 0, .bool false]) ?_ 0 _ rfl; (with_reducible repeat (first | apply kN_ | apply kD_ | apply kA_)); refine blk_far ?_ NB202_211.out _; (with_reducible repeat (first | apply kN_ | apply kD_ | apply kA_)); refine blk_far ?_ NB202_211.out _; (with_reducible repeat (first | apply kN_ | apply kD_ | apply kA_)); exact BK202.out) Tryd.underlying25 rfl (by kernel_rfl)) rfl ?_
  exact ⟨rT_, z5_1_, z5_5_, z5_6_⟩
 rw [if_neg c34] at H
 have c34b0 : (t212 == 2) = false := beq_eq_false_iff_ne.mpr c34
 have c34b1 : (t212 != 2) = true := bne_iff_ne.mpr c34
 by_cases c45 : t212 = 3
 rotate_left
 ·rw [if_neg c45] at H
  have c45b0 : (t212 == 3) = false := beq_eq_false_iff_ne.mpr c45
  have c45b1 : (t212 != 3) = true := bne_iff_ne.mpr c45
  simp only [Option.some.injEq, Prod.mk.injEq] at H
  obtain ⟨rfl, rfl, rfl, rfl, rfl, rfl, rfl, rfl⟩ := H
  have hnb55 := NB211_202.out
  have hnc55 := NB202_211.out
  have hnb56 := NB211_0.out
  have hnc56 := NB0_211.out
  have hz57 := cf6_ BK211.out
  clear BK211
  have hnb58 := NB202_0.out
  have hnc58 := NB0_202.out
  have hz59 := cf6_ BK202.out
  go_wp2
  refine bodyPost_ret (results_cell_row rfl _ _ gb202 25 #[.int .i64 t203, .int .i64 t204, .int .i64 t205, .int .i64 t206, .int .i64 t207, .bool t208] (0, 0) _ rfl (by (with_reducible repeat (first | apply kN_ | apply kD_ | apply kA_)); refine blk_put (cs := #[.int .i64 t203, .int .i64 t204, .int .i64 t205, .int .i64 t206, .int .i64 t207, .bool false]) ?_ 5 _ rfl; (with_reducible repeat (first | apply kN_ | apply kD_ | apply kA_)); refine blk_put (cs := #[.int .i64 t203, .int .i64 t204, .int .i64 t205, .int .i64 t206, .int .i64 0, .bool false]) ?_ 4 _ rfl; (with_reducible repeat (first | apply kN_ | apply kD_ | apply kA_)); refine blk_put (cs := #[.int .i64 t203, .int .i64 t204, .int .i64 t205, .int .i64 0, .int .i64 0, .bool false]) ?_ 3 _ rfl; (with_reducible repeat (first | apply kN_ | apply kD_ | apply kA_)); refine blk_put (cs := #[.int .i64 t203, .int .i64 t204, .int .i64 0, .int .i64 0, .int .i64 0, .bool false]) ?_ 2 _ rfl; (with_reducible repeat (first | apply kN_ | apply kD_ | apply kA_)); refine blk_put (cs := #[.int .i64 t203, .int .i64 0, .int .i64 0, .int .i64 0, .int .i64 0, .bool false]) ?_ 1 _ rfl; (with_reducible repeat (first | apply kN_ | apply kD_ | apply kA_)); refine blk_put (cs := #[.int .i64 0, .int .i64 0, .int .i64 0, .int .i64 0, .int .i64 0, .bool false]) ?_ 0 _ rfl; (with_reducible repeat (first | apply kN_ | apply kD_ | apply kA_)); exact BK202.out) Tryd.underlying25 rfl (by kernel_rfl)) rfl ?_
  exact ⟨rT_, z5_1_, z5_2_, z5_3_⟩
 rw [if_pos c45] at H
 have c45b0 : (t212 == 3) = true := beq_iff_eq.mpr c45
 have c45b1 : (t212 != 3) = false := bne_eq_false_iff_eq.mpr c45
 clear c45
 replace H := ob_ H; obtain ⟨⟨t233, t234, t235⟩, A46, H⟩ := H; try dsimp only at H
 replace H := ob_ H; obtain ⟨⟨t236, t237, t238⟩, A47, H⟩ := H; try dsimp only at H
 simp only [Option.some.injEq, Prod.mk.injEq] at H
 obtain ⟨rfl, rfl, rfl, rfl, rfl, rfl, rfl, rfl⟩ := H
 go_wp2_with (first | ((with_reducible refine gC_ 37 ?_); refine gM_ (some 30) Tryd.func37 #[.pointer (some ⟨g, 0, none⟩), .int .i64 3] ?_; (with_reducible refine (spec_l1Cur_pick.calls g s0_0 t213 t214 3 t233 t234 t235 w0 _ ?side1 ?side2 A46.out).mono ?_); (case side1 => exact z5_1_); (case side2 => exact z5_5_); rintro e w48 ⟨rfl, hi, hb, hk⟩; refine ⟨_, rfl, ?_⟩; replace BK202 := aM_ (KeepBut.blk hk (g' := gb202) (o := .cells #[.int .i64 0, .int .i64 0, .int .i64 0, .int .i64 0, .int .i64 0, .bool false] 25 (0, 0)) (kR_ BK202) NB202_0.out (by simp)); replace BK211 := aM_ (KeepBut.blk hk (g' := gb211) (o := .cells #[.int .i64 t203, .int .i64 t204, .int .i64 t205, .int .i64 t206, .int .i64 t207, .bool t208] 25 (0, 0)) (kR_ BK211) NB211_0.out (by simp)); replace HK := aM_ (KeepBut.trans z5_6_ hk (.inl rfl)); replace HB := aM_ (hb); replace HI0 := aM_ (hi); (try clear hb); (try clear hk); (try clear hi)) | ((with_reducible refine gC_ 37 ?_); refine gM_ (some 32) Tryd.func37 #[.pointer (some ⟨g, 0, none⟩), .int .i64 2] ?_; (with_reducible refine (spec_l1Cur_pick.calls g s0_0 t234 t235 2 t236 t237 t238 w0 _ ?side1 ?side2 A47.out).mono ?_); (case side1 => exact z5_1_); (case side2 => exact z5_5_); rintro e w49 ⟨rfl, hi, hb, hk⟩; refine ⟨_, rfl, ?_⟩; replace BK202 := aM_ (KeepBut.blk hk (g' := gb202) (o := .cells #[.int .i64 0, .int .i64 0, .int .i64 0, .int .i64 0, .int .i64 0, .bool false] 25 (0, 0)) (kR_ BK202) NB202_0.out (by simp)); replace BK211 := aM_ (KeepBut.blk hk (g' := gb211) (o := .cells #[.int .i64 t203, .int .i64 t204, .int .i64 t205, .int .i64 t206, .int .i64 t207, .bool t208] 25 (0, 0)) (kR_ BK211) NB211_0.out (by simp)); replace HK := aM_ (KeepBut.trans z5_6_ hk (.inl rfl)); replace HB := aM_ (hb); replace HI0 := aM_ (hi); (try clear hb); (try clear hk); (try clear hi); have hnb50 := NB211_202.out; have hnc50 := NB202_211.out; have hnb51 := NB211_0.out; have hnc51 := NB0_211.out; have hz52 := cf6_ BK211.out; have hnb53 := NB202_0.out; have hnc53 := NB0_202.out; have hz54 := cf6_ BK202.out))
 refine bodyPost_ret (results_cell_row rfl _ _ gb202 25 #[.int .i64 0, .int .i64 t233, .int .i64 (wrap64 (1 + t236)), .int .i64 0, .int .i64 1, .bool true] (0, 0) _ rfl (by (with_reducible repeat (first | apply kN_ | apply kD_ | apply kA_)); refine blk_put (cs := #[.int .i64 0, .int .i64 t233, .int .i64 (wrap64 (1 + t236)), .int .i64 0, .int .i64 1, .bool false]) ?_ 5 _ rfl; (with_reducible repeat (first | apply kN_ | apply kD_ | apply kA_)); refine blk_put (cs := #[.int .i64 0, .int .i64 t233, .int .i64 (wrap64 (1 + t236)), .int .i64 0, .int .i64 0, .bool false]) ?_ 4 _ rfl; (with_reducible repeat (first | apply kN_ | apply kD_ | apply kA_)); refine blk_put (cs := #[.int .i64 0, .int .i64 t233, .int .i64 (wrap64 (1 + t236)), .int .i64 0, .int .i64 0, .bool false]) ?_ 3 _ rfl; (with_reducible repeat (first | apply kN_ | apply kD_ | apply kA_)); refine blk_put (cs := #[.int .i64 0, .int .i64 t233, .int .i64 0, .int .i64 0, .int .i64 0, .bool false]) ?_ 2 _ rfl; (with_reducible repeat (first | apply kN_ | apply kD_ | apply kA_)); refine blk_put (cs := #[.int .i64 0, .int .i64 0, .int .i64 0, .int .i64 0, .int .i64 0, .bool false]) ?_ 1 _ rfl; (with_reducible repeat (first | apply kN_ | apply kD_ | apply kA_)); refine blk_put (cs := #[.int .i64 0, .int .i64 0, .int .i64 0, .int .i64 0, .int .i64 0, .bool false]) ?_ 0 _ rfl; (with_reducible repeat (first | apply kN_ | apply kD_ | apply kA_)); refine blk_far ?_ NB202_211.out _; (with_reducible repeat (first | apply kN_ | apply kD_ | apply kA_)); refine blk_far ?_ NB202_211.out _; (with_reducible repeat (first | apply kN_ | apply kD_ | apply kA_)); refine blk_far ?_ NB202_211.out _; (with_reducible repeat (first | apply kN_ | apply kD_ | apply kA_)); refine blk_far ?_ NB202_211.out _; (with_reducible repeat (first | apply kN_ | apply kD_ | apply kA_)); refine blk_far ?_ NB202_211.out _; (with_reducible repeat (first | apply kN_ | apply kD_ | apply kA_)); refine blk_far ?_ NB202_211.out _; (with_reducible repeat (first | apply kN_ | apply kD_ | apply kA_)); exact BK202.out) Tryd.underlying25 rfl (by kernel_rfl)) rfl ?_
 exact ⟨rT_, z5_1_, z5_5_, z5_6_⟩

/-! ### spec_DrawShapeDistance: function 20 -/
theorem spec_DrawShapeDistance.calls (k : Nat) (A0 : Option Addr) (c0 : Nat) (l0 : List Int) (r1 : Int) (r2 : Int) (r3 : Int) (r4 : Int) (r5 : Int) (r6 : Bool) (r7 : Int) (r8 : Int) (r9 : Int) (r10 : Int) (r11 : Int) (r12 : Bool) (w : World) (hr0 : Kd.C (Kd.int .u8) w A0 l0.length l0) (hc0 : l0.length ≤ c0) (h : spec_DrawShapeDistance.f k l0 = some (r1, r2, r3, r4, r5, r6, r7, r8, r9, r10, r11, r12)) :
 Calls Tryd.prog 20 #[.slice A0 l0.length c0] w fun e w' => e = .returned (.tuple #[.agg #[.int .i64 r1, .int .i64 r2, .int .i64 r3, .int .i64 r4, .int .i64 r5, .bool r6], .agg #[.int .i64 r7, .int .i64 r8, .int .i64 r9, .int .i64 r10, .int .i64 r11, .bool r12]]) ∧ Below w.heap.size w w' := by
 have hu25 := Tryd.underlying25
 have hu59 := Tryd.underlying59
 have HR0 := Aside0.mk hr0
 have HC0 := Aside0.mk hc0
 clear hr0 hc0
 have HB := Aside0.mk (Below.refl w.heap.size w)
 have H : ((spec_l1Cur_anyShape.f k l0 0 0).bind fun bt242 => ((spec_l1Cur_anyShape.f k l0 bt242.2.2.2.2.2.2.1 bt242.2.2.2.2.2.2.2).bind fun bt250 => (some (bt242.1, bt242.2.1, bt242.2.2.1, bt242.2.2.2.1, bt242.2.2.2.2.1, bt242.2.2.2.2.2.1, bt250.1, bt250.2.1, bt250.2.2.1, bt250.2.2.2.1, bt250.2.2.2.2.1, bt250.2.2.2.2.2.1)))) = some (r1, r2, r3, r4, r5, r6, r7, r8, r9, r10, r11, r12) := h
 clear h
 replace H := ob_ H; obtain ⟨⟨t242, t243, t244, t245, t246, t247, t248, t249⟩, A2, H⟩ := H; try dsimp only at H
 replace H := ob_ H; obtain ⟨⟨t250, t251, t252, t253, t254, t255, t256, t257⟩, A3, H⟩ := H; try dsimp only at H
 simp only [Option.some.injEq, Prod.mk.injEq] at H
 obtain ⟨rfl, rfl, rfl, rfl, rfl, rfl, rfl, rfl, rfl, rfl, rfl, rfl⟩ := H
 go_enter Tryd.func20, Tryd.ntmps20
 go_wp2_with (first | ((with_reducible refine gate_dst (N := 2) rfl ?_); refine bx_ 2 #[.int .i64 0, .int .i64 0, .int .i64 0, .int .i64 0, .int .i64 0, .bool false] 25 fun gb239 hg w4 hbox hb => ?_; have BK239 := aM_ (hbox); have GW239 := aM_ (gw_ w hg); have GE239 := aM_ (gw_ w hg); replace HB := aM_ (below_step hB_ hb); clear hb hbox hg) | ((with_reducible refine gate_dst (N := 3) rfl ?_); refine bx_ 3 #[.int .i64 0, .int .i64 0, .int .i64 0, .int .i64 0, .int .i64 0, .bool false] 25 fun gb240 hg w5 hbox hb => ?_; have BK240 := aM_ (hbox); have GW240 := aM_ (gw_ w hg); have GE240 := aM_ (gw_ w hg); have NB239_240 := aM_ (nR_ BK239 hg); have NB240_239 := aM_ (mR_ BK239 hg); replace BK239 := aM_ (blk_below (g := gb239) (kR_ BK239) hb); replace HB := aM_ (below_step hB_ hb); clear hb hbox hg) | ((with_reducible refine gate_dst (N := 7) rfl ?_); refine bx_ 7 #[.slice A0 l0.length c0, .int .i64 0, .int .u64 0] 59 fun gb241 hg w6 hbox hb => ?_; have NB239_241 := aM_ (nR_ BK239 hg); have NB241_239 := aM_ (mR_ BK239 hg); have NB240_241 := aM_ (nR_ BK240 hg); have NB241_240 := aM_ (mR_ BK240 hg); have HI241 := aM_ ((show IsS59 w w6 gb241 l0 0 0 from ⟨A0, c0, hbox, (by rw [hg]; exact (below_size hB_) : w.heap.size ≤ gb241), HR0.out⟩)); replace BK239 := aM_ (blk_below (g := gb239) (kR_ BK239) hb); replace BK240 := aM_ (blk_below (g := gb240) (kR_ BK240) hb); replace HB := aM_ (below_step hB_ hb); clear hb hbox hg) | ((with_reducible refine gC_ 42 ?_); refine gM_ (some 9) Tryd.func42 #[.pointer (some ⟨gb241, 0, none⟩)] ?_; (with_reducible refine (spec_l1Cur_anyShape.calls k gb241 l0 0 0 t242 t243 t244 t245 t246 t247 t248 t249 w _ ?side1 ?side2 A2.out).mono ?_); (case side1 => exact z5_7_); (case side2 => exact z5_8_); rintro e w7 ⟨rfl, hi, hb, hk⟩; refine ⟨_, rfl, ?_⟩; replace BK239 := aM_ (KeepBut.blk hk (g' := gb239) (o := .cells #[.int .i64 0, .int .i64 0, .int .i64 0, .int .i64 0, .int .i64 0, .bool false] 25 (0, 0)) (kR_ BK239) NB239_241.out (by simp)); replace BK240 := aM_ (KeepBut.blk hk (g' := gb240) (o := .cells #[.int .i64 0, .int .i64 0, .int .i64 0, .int .i64 0, .int .i64 0, .bool false] 25 (0, 0)) (kR_ BK240) NB240_241.out (by simp)); replace HB := aM_ (hb); replace HI241 := aM_ (hi); (try clear hb); (try clear hk); (try clear hi)) | ((with_reducible refine gC_ 42 ?_); refine gM_ (some 11) Tryd.func42 #[.pointer (some ⟨gb241, 0, none⟩)] ?_; (with_reducible refine (spec_l1Cur_anyShape.calls k gb241 l0 t248 t249 t250 t251 t252 t253 t254 t255 t256 t257 w _ ?side1 ?side2 A3.out).mono ?_); (case side1 => exact z5_7_); (case side2 => exact z5_8_); rintro e w8 ⟨rfl, hi, hb, hk⟩; refine ⟨_, rfl, ?_⟩; replace BK239 := aM_ (KeepBut.blk hk (g' := gb239) (o := .cells #[.int .i64 0, .int .i64 0, .int .i64 0, .int .i64 0, .int .i64 0, .bool false] 25 (0, 0)) (kR_ BK239) NB239_241.out (by simp)); replace BK240 := aM_ (KeepBut.blk hk (g' := gb240) (o := .cells #[.int .i64 0, .int .i64 0, .int .i64 0, .int .i64 0, .int .i64 0, .bool false] 25 (0, 0)) (kR_ BK240) NB240_241.out (by simp)); replace HB := aM_ (hb); replace HI241 := aM_ (hi); (try clear hb); (try clear hk); (try clear hi); have hnb9 := NB239_240.out; have hnc9 := NB240_239.out; have hnb10 := NB239_241.out; have hnc10 := NB241_239.out; have hz11 := cf6_ BK239.out; have hnb12 := NB240_241.out; have hnc12 := NB241_240.out; have hz13 := cf6_ BK240.out))
 refine bodyPost_ret (results_cc rfl _ _ gb239 gb240 25 25 #[.int .i64 t242, .int .i64 t243, .int .i64 t244, .int .i64 t245, .int .i64 t246, .bool t247] #[.int .i64 t250, .int .i64 t251, .int .i64 t252, .int .i64 t253, .int .i64 t254, .bool t255] (0, 0) (0, 0) _ _ rfl (by (with_reducible repeat (first | apply kN_ | apply kD_ | apply kA_)); refine blk_far ?_ NB239_240.out _; (with_reducible repeat (first | apply kN_ | apply kD_ | apply kA_)); refine blk_far ?_ NB239_240.out _; (with_reducible repeat (first | apply kN_ | apply kD_ | apply kA_)); refine blk_far ?_ NB239_240.out _; (with_reducible repeat (first | apply kN_ | apply kD_ | apply kA_)); refine blk_far ?_ NB239_240.out _; (with_reducible repeat (first | apply kN_ | apply kD_ | apply kA_)); refine blk_far ?_ NB239_240.out _; (with_reducible repeat (first | apply kN_ | apply kD_ | apply kA_)); refine blk_far ?_ NB239_240.out _; (with_reducible repeat (first | apply kN_ | apply kD_ | apply kA_)); refine blk_put (cs := #[.int .i64 t242, .int .i64 t243, .int .i64 t244, .int .i64 t245, .int .i64 t246, .bool false]) ?_ 5 _ rfl; (with_reducible repeat (first | apply kN_ | apply kD_ | apply kA_)); refine blk_put (cs := #[.int .i64 t242, .int .i64 t243, .int .i64 t244, .int .i64 t245, .int .i64 0, .bool false]) ?_ 4 _ rfl; (with_reducible repeat (first | apply kN_ | apply kD_ | apply kA_)); refine blk_put (cs := #[.int .i64 t242, .int .i64 t243, .int .i64 t244, .int .i64 0, .int .i64 0, .bool false]) ?_ 3 _ rfl; (with_reducible repeat (first | apply kN_ | apply kD_ | apply kA_)); refine blk_put (cs := #[.int .i64 t242, .int .i64 t243, .int .i64 0, .int .i64 0, .int .i64 0, .bool false]) ?_ 2 _ rfl; (with_reducible repeat (first | apply kN_ | apply kD_ | apply kA_)); refine blk_put (cs := #[.int .i64 t242, .int .i64 0, .int .i64 0, .int .i64 0, .int .i64 0, .bool false]) ?_ 1 _ rfl; (with_reducible repeat (first | apply kN_ | apply kD_ | apply kA_)); refine blk_put (cs := #[.int .i64 0, .int .i64 0, .int .i64 0, .int .i64 0, .int .i64 0, .bool false]) ?_ 0 _ rfl; (with_reducible repeat (first | apply kN_ | apply kD_ | apply kA_)); exact BK239.out) Tryd.underlying25 rfl (by kernel_rfl) rfl (by (with_reducible repeat (first | apply kN_ | apply kD_ | apply kA_)); refine blk_put (cs := #[.int .i64 t250, .int .i64 t251, .int .i64 t252, .int .i64 t253, .int .i64 t254, .bool false]) ?_ 5 _ rfl; (with_reducible repeat (first | apply kN_ | apply kD_ | apply kA_)); refine blk_put (cs := #[.int .i64 t250, .int .i64 t251, .int .i64 t252, .int .i64 t253, .int .i64 0, .bool false]) ?_ 4 _ rfl; (with_reducible repeat (first | apply kN_ | apply kD_ | apply kA_)); refine blk_put (cs := #[.int .i64 t250, .int .i64 t251, .int .i64 t252, .int .i64 0, .int .i64 0, .bool false]) ?_ 3 _ rfl; (with_reducible repeat (first | apply kN_ | apply kD_ | apply kA_)); refine blk_put (cs := #[.int .i64 t250, .int .i64 t251, .int .i64 0, .int .i64 0, .int .i64 0, .bool false]) ?_ 2 _ rfl; (with_reducible repeat (first | apply kN_ | apply kD_ | apply kA_)); refine blk_put (cs := #[.int .i64 t250, .int .i64 0, .int .i64 0, .int .i64 0, .int .i64 0, .bool false]) ?_ 1 _ rfl; (with_reducible repeat (first | apply kN_ | apply kD_ | apply kA_)); refine blk_put (cs := #[.int .i64 0, .int .i64 0, .int .i64 0, .int .i64 0, .int .i64 0, .bool false]) ?_ 0 _ rfl; (with_reducible repeat (first | apply kN_ | apply kD_ | apply kA_)); refine blk_far ?_ NB240_239.out _; (with_reducible repeat (first | apply kN_ | apply kD_ | apply kA_)); refine blk_far ?_ NB240_239.out _; (with_reducible repeat (first | apply kN_ | apply kD_ | apply kA_)); refine blk_far ?_ NB240_239.out _; (with_reducible repeat (first | apply kN_ | apply kD_ | apply kA_)); refine blk_far ?_ NB240_239.out _; (with_reducible repeat (first | apply kN_ | apply kD_ | apply kA_)); refine blk_far ?_ NB240_239.out _; (with_reducible repeat (first | apply kN_ | apply kD_ | apply kA_)); refine blk_far ?_ NB240_239.out _; (with_reducible repeat (first | apply kN_ | apply kD_ | apply kA_)); exact BK240.out) Tryd.underlying25 rfl (by kernel_rfl)) rfl ?_
 exact ⟨rT_, z5_8_⟩

/-! ### spec_DrawShapeWay: function 5 -/
theorem spec_DrawShapeWay.calls (k : Nat) (A0 : Option Addr) (c0 : Nat) (l0 : List Int) (r1 : Int) (r2 : Int) (r3 : Int) (r4 : Int) (r5 : Int) (r6 : Bool) (r7 : Int) (r8 : Int) (r9 : Int) (r10 : Int) (r11 : Int) (r12 : Bool) (w : World) (hr0 : Kd.C (Kd.int .u8) w A0 l0.length l0) (hc0 : l0.length ≤ c0) (h : spec_DrawShapeWay.f k l0 = some (r1, r2, r3, r4, r5, r6, r7, r8, r9, r10, r11, r12)) :
 Calls Tryd.prog 5 #[.slice A0 l0.length c0] w fun e w' => e = .returned (.tuple #[.agg #[.int .i64 r1, .int .i64 r2, .int .i64 r3, .int .i64 r4, .int .i64 r5, .bool r6], .agg #[.int .i64 r7, .int .i64 r8, .int .i64 r9, .int .i64 r10, .int .i64 r11, .bool r12]]) ∧ Below w.heap.size w w' := by
 have hu25 := Tryd.underlying25
 have HR0 := Aside0.mk hr0
 have HC0 := Aside0.mk hc0
 clear hr0 hc0
 have HB := Aside0.mk (Below.refl w.heap.size w)
 have H : ((spec_DrawShapeDistance.f k l0).bind fun bt260 => (some (bt260.1, bt260.2.1, bt260.2.2.1, bt260.2.2.2.1, bt260.2.2.2.2.1, bt260.2.2.2.2.2.1, bt260.2.2.2.2.2.2.1, bt260.2.2.2.2.2.2.2.1, bt260.2.2.2.2.2.2.2.2.1, bt260.2.2.2.2.2.2.2.2.2.1, bt260.2.2.2.2.2.2.2.2.2.2.1, bt260.2.2.2.2.2.2.2.2.2.2.2))) = some (r1, r2, r3, r4, r5, r6, r7, r8, r9, r10, r11, r12) := h
 clear h
 replace H := ob_ H; obtain ⟨⟨t260, t261, t262, t263, t264, t265, t266, t267, t268, t269, t270, t271⟩, A2, H⟩ := H; try dsimp only at H
 simp only [Option.some.injEq, Prod.mk.injEq] at H
 obtain ⟨rfl, rfl, rfl, rfl, rfl, rfl, rfl, rfl, rfl, rfl, rfl, rfl⟩ := H
 go_enter Tryd.func5, Tryd.ntmps5
 go_wp2_with (first | ((with_reducible refine gate_dst (N := 2) rfl ?_); refine bx_ 2 #[.int .i64 0, .int .i64 0, .int .i64 0, .int .i64 0, .int .i64 0, .bool false] 25 fun gb258 hg w3 hbox hb => ?_; have BK258 := aM_ (hbox); have GW258 := aM_ (gw_ w hg); have GE258 := aM_ (gw_ w hg); replace HB := aM_ (below_step hB_ hb); clear hb hbox hg) | ((with_reducible refine gate_dst (N := 3) rfl ?_); refine bx_ 3 #[.int .i64 0, .int .i64 0, .int .i64 0, .int .i64 0, .int .i64 0, .bool false] 25 fun gb259 hg w4 hbox hb => ?_; have BK259 := aM_ (hbox); have GW259 := aM_ (gw_ w hg); have GE259 := aM_ (gw_ w hg); have NB258_259 := aM_ (nR_ BK258 hg); have NB259_258 := aM_ (mR_ BK258 hg); replace BK258 := aM_ (blk_below (g := gb258) (kR_ BK258) hb); replace HB := aM_ (below_step hB_ hb); clear hb hbox hg) | ((with_reducible refine gC_ 20 ?_); refine gM_ (some 5) Tryd.func20 #[.slice A0 l0.length c0] ?_; (with_reducible refine (spec_DrawShapeDistance.calls k _ _ l0 t260 t261 t262 t263 t264 t265 t266 t267 t268 t269 t270 t271 _ ?side1 ?side2 A2.out).mono ?_); (case side1 => exact z5_9_); (case side2 => exact HC0.out); rintro e w5 ⟨rfl, hb⟩; refine ⟨_, rfl, ?_⟩; replace BK258 := aM_ (blk_below (g := gb258) (kR_ BK258) hb); replace BK259 := aM_ (blk_below (g := gb259) (kR_ BK259) hb); replace HB := aM_ (below_step hB_ hb); (try clear hb); have hnb6 := NB258_259.out; have hnc6 := NB259_258.out; have hz7 := cf6_ BK258.out; have hz8 := cf6_ BK259.out))
 refine bodyPost_ret (results_cc rfl _ _ gb258 gb259 25 25 #[.int .i64 t260, .int .i64 t261, .int .i64 t262, .int .i64 t263, .int .i64 t264, .bool t265] #[.int .i64 t266, .int .i64 t267, .int .i64 t268, .int .i64 t269, .int .i64 t270, .bool t271] (0, 0) (0, 0) _ _ rfl (by (with_reducible repeat (first | apply kN_ | apply kD_ | apply kA_)); refine blk_far ?_ NB258_259.out _; (with_reducible repeat (first | apply kN_ | apply kD_ | apply kA_)); refine blk_far ?_ NB258_259.out _; (with_reducible repeat (first | apply kN_ | apply kD_ | apply kA_)); refine blk_far ?_ NB258_259.out _; (with_reducible repeat (first | apply kN_ | apply kD_ | apply kA_)); refine blk_far ?_ NB258_259.out _; (with_reducible repeat (first | apply kN_ | apply kD_ | apply kA_)); refine blk_far ?_ NB258_259.out _; (with_reducible repeat (first | apply kN_ | apply kD_ | apply kA_)); refine blk_far ?_ NB258_259.out _; (with_reducible repeat (first | apply kN_ | apply kD_ | apply kA_)); refine blk_put (cs := #[.int .i64 t260, .int .i64 t261, .int .i64 t262, .int .i64 t263, .int .i64 t264, .bool false]) ?_ 5 _ rfl; (with_reducible repeat (first | apply kN_ | apply kD_ | apply kA_)); refine blk_put (cs := #[.int .i64 t260, .int .i64 t261, .int .i64 t262, .int .i64 t263, .int .i64 0, .bool false]) ?_ 4 _ rfl; (with_reducible repeat (first | apply kN_ | apply kD_ | apply kA_)); refine blk_put (cs := #[.int .i64 t260, .int .i64 t261, .int .i64 t262, .int .i64 0, .int .i64 0, .bool false]) ?_ 3 _ rfl; (with_reducible repeat (first | apply kN_ | apply kD_ | apply kA_)); refine blk_put (cs := #[.int .i64 t260, .int .i64 t261, .int .i64 0, .int .i64 0, .int .i64 0, .bool false]) ?_ 2 _ rfl; (with_reducible repeat (first | apply kN_ | apply kD_ | apply kA_)); refine blk_put (cs := #[.int .i64 t260, .int .i64 0, .int .i64 0, .int .i64 0, .int .i64 0, .bool false]) ?_ 1 _ rfl; (with_reducible repeat (first | apply kN_ | apply kD_ | apply kA_)); refine blk_put (cs := #[.int .i64 0, .int .i64 0, .int .i64 0, .int .i64 0, .int .i64 0, .bool false]) ?_ 0 _ rfl; (with_reducible repeat (first | apply kN_ | apply kD_ | apply kA_)); exact BK258.out) Tryd.underlying25 rfl (by kernel_rfl) rfl (by (with_reducible repeat (first | apply kN_ | apply kD_ | apply kA_)); refine blk_put (cs := #[.int .i64 t266, .int .i64 t267, .int .i64 t268, .int .i64 t269, .int .i64 t270, .bool false]) ?_ 5 _ rfl; (with_reducible repeat (first | apply kN_ | apply kD_ | apply kA_)); refine blk_put (cs := #[.int .i64 t266, .int .i64 t267, .int .i64 t268, .int .i64 t269, .int .i64 0, .bool false]) ?_ 4 _ rfl; (with_reducible repeat (first | apply kN_ | apply kD_ | apply kA_)); refine blk_put (cs := #[.int .i64 t266, .int .i64 t267, .int .i64 t268, .int .i64 0, .int .i64 0, .bool false]) ?_ 3 _ rfl; (with_reducible repeat (first | apply kN_ | apply kD_ | apply kA_)); refine blk_put (cs := #[.int .i64 t266, .int .i64 t267, .int .i64 0, .int .i64 0, .int .i64 0, .bool false]) ?_ 2 _ rfl; (with_reducible repeat (first | apply kN_ | apply kD_ | apply kA_)); refine blk_put (cs := #[.int .i64 t266, .int .i64 0, .int .i64 0, .int .i64 0, .int .i64 0, .bool false]) ?_ 1 _ rfl; (with_reducible repeat (first | apply kN_ | apply kD_ | apply kA_)); refine blk_put (cs := #[.int .i64 0, .int .i64 0, .int .i64 0, .int .i64 0, .int .i64 0, .bool false]) ?_ 0 _ rfl; (with_reducible repeat (first | apply kN_ | apply kD_ | apply kA_)); refine blk_far ?_ NB259_258.out _; (with_reducible repeat (first | apply kN_ | apply kD_ | apply kA_)); refine blk_far ?_ NB259_258.out _; (with_reducible repeat (first | apply kN_ | apply kD_ | apply kA_)); refine blk_far ?_ NB259_258.out _; (with_reducible repeat (first | apply kN_ | apply kD_ | apply kA_)); refine blk_far ?_ NB259_258.out _; (with_reducible repeat (first | apply kN_ | apply kD_ | apply kA_)); refine blk_far ?_ NB259_258.out _; (with_reducible repeat (first | apply kN_ | apply kD_ | apply kA_)); refine blk_far ?_ NB259_258.out _; (with_reducible repeat (first | apply kN_ | apply kD_ | apply kA_)); exact BK259.out) Tryd.underlying25 rfl (by kernel_rfl)) rfl ?_
 exact ⟨rT_, hB_⟩

/-! ### impl_Shape_bends: function 21 -/
theorem impl_Shape_bends.calls (a0_0 : Int) (a0_1 : Int) (a0_2 : Int) (a0_3 : Int) (a0_4 : Int) (a0_5 : Bool) (r : List Int) (w : World) (h : impl_Shape_bends.f a0_0 a0_1 a0_2 a0_3 a0_4 a0_5 = some r) :
 Calls Tryd.prog 21 #[.agg #[.int .i64 a0_0, .int .i64 a0_1, .int .i64 a0_2, .int .i64 a0_3, .int .i64 a0_4, .bool a0_5]] w fun e w' => ∃ v0_ : Value, e = .returned (v0_) ∧ Kd.R (Kd.int .i64) 3 w' w.heap.size (fun _ => True) v0_ r ∧ Below w.heap.size w w' := by
 have hu25 := Tryd.underlying25
 have HB := Aside0.mk (Below.refl w.heap.size w)
 have H : (some (([a0_1, a0_2, a0_3, a0_4] : List Int))) = some r := h
 clear h
 obtain ⟨y273, hy273⟩ : ∃ y_ : List Int, y_ = (([a0_1, a0_2, a0_3, a0_4] : List Int)) := ⟨_, rfl⟩
 rw [← hy273] at H
 have Ny273 := Aside0.mk hy273; clear hy273
 obtain rfl := Option.some.inj H
 go_enter Tryd.func21, Tryd.ntmps21
 go_wp2_with (first | ((with_reducible refine gate_dst (N := 1) rfl ?_); refine bx_ 1 #[.int .i64 a0_0, .int .i64 a0_1, .int .i64 a0_2, .int .i64 a0_3, .int .i64 a0_4, .bool a0_5] 25 fun gb272 hg w2 hbox hb => ?_; have BK272 := aM_ (hbox); have GW272 := aM_ (gw_ w hg); have GE272 := aM_ (gw_ w hg); replace HB := aM_ (below_step hB_ hb); clear hb hbox hg; have hz3 := cf6_ BK272.out; clear BK272) | ((with_reducible refine gate_dst (N := 11) rfl ?_); refine rl_ (Kd.int .i64) 3 11 ([a0_1, a0_2, a0_3, a0_4] : List Int) [.int .i64 a0_1, .int .i64 a0_2, .int .i64 a0_3, .int .i64 a0_4] (Reps.one (show Kd.M (Kd.int .i64) _ _ _ a0_1 [.int .i64 a0_1] from rfl) (Reps.one (show Kd.M (Kd.int .i64) _ _ _ a0_2 [.int .i64 a0_2] from rfl) (Reps.one (show Kd.M (Kd.int .i64) _ _ _ a0_3 [.int .i64 a0_3] from rfl) (Reps.one (show Kd.M (Kd.int .i64) _ _ _ a0_4 [.int .i64 a0_4] from rfl) (Reps.none _ _))))) ?_; intro v274 w4 ho5 hb hg_ hnew_; clear hg_ hnew_; (first | rw [← Ny273.out] at ho5 | (simp only [Int.reduceToNat] at ho5; rw [← Ny273.out] at ho5)); have HO275 := aM_ (Kd.R_lower ho5 (below_size hB_)); replace HB := aM_ (below_step hB_ hb); clear hb ho5))
 go_ret
 exact ⟨_, rT_, by (with_reducible repeat (first | apply rA_ | apply rN_ | apply rD_)); exact HO275.out, hB_⟩

/-! ### impl_within: function 40 -/
theorem impl_within.calls (a0 : Int) (a1 : Int) (a2 : Int) (r : Bool) (w : World) (h : impl_within.f a0 a1 a2 = some r) :
 Calls Tryd.prog 40 #[.int .i64 a0, .int .i64 a1, .int .i64 a2] w fun e w' => e = .returned (.bool r) ∧ Drawn0 w w' := by
 have H : (if a0 ≥ a1 then (some (decide (a0 ≤ a2))) else (some false)) = some r := h
 clear h
 by_cases c4 : a0 ≥ a1
 ·rw [if_pos c4] at H
  have c4b0 : decide (a1 ≤ a0) = true := decide_eq_true c4
  clear c4
  obtain rfl := Option.some.inj H
  go_enter Tryd.func40, Tryd.ntmps40
  go_wp2
  go_ret
  exact ⟨z5_10_, by repeat (first | exact Drawn0.refl _ | apply Drawn0.step)⟩
 rw [if_neg c4] at H
 have c4b0 : decide (a1 ≤ a0) = false := decide_eq_false c4
 clear c4
 obtain rfl := Option.some.inj H
 go_enter Tryd.func40, Tryd.ntmps40
 go_wp2
 go_ret
 exact ⟨z5_10_, by repeat (first | exact Drawn0.refl _ | apply Drawn0.step)⟩

/-! ### impl_allWithin_1: function 96 -/
theorem impl_allWithin_1.calls (a0 : Int) (g1_0 : Nat) (a1_0 : Int) (g2_0 : Nat) (a2_0 : Int) (r : Bool) (w : World) (hb1_0 : w.heap[g1_0]? = some (.cells #[.int .i64 a1_0] 3 (0, 0))) (hb2_0 : w.heap[g2_0]? = some (.cells #[.int .i64 a2_0] 3 (0, 0))) (h : impl_allWithin_1.f a0 a1_0 a2_0 = some r) :
 Calls Tryd.prog 50 #[.int .i64 a0, .pointer (some ⟨g1_0, 0, none⟩), .pointer (some ⟨g2_0, 0, none⟩)] w fun e w' => e = .returned (.bool r) ∧ Below w.heap.size w w' := by
 have BK38 := Aside0.mk hb1_0
 clear hb1_0
 have BK46 := Aside0.mk hb2_0
 clear hb2_0
 have HB := Aside0.mk (Below.refl w.heap.size w)
 have H : ((impl_within.f a0 a1_0 a2_0).bind fun t276 => (some (!t276))) = some r := h
 clear h
 replace H := ob_ H; obtain ⟨t276, A4, H⟩ := H; try dsimp only at H
 obtain rfl := Option.some.inj H
 have hz6 := cf1_ BK38.out
 clear BK38
 have hz7 := cf1_ BK46.out
 clear BK46
 go_enter Tryd.func50, Tryd.ntmps50
 go_wp2_with (first | ((with_reducible refine gC_ 40 ?_); refine gM_ (some 8) Tryd.func40 #[.int .i64 a0, .int .i64 a1_0, .int .i64 a2_0] ?_; (with_reducible refine (impl_within.calls a0 a1_0 a2_0 t276 _ A4.out).mono ?_); rintro e w' ⟨rfl, ⟨nd, rfl⟩⟩; refine ⟨_, rfl, ?_⟩))
 go_ret
 exact ⟨rT_, hB_⟩

/-! ### slices_IndexFunc_int_impl_allWithin_1: function 95 -/
theorem slices_IndexFunc_int_impl_allWithin_1.calls (k : Nat) (A0 : Option Addr) (c0 : Nat) (l0 : List Int) (g1_0 : Nat) (g1_1 : Nat) (a1_0 : Int) (a1_1 : Int) (r : Int) (w : World) (hr0 : Kd.C (Kd.int .i64) w A0 l0.length l0) (hc0 : l0.length ≤ c0) (hb1_0 : w.heap[g1_0]? = some (.cells #[.int .i64 a1_0] 3 (0, 0))) (hb1_1 : w.heap[g1_1]? = some (.cells #[.int .i64 a1_1] 3 (0, 0))) (h : slices_IndexFunc_int_impl_allWithin_1.f k l0 a1_0 a1_1 = some r) :
 Calls Tryd.prog 57 #[.slice A0 l0.length c0, .func (.func 50) #[] #[.pointer (some ⟨g1_0, 0, none⟩), .pointer (some ⟨g1_1, 0, none⟩)]] w fun e w' => e = .returned (.int .i64 r) ∧ Below w.heap.size w w' := by
 have HR0 := Aside0.mk hr0
 have HC0 := Aside0.mk hc0
 clear hr0 hc0
 have BK38 := Aside0.mk hb1_0
 clear hb1_0
 have BK39 := Aside0.mk hb1_1
 clear hb1_1
 have HB := Aside0.mk (Below.refl w.heap.size w)
 have H : (slices_IndexFunc_int_impl_allWithin_1.l0 k l0 (l0.length : Int) 0 a1_0 a1_1) = some r := h
 clear h
 have H' := Aside0.mk H
 clear H
 go_enter Tryd.func57, Tryd.ntmps57
 go_wp2
 go_loopg [8] k (fun kq v8 w' => ∃ (x8_1 : Int), v8 = .int .i64 x8_1 ∧ Aside0 (slices_IndexFunc_int_impl_allWithin_1.l0 kq l0 (l0.length : Int) x8_1 a1_0 a1_1 = some r) ∧ Aside0 (kq ≤ k) ∧ Aside0 (w'.heap[g1_0]? = some (.cells #[.int .i64 a1_0] 3 (0, 0))) ∧ Aside0 (w'.heap[g1_1]? = some (.cells #[.int .i64 a1_1] 3 (0, 0))) ∧ Aside0 (Below w.heap.size w w'))
 case atStart => exact ⟨(0), z5_10_, H', ⟨Nat.le_refl _⟩, ⟨kP_⟩, ⟨kP_⟩, ⟨hB_⟩⟩
 case round =>
  clear H'
  obtain ⟨x8_1, rfl, HA, HK1, BK38, BK39, HB⟩ := hrel
  cases gk with
  | zero => exact absurd HA.out (by simp [slices_IndexFunc_int_impl_allWithin_1.l0])
  | succ k1 =>
   have H := HA.out
   clear HA
   simp only [slices_IndexFunc_int_impl_allWithin_1.l0] at H
   replace H := iF_ H; obtain ⟨c3b0, H⟩ | ⟨c3b0, H⟩ := H
   ·obtain rfl := Option.some.inj H
    go_wp2
    go_ret
    exact ⟨rT_, hB_⟩
   replace H := ig_ H; obtain ⟨c4b0, H⟩ := H
   replace H := ig_ H; obtain ⟨c5b0, H⟩ := H
   replace H := ob_ H; obtain ⟨t278, A6, H⟩ := H; try dsimp only at H
   have HC7 := Aside0.mk H
   clear H
   have p277 : 0 ≤ (x8_1 : Int) := ode_
   have q277 : x8_1 < (l0.length : Int) := ode_
   obtain ⟨ad277, e277, hx277_0⟩ := Kd.at_int HR0.out x8_1 p277 q277
   cases e277
   try replace hx277_0 := hc_ HB hx277_0
   replace p277 := eq_true p277
   replace q277 := eq_true q277
   go_upto_if 16 with (first | ((with_reducible refine gate_via (t := 11) rfl ?_); refine goesV_ (some 16) rfl rfl Tryd.func50 (by kernel_rfl) rfl #[.int .i64 (rd l0 x8_1), .pointer (some ⟨g1_0, 0, none⟩), .pointer (some ⟨g1_1, 0, none⟩)] rfl rfl (by (try simp only [List.map_toArray, List.map_cons, List.map_nil]); first | done | rfl | simp | (simp; rfl)) ?_; (with_reducible refine (impl_allWithin_1.calls (rd l0 x8_1) g1_0 a1_0 g1_1 a1_1 t278 _ ?side1 ?side2 A6.out).mono ?_); (case side1 => (with_reducible repeat (first | apply kN_ | apply kD_ | apply kA_)); exact BK38.out); (case side2 => (with_reducible repeat (first | apply kN_ | apply kD_ | apply kA_)); exact BK39.out); rintro e w8 ⟨rfl, hb⟩; refine ⟨_, rfl, ?_⟩; replace BK38 := aM_ (blk_below (g := g1_0) (kR_ BK38) hb); replace BK39 := aM_ (blk_below (g := g1_1) (kR_ BK39) hb); replace HB := aM_ (below_step hB_ hb); (try clear hb)))
   (try simp only [Act.put, List.setIfInBounds_toArray, List.set_cons_zero, List.set_cons_succ])
   have H := HC7.out
   clear HC7
   by_cases c9 : t278 = true
   ·subst c9
    replace H := ip_ H rfl
    obtain rfl := Option.some.inj H
    go_wp2
    go_ret
    exact ⟨rT_, hB_⟩
   replace c9 := Bool.eq_false_iff.mpr c9
   subst c9
   replace H := in_ H (show ¬ (false = true) by decide)
   have H' := Aside0.mk H
   clear H
   go_wp2
   go_roundg k1
   case measure => have := HK1.out; omega
   case rel => exact ⟨(wrap64 (x8_1 + 1)), z5_10_, H', ⟨by have := HK1.out; omega⟩, ⟨kP_⟩, ⟨kP_⟩, ⟨hB_⟩⟩

/-! ### slices_ContainsFunc_int_impl_allWithin_1: function 94 -/
theorem slices_ContainsFunc_int_impl_allWithin_1.calls (k : Nat) (A0 : Option Addr) (c0 : Nat) (l0 : List Int) (g1_0 : Nat) (g1_1 : Nat) (a1_0 : Int) (a1_1 : Int) (r : Bool) (w : World) (hr0 : Kd.C (Kd.int .i64) w A0 l0.length l0) (hc0 : l0.length ≤ c0) (hb1_0 : w.heap[g1_0]? = some (.cells #[.int .i64 a1_0] 3 (0, 0))) (hb1_1 : w.heap[g1_1]? = some (.cells #[.int .i64 a1_1] 3 (0, 0))) (h : slices_ContainsFunc_int_impl_allWithin_1.f k l0 a1_0 a1_1 = some r) :
 Calls Tryd.prog 49 #[.slice A0 l0.length c0, .func (.func 50) #[] #[.pointer (some ⟨g1_0, 0, none⟩), .pointer (some ⟨g1_1, 0, none⟩)]] w fun e w' => e = .returned (.bool r) ∧ Below w.heap.size w w' := by
 have HR0 := Aside0.mk hr0
 have HC0 := Aside0.mk hc0
 clear hr0 hc0
 have BK38 := Aside0.mk hb1_0
 clear hb1_0
 have BK39 := Aside0.mk hb1_1
 clear hb1_1
 have HB := Aside0.mk (Below.refl w.heap.size w)
 have H : ((slices_IndexFunc_int_impl_allWithin_1.f k l0 a1_0 a1_1).bind fun t279 => (some (decide (t279 ≥ 0)))) = some r := h
 clear h
 replace H := ob_ H; obtain ⟨t279, A3, H⟩ := H; try dsimp only at H
 obtain rfl := Option.some.inj H
 go_enter Tryd.func49, Tryd.ntmps49
 go_wp2_with (first | ((with_reducible refine gC_ 57 ?_); refine gM_ (some 7) Tryd.func57 #[.slice A0 l0.length c0, .func (.func 50) #[] #[.pointer (some ⟨g1_0, 0, none⟩), .pointer (some ⟨g1_1, 0, none⟩)]] ?_; (with_reducible refine (slices_IndexFunc_int_impl_allWithin_1.calls k _ _ l0 g1_0 g1_1 a1_0 a1_1 t279 _ ?side1 ?side2 ?side3 ?side4 A3.out).mono ?_); (case side1 => exact cC_ HR0); (case side2 => exact HC0.out); (case side3 => (with_reducible repeat (first | apply kN_ | apply kD_ | apply kA_)); exact BK38.out); (case side4 => (with_reducible repeat (first | apply kN_ | apply kD_ | apply kA_)); exact BK39.out); rintro e w4 ⟨rfl, hb⟩; refine ⟨_, rfl, ?_⟩; replace BK38 := aM_ (blk_below (g := g1_0) (kR_ BK38) hb); replace BK39 := aM_ (blk_below (g := g1_1) (kR_ BK39) hb); replace HB := aM_ (below_step hB_ hb); (try clear hb)))
 go_ret
 exact ⟨rT_, hB_⟩

/-! ### impl_allWithin: function 31 -/
theorem impl_allWithin.calls (k : Nat) (A0 : Option Addr) (c0 : Nat) (l0 : List Int) (a1 : Int) (a2 : Int) (r : Bool) (w : World) (hr0 : Kd.C (Kd.int .i64) w A0 l0.length l0) (hc0 : l0.length ≤ c0) (h : impl_allWithin.f k l0 a1 a2 = some r) :
 Calls Tryd.prog 31 #[.slice A0 l0.length c0, .int .i64 a1, .int .i64 a2] w fun e w' => e = .returned (.bool r) ∧ Below w.heap.size w w' := by
 have hu3 := Tryd.underlying3
 have HR0 := Aside0.mk hr0
 have HC0 := Aside0.mk hc0
 clear hr0 hc0
 have HB := Aside0.mk (Below.refl w.heap.size w)
 have H : ((slices_ContainsFunc_int_impl_allWithin_1.f k l0 a1 a2).bind fun t282 => (some (!t282))) = some r := h
 clear h
 replace H := ob_ H; obtain ⟨t282, A4, H⟩ := H; try dsimp only at H
 obtain rfl := Option.some.inj H
 go_enter Tryd.func31, Tryd.ntmps31
 go_wp2_with (first | ((with_reducible refine gate_dst (N := 4) rfl ?_); refine bx_ 4 #[.int .i64 a1] 3 fun gb280 hg w5 hbox hb => ?_; have BK280 := aM_ (hbox); have GW280 := aM_ (gw_ w hg); have GE280 := aM_ (gw_ w hg); replace HB := aM_ (below_step hB_ hb); clear hb hbox hg) | ((with_reducible refine gate_dst (N := 5) rfl ?_); refine bx_ 5 #[.int .i64 a2] 3 fun gb281 hg w6 hbox hb => ?_; have BK281 := aM_ (hbox); have GW281 := aM_ (gw_ w hg); have GE281 := aM_ (gw_ w hg); have NB280_281 := aM_ (nR_ BK280 hg); have NB281_280 := aM_ (mR_ BK280 hg); replace BK280 := aM_ (blk_below (g := gb280) (kR_ BK280) hb); replace HB := aM_ (below_step hB_ hb); clear hb hbox hg) | ((with_reducible refine gC_ 49 ?_); refine gM_ (some 9) Tryd.func49 #[.slice A0 l0.length c0, .func (.func 50) #[] #[.pointer (some ⟨gb280, 0, none⟩), .pointer (some ⟨gb281, 0, none⟩)]] ?_; (with_reducible refine (slices_ContainsFunc_int_impl_allWithin_1.calls k _ _ l0 gb280 gb281 a1 a2 t282 _ ?side1 ?side2 ?side3 ?side4 A4.out).mono ?_); (case side1 => exact z5_9_); (case side2 => exact HC0.out); (case side3 => (with_reducible repeat (first | apply kN_ | apply kD_ | apply kA_)); exact BK280.out); (case side4 => (with_reducible repeat (first | apply kN_ | apply kD_ | apply kA_)); exact BK281.out); rintro e w7 ⟨rfl, hb⟩; refine ⟨_, rfl, ?_⟩; replace BK280 := aM_ (blk_below (g := gb280) (kR_ BK280) hb); replace BK281 := aM_ (blk_below (g := gb281) (kR_ BK281) hb); replace HB := aM_ (below_step hB_ hb); (try clear hb)))
 go_ret
 exact ⟨rT_, hB_⟩

/-! ### impl_Shape_maySpread: function 32 -/
theorem impl_Shape_maySpread.calls (a0_0 : Int) (a0_1 : Int) (a0_2 : Int) (a0_3 : Int) (a0_4 : Int) (a0_5 : Bool) (r : Bool) (w : World) (h : impl_Shape_maySpread.f a0_0 a0_1 a0_2 a0_3 a0_4 a0_5 = some r) :
 Calls Tryd.prog 32 #[.agg #[.int .i64 a0_0, .int .i64 a0_1, .int .i64 a0_2, .int .i64 a0_3, .int .i64 a0_4, .bool a0_5]] w fun e w' => e = .returned (.bool r) ∧ Below w.heap.size w w' := by
 have hu25 := Tryd.underlying25
 have HB := Aside0.mk (Below.refl w.heap.size w)
 have H : (if a0_2 = 0 then (if a0_1 = 0 then (some true) else (if a0_3 = 0 then (some true) else (some false))) else (if a0_3 = 0 then (some (a0_4 == 0)) else (some false))) = some r := h
 clear h
 by_cases c2 : a0_2 = 0
 rotate_left
 ·rw [if_neg c2] at H
  have c2b0 : (a0_2 == 0) = false := beq_eq_false_iff_ne.mpr c2
  have c2b1 : (a0_2 != 0) = true := bne_iff_ne.mpr c2
  by_cases c11 : a0_3 = 0
  rotate_left
  ·rw [if_neg c11] at H
   have c11b0 : (a0_3 == 0) = false := beq_eq_false_iff_ne.mpr c11
   have c11b1 : (a0_3 != 0) = true := bne_iff_ne.mpr c11
   obtain rfl := Option.some.inj H
   go_enter Tryd.func32, Tryd.ntmps32
   go_wp2_with (first | ((with_reducible refine gate_dst (N := 1) rfl ?_); refine bx_ 1 #[.int .i64 a0_0, .int .i64 a0_1, .int .i64 a0_2, .int .i64 a0_3, .int .i64 a0_4, .bool a0_5] 25 fun gb283 hg w14 hbox hb => ?_; have BK283 := aM_ (hbox); have GW283 := aM_ (gw_ w hg); have GE283 := aM_ (gw_ w hg); replace HB := aM_ (below_step hB_ hb); clear hb hbox hg; have hz15 := cf6_ BK283.out))
   go_ret
   exact ⟨rT_, hB_⟩
  rw [if_pos c11] at H
  have c11b0 : (a0_3 == 0) = true := beq_iff_eq.mpr c11
  have c11b1 : (a0_3 != 0) = false := bne_eq_false_iff_eq.mpr c11
  clear c11
  obtain rfl := Option.some.inj H
  go_enter Tryd.func32, Tryd.ntmps32
  go_wp2_with (first | ((with_reducible refine gate_dst (N := 1) rfl ?_); refine bx_ 1 #[.int .i64 a0_0, .int .i64 a0_1, .int .i64 a0_2, .int .i64 a0_3, .int .i64 a0_4, .bool a0_5] 25 fun gb283 hg w12 hbox hb => ?_; have BK283 := aM_ (hbox); have GW283 := aM_ (gw_ w hg); have GE283 := aM_ (gw_ w hg); replace HB := aM_ (below_step hB_ hb); clear hb hbox hg; have hz13 := cf6_ BK283.out))
  go_ret
  exact ⟨rT_, hB_⟩
 rw [if_pos c2] at H
 have c2b0 : (a0_2 == 0) = true := beq_iff_eq.mpr c2
 have c2b1 : (a0_2 != 0) = false := bne_eq_false_iff_eq.mpr c2
 clear c2
 by_cases c3 : a0_1 = 0
 ·rw [if_pos c3] at H
  have c3b0 : (a0_1 == 0) = true := beq_iff_eq.mpr c3
  have c3b1 : (a0_1 != 0) = false := bne_eq_false_iff_eq.mpr c3
  clear c3
  obtain rfl := Option.some.inj H
  go_enter Tryd.func32, Tryd.ntmps32
  go_wp2_with (first | ((with_reducible refine gate_dst (N := 1) rfl ?_); refine bx_ 1 #[.int .i64 a0_0, .int .i64 a0_1, .int .i64 a0_2, .int .i64 a0_3, .int .i64 a0_4, .bool a0_5] 25 fun gb283 hg w4 hbox hb => ?_; have BK283 := aM_ (hbox); have GW283 := aM_ (gw_ w hg); have GE283 := aM_ (gw_ w hg); replace HB := aM_ (below_step hB_ hb); clear hb hbox hg; have hz5 := cf6_ BK283.out))
  go_ret
  exact ⟨rT_, hB_⟩
 rw [if_neg c3] at H
 have c3b0 : (a0_1 == 0) = false := beq_eq_false_iff_ne.mpr c3
 have c3b1 : (a0_1 != 0) = true := bne_iff_ne.mpr c3
 by_cases c6 : a0_3 = 0
 rotate_left
 ·rw [if_neg c6] at H
  have c6b0 : (a0_3 == 0) = false := beq_eq_false_iff_ne.mpr c6
  have c6b1 : (a0_3 != 0) = true := bne_iff_ne.mpr c6
  obtain rfl := Option.some.inj H
  go_enter Tryd.func32, Tryd.ntmps32
  go_wp2_with (first | ((with_reducible refine gate_dst (N := 1) rfl ?_); refine bx_ 1 #[.int .i64 a0_0, .int .i64 a0_1, .int .i64 a0_2, .int .i64 a0_3, .int .i64 a0_4, .bool a0_5] 25 fun gb283 hg w9 hbox hb => ?_; have BK283 := aM_ (hbox); have GW283 := aM_ (gw_ w hg); have GE283 := aM_ (gw_ w hg); replace HB := aM_ (below_step hB_ hb); clear hb hbox hg; have hz10 := cf6_ BK283.out))
  go_ret
  exact ⟨rT_, hB_⟩
 rw [if_pos c6] at H
 have c6b0 : (a0_3 == 0) = true := beq_iff_eq.mpr c6
 have c6b1 : (a0_3 != 0) = false := bne_eq_false_iff_eq.mpr c6
 clear c6
 obtain rfl := Option.some.inj H
 go_enter Tryd.func32, Tryd.ntmps32
 go_wp2_with (first | ((with_reducible refine gate_dst (N := 1) rfl ?_); refine bx_ 1 #[.int .i64 a0_0, .int .i64 a0_1, .int .i64 a0_2, .int .i64 a0_3, .int .i64 a0_4, .bool a0_5] 25 fun gb283 hg w7 hbox hb => ?_; have BK283 := aM_ (hbox); have GW283 := aM_ (gw_ w hg); have GE283 := aM_ (gw_ w hg); replace HB := aM_ (below_step hB_ hb); clear hb hbox hg; have hz8 := cf6_ BK283.out))
 go_ret
 exact ⟨rT_, hB_⟩

/-! ### impl_IsShape: function 13 -/
def impl_IsShape.T1 : Bool × List (List Nat × List Nat) := (true, [([], []), ([0], [0]), ([1], [1]), ([], []), ([3], [3]), ([2, 4, 4], [2, 4]), ([5, 5], [5]), ([6], [6])])
def impl_IsShape.B1 : List Nat := [0, 1, 3, 0, 8, 31, 63, 127]
theorem impl_IsShape.tab1 : rtab .any (opsOf Tryd.f13 1) = impl_IsShape.T1 := by kernel_rfl
theorem impl_IsShape.bits1 : waitsOk impl_IsShape.T1.2 impl_IsShape.B1 = true := by kernel_rfl
theorem impl_IsShape.calls (k : Nat) (a0_0 : Int) (a0_1 : Int) (a0_2 : Int) (a0_3 : Int) (a0_4 : Int) (a0_5 : Bool) (r : Bool) (w : World) (h : impl_IsShape.f k a0_0 a0_1 a0_2 a0_3 a0_4 a0_5 = some r) :
 Calls Tryd.prog 13 #[.agg #[.int .i64 a0_0, .int .i64 a0_1, .int .i64 a0_2, .int .i64 a0_3, .int .i64 a0_4, .bool a0_5]] w fun e w' => e = .returned (.bool r) ∧ Below w.heap.size w w' := by
 have hu25 := Tryd.underlying25
 have HB := Aside0.mk (Below.refl w.heap.size w)
 have H : ((some (([a0_0] : List Int) : List Int)).bind fun y285 => ((impl_Shape_bends.f a0_0 a0_1 a0_2 a0_3 a0_4 a0_5).bind fun t288 => (if y285.length + t288.length < 17592186044416 then ((impl_allWithin.f k (y285 ++ t288) 0 2).bind fun t294 => (if t294 = true then (if a0_5 = true then ((impl_Shape_maySpread.f a0_0 a0_1 a0_2 a0_3 a0_4 a0_5).bind fun t295 => (some t295)) else (some true)) else (some false))) else (none)))) = some r := h
 clear h
 replace H := bs_ H; obtain ⟨y285, Ny285, H⟩ := H; try dsimp only at H
 replace H := ob_ H; obtain ⟨t288, A2, H⟩ := H; try dsimp only at H
 replace H := il_ H; obtain ⟨LMc3, H⟩ := H
 obtain ⟨y291, hy291⟩ : ∃ y_ : List Int, y_ = (y285 ++ t288) := ⟨_, rfl⟩
 rw [← hy291] at H
 have Ny291 := Aside0.mk hy291; clear hy291
 replace H := ob_ H; obtain ⟨t294, A4, H⟩ := H; try dsimp only at H
 have HC5 := Aside0.mk H
 clear H
 go_enter Tryd.func13, Tryd.ntmps13
 try go_wp2_with (first | ((with_reducible refine gate_dst (N := 1) rfl ?_); refine bx_ 1 #[.int .i64 a0_0, .int .i64 a0_1, .int .i64 a0_2, .int .i64 a0_3, .int .i64 a0_4, .bool a0_5] 25 fun gb284 hg w6 hbox hb => ?_; have BK284 := aM_ (hbox); have GW284 := aM_ (gw_ w hg); have GE284 := aM_ (gw_ w hg); replace HB := aM_ (below_step hB_ hb); clear hb hbox hg))
 replace BK284 := aM_ (blk_drew BK284.out)
 replace HB := aM_ (below_drew1 HB.out)
 refine st_ 8 (fun w' => w'.cell? ⟨gb284, 0, none⟩ = some (.int .i64 a0_0) ∧ w'.cell? ⟨gb284, 1, none⟩ = some (.int .i64 a0_1) ∧ w'.cell? ⟨gb284, 2, none⟩ = some (.int .i64 a0_2) ∧ w'.cell? ⟨gb284, 3, none⟩ = some (.int .i64 a0_3) ∧ w'.cell? ⟨gb284, 4, none⟩ = some (.int .i64 a0_4) ∧ w'.cell? ⟨gb284, 5, none⟩ = some (.bool a0_5)) [] impl_IsShape.tab1 impl_IsShape.bits1 ⟨(blk_cell BK284.out 0).trans rfl, (blk_cell BK284.out 1).trans rfl, (blk_cell BK284.out 2).trans rfl, (blk_cell BK284.out 3).trans rfl, (blk_cell BK284.out 4).trans rfl, (blk_cell BK284.out 5).trans rfl⟩ fun hHeld HT_ HW_ => ?_
 generalize w6.drew = w7 at BK284 HB hHeld ⊢
 refine pu_ 0 3 ?_
 refine tk_ 1 4 ?_
 refine tk_ 3 6 ?_
 refine join_ (σ := Value × Value) 3 (bz_ 8 0x1f) (fun s_ => [(5, s_.1), (7, s_.2)]) (fun s_ w' => (w'.cell? ⟨gb284, 0, none⟩ = some (.int .i64 a0_0) ∧ w'.cell? ⟨gb284, 1, none⟩ = some (.int .i64 a0_1) ∧ w'.cell? ⟨gb284, 2, none⟩ = some (.int .i64 a0_2) ∧ w'.cell? ⟨gb284, 3, none⟩ = some (.int .i64 a0_3) ∧ w'.cell? ⟨gb284, 4, none⟩ = some (.int .i64 a0_4) ∧ w'.cell? ⟨gb284, 5, none⟩ = some (.bool a0_5)) ∧ (Kd.R (Kd.int .i64) 3 w' w.heap.size (fun k_ => some k_ ≠ (s_.2 : Value).ownBlock) s_.1 y285) ∧ (Kd.R (Kd.int .i64) 3 w' w.heap.size (fun k_ => some k_ ≠ (s_.1 : Value).ownBlock) s_.2 t288) ∧ (w'.heap[gb284]? = some (.cells #[.int .i64 a0_0, .int .i64 a0_1, .int .i64 a0_2, .int .i64 a0_3, .int .i64 a0_4, .bool a0_5] 25 (0, 0))) ∧ (Below w.heap.size w w')) ?_ ?_
 rotate_left
 ·intro hCont
  refine two_ (i := 2) (j := 4) (Ni := some 5) (Nj := some 7) (bz_ 8 0xf) (bz_ 8 0x1b) rfl rfl rfl rfl (two_of HT_.out (by kernel_rfl)) (by decide) (by decide) (fun K hK => ?_) (fun K hK => ?_)
  ·skip
   refine Kd.R_lit_step (Kd.int .i64) _ 3 ?hg (N := 5) ?hd (xs := ([a0_0] : List Int)) (inner := [.int .i64 a0_0]) (ok := fun _ => True) (okp := fun _ => True) ?hr ?hp (fun _ hk => hk) trivial (Below.refl _ _) (Nat.le_refl _) (by simp) ?_; (case hd => rfl); (case hg => rfl); (case hr => first | (go_simp; done) | (go_simp; rfl)); (case hp => exact (Reps.one (show Kd.M (Kd.int .i64) _ _ _ a0_0 [.int .i64 a0_0] from rfl) (Reps.none _ _)))
   intro v286 w8 ho9 hb hg_ hnew_
   clear hg_ hnew_
   (first | rw [← Ny285.out] at ho9 | (simp only [Int.reduceToNat] at ho9; rw [← Ny285.out] at ho9))
   have HO287 := aM_ (Kd.R_lower ho9 (below_size hB_))
   replace BK284 := aM_ (blk_below (g := gb284) (kR_ BK284) hb)
   replace HB := aM_ (below_step hB_ hb)
   clear hb ho9
   refine hK.out _ _ ⟨(blk_cell BK284.out 0).trans rfl, (blk_cell BK284.out 1).trans rfl, (blk_cell BK284.out 2).trans rfl, (blk_cell BK284.out 3).trans rfl, (blk_cell BK284.out 4).trans rfl, (blk_cell BK284.out 5).trans rfl⟩ (fun hHeld => ?_)
   clear hK K
   refine nm_ 5 ?_
   refine on_ 4 7 fun K hK => ?_
   refine gS_ Tryd.func21 #[.agg #[.int .i64 a0_0, .int .i64 a0_1, .int .i64 a0_2, .int .i64 a0_3, .int .i64 a0_4, .bool a0_5]] ?_
   with_reducible refine (impl_Shape_bends.calls a0_0 a0_1 a0_2 a0_3 a0_4 a0_5 t288 _ A2.out).mono ?_
   rintro e w10 ⟨v289, rfl, ho0, hb⟩
   refine ⟨_, rfl, ?_⟩
   have HO290 := aM_ (Kd.R_lower (Kd.R_new' ho0 (Kd.R_lt (rR_ HO287))) (below_size hB_))
   replace HO287 := aM_ (Kd.R_elder' (rR_ HO287) (Kd.R_base ho0) hb)
   replace BK284 := aM_ (blk_below (g := gb284) (kR_ BK284) hb)
   replace HB := aM_ (below_step hB_ hb)
   (try clear hb)
   (try clear hb2)
   (try clear hk)
   (try clear hi)
   (try clear ho0)
   refine hK.out _ _ ⟨(blk_cell BK284.out 0).trans rfl, (blk_cell BK284.out 1).trans rfl, (blk_cell BK284.out 2).trans rfl, (blk_cell BK284.out 3).trans rfl, (blk_cell BK284.out 4).trans rfl, (blk_cell BK284.out 5).trans rfl⟩ (fun hHeld => ?_)
   clear hK K
   refine nm_ 7 ?_
   exact norm_ z5_11_ (hCont (v286, v289) _ ⟨hHeld, (rM_ HO287 (fun _ hk => hk.2)), (rM_ HO290 (fun _ hk => hk.2)), (kR_ BK284), hB_⟩)
  ·skip
   refine gS_ Tryd.func21 #[.agg #[.int .i64 a0_0, .int .i64 a0_1, .int .i64 a0_2, .int .i64 a0_3, .int .i64 a0_4, .bool a0_5]] ?_
   with_reducible refine (impl_Shape_bends.calls a0_0 a0_1 a0_2 a0_3 a0_4 a0_5 t288 _ A2.out).mono ?_
   rintro e w8 ⟨v289, rfl, ho0, hb⟩
   refine ⟨_, rfl, ?_⟩
   have HO290 := aM_ (Kd.R_lower ho0 (below_size hB_))
   replace BK284 := aM_ (blk_below (g := gb284) (kR_ BK284) hb)
   replace HB := aM_ (below_step hB_ hb)
   (try clear hb)
   (try clear hb2)
   (try clear hk)
   (try clear hi)
   (try clear ho0)
   refine hK.out _ _ ⟨(blk_cell BK284.out 0).trans rfl, (blk_cell BK284.out 1).trans rfl, (blk_cell BK284.out 2).trans rfl, (blk_cell BK284.out 3).trans rfl, (blk_cell BK284.out 4).trans rfl, (blk_cell BK284.out 5).trans rfl⟩ (fun hHeld => ?_)
   clear hK K
   refine nm_ 7 ?_
   refine on_ 2 5 fun K hK => ?_
   refine Kd.R_lit_step (Kd.int .i64) _ 3 ?hg (N := 5) ?hd (xs := ([a0_0] : List Int)) (inner := [.int .i64 a0_0]) (ok := fun _ => True) (okp := fun _ => True) ?hr ?hp (fun _ hk => hk) trivial (Below.refl _ _) (Nat.le_refl _) (by simp) ?_; (case hd => rfl); (case hg => rfl); (case hr => first | (go_simp; done) | (go_simp; rfl)); (case hp => exact (Reps.one (show Kd.M (Kd.int .i64) _ _ _ a0_0 [.int .i64 a0_0] from rfl) (Reps.none _ _)))
   intro v286 w9 ho10 hb hg_ hnew_
   clear hg_ hnew_
   (first | rw [← Ny285.out] at ho10 | (simp only [Int.reduceToNat] at ho10; rw [← Ny285.out] at ho10))
   have HO287 := aM_ (Kd.R_lower (Kd.R_new' ho10 (Kd.R_lt (rR_ HO290))) (below_size hB_))
   replace HO290 := aM_ (Kd.R_elder' (rR_ HO290) (Kd.R_base ho10) hb)
   replace BK284 := aM_ (blk_below (g := gb284) (kR_ BK284) hb)
   replace HB := aM_ (below_step hB_ hb)
   clear hb ho10
   refine hK.out _ _ ⟨(blk_cell BK284.out 0).trans rfl, (blk_cell BK284.out 1).trans rfl, (blk_cell BK284.out 2).trans rfl, (blk_cell BK284.out 3).trans rfl, (blk_cell BK284.out 4).trans rfl, (blk_cell BK284.out 5).trans rfl⟩ (fun hHeld => ?_)
   clear hK K
   refine nm_ 5 ?_
   exact norm_ z5_11_ (hCont (v286, v289) _ ⟨hHeld, (rM_ HO287 (fun _ hk => hk.2)), (rM_ HO290 (fun _ hk => hk.2)), (kR_ BK284), hB_⟩)
 rintro ⟨v286, v289⟩ w11 ⟨hS_, h0_, h1_, h2_, h3_⟩
 have n0_ : Aside0 (Kd.R (Kd.int .i64) 3 w11 w.heap.size (fun k_ => some k_ ≠ (v289 : Value).ownBlock) v286 y285) := ⟨h0_⟩
 have n1_ : Aside0 (Kd.R (Kd.int .i64) 3 w11 w.heap.size (fun k_ => some k_ ≠ (v286 : Value).ownBlock) v289 t288) := ⟨h1_⟩
 have n2_ : Aside0 (w11.heap[gb284]? = some (.cells #[.int .i64 a0_0, .int .i64 a0_1, .int .i64 a0_2, .int .i64 a0_3, .int .i64 a0_4, .bool a0_5] 25 (0, 0))) := ⟨h2_⟩
 have n3_ : Aside0 (Below w.heap.size w w11) := ⟨h3_⟩
 clear BK284
 clear HB
 clear h0_ h1_ h2_ h3_
 have HO287 := n0_
 have HO290 := n1_
 have BK284 := n2_
 have HB := n3_
 clear n0_ n1_ n2_ n3_
 have hHeld : w11.cell? ⟨gb284, 0, none⟩ = some (.int .i64 a0_0) ∧ w11.cell? ⟨gb284, 1, none⟩ = some (.int .i64 a0_1) ∧ w11.cell? ⟨gb284, 2, none⟩ = some (.int .i64 a0_2) ∧ w11.cell? ⟨gb284, 3, none⟩ = some (.int .i64 a0_3) ∧ w11.cell? ⟨gb284, 4, none⟩ = some (.int .i64 a0_4) ∧ w11.cell? ⟨gb284, 5, none⟩ = some (.bool a0_5) := hS_
 obtain ⟨Ao13, co13, eo13⟩ := Kd.R_slice HO290.out
 (first | subst eo13 | (injection eo13 with f1_ f2_ f3_; have f4_ := f1_.symm; have f5_ := f3_.symm; clear f1_ f2_ f3_; subst f4_; subst f5_))
 refine norm_ (a' := ?_) ?_ ?_
 rotate_left
 ·simp only [putAll, Act.put, List.setIfInBounds_toArray, List.set_cons_zero, List.set_cons_succ]
  rfl
 refine on_ 5 8 fun K hK => ?_
 refine Kd.R_append_rows_step (Kd.int .i64) (w0 := w) w.heap.size (by rfl) (.tmp 5) (.tmp 7) 42 3 (.int .i64 0) 8 rfl Tryd.underlying42 info3 rfl (by decide) (by omega) v286 y285 t288 _ _ _ (fun k_ => some k_ ≠ (.slice Ao13 t288.length co13 : Value).ownBlock) (fun _ => False) rfl rfl ?aO ?aR (fun _ _ h => h) (fun _ h => h.elim) ?aF ?aB ?aS ?aL ?_
 (case aR => exact cR_ HO290)
 (case aB => exact hB_)
 (case aF => exact (fun k_ hk => Kd.fresh' (Kd.R_lt (rR_ HO290)) k_ hk))
 (case aO => exact (rR_ HO287))
 (case aS => exact (below_size hB_))
 (case aL => have := LMc3.out; omega)
 intro v292 w12 ho hb hg hat
 rw [← Ny291.out] at ho
 have HO293 := aM_ (ho)
 replace BK284 := aM_ (blk_grown (g := gb284) (kR_ BK284) hg (Kd.R_ne HO287.out BK284.out (by decide)))
 replace HO290 := aM_ (Kd.R_after (ok := (fun _ => True)) (rM_ HO290 (fun _ hk => ⟨trivial, hk⟩)) hg hat)
 replace HB := aM_ (hb)
 clear HO287
 clear ho hb hg hat
 obtain ⟨Ao14, co14, eo14⟩ := Kd.R_slice HO293.out
 (first | subst eo14 | (injection eo14 with f1_ f2_ f3_; have f4_ := f1_.symm; have f5_ := f3_.symm; clear f1_ f2_ f3_; subst f4_; subst f5_))
 refine hK.out _ _ ⟨(blk_cell BK284.out 0).trans rfl, (blk_cell BK284.out 1).trans rfl, (blk_cell BK284.out 2).trans rfl, (blk_cell BK284.out 3).trans rfl, (blk_cell BK284.out 4).trans rfl, (blk_cell BK284.out 5).trans rfl⟩ (fun hHeld => ?_)
 clear hK K
 refine nm_ 8 ?_
 refine on_ 6 9 fun K hK => ?_
 refine gS_ Tryd.func31 #[.slice Ao14 y291.length co14, .int .i64 0, .int .i64 2] ?_
 with_reducible refine (impl_allWithin.calls k _ _ y291 0 2 t294 _ ?side1 ?side2 A4.out).mono ?_
 (case side1 => exact cR_ HO293)
 (case side2 => exact (Kd.R_reads' HO293.out).2.1)
 rintro e w15 ⟨rfl, hb⟩
 refine ⟨_, rfl, ?_⟩
 replace HO290 := aM_ (Kd.R_below (rR_ HO290) hb)
 replace HO293 := aM_ (Kd.R_below (rR_ HO293) hb)
 replace BK284 := aM_ (blk_below (g := gb284) (kR_ BK284) hb)
 replace HB := aM_ (below_step hB_ hb)
 (try clear hb)
 (try clear hb2)
 (try clear hk)
 (try clear hi)
 refine hK.out _ _ ⟨(blk_cell BK284.out 0).trans rfl, (blk_cell BK284.out 1).trans rfl, (blk_cell BK284.out 2).trans rfl, (blk_cell BK284.out 3).trans rfl, (blk_cell BK284.out 4).trans rfl, (blk_cell BK284.out 5).trans rfl⟩ (fun hHeld => ?_)
 clear hK K
 refine nm_ 9 ?_
 refine pu_ 7 10 ?_
 refine dn_ ?_
 go_upto_if 10 with (fail)
 have H := HC5.out
 clear HC5
 by_cases c16 : t294 = true
 rotate_left
 ·replace c16 := Bool.eq_false_iff.mpr c16
  subst c16
  replace H := in_ H (show ¬ (false = true) by decide)
  obtain rfl := Option.some.inj H
  go_wp2
  go_ret
  exact ⟨rT_, hB_⟩
 subst c16
 replace H := ip_ H rfl
 by_cases c17 : a0_5 = true
 rotate_left
 ·replace c17 := Bool.eq_false_iff.mpr c17
  subst c17
  replace H := in_ H (show ¬ (false = true) by decide)
  obtain rfl := Option.some.inj H
  have hz21 := cf6_ BK284.out
  go_wp2
  go_ret
  exact ⟨rT_, hB_⟩
 subst c17
 replace H := ip_ H rfl
 replace H := ob_ H; obtain ⟨t295, A18, H⟩ := H; try dsimp only at H
 obtain rfl := Option.some.inj H
 have hz19 := cf6_ BK284.out
 clear BK284
 go_wp2_with (first | (go_at_call 32; (with_reducible refine (impl_Shape_maySpread.calls a0_0 a0_1 a0_2 a0_3 a0_4 true t295 _ A18.out).mono ?_); rintro e w20 ⟨rfl, hb⟩; replace HO290 := aM_ (Kd.R_below (rR_ HO290) hb); replace HO293 := aM_ (Kd.R_below (rR_ HO293) hb); replace HB := aM_ (below_step hB_ hb); (try clear hb)))
 go_ret
 exact ⟨rT_, hB_⟩

end Go.Proofs.YtbfkpgmdbafmhaaDoor.PFnShapes
