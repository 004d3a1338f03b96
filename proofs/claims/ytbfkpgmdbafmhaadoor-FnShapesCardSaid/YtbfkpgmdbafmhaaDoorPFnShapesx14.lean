/- Printed for this claim: functions of the program as Lean functions, and that the calls answer so. -/
import Derived.Test.YtbfkpgmdbafmhaaDoorPFnShapesx0
import Derived.Test.YtbfkpgmdbafmhaaDoorPFnShapesx3
import Derived.Test.YtbfkpgmdbafmhaaDoorPFnShapesx4
import Derived.Test.YtbfkpgmdbafmhaaDoorPFnShapesx5
import Derived.Test.YtbfkpgmdbafmhaaDoorPFnShapesx6
import Derived.Test.YtbfkpgmdbafmhaaDoorPFnShapesx12
import Derived.Test.YtbfkpgmdbafmhaaDoorPFnShapesx13
import Derived.Test.YtbfkpgmdbafmhaaDoorPFnShapesxD0
import Derived.Test.YtbfkpgmdbafmhaaDoorPFnShapesxD1
namespace Go.Proofs.YtbfkpgmdbafmhaaDoor.PFnShapes
open Go.RowKit Go.Proofs.YtbfkpgmdbafmhaaDoorW.PrintWords Go.Proofs.YtbfkpgmdbafmhaaDoorW.PrintLast Go.Proofs.YtbfkpgmdbafmhaaDoorW.PrintMore
theorem z14_0_ {p : Prop} (h : p := by repeat (first | (with_reducible first | exact HI560.out | apply IsS59.alloc | apply IsS59.drewN | apply IsS59.drew | apply IsS59.set_1 | apply IsS59.set_2) | exact HI560.out)) : p := h
theorem z14_1_ {p : Prop} (h : p := by repeat (first | (with_reducible first | exact HB.out | apply lA_ | apply lN_ | apply lD_ | refine below_set ?_ (IsS59.ge HI560.out)) | exact HB.out)) : p := h
theorem z14_2_ {p : Prop} (h : p := by first | rfl | (simp; done) | (simp [*]; done)) : p := h
theorem z14_3_ {p : Prop} (h : p := by (with_reducible repeat (first | apply kN_ | apply kD_ | apply kA_)); refine blk_put (cs := #[.int .i64 0, .int .i64 0, .int .i64 0, .int .i64 0, .int .i64 0, .bool false]) ?_ 5 _ rfl; (with_reducible repeat (first | apply kN_ | apply kD_ | apply kA_)); refine blk_put (cs := #[.int .i64 0, .int .i64 0, .int .i64 0, .int .i64 0, .int .i64 0, .bool false]) ?_ 4 _ rfl; (with_reducible repeat (first | apply kN_ | apply kD_ | apply kA_)); refine blk_put (cs := #[.int .i64 0, .int .i64 0, .int .i64 0, .int .i64 0, .int .i64 0, .bool false]) ?_ 3 _ rfl; (with_reducible repeat (first | apply kN_ | apply kD_ | apply kA_)); refine blk_put (cs := #[.int .i64 0, .int .i64 0, .int .i64 0, .int .i64 0, .int .i64 0, .bool false]) ?_ 2 _ rfl; (with_reducible repeat (first | apply kN_ | apply kD_ | apply kA_)); refine blk_put (cs := #[.int .i64 0, .int .i64 0, .int .i64 0, .int .i64 0, .int .i64 0, .bool false]) ?_ 1 _ rfl; (with_reducible repeat (first | apply kN_ | apply kD_ | apply kA_)); refine blk_put (cs := #[.int .i64 0, .int .i64 0, .int .i64 0, .int .i64 0, .int .i64 0, .bool false]) ?_ 0 _ rfl; (with_reducible repeat (first | apply kN_ | apply kD_ | apply kA_)); exact BK582.out) : p := h
theorem z14_4_ {p : Prop} (h : p := by (with_reducible repeat (first | apply kN_ | apply kD_ | apply kA_)); refine blk_put (cs := #[.int .i64 x585000_1, .int .i64 x585001_1, .int .i64 x585002_1, .int .i64 x585003_1, .int .i64 x585004_1, .bool x585005_1]) ?_ 5 _ rfl; (with_reducible repeat (first | apply kN_ | apply kD_ | apply kA_)); exact BK584.out) : p := h
set_option maxHeartbeats 8000000
set_option maxRecDepth 100000
attribute [local go_sem] max2_int min2_int max_two min_two max_three min_three max_four min_four isSome_setCell   -- for this text's walks alone
set_option linter.unusedVariables false
set_option linter.unusedSimpArgs false

/-! ### spec_DrawParseShape: function 17 -/
theorem spec_DrawParseShape.calls (k : Nat) (A0 : Option Addr) (c0 : Nat) (l0 : List Int) (r : ByteArray) (w : World) (hr0 : Kd.C (Kd.int .u8) w A0 l0.length l0) (hc0 : l0.length ≤ c0) (h : spec_DrawParseShape.f k l0 = some r) :
 Calls Tryd.prog 17 #[.slice A0 l0.length c0] w fun e w' => e = .returned (.string r) ∧ Below w.heap.size w w' := by
 have hu59 := Tryd.underlying59
 have HR0 := Aside0.mk hr0
 have HC0 := Aside0.mk hc0
 clear hr0 hc0
 have HB := Aside0.mk (Below.refl w.heap.size w)
 have H : ((spec_l1Cur_shape.f k l0 0 0).bind fun bt561 => ((spec_shText.f k bt561.1 bt561.2.1 bt561.2.2.1 bt561.2.2.2.1 bt561.2.2.2.2.1 bt561.2.2.2.2.2.1).bind fun t569 => ((spec_l1Cur_pick.f l0 bt561.2.2.2.2.2.2.1 bt561.2.2.2.2.2.2.2 5).bind fun bt570 => (if bt570.1 = 0 then (spec_DrawParseShape.j0 k t569 bt570.1 (bt570.1 == 0) l0 bt570.2.1 bt570.2.2) else (spec_DrawParseShape.j0 k t569 bt570.1 (bt570.1 == 1) l0 bt570.2.1 bt570.2.2))))) = some r := h
 clear h
 replace H := ob_ H; obtain ⟨⟨t561, t562, t563, t564, t565, t566, t567, t568⟩, A2, H⟩ := H; try dsimp only at H
 replace H := ob_ H; obtain ⟨t569, A3, H⟩ := H; try dsimp only at H
 replace H := ob_ H; obtain ⟨⟨t570, t571, t572⟩, A4, H⟩ := H; try dsimp only at H
 have HC5 := Aside0.mk H
 clear H
 go_enter Tryd.func17, Tryd.ntmps17
 go_upto_if 13 with (first | ((with_reducible refine gate_dst (N := 7) rfl ?_); refine bx_ 7 #[.slice A0 l0.length c0, .int .i64 0, .int .u64 0] 59 fun gb560 hg w6 hbox hb => ?_; have HI560 := aM_ ((show IsS59 w w6 gb560 l0 0 0 from ⟨A0, c0, hbox, (by rw [hg]; exact (below_size hB_) : w.heap.size ≤ gb560), HR0.out⟩)); replace HB := aM_ (below_step hB_ hb); clear hb hbox hg) | ((with_reducible refine gC_ 36 ?_); refine gM_ (some 9) Tryd.func36 #[.pointer (some ⟨gb560, 0, none⟩)] ?_; (with_reducible refine (spec_l1Cur_shape.calls k gb560 l0 0 0 t561 t562 t563 t564 t565 t566 t567 t568 w _ ?side1 ?side2 A2.out).mono ?_); (case side1 => exact z14_0_); (case side2 => exact z14_1_); rintro e w7 ⟨rfl, hi, hb, hk⟩; refine ⟨_, rfl, ?_⟩; replace HB := aM_ (hb); replace HI560 := aM_ (hi); (try clear hb); (try clear hk); (try clear hi)) | ((with_reducible refine gC_ 35 ?_); refine gM_ (some 10) Tryd.func35 #[.agg #[.int .i64 t561, .int .i64 t562, .int .i64 t563, .int .i64 t564, .int .i64 t565, .bool t566]] ?_; (with_reducible refine (spec_shText.calls k t561 t562 t563 t564 t565 t566 t569 _ A3.out).mono ?_); rintro e w8 ⟨rfl, hb⟩; refine ⟨_, rfl, ?_⟩; replace HB := aM_ (below_step z14_1_ hb); replace HI560 := aM_ (IsS59.below z14_0_ hb); (try clear hb); (try clear hk); (try clear hi)) | ((with_reducible refine gC_ 37 ?_); refine gM_ (some 12) Tryd.func37 #[.pointer (some ⟨gb560, 0, none⟩), .int .i64 5] ?_; (with_reducible refine (spec_l1Cur_pick.calls gb560 l0 t567 t568 5 t570 t571 t572 w _ ?side1 ?side2 A4.out).mono ?_); (case side1 => exact z14_0_); (case side2 => exact z14_1_); rintro e w9 ⟨rfl, hi, hb, hk⟩; refine ⟨_, rfl, ?_⟩; replace HB := aM_ (hb); replace HI560 := aM_ (hi); (try clear hb); (try clear hk); (try clear hi)))
 (try simp only [Act.put, List.setIfInBounds_toArray, List.set_cons_zero, List.set_cons_succ])
 go_cut [13] (fun v13 wc => ∃ (kq : Nat) (x13_4 : Bool), v13 = .bool x13_4 ∧ Aside0 (spec_DrawParseShape.j0 kq t569 t570 x13_4 l0 t571 t572 = some r) ∧ Aside0 (kq ≤ k) ∧ Aside0 (IsS59 w wc gb560 l0 t571 t572) ∧ Aside0 (Below w.heap.size w wc))
 case first =>
  have H := HC5.out
  clear HC5
  by_cases c10 : t570 = 0
  rotate_left
  ·rw [if_neg c10] at H
   have c10b0 : (t570 == 0) = false := beq_eq_false_iff_ne.mpr c10
   have c10b1 : (t570 != 0) = true := bne_iff_ne.mpr c10
   (first | rw [c10b0] | (simp only [i64_w, i32_w]; rw [c10b0]) | skip)
   have H' := Aside0.mk H
   clear H
   go_wp2
   go_meet
   case rel => exact ⟨_, ((t570 == 1)), z14_2_, H', ⟨oR_⟩, ⟨z14_0_⟩, ⟨z14_1_⟩⟩
  rw [if_pos c10] at H
  have c10b0 : (t570 == 0) = true := beq_iff_eq.mpr c10
  have c10b1 : (t570 != 0) = false := bne_eq_false_iff_eq.mpr c10
  clear c10
  (first | rw [c10b0] | (simp only [i64_w, i32_w]; rw [c10b0]) | skip)
  have H' := Aside0.mk H
  clear H
  go_wp2
  go_meet
  case rel => exact ⟨_, ((t570 == 0)), z14_2_, H', ⟨oR_⟩, ⟨z14_0_⟩, ⟨z14_1_⟩⟩
 case rest =>
  clear HC5
  obtain ⟨kq, x13_4, rfl, HA, HJ4, HI560, HB⟩ := hcut
  cases kq with
  | zero => exact absurd HA.out (by simp [spec_DrawParseShape.j0])
  | succ kj4 =>
   have H := HA.out
   clear HA
   simp only [spec_DrawParseShape.j0] at H
   by_cases c11 : x13_4 = true
   ·subst c11
    replace H := ip_ H rfl
    replace H := ob_ H; obtain ⟨⟨t573, t574, t575⟩, A12, H⟩ := H; try dsimp only at H
    obtain rfl := Option.some.inj H
    go_wp2_with (first | ((with_reducible refine gC_ 38 ?_); refine gM_ (some 18) Tryd.func38 #[.pointer (some ⟨gb560, 0, none⟩), .string t569, .string (⟨#[48, 49, 50, 51, 115]⟩ : ByteArray)] ?_; (with_reducible refine (spec_l1Cur_spoilt.calls kj4 gb560 l0 t571 t572 t569 (⟨#[48, 49, 50, 51, 115]⟩ : ByteArray) t573 t574 t575 w _ ?side1 ?side2 A12.out).mono ?_); (case side1 => exact z14_0_); (case side2 => exact z14_1_); rintro e w13 ⟨rfl, hi, hb, hk⟩; refine ⟨_, rfl, ?_⟩; replace HB := aM_ (hb); replace HI560 := aM_ (hi); (try clear hb); (try clear hk); (try clear hi)))
    go_ret
    exact ⟨rT_, z14_1_⟩
   replace c11 := Bool.eq_false_iff.mpr c11
   subst c11
   replace H := in_ H (show ¬ (false = true) by decide)
   by_cases c14 : t570 = 2
   rotate_left
   ·rw [if_neg c14] at H
    have c14b0 : (t570 == 2) = false := beq_eq_false_iff_ne.mpr c14
    have c14b1 : (t570 != 2) = true := bne_iff_ne.mpr c14
    obtain rfl := Option.some.inj H
    go_wp2
    go_ret
    exact ⟨rT_, z14_1_⟩
   rw [if_pos c14] at H
   have c14b0 : (t570 == 2) = true := beq_iff_eq.mpr c14
   have c14b1 : (t570 != 2) = false := bne_eq_false_iff_eq.mpr c14
   clear c14
   obtain ⟨y576, hy576⟩ : ∃ y_ : List ByteArray, y_ = (([(⟨#[]⟩ : ByteArray), (⟨#[48, 48, 48, 48, 48]⟩ : ByteArray), (⟨#[48, 48, 48, 48, 48, 115]⟩ : ByteArray), (⟨#[48, 50, 48, 50, 48, 115]⟩ : ByteArray), (⟨#[48, 48, 48, 48]⟩ : ByteArray), (⟨#[48, 48, 48, 48, 48, 48]⟩ : ByteArray), (⟨#[51, 48, 48, 48, 48]⟩ : ByteArray), (⟨#[48, 48, 48, 48, 51]⟩ : ByteArray), (⟨#[48, 48, 48, 48, 48, 83]⟩ : ByteArray)] : List ByteArray)) := ⟨_, rfl⟩
   rw [← hy576] at H
   have Ny576 := Aside0.mk hy576; clear hy576
   replace H := ob_ H; obtain ⟨⟨t579, t580, t581⟩, A15, H⟩ := H; try dsimp only at H
   obtain rfl := Option.some.inj H
   go_wp2_with (first | ((with_reducible refine gate_dst (N := 22) rfl ?_); refine rl_ Kd.string 9 22 ([(⟨#[]⟩ : ByteArray), (⟨#[48, 48, 48, 48, 48]⟩ : ByteArray), (⟨#[48, 48, 48, 48, 48, 115]⟩ : ByteArray), (⟨#[48, 50, 48, 50, 48, 115]⟩ : ByteArray), (⟨#[48, 48, 48, 48]⟩ : ByteArray), (⟨#[48, 48, 48, 48, 48, 48]⟩ : ByteArray), (⟨#[51, 48, 48, 48, 48]⟩ : ByteArray), (⟨#[48, 48, 48, 48, 51]⟩ : ByteArray), (⟨#[48, 48, 48, 48, 48, 83]⟩ : ByteArray)] : List ByteArray) [.string (⟨#[]⟩ : ByteArray), .string (⟨#[48, 48, 48, 48, 48]⟩ : ByteArray), .string (⟨#[48, 48, 48, 48, 48, 115]⟩ : ByteArray), .string (⟨#[48, 50, 48, 50, 48, 115]⟩ : ByteArray), .string (⟨#[48, 48, 48, 48]⟩ : ByteArray), .string (⟨#[48, 48, 48, 48, 48, 48]⟩ : ByteArray), .string (⟨#[51, 48, 48, 48, 48]⟩ : ByteArray), .string (⟨#[48, 48, 48, 48, 51]⟩ : ByteArray), .string (⟨#[48, 48, 48, 48, 48, 83]⟩ : ByteArray)] (Reps.one (show Kd.M Kd.string _ _ _ (⟨#[]⟩ : ByteArray) [.string (⟨#[]⟩ : ByteArray)] from rfl) (Reps.one (show Kd.M Kd.string _ _ _ (⟨#[48, 48, 48, 48, 48]⟩ : ByteArray) [.string (⟨#[48, 48, 48, 48, 48]⟩ : ByteArray)] from rfl) (Reps.one (show Kd.M Kd.string _ _ _ (⟨#[48, 48, 48, 48, 48, 115]⟩ : ByteArray) [.string (⟨#[48, 48, 48, 48, 48, 115]⟩ : ByteArray)] from rfl) (Reps.one (show Kd.M Kd.string _ _ _ (⟨#[48, 50, 48, 50, 48, 115]⟩ : ByteArray) [.string (⟨#[48, 50, 48, 50, 48, 115]⟩ : ByteArray)] from rfl) (Reps.one (show Kd.M Kd.string _ _ _ (⟨#[48, 48, 48, 48]⟩ : ByteArray) [.string (⟨#[48, 48, 48, 48]⟩ : ByteArray)] from rfl) (Reps.one (show Kd.M Kd.string _ _ _ (⟨#[48, 48, 48, 48, 48, 48]⟩ : ByteArray) [.string (⟨#[48, 48, 48, 48, 48, 48]⟩ : ByteArray)] from rfl) (Reps.one (show Kd.M Kd.string _ _ _ (⟨#[51, 48, 48, 48, 48]⟩ : ByteArray) [.string (⟨#[51, 48, 48, 48, 48]⟩ : ByteArray)] from rfl) (Reps.one (show Kd.M Kd.string _ _ _ (⟨#[48, 48, 48, 48, 51]⟩ : ByteArray) [.string (⟨#[48, 48, 48, 48, 51]⟩ : ByteArray)] from rfl) (Reps.one (show Kd.M Kd.string _ _ _ (⟨#[48, 48, 48, 48, 48, 83]⟩ : ByteArray) [.string (⟨#[48, 48, 48, 48, 48, 83]⟩ : ByteArray)] from rfl) (Reps.none _ _)))))))))) ?_; intro v577 w16 ho17 hb hg_ hnew_; clear hg_ hnew_; (first | rw [← Ny576.out] at ho17 | (simp only [Int.reduceToNat] at ho17; rw [← Ny576.out] at ho17)); have HO578 := aM_ (Kd.R_lower ho17 (below_size z14_1_)); replace HB := aM_ (below_step z14_1_ hb); replace HI560 := aM_ (IsS59.below z14_0_ hb); clear hb ho17; obtain ⟨Ao18, co18, eo18⟩ := Kd.R_slice HO578.out; subst eo18) | ((with_reducible refine gC_ 39 ?_); refine gM_ (some 23) Tryd.func39 #[.pointer (some ⟨gb560, 0, none⟩), .slice Ao18 y576.length co18] ?_; (with_reducible refine (spec_l1Cur_of.calls gb560 l0 t571 t572 _ _ y576 t579 t580 t581 w _ ?side1 ?side2 ?side3 ?side4 ?side5 A15.out).mono ?_); (case side1 => exact z14_0_); (case side2 => exact z14_1_); (case side3 => exact cR_ HO578); (case side4 => exact (Kd.R_reads' HO578.out).2.1); (case side5 => exact far_slice (IsS59.own_ne HI560.out HO578.out (by decide))); rintro e w19 ⟨rfl, hi, hb, hk⟩; refine ⟨_, rfl, ?_⟩; replace HO578 := aM_ (Kd.R_mono (Kd.R_keep (IsS59.apart (show IsS59 w _ gb560 l0 t571 t572 from by repeat (first | (with_reducible first | exact HI560.out | apply IsS59.alloc | apply IsS59.drewN | apply IsS59.drew | apply IsS59.set_1 | apply IsS59.set_2) | exact HI560.out)) (rR_ HO578) (by decide)) hk (fun _ h => h.2)) (fun _ h => h.1)); replace HB := aM_ (hb); replace HI560 := aM_ (hi); (try clear hb); (try clear hk); (try clear hi)))
   go_ret
   exact ⟨rT_, z14_1_⟩

/-! ### impl_ParseShape: function 18 -/
def impl_ParseShape.T7 : Bool × List (List Nat × List Nat) := (true, [([], []), ([], []), ([], []), ([], []), ([2, 3], [2, 3]), ([4], [4]), ([5], [5]), ([0, 1, 6], [0, 1, 6]), ([7, 7, 0, 1, 2, 3, 4, 5, 6, 7], [7])])
def impl_ParseShape.B7 : List Nat := [0, 0, 0, 0, 12, 28, 60, 127, 255]
theorem impl_ParseShape.tab7 : rtab .any (opsOf Tryd.f18 7) = impl_ParseShape.T7 := by kernel_rfl
theorem impl_ParseShape.bits7 : waitsOk impl_ParseShape.T7.2 impl_ParseShape.B7 = true := by kernel_rfl
theorem impl_ParseShape.calls (k : Nat) (a0 : ByteArray) (r1 : Int) (r2 : Int) (r3 : Int) (r4 : Int) (r5 : Int) (r6 : Bool) (r7 : Bool) (w : World) (h : impl_ParseShape.f k a0 = some (r1, r2, r3, r4, r5, r6, r7)) :
 Calls Tryd.prog 18 #[.string a0] w fun e w' => e = .returned (.tuple #[.agg #[.int .i64 r1, .int .i64 r2, .int .i64 r3, .int .i64 r4, .int .i64 r5, .bool r6], .bool r7]) ∧ Below w.heap.size w w' := by
 have hu25 := Tryd.underlying25
 have HB := Aside0.mk (Below.refl w.heap.size w)
 have H : ((impl_within.f (a0.size : Int) 5 6).bind fun t583 => (if t583 = true then (impl_ParseShape.l0 k a0 0 0 0 0 0 0 false) else (some (0, 0, 0, 0, 0, false, false)))) = some (r1, r2, r3, r4, r5, r6, r7) := h
 clear h
 replace H := ob_ H; obtain ⟨t583, A2, H⟩ := H; try dsimp only at H
 have HC3 := Aside0.mk H
 clear H
 go_enter Tryd.func18, Tryd.ntmps18
 go_upto_if 9 with (first | ((with_reducible refine gate_dst (N := 2) rfl ?_); refine bx_ 2 #[.int .i64 0, .int .i64 0, .int .i64 0, .int .i64 0, .int .i64 0, .bool false] 25 fun gb582 hg w4 hbox hb => ?_; have BK582 := aM_ (hbox); have GW582 := aM_ (gw_ w hg); have GE582 := aM_ (gw_ w hg); replace HB := aM_ (below_step hB_ hb); clear hb hbox hg) | ((with_reducible refine gC_ 40 ?_); refine gM_ (some 8) Tryd.func40 #[.int .i64 (a0.size : Int), .int .i64 5, .int .i64 6] ?_; (with_reducible refine (impl_within.calls (a0.size : Int) 5 6 t583 _ A2.out).mono ?_); rintro e w' ⟨rfl, ⟨nd, rfl⟩⟩; refine ⟨_, rfl, ?_⟩))
 (try simp only [Act.put, List.setIfInBounds_toArray, List.set_cons_zero, List.set_cons_succ])
 have H := HC3.out
 clear HC3
 by_cases c5 : t583 = true
 rotate_left
 ·replace c5 := Bool.eq_false_iff.mpr c5
  subst c5
  replace H := in_ H (show ¬ (false = true) by decide)
  simp only [Option.some.injEq, Prod.mk.injEq] at H
  obtain ⟨rfl, rfl, rfl, rfl, rfl, rfl, rfl⟩ := H
  have hz38 := cf6_ BK582.out
  go_wp2
  refine bodyPost_ret (results_ct rfl _ _ gb582 25 #[.int .i64 0, .int .i64 0, .int .i64 0, .int .i64 0, .int .i64 0, .bool false] (0, 0) _ rfl z14_3_ Tryd.underlying25 rfl (by kernel_rfl)) rfl ?_
  exact ⟨rT_, hB_⟩
 subst c5
 replace H := ip_ H rfl
 have H' := Aside0.mk H
 clear H
 go_wp2_with (first | ((with_reducible refine gate_dst (N := 4) rfl ?_); refine bx_ 4 #[.int .i64 0, .int .i64 0, .int .i64 0, .int .i64 0, .int .i64 0, .bool false] 25 fun gb584 hg w6 hbox hb => ?_; have BK584 := aM_ (hbox); have GW584 := aM_ (gw_ w hg); have GE584 := aM_ (gw_ w hg); have NB582_584 := aM_ (nR_ BK582 hg); have NB584_582 := aM_ (mR_ BK582 hg); replace BK582 := aM_ (blk_below (g := gb582) (kR_ BK582) hb); replace HB := aM_ (below_step hB_ hb); clear hb hbox hg))
 try simp only [Act.put, List.setIfInBounds_toArray, List.set_cons_zero, List.set_cons_succ]
 go_loopg [11] k (fun kq v11 w' => ∃ (x11_1 : Int) (x585000_1 : Int) (x585001_1 : Int) (x585002_1 : Int) (x585003_1 : Int) (x585004_1 : Int) (x585005_1 : Bool), v11 = .int .i64 x11_1 ∧ Aside0 (impl_ParseShape.l0 kq a0 x11_1 x585000_1 x585001_1 x585002_1 x585003_1 x585004_1 x585005_1 = some (r1, r2, r3, r4, r5, r6, r7)) ∧ Aside0 (kq ≤ k) ∧ Aside0 (w'.heap[gb582]? = some (.cells #[.int .i64 0, .int .i64 0, .int .i64 0, .int .i64 0, .int .i64 0, .bool false] 25 (0, 0))) ∧ Aside0 (w'.heap[gb584]? = some (.cells #[.int .i64 x585000_1, .int .i64 x585001_1, .int .i64 x585002_1, .int .i64 x585003_1, .int .i64 x585004_1, .bool x585005_1] 25 (0, 0))) ∧ Aside0 (Below w.heap.size w w'))
 case atStart => exact ⟨(0), (0), (0), (0), (0), (0), (false), z14_2_, H', ⟨Nat.le_refl _⟩, ⟨kP_⟩, ⟨kP_⟩, ⟨hB_⟩⟩
 case round =>
  clear H'
  (try clear c5)
  obtain ⟨x11_1, x585000_1, x585001_1, x585002_1, x585003_1, x585004_1, x585005_1, rfl, HA, HK1, BK582, BK584, HB⟩ := hrel
  cases gk with
  | zero => exact absurd HA.out (by simp [impl_ParseShape.l0])
  | succ k1 =>
   have H := HA.out
   clear HA
   simp only [impl_ParseShape.l0] at H
   replace H := iF_ H; obtain ⟨c7b0, H⟩ | ⟨c7b0, H⟩ := H
   ·(first | rw [c7b0] | (simp only [i64_w, i32_w]; rw [c7b0]) | skip)
    replace H := ob_ H; obtain ⟨t591, A20, H⟩ := H; try dsimp only at H
    by_cases c21 : t591 = true
    rotate_left
    ·replace c21 := Bool.eq_false_iff.mpr c21
     subst c21
     replace H := in_ H (show ¬ (false = true) by decide)
     simp only [Option.some.injEq, Prod.mk.injEq] at H
     obtain ⟨rfl, rfl, rfl, rfl, rfl, rfl, rfl⟩ := H
     have hnb34 := NB584_582.out
     have hnc34 := NB582_584.out
     have hz35 := cf6_ BK584.out
     go_wp2_with (first | ((with_reducible refine gC_ 13 ?_); refine gM_ (some 28) Tryd.func13 #[.agg #[.int .i64 x585000_1, .int .i64 x585001_1, .int .i64 x585002_1, .int .i64 x585003_1, .int .i64 x585004_1, .bool ((a0.size : Int) == 6)]] ?_; (with_reducible refine (impl_IsShape.calls k1 x585000_1 x585001_1 x585002_1 x585003_1 x585004_1 ((a0.size : Int) == 6) false _ A20.out).mono ?_); rintro e w36 ⟨rfl, hb⟩; refine ⟨_, rfl, ?_⟩; replace BK582 := aM_ (blk_below (g := gb582) (kR_ BK582) hb); replace BK584 := aM_ (blk_below (g := gb584) (o := .cells #[.int .i64 x585000_1, .int .i64 x585001_1, .int .i64 x585002_1, .int .i64 x585003_1, .int .i64 x585004_1, .bool ((a0.size : Int) == 6)] 25 (0, 0)) z14_4_ hb); replace HB := aM_ (below_step hB_ hb); (try clear hb); clear BK584; have hz37 := cf6_ BK582.out))
     refine bodyPost_ret (results_ct rfl _ _ gb582 25 #[.int .i64 0, .int .i64 0, .int .i64 0, .int .i64 0, .int .i64 0, .bool false] (0, 0) _ rfl z14_3_ Tryd.underlying25 rfl (by kernel_rfl)) rfl ?_
     exact ⟨rT_, hB_⟩
    subst c21
    replace H := ip_ H rfl
    replace H := ob_ H; obtain ⟨t592, A22, H⟩ := H; try dsimp only at H
    have HC23 := Aside0.mk H
    clear H
    have hnb24 := NB584_582.out
    have hnc24 := NB582_584.out
    have hz25 := cf6_ BK584.out
    go_upto_if 35 with (first | ((with_reducible refine gC_ 13 ?_); refine gM_ (some 28) Tryd.func13 #[.agg #[.int .i64 x585000_1, .int .i64 x585001_1, .int .i64 x585002_1, .int .i64 x585003_1, .int .i64 x585004_1, .bool ((a0.size : Int) == 6)]] ?_; (with_reducible refine (impl_IsShape.calls k1 x585000_1 x585001_1 x585002_1 x585003_1 x585004_1 ((a0.size : Int) == 6) true _ A20.out).mono ?_); rintro e w26 ⟨rfl, hb⟩; refine ⟨_, rfl, ?_⟩; replace BK582 := aM_ (blk_below (g := gb582) (kR_ BK582) hb); replace BK584 := aM_ (blk_below (g := gb584) (o := .cells #[.int .i64 x585000_1, .int .i64 x585001_1, .int .i64 x585002_1, .int .i64 x585003_1, .int .i64 x585004_1, .bool ((a0.size : Int) == 6)] 25 (0, 0)) z14_4_ hb); replace HB := aM_ (below_step hB_ hb); (try clear hb); have hz27 := cf6_ BK584.out) | (go_at_call 34; (with_reducible refine (impl_Shape_text.calls k1 x585000_1 x585001_1 x585002_1 x585003_1 x585004_1 ((a0.size : Int) == 6) t592 _ A22.out).mono ?_); rintro e w28 ⟨rfl, hb⟩; replace BK582 := aM_ (blk_below (g := gb582) (kR_ BK582) hb); replace BK584 := aM_ (blk_below (g := gb584) (kR_ BK584) hb); replace HB := aM_ (below_step hB_ hb); (try clear hb)))
    (try simp only [Act.put, List.setIfInBounds_toArray, List.set_cons_zero, List.set_cons_succ])
    have H := HC23.out
    clear HC23
    by_cases c29 : t592.toList = a0.toList
    rotate_left
    ·rw [if_neg c29] at H
     have c29b0 : (t592.toList == a0.toList) = false := beq_eq_false_iff_ne.mpr c29
     have c29b1 : (t592.toList != a0.toList) = true := bne_iff_ne.mpr c29
     (first | rw [c29b0] | (simp only [i64_w, i32_w]; rw [c29b0]) | skip)
     simp only [Option.some.injEq, Prod.mk.injEq] at H
     obtain ⟨rfl, rfl, rfl, rfl, rfl, rfl, rfl⟩ := H
     clear BK584
     have hz33 := cf6_ BK582.out
     go_wp2
     refine bodyPost_ret (results_ct rfl _ _ gb582 25 #[.int .i64 0, .int .i64 0, .int .i64 0, .int .i64 0, .int .i64 0, .bool false] (0, 0) _ rfl z14_3_ Tryd.underlying25 rfl (by kernel_rfl)) rfl ?_
     exact ⟨rT_, hB_⟩
    rw [if_pos c29] at H
    have c29b0 : (t592.toList == a0.toList) = true := beq_iff_eq.mpr c29
    have c29b1 : (t592.toList != a0.toList) = false := bne_eq_false_iff_eq.mpr c29
    clear c29
    (first | rw [c29b0] | (simp only [i64_w, i32_w]; rw [c29b0]) | skip)
    simp only [Option.some.injEq, Prod.mk.injEq] at H
    obtain ⟨rfl, rfl, rfl, rfl, rfl, rfl, rfl⟩ := H
    have hnb30 := NB584_582.out
    have hnc30 := NB582_584.out
    have hz31 := cf6_ BK584.out
    clear BK584
    have hz32 := cf6_ BK582.out
    go_wp2
    refine bodyPost_ret (results_ct rfl _ _ gb582 25 #[.int .i64 x585000_1, .int .i64 x585001_1, .int .i64 x585002_1, .int .i64 x585003_1, .int .i64 x585004_1, .bool ((a0.size : Int) == 6)] (0, 0) _ rfl (by (with_reducible repeat (first | apply kN_ | apply kD_ | apply kA_)); refine blk_put (cs := #[.int .i64 x585000_1, .int .i64 x585001_1, .int .i64 x585002_1, .int .i64 x585003_1, .int .i64 x585004_1, .bool false]) ?_ 5 _ rfl; (with_reducible repeat (first | apply kN_ | apply kD_ | apply kA_)); refine blk_put (cs := #[.int .i64 x585000_1, .int .i64 x585001_1, .int .i64 x585002_1, .int .i64 x585003_1, .int .i64 0, .bool false]) ?_ 4 _ rfl; (with_reducible repeat (first | apply kN_ | apply kD_ | apply kA_)); refine blk_put (cs := #[.int .i64 x585000_1, .int .i64 x585001_1, .int .i64 x585002_1, .int .i64 0, .int .i64 0, .bool false]) ?_ 3 _ rfl; (with_reducible repeat (first | apply kN_ | apply kD_ | apply kA_)); refine blk_put (cs := #[.int .i64 x585000_1, .int .i64 x585001_1, .int .i64 0, .int .i64 0, .int .i64 0, .bool false]) ?_ 2 _ rfl; (with_reducible repeat (first | apply kN_ | apply kD_ | apply kA_)); refine blk_put (cs := #[.int .i64 x585000_1, .int .i64 0, .int .i64 0, .int .i64 0, .int .i64 0, .bool false]) ?_ 1 _ rfl; (with_reducible repeat (first | apply kN_ | apply kD_ | apply kA_)); refine blk_put (cs := #[.int .i64 0, .int .i64 0, .int .i64 0, .int .i64 0, .int .i64 0, .bool false]) ?_ 0 _ rfl; (with_reducible repeat (first | apply kN_ | apply kD_ | apply kA_)); exact BK582.out) Tryd.underlying25 rfl (by kernel_rfl)) rfl ?_
    exact ⟨rT_, hB_⟩
   (first | rw [c7b0] | (simp only [i64_w, i32_w]; rw [c7b0]) | skip)
   replace H := ig_ H; obtain ⟨c8b0, H⟩ := H
   replace H := ig_ H; obtain ⟨c9b0, H⟩ := H
   replace H := ob_ H; obtain ⟨⟨t585, t586, t587, t588, t589, t590⟩, A11, H⟩ := H; try dsimp only at H
   have H' := Aside0.mk H
   clear H
   try go_wp2
   replace BK582 := aM_ (blk_drew BK582.out)
   replace BK584 := aM_ (blk_drew BK584.out)
   replace HB := aM_ (below_drew1 HB.out)
   have p10 : 0 ≤ (x11_1 : Int) := ode_
   have q10 : x11_1 < (a0.size : Int) := ode_
   have hx10 := bt_at a0 x11_1
   replace p10 := eq_true p10
   replace q10 := eq_true q10
   refine st_ 9 (fun w' => w'.cell? ⟨gb584, 0, none⟩ = some (.int .i64 x585000_1) ∧ w'.cell? ⟨gb584, 1, none⟩ = some (.int .i64 x585001_1) ∧ w'.cell? ⟨gb584, 2, none⟩ = some (.int .i64 x585002_1) ∧ w'.cell? ⟨gb584, 3, none⟩ = some (.int .i64 x585003_1) ∧ w'.cell? ⟨gb584, 4, none⟩ = some (.int .i64 x585004_1) ∧ w'.cell? ⟨gb584, 5, none⟩ = some (.bool x585005_1)) [8] impl_ParseShape.tab7 impl_ParseShape.bits7 ⟨(blk_cell BK584.out 0).trans rfl, (blk_cell BK584.out 1).trans rfl, (blk_cell BK584.out 2).trans rfl, (blk_cell BK584.out 3).trans rfl, (blk_cell BK584.out 4).trans rfl, (blk_cell BK584.out 5).trans rfl⟩ fun hHeld HT_ HW_ => ?_
   generalize wr.drew = w12 at BK582 BK584 HB hHeld ⊢
   refine pu_ 1 15 ?_
   refine pu_ 2 16 ?_
   refine pu_ 3 17 ?_
   refine tk_ 0 14 ?_
   refine tk_ 4 18 ?_
   refine pu_ 5 19 ?_
   refine pu_ 6 20 ?_
   refine on_ 7 21 fun K hK => ?_
   refine gS_ Tryd.func22 #[.agg #[.int .i64 x585000_1, .int .i64 x585001_1, .int .i64 x585002_1, .int .i64 x585003_1, .int .i64 x585004_1, .bool x585005_1], .int .i64 x11_1, .int .i64 (wrap64 ((wrap64 (bt a0 x11_1)) - 48))] ?_
   with_reducible refine (impl_Shape_with.calls x585000_1 x585001_1 x585002_1 x585003_1 x585004_1 x585005_1 x11_1 (wrap64 ((wrap64 (bt a0 x11_1)) - 48)) t585 t586 t587 t588 t589 t590 _ A11.out).mono ?_
   rintro e w13 ⟨rfl, hb⟩
   refine ⟨_, rfl, ?_⟩
   replace BK582 := aM_ (blk_below (g := gb582) (kR_ BK582) hb)
   replace BK584 := aM_ (blk_below (g := gb584) (kR_ BK584) hb)
   replace HB := aM_ (below_step hB_ hb)
   (try clear hb)
   (try clear hb2)
   (try clear hk)
   (try clear hi)
   refine hK.out _ _ ⟨(blk_cell BK584.out 0).trans rfl, (blk_cell BK584.out 1).trans rfl, (blk_cell BK584.out 2).trans rfl, (blk_cell BK584.out 3).trans rfl, (blk_cell BK584.out 4).trans rfl, (blk_cell BK584.out 5).trans rfl⟩ (fun hHeld => ?_)
   clear hK K
   refine nm_ 21 ?_
   refine last_ (i := 8) (N := none) (bz_ 9 0x1ff) rfl rfl (one_of HT_.out (by kernel_rfl)) (by decide) (fun K hK => ?_)
   have hs14 : w13.cell? ⟨gb584, 0, none⟩ = some (.int .i64 x585000_1) := (blk_cell BK584.out 0).trans rfl
   have hfs14 := blk_frozen BK584.out 0
   have hns14_0 := NB582_584.out
   have hms14_0 := NB584_582.out
   have hs15 : w13.cell? ⟨gb584, 1, none⟩ = some (.int .i64 x585001_1) := (blk_cell BK584.out 1).trans rfl
   have hfs15 := blk_frozen BK584.out 1
   have hns15_0 := NB582_584.out
   have hms15_0 := NB584_582.out
   have hs16 : w13.cell? ⟨gb584, 2, none⟩ = some (.int .i64 x585002_1) := (blk_cell BK584.out 2).trans rfl
   have hfs16 := blk_frozen BK584.out 2
   have hns16_0 := NB582_584.out
   have hms16_0 := NB584_582.out
   have hs17 : w13.cell? ⟨gb584, 3, none⟩ = some (.int .i64 x585003_1) := (blk_cell BK584.out 3).trans rfl
   have hfs17 := blk_frozen BK584.out 3
   have hns17_0 := NB582_584.out
   have hms17_0 := NB584_582.out
   have hs18 : w13.cell? ⟨gb584, 4, none⟩ = some (.int .i64 x585004_1) := (blk_cell BK584.out 4).trans rfl
   have hfs18 := blk_frozen BK584.out 4
   have hns18_0 := NB582_584.out
   have hms18_0 := NB584_582.out
   have hs19 : w13.cell? ⟨gb584, 5, none⟩ = some (.bool x585005_1) := (blk_cell BK584.out 5).trans rfl
   have hfs19 := blk_frozen BK584.out 5
   have hns19_0 := NB582_584.out
   have hms19_0 := NB584_582.out
   refine skip_ (w1 := ?_) (by rfl) rfl ?_ ?_
   rotate_left
   ·go_simp
    rfl
   refine hK.out _ _ ?_
   clear hK K
   refine dn_ ?_
   try go_wp2
   go_roundg k1
   case measure => have := HK1.out; omega
   case rel => exact ⟨(wrap64 (x11_1 + 1)), (t585), (t586), (t587), (t588), (t589), (t590), z14_2_, H', ⟨by have := HK1.out; omega⟩, ⟨by (with_reducible repeat (first | apply kN_ | apply kD_ | apply kA_)); refine blk_far ?_ NB582_584.out _; (with_reducible repeat (first | apply kN_ | apply kD_ | apply kA_)); refine blk_far ?_ NB582_584.out _; (with_reducible repeat (first | apply kN_ | apply kD_ | apply kA_)); refine blk_far ?_ NB582_584.out _; (with_reducible repeat (first | apply kN_ | apply kD_ | apply kA_)); refine blk_far ?_ NB582_584.out _; (with_reducible repeat (first | apply kN_ | apply kD_ | apply kA_)); refine blk_far ?_ NB582_584.out _; (with_reducible repeat (first | apply kN_ | apply kD_ | apply kA_)); refine blk_far ?_ NB582_584.out _; (with_reducible repeat (first | apply kN_ | apply kD_ | apply kA_)); exact BK582.out⟩, ⟨by (with_reducible repeat (first | apply kN_ | apply kD_ | apply kA_)); refine blk_put (cs := #[.int .i64 t585, .int .i64 t586, .int .i64 t587, .int .i64 t588, .int .i64 t589, .bool x585005_1]) ?_ 5 _ rfl; (with_reducible repeat (first | apply kN_ | apply kD_ | apply kA_)); refine blk_put (cs := #[.int .i64 t585, .int .i64 t586, .int .i64 t587, .int .i64 t588, .int .i64 x585004_1, .bool x585005_1]) ?_ 4 _ rfl; (with_reducible repeat (first | apply kN_ | apply kD_ | apply kA_)); refine blk_put (cs := #[.int .i64 t585, .int .i64 t586, .int .i64 t587, .int .i64 x585003_1, .int .i64 x585004_1, .bool x585005_1]) ?_ 3 _ rfl; (with_reducible repeat (first | apply kN_ | apply kD_ | apply kA_)); refine blk_put (cs := #[.int .i64 t585, .int .i64 t586, .int .i64 x585002_1, .int .i64 x585003_1, .int .i64 x585004_1, .bool x585005_1]) ?_ 2 _ rfl; (with_reducible repeat (first | apply kN_ | apply kD_ | apply kA_)); refine blk_put (cs := #[.int .i64 t585, .int .i64 x585001_1, .int .i64 x585002_1, .int .i64 x585003_1, .int .i64 x585004_1, .bool x585005_1]) ?_ 1 _ rfl; (with_reducible repeat (first | apply kN_ | apply kD_ | apply kA_)); refine blk_put (cs := #[.int .i64 x585000_1, .int .i64 x585001_1, .int .i64 x585002_1, .int .i64 x585003_1, .int .i64 x585004_1, .bool x585005_1]) ?_ 0 _ rfl; (with_reducible repeat (first | apply kN_ | apply kD_ | apply kA_)); exact BK584.out⟩, ⟨hB_⟩⟩

/-! ### spec_ParseShape: function 19 -/
theorem spec_ParseShape.calls (k : Nat) (a0 : ByteArray) (r1 : Int) (r2 : Int) (r3 : Int) (r4 : Int) (r5 : Int) (r6 : Bool) (r7 : Bool) (w : World) (h : spec_ParseShape.f k a0 = some (r1, r2, r3, r4, r5, r6, r7)) :
 Calls Tryd.prog 19 #[.string a0] w fun e w' => e = .returned (.tuple #[.agg #[.int .i64 r1, .int .i64 r2, .int .i64 r3, .int .i64 r4, .int .i64 r5, .bool r6], .bool r7]) ∧ Below w.heap.size w w' := by
 have hu25 := Tryd.underlying25
 have HB := Aside0.mk (Below.refl w.heap.size w)
 have H : ((spec_shParse.f k a0).bind fun bt594 => (some (bt594.1, bt594.2.1, bt594.2.2.1, bt594.2.2.2.1, bt594.2.2.2.2.1, bt594.2.2.2.2.2.1, bt594.2.2.2.2.2.2))) = some (r1, r2, r3, r4, r5, r6, r7) := h
 clear h
 replace H := ob_ H; obtain ⟨⟨t594, t595, t596, t597, t598, t599, t600⟩, A2, H⟩ := H; try dsimp only at H
 simp only [Option.some.injEq, Prod.mk.injEq] at H
 obtain ⟨rfl, rfl, rfl, rfl, rfl, rfl, rfl⟩ := H
 go_enter Tryd.func19, Tryd.ntmps19
 go_wp2_with (first | ((with_reducible refine gate_dst (N := 2) rfl ?_); refine bx_ 2 #[.int .i64 0, .int .i64 0, .int .i64 0, .int .i64 0, .int .i64 0, .bool false] 25 fun gb593 hg w3 hbox hb => ?_; have BK593 := aM_ (hbox); have GW593 := aM_ (gw_ w hg); have GE593 := aM_ (gw_ w hg); replace HB := aM_ (below_step hB_ hb); clear hb hbox hg) | ((with_reducible refine gC_ 41 ?_); refine gM_ (some 5) Tryd.func41 #[.string a0] ?_; (with_reducible refine (spec_shParse.calls k a0 t594 t595 t596 t597 t598 t599 t600 _ A2.out).mono ?_); rintro e w4 ⟨rfl, hb⟩; refine ⟨_, rfl, ?_⟩; replace BK593 := aM_ (blk_below (g := gb593) (kR_ BK593) hb); replace HB := aM_ (below_step hB_ hb); (try clear hb); have hz5 := cf6_ BK593.out))
 refine bodyPost_ret (results_ct rfl _ _ gb593 25 #[.int .i64 t594, .int .i64 t595, .int .i64 t596, .int .i64 t597, .int .i64 t598, .bool t599] (0, 0) _ rfl (by (with_reducible repeat (first | apply kN_ | apply kD_ | apply kA_)); refine blk_put (cs := #[.int .i64 t594, .int .i64 t595, .int .i64 t596, .int .i64 t597, .int .i64 t598, .bool false]) ?_ 5 _ rfl; (with_reducible repeat (first | apply kN_ | apply kD_ | apply kA_)); refine blk_put (cs := #[.int .i64 t594, .int .i64 t595, .int .i64 t596, .int .i64 t597, .int .i64 0, .bool false]) ?_ 4 _ rfl; (with_reducible repeat (first | apply kN_ | apply kD_ | apply kA_)); refine blk_put (cs := #[.int .i64 t594, .int .i64 t595, .int .i64 t596, .int .i64 0, .int .i64 0, .bool false]) ?_ 3 _ rfl; (with_reducible repeat (first | apply kN_ | apply kD_ | apply kA_)); refine blk_put (cs := #[.int .i64 t594, .int .i64 t595, .int .i64 0, .int .i64 0, .int .i64 0, .bool false]) ?_ 2 _ rfl; (with_reducible repeat (first | apply kN_ | apply kD_ | apply kA_)); refine blk_put (cs := #[.int .i64 t594, .int .i64 0, .int .i64 0, .int .i64 0, .int .i64 0, .bool false]) ?_ 1 _ rfl; (with_reducible repeat (first | apply kN_ | apply kD_ | apply kA_)); refine blk_put (cs := #[.int .i64 0, .int .i64 0, .int .i64 0, .int .i64 0, .int .i64 0, .bool false]) ?_ 0 _ rfl; (with_reducible repeat (first | apply kN_ | apply kD_ | apply kA_)); exact BK593.out) Tryd.underlying25 rfl (by kernel_rfl)) rfl ?_
 exact ⟨rT_, hB_⟩

end Go.Proofs.YtbfkpgmdbafmhaaDoor.PFnShapes
