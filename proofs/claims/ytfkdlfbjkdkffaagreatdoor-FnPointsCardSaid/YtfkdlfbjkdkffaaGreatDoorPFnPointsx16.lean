/- Printed for this claim: functions of the program as Lean functions, and that the calls answer so. -/
import Derived.Test.YtfkdlfbjkdkffaaGreatDoorPFnPointsx0
import Derived.Test.YtfkdlfbjkdkffaaGreatDoorPFnPointsx3
import Derived.Test.YtfkdlfbjkdkffaaGreatDoorPFnPointsx11
import Derived.Test.YtfkdlfbjkdkffaaGreatDoorPFnPointsx14
import Derived.Test.YtfkdlfbjkdkffaaGreatDoorPFnPointsxD0
namespace Go.Proofs.YtfkdlfbjkdkffaaGreatDoor.PFnPoints
open Go.RowKit Go.Proofs.YtfkdlfbjkdkffaaGreatDoorW.PrintWords Go.Proofs.YtfkdlfbjkdkffaaGreatDoorW.PrintLast Go.Proofs.YtfkdlfbjkdkffaaGreatDoorW.PrintMore
theorem z16_0_ {p : Prop} (h : p := by first | exact Kd.R_nil _ _ _ _ _ | exact Kd.N_nil _ _ _ _ _ | exact Kd.V_nil _ _ _ _ _ | exact Kd.Q_nil _ _ _ _ _ | exact Kd.S_nil _ _ _ _ _) : p := h
theorem z16_1_ {p : Prop} (h : p := by first | rfl | (simp; done) | (simp [*]; done)) : p := h
theorem z16_2_ {p : Prop} (h : p := by first | rfl | (simp [errW_none, errW_some] <;> rfl) | (simp only [← hji7]; first | rfl | (simp [errW_none, errW_some] <;> rfl)) | (simp [*, errW_none, errW_some] <;> rfl)) : p := h
theorem z16_3_ {p : Prop} (h : p := by repeat (first | exact Drawn0.refl _ | apply Drawn0.step)) : p := h
set_option maxHeartbeats 8000000
set_option maxRecDepth 100000
attribute [local go_sem] max2_int min2_int max_two min_two max_three min_three max_four min_four isSome_setCell   -- for this text's walks alone
set_option linter.unusedVariables false
set_option linter.unusedSimpArgs false

/-! ### spec_ParseLoci: function 41 -/
def spec_ParseLoci.T11 : Bool × List (List Nat × List Nat) := (true, [([], []), ([], []), ([1], [1]), ([2], [2]), ([], []), ([4], [4]), ([5], [5]), ([6], [6]), ([3, 7], [3, 7]), ([8], [8]), ([0, 9, 7], [0, 9]), ([10, 10, 0, 1, 2, 3, 4, 5, 6, 7, 8, 9, 10], [0, 10])])
def spec_ParseLoci.B11 : List Nat := [0, 0, 2, 6, 0, 16, 48, 112, 254, 510, 1023, 2047]
theorem spec_ParseLoci.tab11 : rtab .any (opsOf Tryz.f41 11) = spec_ParseLoci.T11 := by kernel_rfl
theorem spec_ParseLoci.bits11 : waitsOk spec_ParseLoci.T11.2 spec_ParseLoci.B11 = true := by kernel_rfl
theorem spec_ParseLoci.calls (k : Nat) (a0 : ByteArray) (r1 : List (S58)) (r2 : Bool) (w : World) (h : spec_ParseLoci.f k a0 = some (r1, r2)) :
 Calls Tryz.prog 41 #[.string a0] w fun e w' => ∃ v0_ : Value, e = .returned (.tuple #[v0_, .bool r2]) ∧ Kd.R k58 58 w' w.heap.size (fun _ => True) v0_ r1 ∧ Below w.heap.size w w' := by
 have hu58 := Tryz.underlying58
 have HB := Aside0.mk (Below.refl w.heap.size w)
 have H : ((spec_l1Split.f k a0 59).bind fun t512 => (if (t512.length : Int) > 9 then (some (([] : List (S58)), false)) else (if 0 ≤ (wrap64 ((t512.length : Int) - 1)) then (if (wrap64 ((t512.length : Int) - 1)) ≤ (t512.length : Int) then ((some (t512.take ((wrap64 ((t512.length : Int) - 1)) : Int).toNat : List ByteArray)).bind fun y515 => (spec_ParseLoci.l0 k a0 ([] : List (S58)) y515 (y515.length : Int) 0)) else (none)) else (none)))) = some (r1, r2) := h
 clear h
 replace H := ob_ H; obtain ⟨t512, A2, H⟩ := H; try dsimp only at H
 have HC3 := Aside0.mk H
 clear H
 go_enter Tryz.func41, Tryz.ntmps41
 go_upto_if 13 with (first | ((with_reducible refine gC_ 63 ?_); refine gM_ (some 10) Tryz.func63 #[.string a0, .int .u8 59] ?_; (with_reducible refine (spec_l1Split.calls k a0 59 t512 _ A2.out).mono ?_); rintro e w4 ⟨v513, rfl, ho0, hb⟩; refine ⟨_, rfl, ?_⟩; have HO514 := aM_ (Kd.R_lower ho0 (below_size hB_)); replace HB := aM_ (below_step hB_ hb); (try clear hb); (try clear ho0); obtain ⟨Ao5, co5, eo5⟩ := Kd.R_slice HO514.out; subst eo5))
 (try simp only [Act.put, List.setIfInBounds_toArray, List.set_cons_zero, List.set_cons_succ])
 have H := HC3.out
 clear HC3
 by_cases c6 : (t512.length : Int) > 9
 ·rw [if_pos c6] at H
  have c6b0 : decide (9 < (t512.length : Int)) = true := decide_eq_true c6
  have c6b1 : decide (9 < t512.length) = true := decide_eq_true (by omega)
  clear c6
  (first | rw [c6b0] | (simp only [i64_w, i32_w]; rw [c6b0]) | skip)
  simp only [Option.some.injEq, Prod.mk.injEq] at H
  obtain ⟨rfl, rfl⟩ := H
  go_wp2
  go_ret2
  exact ⟨_, rT_, z16_0_, hB_⟩
 rw [if_neg c6] at H
 have c6b0 : decide (9 < (t512.length : Int)) = false := decide_eq_false c6
 have c6b1 : decide (9 < t512.length) = false := decide_eq_false (by omega)
 clear c6
 (first | rw [c6b0] | (simp only [i64_w, i32_w]; rw [c6b0]) | skip)
 obtain ⟨ji7, hji7⟩ : ∃ j_ : Int, (wrap64 ((t512.length : Int) - 1)) = j_ := ⟨_, rfl⟩
 replace H : (if 0 ≤ (ji7) then (if (ji7) ≤ (t512.length : Int) then ((some (t512.take ((ji7) : Int).toNat : List ByteArray)).bind fun y515 => (spec_ParseLoci.l0 k a0 ([] : List (S58)) y515 (y515.length : Int) 0)) else (none)) else (none)) = some (r1, r2) := by first | (rw [hji7] at H; exact H) | (simp only [hji7] at H ⊢; exact H)
 have hji7w : (IntKind.i64.wrap ((t512.length : Int) - 1)) = ji7 := (i64_w _).trans hji7
 replace H := it_ H; obtain ⟨c8b0, c8b1, H⟩ := H
 replace H := it_ H; obtain ⟨c9b0, c9b1, H⟩ := H
 replace H := bs_ H; obtain ⟨y515, Ny515, H⟩ := H; try dsimp only at H
 have H' := Aside0.mk H
 clear H
 have q10 : ((ji7) : Int) ≤ ((t512.length : Int) : Int) := ode_
 obtain ⟨i010, hi010, _, hsz10, _⟩ := info_parts info9
 have hcut10 := cut_to (P := Tryz.prog) 63 9 .i64 Tryz.underlying63 hi010 Ao5 t512.length co5 (ji7) ode_ q10 (Kd.R_reads' HO514.out).2.1
 have hr10 := Kd.R_take (m := ((ji7) : Int).toNat) HO514.out (by omega)
 have hy10 : y515.length = ((ji7) : Int).toNat := (by rw [Ny515.out, List.length_take]; omega)
 rw [← Ny515.out] at hr10
 rw [← hy10] at hr10 hcut10
 clear hy10 hi010 hsz10 HO514
 have HO517 := Aside0.mk hr10
 clear hr10
 replace q10 := eq_true q10
 go_wp2
 go_loopg [5, 20] k (fun kq v5 v20 w' => ∃ (x5_1 : List (S58)) (x20_1 : Int), v20 = .int .i64 x20_1 ∧ Aside0 (spec_ParseLoci.l0 kq a0 x5_1 y515 (y515.length : Int) x20_1 = some (r1, r2)) ∧ Aside0 (kq ≤ k) ∧ Aside0 (Kd.R k58 58 w' w.heap.size (fun _ => True) v5 x5_1) ∧ Aside0 (Kd.R Kd.string 9 w' w.heap.size (fun _ => True) (.slice Ao5 y515.length co5) y515) ∧ Aside0 (Below w.heap.size w w'))
 case atStart => exact ⟨(([] : List (S58))), (0), z16_1_, H', ⟨Nat.le_refl _⟩, ⟨z16_0_⟩, ⟨rR_ HO517⟩, ⟨hB_⟩⟩
 case round =>
  clear H'
  (try clear c6);(try clear c6b0);(try clear c6b1);(try clear c8);(try clear c8b0);(try clear c8b1);(try clear c9);(try clear c9b0);(try clear c9b1);(try clear q10);(try clear q10)
  obtain ⟨x5_1, x20_1, rfl, HA, HK1, HO_5, HO_18, HB⟩ := hrel
  cases gk with
  | zero => exact absurd HA.out (by simp [spec_ParseLoci.l0])
  | succ k1 =>
   have H := HA.out
   clear HA
   simp only [spec_ParseLoci.l0] at H
   replace H := iF_ H; obtain ⟨c11b0, H⟩ | ⟨c11b0, H⟩ := H
   ·replace H := ob_ H; obtain ⟨t528, A27, H⟩ := H; try dsimp only at H
    by_cases c28 : t528 = true
    rotate_left
    ·replace c28 := Bool.eq_false_iff.mpr c28
     subst c28
     replace H := in_ H (show ¬ (false = true) by decide)
     simp only [Option.some.injEq, Prod.mk.injEq] at H
     obtain ⟨rfl, rfl⟩ := H
     obtain ⟨Ao37, co37, eo37⟩ := Kd.R_slice HO_5.out
     subst eo37
     go_wp2_with (first | ((with_reducible refine gC_ 50 ?_); refine gM_ (some 42) Tryz.func50 #[.slice Ao37 x5_1.length co37] ?_; (with_reducible refine (spec_loGood.calls k1 _ _ x5_1 false _ ?side1 ?side2 A27.out).mono ?_); (case side1 => exact cR_ HO_5); (case side2 => exact (Kd.R_reads' HO_5.out).2.1); rintro e w38 ⟨rfl, hb⟩; refine ⟨_, rfl, ?_⟩; replace HO_5 := aM_ (Kd.R_below (rR_ HO_5) hb); replace HO_18 := aM_ (Kd.R_below (rR_ HO_18) hb); replace HB := aM_ (below_step hB_ hb); (try clear hb)))
     go_ret2
     exact ⟨_, z16_2_, z16_0_, hB_⟩
    subst c28
    replace H := ip_ H rfl
    replace H := ob_ H; obtain ⟨t529, A29, H⟩ := H; try dsimp only at H
    by_cases c30 : t529.toList = a0.toList
    ·rw [if_pos c30] at H
     have c30b0 : (t529.toList == a0.toList) = true := beq_iff_eq.mpr c30
     have c30b1 : (t529.toList != a0.toList) = false := bne_eq_false_iff_eq.mpr c30
     clear c30
     simp only [Option.some.injEq, Prod.mk.injEq] at H
     obtain ⟨rfl, rfl⟩ := H
     obtain ⟨Ao31, co31, eo31⟩ := Kd.R_slice HO_5.out
     subst eo31
     go_wp2_with (first | ((with_reducible refine gC_ 50 ?_); refine gM_ (some 42) Tryz.func50 #[.slice Ao31 x5_1.length co31] ?_; (with_reducible refine (spec_loGood.calls k1 _ _ x5_1 true _ ?side1 ?side2 A27.out).mono ?_); (case side1 => exact cR_ HO_5); (case side2 => exact (Kd.R_reads' HO_5.out).2.1); rintro e w32 ⟨rfl, hb⟩; refine ⟨_, rfl, ?_⟩; replace HO_5 := aM_ (Kd.R_below (rR_ HO_5) hb); replace HO_18 := aM_ (Kd.R_below (rR_ HO_18) hb); replace HB := aM_ (below_step hB_ hb); (try clear hb)) | (go_at_call 71; (with_reducible refine (spec_loText.calls k1 _ _ x5_1 t529 _ ?side1 ?side2 A29.out).mono ?_); (case side1 => exact cR_ HO_5); (case side2 => exact (Kd.R_reads' HO_5.out).2.1); rintro e w33 ⟨rfl, hb⟩; replace HO_5 := aM_ (Kd.R_below (rR_ HO_5) hb); replace HO_18 := aM_ (Kd.R_below (rR_ HO_18) hb); replace HB := aM_ (below_step hB_ hb); (try clear hb)))
     go_ret2
     exact ⟨_, z16_2_, (rR_ HO_5), hB_⟩
    rw [if_neg c30] at H
    have c30b0 : (t529.toList == a0.toList) = false := beq_eq_false_iff_ne.mpr c30
    have c30b1 : (t529.toList != a0.toList) = true := bne_iff_ne.mpr c30
    simp only [Option.some.injEq, Prod.mk.injEq] at H
    obtain ⟨rfl, rfl⟩ := H
    obtain ⟨Ao34, co34, eo34⟩ := Kd.R_slice HO_5.out
    subst eo34
    go_wp2_with (first | ((with_reducible refine gC_ 50 ?_); refine gM_ (some 42) Tryz.func50 #[.slice Ao34 x5_1.length co34] ?_; (with_reducible refine (spec_loGood.calls k1 _ _ x5_1 true _ ?side1 ?side2 A27.out).mono ?_); (case side1 => exact cR_ HO_5); (case side2 => exact (Kd.R_reads' HO_5.out).2.1); rintro e w35 ⟨rfl, hb⟩; refine ⟨_, rfl, ?_⟩; replace HO_5 := aM_ (Kd.R_below (rR_ HO_5) hb); replace HO_18 := aM_ (Kd.R_below (rR_ HO_18) hb); replace HB := aM_ (below_step hB_ hb); (try clear hb)) | (go_at_call 71; (with_reducible refine (spec_loText.calls k1 _ _ x5_1 t529 _ ?side1 ?side2 A29.out).mono ?_); (case side1 => exact cR_ HO_5); (case side2 => exact (Kd.R_reads' HO_5.out).2.1); rintro e w36 ⟨rfl, hb⟩; replace HO_5 := aM_ (Kd.R_below (rR_ HO_5) hb); replace HO_18 := aM_ (Kd.R_below (rR_ HO_18) hb); replace HB := aM_ (below_step hB_ hb); (try clear hb)))
    go_ret2
    exact ⟨_, z16_2_, z16_0_, hB_⟩
   replace H := ig_ H; obtain ⟨c12b0, H⟩ := H
   replace H := ig_ H; obtain ⟨c13b0, H⟩ := H
   replace H := ob_ H; obtain ⟨t519, A14, H⟩ := H; try dsimp only at H
   by_cases c15 : (t519.length : Int) = 2
   rotate_left
   ·rw [if_neg c15] at H
    have c15b0 : ((t519.length : Int) == 2) = false := beq_eq_false_iff_ne.mpr c15
    have c15b1 : ((t519.length : Int) != 2) = true := bne_iff_ne.mpr c15
    simp only [Option.some.injEq, Prod.mk.injEq] at H
    obtain ⟨rfl, rfl⟩ := H
    obtain ⟨⟨ad518, e518, hx518_0⟩, p518, q518⟩ := at2_ (Kd.at_string (Kd.R_reads' HO_18.out).2.2 x20_1); cases e518
    go_wp2_with (first | ((with_reducible refine gC_ 63 ?_); refine gM_ (some 25) Tryz.func63 #[.string (rdOf ByteArray.empty y515 x20_1), .int .u8 64] ?_; (with_reducible refine (spec_l1Split.calls k1 (rdOf ByteArray.empty y515 x20_1) 64 t519 _ A14.out).mono ?_); rintro e w25 ⟨v520, rfl, ho0, hb⟩; refine ⟨_, rfl, ?_⟩; have HO521 := aM_ (Kd.R_lower (Kd.R_new' ho0 (Kd.R_lt (rR_ HO_18))) (below_size hB_)); replace HO_5 := aM_ (Kd.R_below (rR_ HO_5) hb); replace HO_18 := aM_ (Kd.R_elder' (rR_ HO_18) (Kd.R_base ho0) hb); replace HB := aM_ (below_step hB_ hb); (try clear hb); (try clear ho0); obtain ⟨Ao26, co26, eo26⟩ := Kd.R_slice HO521.out; subst eo26))
    go_ret2
    exact ⟨_, z16_2_, z16_0_, hB_⟩
   rw [if_pos c15] at H
   have c15b0 : ((t519.length : Int) == 2) = true := beq_iff_eq.mpr c15
   have c15b1 : ((t519.length : Int) != 2) = false := bne_eq_false_iff_eq.mpr c15
   clear c15
   by_cases c16 : 0 < (t519.length : Int)
   rotate_left
   ·rw [if_neg c16] at H
    exact absurd H (by simp)
   rw [if_pos c16] at H
   have c16b0 : decide (0 < (t519.length : Int)) = true := decide_eq_true c16
   have c16b1 : decide (0 < t519.length) = true := decide_eq_true (by omega)
   clear c16
   by_cases c17 : 1 < (t519.length : Int)
   rotate_left
   ·rw [if_neg c17] at H
    exact absurd H (by simp)
   rw [if_pos c17] at H
   have c17b0 : decide (1 < (t519.length : Int)) = true := decide_eq_true c17
   have c17b1 : decide (1 < t519.length) = true := decide_eq_true (by omega)
   clear c17
   replace H := ob_ H; obtain ⟨t524, A18, H⟩ := H; try dsimp only at H
   replace H := il_ H; obtain ⟨LMc19, H⟩ := H
   obtain ⟨y525, hy525⟩ : ∃ y_ : List (S58), y_ = (x5_1 ++ [(⟨rdOf ByteArray.empty t519 0, t524⟩ : S58)]) := ⟨_, rfl⟩
   rw [← hy525] at H
   have Ny525 := Aside0.mk hy525; clear hy525
   have H' := Aside0.mk H
   clear H
   obtain ⟨⟨ad518, e518, hx518_0⟩, p518, q518⟩ := at2_ (Kd.at_string (Kd.R_reads' HO_18.out).2.2 x20_1); cases e518
   try go_wp2_with (first | ((with_reducible refine gC_ 63 ?_); refine gM_ (some 25) Tryz.func63 #[.string (rdOf ByteArray.empty y515 x20_1), .int .u8 64] ?_; (with_reducible refine (spec_l1Split.calls k1 (rdOf ByteArray.empty y515 x20_1) 64 t519 _ A14.out).mono ?_); rintro e w20 ⟨v520, rfl, ho0, hb⟩; refine ⟨_, rfl, ?_⟩; have HO521 := aM_ (Kd.R_lower (Kd.R_new' ho0 (Kd.R_lt (rR_ HO_18))) (below_size hB_)); replace HO_5 := aM_ (Kd.R_below (rR_ HO_5) hb); replace HO_18 := aM_ (Kd.R_elder' (rR_ HO_18) (Kd.R_base ho0) hb); replace HB := aM_ (below_step hB_ hb); (try clear hb); (try clear ho0); obtain ⟨Ao21, co21, eo21⟩ := Kd.R_slice HO521.out; subst eo21))
   replace HO_5 := aM_ (Kd.R_drew HO_5.out)
   replace HO_18 := aM_ (Kd.R_drew HO_18.out)
   replace HO521 := aM_ (Kd.R_drew HO521.out)
   replace HB := aM_ (below_drew1 HB.out)
   have p522 : 0 ≤ (0 : Int) := (by omega)
   have q522 : 0 < (t519.length : Int) := ode_
   obtain ⟨ad522, e522, hx522_0⟩ := Kd.at_string (Kd.R_reads' HO521.out).2.2 0 p522 q522
   cases e522
   have qi522 : (0 < t519.length) = True := eq_true (by omega)
   (try rw [show ((0 : Int)).toNat = 0 from rfl] at hx522_0)
   (try rw [Addr.add_zero'] at hx522_0)
   replace p522 := eq_true p522
   replace q522 := eq_true q522
   have p523 : 0 ≤ (1 : Int) := (by omega)
   have q523 : 1 < (t519.length : Int) := ode_
   obtain ⟨ad523, e523, hx523_0⟩ := Kd.at_string (Kd.R_reads' HO521.out).2.2 1 p523 q523
   obtain rfl : ad522 = ad523 := (by injection e523)
   (try simp only [show (1 : Int).toNat = 1 from rfl, Nat.reduceMul, Nat.reduceEqDiff, Go.Addr.add, ↓reduceIte] at hx523_0)
   have qi523 : (1 < t519.length) = True := eq_true (by omega)
   (try rw [show ((1 : Int)).toNat = 1 from rfl] at hx523_0)
   replace p523 := eq_true p523
   replace q523 := eq_true q523
   refine st_ 12 (fun w' => w'.cell? ad522 = some (.string (rdOf ByteArray.empty t519 0)) ∧ w'.cell? ⟨ad522.block, ad522.off + 1, none⟩ = some (.string (rdOf ByteArray.empty t519 1))) [9, 10] spec_ParseLoci.tab11 spec_ParseLoci.bits11 ⟨hx522_0, hx523_0⟩ fun hHeld HT_ HW_ => ?_
   generalize w20.drew = w22 at HO_5 HO_18 HO521 HB hx522_0 hx523_0 hHeld ⊢
   refine pu_ 0 29 ?_
   refine pu_ 1 30 ?_
   refine pu_ 2 31 ?_
   refine pu_ 4 33 ?_
   refine pu_ 5 34 ?_
   refine tk_ 3 32 ?_
   refine tk_ 6 35 ?_
   refine on_ 7 36 fun K hK => ?_
   refine gS_ Tryz.func80 #[.string (rdOf ByteArray.empty t519 1)] ?_
   with_reducible refine (spec_loRead.calls k1 (rdOf ByteArray.empty t519 1) t524 _ A18.out).mono ?_
   rintro e w23 ⟨rfl, hb⟩
   have HS0_ := (hb.cell (World.block_lt_of_cell? _ _ (hHeld.1))).trans (hHeld.1)
   have HS1_ := (hb.cell (World.block_lt_of_cell? _ _ (hHeld.2))).trans (hHeld.2)
   refine ⟨_, rfl, ?_⟩
   replace HO_5 := aM_ (Kd.R_below (rR_ HO_5) hb)
   replace HO_18 := aM_ (Kd.R_below (rR_ HO_18) hb)
   replace HO521 := aM_ (Kd.R_below (rR_ HO521) hb)
   replace HB := aM_ (below_step hB_ hb)
   (try clear hb)
   (try clear hb2)
   (try clear hk)
   (try clear hi)
   refine hK.out _ _ ⟨HS0_, HS1_⟩ (fun hHeld => ?_)
   clear hK K
   refine nm_ 36 ?_
   refine pu_ 8 37 ?_
   refine last_ (i := 9) (N := some 38) (bz_ 12 0x3ff) rfl rfl (one_of HT_.out (by kernel_rfl)) (by decide) (fun K hK => ?_)
   refine value_ (w1 := ?_) (v := ?_) (by rfl) rfl ?_ ?_
   rotate_left 2
   ·go_simp
    constructor
    ·rfl
    ·rfl
   refine hK.out _ _ ?_
   clear hK K
   refine nm_ 38 ?_
   refine last_ (i := 10) (N := some 39) (bz_ 12 0x7ff) rfl rfl (one_of HT_.out (by kernel_rfl)) (by decide) (fun K hK => ?_)
   refine Kd.R_append_step k58 (w0 := w) w.heap.size (by rfl) (.tmp 29) (.tmp 38) 23 58 (.agg #[(.string ⟨#[]⟩), (.int .i64 0)]) 24 rfl Tryz.underlying23 info58 rfl (by decide) (by omega) u5 x5_1 (⟨rdOf ByteArray.empty t519 0, t524⟩ : S58) [.string (rdOf ByteArray.empty t519 0), .int .i64 t524] (fun _ => True) (fun _ => False) rfl rfl ?aP (fun _ hk => hk.elim) ?aF ?aO ?aB ?aS ?aL ?_
   (case aP => exact k58_mkM _ _ _ (⟨rdOf ByteArray.empty t519 0, t524⟩ : S58))
   (case aB => exact hB_)
   (case aF => exact (fun _ _ => trivial))
   (case aO => exact (rR_ HO_5))
   (case aS => exact (below_size hB_))
   (case aL => have := LMc19.out; omega)
   intro v526 w24 ho hb hg hat
   rw [← Ny525.out] at ho
   have HO527 := aM_ (ho)
   replace HO_18 := aM_ (Kd.R_over' (rR_ HO_18) (Kd.R_typed (rR_ HO_5)) (by decide) hg)
   replace HO521 := aM_ (Kd.R_over' (rR_ HO521) (Kd.R_typed (rR_ HO_5)) (by decide) hg)
   replace HB := aM_ (hb)
   clear HO_5
   clear ho hb hg hat
   refine hK.out _ _ ?_
   clear hK K
   refine nm_ 39 ?_
   refine pu_ 11 5 ?_
   refine dn_ ?_
   try go_wp2
   go_roundg k1
   case measure => have := HK1.out; omega
   case rel => exact ⟨(y525), (wrap64 (x20_1 + 1)), z16_1_, H', ⟨by have := HK1.out; omega⟩, ⟨rR_ HO527⟩, ⟨rT1_ HO_18⟩, ⟨hB_⟩⟩

/-! ### laws_pSameTexts: function 42 -/
theorem laws_pSameTexts.calls (k : Nat) (A0 : Option Addr) (c0 : Nat) (l0 : List ByteArray) (A1 : Option Addr) (c1 : Nat) (l1 : List ByteArray) (r : Bool) (w : World) (hr0 : Kd.C Kd.string w A0 l0.length l0) (hc0 : l0.length ≤ c0) (hr1 : Kd.C Kd.string w A1 l1.length l1) (hc1 : l1.length ≤ c1) (h : laws_pSameTexts.f k l0 l1 = some r) :
 Calls Tryz.prog 42 #[.slice A0 l0.length c0, .slice A1 l1.length c1] w fun e w' => e = .returned (.bool r) ∧ Drawn0 w w' := by
 have HR0 := Aside0.mk hr0
 have HC0 := Aside0.mk hc0
 clear hr0 hc0
 have HR1 := Aside0.mk hr1
 have HC1 := Aside0.mk hc1
 clear hr1 hc1
 have H : (if (l0.length : Int) = (l1.length : Int) then (laws_pSameTexts.l0 k l0 l1 (l0.length : Int) 0) else (some false)) = some r := h
 clear h
 by_cases c3 : (l0.length : Int) = (l1.length : Int)
 rotate_left
 ·rw [if_neg c3] at H
  have c3b0 : ((l0.length : Int) == (l1.length : Int)) = false := beq_eq_false_iff_ne.mpr c3
  have c3b1 : ((l0.length : Int) != (l1.length : Int)) = true := bne_iff_ne.mpr c3
  have c3b2 : (l0.length == l1.length) = false := by first | simpa using c3 | (simp at c3 ⊢; omega)
  obtain rfl := Option.some.inj H
  go_enter Tryz.func42, Tryz.ntmps42
  go_wp2
  repeat (go_quiet (fail); try go_wp2)
  go_ret
  exact ⟨z16_1_, z16_3_⟩
 rw [if_pos c3] at H
 have c3b0 : ((l0.length : Int) == (l1.length : Int)) = true := beq_iff_eq.mpr c3
 have c3b1 : ((l0.length : Int) != (l1.length : Int)) = false := bne_eq_false_iff_eq.mpr c3
 have c3b2 : (l0.length == l1.length) = true := by first | simpa using c3 | (simp at c3 ⊢; omega)
 clear c3
 have H' := Aside0.mk H
 clear H
 go_enter Tryz.func42, Tryz.ntmps42
 go_wp2
 repeat (go_quiet (fail); try go_wp2)
 go_loopg [13] k (fun kq v13 w' => ∃ (x13_1 : Int), v13 = .int .i64 x13_1 ∧ Aside0 (laws_pSameTexts.l0 kq l0 l1 (l0.length : Int) x13_1 = some r) ∧ Aside0 (kq ≤ k) ∧ Drawn0 w w')
 case atStart => exact ⟨(0), z16_1_, H', ⟨Nat.le_refl _⟩, z16_3_⟩
 case round =>
  clear H'
  (try clear c1);(try clear c3);(try clear c3b0);(try clear c3b1);(try clear c3b2)
  obtain ⟨x13_1, rfl, HA, HK1, ⟨m1, rfl⟩⟩ := hrel
  cases gk with
  | zero => exact absurd HA.out (by simp [laws_pSameTexts.l0])
  | succ k1 =>
   have H := HA.out
   clear HA
   simp only [laws_pSameTexts.l0] at H
   replace H := iF_ H; obtain ⟨c4b0, H⟩ | ⟨c4b0, H⟩ := H
   ·obtain rfl := Option.some.inj H
    go_wp2
    repeat (go_quiet (fail); try go_wp2)
    go_ret
    exact ⟨z16_1_, z16_3_⟩
   replace H := ig_ H; obtain ⟨c5b0, H⟩ := H
   replace H := ig_ H; obtain ⟨c6b0, H⟩ := H
   replace H := ig_ H; obtain ⟨c7b0, H⟩ := H
   by_cases c8 : (rdOf ByteArray.empty l0 x13_1).toList = (rdOf ByteArray.empty l1 x13_1).toList
   rotate_left
   ·rw [if_neg c8] at H
    have c8b0 : ((rdOf ByteArray.empty l0 x13_1).toList == (rdOf ByteArray.empty l1 x13_1).toList) = false := beq_eq_false_iff_ne.mpr c8
    have c8b1 : ((rdOf ByteArray.empty l0 x13_1).toList != (rdOf ByteArray.empty l1 x13_1).toList) = true := bne_iff_ne.mpr c8
    obtain rfl := Option.some.inj H
    obtain ⟨⟨ad530, e530, hx530_0⟩, p530, q530⟩ := at2_ (Kd.at_string HR0.out x13_1); cases e530
    obtain ⟨⟨ad531, e531, hx531_0⟩, p531, q531⟩ := at2_ (Kd.at_string HR1.out x13_1); cases e531
    go_wp2
    repeat (go_quiet (fail); try go_wp2)
    go_ret
    exact ⟨z16_1_, z16_3_⟩
   rw [if_pos c8] at H
   have c8b0 : ((rdOf ByteArray.empty l0 x13_1).toList == (rdOf ByteArray.empty l1 x13_1).toList) = true := beq_iff_eq.mpr c8
   have c8b1 : ((rdOf ByteArray.empty l0 x13_1).toList != (rdOf ByteArray.empty l1 x13_1).toList) = false := bne_eq_false_iff_eq.mpr c8
   clear c8
   have H' := Aside0.mk H
   clear H
   obtain ⟨⟨ad530, e530, hx530_0⟩, p530, q530⟩ := at2_ (Kd.at_string HR0.out x13_1); cases e530
   obtain ⟨⟨ad531, e531, hx531_0⟩, p531, q531⟩ := at2_ (Kd.at_string HR1.out x13_1); cases e531
   go_wp2
   repeat (go_quiet (fail); try go_wp2)
   go_roundg k1
   case measure => have := HK1.out; omega
   case rel => exact ⟨(wrap64 (x13_1 + 1)), z16_1_, H', ⟨by have := HK1.out; omega⟩, z16_3_⟩

end Go.Proofs.YtfkdlfbjkdkffaaGreatDoor.PFnPoints
