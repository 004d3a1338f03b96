/- Printed for this claim: functions of the program as Lean functions, and that the calls answer so. -/
import Derived.Test.YtfkdlfbjkdkffaaGreatDoorPFnPointsx0
import Derived.Test.YtfkdlfbjkdkffaaGreatDoorPFnPointsx6
import Derived.Test.YtfkdlfbjkdkffaaGreatDoorPFnPointsx7
import Derived.Test.YtfkdlfbjkdkffaaGreatDoorPFnPointsxD0
namespace Go.Proofs.YtfkdlfbjkdkffaaGreatDoor.PFnPoints
open Go.RowKit Go.Proofs.YtfkdlfbjkdkffaaGreatDoorW.PrintWords Go.Proofs.YtfkdlfbjkdkffaaGreatDoorW.PrintLast Go.Proofs.YtfkdlfbjkdkffaaGreatDoorW.PrintMore
attribute [local go_sem] max2_int min2_int max_two min_two max_three min_three max_four min_four isSome_setCell   -- for this text's walks alone
set_option linter.unusedVariables false
set_option linter.unusedSimpArgs false

theorem z8_0_ {p : Prop} (h : p := by first | rfl | (simp; done) | (simp [*]; done)) : p := h
theorem z8_1_ {p : Prop} (h : p := by (with_reducible repeat (first | apply kN_ | apply kD_ | apply kA_)); refine blk_put (cs := #[.string ((rd_T58 l0 x7_1).f0), .int .i64 0]) ?_ 1 _ rfl; (with_reducible repeat (first | apply kN_ | apply kD_ | apply kA_)); refine blk_put (cs := #[.string (⟨#[]⟩ : ByteArray), .int .i64 0]) ?_ 0 _ rfl; (with_reducible repeat (first | apply kN_ | apply kD_ | apply kA_)); exact BK286.out) : p := h
theorem z8_2_ {p : Prop} (h : p := by first | rfl | (simp [errW_none, errW_some] <;> rfl) | (simp only [← hji10]; first | rfl | (simp [errW_none, errW_some] <;> rfl)) | (simp [*, errW_none, errW_some] <;> rfl)) : p := h
/-! ### impl_AreLoci: function 33 -/
def impl_AreLoci.T4 : Bool × List (List Nat × List Nat) := (true, [([], []), ([0], [0]), ([1], [1]), ([2], [2]), ([3, 2], [3]), ([4], [4]), ([5, 4], [4, 5]), ([6, 4, 4], [4, 6]), ([7, 4], [4, 7]), ([4, 8], [4, 8]), ([9, 7], [9]), ([10], [10]), ([11, 10], [10, 11]), ([12, 10, 10], [10, 12]), ([13], [13]), ([14, 13], [13, 14]), ([13], [13]), ([13], [13]), ([17, 13], [13, 17]), ([16, 18, 13], [13, 16, 18]), ([19, 13], [13, 19]), ([20, 13], [13, 20]), ([15, 21, 13], [13, 15, 21]), ([13, 22, 10], [10, 13, 22]), ([10, 23], [10, 23]), ([24, 13], [24]), ([25], [25]), ([25], [25]), ([26, 27, 25], [25, 26, 27]), ([25], [25]), ([29, 25], [25, 29]), ([28, 30, 25, 25], [25, 28, 30]), ([31, 25], [25, 31]), ([25, 32], [25, 32])])
def impl_AreLoci.B4 : List Nat := [0, 1, 3, 7, 15, 31, 63, 127, 255, 511, 1023, 2047, 4095, 8191, 16383, 32767, 16383, 16383, 147455, 475135, 999423, 2047999, 4194303, 8388607, 16777215, 33554431, 67108863, 67108863, 268435455, 67108863, 603979775, 2147483647, 4294967295, 8589934591]
theorem impl_AreLoci.tab4 : rtab .any (opsOf Tryz.f33 4) = impl_AreLoci.T4 := by kernel_rfl
theorem impl_AreLoci.bits4 : waitsOk impl_AreLoci.T4.2 impl_AreLoci.B4 = true := by kernel_rfl
set_option maxHeartbeats 8000000 in
set_option maxRecDepth 100000 in
theorem impl_AreLoci.calls (k : Nat) (A0 : Option Addr) (c0 : Nat) (l0 : List (S58)) (r : Bool) (w : World) (hr0 : Kd.C k58 w A0 l0.length l0) (hc0 : l0.length ≤ c0) (h : impl_AreLoci.f k l0 = some r) :
 Calls Tryz.prog 33 #[.slice A0 l0.length c0] w fun e w' => e = .returned (.bool r) ∧ Below w.heap.size w w' := by
 have hu58 := Tryz.underlying58
 have HR0 := Aside0.mk hr0
 have HC0 := Aside0.mk hc0
 clear hr0 hc0
 have HB := Aside0.mk (Below.refl w.heap.size w)
 have H : (impl_AreLoci.l0 k l0 l0 (l0.length : Int) 0) = some r := h
 clear h
 have H' := Aside0.mk H
 clear H
 go_enter Tryz.func33, Tryz.ntmps33
 go_wp2
 go_loopg [7] k (fun kq v7 w' => ∃ (x7_1 : Int), v7 = .int .i64 x7_1 ∧ Aside0 (impl_AreLoci.l0 kq l0 l0 (l0.length : Int) x7_1 = some r) ∧ Aside0 (kq ≤ k) ∧ Aside0 (Below w.heap.size w w'))
 case atStart => exact ⟨(0), z8_0_, H', ⟨Nat.le_refl _⟩, ⟨hB_⟩⟩
 case round =>
  clear H'
  obtain ⟨x7_1, rfl, HA, HK1, HB⟩ := hrel
  cases gk with
  | zero => exact absurd HA.out (by simp [impl_AreLoci.l0])
  | succ k1 =>
   have H := HA.out
   clear HA
   simp only [impl_AreLoci.l0] at H
   replace H := iF_ H; obtain ⟨c2b0, H⟩ | ⟨c2b0, H⟩ := H
   ·obtain rfl := Option.some.inj H
    go_wp2
    go_ret
    exact ⟨rT_, hB_⟩
   replace H := ig_ H; obtain ⟨c3b0, H⟩ := H
   replace H := ig_ H; obtain ⟨c4b0, H⟩ := H
   replace H := ob_ H; obtain ⟨t287, A5, H⟩ := H; try dsimp only at H
   by_cases c6 : t287 = true
   rotate_left
   ·replace c6 := Bool.eq_false_iff.mpr c6
    subst c6
    replace H := in_ H (show ¬ (false = true) by decide)
    obtain rfl := Option.some.inj H
    have p285 : 0 ≤ (x7_1 : Int) := ode_
    have q285 : x7_1 < (l0.length : Int) := ode_
    obtain ⟨ad285, e285, hx285_0, hx285_1⟩ := at_T58 HR0.out x7_1 p285 q285
    cases e285
    try replace hx285_0 := hc_ HB hx285_0
    try replace hx285_1 := hc_ HB hx285_1
    replace p285 := eq_true p285
    replace q285 := eq_true q285
    try go_wp2_with (first | ((with_reducible refine gate_dst (N := 4) rfl ?_); refine bx_ 4 #[.string (⟨#[]⟩ : ByteArray), .int .i64 0] 58 fun gb286 hg w49 hbox hb => ?_; have BK286 := aM_ (hbox); have GW286 := aM_ (gw_ w hg); have GE286 := aM_ (gw_ w hg); replace HB := aM_ (below_step hB_ hb); clear hb hbox hg; have hz50 := cf2_ BK286.out))
    have n0_ : Aside0 (((w49.setCell ⟨gb286, 0, none⟩ (.string ((rd_T58 l0 x7_1).f0))).setCell ⟨gb286, 1, none⟩ (.int .i64 ((rd_T58 l0 x7_1).f1))).heap[gb286]? = some (.cells #[.string ((rd_T58 l0 x7_1).f0), .int .i64 ((rd_T58 l0 x7_1).f1)] 58 (0, 0))) := ⟨z8_1_⟩
    have n1_ : Aside0 (Below w.heap.size w ((w49.setCell ⟨gb286, 0, none⟩ (.string ((rd_T58 l0 x7_1).f0))).setCell ⟨gb286, 1, none⟩ (.int .i64 ((rd_T58 l0 x7_1).f1)))) := ⟨hB_⟩
    (try clear BK286)
    (try clear HB)
    repeat rw [sd_]
    generalize ((w49.setCell ⟨gb286, 0, none⟩ (.string ((rd_T58 l0 x7_1).f0))).setCell ⟨gb286, 1, none⟩ (.int .i64 ((rd_T58 l0 x7_1).f1))) = w51 at n0_ n1_ ⊢
    have BK286 := n0_
    have HB := n1_
    clear n0_ n1_
    replace BK286 := aM_ (blk_drew BK286.out)
    replace HB := aM_ (below_drew1 HB.out)
    refine st_ 34 (fun w' => w'.cell? ⟨gb286, 0, none⟩ = some (.string ((rd_T58 l0 x7_1).f0)) ∧ w'.cell? ⟨gb286, 1, none⟩ = some (.int .i64 ((rd_T58 l0 x7_1).f1))) [] impl_AreLoci.tab4 impl_AreLoci.bits4 ⟨(blk_cell BK286.out 0).trans rfl, (blk_cell BK286.out 1).trans rfl⟩ fun hHeld HT_ HW_ => ?_
    generalize w51.drew = w52 at BK286 HB hHeld ⊢
    refine pu_ 0 12 ?_
    refine tk_ 1 13 ?_
    refine on_ 2 14 fun K hK => ?_
    refine gS_ Tryz.func72 #[.string ((rd_T58 l0 x7_1).f0), .string (⟨#[97, 98, 99, 100, 101, 102, 103, 104, 105, 106, 107, 108, 109, 110, 111, 112, 113, 114, 115, 116, 117, 118, 119, 120, 121, 122]⟩ : ByteArray)] ?_
    with_reducible refine (impl_isWordOf.calls k1 ((rd_T58 l0 x7_1).f0) (⟨#[97, 98, 99, 100, 101, 102, 103, 104, 105, 106, 107, 108, 109, 110, 111, 112, 113, 114, 115, 116, 117, 118, 119, 120, 121, 122]⟩ : ByteArray) false _ A5.out).mono ?_
    rintro e w' ⟨rfl, ⟨nd, rfl⟩⟩
    refine ⟨_, rfl, ?_⟩
    refine hK.out _ _ ⟨(blk_cell BK286.out 0).trans rfl, (blk_cell BK286.out 1).trans rfl⟩ (fun hHeld => ?_)
    clear hK K
    refine nm_ 14 ?_
    refine pu_ 3 15 ?_
    refine pu_ 4 16 ?_
    refine pv_ 5 17 ?_
    refine pv_ 6 18 ?_
    refine pv_ 7 19 ?_
    refine pv_ 8 20 ?_
    refine pu_ 9 21 ?_
    refine pu_ 10 22 ?_
    refine pv_ 11 23 ?_
    refine pv_ 12 24 ?_
    refine pv_ 13 25 ?_
    refine pv_ 14 26 ?_
    refine pv_ 15 27 ?_
    refine pv_ 16 28 ?_
    refine pv_ 17 29 ?_
    refine pv_ 18 30 ?_
    refine pv_ 19 31 ?_
    refine pv_ 20 32 ?_
    refine pv_ 21 33 ?_
    refine pv_ 22 34 ?_
    refine pv_ 23 35 ?_
    refine pu_ 24 36 ?_
    refine pu_ 25 37 ?_
    refine pv_ 26 38 ?_
    refine pv_ 27 39 ?_
    refine pv_ 28 40 ?_
    refine pv_ 29 41 ?_
    refine pv_ 30 42 ?_
    refine pv_ 31 43 ?_
    refine pv_ 32 44 ?_
    refine pu_ 33 45 ?_
    refine dn_ ?_
    try go_wp2
    go_ret
    exact ⟨rT_, hB_⟩
   subst c6
   replace H := ip_ H rfl
   replace H := ob_ H; obtain ⟨t288, A7, H⟩ := H; try dsimp only at H
   by_cases c8 : t288 = true
   rotate_left
   ·replace c8 := Bool.eq_false_iff.mpr c8
    subst c8
    replace H := in_ H (show ¬ (false = true) by decide)
    obtain rfl := Option.some.inj H
    have p285 : 0 ≤ (x7_1 : Int) := ode_
    have q285 : x7_1 < (l0.length : Int) := ode_
    obtain ⟨ad285, e285, hx285_0, hx285_1⟩ := at_T58 HR0.out x7_1 p285 q285
    cases e285
    try replace hx285_0 := hc_ HB hx285_0
    try replace hx285_1 := hc_ HB hx285_1
    replace p285 := eq_true p285
    replace q285 := eq_true q285
    try go_wp2_with (first | ((with_reducible refine gate_dst (N := 4) rfl ?_); refine bx_ 4 #[.string (⟨#[]⟩ : ByteArray), .int .i64 0] 58 fun gb286 hg w45 hbox hb => ?_; have BK286 := aM_ (hbox); have GW286 := aM_ (gw_ w hg); have GE286 := aM_ (gw_ w hg); replace HB := aM_ (below_step hB_ hb); clear hb hbox hg; have hz46 := cf2_ BK286.out))
    have n0_ : Aside0 (((w45.setCell ⟨gb286, 0, none⟩ (.string ((rd_T58 l0 x7_1).f0))).setCell ⟨gb286, 1, none⟩ (.int .i64 ((rd_T58 l0 x7_1).f1))).heap[gb286]? = some (.cells #[.string ((rd_T58 l0 x7_1).f0), .int .i64 ((rd_T58 l0 x7_1).f1)] 58 (0, 0))) := ⟨z8_1_⟩
    have n1_ : Aside0 (Below w.heap.size w ((w45.setCell ⟨gb286, 0, none⟩ (.string ((rd_T58 l0 x7_1).f0))).setCell ⟨gb286, 1, none⟩ (.int .i64 ((rd_T58 l0 x7_1).f1)))) := ⟨hB_⟩
    (try clear BK286)
    (try clear HB)
    repeat rw [sd_]
    generalize ((w45.setCell ⟨gb286, 0, none⟩ (.string ((rd_T58 l0 x7_1).f0))).setCell ⟨gb286, 1, none⟩ (.int .i64 ((rd_T58 l0 x7_1).f1))) = w47 at n0_ n1_ ⊢
    have BK286 := n0_
    have HB := n1_
    clear n0_ n1_
    replace BK286 := aM_ (blk_drew BK286.out)
    replace HB := aM_ (below_drew1 HB.out)
    refine st_ 34 (fun w' => w'.cell? ⟨gb286, 0, none⟩ = some (.string ((rd_T58 l0 x7_1).f0)) ∧ w'.cell? ⟨gb286, 1, none⟩ = some (.int .i64 ((rd_T58 l0 x7_1).f1))) [] impl_AreLoci.tab4 impl_AreLoci.bits4 ⟨(blk_cell BK286.out 0).trans rfl, (blk_cell BK286.out 1).trans rfl⟩ fun hHeld HT_ HW_ => ?_
    generalize w47.drew = w48 at BK286 HB hHeld ⊢
    refine pu_ 0 12 ?_
    refine tk_ 1 13 ?_
    refine on_ 2 14 fun K hK => ?_
    refine gS_ Tryz.func72 #[.string ((rd_T58 l0 x7_1).f0), .string (⟨#[97, 98, 99, 100, 101, 102, 103, 104, 105, 106, 107, 108, 109, 110, 111, 112, 113, 114, 115, 116, 117, 118, 119, 120, 121, 122]⟩ : ByteArray)] ?_
    with_reducible refine (impl_isWordOf.calls k1 ((rd_T58 l0 x7_1).f0) (⟨#[97, 98, 99, 100, 101, 102, 103, 104, 105, 106, 107, 108, 109, 110, 111, 112, 113, 114, 115, 116, 117, 118, 119, 120, 121, 122]⟩ : ByteArray) true _ A5.out).mono ?_
    rintro e w' ⟨rfl, ⟨nd, rfl⟩⟩
    refine ⟨_, rfl, ?_⟩
    refine hK.out _ _ ⟨(blk_cell BK286.out 0).trans rfl, (blk_cell BK286.out 1).trans rfl⟩ (fun hHeld => ?_)
    clear hK K
    refine nm_ 14 ?_
    refine pu_ 3 15 ?_
    refine pu_ 4 16 ?_
    refine pu_ 5 17 ?_
    refine tk_ 6 18 ?_
    refine on_ 7 19 fun K hK => ?_
    refine gS_ Tryz.func65 #[.int .i64 ((rd_T58 l0 x7_1).f1)] ?_
    with_reducible refine (impl_isAngle.calls ((rd_T58 l0 x7_1).f1) false _ A7.out).mono ?_
    rintro e w' ⟨rfl, ⟨nd, rfl⟩⟩
    refine ⟨_, rfl, ?_⟩
    refine hK.out _ _ ⟨(blk_cell BK286.out 0).trans rfl, (blk_cell BK286.out 1).trans rfl⟩ (fun hHeld => ?_)
    clear hK K
    refine nm_ 19 ?_
    refine pu_ 8 20 ?_
    refine pu_ 9 21 ?_
    refine pu_ 10 22 ?_
    refine pv_ 11 23 ?_
    refine pv_ 12 24 ?_
    refine pv_ 13 25 ?_
    refine pv_ 14 26 ?_
    refine pv_ 15 27 ?_
    refine pv_ 16 28 ?_
    refine pv_ 17 29 ?_
    refine pv_ 18 30 ?_
    refine pv_ 19 31 ?_
    refine pv_ 20 32 ?_
    refine pv_ 21 33 ?_
    refine pv_ 22 34 ?_
    refine pv_ 23 35 ?_
    refine pu_ 24 36 ?_
    refine pu_ 25 37 ?_
    refine pv_ 26 38 ?_
    refine pv_ 27 39 ?_
    refine pv_ 28 40 ?_
    refine pv_ 29 41 ?_
    refine pv_ 30 42 ?_
    refine pv_ 31 43 ?_
    refine pv_ 32 44 ?_
    refine pu_ 33 45 ?_
    refine dn_ ?_
    try go_wp2
    go_ret
    exact ⟨rT_, hB_⟩
   subst c8
   replace H := ip_ H rfl
   by_cases c9 : x7_1 > 0
   rotate_left
   ·rw [if_neg c9] at H
    have c9b0 : decide (0 < x7_1) = false := decide_eq_false c9
    clear c9
    have c34b0 := eq_true (ode_ : 0 ≤ x7_1)
    replace H := it_ H; obtain ⟨c35b0, c35b1, H⟩ := H
    obtain ⟨y295, hy295⟩ : ∃ y_ : List (S58), y_ = (l0.take (x7_1 : Int).toNat) := ⟨_, rfl⟩
    rw [← hy295] at H
    have Ny295 := Aside0.mk hy295; clear hy295
    replace H := ob_ H; obtain ⟨t299, A36, H⟩ := H; try dsimp only at H
    have HC37 := Aside0.mk H
    clear H
    have p285 : 0 ≤ (x7_1 : Int) := ode_
    have q285 : x7_1 < (l0.length : Int) := ode_
    obtain ⟨ad285, e285, hx285_0, hx285_1⟩ := at_T58 HR0.out x7_1 p285 q285
    cases e285
    try replace hx285_0 := hc_ HB hx285_0
    try replace hx285_1 := hc_ HB hx285_1
    replace p285 := eq_true p285
    replace q285 := eq_true q285
    try go_wp2_with (first | ((with_reducible refine gate_dst (N := 4) rfl ?_); refine bx_ 4 #[.string (⟨#[]⟩ : ByteArray), .int .i64 0] 58 fun gb286 hg w38 hbox hb => ?_; have BK286 := aM_ (hbox); have GW286 := aM_ (gw_ w hg); have GE286 := aM_ (gw_ w hg); replace HB := aM_ (below_step hB_ hb); clear hb hbox hg; have hz39 := cf2_ BK286.out))
    have n0_ : Aside0 (((w38.setCell ⟨gb286, 0, none⟩ (.string ((rd_T58 l0 x7_1).f0))).setCell ⟨gb286, 1, none⟩ (.int .i64 ((rd_T58 l0 x7_1).f1))).heap[gb286]? = some (.cells #[.string ((rd_T58 l0 x7_1).f0), .int .i64 ((rd_T58 l0 x7_1).f1)] 58 (0, 0))) := ⟨z8_1_⟩
    have n1_ : Aside0 (Below w.heap.size w ((w38.setCell ⟨gb286, 0, none⟩ (.string ((rd_T58 l0 x7_1).f0))).setCell ⟨gb286, 1, none⟩ (.int .i64 ((rd_T58 l0 x7_1).f1)))) := ⟨hB_⟩
    (try clear BK286)
    (try clear HB)
    repeat rw [sd_]
    generalize ((w38.setCell ⟨gb286, 0, none⟩ (.string ((rd_T58 l0 x7_1).f0))).setCell ⟨gb286, 1, none⟩ (.int .i64 ((rd_T58 l0 x7_1).f1))) = w40 at n0_ n1_ ⊢
    have BK286 := n0_
    have HB := n1_
    clear n0_ n1_
    replace BK286 := aM_ (blk_drew BK286.out)
    replace HB := aM_ (below_drew1 HB.out)
    refine st_ 34 (fun w' => w'.cell? ⟨gb286, 0, none⟩ = some (.string ((rd_T58 l0 x7_1).f0)) ∧ w'.cell? ⟨gb286, 1, none⟩ = some (.int .i64 ((rd_T58 l0 x7_1).f1))) [] impl_AreLoci.tab4 impl_AreLoci.bits4 ⟨(blk_cell BK286.out 0).trans rfl, (blk_cell BK286.out 1).trans rfl⟩ fun hHeld HT_ HW_ => ?_
    generalize w40.drew = w41 at BK286 HB hHeld ⊢
    refine pu_ 0 12 ?_
    refine tk_ 1 13 ?_
    refine on_ 2 14 fun K hK => ?_
    refine gS_ Tryz.func72 #[.string ((rd_T58 l0 x7_1).f0), .string (⟨#[97, 98, 99, 100, 101, 102, 103, 104, 105, 106, 107, 108, 109, 110, 111, 112, 113, 114, 115, 116, 117, 118, 119, 120, 121, 122]⟩ : ByteArray)] ?_
    with_reducible refine (impl_isWordOf.calls k1 ((rd_T58 l0 x7_1).f0) (⟨#[97, 98, 99, 100, 101, 102, 103, 104, 105, 106, 107, 108, 109, 110, 111, 112, 113, 114, 115, 116, 117, 118, 119, 120, 121, 122]⟩ : ByteArray) true _ A5.out).mono ?_
    rintro e w' ⟨rfl, ⟨nd, rfl⟩⟩
    refine ⟨_, rfl, ?_⟩
    refine hK.out _ _ ⟨(blk_cell BK286.out 0).trans rfl, (blk_cell BK286.out 1).trans rfl⟩ (fun hHeld => ?_)
    clear hK K
    refine nm_ 14 ?_
    refine pu_ 3 15 ?_
    refine pu_ 4 16 ?_
    refine pu_ 5 17 ?_
    refine tk_ 6 18 ?_
    refine on_ 7 19 fun K hK => ?_
    refine gS_ Tryz.func65 #[.int .i64 ((rd_T58 l0 x7_1).f1)] ?_
    with_reducible refine (impl_isAngle.calls ((rd_T58 l0 x7_1).f1) true _ A7.out).mono ?_
    rintro e w' ⟨rfl, ⟨nd, rfl⟩⟩
    refine ⟨_, rfl, ?_⟩
    have q42 : (x7_1 : Int) ≤ ((l0.length : Int) : Int) := ode_
    obtain ⟨i042, hi042, _, hsz42, _⟩ := info_parts info58
    have hroom42 : l0.length ≤ c0 := HC0.out
    have hC42 : Kd.C k58 _ (some ad285) l0.length l0 := HR0.out
    have hcut42 := cut_to (P := Tryz.prog) 23 58 .i64 Tryz.underlying23 hi042 (some ad285) l0.length c0 x7_1 ode_ q42 hroom42
    have hr42 := Kd.C_take (m := (x7_1 : Int).toNat) hC42 (by omega)
    have hy42 : y295.length = (x7_1 : Int).toNat := (by rw [Ny295.out, List.length_take]; omega)
    rw [← Ny295.out] at hr42
    rw [← hy42] at hcut42
    have HR298 := Aside0.mk hr42
    have HC298 := Aside0.mk (show y295.length ≤ c0 from by omega)
    clear hr42 hC42 hroom42 hi042 hsz42
    have KY42 := Aside0.mk hy42
    clear hy42
    replace q42 := eq_true q42
    refine hK.out _ _ ⟨(blk_cell BK286.out 0).trans rfl, (blk_cell BK286.out 1).trans rfl⟩ (fun hHeld => ?_)
    clear hK K
    refine nm_ 19 ?_
    refine pu_ 8 20 ?_
    refine pu_ 9 21 ?_
    refine pu_ 10 22 ?_
    refine pu_ 11 23 ?_
    refine pu_ 12 24 ?_
    refine pu_ 13 25 ?_
    refine pv_ 14 26 ?_
    refine pv_ 15 27 ?_
    refine pv_ 16 28 ?_
    refine pv_ 17 29 ?_
    refine pv_ 18 30 ?_
    refine pv_ 19 31 ?_
    refine pv_ 20 32 ?_
    refine pv_ 21 33 ?_
    refine pv_ 22 34 ?_
    refine pu_ 23 35 ?_
    refine pu_ 24 36 ?_
    refine pu_ 25 37 ?_
    refine pu_ 26 38 ?_
    refine pu_ 27 39 ?_
    refine pu_ 28 40 ?_
    refine pu_ 29 41 ?_
    refine tk_ 30 42 ?_
    refine on_ 31 43 fun K hK => ?_
    refine gS_ Tryz.func48 #[.slice (some ad285) y295.length c0, .string ((rd_T58 l0 x7_1).f0)] ?_
    with_reducible refine (impl_locusOf.calls k1 _ _ y295 ((rd_T58 l0 x7_1).f0) t299 _ ?side1 ?side2 A36.out).mono ?_
    (case side1 => repeat (first | exact (Kd.C_below HR298.out hB_) | (with_reducible first | apply cA_ | apply cN_ | apply cD_)))
    (case side2 => exact HC298.out)
    rintro e w43 ⟨rfl, hb⟩
    refine ⟨_, rfl, ?_⟩
    replace BK286 := aM_ (blk_below (g := gb286) (kR_ BK286) hb)
    replace HB := aM_ (below_step hB_ hb)
    (try clear hb)
    (try clear hb2)
    (try clear hk)
    (try clear hi)
    refine hK.out _ _ ⟨(blk_cell BK286.out 0).trans rfl, (blk_cell BK286.out 1).trans rfl⟩ (fun hHeld => ?_)
    clear hK K
    refine nm_ 43 ?_
    refine pu_ 32 44 ?_
    refine pu_ 33 45 ?_
    refine dn_ ?_
    go_upto_if 45 with (fail)
    have H := HC37.out
    clear HC37
    by_cases c44 : t299 ≥ 0
    ·rw [if_pos c44] at H
     have c44b0 : decide (0 ≤ t299) = true := decide_eq_true c44
     clear c44
     (first | rw [c44b0] | (simp only [i64_w, i32_w]; rw [c44b0]) | skip)
     obtain rfl := Option.some.inj H
     go_wp2
     go_ret
     exact ⟨rT_, hB_⟩
    rw [if_neg c44] at H
    have c44b0 : decide (0 ≤ t299) = false := decide_eq_false c44
    clear c44
    (first | rw [c44b0] | (simp only [i64_w, i32_w]; rw [c44b0]) | skip)
    have H' := Aside0.mk H
    clear H
    go_wp2
    go_roundg k1
    case measure => have := HK1.out; omega
    case rel => exact ⟨(wrap64 (x7_1 + 1)), z8_0_, H', ⟨by have := HK1.out; omega⟩, ⟨hB_⟩⟩
   rw [if_pos c9] at H
   have c9b0 : decide (0 < x7_1) = true := decide_eq_true c9
   clear c9
   obtain ⟨ji10, hji10⟩ : ∃ j_ : Int, (wrap64 (x7_1 - 1)) = j_ := ⟨_, rfl⟩
   replace H : (if 0 ≤ (ji10) then (if (ji10) < (l0.length : Int) then (if ((rd_T58 l0 x7_1).f1) ≤ ((rd_T58 l0 (ji10)).f1) then (some false) else (if x7_1 ≤ (l0.length : Int) then ((impl_locusOf.f k1 (l0.take (x7_1 : Int).toNat) ((rd_T58 l0 x7_1).f0)).bind fun t294 => (if t294 ≥ 0 then (some false) else (impl_AreLoci.l0 k1 l0 l0 (l0.length : Int) (wrap64 (x7_1 + 1))))) else (none))) else (none)) else (none)) = some r := by first | (rw [hji10] at H; exact H) | (simp only [hji10] at H ⊢; exact H)
   (try rw [hji10] at A5)
   (try rw [hji10] at A7)
   have hji10w : (IntKind.i64.wrap (x7_1 - 1)) = ji10 := (i64_w _).trans hji10
   replace H := ig_ H; obtain ⟨c11b0, H⟩ := H
   replace H := ig_ H; obtain ⟨c12b0, H⟩ := H
   replace H := iT_ H; obtain ⟨c13b0, H⟩ | ⟨c13b0, H⟩ := H
   ·obtain rfl := Option.some.inj H
    have p285 : 0 ≤ (x7_1 : Int) := ode_
    have q285 : x7_1 < (l0.length : Int) := ode_
    obtain ⟨ad285, e285, hx285_0, hx285_1⟩ := at_T58 HR0.out x7_1 p285 q285
    cases e285
    try replace hx285_0 := hc_ HB hx285_0
    try replace hx285_1 := hc_ HB hx285_1
    replace p285 := eq_true p285
    replace q285 := eq_true q285
    try go_wp2_with (first | ((with_reducible refine gate_dst (N := 4) rfl ?_); refine bx_ 4 #[.string (⟨#[]⟩ : ByteArray), .int .i64 0] 58 fun gb286 hg w14 hbox hb => ?_; have BK286 := aM_ (hbox); have GW286 := aM_ (gw_ w hg); have GE286 := aM_ (gw_ w hg); replace HB := aM_ (below_step hB_ hb); clear hb hbox hg; have hz15 := cf2_ BK286.out))
    have n0_ : Aside0 (((w14.setCell ⟨gb286, 0, none⟩ (.string ((rd_T58 l0 x7_1).f0))).setCell ⟨gb286, 1, none⟩ (.int .i64 ((rd_T58 l0 x7_1).f1))).heap[gb286]? = some (.cells #[.string ((rd_T58 l0 x7_1).f0), .int .i64 ((rd_T58 l0 x7_1).f1)] 58 (0, 0))) := ⟨z8_1_⟩
    have n1_ : Aside0 (Below w.heap.size w ((w14.setCell ⟨gb286, 0, none⟩ (.string ((rd_T58 l0 x7_1).f0))).setCell ⟨gb286, 1, none⟩ (.int .i64 ((rd_T58 l0 x7_1).f1)))) := ⟨hB_⟩
    (try clear BK286)
    (try clear HB)
    repeat rw [sd_]
    generalize ((w14.setCell ⟨gb286, 0, none⟩ (.string ((rd_T58 l0 x7_1).f0))).setCell ⟨gb286, 1, none⟩ (.int .i64 ((rd_T58 l0 x7_1).f1))) = w16 at n0_ n1_ ⊢
    have BK286 := n0_
    have HB := n1_
    clear n0_ n1_
    replace BK286 := aM_ (blk_drew BK286.out)
    replace HB := aM_ (below_drew1 HB.out)
    have p289 : 0 ≤ ((ji10) : Int) := ode_
    have q289 : (ji10) < (l0.length : Int) := ode_
    obtain ⟨ad289, e289, hx289_0, hx289_1⟩ := at_T58 HR0.out (ji10) p289 q289
    have hw289_1 := hx289_1
    have hw289_0 := hx289_0
    obtain rfl : ad285 = ad289 := (by injection e289)
    try replace hx289_0 := hc_ HB hx289_0
    try replace hx289_1 := hc_ HB hx289_1
    replace p289 := eq_true p289
    replace q289 := eq_true q289
    refine st_ 34 (fun w' => w'.cell? ⟨gb286, 0, none⟩ = some (.string ((rd_T58 l0 x7_1).f0)) ∧ w'.cell? ⟨gb286, 1, none⟩ = some (.int .i64 ((rd_T58 l0 x7_1).f1)) ∧ w'.cell? (ad285.add (((ji10)).toNat * 2)) = some (.string ((rd_T58 l0 (ji10)).f0)) ∧ w'.cell? ⟨(ad285.add (((ji10)).toNat * 2)).block, (ad285.add (((ji10)).toNat * 2)).off + 1, none⟩ = some (.int .i64 ((rd_T58 l0 (ji10)).f1))) [] impl_AreLoci.tab4 impl_AreLoci.bits4 ⟨(blk_cell BK286.out 0).trans rfl, (blk_cell BK286.out 1).trans rfl, ((HB.out.cell (World.block_lt_of_cell? w _ hw289_0)).trans hw289_0), ((HB.out.cell (World.block_lt_of_cell? w _ hw289_1)).trans hw289_1)⟩ fun hHeld HT_ HW_ => ?_
    generalize w16.drew = w17 at BK286 HB hx289_0 hx289_1 hHeld ⊢
    refine pu_ 0 12 ?_
    refine tk_ 1 13 ?_
    refine on_ 2 14 fun K hK => ?_
    refine gS_ Tryz.func72 #[.string ((rd_T58 l0 x7_1).f0), .string (⟨#[97, 98, 99, 100, 101, 102, 103, 104, 105, 106, 107, 108, 109, 110, 111, 112, 113, 114, 115, 116, 117, 118, 119, 120, 121, 122]⟩ : ByteArray)] ?_
    with_reducible refine (impl_isWordOf.calls k1 ((rd_T58 l0 x7_1).f0) (⟨#[97, 98, 99, 100, 101, 102, 103, 104, 105, 106, 107, 108, 109, 110, 111, 112, 113, 114, 115, 116, 117, 118, 119, 120, 121, 122]⟩ : ByteArray) true _ A5.out).mono ?_
    rintro e w' ⟨rfl, ⟨nd, rfl⟩⟩
    refine ⟨_, rfl, ?_⟩
    refine hK.out _ _ ⟨(blk_cell BK286.out 0).trans rfl, (blk_cell BK286.out 1).trans rfl, ((HB.out.cell (World.block_lt_of_cell? w _ hw289_0)).trans hw289_0), ((HB.out.cell (World.block_lt_of_cell? w _ hw289_1)).trans hw289_1)⟩ (fun hHeld => ?_)
    clear hK K
    refine nm_ 14 ?_
    refine pu_ 3 15 ?_
    refine pu_ 4 16 ?_
    refine pu_ 5 17 ?_
    refine tk_ 6 18 ?_
    refine on_ 7 19 fun K hK => ?_
    refine gS_ Tryz.func65 #[.int .i64 ((rd_T58 l0 x7_1).f1)] ?_
    with_reducible refine (impl_isAngle.calls ((rd_T58 l0 x7_1).f1) true _ A7.out).mono ?_
    rintro e w' ⟨rfl, ⟨nd, rfl⟩⟩
    refine ⟨_, rfl, ?_⟩
    refine hK.out _ _ ⟨(blk_cell BK286.out 0).trans rfl, (blk_cell BK286.out 1).trans rfl, ((HB.out.cell (World.block_lt_of_cell? w _ hw289_0)).trans hw289_0), ((HB.out.cell (World.block_lt_of_cell? w _ hw289_1)).trans hw289_1)⟩ (fun hHeld => ?_)
    clear hK K
    refine nm_ 19 ?_
    refine pu_ 8 20 ?_
    refine pu_ 9 21 ?_
    refine pu_ 10 22 ?_
    refine pu_ 11 23 ?_
    refine pu_ 12 24 ?_
    refine pu_ 13 25 ?_
    refine pu_ 14 26 ?_
    refine pu_ 16 28 ?_
    refine pu_ 17 29 ?_
    refine pu_ 18 30 ?_
    refine pu_ 19 31 ?_
    refine pu_ 20 32 ?_
    refine tk_ 15 27 ?_
    refine tk_ 21 33 ?_
    refine pu_ 22 34 ?_
    refine pu_ 23 35 ?_
    refine pu_ 24 36 ?_
    refine pu_ 25 37 ?_
    refine pv_ 26 38 ?_
    refine pv_ 27 39 ?_
    refine pv_ 28 40 ?_
    refine pv_ 29 41 ?_
    refine pv_ 30 42 ?_
    refine pv_ 31 43 ?_
    refine pv_ 32 44 ?_
    refine pu_ 33 45 ?_
    refine dn_ ?_
    try go_wp2
    go_ret
    exact ⟨z8_2_, hB_⟩
   have c18b0 := eq_true (ode_ : 0 ≤ x7_1)
   replace H := it_ H; obtain ⟨c19b0, c19b1, H⟩ := H
   obtain ⟨y290, hy290⟩ : ∃ y_ : List (S58), y_ = (l0.take (x7_1 : Int).toNat) := ⟨_, rfl⟩
   rw [← hy290] at H
   have Ny290 := Aside0.mk hy290; clear hy290
   replace H := ob_ H; obtain ⟨t294, A20, H⟩ := H; try dsimp only at H
   by_cases c21 : t294 ≥ 0
   rotate_left
   ·rw [if_neg c21] at H
    have c21b0 : decide (0 ≤ t294) = false := decide_eq_false c21
    clear c21
    have H' := Aside0.mk H
    clear H
    have p285 : 0 ≤ (x7_1 : Int) := ode_
    have q285 : x7_1 < (l0.length : Int) := ode_
    obtain ⟨ad285, e285, hx285_0, hx285_1⟩ := at_T58 HR0.out x7_1 p285 q285
    cases e285
    try replace hx285_0 := hc_ HB hx285_0
    try replace hx285_1 := hc_ HB hx285_1
    replace p285 := eq_true p285
    replace q285 := eq_true q285
    try go_wp2_with (first | ((with_reducible refine gate_dst (N := 4) rfl ?_); refine bx_ 4 #[.string (⟨#[]⟩ : ByteArray), .int .i64 0] 58 fun gb286 hg w28 hbox hb => ?_; have BK286 := aM_ (hbox); have GW286 := aM_ (gw_ w hg); have GE286 := aM_ (gw_ w hg); replace HB := aM_ (below_step hB_ hb); clear hb hbox hg; have hz29 := cf2_ BK286.out))
    have n0_ : Aside0 (((w28.setCell ⟨gb286, 0, none⟩ (.string ((rd_T58 l0 x7_1).f0))).setCell ⟨gb286, 1, none⟩ (.int .i64 ((rd_T58 l0 x7_1).f1))).heap[gb286]? = some (.cells #[.string ((rd_T58 l0 x7_1).f0), .int .i64 ((rd_T58 l0 x7_1).f1)] 58 (0, 0))) := ⟨z8_1_⟩
    have n1_ : Aside0 (Below w.heap.size w ((w28.setCell ⟨gb286, 0, none⟩ (.string ((rd_T58 l0 x7_1).f0))).setCell ⟨gb286, 1, none⟩ (.int .i64 ((rd_T58 l0 x7_1).f1)))) := ⟨hB_⟩
    (try clear BK286)
    (try clear HB)
    repeat rw [sd_]
    generalize ((w28.setCell ⟨gb286, 0, none⟩ (.string ((rd_T58 l0 x7_1).f0))).setCell ⟨gb286, 1, none⟩ (.int .i64 ((rd_T58 l0 x7_1).f1))) = w30 at n0_ n1_ ⊢
    have BK286 := n0_
    have HB := n1_
    clear n0_ n1_
    replace BK286 := aM_ (blk_drew BK286.out)
    replace HB := aM_ (below_drew1 HB.out)
    have p289 : 0 ≤ ((ji10) : Int) := ode_
    have q289 : (ji10) < (l0.length : Int) := ode_
    obtain ⟨ad289, e289, hx289_0, hx289_1⟩ := at_T58 HR0.out (ji10) p289 q289
    have hw289_1 := hx289_1
    have hw289_0 := hx289_0
    obtain rfl : ad285 = ad289 := (by injection e289)
    try replace hx289_0 := hc_ HB hx289_0
    try replace hx289_1 := hc_ HB hx289_1
    replace p289 := eq_true p289
    replace q289 := eq_true q289
    refine st_ 34 (fun w' => w'.cell? ⟨gb286, 0, none⟩ = some (.string ((rd_T58 l0 x7_1).f0)) ∧ w'.cell? ⟨gb286, 1, none⟩ = some (.int .i64 ((rd_T58 l0 x7_1).f1)) ∧ w'.cell? (ad285.add (((ji10)).toNat * 2)) = some (.string ((rd_T58 l0 (ji10)).f0)) ∧ w'.cell? ⟨(ad285.add (((ji10)).toNat * 2)).block, (ad285.add (((ji10)).toNat * 2)).off + 1, none⟩ = some (.int .i64 ((rd_T58 l0 (ji10)).f1))) [] impl_AreLoci.tab4 impl_AreLoci.bits4 ⟨(blk_cell BK286.out 0).trans rfl, (blk_cell BK286.out 1).trans rfl, ((HB.out.cell (World.block_lt_of_cell? w _ hw289_0)).trans hw289_0), ((HB.out.cell (World.block_lt_of_cell? w _ hw289_1)).trans hw289_1)⟩ fun hHeld HT_ HW_ => ?_
    generalize w30.drew = w31 at BK286 HB hx289_0 hx289_1 hHeld ⊢
    refine pu_ 0 12 ?_
    refine tk_ 1 13 ?_
    refine on_ 2 14 fun K hK => ?_
    refine gS_ Tryz.func72 #[.string ((rd_T58 l0 x7_1).f0), .string (⟨#[97, 98, 99, 100, 101, 102, 103, 104, 105, 106, 107, 108, 109, 110, 111, 112, 113, 114, 115, 116, 117, 118, 119, 120, 121, 122]⟩ : ByteArray)] ?_
    with_reducible refine (impl_isWordOf.calls k1 ((rd_T58 l0 x7_1).f0) (⟨#[97, 98, 99, 100, 101, 102, 103, 104, 105, 106, 107, 108, 109, 110, 111, 112, 113, 114, 115, 116, 117, 118, 119, 120, 121, 122]⟩ : ByteArray) true _ A5.out).mono ?_
    rintro e w' ⟨rfl, ⟨nd, rfl⟩⟩
    refine ⟨_, rfl, ?_⟩
    refine hK.out _ _ ⟨(blk_cell BK286.out 0).trans rfl, (blk_cell BK286.out 1).trans rfl, ((HB.out.cell (World.block_lt_of_cell? w _ hw289_0)).trans hw289_0), ((HB.out.cell (World.block_lt_of_cell? w _ hw289_1)).trans hw289_1)⟩ (fun hHeld => ?_)
    clear hK K
    refine nm_ 14 ?_
    refine pu_ 3 15 ?_
    refine pu_ 4 16 ?_
    refine pu_ 5 17 ?_
    refine tk_ 6 18 ?_
    refine on_ 7 19 fun K hK => ?_
    refine gS_ Tryz.func65 #[.int .i64 ((rd_T58 l0 x7_1).f1)] ?_
    with_reducible refine (impl_isAngle.calls ((rd_T58 l0 x7_1).f1) true _ A7.out).mono ?_
    rintro e w' ⟨rfl, ⟨nd, rfl⟩⟩
    refine ⟨_, rfl, ?_⟩
    have q32 : (x7_1 : Int) ≤ ((l0.length : Int) : Int) := ode_
    obtain ⟨i032, hi032, _, hsz32, _⟩ := info_parts info58
    have hroom32 : l0.length ≤ c0 := HC0.out
    have hC32 : Kd.C k58 _ (some ad285) l0.length l0 := HR0.out
    have hcut32 := cut_to (P := Tryz.prog) 23 58 .i64 Tryz.underlying23 hi032 (some ad285) l0.length c0 x7_1 ode_ q32 hroom32
    have hr32 := Kd.C_take (m := (x7_1 : Int).toNat) hC32 (by omega)
    have hy32 : y290.length = (x7_1 : Int).toNat := (by rw [Ny290.out, List.length_take]; omega)
    rw [← Ny290.out] at hr32
    rw [← hy32] at hcut32
    have HR293 := Aside0.mk hr32
    have HC293 := Aside0.mk (show y290.length ≤ c0 from by omega)
    clear hr32 hC32 hroom32 hi032 hsz32
    have KY32 := Aside0.mk hy32
    clear hy32
    replace q32 := eq_true q32
    refine hK.out _ _ ⟨(blk_cell BK286.out 0).trans rfl, (blk_cell BK286.out 1).trans rfl, ((HB.out.cell (World.block_lt_of_cell? w _ hw289_0)).trans hw289_0), ((HB.out.cell (World.block_lt_of_cell? w _ hw289_1)).trans hw289_1)⟩ (fun hHeld => ?_)
    clear hK K
    refine nm_ 19 ?_
    refine pu_ 8 20 ?_
    refine pu_ 9 21 ?_
    refine pu_ 10 22 ?_
    refine pu_ 11 23 ?_
    refine pu_ 12 24 ?_
    refine pu_ 13 25 ?_
    refine pu_ 14 26 ?_
    refine pu_ 16 28 ?_
    refine pu_ 17 29 ?_
    refine pu_ 18 30 ?_
    refine pu_ 19 31 ?_
    refine pu_ 20 32 ?_
    refine tk_ 15 27 ?_
    refine tk_ 21 33 ?_
    refine pu_ 22 34 ?_
    refine pu_ 23 35 ?_
    refine pu_ 24 36 ?_
    refine pu_ 25 37 ?_
    refine pu_ 26 38 ?_
    refine pu_ 27 39 ?_
    refine pu_ 28 40 ?_
    refine pu_ 29 41 ?_
    refine tk_ 30 42 ?_
    refine on_ 31 43 fun K hK => ?_
    refine gS_ Tryz.func48 #[.slice (some ad285) y290.length c0, .string ((rd_T58 l0 x7_1).f0)] ?_
    with_reducible refine (impl_locusOf.calls k1 _ _ y290 ((rd_T58 l0 x7_1).f0) t294 _ ?side1 ?side2 A20.out).mono ?_
    (case side1 => repeat (first | exact (Kd.C_below HR293.out hB_) | (with_reducible first | apply cA_ | apply cN_ | apply cD_)))
    (case side2 => exact HC293.out)
    rintro e w33 ⟨rfl, hb⟩
    refine ⟨_, rfl, ?_⟩
    replace BK286 := aM_ (blk_below (g := gb286) (kR_ BK286) hb)
    replace HB := aM_ (below_step hB_ hb)
    (try clear hb)
    (try clear hb2)
    (try clear hk)
    (try clear hi)
    refine hK.out _ _ ⟨(blk_cell BK286.out 0).trans rfl, (blk_cell BK286.out 1).trans rfl, ((HB.out.cell (World.block_lt_of_cell? w _ hw289_0)).trans hw289_0), ((HB.out.cell (World.block_lt_of_cell? w _ hw289_1)).trans hw289_1)⟩ (fun hHeld => ?_)
    clear hK K
    refine nm_ 43 ?_
    refine pu_ 32 44 ?_
    refine pu_ 33 45 ?_
    refine dn_ ?_
    try go_wp2
    go_roundg k1
    case measure => have := HK1.out; omega
    case rel => exact ⟨(wrap64 (x7_1 + 1)), z8_0_, H', ⟨by have := HK1.out; omega⟩, ⟨hB_⟩⟩
   rw [if_pos c21] at H
   have c21b0 : decide (0 ≤ t294) = true := decide_eq_true c21
   clear c21
   obtain rfl := Option.some.inj H
   have p285 : 0 ≤ (x7_1 : Int) := ode_
   have q285 : x7_1 < (l0.length : Int) := ode_
   obtain ⟨ad285, e285, hx285_0, hx285_1⟩ := at_T58 HR0.out x7_1 p285 q285
   cases e285
   try replace hx285_0 := hc_ HB hx285_0
   try replace hx285_1 := hc_ HB hx285_1
   replace p285 := eq_true p285
   replace q285 := eq_true q285
   try go_wp2_with (first | ((with_reducible refine gate_dst (N := 4) rfl ?_); refine bx_ 4 #[.string (⟨#[]⟩ : ByteArray), .int .i64 0] 58 fun gb286 hg w22 hbox hb => ?_; have BK286 := aM_ (hbox); have GW286 := aM_ (gw_ w hg); have GE286 := aM_ (gw_ w hg); replace HB := aM_ (below_step hB_ hb); clear hb hbox hg; have hz23 := cf2_ BK286.out))
   have n0_ : Aside0 (((w22.setCell ⟨gb286, 0, none⟩ (.string ((rd_T58 l0 x7_1).f0))).setCell ⟨gb286, 1, none⟩ (.int .i64 ((rd_T58 l0 x7_1).f1))).heap[gb286]? = some (.cells #[.string ((rd_T58 l0 x7_1).f0), .int .i64 ((rd_T58 l0 x7_1).f1)] 58 (0, 0))) := ⟨z8_1_⟩
   have n1_ : Aside0 (Below w.heap.size w ((w22.setCell ⟨gb286, 0, none⟩ (.string ((rd_T58 l0 x7_1).f0))).setCell ⟨gb286, 1, none⟩ (.int .i64 ((rd_T58 l0 x7_1).f1)))) := ⟨hB_⟩
   (try clear BK286)
   (try clear HB)
   repeat rw [sd_]
   generalize ((w22.setCell ⟨gb286, 0, none⟩ (.string ((rd_T58 l0 x7_1).f0))).setCell ⟨gb286, 1, none⟩ (.int .i64 ((rd_T58 l0 x7_1).f1))) = w24 at n0_ n1_ ⊢
   have BK286 := n0_
   have HB := n1_
   clear n0_ n1_
   replace BK286 := aM_ (blk_drew BK286.out)
   replace HB := aM_ (below_drew1 HB.out)
   have p289 : 0 ≤ ((ji10) : Int) := ode_
   have q289 : (ji10) < (l0.length : Int) := ode_
   obtain ⟨ad289, e289, hx289_0, hx289_1⟩ := at_T58 HR0.out (ji10) p289 q289
   have hw289_1 := hx289_1
   have hw289_0 := hx289_0
   obtain rfl : ad285 = ad289 := (by injection e289)
   try replace hx289_0 := hc_ HB hx289_0
   try replace hx289_1 := hc_ HB hx289_1
   replace p289 := eq_true p289
   replace q289 := eq_true q289
   refine st_ 34 (fun w' => w'.cell? ⟨gb286, 0, none⟩ = some (.string ((rd_T58 l0 x7_1).f0)) ∧ w'.cell? ⟨gb286, 1, none⟩ = some (.int .i64 ((rd_T58 l0 x7_1).f1)) ∧ w'.cell? (ad285.add (((ji10)).toNat * 2)) = some (.string ((rd_T58 l0 (ji10)).f0)) ∧ w'.cell? ⟨(ad285.add (((ji10)).toNat * 2)).block, (ad285.add (((ji10)).toNat * 2)).off + 1, none⟩ = some (.int .i64 ((rd_T58 l0 (ji10)).f1))) [] impl_AreLoci.tab4 impl_AreLoci.bits4 ⟨(blk_cell BK286.out 0).trans rfl, (blk_cell BK286.out 1).trans rfl, ((HB.out.cell (World.block_lt_of_cell? w _ hw289_0)).trans hw289_0), ((HB.out.cell (World.block_lt_of_cell? w _ hw289_1)).trans hw289_1)⟩ fun hHeld HT_ HW_ => ?_
   generalize w24.drew = w25 at BK286 HB hx289_0 hx289_1 hHeld ⊢
   refine pu_ 0 12 ?_
   refine tk_ 1 13 ?_
   refine on_ 2 14 fun K hK => ?_
   refine gS_ Tryz.func72 #[.string ((rd_T58 l0 x7_1).f0), .string (⟨#[97, 98, 99, 100, 101, 102, 103, 104, 105, 106, 107, 108, 109, 110, 111, 112, 113, 114, 115, 116, 117, 118, 119, 120, 121, 122]⟩ : ByteArray)] ?_
   with_reducible refine (impl_isWordOf.calls k1 ((rd_T58 l0 x7_1).f0) (⟨#[97, 98, 99, 100, 101, 102, 103, 104, 105, 106, 107, 108, 109, 110, 111, 112, 113, 114, 115, 116, 117, 118, 119, 120, 121, 122]⟩ : ByteArray) true _ A5.out).mono ?_
   rintro e w' ⟨rfl, ⟨nd, rfl⟩⟩
   refine ⟨_, rfl, ?_⟩
   refine hK.out _ _ ⟨(blk_cell BK286.out 0).trans rfl, (blk_cell BK286.out 1).trans rfl, ((HB.out.cell (World.block_lt_of_cell? w _ hw289_0)).trans hw289_0), ((HB.out.cell (World.block_lt_of_cell? w _ hw289_1)).trans hw289_1)⟩ (fun hHeld => ?_)
   clear hK K
   refine nm_ 14 ?_
   refine pu_ 3 15 ?_
   refine pu_ 4 16 ?_
   refine pu_ 5 17 ?_
   refine tk_ 6 18 ?_
   refine on_ 7 19 fun K hK => ?_
   refine gS_ Tryz.func65 #[.int .i64 ((rd_T58 l0 x7_1).f1)] ?_
   with_reducible refine (impl_isAngle.calls ((rd_T58 l0 x7_1).f1) true _ A7.out).mono ?_
   rintro e w' ⟨rfl, ⟨nd, rfl⟩⟩
   refine ⟨_, rfl, ?_⟩
   have q26 : (x7_1 : Int) ≤ ((l0.length : Int) : Int) := ode_
   obtain ⟨i026, hi026, _, hsz26, _⟩ := info_parts info58
   have hroom26 : l0.length ≤ c0 := HC0.out
   have hC26 : Kd.C k58 _ (some ad285) l0.length l0 := HR0.out
   have hcut26 := cut_to (P := Tryz.prog) 23 58 .i64 Tryz.underlying23 hi026 (some ad285) l0.length c0 x7_1 ode_ q26 hroom26
   have hr26 := Kd.C_take (m := (x7_1 : Int).toNat) hC26 (by omega)
   have hy26 : y290.length = (x7_1 : Int).toNat := (by rw [Ny290.out, List.length_take]; omega)
   rw [← Ny290.out] at hr26
   rw [← hy26] at hcut26
   have HR293 := Aside0.mk hr26
   have HC293 := Aside0.mk (show y290.length ≤ c0 from by omega)
   clear hr26 hC26 hroom26 hi026 hsz26
   have KY26 := Aside0.mk hy26
   clear hy26
   replace q26 := eq_true q26
   refine hK.out _ _ ⟨(blk_cell BK286.out 0).trans rfl, (blk_cell BK286.out 1).trans rfl, ((HB.out.cell (World.block_lt_of_cell? w _ hw289_0)).trans hw289_0), ((HB.out.cell (World.block_lt_of_cell? w _ hw289_1)).trans hw289_1)⟩ (fun hHeld => ?_)
   clear hK K
   refine nm_ 19 ?_
   refine pu_ 8 20 ?_
   refine pu_ 9 21 ?_
   refine pu_ 10 22 ?_
   refine pu_ 11 23 ?_
   refine pu_ 12 24 ?_
   refine pu_ 13 25 ?_
   refine pu_ 14 26 ?_
   refine pu_ 16 28 ?_
   refine pu_ 17 29 ?_
   refine pu_ 18 30 ?_
   refine pu_ 19 31 ?_
   refine pu_ 20 32 ?_
   refine tk_ 15 27 ?_
   refine tk_ 21 33 ?_
   refine pu_ 22 34 ?_
   refine pu_ 23 35 ?_
   refine pu_ 24 36 ?_
   refine pu_ 25 37 ?_
   refine pu_ 26 38 ?_
   refine pu_ 27 39 ?_
   refine pu_ 28 40 ?_
   refine pu_ 29 41 ?_
   refine tk_ 30 42 ?_
   refine on_ 31 43 fun K hK => ?_
   refine gS_ Tryz.func48 #[.slice (some ad285) y290.length c0, .string ((rd_T58 l0 x7_1).f0)] ?_
   with_reducible refine (impl_locusOf.calls k1 _ _ y290 ((rd_T58 l0 x7_1).f0) t294 _ ?side1 ?side2 A20.out).mono ?_
   (case side1 => repeat (first | exact (Kd.C_below HR293.out hB_) | (with_reducible first | apply cA_ | apply cN_ | apply cD_)))
   (case side2 => exact HC293.out)
   rintro e w27 ⟨rfl, hb⟩
   refine ⟨_, rfl, ?_⟩
   replace BK286 := aM_ (blk_below (g := gb286) (kR_ BK286) hb)
   replace HB := aM_ (below_step hB_ hb)
   (try clear hb)
   (try clear hb2)
   (try clear hk)
   (try clear hi)
   refine hK.out _ _ ⟨(blk_cell BK286.out 0).trans rfl, (blk_cell BK286.out 1).trans rfl, ((HB.out.cell (World.block_lt_of_cell? w _ hw289_0)).trans hw289_0), ((HB.out.cell (World.block_lt_of_cell? w _ hw289_1)).trans hw289_1)⟩ (fun hHeld => ?_)
   clear hK K
   refine nm_ 43 ?_
   refine pu_ 32 44 ?_
   refine pu_ 33 45 ?_
   refine dn_ ?_
   try go_wp2
   go_ret
   exact ⟨z8_2_, hB_⟩

end Go.Proofs.YtfkdlfbjkdkffaaGreatDoor.PFnPoints
