/- Printed for this claim: functions of the program as Lean functions, and that the calls answer so. -/
import Derived.Test.YtbfkpgmdbafmhaaPFnTierCountsx0
import Derived.Test.YtbfkpgmdbafmhaaPFnTierCountsx1
import Derived.Test.YtbfkpgmdbafmhaaPFnTierCountsx4
import Derived.Test.YtbfkpgmdbafmhaaPFnTierCountsx5
import Derived.Test.YtbfkpgmdbafmhaaPFnTierCountsx9
import Derived.Test.YtbfkpgmdbafmhaaPFnTierCountsx10
import Derived.Test.YtbfkpgmdbafmhaaPFnTierCountsxD0
import Derived.Test.YtbfkpgmdbafmhaaPFnTierCountsxD1
namespace Go.Proofs.Ytbfkpgmdbafmhaa.PFnTierCounts
open Go.RowKit Go.Proofs.YtbfkpgmdbafmhaaW.PrintWords Go.Proofs.YtbfkpgmdbafmhaaW.PrintLast Go.Proofs.YtbfkpgmdbafmhaaW.PrintMore
theorem z11_0_ {p : Prop} (h : p := by repeat (first | exact (Kd.C_below HR0.out HB.out) | (with_reducible first | apply cA_ | apply cN_ | apply cD_))) : p := h
theorem z11_1_ {p : Prop} (h : p := by first | rfl | (simp; done) | (simp [*]; done)) : p := h
theorem z11_2_ {p : Prop} (h : p := by (with_reducible repeat (first | apply kN_ | apply kD_ | apply kA_)); refine blk_put (cs := #[.int .i64 ((rd_T50 l0 x26_2).f0), .int .i64 ((rd_T50 l0 x26_2).f1), .string (⟨#[]⟩ : ByteArray)]) ?_ 2 _ rfl; (with_reducible repeat (first | apply kN_ | apply kD_ | apply kA_)); refine blk_put (cs := #[.int .i64 ((rd_T50 l0 x26_2).f0), .int .i64 0, .string (⟨#[]⟩ : ByteArray)]) ?_ 1 _ rfl; (with_reducible repeat (first | apply kN_ | apply kD_ | apply kA_)); refine blk_put (cs := #[.int .i64 0, .int .i64 0, .string (⟨#[]⟩ : ByteArray)]) ?_ 0 _ rfl; (with_reducible repeat (first | apply kN_ | apply kD_ | apply kA_)); exact BK452.out) : p := h
theorem z11_3_ {p : Prop} (h : p := by have := HJ3.out; have := HK2.out; omega) : p := h
set_option maxHeartbeats 8000000
set_option maxRecDepth 100000
attribute [local go_sem] max2_int min2_int max_two min_two max_three min_three max_four min_four isSome_setCell   -- for this text's walks alone
set_option linter.unusedVariables false
set_option linter.unusedSimpArgs false

/-! ### spec_quAway: function 44 -/
theorem spec_quAway.calls (a0_0 : Int) (a0_1 : Int) (a0_2 : ByteArray) (a1 : Int) (r : Int) (w : World) (h : spec_quAway.f a0_0 a0_1 a0_2 a1 = some r) :
 Calls Try.prog 44 #[.agg #[.int .i64 a0_0, .int .i64 a0_1, .string a0_2], .int .i64 a1] w fun e w' => e = .returned (.int .i64 r) ∧ Below w.heap.size w w' := by
 have hu50 := Try.underlying50
 have HB := Aside0.mk (Below.refl w.heap.size w)
 have H : ((spec_l1Most.f (wrap64 (a0_0 - a1)) (wrap64 ((wrap64 (a1 - a0_1)) + 1))).bind fun t446 => ((spec_l1Most.f 0 t446).bind fun t447 => (some t447))) = some r := h
 clear h
 replace H := ob_ H; obtain ⟨t446, A3, H⟩ := H; try dsimp only at H
 replace H := ob_ H; obtain ⟨t447, A4, H⟩ := H; try dsimp only at H
 obtain rfl := Option.some.inj H
 go_enter Try.func44, Try.ntmps44
 go_wp2_with (first | ((with_reducible refine gate_dst (N := 2) rfl ?_); refine bx_ 2 #[.int .i64 a0_0, .int .i64 a0_1, .string a0_2] 50 fun gb445 hg w5 hbox hb => ?_; have BK445 := aM_ (hbox); have GW445 := aM_ (gw_ w hg); have GE445 := aM_ (gw_ w hg); replace HB := aM_ (below_step hB_ hb); clear hb hbox hg; have hz6 := cf3_ BK445.out; clear BK445) | (refine gM_ (some 14) Try.func62 #[.int .i64 (wrap64 (a0_0 - a1)), .int .i64 (wrap64 ((wrap64 (a1 - a0_1)) + 1))] ?_; (with_reducible refine (spec_l1Most.calls (wrap64 (a0_0 - a1)) (wrap64 ((wrap64 (a1 - a0_1)) + 1)) t446 _ A3.out).mono ?_); rintro e w' ⟨rfl, ⟨nd, rfl⟩⟩; refine ⟨_, rfl, ?_⟩) | (refine gM_ (some 15) Try.func62 #[.int .i64 0, .int .i64 t446] ?_; (with_reducible refine (spec_l1Most.calls 0 t446 t447 _ A4.out).mono ?_); rintro e w' ⟨rfl, ⟨nd, rfl⟩⟩; refine ⟨_, rfl, ?_⟩))
 go_ret
 exact ⟨rT_, hB_⟩

/-! ### spec_NearestLike: function 9 -/
def spec_NearestLike.T7 : Bool × List (List Nat × List Nat) := (true, [([], []), ([], []), ([1], [1]), ([0, 2], [0, 2]), ([3, 3], [3]), ([4], [4]), ([5, 4], [4, 5]), ([6, 4, 4], [4, 6]), ([7], [7]), ([7], [7]), ([8, 9, 7, 7], [7, 8, 9]), ([7], [7]), ([7], [7]), ([11, 12, 7], [7, 11, 12]), ([13, 7], [7, 13]), ([7], [7]), ([14, 15, 10, 7], [7, 14, 15]), ([10, 16, 7], [7, 10, 16]), ([7, 17, 4], [4, 7, 17]), ([4, 18], [4, 18])])
def spec_NearestLike.B7 : List Nat := [0, 0, 2, 7, 15, 31, 63, 127, 255, 255, 1023, 255, 255, 6399, 14591, 255, 65535, 131071, 262143, 524287]
theorem spec_NearestLike.tab7 : rtab .any (opsOf Try.f9 7) = spec_NearestLike.T7 := by kernel_rfl
theorem spec_NearestLike.bits7 : waitsOk spec_NearestLike.T7.2 spec_NearestLike.B7 = true := by kernel_rfl
theorem spec_NearestLike.calls (k : Nat) (A0 : Option Addr) (c0 : Nat) (l0 : List (S50)) (a1 : ByteArray) (a2 : Int) (r1 : Int) (r2 : Bool) (w : World) (hr0 : Kd.C k50 w A0 l0.length l0) (hc0 : l0.length ≤ c0) (h : spec_NearestLike.f k l0 a1 a2 = some (r1, r2)) :
 Calls Try.prog 9 #[.slice A0 l0.length c0, .string a1, .int .i64 a2] w fun e w' => e = .returned (.tuple #[.int .i64 r1, .bool r2]) ∧ Below w.heap.size w w' := by
 have hu50 := Try.underlying50
 have HR0 := Aside0.mk hr0
 have HC0 := Aside0.mk hc0
 clear hr0 hc0
 have HB := Aside0.mk (Below.refl w.heap.size w)
 have H : ((spec_tiGood.f k l0).bind fun t448 => (if t448 = true then ((spec_quPattern.f k a1).bind fun t449 => (if t449 = true then ((spec_tiFrame.f a2).bind fun t450 => (spec_NearestLike.j0 k l0 a1 a2 (!t450))) else (spec_NearestLike.j0 k l0 a1 a2 true))) else (spec_NearestLike.j0 k l0 a1 a2 true))) = some (r1, r2) := h
 clear h
 have HC4 := Aside0.mk H
 clear H
 go_enter Try.func9, Try.ntmps9
 go_upto_region 1 with (fail)
 go_cut [23] (fun v23 wc => ∃ (kq : Nat) (x23_3 : Bool), v23 = .bool x23_3 ∧ Aside0 (spec_NearestLike.j0 kq l0 a1 a2 x23_3 = some (r1, r2)) ∧ Aside0 (kq ≤ k) ∧ Aside0 (Below w.heap.size w wc))
 case first =>
  have H := HC4.out
  clear HC4
  replace H := ob_ H; obtain ⟨t448, A5, H⟩ := H; try dsimp only at H
  by_cases c6 : t448 = true
  rotate_left
  ·replace c6 := Bool.eq_false_iff.mpr c6
   subst c6
   replace H := in_ H (show ¬ (false = true) by decide)
   have H' := Aside0.mk H
   clear H
   go_wp2_with (first | (refine gM_ (some 12) Try.func31 #[.slice A0 l0.length c0] ?_; (with_reducible refine (spec_tiGood.calls k _ _ l0 false _ ?side1 ?side2 A5.out).mono ?_); (case side1 => exact z11_0_); (case side2 => exact HC0.out); rintro e w12 ⟨rfl, hb⟩; refine ⟨_, rfl, ?_⟩; replace HB := aM_ (below_step hB_ hb); (try clear hb)))
   go_meet
   case rel => exact ⟨_, (true), z11_1_, H', ⟨oR_⟩, ⟨hB_⟩⟩
  subst c6
  replace H := ip_ H rfl
  replace H := ob_ H; obtain ⟨t449, A7, H⟩ := H; try dsimp only at H
  by_cases c8 : t449 = true
  rotate_left
  ·replace c8 := Bool.eq_false_iff.mpr c8
   subst c8
   replace H := in_ H (show ¬ (false = true) by decide)
   have H' := Aside0.mk H
   clear H
   go_wp2_with (first | (refine gM_ (some 12) Try.func31 #[.slice A0 l0.length c0] ?_; (with_reducible refine (spec_tiGood.calls k _ _ l0 true _ ?side1 ?side2 A5.out).mono ?_); (case side1 => exact z11_0_); (case side2 => exact HC0.out); rintro e w11 ⟨rfl, hb⟩; refine ⟨_, rfl, ?_⟩; replace HB := aM_ (below_step hB_ hb); (try clear hb)) | (go_at_call 41; (with_reducible refine (spec_quPattern.calls k a1 false _ A7.out).mono ?_); rintro e w' ⟨rfl, ⟨nd, rfl⟩⟩))
   go_meet
   case rel => exact ⟨_, (true), z11_1_, H', ⟨oR_⟩, ⟨hB_⟩⟩
  subst c8
  replace H := ip_ H rfl
  replace H := ob_ H; obtain ⟨t450, A9, H⟩ := H; try dsimp only at H
  have H' := Aside0.mk H
  clear H
  go_wp2_with (first | (refine gM_ (some 12) Try.func31 #[.slice A0 l0.length c0] ?_; (with_reducible refine (spec_tiGood.calls k _ _ l0 true _ ?side1 ?side2 A5.out).mono ?_); (case side1 => exact z11_0_); (case side2 => exact HC0.out); rintro e w10 ⟨rfl, hb⟩; refine ⟨_, rfl, ?_⟩; replace HB := aM_ (below_step hB_ hb); (try clear hb)) | (go_at_call 41; (with_reducible refine (spec_quPattern.calls k a1 true _ A7.out).mono ?_); rintro e w' ⟨rfl, ⟨nd, rfl⟩⟩) | (go_at_call 42; (with_reducible refine (spec_tiFrame.calls a2 t450 _ A9.out).mono ?_); rintro e w' ⟨rfl, ⟨nd, rfl⟩⟩))
  go_meet
  case rel => exact ⟨_, (!t450), z11_1_, H', ⟨oR_⟩, ⟨hB_⟩⟩
 case rest =>
  clear HC4
  obtain ⟨kq, x23_3, rfl, HA, HJ3, HB⟩ := hcut
  cases kq with
  | zero => exact absurd HA.out (by simp [spec_NearestLike.j0])
  | succ kj3 =>
   have H := HA.out
   clear HA
   simp only [spec_NearestLike.j0] at H
   by_cases c13 : x23_3 = true
   ·subst c13
    replace H := ip_ H rfl
    simp only [Option.some.injEq, Prod.mk.injEq] at H
    obtain ⟨rfl, rfl⟩ := H
    go_wp2
    go_ret2
    exact ⟨rT_, hB_⟩
   replace c13 := Bool.eq_false_iff.mpr c13
   subst c13
   replace H := in_ H (show ¬ (false = true) by decide)
   have H' := Aside0.mk H
   clear H
   go_wp2
   go_loopg [8, 26] kj3 (fun kq v8 v26 w' => ∃ (x8_2 : Int) (x26_2 : Int), v8 = .int .i64 x8_2 ∧ v26 = .int .i64 x26_2 ∧ Aside0 (spec_NearestLike.l0 kq l0 a1 a2 x8_2 l0 (l0.length : Int) x26_2 = some (r1, r2)) ∧ Aside0 (kq ≤ kj3) ∧ Aside0 (Below w.heap.size w w'))
   case atStart => exact ⟨((-1)), (0), z11_1_, z11_1_, H', ⟨Nat.le_refl _⟩, ⟨hB_⟩⟩
   case round =>
    clear H'
    (try clear c13)
    obtain ⟨x8_2, x26_2, rfl, rfl, HA, HK2, HB⟩ := hrel
    cases gk with
    | zero => exact absurd HA.out (by simp [spec_NearestLike.l0])
    | succ k2 =>
     have H := HA.out
     clear HA
     simp only [spec_NearestLike.l0] at H
     replace H := iF_ H; obtain ⟨c14b0, H⟩ | ⟨c14b0, H⟩ := H
     ·replace H := iT_ H; obtain ⟨c43b0, H⟩ | ⟨c43b0, H⟩ := H
      ·simp only [Option.some.injEq, Prod.mk.injEq] at H
       obtain ⟨rfl, rfl⟩ := H
       go_wp2
       go_ret2
       exact ⟨rT_, hB_⟩
      simp only [Option.some.injEq, Prod.mk.injEq] at H
      obtain ⟨rfl, rfl⟩ := H
      go_wp2
      go_ret2
      exact ⟨rT_, hB_⟩
     replace H := ig_ H; obtain ⟨c15b0, H⟩ := H
     replace H := ig_ H; obtain ⟨c16b0, H⟩ := H
     replace H := ob_ H; obtain ⟨t453, A17, H⟩ := H; try dsimp only at H
     by_cases c18 : t453 = true
     rotate_left
     ·replace c18 := Bool.eq_false_iff.mpr c18
      subst c18
      replace H := in_ H (show ¬ (false = true) by decide)
      have H' := Aside0.mk H
      clear H
      have p451 : 0 ≤ (x26_2 : Int) := ode_
      have q451 : x26_2 < (l0.length : Int) := ode_
      obtain ⟨ad451, e451, hx451_0, hx451_1, hx451_2⟩ := at_T50 HR0.out x26_2 p451 q451
      cases e451
      replace hx451_0 := hc_ HB hx451_0
      replace hx451_1 := hc_ HB hx451_1
      replace hx451_2 := hc_ HB hx451_2
      replace p451 := eq_true p451
      replace q451 := eq_true q451
      try go_wp2_with (first | ((with_reducible refine gate_dst (N := 10) rfl ?_); refine bx_ 10 #[.int .i64 0, .int .i64 0, .string (⟨#[]⟩ : ByteArray)] 50 fun gb452 hg w38 hbox hb => ?_; have BK452 := aM_ (hbox); have GW452 := aM_ (gw_ w hg); have GE452 := aM_ (gw_ w hg); replace HB := aM_ (below_step hB_ hb); clear hb hbox hg; have hz39 := cf3_ BK452.out))
      have n0_ : Aside0 ((((w38.setCell ⟨gb452, 0, none⟩ (.int .i64 ((rd_T50 l0 x26_2).f0))).setCell ⟨gb452, 1, none⟩ (.int .i64 ((rd_T50 l0 x26_2).f1))).setCell ⟨gb452, 2, none⟩ (.string ((rd_T50 l0 x26_2).f2))).heap[gb452]? = some (.cells #[.int .i64 ((rd_T50 l0 x26_2).f0), .int .i64 ((rd_T50 l0 x26_2).f1), .string ((rd_T50 l0 x26_2).f2)] 50 (0, 0))) := ⟨z11_2_⟩
      have n1_ : Aside0 (Below w.heap.size w (((w38.setCell ⟨gb452, 0, none⟩ (.int .i64 ((rd_T50 l0 x26_2).f0))).setCell ⟨gb452, 1, none⟩ (.int .i64 ((rd_T50 l0 x26_2).f1))).setCell ⟨gb452, 2, none⟩ (.string ((rd_T50 l0 x26_2).f2)))) := ⟨hB_⟩
      (try clear BK452)
      (try clear HB)
      generalize (((w38.setCell ⟨gb452, 0, none⟩ (.int .i64 ((rd_T50 l0 x26_2).f0))).setCell ⟨gb452, 1, none⟩ (.int .i64 ((rd_T50 l0 x26_2).f1))).setCell ⟨gb452, 2, none⟩ (.string ((rd_T50 l0 x26_2).f2))) = w40 at n0_ n1_ ⊢
      have BK452 := n0_
      have HB := n1_
      clear n0_ n1_
      replace BK452 := aM_ (blk_drew BK452.out)
      replace HB := aM_ (below_drew1 HB.out)
      refine st_ 20 (fun w' => w'.cell? ⟨gb452, 0, none⟩ = some (.int .i64 ((rd_T50 l0 x26_2).f0)) ∧ w'.cell? ⟨gb452, 1, none⟩ = some (.int .i64 ((rd_T50 l0 x26_2).f1)) ∧ w'.cell? ⟨gb452, 2, none⟩ = some (.string ((rd_T50 l0 x26_2).f2))) [] spec_NearestLike.tab7 spec_NearestLike.bits7 ⟨(blk_cell BK452.out 0).trans rfl, (blk_cell BK452.out 1).trans rfl, (blk_cell BK452.out 2).trans rfl⟩ fun hHeld HT_ HW_ => ?_
      generalize w40.drew = w41 at BK452 HB hHeld ⊢
      refine pu_ 0 31 ?_
      refine pu_ 1 32 ?_
      refine tk_ 2 33 ?_
      refine on_ 3 34 fun K hK => ?_
      refine gS_ Try.func43 #[.string a1, .string ((rd_T50 l0 x26_2).f2)] ?_
      with_reducible refine (spec_quLike.calls k2 a1 ((rd_T50 l0 x26_2).f2) false _ A17.out).mono ?_
      rintro e w42 ⟨rfl, hb⟩
      refine ⟨_, rfl, ?_⟩
      replace BK452 := aM_ (blk_below (g := gb452) (kR_ BK452) hb)
      replace HB := aM_ (below_step hB_ hb)
      (try clear hb)
      (try clear hb2)
      (try clear hk)
      (try clear hi)
      refine hK.out _ _ ⟨(blk_cell BK452.out 0).trans rfl, (blk_cell BK452.out 1).trans rfl, (blk_cell BK452.out 2).trans rfl⟩ (fun hHeld => ?_)
      clear hK K
      refine nm_ 34 ?_
      refine pu_ 4 35 ?_
      refine pv_ 5 36 ?_
      refine pv_ 6 37 ?_
      refine pv_ 7 38 ?_
      refine pv_ 8 39 ?_
      refine pv_ 9 40 ?_
      refine pv_ 10 41 ?_
      refine pv_ 11 42 ?_
      refine pv_ 12 43 ?_
      refine pv_ 13 44 ?_
      refine pv_ 14 45 ?_
      refine pv_ 15 46 ?_
      refine pv_ 16 47 ?_
      refine pv_ 17 48 ?_
      refine pv_ 18 49 ?_
      refine pu_ 19 50 ?_
      refine dn_ ?_
      try go_wp2
      go_roundg k2
      case measure => have := HJ3.out; have := HK2.out; omega
      case rel => exact ⟨(x8_2), (wrap64 (x26_2 + 1)), z11_1_, z11_1_, H', ⟨z11_3_⟩, ⟨hB_⟩⟩
     subst c18
     replace H := ip_ H rfl
     replace H := iT_ H; obtain ⟨c19b0, H⟩ | ⟨c19b0, H⟩ := H
     ·have H' := Aside0.mk H
      clear H
      have p451 : 0 ≤ (x26_2 : Int) := ode_
      have q451 : x26_2 < (l0.length : Int) := ode_
      obtain ⟨ad451, e451, hx451_0, hx451_1, hx451_2⟩ := at_T50 HR0.out x26_2 p451 q451
      cases e451
      replace hx451_0 := hc_ HB hx451_0
      replace hx451_1 := hc_ HB hx451_1
      replace hx451_2 := hc_ HB hx451_2
      replace p451 := eq_true p451
      replace q451 := eq_true q451
      try go_wp2_with (first | ((with_reducible refine gate_dst (N := 10) rfl ?_); refine bx_ 10 #[.int .i64 0, .int .i64 0, .string (⟨#[]⟩ : ByteArray)] 50 fun gb452 hg w20 hbox hb => ?_; have BK452 := aM_ (hbox); have GW452 := aM_ (gw_ w hg); have GE452 := aM_ (gw_ w hg); replace HB := aM_ (below_step hB_ hb); clear hb hbox hg; have hz21 := cf3_ BK452.out))
      have n0_ : Aside0 ((((w20.setCell ⟨gb452, 0, none⟩ (.int .i64 ((rd_T50 l0 x26_2).f0))).setCell ⟨gb452, 1, none⟩ (.int .i64 ((rd_T50 l0 x26_2).f1))).setCell ⟨gb452, 2, none⟩ (.string ((rd_T50 l0 x26_2).f2))).heap[gb452]? = some (.cells #[.int .i64 ((rd_T50 l0 x26_2).f0), .int .i64 ((rd_T50 l0 x26_2).f1), .string ((rd_T50 l0 x26_2).f2)] 50 (0, 0))) := ⟨z11_2_⟩
      have n1_ : Aside0 (Below w.heap.size w (((w20.setCell ⟨gb452, 0, none⟩ (.int .i64 ((rd_T50 l0 x26_2).f0))).setCell ⟨gb452, 1, none⟩ (.int .i64 ((rd_T50 l0 x26_2).f1))).setCell ⟨gb452, 2, none⟩ (.string ((rd_T50 l0 x26_2).f2)))) := ⟨hB_⟩
      (try clear BK452)
      (try clear HB)
      generalize (((w20.setCell ⟨gb452, 0, none⟩ (.int .i64 ((rd_T50 l0 x26_2).f0))).setCell ⟨gb452, 1, none⟩ (.int .i64 ((rd_T50 l0 x26_2).f1))).setCell ⟨gb452, 2, none⟩ (.string ((rd_T50 l0 x26_2).f2))) = w22 at n0_ n1_ ⊢
      have BK452 := n0_
      have HB := n1_
      clear n0_ n1_
      replace BK452 := aM_ (blk_drew BK452.out)
      replace HB := aM_ (below_drew1 HB.out)
      refine st_ 20 (fun w' => w'.cell? ⟨gb452, 0, none⟩ = some (.int .i64 ((rd_T50 l0 x26_2).f0)) ∧ w'.cell? ⟨gb452, 1, none⟩ = some (.int .i64 ((rd_T50 l0 x26_2).f1)) ∧ w'.cell? ⟨gb452, 2, none⟩ = some (.string ((rd_T50 l0 x26_2).f2))) [] spec_NearestLike.tab7 spec_NearestLike.bits7 ⟨(blk_cell BK452.out 0).trans rfl, (blk_cell BK452.out 1).trans rfl, (blk_cell BK452.out 2).trans rfl⟩ fun hHeld HT_ HW_ => ?_
      generalize w22.drew = w23 at BK452 HB hHeld ⊢
      refine pu_ 0 31 ?_
      refine pu_ 1 32 ?_
      refine tk_ 2 33 ?_
      refine on_ 3 34 fun K hK => ?_
      refine gS_ Try.func43 #[.string a1, .string ((rd_T50 l0 x26_2).f2)] ?_
      with_reducible refine (spec_quLike.calls k2 a1 ((rd_T50 l0 x26_2).f2) true _ A17.out).mono ?_
      rintro e w24 ⟨rfl, hb⟩
      refine ⟨_, rfl, ?_⟩
      replace BK452 := aM_ (blk_below (g := gb452) (kR_ BK452) hb)
      replace HB := aM_ (below_step hB_ hb)
      (try clear hb)
      (try clear hb2)
      (try clear hk)
      (try clear hi)
      refine hK.out _ _ ⟨(blk_cell BK452.out 0).trans rfl, (blk_cell BK452.out 1).trans rfl, (blk_cell BK452.out 2).trans rfl⟩ (fun hHeld => ?_)
      clear hK K
      refine nm_ 34 ?_
      refine pu_ 4 35 ?_
      refine pu_ 5 36 ?_
      refine pu_ 6 37 ?_
      refine pu_ 7 38 ?_
      refine pv_ 8 39 ?_
      refine pv_ 9 40 ?_
      refine pv_ 10 41 ?_
      refine pv_ 11 42 ?_
      refine pv_ 12 43 ?_
      refine pv_ 13 44 ?_
      refine pv_ 14 45 ?_
      refine pv_ 15 46 ?_
      refine pv_ 16 47 ?_
      refine pv_ 17 48 ?_
      refine pu_ 18 49 ?_
      refine pu_ 19 50 ?_
      refine dn_ ?_
      try go_wp2
      go_roundg k2
      case measure => have := HJ3.out; have := HK2.out; omega
      case rel => exact ⟨(x26_2), (wrap64 (x26_2 + 1)), z11_1_, z11_1_, H', ⟨z11_3_⟩, ⟨hB_⟩⟩
     replace H := ob_ H; obtain ⟨t454, A25, H⟩ := H; try dsimp only at H
     replace H := ig_ H; obtain ⟨c26b0, H⟩ := H
     replace H := ig_ H; obtain ⟨c27b0, H⟩ := H
     replace H := ob_ H; obtain ⟨t456, A28, H⟩ := H; try dsimp only at H
     have HC29 := Aside0.mk H
     clear H
     have p451 : 0 ≤ (x26_2 : Int) := ode_
     have q451 : x26_2 < (l0.length : Int) := ode_
     obtain ⟨ad451, e451, hx451_0, hx451_1, hx451_2⟩ := at_T50 HR0.out x26_2 p451 q451
     cases e451
     replace hx451_0 := hc_ HB hx451_0
     replace hx451_1 := hc_ HB hx451_1
     replace hx451_2 := hc_ HB hx451_2
     replace p451 := eq_true p451
     replace q451 := eq_true q451
     try go_wp2_with (first | ((with_reducible refine gate_dst (N := 10) rfl ?_); refine bx_ 10 #[.int .i64 0, .int .i64 0, .string (⟨#[]⟩ : ByteArray)] 50 fun gb452 hg w30 hbox hb => ?_; have BK452 := aM_ (hbox); have GW452 := aM_ (gw_ w hg); have GE452 := aM_ (gw_ w hg); replace HB := aM_ (below_step hB_ hb); clear hb hbox hg; have hz31 := cf3_ BK452.out))
     have n0_ : Aside0 ((((w30.setCell ⟨gb452, 0, none⟩ (.int .i64 ((rd_T50 l0 x26_2).f0))).setCell ⟨gb452, 1, none⟩ (.int .i64 ((rd_T50 l0 x26_2).f1))).setCell ⟨gb452, 2, none⟩ (.string ((rd_T50 l0 x26_2).f2))).heap[gb452]? = some (.cells #[.int .i64 ((rd_T50 l0 x26_2).f0), .int .i64 ((rd_T50 l0 x26_2).f1), .string ((rd_T50 l0 x26_2).f2)] 50 (0, 0))) := ⟨z11_2_⟩
     have n1_ : Aside0 (Below w.heap.size w (((w30.setCell ⟨gb452, 0, none⟩ (.int .i64 ((rd_T50 l0 x26_2).f0))).setCell ⟨gb452, 1, none⟩ (.int .i64 ((rd_T50 l0 x26_2).f1))).setCell ⟨gb452, 2, none⟩ (.string ((rd_T50 l0 x26_2).f2)))) := ⟨hB_⟩
     (try clear BK452)
     (try clear HB)
     generalize (((w30.setCell ⟨gb452, 0, none⟩ (.int .i64 ((rd_T50 l0 x26_2).f0))).setCell ⟨gb452, 1, none⟩ (.int .i64 ((rd_T50 l0 x26_2).f1))).setCell ⟨gb452, 2, none⟩ (.string ((rd_T50 l0 x26_2).f2))) = w32 at n0_ n1_ ⊢
     have BK452 := n0_
     have HB := n1_
     clear n0_ n1_
     replace BK452 := aM_ (blk_drew BK452.out)
     replace HB := aM_ (below_drew1 HB.out)
     have p455 : 0 ≤ (x8_2 : Int) := ode_
     have q455 : x8_2 < (l0.length : Int) := ode_
     obtain ⟨ad455, e455, hx455_0, hx455_1, hx455_2⟩ := at_T50 HR0.out x8_2 p455 q455
     have hw455_2 := hx455_2
     have hw455_1 := hx455_1
     have hw455_0 := hx455_0
     obtain rfl : ad451 = ad455 := (by injection e455)
     replace hx455_0 := hc_ HB hx455_0
     replace hx455_1 := hc_ HB hx455_1
     replace hx455_2 := hc_ HB hx455_2
     replace p455 := eq_true p455
     replace q455 := eq_true q455
     refine st_ 20 (fun w' => w'.cell? ⟨gb452, 0, none⟩ = some (.int .i64 ((rd_T50 l0 x26_2).f0)) ∧ w'.cell? ⟨gb452, 1, none⟩ = some (.int .i64 ((rd_T50 l0 x26_2).f1)) ∧ w'.cell? ⟨gb452, 2, none⟩ = some (.string ((rd_T50 l0 x26_2).f2)) ∧ w'.cell? (ad451.add ((x8_2).toNat * 3)) = some (.int .i64 ((rd_T50 l0 x8_2).f0)) ∧ w'.cell? ⟨(ad451.add ((x8_2).toNat * 3)).block, (ad451.add ((x8_2).toNat * 3)).off + 1, none⟩ = some (.int .i64 ((rd_T50 l0 x8_2).f1)) ∧ w'.cell? ⟨(ad451.add ((x8_2).toNat * 3)).block, (ad451.add ((x8_2).toNat * 3)).off + 2, none⟩ = some (.string ((rd_T50 l0 x8_2).f2))) [] spec_NearestLike.tab7 spec_NearestLike.bits7 ⟨(blk_cell BK452.out 0).trans rfl, (blk_cell BK452.out 1).trans rfl, (blk_cell BK452.out 2).trans rfl, ((HB.out.cell (World.block_lt_of_cell? w _ hw455_0)).trans hw455_0), ((HB.out.cell (World.block_lt_of_cell? w _ hw455_1)).trans hw455_1), ((HB.out.cell (World.block_lt_of_cell? w _ hw455_2)).trans hw455_2)⟩ fun hHeld HT_ HW_ => ?_
     generalize w32.drew = w33 at BK452 HB hx455_0 hx455_1 hx455_2 hHeld ⊢
     refine pu_ 0 31 ?_
     refine pu_ 1 32 ?_
     refine tk_ 2 33 ?_
     refine on_ 3 34 fun K hK => ?_
     refine gS_ Try.func43 #[.string a1, .string ((rd_T50 l0 x26_2).f2)] ?_
     with_reducible refine (spec_quLike.calls k2 a1 ((rd_T50 l0 x26_2).f2) true _ A17.out).mono ?_
     rintro e w34 ⟨rfl, hb⟩
     refine ⟨_, rfl, ?_⟩
     replace BK452 := aM_ (blk_below (g := gb452) (kR_ BK452) hb)
     replace HB := aM_ (below_step hB_ hb)
     (try clear hb)
     (try clear hb2)
     (try clear hk)
     (try clear hi)
     refine hK.out _ _ ⟨(blk_cell BK452.out 0).trans rfl, (blk_cell BK452.out 1).trans rfl, (blk_cell BK452.out 2).trans rfl, ((HB.out.cell (World.block_lt_of_cell? w _ hw455_0)).trans hw455_0), ((HB.out.cell (World.block_lt_of_cell? w _ hw455_1)).trans hw455_1), ((HB.out.cell (World.block_lt_of_cell? w _ hw455_2)).trans hw455_2)⟩ (fun hHeld => ?_)
     clear hK K
     refine nm_ 34 ?_
     refine pu_ 4 35 ?_
     refine pu_ 5 36 ?_
     refine pu_ 6 37 ?_
     refine pu_ 7 38 ?_
     refine pu_ 9 40 ?_
     refine pu_ 11 42 ?_
     refine pu_ 12 43 ?_
     refine pu_ 13 44 ?_
     refine pu_ 15 46 ?_
     refine tk_ 8 39 ?_
     refine tk_ 14 45 ?_
     refine on_ 10 41 fun K hK => ?_
     refine gS_ Try.func44 #[.agg #[.int .i64 ((rd_T50 l0 x26_2).f0), .int .i64 ((rd_T50 l0 x26_2).f1), .string ((rd_T50 l0 x26_2).f2)], .int .i64 a2] ?_
     with_reducible refine (spec_quAway.calls ((rd_T50 l0 x26_2).f0) ((rd_T50 l0 x26_2).f1) ((rd_T50 l0 x26_2).f2) a2 t454 _ A25.out).mono ?_
     rintro e w35 ⟨rfl, hb⟩
     refine ⟨_, rfl, ?_⟩
     replace BK452 := aM_ (blk_below (g := gb452) (kR_ BK452) hb)
     replace HB := aM_ (below_step hB_ hb)
     (try clear hb)
     (try clear hb2)
     (try clear hk)
     (try clear hi)
     refine hK.out _ _ ⟨(blk_cell BK452.out 0).trans rfl, (blk_cell BK452.out 1).trans rfl, (blk_cell BK452.out 2).trans rfl, ((HB.out.cell (World.block_lt_of_cell? w _ hw455_0)).trans hw455_0), ((HB.out.cell (World.block_lt_of_cell? w _ hw455_1)).trans hw455_1), ((HB.out.cell (World.block_lt_of_cell? w _ hw455_2)).trans hw455_2)⟩ (fun hHeld => ?_)
     clear hK K
     refine nm_ 41 ?_
     refine on_ 16 47 fun K hK => ?_
     refine gS_ Try.func44 #[.agg #[.int .i64 ((rd_T50 l0 x8_2).f0), .int .i64 ((rd_T50 l0 x8_2).f1), .string ((rd_T50 l0 x8_2).f2)], .int .i64 a2] ?_
     with_reducible refine (spec_quAway.calls ((rd_T50 l0 x8_2).f0) ((rd_T50 l0 x8_2).f1) ((rd_T50 l0 x8_2).f2) a2 t456 _ A28.out).mono ?_
     rintro e w36 ⟨rfl, hb⟩
     refine ⟨_, rfl, ?_⟩
     replace BK452 := aM_ (blk_below (g := gb452) (kR_ BK452) hb)
     replace HB := aM_ (below_step hB_ hb)
     (try clear hb)
     (try clear hb2)
     (try clear hk)
     (try clear hi)
     refine hK.out _ _ ⟨(blk_cell BK452.out 0).trans rfl, (blk_cell BK452.out 1).trans rfl, (blk_cell BK452.out 2).trans rfl, ((HB.out.cell (World.block_lt_of_cell? w _ hw455_0)).trans hw455_0), ((HB.out.cell (World.block_lt_of_cell? w _ hw455_1)).trans hw455_1), ((HB.out.cell (World.block_lt_of_cell? w _ hw455_2)).trans hw455_2)⟩ (fun hHeld => ?_)
     clear hK K
     refine nm_ 47 ?_
     refine pu_ 17 48 ?_
     refine pu_ 18 49 ?_
     refine pu_ 19 50 ?_
     refine dn_ ?_
     go_upto_if 50 with (fail)
     have H := HC29.out
     clear HC29
     replace H := iT_ H; obtain ⟨c37b0, H⟩ | ⟨c37b0, H⟩ := H
     ·(first | rw [c37b0] | (simp only [i64_w, i32_w]; rw [c37b0]) | skip)
      have H' := Aside0.mk H
      clear H
      go_wp2
      go_roundg k2
      case measure => have := HJ3.out; have := HK2.out; omega
      case rel => exact ⟨(x26_2), (wrap64 (x26_2 + 1)), z11_1_, z11_1_, H', ⟨z11_3_⟩, ⟨hB_⟩⟩
     (first | rw [c37b0] | (simp only [i64_w, i32_w]; rw [c37b0]) | skip)
     have H' := Aside0.mk H
     clear H
     go_wp2
     go_roundg k2
     case measure => have := HJ3.out; have := HK2.out; omega
     case rel => exact ⟨(x8_2), (wrap64 (x26_2 + 1)), z11_1_, z11_1_, H', ⟨z11_3_⟩, ⟨hB_⟩⟩

end Go.Proofs.Ytbfkpgmdbafmhaa.PFnTierCounts
