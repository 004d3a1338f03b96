/- Printed for this claim: functions of the program as Lean functions, and that the calls answer so. -/
import Derived.Test.YtbfkpgmdbafmhaaPFnTierCountsx0
import Derived.Test.YtbfkpgmdbafmhaaPFnTierCountsx2
import Derived.Test.YtbfkpgmdbafmhaaPFnTierCountsxD0
import Derived.Test.YtbfkpgmdbafmhaaPFnTierCountsxD1
namespace Go.Proofs.Ytbfkpgmdbafmhaa.PFnTierCounts
open Go.RowKit Go.Proofs.YtbfkpgmdbafmhaaW.PrintWords Go.Proofs.YtbfkpgmdbafmhaaW.PrintLast Go.Proofs.YtbfkpgmdbafmhaaW.PrintMore
theorem z3_0_ {p : Prop} (h : p := by first | rfl | (simp; done) | (simp [*]; done)) : p := h
theorem z3_1_ {p : Prop} (h : p := by (with_reducible repeat (first | apply kN_ | apply kD_ | apply kA_)); refine blk_put (cs := #[.int .i64 ((rd_T50 l0 x7_1).f0), .int .i64 ((rd_T50 l0 x7_1).f1), .string (⟨#[]⟩ : ByteArray)]) ?_ 2 _ rfl; (with_reducible repeat (first | apply kN_ | apply kD_ | apply kA_)); refine blk_put (cs := #[.int .i64 ((rd_T50 l0 x7_1).f0), .int .i64 0, .string (⟨#[]⟩ : ByteArray)]) ?_ 1 _ rfl; (with_reducible repeat (first | apply kN_ | apply kD_ | apply kA_)); refine blk_put (cs := #[.int .i64 0, .int .i64 0, .string (⟨#[]⟩ : ByteArray)]) ?_ 0 _ rfl; (with_reducible repeat (first | apply kN_ | apply kD_ | apply kA_)); exact BK217.out) : p := h
set_option maxHeartbeats 8000000
set_option maxRecDepth 100000
attribute [local go_sem] max2_int min2_int max_two min_two max_three min_three max_four min_four isSome_setCell   -- for this text's walks alone
set_option linter.unusedVariables false
set_option linter.unusedSimpArgs false

/-! ### impl_IsTier: function 27 -/
def impl_IsTier.T4 : Bool × List (List Nat × List Nat) := (true, [([], []), ([0], [0]), ([1], [1]), ([2, 1], [2]), ([3], [3]), ([4, 3], [3, 4]), ([5, 3, 3], [3, 5]), ([6], [6]), ([6], [6]), ([8, 6], [6, 8]), ([7, 9, 6], [6, 7, 9]), ([10, 6], [6, 10]), ([11, 6], [6, 11]), ([6], [6]), ([13, 6], [6, 13]), ([12, 14, 6], [6, 12, 14]), ([6, 15, 3], [3, 6, 15]), ([3, 16], [3, 16])])
def impl_IsTier.B4 : List Nat := [0, 1, 3, 7, 15, 31, 63, 127, 127, 383, 1023, 2047, 4095, 127, 8319, 32767, 65535, 131071]
theorem impl_IsTier.tab4 : rtab .any (opsOf Try.f27 4) = impl_IsTier.T4 := by kernel_rfl
theorem impl_IsTier.bits4 : waitsOk impl_IsTier.T4.2 impl_IsTier.B4 = true := by kernel_rfl
theorem impl_IsTier.calls (k : Nat) (A0 : Option Addr) (c0 : Nat) (l0 : List (S50)) (r : Bool) (w : World) (hr0 : Kd.C k50 w A0 l0.length l0) (hc0 : l0.length ≤ c0) (h : impl_IsTier.f k l0 = some r) :
 Calls Try.prog 27 #[.slice A0 l0.length c0] w fun e w' => e = .returned (.bool r) ∧ Below w.heap.size w w' := by
 have hu50 := Try.underlying50
 have HR0 := Aside0.mk hr0
 have HC0 := Aside0.mk hc0
 clear hr0 hc0
 have HB := Aside0.mk (Below.refl w.heap.size w)
 have H : (impl_IsTier.l0 k l0 l0 (l0.length : Int) 0) = some r := h
 clear h
 have H' := Aside0.mk H
 clear H
 go_enter Try.func27, Try.ntmps27
 go_wp2
 go_loopg [7] k (fun kq v7 w' => ∃ (x7_1 : Int), v7 = .int .i64 x7_1 ∧ Aside0 (impl_IsTier.l0 kq l0 l0 (l0.length : Int) x7_1 = some r) ∧ Aside0 (kq ≤ k) ∧ Aside0 (Below w.heap.size w w'))
 case atStart => exact ⟨(0), z3_0_, H', ⟨Nat.le_refl _⟩, ⟨hB_⟩⟩
 case round =>
  clear H'
  obtain ⟨x7_1, rfl, HA, HK1, HB⟩ := hrel
  cases gk with
  | zero => exact absurd HA.out (by simp [impl_IsTier.l0])
  | succ k1 =>
   have H := HA.out
   clear HA
   simp only [impl_IsTier.l0] at H
   replace H := iF_ H; obtain ⟨c2b0, H⟩ | ⟨c2b0, H⟩ := H
   ·obtain rfl := Option.some.inj H
    go_wp2
    go_ret
    exact ⟨rT_, hB_⟩
   replace H := ig_ H; obtain ⟨c3b0, H⟩ := H
   replace H := ig_ H; obtain ⟨c4b0, H⟩ := H
   replace H := ob_ H; obtain ⟨t218, A5, H⟩ := H; try dsimp only at H
   by_cases c6 : t218 = true
   rotate_left
   ·replace c6 := Bool.eq_false_iff.mpr c6
    subst c6
    replace H := in_ H (show ¬ (false = true) by decide)
    obtain rfl := Option.some.inj H
    have p216 : 0 ≤ (x7_1 : Int) := ode_
    have q216 : x7_1 < (l0.length : Int) := ode_
    obtain ⟨ad216, e216, hx216_0, hx216_1, hx216_2⟩ := at_T50 HR0.out x7_1 p216 q216
    cases e216
    replace hx216_0 := hc_ HB hx216_0
    replace hx216_1 := hc_ HB hx216_1
    replace hx216_2 := hc_ HB hx216_2
    replace p216 := eq_true p216
    replace q216 := eq_true q216
    try go_wp2_with (first | ((with_reducible refine gate_dst (N := 4) rfl ?_); refine bx_ 4 #[.int .i64 0, .int .i64 0, .string (⟨#[]⟩ : ByteArray)] 50 fun gb217 hg w27 hbox hb => ?_; have BK217 := aM_ (hbox); have GW217 := aM_ (gw_ w hg); have GE217 := aM_ (gw_ w hg); replace HB := aM_ (below_step hB_ hb); clear hb hbox hg; have hz28 := cf3_ BK217.out))
    have n0_ : Aside0 ((((w27.setCell ⟨gb217, 0, none⟩ (.int .i64 ((rd_T50 l0 x7_1).f0))).setCell ⟨gb217, 1, none⟩ (.int .i64 ((rd_T50 l0 x7_1).f1))).setCell ⟨gb217, 2, none⟩ (.string ((rd_T50 l0 x7_1).f2))).heap[gb217]? = some (.cells #[.int .i64 ((rd_T50 l0 x7_1).f0), .int .i64 ((rd_T50 l0 x7_1).f1), .string ((rd_T50 l0 x7_1).f2)] 50 (0, 0))) := ⟨z3_1_⟩
    have n1_ : Aside0 (Below w.heap.size w (((w27.setCell ⟨gb217, 0, none⟩ (.int .i64 ((rd_T50 l0 x7_1).f0))).setCell ⟨gb217, 1, none⟩ (.int .i64 ((rd_T50 l0 x7_1).f1))).setCell ⟨gb217, 2, none⟩ (.string ((rd_T50 l0 x7_1).f2)))) := ⟨hB_⟩
    (try clear BK217)
    (try clear HB)
    generalize (((w27.setCell ⟨gb217, 0, none⟩ (.int .i64 ((rd_T50 l0 x7_1).f0))).setCell ⟨gb217, 1, none⟩ (.int .i64 ((rd_T50 l0 x7_1).f1))).setCell ⟨gb217, 2, none⟩ (.string ((rd_T50 l0 x7_1).f2))) = w29 at n0_ n1_ ⊢
    have BK217 := n0_
    have HB := n1_
    clear n0_ n1_
    replace BK217 := aM_ (blk_drew BK217.out)
    replace HB := aM_ (below_drew1 HB.out)
    refine st_ 18 (fun w' => w'.cell? ⟨gb217, 0, none⟩ = some (.int .i64 ((rd_T50 l0 x7_1).f0)) ∧ w'.cell? ⟨gb217, 1, none⟩ = some (.int .i64 ((rd_T50 l0 x7_1).f1)) ∧ w'.cell? ⟨gb217, 2, none⟩ = some (.string ((rd_T50 l0 x7_1).f2))) [] impl_IsTier.tab4 impl_IsTier.bits4 ⟨(blk_cell BK217.out 0).trans rfl, (blk_cell BK217.out 1).trans rfl, (blk_cell BK217.out 2).trans rfl⟩ fun hHeld HT_ HW_ => ?_
    generalize w29.drew = w30 at BK217 HB hHeld ⊢
    refine tk_ 0 12 ?_
    refine on_ 1 13 fun K hK => ?_
    refine gS_ Try.func53 #[.agg #[.int .i64 ((rd_T50 l0 x7_1).f0), .int .i64 ((rd_T50 l0 x7_1).f1), .string ((rd_T50 l0 x7_1).f2)]] ?_
    with_reducible refine (impl_IsNote.calls k1 ((rd_T50 l0 x7_1).f0) ((rd_T50 l0 x7_1).f1) ((rd_T50 l0 x7_1).f2) false _ A5.out).mono ?_
    rintro e w31 ⟨rfl, hb⟩
    refine ⟨_, rfl, ?_⟩
    replace BK217 := aM_ (blk_below (g := gb217) (kR_ BK217) hb)
    replace HB := aM_ (below_step hB_ hb)
    (try clear hb)
    (try clear hb2)
    (try clear hk)
    (try clear hi)
    refine hK.out _ _ ⟨(blk_cell BK217.out 0).trans rfl, (blk_cell BK217.out 1).trans rfl, (blk_cell BK217.out 2).trans rfl⟩ (fun hHeld => ?_)
    clear hK K
    refine nm_ 13 ?_
    refine pu_ 2 14 ?_
    refine pu_ 3 15 ?_
    refine pv_ 4 16 ?_
    refine pv_ 5 17 ?_
    refine pv_ 6 18 ?_
    refine pv_ 7 19 ?_
    refine pv_ 8 20 ?_
    refine pv_ 9 21 ?_
    refine pv_ 10 22 ?_
    refine pv_ 11 23 ?_
    refine pv_ 12 24 ?_
    refine pv_ 13 25 ?_
    refine pv_ 14 26 ?_
    refine pv_ 15 27 ?_
    refine pv_ 16 28 ?_
    refine pu_ 17 29 ?_
    refine dn_ ?_
    try go_wp2
    go_ret
    exact ⟨rT_, hB_⟩
   subst c6
   replace H := ip_ H rfl
   by_cases c7 : x7_1 > 0
   rotate_left
   ·rw [if_neg c7] at H
    have c7b0 : decide (0 < x7_1) = false := decide_eq_false c7
    clear c7
    have H' := Aside0.mk H
    clear H
    have p216 : 0 ≤ (x7_1 : Int) := ode_
    have q216 : x7_1 < (l0.length : Int) := ode_
    obtain ⟨ad216, e216, hx216_0, hx216_1, hx216_2⟩ := at_T50 HR0.out x7_1 p216 q216
    cases e216
    replace hx216_0 := hc_ HB hx216_0
    replace hx216_1 := hc_ HB hx216_1
    replace hx216_2 := hc_ HB hx216_2
    replace p216 := eq_true p216
    replace q216 := eq_true q216
    try go_wp2_with (first | ((with_reducible refine gate_dst (N := 4) rfl ?_); refine bx_ 4 #[.int .i64 0, .int .i64 0, .string (⟨#[]⟩ : ByteArray)] 50 fun gb217 hg w22 hbox hb => ?_; have BK217 := aM_ (hbox); have GW217 := aM_ (gw_ w hg); have GE217 := aM_ (gw_ w hg); replace HB := aM_ (below_step hB_ hb); clear hb hbox hg; have hz23 := cf3_ BK217.out))
    have n0_ : Aside0 ((((w22.setCell ⟨gb217, 0, none⟩ (.int .i64 ((rd_T50 l0 x7_1).f0))).setCell ⟨gb217, 1, none⟩ (.int .i64 ((rd_T50 l0 x7_1).f1))).setCell ⟨gb217, 2, none⟩ (.string ((rd_T50 l0 x7_1).f2))).heap[gb217]? = some (.cells #[.int .i64 ((rd_T50 l0 x7_1).f0), .int .i64 ((rd_T50 l0 x7_1).f1), .string ((rd_T50 l0 x7_1).f2)] 50 (0, 0))) := ⟨z3_1_⟩
    have n1_ : Aside0 (Below w.heap.size w (((w22.setCell ⟨gb217, 0, none⟩ (.int .i64 ((rd_T50 l0 x7_1).f0))).setCell ⟨gb217, 1, none⟩ (.int .i64 ((rd_T50 l0 x7_1).f1))).setCell ⟨gb217, 2, none⟩ (.string ((rd_T50 l0 x7_1).f2)))) := ⟨hB_⟩
    (try clear BK217)
    (try clear HB)
    generalize (((w22.setCell ⟨gb217, 0, none⟩ (.int .i64 ((rd_T50 l0 x7_1).f0))).setCell ⟨gb217, 1, none⟩ (.int .i64 ((rd_T50 l0 x7_1).f1))).setCell ⟨gb217, 2, none⟩ (.string ((rd_T50 l0 x7_1).f2))) = w24 at n0_ n1_ ⊢
    have BK217 := n0_
    have HB := n1_
    clear n0_ n1_
    replace BK217 := aM_ (blk_drew BK217.out)
    replace HB := aM_ (below_drew1 HB.out)
    refine st_ 18 (fun w' => w'.cell? ⟨gb217, 0, none⟩ = some (.int .i64 ((rd_T50 l0 x7_1).f0)) ∧ w'.cell? ⟨gb217, 1, none⟩ = some (.int .i64 ((rd_T50 l0 x7_1).f1)) ∧ w'.cell? ⟨gb217, 2, none⟩ = some (.string ((rd_T50 l0 x7_1).f2))) [] impl_IsTier.tab4 impl_IsTier.bits4 ⟨(blk_cell BK217.out 0).trans rfl, (blk_cell BK217.out 1).trans rfl, (blk_cell BK217.out 2).trans rfl⟩ fun hHeld HT_ HW_ => ?_
    generalize w24.drew = w25 at BK217 HB hHeld ⊢
    refine tk_ 0 12 ?_
    refine on_ 1 13 fun K hK => ?_
    refine gS_ Try.func53 #[.agg #[.int .i64 ((rd_T50 l0 x7_1).f0), .int .i64 ((rd_T50 l0 x7_1).f1), .string ((rd_T50 l0 x7_1).f2)]] ?_
    with_reducible refine (impl_IsNote.calls k1 ((rd_T50 l0 x7_1).f0) ((rd_T50 l0 x7_1).f1) ((rd_T50 l0 x7_1).f2) true _ A5.out).mono ?_
    rintro e w26 ⟨rfl, hb⟩
    refine ⟨_, rfl, ?_⟩
    replace BK217 := aM_ (blk_below (g := gb217) (kR_ BK217) hb)
    replace HB := aM_ (below_step hB_ hb)
    (try clear hb)
    (try clear hb2)
    (try clear hk)
    (try clear hi)
    refine hK.out _ _ ⟨(blk_cell BK217.out 0).trans rfl, (blk_cell BK217.out 1).trans rfl, (blk_cell BK217.out 2).trans rfl⟩ (fun hHeld => ?_)
    clear hK K
    refine nm_ 13 ?_
    refine pu_ 2 14 ?_
    refine pu_ 3 15 ?_
    refine pu_ 4 16 ?_
    refine pu_ 5 17 ?_
    refine pu_ 6 18 ?_
    refine pv_ 7 19 ?_
    refine pv_ 8 20 ?_
    refine pv_ 9 21 ?_
    refine pv_ 10 22 ?_
    refine pv_ 11 23 ?_
    refine pv_ 12 24 ?_
    refine pv_ 13 25 ?_
    refine pv_ 14 26 ?_
    refine pv_ 15 27 ?_
    refine pu_ 16 28 ?_
    refine pu_ 17 29 ?_
    refine dn_ ?_
    try go_wp2
    go_roundg k1
    case measure => have := HK1.out; omega
    case rel => exact ⟨(wrap64 (x7_1 + 1)), z3_0_, H', ⟨by have := HK1.out; omega⟩, ⟨hB_⟩⟩
   rw [if_pos c7] at H
   have c7b0 : decide (0 < x7_1) = true := decide_eq_true c7
   clear c7
   obtain ⟨ji8, hji8⟩ : ∃ j_ : Int, (wrap64 (x7_1 - 1)) = j_ := ⟨_, rfl⟩
   replace H : (if 0 ≤ (ji8) then (if (ji8) < (l0.length : Int) then (if ((rd_T50 l0 (ji8)).f1) > ((rd_T50 l0 x7_1).f0) then (some false) else (impl_IsTier.l0 k1 l0 l0 (l0.length : Int) (wrap64 (x7_1 + 1)))) else (none)) else (none)) = some r := by first | (rw [hji8] at H; exact H) | (simp only [hji8] at H ⊢; exact H)
   (try rw [hji8] at A5)
   have hji8w : (IntKind.i64.wrap (x7_1 - 1)) = ji8 := (i64_w _).trans hji8
   replace H := ig_ H; obtain ⟨c9b0, H⟩ := H
   replace H := ig_ H; obtain ⟨c10b0, H⟩ := H
   by_cases c11 : ((rd_T50 l0 (ji8)).f1) > ((rd_T50 l0 x7_1).f0)
   rotate_left
   ·rw [if_neg c11] at H
    have c11b0 : decide (((rd_T50 l0 x7_1).f0) < ((rd_T50 l0 (ji8)).f1)) = false := decide_eq_false c11
    clear c11
    have H' := Aside0.mk H
    clear H
    have p216 : 0 ≤ (x7_1 : Int) := ode_
    have q216 : x7_1 < (l0.length : Int) := ode_
    obtain ⟨ad216, e216, hx216_0, hx216_1, hx216_2⟩ := at_T50 HR0.out x7_1 p216 q216
    cases e216
    replace hx216_0 := hc_ HB hx216_0
    replace hx216_1 := hc_ HB hx216_1
    replace hx216_2 := hc_ HB hx216_2
    replace p216 := eq_true p216
    replace q216 := eq_true q216
    try go_wp2_with (first | ((with_reducible refine gate_dst (N := 4) rfl ?_); refine bx_ 4 #[.int .i64 0, .int .i64 0, .string (⟨#[]⟩ : ByteArray)] 50 fun gb217 hg w17 hbox hb => ?_; have BK217 := aM_ (hbox); have GW217 := aM_ (gw_ w hg); have GE217 := aM_ (gw_ w hg); replace HB := aM_ (below_step hB_ hb); clear hb hbox hg; have hz18 := cf3_ BK217.out))
    have n0_ : Aside0 ((((w17.setCell ⟨gb217, 0, none⟩ (.int .i64 ((rd_T50 l0 x7_1).f0))).setCell ⟨gb217, 1, none⟩ (.int .i64 ((rd_T50 l0 x7_1).f1))).setCell ⟨gb217, 2, none⟩ (.string ((rd_T50 l0 x7_1).f2))).heap[gb217]? = some (.cells #[.int .i64 ((rd_T50 l0 x7_1).f0), .int .i64 ((rd_T50 l0 x7_1).f1), .string ((rd_T50 l0 x7_1).f2)] 50 (0, 0))) := ⟨z3_1_⟩
    have n1_ : Aside0 (Below w.heap.size w (((w17.setCell ⟨gb217, 0, none⟩ (.int .i64 ((rd_T50 l0 x7_1).f0))).setCell ⟨gb217, 1, none⟩ (.int .i64 ((rd_T50 l0 x7_1).f1))).setCell ⟨gb217, 2, none⟩ (.string ((rd_T50 l0 x7_1).f2)))) := ⟨hB_⟩
    (try clear BK217)
    (try clear HB)
    generalize (((w17.setCell ⟨gb217, 0, none⟩ (.int .i64 ((rd_T50 l0 x7_1).f0))).setCell ⟨gb217, 1, none⟩ (.int .i64 ((rd_T50 l0 x7_1).f1))).setCell ⟨gb217, 2, none⟩ (.string ((rd_T50 l0 x7_1).f2))) = w19 at n0_ n1_ ⊢
    have BK217 := n0_
    have HB := n1_
    clear n0_ n1_
    replace BK217 := aM_ (blk_drew BK217.out)
    replace HB := aM_ (below_drew1 HB.out)
    have p219 : 0 ≤ ((ji8) : Int) := ode_
    have q219 : (ji8) < (l0.length : Int) := ode_
    obtain ⟨ad219, e219, hx219_0, hx219_1, hx219_2⟩ := at_T50 HR0.out (ji8) p219 q219
    have hw219_2 := hx219_2
    have hw219_1 := hx219_1
    have hw219_0 := hx219_0
    obtain rfl : ad216 = ad219 := (by injection e219)
    replace hx219_0 := hc_ HB hx219_0
    replace hx219_1 := hc_ HB hx219_1
    replace hx219_2 := hc_ HB hx219_2
    replace p219 := eq_true p219
    replace q219 := eq_true q219
    refine st_ 18 (fun w' => w'.cell? ⟨gb217, 0, none⟩ = some (.int .i64 ((rd_T50 l0 x7_1).f0)) ∧ w'.cell? ⟨gb217, 1, none⟩ = some (.int .i64 ((rd_T50 l0 x7_1).f1)) ∧ w'.cell? ⟨gb217, 2, none⟩ = some (.string ((rd_T50 l0 x7_1).f2)) ∧ w'.cell? (ad216.add (((ji8)).toNat * 3)) = some (.int .i64 ((rd_T50 l0 (ji8)).f0)) ∧ w'.cell? ⟨(ad216.add (((ji8)).toNat * 3)).block, (ad216.add (((ji8)).toNat * 3)).off + 1, none⟩ = some (.int .i64 ((rd_T50 l0 (ji8)).f1)) ∧ w'.cell? ⟨(ad216.add (((ji8)).toNat * 3)).block, (ad216.add (((ji8)).toNat * 3)).off + 2, none⟩ = some (.string ((rd_T50 l0 (ji8)).f2))) [] impl_IsTier.tab4 impl_IsTier.bits4 ⟨(blk_cell BK217.out 0).trans rfl, (blk_cell BK217.out 1).trans rfl, (blk_cell BK217.out 2).trans rfl, ((HB.out.cell (World.block_lt_of_cell? w _ hw219_0)).trans hw219_0), ((HB.out.cell (World.block_lt_of_cell? w _ hw219_1)).trans hw219_1), ((HB.out.cell (World.block_lt_of_cell? w _ hw219_2)).trans hw219_2)⟩ fun hHeld HT_ HW_ => ?_
    generalize w19.drew = w20 at BK217 HB hx219_0 hx219_1 hx219_2 hHeld ⊢
    refine tk_ 0 12 ?_
    refine on_ 1 13 fun K hK => ?_
    refine gS_ Try.func53 #[.agg #[.int .i64 ((rd_T50 l0 x7_1).f0), .int .i64 ((rd_T50 l0 x7_1).f1), .string ((rd_T50 l0 x7_1).f2)]] ?_
    with_reducible refine (impl_IsNote.calls k1 ((rd_T50 l0 x7_1).f0) ((rd_T50 l0 x7_1).f1) ((rd_T50 l0 x7_1).f2) true _ A5.out).mono ?_
    rintro e w21 ⟨rfl, hb⟩
    refine ⟨_, rfl, ?_⟩
    replace BK217 := aM_ (blk_below (g := gb217) (kR_ BK217) hb)
    replace HB := aM_ (below_step hB_ hb)
    (try clear hb)
    (try clear hb2)
    (try clear hk)
    (try clear hi)
    refine hK.out _ _ ⟨(blk_cell BK217.out 0).trans rfl, (blk_cell BK217.out 1).trans rfl, (blk_cell BK217.out 2).trans rfl, ((HB.out.cell (World.block_lt_of_cell? w _ hw219_0)).trans hw219_0), ((HB.out.cell (World.block_lt_of_cell? w _ hw219_1)).trans hw219_1), ((HB.out.cell (World.block_lt_of_cell? w _ hw219_2)).trans hw219_2)⟩ (fun hHeld => ?_)
    clear hK K
    refine nm_ 13 ?_
    refine pu_ 2 14 ?_
    refine pu_ 3 15 ?_
    refine pu_ 4 16 ?_
    refine pu_ 5 17 ?_
    refine pu_ 6 18 ?_
    refine pu_ 7 19 ?_
    refine pu_ 8 20 ?_
    refine pu_ 9 21 ?_
    refine pu_ 10 22 ?_
    refine pu_ 11 23 ?_
    refine pu_ 13 25 ?_
    refine tk_ 12 24 ?_
    refine tk_ 14 26 ?_
    refine pu_ 15 27 ?_
    refine pu_ 16 28 ?_
    refine pu_ 17 29 ?_
    refine dn_ ?_
    try go_wp2
    go_roundg k1
    case measure => have := HK1.out; omega
    case rel => exact ⟨(wrap64 (x7_1 + 1)), z3_0_, H', ⟨by have := HK1.out; omega⟩, ⟨hB_⟩⟩
   rw [if_pos c11] at H
   have c11b0 : decide (((rd_T50 l0 x7_1).f0) < ((rd_T50 l0 (ji8)).f1)) = true := decide_eq_true c11
   clear c11
   obtain rfl := Option.some.inj H
   have p216 : 0 ≤ (x7_1 : Int) := ode_
   have q216 : x7_1 < (l0.length : Int) := ode_
   obtain ⟨ad216, e216, hx216_0, hx216_1, hx216_2⟩ := at_T50 HR0.out x7_1 p216 q216
   cases e216
   replace hx216_0 := hc_ HB hx216_0
   replace hx216_1 := hc_ HB hx216_1
   replace hx216_2 := hc_ HB hx216_2
   replace p216 := eq_true p216
   replace q216 := eq_true q216
   try go_wp2_with (first | ((with_reducible refine gate_dst (N := 4) rfl ?_); refine bx_ 4 #[.int .i64 0, .int .i64 0, .string (⟨#[]⟩ : ByteArray)] 50 fun gb217 hg w12 hbox hb => ?_; have BK217 := aM_ (hbox); have GW217 := aM_ (gw_ w hg); have GE217 := aM_ (gw_ w hg); replace HB := aM_ (below_step hB_ hb); clear hb hbox hg; have hz13 := cf3_ BK217.out))
   have n0_ : Aside0 ((((w12.setCell ⟨gb217, 0, none⟩ (.int .i64 ((rd_T50 l0 x7_1).f0))).setCell ⟨gb217, 1, none⟩ (.int .i64 ((rd_T50 l0 x7_1).f1))).setCell ⟨gb217, 2, none⟩ (.string ((rd_T50 l0 x7_1).f2))).heap[gb217]? = some (.cells #[.int .i64 ((rd_T50 l0 x7_1).f0), .int .i64 ((rd_T50 l0 x7_1).f1), .string ((rd_T50 l0 x7_1).f2)] 50 (0, 0))) := ⟨z3_1_⟩
   have n1_ : Aside0 (Below w.heap.size w (((w12.setCell ⟨gb217, 0, none⟩ (.int .i64 ((rd_T50 l0 x7_1).f0))).setCell ⟨gb217, 1, none⟩ (.int .i64 ((rd_T50 l0 x7_1).f1))).setCell ⟨gb217, 2, none⟩ (.string ((rd_T50 l0 x7_1).f2)))) := ⟨hB_⟩
   (try clear BK217)
   (try clear HB)
   generalize (((w12.setCell ⟨gb217, 0, none⟩ (.int .i64 ((rd_T50 l0 x7_1).f0))).setCell ⟨gb217, 1, none⟩ (.int .i64 ((rd_T50 l0 x7_1).f1))).setCell ⟨gb217, 2, none⟩ (.string ((rd_T50 l0 x7_1).f2))) = w14 at n0_ n1_ ⊢
   have BK217 := n0_
   have HB := n1_
   clear n0_ n1_
   replace BK217 := aM_ (blk_drew BK217.out)
   replace HB := aM_ (below_drew1 HB.out)
   have p219 : 0 ≤ ((ji8) : Int) := ode_
   have q219 : (ji8) < (l0.length : Int) := ode_
   obtain ⟨ad219, e219, hx219_0, hx219_1, hx219_2⟩ := at_T50 HR0.out (ji8) p219 q219
   have hw219_2 := hx219_2
   have hw219_1 := hx219_1
   have hw219_0 := hx219_0
   obtain rfl : ad216 = ad219 := (by injection e219)
   replace hx219_0 := hc_ HB hx219_0
   replace hx219_1 := hc_ HB hx219_1
   replace hx219_2 := hc_ HB hx219_2
   replace p219 := eq_true p219
   replace q219 := eq_true q219
   refine st_ 18 (fun w' => w'.cell? ⟨gb217, 0, none⟩ = some (.int .i64 ((rd_T50 l0 x7_1).f0)) ∧ w'.cell? ⟨gb217, 1, none⟩ = some (.int .i64 ((rd_T50 l0 x7_1).f1)) ∧ w'.cell? ⟨gb217, 2, none⟩ = some (.string ((rd_T50 l0 x7_1).f2)) ∧ w'.cell? (ad216.add (((ji8)).toNat * 3)) = some (.int .i64 ((rd_T50 l0 (ji8)).f0)) ∧ w'.cell? ⟨(ad216.add (((ji8)).toNat * 3)).block, (ad216.add (((ji8)).toNat * 3)).off + 1, none⟩ = some (.int .i64 ((rd_T50 l0 (ji8)).f1)) ∧ w'.cell? ⟨(ad216.add (((ji8)).toNat * 3)).block, (ad216.add (((ji8)).toNat * 3)).off + 2, none⟩ = some (.string ((rd_T50 l0 (ji8)).f2))) [] impl_IsTier.tab4 impl_IsTier.bits4 ⟨(blk_cell BK217.out 0).trans rfl, (blk_cell BK217.out 1).trans rfl, (blk_cell BK217.out 2).trans rfl, ((HB.out.cell (World.block_lt_of_cell? w _ hw219_0)).trans hw219_0), ((HB.out.cell (World.block_lt_of_cell? w _ hw219_1)).trans hw219_1), ((HB.out.cell (World.block_lt_of_cell? w _ hw219_2)).trans hw219_2)⟩ fun hHeld HT_ HW_ => ?_
   generalize w14.drew = w15 at BK217 HB hx219_0 hx219_1 hx219_2 hHeld ⊢
   refine tk_ 0 12 ?_
   refine on_ 1 13 fun K hK => ?_
   refine gS_ Try.func53 #[.agg #[.int .i64 ((rd_T50 l0 x7_1).f0), .int .i64 ((rd_T50 l0 x7_1).f1), .string ((rd_T50 l0 x7_1).f2)]] ?_
   with_reducible refine (impl_IsNote.calls k1 ((rd_T50 l0 x7_1).f0) ((rd_T50 l0 x7_1).f1) ((rd_T50 l0 x7_1).f2) true _ A5.out).mono ?_
   rintro e w16 ⟨rfl, hb⟩
   refine ⟨_, rfl, ?_⟩
   replace BK217 := aM_ (blk_below (g := gb217) (kR_ BK217) hb)
   replace HB := aM_ (below_step hB_ hb)
   (try clear hb)
   (try clear hb2)
   (try clear hk)
   (try clear hi)
   refine hK.out _ _ ⟨(blk_cell BK217.out 0).trans rfl, (blk_cell BK217.out 1).trans rfl, (blk_cell BK217.out 2).trans rfl, ((HB.out.cell (World.block_lt_of_cell? w _ hw219_0)).trans hw219_0), ((HB.out.cell (World.block_lt_of_cell? w _ hw219_1)).trans hw219_1), ((HB.out.cell (World.block_lt_of_cell? w _ hw219_2)).trans hw219_2)⟩ (fun hHeld => ?_)
   clear hK K
   refine nm_ 13 ?_
   refine pu_ 2 14 ?_
   refine pu_ 3 15 ?_
   refine pu_ 4 16 ?_
   refine pu_ 5 17 ?_
   refine pu_ 6 18 ?_
   refine pu_ 7 19 ?_
   refine pu_ 8 20 ?_
   refine pu_ 9 21 ?_
   refine pu_ 10 22 ?_
   refine pu_ 11 23 ?_
   refine pu_ 13 25 ?_
   refine tk_ 12 24 ?_
   refine tk_ 14 26 ?_
   refine pu_ 15 27 ?_
   refine pu_ 16 28 ?_
   refine pu_ 17 29 ?_
   refine dn_ ?_
   try go_wp2
   go_ret
   exact ⟨by first | rfl | (simp [errW_none, errW_some] <;> rfl) | (simp only [← hji8]; first | rfl | (simp [errW_none, errW_some] <;> rfl)) | (simp [*, errW_none, errW_some] <;> rfl), hB_⟩

/-! ### slices_Clone_string: function 54 -/
theorem slices_Clone_string.calls (A0 : Option Addr) (c0 : Nat) (l0 : List ByteArray) (r : List ByteArray) (w : World) (hr0 : Kd.C Kd.string w A0 l0.length l0) (hc0 : l0.length ≤ c0) (h : slices_Clone_string.f l0 = some r) :
 Calls Try.prog 54 #[.slice A0 l0.length c0] w fun e w' => ∃ v0_ : Value, e = .returned (v0_) ∧ Kd.R Kd.string 9 w' w.heap.size (fun _ => True) v0_ r ∧ Below w.heap.size w w' := by
 rcases A0 with _ | A0v
 ·obtain rfl : l0 = [] := List.eq_nil_of_length_eq_zero (Nat.eq_zero_of_not_pos fun hp_ => by obtain ⟨ad_, e_, _⟩ := hr0.2.2 hp_; cases e_)
  obtain rfl : r = [] := by simpa [slices_Clone_string.f, eq_comm] using h
  have hq_ : ∀ w_ : World, (binOp .eql 25 (.slice none 0 c0) (.slice none 0 0)).run Try.prog w_ = .ok (.bool true) w_ := fun w_ => eqNil Try.underlying25 none 0 c0 w_
  go_enter Try.func54, Try.ntmps54
  go_wp2
  go_ret
  exact ⟨_, rfl, Kd.R_nil _ _ _ _ _, Below.refl _ _⟩
 have hq_ : ∀ w_ : World, (binOp .eql 25 (.slice (some A0v) l0.length c0) (.slice none 0 0)).run Try.prog w_ = .ok (.bool false) w_ := fun w_ => eqNil Try.underlying25 (some A0v) l0.length c0 w_
 have HR0 := Aside0.mk hr0
 have HC0 := Aside0.mk hc0
 clear hr0 hc0
 have HB := Aside0.mk (Below.refl w.heap.size w)
 have H : ((some (([] : List ByteArray) : List ByteArray)).bind fun y220 => (if y220.length + l0.length < 8796093022208 then (some (y220 ++ l0)) else (none))) = some r := h
 clear h
 replace H := bs_ H; obtain ⟨y220, Ny220, H⟩ := H; try dsimp only at H
 replace H := il_ H; obtain ⟨LMc2, H⟩ := H
 obtain ⟨y223, hy223⟩ : ∃ y_ : List ByteArray, y_ = (y220 ++ l0) := ⟨_, rfl⟩
 rw [← hy223] at H
 have Ny223 := Aside0.mk hy223; clear hy223
 obtain rfl := Option.some.inj H
 go_enter Try.func54, Try.ntmps54
 go_wp2_with (first | ((with_reducible refine gate_dst (N := 5) rfl ?_); refine rl_ Kd.string 9 5 ([] : List ByteArray) [] (Reps.none _ _) ?_; intro v221 w3 ho4 hb hg_ hnew_; clear hg_ hnew_; (first | rw [← Ny220.out] at ho4 | (simp only [Int.reduceToNat] at ho4; rw [← Ny220.out] at ho4)); have HO222 := aM_ (Kd.R_lower ho4 (below_size hB_)); replace HB := aM_ (below_step hB_ hb); clear hb ho4) | ((with_reducible refine gate_builtin (b := .append) (xs := #[.tmp 5, .tmp 6]) rfl ?_); at_builtin; refine Kd.R_append_rows Kd.string (w0 := w) w.heap.size rfl (.tmp 5) (.tmp 6) 25 9 (.string ⟨#[]⟩) 16 rfl Try.underlying25 info9 rfl (by decide) (by omega) v221 y220 l0 _ _ _ (fun _ => True) (fun _ => False) rfl rfl ?aO ?aR (fun _ _ h => h) (fun _ h => h.elim) ?aF ?aB ?aS ?aL ?_; (case aR => repeat (first | exact (Kd.C_below HR0.out HB.out) | (with_reducible first | apply cA_ | apply cN_ | apply cD_))); (case aB => exact hB_); (case aF => exact (fun _ _ => trivial)); (case aO => exact (rR_ HO222)); (case aS => exact (below_size hB_)); (case aL => have := LMc2.out; omega); intro v224 w5 ho hb hg hat; rw [← Ny223.out] at ho; have HO225 := aM_ (ho); replace HB := aM_ (hb); clear HO222; clear ho hb hg hat))
 go_ret
 exact ⟨_, rT_, by (with_reducible repeat (first | apply rA_ | apply rN_ | apply rD_)); exact HO225.out, hB_⟩

end Go.Proofs.Ytbfkpgmdbafmhaa.PFnTierCounts
