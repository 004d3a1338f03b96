/- Printed for this claim: functions of the program as Lean functions, and that the calls answer so. -/
import Derived.Test.YtbfkpgmdbafmhaaDoorPFnShapesx0
import Derived.Test.YtbfkpgmdbafmhaaDoorPFnShapesxD0
import Derived.Test.YtbfkpgmdbafmhaaDoorPFnShapesxD1
namespace Go.Proofs.YtbfkpgmdbafmhaaDoor.PFnShapes
open Go.RowKit Go.Proofs.YtbfkpgmdbafmhaaDoorW.PrintWords Go.Proofs.YtbfkpgmdbafmhaaDoorW.PrintLast Go.Proofs.YtbfkpgmdbafmhaaDoorW.PrintMore
theorem z2_0_ {p : Prop} (h : p := by first | rfl | (simp; done) | (simp [*]; done)) : p := h
theorem z2_1_ {p : Prop} (h : p := by first | exact Nat.ne_of_lt (Nat.lt_of_lt_of_le (by have := World.block_lt_of_cell? _ _ hw112_0; first | rwa [add_block] at this | exact this) GW116.out) | (rw [add_block]; exact Nat.ne_of_lt (Nat.lt_of_lt_of_le (by have := World.block_lt_of_cell? _ _ hw112_0; first | rwa [add_block] at this | exact this) GW116.out)) | (show (Addr.add _ _).block ≠ _; rw [add_block]; exact Nat.ne_of_lt (Nat.lt_of_lt_of_le (by have := World.block_lt_of_cell? _ _ hw112_0; first | rwa [add_block] at this | exact this) GW116.out)) | (dsimp only; exact Nat.ne_of_lt (Nat.lt_of_lt_of_le (by have := World.block_lt_of_cell? _ _ hw112_0; first | rwa [add_block] at this | exact this) GW116.out))) : p := h
theorem z2_2_ {p : Prop} (h : p := by first | exact Nat.ne_of_lt (Nat.lt_of_lt_of_le (by have := World.block_lt_of_cell? _ _ hw113_0; first | rwa [add_block] at this | exact this) GW116.out) | (rw [add_block]; exact Nat.ne_of_lt (Nat.lt_of_lt_of_le (by have := World.block_lt_of_cell? _ _ hw113_0; first | rwa [add_block] at this | exact this) GW116.out)) | (show (Addr.add _ _).block ≠ _; rw [add_block]; exact Nat.ne_of_lt (Nat.lt_of_lt_of_le (by have := World.block_lt_of_cell? _ _ hw113_0; first | rwa [add_block] at this | exact this) GW116.out)) | (dsimp only; exact Nat.ne_of_lt (Nat.lt_of_lt_of_le (by have := World.block_lt_of_cell? _ _ hw113_0; first | rwa [add_block] at this | exact this) GW116.out))) : p := h
theorem z2_3_ {p : Prop} (h : p := by first | exact Nat.ne_of_lt (Nat.lt_of_lt_of_le (by have := World.block_lt_of_cell? _ _ hw114_0; first | rwa [add_block] at this | exact this) GW116.out) | (rw [add_block]; exact Nat.ne_of_lt (Nat.lt_of_lt_of_le (by have := World.block_lt_of_cell? _ _ hw114_0; first | rwa [add_block] at this | exact this) GW116.out)) | (show (Addr.add _ _).block ≠ _; rw [add_block]; exact Nat.ne_of_lt (Nat.lt_of_lt_of_le (by have := World.block_lt_of_cell? _ _ hw114_0; first | rwa [add_block] at this | exact this) GW116.out)) | (dsimp only; exact Nat.ne_of_lt (Nat.lt_of_lt_of_le (by have := World.block_lt_of_cell? _ _ hw114_0; first | rwa [add_block] at this | exact this) GW116.out))) : p := h
theorem z2_4_ {p : Prop} (h : p := by first | exact Nat.ne_of_lt (Nat.lt_of_lt_of_le (by have := World.block_lt_of_cell? _ _ hw115_0; first | rwa [add_block] at this | exact this) GW116.out) | (rw [add_block]; exact Nat.ne_of_lt (Nat.lt_of_lt_of_le (by have := World.block_lt_of_cell? _ _ hw115_0; first | rwa [add_block] at this | exact this) GW116.out)) | (show (Addr.add _ _).block ≠ _; rw [add_block]; exact Nat.ne_of_lt (Nat.lt_of_lt_of_le (by have := World.block_lt_of_cell? _ _ hw115_0; first | rwa [add_block] at this | exact this) GW116.out)) | (dsimp only; exact Nat.ne_of_lt (Nat.lt_of_lt_of_le (by have := World.block_lt_of_cell? _ _ hw115_0; first | rwa [add_block] at this | exact this) GW116.out))) : p := h
set_option maxHeartbeats 8000000
set_option maxRecDepth 100000
attribute [local go_sem] max2_int min2_int max_two min_two max_three min_three max_four min_four isSome_setCell   -- for this text's walks alone
set_option linter.unusedVariables false
set_option linter.unusedSimpArgs false

/-! ### laws_big: function 4 -/
theorem laws_big.calls (A0 : Option Addr) (c0 : Nat) (l0 : List Int) (A1 : Option Addr) (c1 : Nat) (l1 : List Int) (r : Bool) (w : World) (hr0 : Kd.C (Kd.int .u8) w A0 l0.length l0) (hc0 : l0.length ≤ c0) (hr1 : Kd.C (Kd.int .u8) w A1 l1.length l1) (hc1 : l1.length ≤ c1) (h : laws_big.f l0 l1 = some r) :
 Calls Tryd.prog 4 #[.slice A0 l0.length c0, .slice A1 l1.length c1] w fun e w' => e = .returned (.bool r) ∧ Drawn0 w w' := by
 have HR0 := Aside0.mk hr0
 have HC0 := Aside0.mk hc0
 clear hr0 hc0
 have HR1 := Aside0.mk hr1
 have HC1 := Aside0.mk hc1
 clear hr1 hc1
 have H : (if (l0.length : Int) > 1048576 then (some true) else (some (decide ((l1.length : Int) > (wrap64 (1048576 - (l0.length : Int))))))) = some r := h
 clear h
 by_cases c3 : (l0.length : Int) > 1048576
 ·rw [if_pos c3] at H
  have c3b0 : decide (1048576 < (l0.length : Int)) = true := decide_eq_true c3
  have c3b1 : decide (1048576 < l0.length) = true := decide_eq_true (by omega)
  clear c3
  obtain rfl := Option.some.inj H
  go_enter Tryd.func4, Tryd.ntmps4
  go_wp2
  go_ret
  exact ⟨z2_0_, by repeat (first | exact Drawn0.refl _ | apply Drawn0.step)⟩
 rw [if_neg c3] at H
 have c3b0 : decide (1048576 < (l0.length : Int)) = false := decide_eq_false c3
 have c3b1 : decide (1048576 < l0.length) = false := decide_eq_false (by omega)
 clear c3
 obtain rfl := Option.some.inj H
 go_enter Tryd.func4, Tryd.ntmps4
 go_wp2
 go_ret
 exact ⟨z2_0_, by repeat (first | exact Drawn0.refl _ | apply Drawn0.step)⟩

/-! ### spec_shFingers: function 25 -/
theorem spec_shFingers.calls (a0_0 : Int) (a0_1 : Int) (a0_2 : Int) (a0_3 : Int) (a0_4 : Int) (a0_5 : Bool) (r : List Int) (w : World) (h : spec_shFingers.f a0_0 a0_1 a0_2 a0_3 a0_4 a0_5 = some r) :
 Calls Tryd.prog 25 #[.agg #[.int .i64 a0_0, .int .i64 a0_1, .int .i64 a0_2, .int .i64 a0_3, .int .i64 a0_4, .bool a0_5]] w fun e w' => ∃ v0_ : Value, e = .returned (v0_) ∧ Kd.R (Kd.int .i64) 3 w' w.heap.size (fun _ => True) v0_ r ∧ Below w.heap.size w w' := by
 have hu25 := Tryd.underlying25
 have HB := Aside0.mk (Below.refl w.heap.size w)
 have H : (some (([a0_1, a0_2, a0_3, a0_4] : List Int))) = some r := h
 clear h
 obtain ⟨y102, hy102⟩ : ∃ y_ : List Int, y_ = (([a0_1, a0_2, a0_3, a0_4] : List Int)) := ⟨_, rfl⟩
 rw [← hy102] at H
 have Ny102 := Aside0.mk hy102; clear hy102
 obtain rfl := Option.some.inj H
 go_enter Tryd.func25, Tryd.ntmps25
 go_wp2_with (first | ((with_reducible refine gate_dst (N := 1) rfl ?_); refine bx_ 1 #[.int .i64 a0_0, .int .i64 a0_1, .int .i64 a0_2, .int .i64 a0_3, .int .i64 a0_4, .bool a0_5] 25 fun gb101 hg w2 hbox hb => ?_; have BK101 := aM_ (hbox); have GW101 := aM_ (gw_ w hg); have GE101 := aM_ (gw_ w hg); replace HB := aM_ (below_step hB_ hb); clear hb hbox hg; have hz3 := cf6_ BK101.out; clear BK101) | ((with_reducible refine gate_dst (N := 11) rfl ?_); refine rl_ (Kd.int .i64) 3 11 ([a0_1, a0_2, a0_3, a0_4] : List Int) [.int .i64 a0_1, .int .i64 a0_2, .int .i64 a0_3, .int .i64 a0_4] (Reps.one (show Kd.M (Kd.int .i64) _ _ _ a0_1 [.int .i64 a0_1] from rfl) (Reps.one (show Kd.M (Kd.int .i64) _ _ _ a0_2 [.int .i64 a0_2] from rfl) (Reps.one (show Kd.M (Kd.int .i64) _ _ _ a0_3 [.int .i64 a0_3] from rfl) (Reps.one (show Kd.M (Kd.int .i64) _ _ _ a0_4 [.int .i64 a0_4] from rfl) (Reps.none _ _))))) ?_; intro v103 w4 ho5 hb hg_ hnew_; clear hg_ hnew_; (first | rw [← Ny102.out] at ho5 | (simp only [Int.reduceToNat] at ho5; rw [← Ny102.out] at ho5)); have HO104 := aM_ (Kd.R_lower ho5 (below_size hB_)); replace HB := aM_ (below_step hB_ hb); clear hb ho5))
 go_ret
 exact ⟨_, rT_, by (with_reducible repeat (first | apply rA_ | apply rN_ | apply rD_)); exact HO104.out, hB_⟩

/-! ### spec_shWide: function 46 -/
theorem spec_shWide.calls (k : Nat) (a0_0 : Int) (a0_1 : Int) (a0_2 : Int) (a0_3 : Int) (a0_4 : Int) (a0_5 : Bool) (r : Bool) (w : World) (h : spec_shWide.f k a0_0 a0_1 a0_2 a0_3 a0_4 a0_5 = some r) :
 Calls Tryd.prog 46 #[.agg #[.int .i64 a0_0, .int .i64 a0_1, .int .i64 a0_2, .int .i64 a0_3, .int .i64 a0_4, .bool a0_5]] w fun e w' => e = .returned (.bool r) ∧ Below w.heap.size w w' := by
 have hu25 := Tryd.underlying25
 have HB := Aside0.mk (Below.refl w.heap.size w)
 have H : ((spec_shFingers.f a0_0 a0_1 a0_2 a0_3 a0_4 a0_5).bind fun t106 => (spec_shWide.l0 k t106 1)) = some r := h
 clear h
 replace H := ob_ H; obtain ⟨t106, A2, H⟩ := H; try dsimp only at H
 have H' := Aside0.mk H
 clear H
 go_enter Tryd.func46, Tryd.ntmps46
 go_wp2_with (first | ((with_reducible refine gate_dst (N := 1) rfl ?_); refine bx_ 1 #[.int .i64 a0_0, .int .i64 a0_1, .int .i64 a0_2, .int .i64 a0_3, .int .i64 a0_4, .bool a0_5] 25 fun gb105 hg w3 hbox hb => ?_; have BK105 := aM_ (hbox); have GW105 := aM_ (gw_ w hg); have GE105 := aM_ (gw_ w hg); replace HB := aM_ (below_step hB_ hb); clear hb hbox hg; have hz4 := cf6_ BK105.out; clear BK105) | ((with_reducible refine gC_ 25 ?_); refine gM_ (some 6) Tryd.func25 #[.agg #[.int .i64 a0_0, .int .i64 a0_1, .int .i64 a0_2, .int .i64 a0_3, .int .i64 a0_4, .bool a0_5]] ?_; (with_reducible refine (spec_shFingers.calls a0_0 a0_1 a0_2 a0_3 a0_4 a0_5 t106 _ A2.out).mono ?_); rintro e w5 ⟨v107, rfl, ho0, hb⟩; refine ⟨_, rfl, ?_⟩; have HO108 := aM_ (Kd.R_lower ho0 (below_size hB_)); replace HB := aM_ (below_step hB_ hb); (try clear hb); (try clear ho0)))
 try simp only [Act.put, List.setIfInBounds_toArray, List.set_cons_zero, List.set_cons_succ]
 go_loopg [4] k (fun kq v4 w' => ∃ (x4_1 : Int), v4 = .int .i64 x4_1 ∧ Aside0 (spec_shWide.l0 kq t106 x4_1 = some r) ∧ Aside0 (kq ≤ k) ∧ Aside0 (Kd.R (Kd.int .i64) 3 w' w.heap.size (fun _ => True) v107 t106) ∧ Aside0 (Below w.heap.size w w'))
 case atStart => exact ⟨(1), z2_0_, H', ⟨Nat.le_refl _⟩, ⟨rR_ HO108⟩, ⟨hB_⟩⟩
 case round =>
  clear H'
  (try clear hcz4_0);(try clear hcz4_1);(try clear hcz4_2);(try clear hcz4_3);(try clear hcz4_4);(try clear hcz4_5);(try clear hfz4_0);(try clear hfz4_1);(try clear hfz4_2);(try clear hfz4_3);(try clear hfz4_4);(try clear hfz4_5)
  obtain ⟨x4_1, rfl, HA, HK1, HO_3, HB⟩ := hrel
  cases gk with
  | zero => exact absurd HA.out (by simp [spec_shWide.l0])
  | succ k1 =>
   have H := HA.out
   clear HA
   simp only [spec_shWide.l0] at H
   replace H := iF_ H; obtain ⟨c6b0, H⟩ | ⟨c6b0, H⟩ := H
   ·obtain rfl := Option.some.inj H
    go_wp2
    go_ret
    exact ⟨rT_, hB_⟩
   obtain ⟨ji7, hji7⟩ : ∃ j_ : Int, (wrap64 (x4_1 - 1)) = j_ := ⟨_, rfl⟩
   replace H : (if 0 ≤ (ji7) then (if (ji7) < (t106.length : Int) then (if (rd t106 (ji7)) = 0 then (if 0 ≤ x4_1 then (if x4_1 < (t106.length : Int) then (if (rd t106 x4_1) = 0 then (some true) else (spec_shWide.l0 k1 t106 (wrap64 (x4_1 + 1)))) else (none)) else (none)) else (spec_shWide.l0 k1 t106 (wrap64 (x4_1 + 1)))) else (none)) else (none)) = some r := by first | (rw [hji7] at H; exact H) | (simp only [hji7] at H ⊢; exact H)
   have hji7w : (IntKind.i64.wrap (x4_1 - 1)) = ji7 := (i64_w _).trans hji7
   replace H := ig_ H; obtain ⟨c8b0, H⟩ := H
   replace H := ig_ H; obtain ⟨c9b0, H⟩ := H
   by_cases c10 : (rd t106 (ji7)) = 0
   rotate_left
   ·rw [if_neg c10] at H
    have c10b0 : ((rd t106 (ji7)) == 0) = false := beq_eq_false_iff_ne.mpr c10
    have c10b1 : ((rd t106 (ji7)) != 0) = true := bne_iff_ne.mpr c10
    have H' := Aside0.mk H
    clear H
    obtain ⟨Ao16, co16, eo16⟩ := Kd.R_slice HO_3.out
    subst eo16
    obtain ⟨⟨ad109, e109, hx109_0⟩, p109, q109⟩ := at2_ (Kd.at_int (Kd.R_reads' HO_3.out).2.2 (ji7)); cases e109
    go_wp2
    go_roundg k1
    case measure => have := HK1.out; omega
    case rel => exact ⟨(wrap64 (x4_1 + 1)), z2_0_, H', ⟨by have := HK1.out; omega⟩, ⟨(rR_ HO_3)⟩, ⟨hB_⟩⟩
   rw [if_pos c10] at H
   have c10b0 : ((rd t106 (ji7)) == 0) = true := beq_iff_eq.mpr c10
   have c10b1 : ((rd t106 (ji7)) != 0) = false := bne_eq_false_iff_eq.mpr c10
   clear c10
   replace H := ig_ H; obtain ⟨c11b0, H⟩ := H
   replace H := ig_ H; obtain ⟨c12b0, H⟩ := H
   by_cases c13 : (rd t106 x4_1) = 0
   ·rw [if_pos c13] at H
    have c13b0 : ((rd t106 x4_1) == 0) = true := beq_iff_eq.mpr c13
    have c13b1 : ((rd t106 x4_1) != 0) = false := bne_eq_false_iff_eq.mpr c13
    clear c13
    obtain rfl := Option.some.inj H
    obtain ⟨Ao14, co14, eo14⟩ := Kd.R_slice HO_3.out
    subst eo14
    obtain ⟨⟨ad109, e109, hx109_0⟩, p109, q109⟩ := at2_ (Kd.at_int (Kd.R_reads' HO_3.out).2.2 (ji7)); cases e109
    have p110 : 0 ≤ (x4_1 : Int) := ode_
    have q110 : x4_1 < (t106.length : Int) := ode_
    obtain ⟨ad110, e110, hx110_0⟩ := Kd.at_int (Kd.R_reads' HO_3.out).2.2 x4_1 p110 q110
    obtain rfl : ad109 = ad110 := (by injection e110)
    replace p110 := eq_true p110
    replace q110 := eq_true q110
    go_wp2
    go_ret
    exact ⟨by first | rfl | (simp [errW_none, errW_some] <;> rfl) | (simp only [← hji7]; first | rfl | (simp [errW_none, errW_some] <;> rfl)) | (simp [*, errW_none, errW_some] <;> rfl), hB_⟩
   rw [if_neg c13] at H
   have c13b0 : ((rd t106 x4_1) == 0) = false := beq_eq_false_iff_ne.mpr c13
   have c13b1 : ((rd t106 x4_1) != 0) = true := bne_iff_ne.mpr c13
   have H' := Aside0.mk H
   clear H
   obtain ⟨Ao15, co15, eo15⟩ := Kd.R_slice HO_3.out
   subst eo15
   obtain ⟨⟨ad109, e109, hx109_0⟩, p109, q109⟩ := at2_ (Kd.at_int (Kd.R_reads' HO_3.out).2.2 (ji7)); cases e109
   have p110 : 0 ≤ (x4_1 : Int) := ode_
   have q110 : x4_1 < (t106.length : Int) := ode_
   obtain ⟨ad110, e110, hx110_0⟩ := Kd.at_int (Kd.R_reads' HO_3.out).2.2 x4_1 p110 q110
   obtain rfl : ad109 = ad110 := (by injection e110)
   replace p110 := eq_true p110
   replace q110 := eq_true q110
   go_wp2
   go_roundg k1
   case measure => have := HK1.out; omega
   case rel => exact ⟨(wrap64 (x4_1 + 1)), z2_0_, H', ⟨by have := HK1.out; omega⟩, ⟨(rR_ HO_3)⟩, ⟨hB_⟩⟩

/-! ### spec_shMade: function 30 -/
def spec_shMade.T1 : Bool × List (List Nat × List Nat) := (true, [([], []), ([], []), ([1], [1]), ([2], [2]), ([], []), ([4], [4]), ([5], [5]), ([], []), ([7], [7]), ([8], [8]), ([], []), ([10], [10]), ([11], [11]), ([0, 3, 6, 9, 12], [0, 3, 6, 9, 12]), ([], []), ([14, 13, 0, 1, 2, 3, 4, 5, 6, 7, 8, 9, 10, 11, 12, 13, 14], [13, 14])])
def spec_shMade.B1 : List Nat := [0, 0, 2, 6, 0, 16, 48, 0, 128, 384, 0, 1024, 3072, 8191, 0, 32767]
theorem spec_shMade.tab1 : rtab .any (opsOf Tryd.f30 1) = spec_shMade.T1 := by kernel_rfl
theorem spec_shMade.bits1 : waitsOk spec_shMade.T1.2 spec_shMade.B1 = true := by kernel_rfl
theorem spec_shMade.calls (k : Nat) (a0 : Int) (A1 : Option Addr) (c1 : Nat) (l1 : List Int) (a2 : Bool) (r1 : Int) (r2 : Int) (r3 : Int) (r4 : Int) (r5 : Int) (r6 : Bool) (w : World) (hr1 : Kd.C (Kd.int .i64) w A1 l1.length l1) (hc1 : l1.length ≤ c1) (h : spec_shMade.f k a0 l1 a2 = some (r1, r2, r3, r4, r5, r6)) :
 Calls Tryd.prog 30 #[.int .i64 a0, .slice A1 l1.length c1, .bool a2] w fun e w' => e = .returned (.agg #[.int .i64 r1, .int .i64 r2, .int .i64 r3, .int .i64 r4, .int .i64 r5, .bool r6]) ∧ Below w.heap.size w w' := by
 have hu25 := Tryd.underlying25
 have HR1 := Aside0.mk hr1
 have HC1 := Aside0.mk hc1
 clear hr1 hc1
 have HB := Aside0.mk (Below.refl w.heap.size w)
 have H : (if 0 < (l1.length : Int) then (if 1 < (l1.length : Int) then (if 2 < (l1.length : Int) then (if 3 < (l1.length : Int) then (if a2 = true then ((spec_shWide.f k a0 (rd l1 0) (rd l1 1) (rd l1 2) (rd l1 3) false).bind fun t117 => (some (a0, rd l1 0, rd l1 1, rd l1 2, rd l1 3, t117))) else (some (a0, rd l1 0, rd l1 1, rd l1 2, rd l1 3, false))) else (none)) else (none)) else (none)) else (none)) = some (r1, r2, r3, r4, r5, r6) := h
 clear h
 by_cases c4 : 0 < (l1.length : Int)
 rotate_left
 ·rw [if_neg c4] at H
  exact absurd H (by simp)
 rw [if_pos c4] at H
 have c4b0 : decide (0 < (l1.length : Int)) = true := decide_eq_true c4
 have c4b1 : decide (0 < l1.length) = true := decide_eq_true (by omega)
 clear c4
 by_cases c5 : 1 < (l1.length : Int)
 rotate_left
 ·rw [if_neg c5] at H
  exact absurd H (by simp)
 rw [if_pos c5] at H
 have c5b0 : decide (1 < (l1.length : Int)) = true := decide_eq_true c5
 have c5b1 : decide (1 < l1.length) = true := decide_eq_true (by omega)
 clear c5
 by_cases c6 : 2 < (l1.length : Int)
 rotate_left
 ·rw [if_neg c6] at H
  exact absurd H (by simp)
 rw [if_pos c6] at H
 have c6b0 : decide (2 < (l1.length : Int)) = true := decide_eq_true c6
 have c6b1 : decide (2 < l1.length) = true := decide_eq_true (by omega)
 clear c6
 by_cases c7 : 3 < (l1.length : Int)
 rotate_left
 ·rw [if_neg c7] at H
  exact absurd H (by simp)
 rw [if_pos c7] at H
 have c7b0 : decide (3 < (l1.length : Int)) = true := decide_eq_true c7
 have c7b1 : decide (3 < l1.length) = true := decide_eq_true (by omega)
 clear c7
 by_cases c8 : a2 = true
 rotate_left
 ·replace c8 := Bool.eq_false_iff.mpr c8
  subst c8
  replace H := in_ H (show ¬ (false = true) by decide)
  simp only [Option.some.injEq, Prod.mk.injEq] at H
  obtain ⟨rfl, rfl, rfl, rfl, rfl, rfl⟩ := H
  go_enter Tryd.func30, Tryd.ntmps30
  try go_wp2_with (first | ((with_reducible refine gate_dst (N := 6) rfl ?_); refine bx_ 6 #[.int .i64 0, .int .i64 0, .int .i64 0, .int .i64 0, .int .i64 0, .bool false] 25 fun gb111 hg w24 hbox hb => ?_; have BK111 := aM_ (hbox); have GW111 := aM_ (gw_ w hg); have GE111 := aM_ (gw_ w hg); replace HB := aM_ (below_step hB_ hb); clear hb hbox hg))
  replace BK111 := aM_ (blk_drew BK111.out)
  replace HB := aM_ (below_drew1 HB.out)
  have p112 : 0 ≤ (0 : Int) := (by omega)
  have q112 : 0 < (l1.length : Int) := ode_
  obtain ⟨ad112, e112, hx112_0⟩ := Kd.at_int HR1.out 0 p112 q112
  have hw112_0 := hx112_0
  (try rw [show ((0 : Int)).toNat = 0 from rfl] at hw112_0)
  (try rw [show 0 * 1 = 0 from rfl] at hw112_0)
  (try rw [Addr.add_zero'] at hw112_0)
  cases e112
  have qi112 : (0 < l1.length) = True := eq_true (by omega)
  (try rw [show ((0 : Int)).toNat = 0 from rfl] at hx112_0)
  (try rw [Addr.add_zero'] at hx112_0)
  try replace hx112_0 := hc_ HB hx112_0
  replace p112 := eq_true p112
  replace q112 := eq_true q112
  have p113 : 0 ≤ (1 : Int) := (by omega)
  have q113 : 1 < (l1.length : Int) := ode_
  obtain ⟨ad113, e113, hx113_0⟩ := Kd.at_int HR1.out 1 p113 q113
  have hw113_0 := hx113_0
  (try rw [show ((1 : Int)).toNat = 1 from rfl] at hw113_0)
  (try rw [show 1 * 1 = 1 from rfl] at hw113_0)
  (try simp only [Nat.reduceMul, Nat.reduceEqDiff, Go.Addr.add, ↓reduceIte] at hw113_0)
  obtain rfl : ad112 = ad113 := (by injection e113)
  (try simp only [show (1 : Int).toNat = 1 from rfl, Nat.reduceMul, Nat.reduceEqDiff, Go.Addr.add, ↓reduceIte] at hx113_0)
  have qi113 : (1 < l1.length) = True := eq_true (by omega)
  (try rw [show ((1 : Int)).toNat = 1 from rfl] at hx113_0)
  try replace hx113_0 := hc_ HB hx113_0
  replace p113 := eq_true p113
  replace q113 := eq_true q113
  have p114 : 0 ≤ (2 : Int) := (by omega)
  have q114 : 2 < (l1.length : Int) := ode_
  obtain ⟨ad114, e114, hx114_0⟩ := Kd.at_int HR1.out 2 p114 q114
  have hw114_0 := hx114_0
  (try rw [show ((2 : Int)).toNat = 2 from rfl] at hw114_0)
  (try rw [show 2 * 1 = 2 from rfl] at hw114_0)
  (try simp only [Nat.reduceMul, Nat.reduceEqDiff, Go.Addr.add, ↓reduceIte] at hw114_0)
  obtain rfl : ad112 = ad114 := (by injection e114)
  (try simp only [show (2 : Int).toNat = 2 from rfl, Nat.reduceMul, Nat.reduceEqDiff, Go.Addr.add, ↓reduceIte] at hx114_0)
  have qi114 : (2 < l1.length) = True := eq_true (by omega)
  (try rw [show ((2 : Int)).toNat = 2 from rfl] at hx114_0)
  try replace hx114_0 := hc_ HB hx114_0
  replace p114 := eq_true p114
  replace q114 := eq_true q114
  have p115 : 0 ≤ (3 : Int) := (by omega)
  have q115 : 3 < (l1.length : Int) := ode_
  obtain ⟨ad115, e115, hx115_0⟩ := Kd.at_int HR1.out 3 p115 q115
  have hw115_0 := hx115_0
  (try rw [show ((3 : Int)).toNat = 3 from rfl] at hw115_0)
  (try rw [show 3 * 1 = 3 from rfl] at hw115_0)
  (try simp only [Nat.reduceMul, Nat.reduceEqDiff, Go.Addr.add, ↓reduceIte] at hw115_0)
  obtain rfl : ad112 = ad115 := (by injection e115)
  (try simp only [show (3 : Int).toNat = 3 from rfl, Nat.reduceMul, Nat.reduceEqDiff, Go.Addr.add, ↓reduceIte] at hx115_0)
  have qi115 : (3 < l1.length) = True := eq_true (by omega)
  (try rw [show ((3 : Int)).toNat = 3 from rfl] at hx115_0)
  try replace hx115_0 := hc_ HB hx115_0
  replace p115 := eq_true p115
  replace q115 := eq_true q115
  refine st_ 16 (fun w' => w'.cell? ad112 = some (.int .i64 (rd l1 0)) ∧ w'.cell? ⟨ad112.block, ad112.off + 1, none⟩ = some (.int .i64 (rd l1 1)) ∧ w'.cell? ⟨ad112.block, ad112.off + 2, none⟩ = some (.int .i64 (rd l1 2)) ∧ w'.cell? ⟨ad112.block, ad112.off + 3, none⟩ = some (.int .i64 (rd l1 3))) [] spec_shMade.tab1 spec_shMade.bits1 ⟨((HB.out.cell (World.block_lt_of_cell? w _ hw112_0)).trans hw112_0), ((HB.out.cell (World.block_lt_of_cell? w _ hw113_0)).trans hw113_0), ((HB.out.cell (World.block_lt_of_cell? w _ hw114_0)).trans hw114_0), ((HB.out.cell (World.block_lt_of_cell? w _ hw115_0)).trans hw115_0)⟩ fun hHeld HT_ HW_ => ?_
  generalize w24.drew = w25 at BK111 HB hx112_0 hx113_0 hx114_0 hx115_0 hHeld ⊢
  refine pu_ 0 8 ?_
  refine pu_ 1 9 ?_
  refine pu_ 2 10 ?_
  refine pu_ 4 12 ?_
  refine pu_ 5 13 ?_
  refine pu_ 7 15 ?_
  refine pu_ 8 16 ?_
  refine pu_ 10 18 ?_
  refine pu_ 11 19 ?_
  refine tk_ 3 11 ?_
  refine tk_ 6 14 ?_
  refine tk_ 9 17 ?_
  refine tk_ 12 20 ?_
  refine pu_ 13 21 ?_
  refine on_ 14 7 fun K hK => ?_
  refine box_step ?hg (N := 7) ?hd (cs := #[.int .i64 0, .int .i64 0, .int .i64 0, .int .i64 0, .int .i64 0, .bool false]) (t := 25) ?hr ?_; (case hd => rfl); (case hg => rfl); (case hr => first | (go_simp; done) | (go_simp; rfl))
  intro gb116 hg w26 hbox hb
  have BK116 := aM_ (hbox)
  have GW116 := aM_ (gw_ w hg)
  have GE116 := aM_ (gw_ w hg)
  have NB111_116 := aM_ (nb_ gb111 hg)
  have NB116_111 := aM_ (nc_ gb111 hg)
  replace BK111 := aM_ (blk_below (g := gb111) (kR_ BK111) hb)
  replace HB := aM_ (below_step hB_ hb)
  clear hb hbox hg
  refine hK.out _ _ ⟨((HB.out.cell (World.block_lt_of_cell? w _ hw112_0)).trans hw112_0), ((HB.out.cell (World.block_lt_of_cell? w _ hw113_0)).trans hw113_0), ((HB.out.cell (World.block_lt_of_cell? w _ hw114_0)).trans hw114_0), ((HB.out.cell (World.block_lt_of_cell? w _ hw115_0)).trans hw115_0)⟩ (fun hHeld => ?_)
  clear hK K
  refine nm_ 7 ?_
  refine one_ (i := 15) (N := none) (bz_ 16 0xffff) rfl rfl (one_of HT_.out (by kernel_rfl)) (by decide) (fun K hK => ?_)
  have hs27 : w26.cell? ⟨gb116, 0, none⟩ = some (.int .i64 0) := (blk_cell BK116.out 0).trans rfl
  have hfs27 := blk_frozen BK116.out 0
  have hns27_0 := NB111_116.out
  have hms27_0 := NB116_111.out
  have hs28 : w26.cell? ⟨gb116, 1, none⟩ = some (.int .i64 0) := (blk_cell BK116.out 1).trans rfl
  have hfs28 := blk_frozen BK116.out 1
  have hns28_0 := NB111_116.out
  have hms28_0 := NB116_111.out
  have hs29 : w26.cell? ⟨gb116, 2, none⟩ = some (.int .i64 0) := (blk_cell BK116.out 2).trans rfl
  have hfs29 := blk_frozen BK116.out 2
  have hns29_0 := NB111_116.out
  have hms29_0 := NB116_111.out
  have hs30 : w26.cell? ⟨gb116, 3, none⟩ = some (.int .i64 0) := (blk_cell BK116.out 3).trans rfl
  have hfs30 := blk_frozen BK116.out 3
  have hns30_0 := NB111_116.out
  have hms30_0 := NB116_111.out
  have hs31 : w26.cell? ⟨gb116, 4, none⟩ = some (.int .i64 0) := (blk_cell BK116.out 4).trans rfl
  have hfs31 := blk_frozen BK116.out 4
  have hns31_0 := NB111_116.out
  have hms31_0 := NB116_111.out
  have hs32 : w26.cell? ⟨gb116, 5, none⟩ = some (.bool false) := (blk_cell BK116.out 5).trans rfl
  have hfs32 := blk_frozen BK116.out 5
  have hns32_0 := NB111_116.out
  have hms32_0 := NB116_111.out
  refine skip_ (w1 := ?_) (by rfl) rfl ?_ ?_
  rotate_left
  ·go_simp
   rfl
  refine hK.out _ _ ⟨((cell_far (p := ⟨gb116, _, none⟩) z2_1_ _).trans (((cell_far (p := ⟨gb116, _, none⟩) z2_1_ _).trans (((cell_far (p := ⟨gb116, _, none⟩) z2_1_ _).trans (((cell_far (p := ⟨gb116, _, none⟩) z2_1_ _).trans (((cell_far (p := ⟨gb116, _, none⟩) z2_1_ _).trans (((cell_far (p := ⟨gb116, _, none⟩) z2_1_ _).trans (hHeld.1)))))))))))), ((cell_far (p := ⟨gb116, _, none⟩) z2_2_ _).trans (((cell_far (p := ⟨gb116, _, none⟩) z2_2_ _).trans (((cell_far (p := ⟨gb116, _, none⟩) z2_2_ _).trans (((cell_far (p := ⟨gb116, _, none⟩) z2_2_ _).trans (((cell_far (p := ⟨gb116, _, none⟩) z2_2_ _).trans (((cell_far (p := ⟨gb116, _, none⟩) z2_2_ _).trans (hHeld.2.1)))))))))))), ((cell_far (p := ⟨gb116, _, none⟩) z2_3_ _).trans (((cell_far (p := ⟨gb116, _, none⟩) z2_3_ _).trans (((cell_far (p := ⟨gb116, _, none⟩) z2_3_ _).trans (((cell_far (p := ⟨gb116, _, none⟩) z2_3_ _).trans (((cell_far (p := ⟨gb116, _, none⟩) z2_3_ _).trans (((cell_far (p := ⟨gb116, _, none⟩) z2_3_ _).trans (hHeld.2.2.1)))))))))))), ((cell_far (p := ⟨gb116, _, none⟩) z2_4_ _).trans (((cell_far (p := ⟨gb116, _, none⟩) z2_4_ _).trans (((cell_far (p := ⟨gb116, _, none⟩) z2_4_ _).trans (((cell_far (p := ⟨gb116, _, none⟩) z2_4_ _).trans (((cell_far (p := ⟨gb116, _, none⟩) z2_4_ _).trans (((cell_far (p := ⟨gb116, _, none⟩) z2_4_ _).trans (hHeld.2.2.2))))))))))))⟩ (fun hHeld => ?_)
  clear hK K
  refine dn_ ?_
  have hnb33 := NB116_111.out
  have hnc33 := NB111_116.out
  have hz34 := cf6_ BK116.out
  have hz35 := cf6_ BK111.out
  try go_wp2
  refine bodyPost_ret (results_cell_row rfl _ _ gb111 25 #[.int .i64 a0, .int .i64 (rd l1 0), .int .i64 (rd l1 1), .int .i64 (rd l1 2), .int .i64 (rd l1 3), .bool false] (0, 0) _ rfl (by (with_reducible repeat (first | apply kN_ | apply kD_ | apply kA_)); refine blk_put (cs := #[.int .i64 a0, .int .i64 (rd l1 0), .int .i64 (rd l1 1), .int .i64 (rd l1 2), .int .i64 (rd l1 3), .bool false]) ?_ 5 _ rfl; (with_reducible repeat (first | apply kN_ | apply kD_ | apply kA_)); refine blk_put (cs := #[.int .i64 a0, .int .i64 (rd l1 0), .int .i64 (rd l1 1), .int .i64 (rd l1 2), .int .i64 0, .bool false]) ?_ 4 _ rfl; (with_reducible repeat (first | apply kN_ | apply kD_ | apply kA_)); refine blk_put (cs := #[.int .i64 a0, .int .i64 (rd l1 0), .int .i64 (rd l1 1), .int .i64 0, .int .i64 0, .bool false]) ?_ 3 _ rfl; (with_reducible repeat (first | apply kN_ | apply kD_ | apply kA_)); refine blk_put (cs := #[.int .i64 a0, .int .i64 (rd l1 0), .int .i64 0, .int .i64 0, .int .i64 0, .bool false]) ?_ 2 _ rfl; (with_reducible repeat (first | apply kN_ | apply kD_ | apply kA_)); refine blk_put (cs := #[.int .i64 a0, .int .i64 0, .int .i64 0, .int .i64 0, .int .i64 0, .bool false]) ?_ 1 _ rfl; (with_reducible repeat (first | apply kN_ | apply kD_ | apply kA_)); refine blk_put (cs := #[.int .i64 0, .int .i64 0, .int .i64 0, .int .i64 0, .int .i64 0, .bool false]) ?_ 0 _ rfl; (with_reducible repeat (first | apply kN_ | apply kD_ | apply kA_)); refine blk_far ?_ NB111_116.out _; (with_reducible repeat (first | apply kN_ | apply kD_ | apply kA_)); refine blk_far ?_ NB111_116.out _; (with_reducible repeat (first | apply kN_ | apply kD_ | apply kA_)); refine blk_far ?_ NB111_116.out _; (with_reducible repeat (first | apply kN_ | apply kD_ | apply kA_)); refine blk_far ?_ NB111_116.out _; (with_reducible repeat (first | apply kN_ | apply kD_ | apply kA_)); refine blk_far ?_ NB111_116.out _; (with_reducible repeat (first | apply kN_ | apply kD_ | apply kA_)); refine blk_far ?_ NB111_116.out _; (with_reducible repeat (first | apply kN_ | apply kD_ | apply kA_)); refine blk_far ?_ NB111_116.out _; (with_reducible repeat (first | apply kN_ | apply kD_ | apply kA_)); exact BK111.out) Tryd.underlying25 rfl (by kernel_rfl)) rfl ?_
  exact ⟨rT_, hB_⟩
 subst c8
 replace H := ip_ H rfl
 replace H := ob_ H; obtain ⟨t117, A9, H⟩ := H; try dsimp only at H
 simp only [Option.some.injEq, Prod.mk.injEq] at H
 obtain ⟨rfl, rfl, rfl, rfl, rfl, rfl⟩ := H
 go_enter Tryd.func30, Tryd.ntmps30
 try go_wp2_with (first | ((with_reducible refine gate_dst (N := 6) rfl ?_); refine bx_ 6 #[.int .i64 0, .int .i64 0, .int .i64 0, .int .i64 0, .int .i64 0, .bool false] 25 fun gb111 hg w10 hbox hb => ?_; have BK111 := aM_ (hbox); have GW111 := aM_ (gw_ w hg); have GE111 := aM_ (gw_ w hg); replace HB := aM_ (below_step hB_ hb); clear hb hbox hg))
 replace BK111 := aM_ (blk_drew BK111.out)
 replace HB := aM_ (below_drew1 HB.out)
 have p112 : 0 ≤ (0 : Int) := (by omega)
 have q112 : 0 < (l1.length : Int) := ode_
 obtain ⟨ad112, e112, hx112_0⟩ := Kd.at_int HR1.out 0 p112 q112
 have hw112_0 := hx112_0
 (try rw [show ((0 : Int)).toNat = 0 from rfl] at hw112_0)
 (try rw [show 0 * 1 = 0 from rfl] at hw112_0)
 (try rw [Addr.add_zero'] at hw112_0)
 cases e112
 have qi112 : (0 < l1.length) = True := eq_true (by omega)
 (try rw [show ((0 : Int)).toNat = 0 from rfl] at hx112_0)
 (try rw [Addr.add_zero'] at hx112_0)
 try replace hx112_0 := hc_ HB hx112_0
 replace p112 := eq_true p112
 replace q112 := eq_true q112
 have p113 : 0 ≤ (1 : Int) := (by omega)
 have q113 : 1 < (l1.length : Int) := ode_
 obtain ⟨ad113, e113, hx113_0⟩ := Kd.at_int HR1.out 1 p113 q113
 have hw113_0 := hx113_0
 (try rw [show ((1 : Int)).toNat = 1 from rfl] at hw113_0)
 (try rw [show 1 * 1 = 1 from rfl] at hw113_0)
 (try simp only [Nat.reduceMul, Nat.reduceEqDiff, Go.Addr.add, ↓reduceIte] at hw113_0)
 obtain rfl : ad112 = ad113 := (by injection e113)
 (try simp only [show (1 : Int).toNat = 1 from rfl, Nat.reduceMul, Nat.reduceEqDiff, Go.Addr.add, ↓reduceIte] at hx113_0)
 have qi113 : (1 < l1.length) = True := eq_true (by omega)
 (try rw [show ((1 : Int)).toNat = 1 from rfl] at hx113_0)
 try replace hx113_0 := hc_ HB hx113_0
 replace p113 := eq_true p113
 replace q113 := eq_true q113
 have p114 : 0 ≤ (2 : Int) := (by omega)
 have q114 : 2 < (l1.length : Int) := ode_
 obtain ⟨ad114, e114, hx114_0⟩ := Kd.at_int HR1.out 2 p114 q114
 have hw114_0 := hx114_0
 (try rw [show ((2 : Int)).toNat = 2 from rfl] at hw114_0)
 (try rw [show 2 * 1 = 2 from rfl] at hw114_0)
 (try simp only [Nat.reduceMul, Nat.reduceEqDiff, Go.Addr.add, ↓reduceIte] at hw114_0)
 obtain rfl : ad112 = ad114 := (by injection e114)
 (try simp only [show (2 : Int).toNat = 2 from rfl, Nat.reduceMul, Nat.reduceEqDiff, Go.Addr.add, ↓reduceIte] at hx114_0)
 have qi114 : (2 < l1.length) = True := eq_true (by omega)
 (try rw [show ((2 : Int)).toNat = 2 from rfl] at hx114_0)
 try replace hx114_0 := hc_ HB hx114_0
 replace p114 := eq_true p114
 replace q114 := eq_true q114
 have p115 : 0 ≤ (3 : Int) := (by omega)
 have q115 : 3 < (l1.length : Int) := ode_
 obtain ⟨ad115, e115, hx115_0⟩ := Kd.at_int HR1.out 3 p115 q115
 have hw115_0 := hx115_0
 (try rw [show ((3 : Int)).toNat = 3 from rfl] at hw115_0)
 (try rw [show 3 * 1 = 3 from rfl] at hw115_0)
 (try simp only [Nat.reduceMul, Nat.reduceEqDiff, Go.Addr.add, ↓reduceIte] at hw115_0)
 obtain rfl : ad112 = ad115 := (by injection e115)
 (try simp only [show (3 : Int).toNat = 3 from rfl, Nat.reduceMul, Nat.reduceEqDiff, Go.Addr.add, ↓reduceIte] at hx115_0)
 have qi115 : (3 < l1.length) = True := eq_true (by omega)
 (try rw [show ((3 : Int)).toNat = 3 from rfl] at hx115_0)
 try replace hx115_0 := hc_ HB hx115_0
 replace p115 := eq_true p115
 replace q115 := eq_true q115
 refine st_ 16 (fun w' => w'.cell? ad112 = some (.int .i64 (rd l1 0)) ∧ w'.cell? ⟨ad112.block, ad112.off + 1, none⟩ = some (.int .i64 (rd l1 1)) ∧ w'.cell? ⟨ad112.block, ad112.off + 2, none⟩ = some (.int .i64 (rd l1 2)) ∧ w'.cell? ⟨ad112.block, ad112.off + 3, none⟩ = some (.int .i64 (rd l1 3))) [] spec_shMade.tab1 spec_shMade.bits1 ⟨((HB.out.cell (World.block_lt_of_cell? w _ hw112_0)).trans hw112_0), ((HB.out.cell (World.block_lt_of_cell? w _ hw113_0)).trans hw113_0), ((HB.out.cell (World.block_lt_of_cell? w _ hw114_0)).trans hw114_0), ((HB.out.cell (World.block_lt_of_cell? w _ hw115_0)).trans hw115_0)⟩ fun hHeld HT_ HW_ => ?_
 generalize w10.drew = w11 at BK111 HB hx112_0 hx113_0 hx114_0 hx115_0 hHeld ⊢
 refine pu_ 0 8 ?_
 refine pu_ 1 9 ?_
 refine pu_ 2 10 ?_
 refine pu_ 4 12 ?_
 refine pu_ 5 13 ?_
 refine pu_ 7 15 ?_
 refine pu_ 8 16 ?_
 refine pu_ 10 18 ?_
 refine pu_ 11 19 ?_
 refine tk_ 3 11 ?_
 refine tk_ 6 14 ?_
 refine tk_ 9 17 ?_
 refine tk_ 12 20 ?_
 refine pu_ 13 21 ?_
 refine on_ 14 7 fun K hK => ?_
 refine box_step ?hg (N := 7) ?hd (cs := #[.int .i64 0, .int .i64 0, .int .i64 0, .int .i64 0, .int .i64 0, .bool false]) (t := 25) ?hr ?_; (case hd => rfl); (case hg => rfl); (case hr => first | (go_simp; done) | (go_simp; rfl))
 intro gb116 hg w12 hbox hb
 have BK116 := aM_ (hbox)
 have GW116 := aM_ (gw_ w hg)
 have GE116 := aM_ (gw_ w hg)
 have NB111_116 := aM_ (nb_ gb111 hg)
 have NB116_111 := aM_ (nc_ gb111 hg)
 replace BK111 := aM_ (blk_below (g := gb111) (kR_ BK111) hb)
 replace HB := aM_ (below_step hB_ hb)
 clear hb hbox hg
 refine hK.out _ _ ⟨((HB.out.cell (World.block_lt_of_cell? w _ hw112_0)).trans hw112_0), ((HB.out.cell (World.block_lt_of_cell? w _ hw113_0)).trans hw113_0), ((HB.out.cell (World.block_lt_of_cell? w _ hw114_0)).trans hw114_0), ((HB.out.cell (World.block_lt_of_cell? w _ hw115_0)).trans hw115_0)⟩ (fun hHeld => ?_)
 clear hK K
 refine nm_ 7 ?_
 refine one_ (i := 15) (N := none) (bz_ 16 0xffff) rfl rfl (one_of HT_.out (by kernel_rfl)) (by decide) (fun K hK => ?_)
 have hs13 : w12.cell? ⟨gb116, 0, none⟩ = some (.int .i64 0) := (blk_cell BK116.out 0).trans rfl
 have hfs13 := blk_frozen BK116.out 0
 have hns13_0 := NB111_116.out
 have hms13_0 := NB116_111.out
 have hs14 : w12.cell? ⟨gb116, 1, none⟩ = some (.int .i64 0) := (blk_cell BK116.out 1).trans rfl
 have hfs14 := blk_frozen BK116.out 1
 have hns14_0 := NB111_116.out
 have hms14_0 := NB116_111.out
 have hs15 : w12.cell? ⟨gb116, 2, none⟩ = some (.int .i64 0) := (blk_cell BK116.out 2).trans rfl
 have hfs15 := blk_frozen BK116.out 2
 have hns15_0 := NB111_116.out
 have hms15_0 := NB116_111.out
 have hs16 : w12.cell? ⟨gb116, 3, none⟩ = some (.int .i64 0) := (blk_cell BK116.out 3).trans rfl
 have hfs16 := blk_frozen BK116.out 3
 have hns16_0 := NB111_116.out
 have hms16_0 := NB116_111.out
 have hs17 : w12.cell? ⟨gb116, 4, none⟩ = some (.int .i64 0) := (blk_cell BK116.out 4).trans rfl
 have hfs17 := blk_frozen BK116.out 4
 have hns17_0 := NB111_116.out
 have hms17_0 := NB116_111.out
 have hs18 : w12.cell? ⟨gb116, 5, none⟩ = some (.bool false) := (blk_cell BK116.out 5).trans rfl
 have hfs18 := blk_frozen BK116.out 5
 have hns18_0 := NB111_116.out
 have hms18_0 := NB116_111.out
 refine skip_ (w1 := ?_) (by rfl) rfl ?_ ?_
 rotate_left
 ·go_simp
  rfl
 refine hK.out _ _ ⟨((cell_far (p := ⟨gb116, _, none⟩) z2_1_ _).trans (((cell_far (p := ⟨gb116, _, none⟩) z2_1_ _).trans (((cell_far (p := ⟨gb116, _, none⟩) z2_1_ _).trans (((cell_far (p := ⟨gb116, _, none⟩) z2_1_ _).trans (((cell_far (p := ⟨gb116, _, none⟩) z2_1_ _).trans (((cell_far (p := ⟨gb116, _, none⟩) z2_1_ _).trans (hHeld.1)))))))))))), ((cell_far (p := ⟨gb116, _, none⟩) z2_2_ _).trans (((cell_far (p := ⟨gb116, _, none⟩) z2_2_ _).trans (((cell_far (p := ⟨gb116, _, none⟩) z2_2_ _).trans (((cell_far (p := ⟨gb116, _, none⟩) z2_2_ _).trans (((cell_far (p := ⟨gb116, _, none⟩) z2_2_ _).trans (((cell_far (p := ⟨gb116, _, none⟩) z2_2_ _).trans (hHeld.2.1)))))))))))), ((cell_far (p := ⟨gb116, _, none⟩) z2_3_ _).trans (((cell_far (p := ⟨gb116, _, none⟩) z2_3_ _).trans (((cell_far (p := ⟨gb116, _, none⟩) z2_3_ _).trans (((cell_far (p := ⟨gb116, _, none⟩) z2_3_ _).trans (((cell_far (p := ⟨gb116, _, none⟩) z2_3_ _).trans (((cell_far (p := ⟨gb116, _, none⟩) z2_3_ _).trans (hHeld.2.2.1)))))))))))), ((cell_far (p := ⟨gb116, _, none⟩) z2_4_ _).trans (((cell_far (p := ⟨gb116, _, none⟩) z2_4_ _).trans (((cell_far (p := ⟨gb116, _, none⟩) z2_4_ _).trans (((cell_far (p := ⟨gb116, _, none⟩) z2_4_ _).trans (((cell_far (p := ⟨gb116, _, none⟩) z2_4_ _).trans (((cell_far (p := ⟨gb116, _, none⟩) z2_4_ _).trans (hHeld.2.2.2))))))))))))⟩ (fun hHeld => ?_)
 clear hK K
 refine dn_ ?_
 have hnb19 := NB116_111.out
 have hnc19 := NB111_116.out
 have hz20 := cf6_ BK116.out
 try go_wp2_with (first | (go_at_call 46; (with_reducible refine (spec_shWide.calls k a0 (rd l1 0) (rd l1 1) (rd l1 2) (rd l1 3) false t117 _ A9.out).mono ?_); rintro e w21 ⟨rfl, hb⟩; replace BK111 := aM_ (blk_below (g := gb111) (kR_ BK111) hb); replace BK116 := aM_ (blk_below (g := gb116) (o := .cells #[.int .i64 a0, .int .i64 (rd l1 0), .int .i64 (rd l1 1), .int .i64 (rd l1 2), .int .i64 (rd l1 3), .bool false] 25 (0, 0)) (by (with_reducible repeat (first | apply kN_ | apply kD_ | apply kA_)); refine blk_put (cs := #[.int .i64 a0, .int .i64 (rd l1 0), .int .i64 (rd l1 1), .int .i64 (rd l1 2), .int .i64 (rd l1 3), .bool false]) ?_ 5 _ rfl; (with_reducible repeat (first | apply kN_ | apply kD_ | apply kA_)); refine blk_put (cs := #[.int .i64 a0, .int .i64 (rd l1 0), .int .i64 (rd l1 1), .int .i64 (rd l1 2), .int .i64 0, .bool false]) ?_ 4 _ rfl; (with_reducible repeat (first | apply kN_ | apply kD_ | apply kA_)); refine blk_put (cs := #[.int .i64 a0, .int .i64 (rd l1 0), .int .i64 (rd l1 1), .int .i64 0, .int .i64 0, .bool false]) ?_ 3 _ rfl; (with_reducible repeat (first | apply kN_ | apply kD_ | apply kA_)); refine blk_put (cs := #[.int .i64 a0, .int .i64 (rd l1 0), .int .i64 0, .int .i64 0, .int .i64 0, .bool false]) ?_ 2 _ rfl; (with_reducible repeat (first | apply kN_ | apply kD_ | apply kA_)); refine blk_put (cs := #[.int .i64 a0, .int .i64 0, .int .i64 0, .int .i64 0, .int .i64 0, .bool false]) ?_ 1 _ rfl; (with_reducible repeat (first | apply kN_ | apply kD_ | apply kA_)); refine blk_put (cs := #[.int .i64 0, .int .i64 0, .int .i64 0, .int .i64 0, .int .i64 0, .bool false]) ?_ 0 _ rfl; (with_reducible repeat (first | apply kN_ | apply kD_ | apply kA_)); exact BK116.out) hb); replace HB := aM_ (below_step hB_ hb); (try clear hb); have hz22 := cf6_ BK116.out; have hz23 := cf6_ BK111.out))
 refine bodyPost_ret (results_cell_row rfl _ _ gb111 25 #[.int .i64 a0, .int .i64 (rd l1 0), .int .i64 (rd l1 1), .int .i64 (rd l1 2), .int .i64 (rd l1 3), .bool t117] (0, 0) _ rfl (by (with_reducible repeat (first | apply kN_ | apply kD_ | apply kA_)); refine blk_put (cs := #[.int .i64 a0, .int .i64 (rd l1 0), .int .i64 (rd l1 1), .int .i64 (rd l1 2), .int .i64 (rd l1 3), .bool false]) ?_ 5 _ rfl; (with_reducible repeat (first | apply kN_ | apply kD_ | apply kA_)); refine blk_put (cs := #[.int .i64 a0, .int .i64 (rd l1 0), .int .i64 (rd l1 1), .int .i64 (rd l1 2), .int .i64 0, .bool false]) ?_ 4 _ rfl; (with_reducible repeat (first | apply kN_ | apply kD_ | apply kA_)); refine blk_put (cs := #[.int .i64 a0, .int .i64 (rd l1 0), .int .i64 (rd l1 1), .int .i64 0, .int .i64 0, .bool false]) ?_ 3 _ rfl; (with_reducible repeat (first | apply kN_ | apply kD_ | apply kA_)); refine blk_put (cs := #[.int .i64 a0, .int .i64 (rd l1 0), .int .i64 0, .int .i64 0, .int .i64 0, .bool false]) ?_ 2 _ rfl; (with_reducible repeat (first | apply kN_ | apply kD_ | apply kA_)); refine blk_put (cs := #[.int .i64 a0, .int .i64 0, .int .i64 0, .int .i64 0, .int .i64 0, .bool false]) ?_ 1 _ rfl; (with_reducible repeat (first | apply kN_ | apply kD_ | apply kA_)); refine blk_put (cs := #[.int .i64 0, .int .i64 0, .int .i64 0, .int .i64 0, .int .i64 0, .bool false]) ?_ 0 _ rfl; (with_reducible repeat (first | apply kN_ | apply kD_ | apply kA_)); refine blk_far ?_ NB111_116.out _; (with_reducible repeat (first | apply kN_ | apply kD_ | apply kA_)); exact BK111.out) Tryd.underlying25 rfl (by kernel_rfl)) rfl ?_
 exact ⟨rT_, hB_⟩

end Go.Proofs.YtbfkpgmdbafmhaaDoor.PFnShapes
