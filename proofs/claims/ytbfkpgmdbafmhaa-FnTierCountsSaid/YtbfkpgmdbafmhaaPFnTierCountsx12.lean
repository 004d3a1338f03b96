/- Printed for this claim: functions of the program as Lean functions, and that the calls answer so. -/
import Derived.Test.YtbfkpgmdbafmhaaPFnTierCountsx0
import Derived.Test.YtbfkpgmdbafmhaaPFnTierCountsx1
import Derived.Test.YtbfkpgmdbafmhaaPFnTierCountsxD0
import Derived.Test.YtbfkpgmdbafmhaaPFnTierCountsxD1
namespace Go.Proofs.Ytbfkpgmdbafmhaa.PFnTierCounts
open Go.RowKit Go.Proofs.YtbfkpgmdbafmhaaW.PrintWords Go.Proofs.YtbfkpgmdbafmhaaW.PrintLast Go.Proofs.YtbfkpgmdbafmhaaW.PrintMore
attribute [local go_sem] max2_int min2_int max_two min_two max_three min_three max_four min_four isSome_setCell   -- for this text's walks alone
set_option linter.unusedVariables false
set_option linter.unusedSimpArgs false

theorem z12_0_ {p : Prop} (h : p := by first | rfl | (simp; done) | (simp [*]; done)) : p := h
theorem z12_1_ {p : Prop} (h : p := by repeat (first | (with_reducible first | exact HI0.out | apply IsS62.alloc | apply IsS62.drewN | apply IsS62.drew | apply IsS62.set_1 | apply IsS62.set_2) | exact HI0.out)) : p := h
theorem z12_2_ {p : Prop} (h : p := by repeat (first | (with_reducible first | exact HK.out | apply KeepBut.set_ | apply keep_drewN | apply keep_drew | apply keep_alloc) | exact HK.out)) : p := h
theorem z12_3_ {p : Prop} (h : p := by repeat (first | (with_reducible first | exact HB.out | apply lA_ | apply lN_ | apply lD_ | refine below_set ?_ (IsS62.ge HI0.out)) | exact HB.out)) : p := h
theorem z12_4_ {p : Prop} (h : p := by have := HK1.out; first | omega | exact Nat.le_refl _) : p := h
theorem z12_5_ {p : Prop} (h : p := by repeat (first | (with_reducible first | exact HI0.out | apply IsS62.alloc | apply IsS62.drewN | apply IsS62.drew | apply IsS62.set_1 | apply IsS62.set_2 | refine IsS62.far ?_ (Aside0.out (by assumption)) _) | exact HI0.out)) : p := h
theorem z12_6_ {p : Prop} (h : p := by repeat (first | (with_reducible first | exact HB.out | apply lA_ | apply lN_ | apply lD_ | refine below_set ?_ (IsS62.ge HI0.out) | refine below_set ?_ GE458.out) | exact HB.out)) : p := h
theorem z12_7_ {p : Prop} (h : p := by assumption) : p := h
theorem z12_8_ {p : Prop} (h : p := by repeat (first | (with_reducible first | exact HK.out | apply KeepBut.set_ | apply keep_drewN | apply keep_drew | apply keep_alloc | refine keep_far ?_ GW458.out _) | exact HK.out)) : p := h
theorem z12_9_ {p : Prop} (h : p := by have := HK1.out; omega) : p := h
theorem z12_10_ {p : Prop} (h : p := by (with_reducible repeat (first | apply rA_ | apply rN_ | apply rD_)); exact Kd.R_mono (Kd.R_far (p := ⟨gb458, 2, none⟩) (Kd.R_mono HO_5.out (fun k_ hk => (⟨hk, hk.2⟩ : _ ∧ k_ ≠ gb458))) (fun _ hk => hk.2) (.string t465)) (fun _ hk => hk.1.2)) : p := h
theorem z12_11_ {p : Prop} (h : p := by (with_reducible repeat (first | apply kN_ | apply kD_ | apply kA_)); refine blk_put (cs := #[.int .i64 ((rd_T50 l1 x12_1).f0), .int .i64 ((rd_T50 l1 x12_1).f1), .string ((rd_T50 l1 x12_1).f2)]) ?_ 2 _ rfl; (with_reducible repeat (first | apply kN_ | apply kD_ | apply kA_)); exact BK458.out) : p := h
theorem z12_12_ {p : Prop} (h : p := by (with_reducible repeat (first | apply rA_ | apply rN_ | apply rD_)); exact Kd.R_mono (Kd.R_far (p := ⟨gb458, 1, none⟩) (Kd.R_mono HO_5.out (fun k_ hk => (⟨hk, hk.2⟩ : _ ∧ k_ ≠ gb458))) (fun _ hk => hk.2) (.int .i64 t478)) (fun _ hk => hk.1.2)) : p := h
theorem z12_13_ {p : Prop} (h : p := by (with_reducible repeat (first | apply kN_ | apply kD_ | apply kA_)); refine blk_put (cs := #[.int .i64 ((rd_T50 l1 x12_1).f0), .int .i64 ((rd_T50 l1 x12_1).f1), .string ((rd_T50 l1 x12_1).f2)]) ?_ 1 _ rfl; (with_reducible repeat (first | apply kN_ | apply kD_ | apply kA_)); exact BK458.out) : p := h
theorem z12_14_ {p : Prop} (h : p := by rw [← hq_]; exact (by repeat (first | (with_reducible first | exact HI0.out | apply IsS62.alloc | apply IsS62.drewN | apply IsS62.drew | apply IsS62.set_1 | apply IsS62.set_2 | refine IsS62.far ?_ (Aside0.out (by assumption)) _) | exact HI0.out))) : p := h
theorem z12_15_ {p : Prop} (h : p := by rw [← hq_]; exact (by repeat (first | (with_reducible first | exact HK.out | apply KeepBut.set_ | apply keep_drewN | apply keep_drew | apply keep_alloc | refine keep_far ?_ GW458.out _) | exact HK.out))) : p := h
theorem z12_16_ {p : Prop} (h : p := by rw [← hq_]; exact (by repeat (first | (with_reducible first | exact HB.out | apply lA_ | apply lN_ | apply lD_ | refine below_set ?_ (IsS62.ge HI0.out) | refine below_set ?_ GE458.out) | exact HB.out))) : p := h
/-! ### spec_l1Cur_changed: function 67 -/
def spec_l1Cur_changed.T10 : Bool × List (List Nat × List Nat) := (true, [([], []), ([0], [0]), ([1], [1]), ([], []), ([3], [3]), ([], []), ([5], [5]), ([4, 6], [4, 6]), ([2, 7, 6], [2, 7]), ([0, 1, 2, 3, 4, 5, 6, 7, 8], []), ([9, 8, 8, 0, 1, 2, 3, 4, 5, 6, 7, 8], [8, 9])])
def spec_l1Cur_changed.B10 : List Nat := [0, 1, 3, 0, 8, 0, 32, 120, 255, 511, 1023]
theorem spec_l1Cur_changed.tab10 : rtab .any (opsOf Try.f67 10) = spec_l1Cur_changed.T10 := by kernel_rfl
theorem spec_l1Cur_changed.bits10 : waitsOk spec_l1Cur_changed.T10.2 spec_l1Cur_changed.B10 = true := by kernel_rfl
def spec_l1Cur_changed.T12 : Bool × List (List Nat × List Nat) := (true, [([], []), ([0], [0]), ([1], [1]), ([2], [2]), ([2], [2]), ([4, 2], [2, 4]), ([3, 5, 2], [2, 3, 5]), ([6, 2], [2, 6]), ([7, 2], [2, 7]), ([2], [2]), ([9, 2], [2, 9]), ([8, 10, 2], [2, 8, 10]), ([2, 11], [2, 11])])
def spec_l1Cur_changed.B12 : List Nat := [0, 1, 3, 7, 7, 23, 63, 127, 255, 7, 519, 2047, 4095]
theorem spec_l1Cur_changed.tab12 : rtab .any (opsOf Try.f67 12) = spec_l1Cur_changed.T12 := by kernel_rfl
theorem spec_l1Cur_changed.bits12 : waitsOk spec_l1Cur_changed.T12.2 spec_l1Cur_changed.B12 = true := by kernel_rfl
def spec_l1Cur_changed.T17 : Bool × List (List Nat × List Nat) := (true, [([], []), ([], []), ([], []), ([], []), ([3], [3]), ([2, 4], [2, 4]), ([5], [5]), ([6], [6]), ([], []), ([8], [8]), ([7, 9], [7, 9]), ([1, 10, 9], [1, 10]), ([11], [11]), ([0, 12, 11], [0, 12]), ([13, 13, 0, 1, 2, 3, 4, 5, 6, 7, 8, 9, 10, 11, 12, 13], [0, 2, 13])])
def spec_l1Cur_changed.B17 : List Nat := [0, 0, 0, 0, 8, 28, 60, 124, 0, 256, 1020, 2046, 4094, 8191, 16383]
theorem spec_l1Cur_changed.tab17 : rtab .any (opsOf Try.f67 17) = spec_l1Cur_changed.T17 := by kernel_rfl
theorem spec_l1Cur_changed.bits17 : waitsOk spec_l1Cur_changed.T17.2 spec_l1Cur_changed.B17 = true := by kernel_rfl
set_option maxHeartbeats 8000000 in
set_option maxRecDepth 100000 in
theorem spec_l1Cur_changed.calls (k : Nat) (g : Nat) (s0_0 : List Int) (s0_1 : Int) (s0_2 : Int) (A1 : Option Addr) (c1 : Nat) (l1 : List (S50)) (r1 : List (S50)) (r2 : Int) (r3 : Int) (w0 w : World) (hI : IsS62 w0 w g s0_0 s0_1 s0_2) (hB : Below w0.heap.size w0 w) (hr1 : ∀ W_, KeepBut w W_ g none → Kd.C k50 W_ A1 l1.length l1) (hc1 : l1.length ≤ c1) (h : spec_l1Cur_changed.f k s0_0 s0_1 s0_2 l1 = some (r1, r2, r3)) :
 Calls Try.prog 67 #[.pointer (some ⟨g, 0, none⟩), .slice A1 l1.length c1] w fun e w' => ∃ v0_ : Value, e = .returned (v0_) ∧ Kd.R k50 50 w' w.heap.size (fun _ => True) v0_ r1 ∧ IsS62 w0 w' g s0_0 r2 r3 ∧ Below w0.heap.size w0 w' ∧ KeepBut w w' g none := by
 have hu50 := Try.underlying50
 have HR1 := Aside0.mk hr1
 have HC1 := Aside0.mk hc1
 clear hr1 hc1
 have HI0 := Aside0.mk hI
 have HK := Aside0.mk (KeepBut.refl w g none)
 have HL := Aside0.mk hB.size
 clear hI
 have HW0 := Aside0.mk hB.size
 have HB := Aside0.mk hB
 clear hB
 have H : (spec_l1Cur_changed.l0 k ([] : List (S50)) l1 (l1.length : Int) 0 s0_0 s0_1 s0_2) = some (r1, r2, r3) := h
 clear h
 have H' := Aside0.mk H
 clear H
 go_enter Try.func67, Try.ntmps67
 go_wp2
 go_loopg [5, 12] k (fun kq v5 v12 w' => ∃ (x5_1 : List (S50)) (x12_1 : Int) (x1001_1 : Int) (x1002_1 : Int), v12 = .int .i64 x12_1 ∧ Aside0 (spec_l1Cur_changed.l0 kq x5_1 l1 (l1.length : Int) x12_1 s0_0 x1001_1 x1002_1 = some (r1, r2, r3)) ∧ Aside0 (kq ≤ k) ∧ Aside0 (Kd.R k50 50 w' w.heap.size (fun _ => True) v5 x5_1) ∧ Aside0 (IsS62 w0 w' g s0_0 x1001_1 x1002_1) ∧ Aside0 (KeepBut w w' g none) ∧ Aside0 (Below w0.heap.size w0 w'))
 case atStart => exact ⟨(([] : List (S50))), (0), (s0_1), (s0_2), z12_0_, H', ⟨Nat.le_refl _⟩, ⟨by first | exact Kd.R_nil _ _ _ _ _ | exact Kd.N_nil _ _ _ _ _ | exact Kd.V_nil _ _ _ _ _ | exact Kd.Q_nil _ _ _ _ _ | exact Kd.S_nil _ _ _ _ _⟩, ⟨z12_1_⟩, ⟨z12_2_⟩, ⟨z12_3_⟩⟩
 case round =>
  clear H'
  (try clear c1)
  obtain ⟨x5_1, x12_1, x1001_1, x1002_1, rfl, HA, HK1, HO_5, HI0, HK, HB⟩ := hrel
  cases gk with
  | zero => exact absurd HA.out (by simp [spec_l1Cur_changed.l0])
  | succ k1 =>
   have H := HA.out
   clear HA
   simp only [spec_l1Cur_changed.l0] at H
   replace H := iF_ H; obtain ⟨c3b0, H⟩ | ⟨c3b0, H⟩ := H
   ·have HC106 := Aside0.mk H
    clear H
    obtain ⟨Ao107, co107, eo107⟩ := Kd.R_slice HO_5.out
    subst eo107
    go_upto_region 16 with (fail)
    go_cut [69] (fun v69 wc => ∃ (kq : Nat) (x69_105 : Bool) (x1001_105 : Int) (x1002_105 : Int), v69 = .bool x69_105 ∧ Aside0 (spec_l1Cur_changed.j1 kq x5_1 (x5_1.length : Int) x69_105 s0_0 x1001_105 x1002_105 = some (r1, r2, r3)) ∧ Aside0 (kq ≤ k1) ∧ Aside0 (Kd.R k50 50 wc w.heap.size (fun _ => True) (.slice Ao107 x5_1.length co107) x5_1) ∧ Aside0 (IsS62 w0 wc g s0_0 x1001_105 x1002_105) ∧ Aside0 (KeepBut w wc g none) ∧ Aside0 (Below w0.heap.size w0 wc))
    case first =>
     have H := HC106.out
     clear HC106
     by_cases c108 : (x5_1.length : Int) > 0
     rotate_left
     ·rw [if_neg c108] at H
      have c108b0 : decide (0 < (x5_1.length : Int)) = false := decide_eq_false c108
      have c108b1 : decide (0 < x5_1.length) = false := decide_eq_false (by omega)
      clear c108
      (first | rw [c108b0] | (simp only [i64_w, i32_w]; rw [c108b0]) | skip)
      have H' := Aside0.mk H
      clear H
      go_wp2
      go_meet
      case rel => exact ⟨_, (false), (x1001_1), (x1002_1), z12_0_, H', ⟨z12_4_⟩, ⟨(rR_ HO_5)⟩, ⟨z12_1_⟩, ⟨z12_2_⟩, ⟨z12_3_⟩⟩
     rw [if_pos c108] at H
     have c108b0 : decide (0 < (x5_1.length : Int)) = true := decide_eq_true c108
     have c108b1 : decide (0 < x5_1.length) = true := decide_eq_true (by omega)
     clear c108
     (first | rw [c108b0] | (simp only [i64_w, i32_w]; rw [c108b0]) | skip)
     by_cases c109 : (x5_1.length : Int) < 40
     rotate_left
     ·rw [if_neg c109] at H
      have c109b0 : decide ((x5_1.length : Int) < 40) = false := decide_eq_false c109
      have c109b1 : decide (x5_1.length < 40) = false := decide_eq_false (by omega)
      clear c109
      have H' := Aside0.mk H
      clear H
      go_wp2
      go_meet
      case rel => exact ⟨_, (false), (x1001_1), (x1002_1), z12_0_, H', ⟨z12_4_⟩, ⟨(rR_ HO_5)⟩, ⟨z12_1_⟩, ⟨z12_2_⟩, ⟨z12_3_⟩⟩
     rw [if_pos c109] at H
     have c109b0 : decide ((x5_1.length : Int) < 40) = true := decide_eq_true c109
     have c109b1 : decide (x5_1.length < 40) = true := decide_eq_true (by omega)
     clear c109
     replace H := ob_ H; obtain ⟨⟨t493, t494, t495⟩, A110, H⟩ := H; try dsimp only at H
     have H' := Aside0.mk H
     clear H
     go_wp2_with (first | (go_at_call 59; (with_reducible refine (spec_l1Cur_one.calls g s0_0 x1001_1 x1002_1 2 t493 t494 t495 w0 _ ?side1 ?side2 A110.out).mono ?_); (case side1 => exact z12_1_); (case side2 => exact z12_3_); rintro e w111 ⟨rfl, hi, hb, hk⟩; replace HO_5 := aM_ (Kd.R_mono (Kd.R_keep (IsS62.apart (show IsS62 w0 _ g s0_0 x1001_1 x1002_1 from by repeat (first | (with_reducible first | exact HI0.out | apply IsS62.alloc | apply IsS62.drewN | apply IsS62.drew | apply IsS62.set_1 | apply IsS62.set_2) | exact HI0.out)) (rR_ HO_5) (by decide)) hk (fun _ h => h.2)) (fun _ h => h.1)); replace HK := aM_ (KeepBut.trans z12_2_ hk (.inl rfl)); replace HB := aM_ (hb); replace HI0 := aM_ (hi); (try clear hb); (try clear hk); (try clear hi)))
     go_meet
     case rel => exact ⟨_, (t493), (t494), (t495), z12_0_, H', ⟨z12_4_⟩, ⟨(rR_ HO_5)⟩, ⟨z12_1_⟩, ⟨z12_2_⟩, ⟨z12_3_⟩⟩
    case rest =>
     clear HC106
     (try clear c1);(try clear c3);(try clear c3b0)
     obtain ⟨kq, x69_105, x1001_105, x1002_105, rfl, HA, HJ105, HO_5, HI0, HK, HB⟩ := hcut
     cases kq with
     | zero => exact absurd HA.out (by simp [spec_l1Cur_changed.j1])
     | succ kj105 =>
      have H := HA.out
      clear HA
      simp only [spec_l1Cur_changed.j1] at H
      by_cases c112 : x69_105 = true
      rotate_left
      ·replace c112 := Bool.eq_false_iff.mpr c112
       subst c112
       replace H := in_ H (show ¬ (false = true) by decide)
       simp only [Option.some.injEq, Prod.mk.injEq] at H
       obtain ⟨rfl, rfl, rfl⟩ := H
       go_wp2
       go_ret
       exact ⟨_, rT_, (rR_ HO_5), z12_1_, z12_3_, z12_2_⟩
      subst c112
      replace H := ip_ H rfl
      obtain ⟨ji113, hji113⟩ : ∃ j_ : Int, (wrap64 ((x5_1.length : Int) - 1)) = j_ := ⟨_, rfl⟩
      replace H : (if 0 ≤ (ji113) then (if (ji113) < (x5_1.length : Int) then ((spec_l1Cur_pick.f s0_0 x1001_105 x1002_105 4).bind fun bt497 => ((spec_l1Cur_note.f s0_0 bt497.2.1 bt497.2.2 (wrap64 (((rd_T50 x5_1 (ji113)).f1) + bt497.1))).bind fun bt500 => (if x5_1.length < 4398046511104 then (some ((x5_1 ++ [(⟨bt500.1, bt500.2.1, bt500.2.2.1⟩ : S50)]), bt500.2.2.2.1, bt500.2.2.2.2)) else (none)))) else (none)) else (none)) = some (r1, r2, r3) := by first | (rw [hji113] at H; exact H) | (simp only [hji113] at H ⊢; exact H)
      have hji113w : (IntKind.i64.wrap ((x5_1.length : Int) - 1)) = ji113 := (i64_w _).trans hji113
      replace H := ig_ H; obtain ⟨c114b0, H⟩ := H
      replace H := ig_ H; obtain ⟨c115b0, H⟩ := H
      replace H := ob_ H; obtain ⟨⟨t497, t498, t499⟩, A116, H⟩ := H; try dsimp only at H
      replace H := ob_ H; obtain ⟨⟨t500, t501, t502, t503, t504⟩, A117, H⟩ := H; try dsimp only at H
      replace H := il_ H; obtain ⟨LMc118, H⟩ := H
      obtain ⟨y505, hy505⟩ : ∃ y_ : List (S50), y_ = (x5_1 ++ [(⟨t500, t501, t502⟩ : S50)]) := ⟨_, rfl⟩
      rw [← hy505] at H
      have Ny505 := Aside0.mk hy505; clear hy505
      simp only [Option.some.injEq, Prod.mk.injEq] at H
      obtain ⟨rfl, rfl, rfl⟩ := H
      try go_wp2
      replace HO_5 := aM_ (Kd.R_drew HO_5.out)
      replace HI0 := aM_ (IsS62.drew HI0.out)
      replace HK := aM_ (keep_drew HK.out)
      replace HB := aM_ (below_drew1 HB.out)
      obtain ⟨⟨ad496, e496, hx496_0, hx496_1, hx496_2⟩, p496, q496⟩ := at2_ (at_T50 (Kd.R_reads' HO_5.out).2.2 (ji113)); cases e496
      refine st_ 15 (fun w' => w'.cell? (ad496.add (((ji113)).toNat * 3)) = some (.int .i64 ((rd_T50 x5_1 (ji113)).f0)) ∧ w'.cell? ⟨(ad496.add (((ji113)).toNat * 3)).block, (ad496.add (((ji113)).toNat * 3)).off + 1, none⟩ = some (.int .i64 ((rd_T50 x5_1 (ji113)).f1)) ∧ w'.cell? ⟨(ad496.add (((ji113)).toNat * 3)).block, (ad496.add (((ji113)).toNat * 3)).off + 2, none⟩ = some (.string ((rd_T50 x5_1 (ji113)).f2))) [12, 13] spec_l1Cur_changed.tab17 spec_l1Cur_changed.bits17 ⟨hx496_0, hx496_1, hx496_2⟩ fun hHeld HT_ HW_ => ?_
      generalize wc.drew = w119 at HO_5 HI0 HK HB hx496_0 hx496_1 hx496_2 hHeld ⊢
      refine pu_ 0 70 ?_
      refine pu_ 1 71 ?_
      refine pu_ 2 72 ?_
      refine pu_ 3 73 ?_
      refine pu_ 4 74 ?_
      refine pu_ 5 75 ?_
      refine pu_ 6 76 ?_
      refine pu_ 8 78 ?_
      refine tk_ 7 77 ?_
      refine on_ 9 79 fun K hK => ?_
      refine gS_ Try.func58 #[.pointer (some ⟨g, 0, none⟩), .int .i64 4] ?_
      with_reducible refine (spec_l1Cur_pick.calls g s0_0 x1001_105 x1002_105 4 t497 t498 t499 w0 _ ?side1 ?side2 A116.out).mono ?_
      (case side1 => repeat (first | (with_reducible first | exact HI0.out | apply IsS62.alloc | apply IsS62.drewN | apply IsS62.drew | apply IsS62.set_1 | apply IsS62.set_2) | exact HI0.out))
      (case side2 => repeat (first | (with_reducible first | exact HB.out | apply lA_ | apply lN_ | apply lD_ | refine below_set ?_ (IsS62.ge HI0.out)) | exact HB.out))
      rintro e w120 ⟨rfl, hi, hb, hk⟩
      have HS0_ := keep_cell hk (hHeld.1) (by first | (rw [add_block]; exact Kd.own_blk (IsS62.own_ne HI0.out HO_5.out (by decide))) | (show (Addr.add _ _).block ≠ _; rw [add_block]; exact Kd.own_blk (IsS62.own_ne HI0.out HO_5.out (by decide))) | exact Kd.own_blk (IsS62.own_ne HI0.out HO_5.out (by decide)))
      have HS1_ := keep_cell hk (hHeld.2.1) (by first | (rw [add_block]; exact Kd.own_blk (IsS62.own_ne HI0.out HO_5.out (by decide))) | (show (Addr.add _ _).block ≠ _; rw [add_block]; exact Kd.own_blk (IsS62.own_ne HI0.out HO_5.out (by decide))) | exact Kd.own_blk (IsS62.own_ne HI0.out HO_5.out (by decide)))
      have HS2_ := keep_cell hk (hHeld.2.2) (by first | (rw [add_block]; exact Kd.own_blk (IsS62.own_ne HI0.out HO_5.out (by decide))) | (show (Addr.add _ _).block ≠ _; rw [add_block]; exact Kd.own_blk (IsS62.own_ne HI0.out HO_5.out (by decide))) | exact Kd.own_blk (IsS62.own_ne HI0.out HO_5.out (by decide)))
      refine ⟨_, rfl, ?_⟩
      replace HO_5 := aM_ (Kd.R_mono (Kd.R_keep (IsS62.apart (show IsS62 w0 _ g s0_0 x1001_105 x1002_105 from by repeat (first | (with_reducible first | exact HI0.out | apply IsS62.alloc | apply IsS62.drewN | apply IsS62.drew | apply IsS62.set_1 | apply IsS62.set_2) | exact HI0.out)) (rR_ HO_5) (by decide)) hk (fun _ h => h.2)) (fun _ h => h.1))
      replace HK := aM_ (KeepBut.trans z12_2_ hk (.inl rfl))
      replace HB := aM_ (hb)
      replace HI0 := aM_ (hi)
      (try clear hb)
      (try clear hb2)
      (try clear hk)
      (try clear hi)
      refine hK.out _ _ ⟨HS0_, HS1_, HS2_⟩ (fun hHeld => ?_)
      clear hK K
      refine nm_ 79 ?_
      refine pu_ 10 80 ?_
      refine on_ 11 81 fun K hK => ?_
      refine goes_ Try.func60 (by kernel_rfl) rfl #[.pointer (some ⟨g, 0, none⟩), .int .i64 (wrap64 (((rd_T50 x5_1 (ji113)).f1) + t497))] (by rfl) rfl rfl (by (try simp only [List.map_toArray, List.map_cons, List.map_nil]); first | done | (simp only [hji113]; rfl) | rfl) ?_
      with_reducible refine (spec_l1Cur_note.calls g s0_0 t498 t499 (wrap64 (((rd_T50 x5_1 (ji113)).f1) + t497)) t500 t501 t502 t503 t504 w0 _ ?side1 ?side2 A117.out).mono ?_
      (case side1 => repeat (first | (with_reducible first | exact HI0.out | apply IsS62.alloc | apply IsS62.drewN | apply IsS62.drew | apply IsS62.set_1 | apply IsS62.set_2) | exact HI0.out))
      (case side2 => repeat (first | (with_reducible first | exact HB.out | apply lA_ | apply lN_ | apply lD_ | refine below_set ?_ (IsS62.ge HI0.out)) | exact HB.out))
      rintro e w121 ⟨rfl, hi, hb, hk⟩
      have HS0_ := keep_cell hk (hHeld.1) (by first | (rw [add_block]; exact Kd.own_blk (IsS62.own_ne HI0.out HO_5.out (by decide))) | (show (Addr.add _ _).block ≠ _; rw [add_block]; exact Kd.own_blk (IsS62.own_ne HI0.out HO_5.out (by decide))) | exact Kd.own_blk (IsS62.own_ne HI0.out HO_5.out (by decide)))
      have HS1_ := keep_cell hk (hHeld.2.1) (by first | (rw [add_block]; exact Kd.own_blk (IsS62.own_ne HI0.out HO_5.out (by decide))) | (show (Addr.add _ _).block ≠ _; rw [add_block]; exact Kd.own_blk (IsS62.own_ne HI0.out HO_5.out (by decide))) | exact Kd.own_blk (IsS62.own_ne HI0.out HO_5.out (by decide)))
      have HS2_ := keep_cell hk (hHeld.2.2) (by first | (rw [add_block]; exact Kd.own_blk (IsS62.own_ne HI0.out HO_5.out (by decide))) | (show (Addr.add _ _).block ≠ _; rw [add_block]; exact Kd.own_blk (IsS62.own_ne HI0.out HO_5.out (by decide))) | exact Kd.own_blk (IsS62.own_ne HI0.out HO_5.out (by decide)))
      refine ⟨_, rfl, ?_⟩
      replace HO_5 := aM_ (Kd.R_mono (Kd.R_keep (IsS62.apart (show IsS62 w0 _ g s0_0 t498 t499 from by repeat (first | (with_reducible first | exact HI0.out | apply IsS62.alloc | apply IsS62.drewN | apply IsS62.drew | apply IsS62.set_1 | apply IsS62.set_2) | exact HI0.out)) (rR_ HO_5) (by decide)) hk (fun _ h => h.2)) (fun _ h => h.1))
      replace HK := aM_ (KeepBut.trans z12_2_ hk (.inl rfl))
      replace HB := aM_ (hb)
      replace HI0 := aM_ (hi)
      (try clear hb)
      (try clear hb2)
      (try clear hk)
      (try clear hi)
      refine hK.out _ _ ⟨HS0_, HS1_, HS2_⟩ (fun hHeld => ?_)
      clear hK K
      refine nm_ 81 ?_
      refine last_ (i := 12) (N := some 82) (bz_ 15 0x1fff) rfl rfl (one_of HT_.out (by kernel_rfl)) (by decide) (fun K hK => ?_)
      refine value_ (w1 := ?_) (v := ?_) (by rfl) rfl ?_ ?_
      rotate_left 2
      ·go_simp
       constructor
       ·rfl
       ·rfl
      refine hK.out _ _ ?_
      clear hK K
      refine nm_ 82 ?_
      refine last_ (i := 13) (N := some 83) (bz_ 15 0x3fff) rfl rfl (one_of HT_.out (by kernel_rfl)) (by decide) (fun K hK => ?_)
      refine Kd.R_append_step k50 w.heap.size (by rfl) (.tmp 70) (.tmp 82) 23 50 (.agg #[(.int .i64 0), (.int .i64 0), (.string ⟨#[]⟩)]) 32 rfl Try.underlying23 info50 rfl (by decide) (by omega) (.slice (some ad496) x5_1.length co107) x5_1 (⟨t500, t501, t502⟩ : S50) [.int .i64 t500, .int .i64 t501, .string t502] (fun _ => True) (fun _ => False) rfl rfl ?aP (fun _ hk => hk.elim) ?aF ?aO (Below.refl _ _) ?aS ?aL ?_
      (case aP => exact k50_mkM _ _ _ (⟨t500, t501, t502⟩ : S50))
      (case aF => exact (fun _ _ => trivial))
      (case aO => exact (rR_ HO_5))
      (case aS => exact (keep_size (w := w) (g := g) (row := none) z12_2_))
      (case aL => have := LMc118.out; omega)
      intro v506 w122 ho hb hg hat
      rw [← Ny505.out] at ho
      have HO507 := aM_ (ho)
      replace HB := aM_ (below_weaken z12_3_ HL.out hb)
      replace HI0 := aM_ (IsS62.grown z12_1_ hg (IsS62.own_ne HI0.out HO_5.out (by decide)))
      replace HK := aM_ (KeepBut.trans z12_2_ (KeepBut.of_grown hg g) (Kd.R_base2 HO_5.out))
      clear HO_5
      clear ho hb hg hat
      refine hK.out _ _ ?_
      clear hK K
      refine nm_ 83 ?_
      refine pu_ 14 5 ?_
      refine dn_ ?_
      try go_wp2
      go_ret
      exact ⟨_, by first | rfl | (simp [errW_none, errW_some] <;> rfl) | (simp only [← hji113]; first | rfl | (simp [errW_none, errW_some] <;> rfl)) | (simp [*, errW_none, errW_some] <;> rfl), by (with_reducible repeat (first | apply rA_ | apply rN_ | apply rD_)); exact HO507.out, z12_1_, z12_3_, z12_2_⟩
   replace H := ig_ H; obtain ⟨c4b0, H⟩ := H
   replace H := ig_ H; obtain ⟨c5b0, H⟩ := H
   replace H := ob_ H; obtain ⟨⟨t459, t460, t461⟩, A6, H⟩ := H; try dsimp only at H
   have HC7 := Aside0.mk H
   clear H
   obtain ⟨⟨ad457, e457, hx457_0, hx457_1, hx457_2⟩, p457, q457⟩ := at2_ (at_T50 (Kd.C_foot_now HR1.out HK.out) x12_1); cases e457
   go_upto_if 18 with (first | ((with_reducible refine gate_dst (N := 7) rfl ?_); refine bx_ 7 #[.int .i64 0, .int .i64 0, .string (⟨#[]⟩ : ByteArray)] 50 fun gb458 hg w8 hbox hb => ?_; have BK458 := aM_ (hbox); have GW458 := aM_ ((by rw [hg]; exact (keep_size (w := w) (g := g) (row := none) z12_2_) : w.heap.size ≤ gb458)); have GE458 := aM_ ((Nat.le_trans HW0.out (by rw [hg]; exact (keep_size (w := w) (g := g) (row := none) z12_2_) : w.heap.size ≤ gb458) : w0.heap.size ≤ gb458)); have NB0_458 := aM_ ((by rw [hg]; exact Nat.ne_of_lt (IsS62.lt (show IsS62 w0 _ g s0_0 x1001_1 x1002_1 from by repeat (first | (with_reducible first | exact HI0.out | apply IsS62.alloc | apply IsS62.drewN | apply IsS62.drew | apply IsS62.set_1 | apply IsS62.set_2) | exact HI0.out))) : g ≠ gb458)); have NB458_0 := aM_ ((by rw [hg]; exact Nat.ne_of_gt (IsS62.lt (show IsS62 w0 _ g s0_0 x1001_1 x1002_1 from by repeat (first | (with_reducible first | exact HI0.out | apply IsS62.alloc | apply IsS62.drewN | apply IsS62.drew | apply IsS62.set_1 | apply IsS62.set_2) | exact HI0.out))) : gb458 ≠ g)); replace HO_5 := aM_ (Kd.R_below (Kd.R_elderB (rR_ HO_5) gb458 (Nat.le_of_eq hg.symm)) hb); replace HK := aM_ (KeepBut.trans z12_2_ (KeepBut.of_below hb g none) (.inl rfl)); replace HB := aM_ (below_step z12_3_ hb); replace HI0 := aM_ (IsS62.below z12_1_ hb); clear hb hbox hg; have hnb9 := NB458_0.out; have hnc9 := NB0_458.out; have hz10 := cf3_ BK458.out) | (refine gM_ (some 17) Try.func58 #[.pointer (some ⟨g, 0, none⟩), .int .i64 6] ?_; (with_reducible refine (spec_l1Cur_pick.calls g s0_0 x1001_1 x1002_1 6 t459 t460 t461 w0 _ ?side1 ?side2 A6.out).mono ?_); (case side1 => exact z12_5_); (case side2 => exact z12_6_); rintro e w11 ⟨rfl, hi, hb, hk⟩; refine ⟨_, rfl, ?_⟩; replace HO_5 := aM_ (Kd.R_mono (Kd.R_keep (IsS62.apart (show IsS62 w0 _ g s0_0 x1001_1 x1002_1 from by repeat (first | (with_reducible first | exact HI0.out | apply IsS62.alloc | apply IsS62.drewN | apply IsS62.drew | apply IsS62.set_1 | apply IsS62.set_2 | refine IsS62.far ?_ (Aside0.out z12_7_) _) | exact HI0.out)) (by (with_reducible repeat (first | apply rA_ | apply rN_ | apply rD_)); exact (Kd.R_mono (Kd.R_far (p := ⟨gb458, 2, none⟩) (Kd.R_far (p := ⟨gb458, 1, none⟩) (Kd.R_far (p := ⟨gb458, 0, none⟩) (Kd.R_mono HO_5.out (fun k_ hk => (⟨hk, hk.2⟩ : _ ∧ k_ ≠ gb458))) (fun _ hk => hk.2) (.int .i64 ((rd_T50 l1 x12_1).f0))) (fun _ hk => hk.2) (.int .i64 ((rd_T50 l1 x12_1).f1))) (fun _ hk => hk.2) (.string ((rd_T50 l1 x12_1).f2))) (fun _ h_ => h_.1))) (by decide)) hk (fun _ h => h.2)) (fun _ h => h.1)); replace BK458 := aM_ (KeepBut.blk hk (g' := gb458) (o := .cells #[.int .i64 ((rd_T50 l1 x12_1).f0), .int .i64 ((rd_T50 l1 x12_1).f1), .string ((rd_T50 l1 x12_1).f2)] 50 (0, 0)) (by (with_reducible repeat (first | apply kN_ | apply kD_ | apply kA_)); refine blk_put (cs := #[.int .i64 ((rd_T50 l1 x12_1).f0), .int .i64 ((rd_T50 l1 x12_1).f1), .string (⟨#[]⟩ : ByteArray)]) ?_ 2 _ rfl; (with_reducible repeat (first | apply kN_ | apply kD_ | apply kA_)); refine blk_put (cs := #[.int .i64 ((rd_T50 l1 x12_1).f0), .int .i64 0, .string (⟨#[]⟩ : ByteArray)]) ?_ 1 _ rfl; (with_reducible repeat (first | apply kN_ | apply kD_ | apply kA_)); refine blk_put (cs := #[.int .i64 0, .int .i64 0, .string (⟨#[]⟩ : ByteArray)]) ?_ 0 _ rfl; (with_reducible repeat (first | apply kN_ | apply kD_ | apply kA_)); exact BK458.out) NB458_0.out (by simp)); replace HK := aM_ (KeepBut.trans z12_8_ hk (.inl rfl)); replace HB := aM_ (hb); replace HI0 := aM_ (hi); (try clear hb); (try clear hk); (try clear hi)))
   (try simp only [Act.put, List.setIfInBounds_toArray, List.set_cons_zero, List.set_cons_succ])
   have H := HC7.out
   clear HC7
   by_cases c12 : t459 = 0
   ·rw [if_pos c12] at H
    have c12b0 : (t459 == 0) = true := beq_iff_eq.mpr c12
    have c12b1 : (t459 != 0) = false := bne_eq_false_iff_eq.mpr c12
    clear c12
    (first | rw [c12b0] | (simp only [i64_w, i32_w]; rw [c12b0]) | skip)
    have H' := Aside0.mk H
    clear H
    go_wp2
    go_roundg k1
    case measure => have := HK1.out; omega
    case rel => exact ⟨(x5_1), (wrap64 (x12_1 + 1)), (t460), (t461), z12_0_, H', ⟨z12_9_⟩, ⟨(rT1_ HO_5)⟩, ⟨z12_5_⟩, ⟨z12_8_⟩, ⟨z12_6_⟩⟩
   rw [if_neg c12] at H
   have c12b0 : (t459 == 0) = false := beq_eq_false_iff_ne.mpr c12
   have c12b1 : (t459 != 0) = true := bne_iff_ne.mpr c12
   (first | rw [c12b0] | (simp only [i64_w, i32_w]; rw [c12b0]) | skip)
   by_cases c13 : t459 = 1
   ·rw [if_pos c13] at H
    have c13b0 : (t459 == 1) = true := beq_iff_eq.mpr c13
    have c13b1 : (t459 != 1) = false := bne_eq_false_iff_eq.mpr c13
    clear c13
    obtain ⟨y462, hy462⟩ : ∃ y_ : List ByteArray, y_ = (([(⟨#[71, 79]⟩ : ByteArray), (⟨#[73]⟩ : ByteArray), (⟨#[66, 79, 79, 75]⟩ : ByteArray)] : List ByteArray)) := ⟨_, rfl⟩
    rw [← hy462] at H
    have Ny462 := Aside0.mk hy462; clear hy462
    replace H := ob_ H; obtain ⟨⟨t465, t466, t467⟩, A14, H⟩ := H; try dsimp only at H
    by_cases c15 : (x5_1.length : Int) = 0
    ·rw [if_pos c15] at H
     have c15b0 : ((x5_1.length : Int) == 0) = true := beq_iff_eq.mpr c15
     have c15b1 : ((x5_1.length : Int) != 0) = false := bne_eq_false_iff_eq.mpr c15
     clear c15
     replace H := il_ H; obtain ⟨LMc16, H⟩ := H
     obtain ⟨y468, hy468⟩ : ∃ y_ : List (S50), y_ = (x5_1 ++ [(⟨(rd_T50 l1 x12_1).f0, (rd_T50 l1 x12_1).f1, t465⟩ : S50)]) := ⟨_, rfl⟩
     rw [← hy468] at H
     have Ny468 := Aside0.mk hy468; clear hy468
     have H' := Aside0.mk H
     clear H
     try go_wp2_with (first | ((with_reducible refine gate_dst (N := 23) rfl ?_); refine rl_ Kd.string 9 23 ([(⟨#[71, 79]⟩ : ByteArray), (⟨#[73]⟩ : ByteArray), (⟨#[66, 79, 79, 75]⟩ : ByteArray)] : List ByteArray) [.string (⟨#[71, 79]⟩ : ByteArray), .string (⟨#[73]⟩ : ByteArray), .string (⟨#[66, 79, 79, 75]⟩ : ByteArray)] (Reps.one (show Kd.M Kd.string _ _ _ (⟨#[71, 79]⟩ : ByteArray) [.string (⟨#[71, 79]⟩ : ByteArray)] from rfl) (Reps.one (show Kd.M Kd.string _ _ _ (⟨#[73]⟩ : ByteArray) [.string (⟨#[73]⟩ : ByteArray)] from rfl) (Reps.one (show Kd.M Kd.string _ _ _ (⟨#[66, 79, 79, 75]⟩ : ByteArray) [.string (⟨#[66, 79, 79, 75]⟩ : ByteArray)] from rfl) (Reps.none _ _)))) ?_; intro v463 w17 ho18 hb hg_ hnew_; clear hg_ hnew_; (first | rw [← Ny462.out] at ho18 | (simp only [Int.reduceToNat] at ho18; rw [← Ny462.out] at ho18)); have HO464 := aM_ (Kd.R_lower ho18 (keep_size (w := w) (g := g) (row := none) z12_8_)); replace HO_5 := aM_ (Kd.R_below (rR_ HO_5) hb); replace BK458 := aM_ (blk_below (g := gb458) (kR_ BK458) hb); replace HK := aM_ (KeepBut.trans z12_8_ (KeepBut.of_below hb g none) (.inl rfl)); replace HB := aM_ (below_step z12_6_ hb); replace HI0 := aM_ (IsS62.below z12_5_ hb); clear hb ho18; obtain ⟨Ao19, co19, eo19⟩ := Kd.R_slice HO464.out; subst eo19) | (refine gM_ (some 24) Try.func63 #[.pointer (some ⟨g, 0, none⟩), .slice Ao19 y462.length co19] ?_; (with_reducible refine (spec_l1Cur_of.calls g s0_0 t460 t461 _ _ y462 t465 t466 t467 w0 _ ?side1 ?side2 ?side3 ?side4 ?side5 A14.out).mono ?_); (case side1 => exact z12_5_); (case side2 => exact z12_6_); (case side3 => exact cR_ HO464); (case side4 => exact (Kd.R_reads' HO464.out).2.1); (case side5 => exact far_slice (IsS62.own_ne HI0.out HO464.out (by decide))); rintro e w20 ⟨rfl, hi, hb, hk⟩; refine ⟨_, rfl, ?_⟩; replace HO_5 := aM_ (Kd.R_mono (Kd.R_keep (IsS62.apart (show IsS62 w0 _ g s0_0 t460 t461 from by repeat (first | (with_reducible first | exact HI0.out | apply IsS62.alloc | apply IsS62.drewN | apply IsS62.drew | apply IsS62.set_1 | apply IsS62.set_2 | refine IsS62.far ?_ (Aside0.out z12_7_) _) | exact HI0.out)) (rR_ HO_5) (by decide)) hk (fun _ h => h.2)) (fun _ h => h.1)); replace BK458 := aM_ (KeepBut.blk hk (g' := gb458) (o := .cells #[.int .i64 ((rd_T50 l1 x12_1).f0), .int .i64 ((rd_T50 l1 x12_1).f1), .string ((rd_T50 l1 x12_1).f2)] 50 (0, 0)) (kR_ BK458) NB458_0.out (by simp)); replace HO464 := aM_ (Kd.R_mono (Kd.R_keep (IsS62.apart (show IsS62 w0 _ g s0_0 t460 t461 from by repeat (first | (with_reducible first | exact HI0.out | apply IsS62.alloc | apply IsS62.drewN | apply IsS62.drew | apply IsS62.set_1 | apply IsS62.set_2 | refine IsS62.far ?_ (Aside0.out z12_7_) _) | exact HI0.out)) (rR_ HO464) (by decide)) hk (fun _ h => h.2)) (fun _ h => h.1)); replace HK := aM_ (KeepBut.trans z12_8_ hk (.inl rfl)); replace HB := aM_ (hb); replace HI0 := aM_ (hi); (try clear hb); (try clear hk); (try clear hi); have hnb21 := NB458_0.out; have hnc21 := NB0_458.out; have hz22 := cf3_ BK458.out; obtain ⟨Ao23, co23, eo23⟩ := Kd.R_slice HO_5.out; subst eo23))
     have n0_ : Aside0 (Kd.R k50 50 (w20.setCell ⟨gb458, 2, none⟩ (.string t465)) w.heap.size (fun k_ => k_ ≠ gb458) (.slice Ao23 x5_1.length co23) x5_1) := ⟨z12_10_⟩
     have n1_ : Aside0 (Kd.R Kd.string 9 (w20.setCell ⟨gb458, 2, none⟩ (.string t465)) w.heap.size (fun _ => True) (.slice Ao19 y462.length co19) y462) := ⟨by (with_reducible repeat (first | apply rA_ | apply rN_ | apply rD_)); exact Kd.R_mono (Kd.R_far (p := ⟨gb458, 2, none⟩) (Kd.R_types HO464.out BK458.out (by decide)) (fun _ hk => hk.2) (.string t465)) (fun _ hk => trivial)⟩
     have n2_ : Aside0 ((w20.setCell ⟨gb458, 2, none⟩ (.string t465)).heap[gb458]? = some (.cells #[.int .i64 ((rd_T50 l1 x12_1).f0), .int .i64 ((rd_T50 l1 x12_1).f1), .string t465] 50 (0, 0))) := ⟨z12_11_⟩
     have n3_ : Aside0 (IsS62 w0 (w20.setCell ⟨gb458, 2, none⟩ (.string t465)) g s0_0 t466 t467) := ⟨z12_5_⟩
     have n4_ : Aside0 (KeepBut w (w20.setCell ⟨gb458, 2, none⟩ (.string t465)) g none) := ⟨z12_8_⟩
     have n5_ : Aside0 (Below w0.heap.size w0 (w20.setCell ⟨gb458, 2, none⟩ (.string t465))) := ⟨z12_6_⟩
     (try clear HO_5)
     (try clear HO464)
     (try clear BK458)
     (try clear HI0)
     (try clear HK)
     (try clear HB)
     repeat rw [sd_]
     generalize (w20.setCell ⟨gb458, 2, none⟩ (.string t465)) = w24 at n0_ n1_ n2_ n3_ n4_ n5_ ⊢
     have HO_5 := n0_
     have HO464 := n1_
     have BK458 := n2_
     have HI0 := n3_
     have HK := n4_
     have HB := n5_
     clear n0_ n1_ n2_ n3_ n4_ n5_
     replace HO_5 := aM_ (Kd.R_drew HO_5.out)
     replace HO464 := aM_ (Kd.R_drew HO464.out)
     replace BK458 := aM_ (blk_drew BK458.out)
     replace HI0 := aM_ (IsS62.drew HI0.out)
     replace HK := aM_ (keep_drew HK.out)
     replace HB := aM_ (below_drew1 HB.out)
     refine st_ 13 (fun w' => True) [] spec_l1Cur_changed.tab12 spec_l1Cur_changed.bits12 trivial fun hHeld HT_ HW_ => ?_
     generalize w24.drew = w25 at HO_5 HO464 BK458 HI0 HK HB hHeld ⊢
     refine pu_ 0 40 ?_
     refine pu_ 1 41 ?_
     refine pu_ 2 42 ?_
     refine pv_ 3 43 ?_
     refine pv_ 4 44 ?_
     refine pv_ 5 45 ?_
     refine pv_ 6 46 ?_
     refine pv_ 7 47 ?_
     refine pv_ 8 48 ?_
     refine pv_ 9 49 ?_
     refine pv_ 10 50 ?_
     refine pv_ 11 51 ?_
     refine pu_ 12 52 ?_
     refine dn_ ?_
     have hz26 := cf3_ BK458.out
     try go_wp2_with (first | ((with_reducible refine gate_builtin (b := .append) (xs := #[.tmp 53, .tmp 55]) rfl ?_); at_builtin; refine Kd.R_append k50 w.heap.size rfl (.tmp 53) (.tmp 55) 23 50 (.agg #[(.int .i64 0), (.int .i64 0), (.string ⟨#[]⟩)]) 32 rfl Try.underlying23 info50 rfl (by decide) (by omega) (.slice Ao23 x5_1.length co23) x5_1 (⟨(rd_T50 l1 x12_1).f0, (rd_T50 l1 x12_1).f1, t465⟩ : S50) [.int .i64 ((rd_T50 l1 x12_1).f0), .int .i64 ((rd_T50 l1 x12_1).f1), .string t465] (fun k_ => k_ ≠ gb458) (fun _ => False) rfl rfl ?aP (fun _ hk => hk.elim) ?aF ?aO (Below.refl _ _) ?aS ?aL ?_; (case aP => exact k50_mkM _ _ _ (⟨(rd_T50 l1 x12_1).f0, (rd_T50 l1 x12_1).f1, t465⟩ : S50)); (case aF => exact (fun k_ hk => Kd.freshB (g := gb458) kP_ k_ hk)); (case aO => exact (rR_ HO_5)); (case aS => exact (keep_size (w := w) (g := g) (row := none) z12_8_)); (case aL => have := LMc16.out; omega); intro v469 w27 ho hb hg hat; rw [← Ny468.out] at ho; have HO470 := aM_ (ho); replace BK458 := aM_ (blk_grown (g := gb458) (kR_ BK458) hg (Kd.R_away HO_5.out (fun _ hk => hk))); replace HO464 := aM_ (Kd.R_over' (rR_ HO464) (Kd.R_typed (rR_ HO_5)) (by decide) hg); replace HB := aM_ (below_weaken z12_6_ HL.out hb); replace HI0 := aM_ (IsS62.grown z12_5_ hg (IsS62.own_ne HI0.out HO_5.out (by decide))); replace HK := aM_ (KeepBut.trans z12_8_ (KeepBut.of_grown hg g) (Kd.R_base2 HO_5.out)); clear HO_5; clear ho hb hg hat))
     go_roundg k1
     case measure => have := HK1.out; omega
     case rel => exact ⟨(y468), (wrap64 (x12_1 + 1)), (t466), (t467), z12_0_, H', ⟨z12_9_⟩, ⟨rT1_ HO470⟩, ⟨z12_5_⟩, ⟨z12_8_⟩, ⟨z12_6_⟩⟩
    rw [if_neg c15] at H
    have c15b0 : ((x5_1.length : Int) == 0) = false := beq_eq_false_iff_ne.mpr c15
    have c15b1 : ((x5_1.length : Int) != 0) = true := bne_iff_ne.mpr c15
    have c15b2 : ¬ (x5_1 = []) := fun h_ => c15 (by rw [h_]; rfl)
    obtain ⟨ji28, hji28⟩ : ∃ j_ : Int, (wrap64 ((x5_1.length : Int) - 1)) = j_ := ⟨_, rfl⟩
    replace H : (if 0 ≤ (ji28) then (if (ji28) < (x5_1.length : Int) then (if ((rd_T50 x5_1 (ji28)).f1) ≤ ((rd_T50 l1 x12_1).f0) then (if x5_1.length < 4398046511104 then (spec_l1Cur_changed.l0 k1 (x5_1 ++ [(⟨(rd_T50 l1 x12_1).f0, (rd_T50 l1 x12_1).f1, t465⟩ : S50)]) l1 (l1.length : Int) (wrap64 (x12_1 + 1)) s0_0 t466 t467) else (none)) else (spec_l1Cur_changed.l0 k1 x5_1 l1 (l1.length : Int) (wrap64 (x12_1 + 1)) s0_0 t466 t467)) else (none)) else (none)) = some (r1, r2, r3) := by first | (rw [hji28] at H; exact H) | (simp only [hji28] at H ⊢; exact H)
    (try rw [hji28] at A14)
    have hji28w : (IntKind.i64.wrap ((x5_1.length : Int) - 1)) = ji28 := (i64_w _).trans hji28
    replace H := ig_ H; obtain ⟨c29b0, H⟩ := H
    replace H := ig_ H; obtain ⟨c30b0, H⟩ := H
    replace H := iF_ H; obtain ⟨c31b0, H⟩ | ⟨c31b0, H⟩ := H
    ·have H' := Aside0.mk H
     clear H
     try go_wp2_with (first | ((with_reducible refine gate_dst (N := 23) rfl ?_); refine rl_ Kd.string 9 23 ([(⟨#[71, 79]⟩ : ByteArray), (⟨#[73]⟩ : ByteArray), (⟨#[66, 79, 79, 75]⟩ : ByteArray)] : List ByteArray) [.string (⟨#[71, 79]⟩ : ByteArray), .string (⟨#[73]⟩ : ByteArray), .string (⟨#[66, 79, 79, 75]⟩ : ByteArray)] (Reps.one (show Kd.M Kd.string _ _ _ (⟨#[71, 79]⟩ : ByteArray) [.string (⟨#[71, 79]⟩ : ByteArray)] from rfl) (Reps.one (show Kd.M Kd.string _ _ _ (⟨#[73]⟩ : ByteArray) [.string (⟨#[73]⟩ : ByteArray)] from rfl) (Reps.one (show Kd.M Kd.string _ _ _ (⟨#[66, 79, 79, 75]⟩ : ByteArray) [.string (⟨#[66, 79, 79, 75]⟩ : ByteArray)] from rfl) (Reps.none _ _)))) ?_; intro v463 w44 ho45 hb hg_ hnew_; clear hg_ hnew_; (first | rw [← Ny462.out] at ho45 | (simp only [Int.reduceToNat] at ho45; rw [← Ny462.out] at ho45)); have HO464 := aM_ (Kd.R_lower ho45 (keep_size (w := w) (g := g) (row := none) z12_8_)); replace HO_5 := aM_ (Kd.R_below (rR_ HO_5) hb); replace BK458 := aM_ (blk_below (g := gb458) (kR_ BK458) hb); replace HK := aM_ (KeepBut.trans z12_8_ (KeepBut.of_below hb g none) (.inl rfl)); replace HB := aM_ (below_step z12_6_ hb); replace HI0 := aM_ (IsS62.below z12_5_ hb); clear hb ho45; obtain ⟨Ao46, co46, eo46⟩ := Kd.R_slice HO464.out; subst eo46) | (refine gM_ (some 24) Try.func63 #[.pointer (some ⟨g, 0, none⟩), .slice Ao46 y462.length co46] ?_; (with_reducible refine (spec_l1Cur_of.calls g s0_0 t460 t461 _ _ y462 t465 t466 t467 w0 _ ?side1 ?side2 ?side3 ?side4 ?side5 A14.out).mono ?_); (case side1 => exact z12_5_); (case side2 => exact z12_6_); (case side3 => exact cR_ HO464); (case side4 => exact (Kd.R_reads' HO464.out).2.1); (case side5 => exact far_slice (IsS62.own_ne HI0.out HO464.out (by decide))); rintro e w47 ⟨rfl, hi, hb, hk⟩; refine ⟨_, rfl, ?_⟩; replace HO_5 := aM_ (Kd.R_mono (Kd.R_keep (IsS62.apart (show IsS62 w0 _ g s0_0 t460 t461 from by repeat (first | (with_reducible first | exact HI0.out | apply IsS62.alloc | apply IsS62.drewN | apply IsS62.drew | apply IsS62.set_1 | apply IsS62.set_2 | refine IsS62.far ?_ (Aside0.out z12_7_) _) | exact HI0.out)) (rR_ HO_5) (by decide)) hk (fun _ h => h.2)) (fun _ h => h.1)); replace BK458 := aM_ (KeepBut.blk hk (g' := gb458) (o := .cells #[.int .i64 ((rd_T50 l1 x12_1).f0), .int .i64 ((rd_T50 l1 x12_1).f1), .string ((rd_T50 l1 x12_1).f2)] 50 (0, 0)) (kR_ BK458) NB458_0.out (by simp)); replace HO464 := aM_ (Kd.R_mono (Kd.R_keep (IsS62.apart (show IsS62 w0 _ g s0_0 t460 t461 from by repeat (first | (with_reducible first | exact HI0.out | apply IsS62.alloc | apply IsS62.drewN | apply IsS62.drew | apply IsS62.set_1 | apply IsS62.set_2 | refine IsS62.far ?_ (Aside0.out z12_7_) _) | exact HI0.out)) (rR_ HO464) (by decide)) hk (fun _ h => h.2)) (fun _ h => h.1)); replace HK := aM_ (KeepBut.trans z12_8_ hk (.inl rfl)); replace HB := aM_ (hb); replace HI0 := aM_ (hi); (try clear hb); (try clear hk); (try clear hi); have hnb48 := NB458_0.out; have hnc48 := NB0_458.out; have hz49 := cf3_ BK458.out; obtain ⟨Ao50, co50, eo50⟩ := Kd.R_slice HO_5.out; subst eo50))
     have n0_ : Aside0 (Kd.R k50 50 (w47.setCell ⟨gb458, 2, none⟩ (.string t465)) w.heap.size (fun k_ => k_ ≠ gb458) (.slice Ao50 x5_1.length co50) x5_1) := ⟨z12_10_⟩
     have n1_ : Aside0 (Kd.R Kd.string 9 (w47.setCell ⟨gb458, 2, none⟩ (.string t465)) w.heap.size (fun _ => True) (.slice Ao46 y462.length co46) y462) := ⟨by (with_reducible repeat (first | apply rA_ | apply rN_ | apply rD_)); exact Kd.R_mono (Kd.R_far (p := ⟨gb458, 2, none⟩) (Kd.R_types HO464.out BK458.out (by decide)) (fun _ hk => hk.2) (.string t465)) (fun _ hk => trivial)⟩
     have n2_ : Aside0 ((w47.setCell ⟨gb458, 2, none⟩ (.string t465)).heap[gb458]? = some (.cells #[.int .i64 ((rd_T50 l1 x12_1).f0), .int .i64 ((rd_T50 l1 x12_1).f1), .string t465] 50 (0, 0))) := ⟨z12_11_⟩
     have n3_ : Aside0 (IsS62 w0 (w47.setCell ⟨gb458, 2, none⟩ (.string t465)) g s0_0 t466 t467) := ⟨z12_5_⟩
     have n4_ : Aside0 (KeepBut w (w47.setCell ⟨gb458, 2, none⟩ (.string t465)) g none) := ⟨z12_8_⟩
     have n5_ : Aside0 (Below w0.heap.size w0 (w47.setCell ⟨gb458, 2, none⟩ (.string t465))) := ⟨z12_6_⟩
     (try clear HO_5)
     (try clear HO464)
     (try clear BK458)
     (try clear HI0)
     (try clear HK)
     (try clear HB)
     repeat rw [sd_]
     generalize (w47.setCell ⟨gb458, 2, none⟩ (.string t465)) = w51 at n0_ n1_ n2_ n3_ n4_ n5_ ⊢
     have HO_5 := n0_
     have HO464 := n1_
     have BK458 := n2_
     have HI0 := n3_
     have HK := n4_
     have HB := n5_
     clear n0_ n1_ n2_ n3_ n4_ n5_
     replace HO_5 := aM_ (Kd.R_drew HO_5.out)
     replace HO464 := aM_ (Kd.R_drew HO464.out)
     replace BK458 := aM_ (blk_drew BK458.out)
     replace HI0 := aM_ (IsS62.drew HI0.out)
     replace HK := aM_ (keep_drew HK.out)
     replace HB := aM_ (below_drew1 HB.out)
     obtain ⟨⟨ad471, e471, hx471_0, hx471_1, hx471_2⟩, p471, q471⟩ := at2_ (at_T50 (Kd.R_reads' HO_5.out).2.2 (ji28)); cases e471
     refine st_ 13 (fun w' => w'.cell? ⟨gb458, 0, none⟩ = some (.int .i64 ((rd_T50 l1 x12_1).f0)) ∧ w'.cell? ⟨gb458, 1, none⟩ = some (.int .i64 ((rd_T50 l1 x12_1).f1)) ∧ w'.cell? ⟨gb458, 2, none⟩ = some (.string t465) ∧ w'.cell? (ad471.add (((ji28)).toNat * 3)) = some (.int .i64 ((rd_T50 x5_1 (ji28)).f0)) ∧ w'.cell? ⟨(ad471.add (((ji28)).toNat * 3)).block, (ad471.add (((ji28)).toNat * 3)).off + 1, none⟩ = some (.int .i64 ((rd_T50 x5_1 (ji28)).f1)) ∧ w'.cell? ⟨(ad471.add (((ji28)).toNat * 3)).block, (ad471.add (((ji28)).toNat * 3)).off + 2, none⟩ = some (.string ((rd_T50 x5_1 (ji28)).f2))) [] spec_l1Cur_changed.tab12 spec_l1Cur_changed.bits12 ⟨(blk_cell BK458.out 0).trans rfl, (blk_cell BK458.out 1).trans rfl, (blk_cell BK458.out 2).trans rfl, hx471_0, hx471_1, hx471_2⟩ fun hHeld HT_ HW_ => ?_
     generalize w51.drew = w52 at HO_5 HO464 BK458 HI0 HK HB hx471_0 hx471_1 hx471_2 hHeld ⊢
     refine pu_ 0 40 ?_
     refine pu_ 1 41 ?_
     refine pu_ 2 42 ?_
     refine pu_ 3 43 ?_
     refine pu_ 4 44 ?_
     refine pu_ 5 45 ?_
     refine pu_ 6 46 ?_
     refine pu_ 7 47 ?_
     refine pu_ 9 49 ?_
     refine tk_ 8 48 ?_
     refine tk_ 10 50 ?_
     refine pu_ 11 51 ?_
     refine pu_ 12 52 ?_
     refine dn_ ?_
     try go_wp2
     go_roundg k1
     case measure => have := HK1.out; omega
     case rel => exact ⟨(x5_1), (wrap64 (x12_1 + 1)), (t466), (t467), z12_0_, H', ⟨z12_9_⟩, ⟨(rT1_ HO_5)⟩, ⟨z12_5_⟩, ⟨z12_8_⟩, ⟨z12_6_⟩⟩
    replace H := il_ H; obtain ⟨LMc32, H⟩ := H
    obtain ⟨y472, hy472⟩ : ∃ y_ : List (S50), y_ = (x5_1 ++ [(⟨(rd_T50 l1 x12_1).f0, (rd_T50 l1 x12_1).f1, t465⟩ : S50)]) := ⟨_, rfl⟩
    rw [← hy472] at H
    have Ny472 := Aside0.mk hy472; clear hy472
    have H' := Aside0.mk H
    clear H
    try go_wp2_with (first | ((with_reducible refine gate_dst (N := 23) rfl ?_); refine rl_ Kd.string 9 23 ([(⟨#[71, 79]⟩ : ByteArray), (⟨#[73]⟩ : ByteArray), (⟨#[66, 79, 79, 75]⟩ : ByteArray)] : List ByteArray) [.string (⟨#[71, 79]⟩ : ByteArray), .string (⟨#[73]⟩ : ByteArray), .string (⟨#[66, 79, 79, 75]⟩ : ByteArray)] (Reps.one (show Kd.M Kd.string _ _ _ (⟨#[71, 79]⟩ : ByteArray) [.string (⟨#[71, 79]⟩ : ByteArray)] from rfl) (Reps.one (show Kd.M Kd.string _ _ _ (⟨#[73]⟩ : ByteArray) [.string (⟨#[73]⟩ : ByteArray)] from rfl) (Reps.one (show Kd.M Kd.string _ _ _ (⟨#[66, 79, 79, 75]⟩ : ByteArray) [.string (⟨#[66, 79, 79, 75]⟩ : ByteArray)] from rfl) (Reps.none _ _)))) ?_; intro v463 w33 ho34 hb hg_ hnew_; clear hg_ hnew_; (first | rw [← Ny462.out] at ho34 | (simp only [Int.reduceToNat] at ho34; rw [← Ny462.out] at ho34)); have HO464 := aM_ (Kd.R_lower ho34 (keep_size (w := w) (g := g) (row := none) z12_8_)); replace HO_5 := aM_ (Kd.R_below (rR_ HO_5) hb); replace BK458 := aM_ (blk_below (g := gb458) (kR_ BK458) hb); replace HK := aM_ (KeepBut.trans z12_8_ (KeepBut.of_below hb g none) (.inl rfl)); replace HB := aM_ (below_step z12_6_ hb); replace HI0 := aM_ (IsS62.below z12_5_ hb); clear hb ho34; obtain ⟨Ao35, co35, eo35⟩ := Kd.R_slice HO464.out; subst eo35) | (refine gM_ (some 24) Try.func63 #[.pointer (some ⟨g, 0, none⟩), .slice Ao35 y462.length co35] ?_; (with_reducible refine (spec_l1Cur_of.calls g s0_0 t460 t461 _ _ y462 t465 t466 t467 w0 _ ?side1 ?side2 ?side3 ?side4 ?side5 A14.out).mono ?_); (case side1 => exact z12_5_); (case side2 => exact z12_6_); (case side3 => exact cR_ HO464); (case side4 => exact (Kd.R_reads' HO464.out).2.1); (case side5 => exact far_slice (IsS62.own_ne HI0.out HO464.out (by decide))); rintro e w36 ⟨rfl, hi, hb, hk⟩; refine ⟨_, rfl, ?_⟩; replace HO_5 := aM_ (Kd.R_mono (Kd.R_keep (IsS62.apart (show IsS62 w0 _ g s0_0 t460 t461 from by repeat (first | (with_reducible first | exact HI0.out | apply IsS62.alloc | apply IsS62.drewN | apply IsS62.drew | apply IsS62.set_1 | apply IsS62.set_2 | refine IsS62.far ?_ (Aside0.out z12_7_) _) | exact HI0.out)) (rR_ HO_5) (by decide)) hk (fun _ h => h.2)) (fun _ h => h.1)); replace BK458 := aM_ (KeepBut.blk hk (g' := gb458) (o := .cells #[.int .i64 ((rd_T50 l1 x12_1).f0), .int .i64 ((rd_T50 l1 x12_1).f1), .string ((rd_T50 l1 x12_1).f2)] 50 (0, 0)) (kR_ BK458) NB458_0.out (by simp)); replace HO464 := aM_ (Kd.R_mono (Kd.R_keep (IsS62.apart (show IsS62 w0 _ g s0_0 t460 t461 from by repeat (first | (with_reducible first | exact HI0.out | apply IsS62.alloc | apply IsS62.drewN | apply IsS62.drew | apply IsS62.set_1 | apply IsS62.set_2 | refine IsS62.far ?_ (Aside0.out z12_7_) _) | exact HI0.out)) (rR_ HO464) (by decide)) hk (fun _ h => h.2)) (fun _ h => h.1)); replace HK := aM_ (KeepBut.trans z12_8_ hk (.inl rfl)); replace HB := aM_ (hb); replace HI0 := aM_ (hi); (try clear hb); (try clear hk); (try clear hi); have hnb37 := NB458_0.out; have hnc37 := NB0_458.out; have hz38 := cf3_ BK458.out; obtain ⟨Ao39, co39, eo39⟩ := Kd.R_slice HO_5.out; subst eo39))
    have n0_ : Aside0 (Kd.R k50 50 (w36.setCell ⟨gb458, 2, none⟩ (.string t465)) w.heap.size (fun k_ => k_ ≠ gb458) (.slice Ao39 x5_1.length co39) x5_1) := ⟨z12_10_⟩
    have n1_ : Aside0 (Kd.R Kd.string 9 (w36.setCell ⟨gb458, 2, none⟩ (.string t465)) w.heap.size (fun _ => True) (.slice Ao35 y462.length co35) y462) := ⟨by (with_reducible repeat (first | apply rA_ | apply rN_ | apply rD_)); exact Kd.R_mono (Kd.R_far (p := ⟨gb458, 2, none⟩) (Kd.R_types HO464.out BK458.out (by decide)) (fun _ hk => hk.2) (.string t465)) (fun _ hk => trivial)⟩
    have n2_ : Aside0 ((w36.setCell ⟨gb458, 2, none⟩ (.string t465)).heap[gb458]? = some (.cells #[.int .i64 ((rd_T50 l1 x12_1).f0), .int .i64 ((rd_T50 l1 x12_1).f1), .string t465] 50 (0, 0))) := ⟨z12_11_⟩
    have n3_ : Aside0 (IsS62 w0 (w36.setCell ⟨gb458, 2, none⟩ (.string t465)) g s0_0 t466 t467) := ⟨z12_5_⟩
    have n4_ : Aside0 (KeepBut w (w36.setCell ⟨gb458, 2, none⟩ (.string t465)) g none) := ⟨z12_8_⟩
    have n5_ : Aside0 (Below w0.heap.size w0 (w36.setCell ⟨gb458, 2, none⟩ (.string t465))) := ⟨z12_6_⟩
    (try clear HO_5)
    (try clear HO464)
    (try clear BK458)
    (try clear HI0)
    (try clear HK)
    (try clear HB)
    repeat rw [sd_]
    generalize (w36.setCell ⟨gb458, 2, none⟩ (.string t465)) = w40 at n0_ n1_ n2_ n3_ n4_ n5_ ⊢
    have HO_5 := n0_
    have HO464 := n1_
    have BK458 := n2_
    have HI0 := n3_
    have HK := n4_
    have HB := n5_
    clear n0_ n1_ n2_ n3_ n4_ n5_
    replace HO_5 := aM_ (Kd.R_drew HO_5.out)
    replace HO464 := aM_ (Kd.R_drew HO464.out)
    replace BK458 := aM_ (blk_drew BK458.out)
    replace HI0 := aM_ (IsS62.drew HI0.out)
    replace HK := aM_ (keep_drew HK.out)
    replace HB := aM_ (below_drew1 HB.out)
    obtain ⟨⟨ad471, e471, hx471_0, hx471_1, hx471_2⟩, p471, q471⟩ := at2_ (at_T50 (Kd.R_reads' HO_5.out).2.2 (ji28)); cases e471
    refine st_ 13 (fun w' => w'.cell? ⟨gb458, 0, none⟩ = some (.int .i64 ((rd_T50 l1 x12_1).f0)) ∧ w'.cell? ⟨gb458, 1, none⟩ = some (.int .i64 ((rd_T50 l1 x12_1).f1)) ∧ w'.cell? ⟨gb458, 2, none⟩ = some (.string t465) ∧ w'.cell? (ad471.add (((ji28)).toNat * 3)) = some (.int .i64 ((rd_T50 x5_1 (ji28)).f0)) ∧ w'.cell? ⟨(ad471.add (((ji28)).toNat * 3)).block, (ad471.add (((ji28)).toNat * 3)).off + 1, none⟩ = some (.int .i64 ((rd_T50 x5_1 (ji28)).f1)) ∧ w'.cell? ⟨(ad471.add (((ji28)).toNat * 3)).block, (ad471.add (((ji28)).toNat * 3)).off + 2, none⟩ = some (.string ((rd_T50 x5_1 (ji28)).f2))) [] spec_l1Cur_changed.tab12 spec_l1Cur_changed.bits12 ⟨(blk_cell BK458.out 0).trans rfl, (blk_cell BK458.out 1).trans rfl, (blk_cell BK458.out 2).trans rfl, hx471_0, hx471_1, hx471_2⟩ fun hHeld HT_ HW_ => ?_
    generalize w40.drew = w41 at HO_5 HO464 BK458 HI0 HK HB hx471_0 hx471_1 hx471_2 hHeld ⊢
    refine pu_ 0 40 ?_
    refine pu_ 1 41 ?_
    refine pu_ 2 42 ?_
    refine pu_ 3 43 ?_
    refine pu_ 4 44 ?_
    refine pu_ 5 45 ?_
    refine pu_ 6 46 ?_
    refine pu_ 7 47 ?_
    refine pu_ 9 49 ?_
    refine tk_ 8 48 ?_
    refine tk_ 10 50 ?_
    refine pu_ 11 51 ?_
    refine pu_ 12 52 ?_
    refine dn_ ?_
    have hz42 := cf3_ BK458.out
    try go_wp2_with (first | ((with_reducible refine gate_builtin (b := .append) (xs := #[.tmp 53, .tmp 55]) rfl ?_); at_builtin; refine Kd.R_append k50 w.heap.size rfl (.tmp 53) (.tmp 55) 23 50 (.agg #[(.int .i64 0), (.int .i64 0), (.string ⟨#[]⟩)]) 32 rfl Try.underlying23 info50 rfl (by decide) (by omega) (.slice (some ad471) x5_1.length co39) x5_1 (⟨(rd_T50 l1 x12_1).f0, (rd_T50 l1 x12_1).f1, t465⟩ : S50) [.int .i64 ((rd_T50 l1 x12_1).f0), .int .i64 ((rd_T50 l1 x12_1).f1), .string t465] (fun k_ => k_ ≠ gb458) (fun _ => False) rfl rfl ?aP (fun _ hk => hk.elim) ?aF ?aO (Below.refl _ _) ?aS ?aL ?_; (case aP => exact k50_mkM _ _ _ (⟨(rd_T50 l1 x12_1).f0, (rd_T50 l1 x12_1).f1, t465⟩ : S50)); (case aF => exact (fun k_ hk => Kd.freshB (g := gb458) kP_ k_ hk)); (case aO => exact (rR_ HO_5)); (case aS => exact (keep_size (w := w) (g := g) (row := none) z12_8_)); (case aL => have := LMc32.out; omega); intro v473 w43 ho hb hg hat; rw [← Ny472.out] at ho; have HO474 := aM_ (ho); replace BK458 := aM_ (blk_grown (g := gb458) (kR_ BK458) hg (Kd.R_away HO_5.out (fun _ hk => hk))); replace HO464 := aM_ (Kd.R_over' (rR_ HO464) (Kd.R_typed (rR_ HO_5)) (by decide) hg); replace HB := aM_ (below_weaken z12_6_ HL.out hb); replace HI0 := aM_ (IsS62.grown z12_5_ hg (IsS62.own_ne HI0.out HO_5.out (by decide))); replace HK := aM_ (KeepBut.trans z12_8_ (KeepBut.of_grown hg g) (Kd.R_base2 HO_5.out)); clear HO_5; clear ho hb hg hat))
    go_roundg k1
    case measure => have := HK1.out; omega
    case rel => exact ⟨(y472), (wrap64 (x12_1 + 1)), (t466), (t467), z12_0_, H', ⟨z12_9_⟩, ⟨rT1_ HO474⟩, ⟨z12_5_⟩, ⟨z12_8_⟩, ⟨z12_6_⟩⟩
   rw [if_neg c13] at H
   have c13b0 : (t459 == 1) = false := beq_eq_false_iff_ne.mpr c13
   have c13b1 : (t459 != 1) = true := bne_iff_ne.mpr c13
   by_cases c53 : t459 = 2
   rotate_left
   ·rw [if_neg c53] at H
    have c53b0 : (t459 == 2) = false := beq_eq_false_iff_ne.mpr c53
    have c53b1 : (t459 != 2) = true := bne_iff_ne.mpr c53
    by_cases c87 : (x5_1.length : Int) = 0
    ·rw [if_pos c87] at H
     have c87b0 : ((x5_1.length : Int) == 0) = true := beq_iff_eq.mpr c87
     have c87b1 : ((x5_1.length : Int) != 0) = false := bne_eq_false_iff_eq.mpr c87
     clear c87
     replace H := il_ H; obtain ⟨LMc88, H⟩ := H
     obtain ⟨y486, hy486⟩ : ∃ y_ : List (S50), y_ = (x5_1 ++ [(⟨(rd_T50 l1 x12_1).f0, (rd_T50 l1 x12_1).f1, (rd_T50 l1 x12_1).f2⟩ : S50)]) := ⟨_, rfl⟩
     rw [← hy486] at H
     have Ny486 := Aside0.mk hy486; clear hy486
     have H' := Aside0.mk H
     clear H
     obtain ⟨Ao89, co89, eo89⟩ := Kd.R_slice HO_5.out
     subst eo89
     try go_wp2
     replace HO_5 := aM_ (Kd.R_drew HO_5.out)
     replace BK458 := aM_ (blk_drew BK458.out)
     replace HI0 := aM_ (IsS62.drew HI0.out)
     replace HK := aM_ (keep_drew HK.out)
     replace HB := aM_ (below_drew1 HB.out)
     refine st_ 13 (fun w' => True) [] spec_l1Cur_changed.tab12 spec_l1Cur_changed.bits12 trivial fun hHeld HT_ HW_ => ?_
     generalize w11.drew = w90 at HO_5 BK458 HI0 HK HB hHeld ⊢
     refine pu_ 0 40 ?_
     refine pu_ 1 41 ?_
     refine pu_ 2 42 ?_
     refine pv_ 3 43 ?_
     refine pv_ 4 44 ?_
     refine pv_ 5 45 ?_
     refine pv_ 6 46 ?_
     refine pv_ 7 47 ?_
     refine pv_ 8 48 ?_
     refine pv_ 9 49 ?_
     refine pv_ 10 50 ?_
     refine pv_ 11 51 ?_
     refine pu_ 12 52 ?_
     refine dn_ ?_
     have hnb91 := NB458_0.out
     have hnc91 := NB0_458.out
     have hz92 := cf3_ BK458.out
     try go_wp2_with (first | ((with_reducible refine gate_builtin (b := .append) (xs := #[.tmp 53, .tmp 55]) rfl ?_); at_builtin; refine Kd.R_append k50 w.heap.size rfl (.tmp 53) (.tmp 55) 23 50 (.agg #[(.int .i64 0), (.int .i64 0), (.string ⟨#[]⟩)]) 32 rfl Try.underlying23 info50 rfl (by decide) (by omega) (.slice Ao89 x5_1.length co89) x5_1 (⟨(rd_T50 l1 x12_1).f0, (rd_T50 l1 x12_1).f1, (rd_T50 l1 x12_1).f2⟩ : S50) [.int .i64 ((rd_T50 l1 x12_1).f0), .int .i64 ((rd_T50 l1 x12_1).f1), .string ((rd_T50 l1 x12_1).f2)] (fun k_ => k_ ≠ gb458) (fun _ => False) rfl rfl ?aP (fun _ hk => hk.elim) ?aF ?aO (Below.refl _ _) ?aS ?aL ?_; (case aP => exact k50_mkM _ _ _ (⟨(rd_T50 l1 x12_1).f0, (rd_T50 l1 x12_1).f1, (rd_T50 l1 x12_1).f2⟩ : S50)); (case aF => exact (fun k_ hk => Kd.freshB (g := gb458) kP_ k_ hk)); (case aO => exact (rM_ HO_5 (fun _ hk => hk.2))); (case aS => exact (keep_size (w := w) (g := g) (row := none) z12_8_)); (case aL => have := LMc88.out; omega); intro v487 w93 ho hb hg hat; rw [← Ny486.out] at ho; have HO488 := aM_ (ho); replace BK458 := aM_ (blk_grown (g := gb458) (kR_ BK458) hg (Kd.R_away HO_5.out (fun _ hk => hk.2))); replace HB := aM_ (below_weaken z12_6_ HL.out hb); replace HI0 := aM_ (IsS62.grown z12_5_ hg (IsS62.own_ne HI0.out HO_5.out (by decide))); replace HK := aM_ (KeepBut.trans z12_8_ (KeepBut.of_grown hg g) (Kd.R_base2 HO_5.out)); clear HO_5; clear ho hb hg hat))
     go_roundg k1
     case measure => have := HK1.out; omega
     case rel => exact ⟨(y486), (wrap64 (x12_1 + 1)), (t460), (t461), z12_0_, H', ⟨z12_9_⟩, ⟨rT1_ HO488⟩, ⟨z12_5_⟩, ⟨z12_8_⟩, ⟨z12_6_⟩⟩
    rw [if_neg c87] at H
    have c87b0 : ((x5_1.length : Int) == 0) = false := beq_eq_false_iff_ne.mpr c87
    have c87b1 : ((x5_1.length : Int) != 0) = true := bne_iff_ne.mpr c87
    have c87b2 : ¬ (x5_1 = []) := fun h_ => c87 (by rw [h_]; rfl)
    obtain ⟨ji94, hji94⟩ : ∃ j_ : Int, (wrap64 ((x5_1.length : Int) - 1)) = j_ := ⟨_, rfl⟩
    replace H : (if 0 ≤ (ji94) then (if (ji94) < (x5_1.length : Int) then (if ((rd_T50 x5_1 (ji94)).f1) ≤ ((rd_T50 l1 x12_1).f0) then (if x5_1.length < 4398046511104 then (spec_l1Cur_changed.l0 k1 (x5_1 ++ [(⟨(rd_T50 l1 x12_1).f0, (rd_T50 l1 x12_1).f1, (rd_T50 l1 x12_1).f2⟩ : S50)]) l1 (l1.length : Int) (wrap64 (x12_1 + 1)) s0_0 t460 t461) else (none)) else (spec_l1Cur_changed.l0 k1 x5_1 l1 (l1.length : Int) (wrap64 (x12_1 + 1)) s0_0 t460 t461)) else (none)) else (none)) = some (r1, r2, r3) := by first | (rw [hji94] at H; exact H) | (simp only [hji94] at H ⊢; exact H)
    have hji94w : (IntKind.i64.wrap ((x5_1.length : Int) - 1)) = ji94 := (i64_w _).trans hji94
    replace H := ig_ H; obtain ⟨c95b0, H⟩ := H
    replace H := ig_ H; obtain ⟨c96b0, H⟩ := H
    replace H := iF_ H; obtain ⟨c97b0, H⟩ | ⟨c97b0, H⟩ := H
    ·have H' := Aside0.mk H
     clear H
     obtain ⟨Ao104, co104, eo104⟩ := Kd.R_slice HO_5.out
     subst eo104
     try go_wp2
     replace HO_5 := aM_ (Kd.R_drew HO_5.out)
     replace BK458 := aM_ (blk_drew BK458.out)
     replace HI0 := aM_ (IsS62.drew HI0.out)
     replace HK := aM_ (keep_drew HK.out)
     replace HB := aM_ (below_drew1 HB.out)
     obtain ⟨⟨ad489, e489, hx489_0, hx489_1, hx489_2⟩, p489, q489⟩ := at2_ (at_T50 (Kd.R_reads' HO_5.out).2.2 (ji94)); cases e489
     refine st_ 13 (fun w' => w'.cell? ⟨gb458, 0, none⟩ = some (.int .i64 ((rd_T50 l1 x12_1).f0)) ∧ w'.cell? ⟨gb458, 1, none⟩ = some (.int .i64 ((rd_T50 l1 x12_1).f1)) ∧ w'.cell? ⟨gb458, 2, none⟩ = some (.string ((rd_T50 l1 x12_1).f2)) ∧ w'.cell? (ad489.add (((ji94)).toNat * 3)) = some (.int .i64 ((rd_T50 x5_1 (ji94)).f0)) ∧ w'.cell? ⟨(ad489.add (((ji94)).toNat * 3)).block, (ad489.add (((ji94)).toNat * 3)).off + 1, none⟩ = some (.int .i64 ((rd_T50 x5_1 (ji94)).f1)) ∧ w'.cell? ⟨(ad489.add (((ji94)).toNat * 3)).block, (ad489.add (((ji94)).toNat * 3)).off + 2, none⟩ = some (.string ((rd_T50 x5_1 (ji94)).f2))) [] spec_l1Cur_changed.tab12 spec_l1Cur_changed.bits12 ⟨(blk_cell BK458.out 0).trans rfl, (blk_cell BK458.out 1).trans rfl, (blk_cell BK458.out 2).trans rfl, hx489_0, hx489_1, hx489_2⟩ fun hHeld HT_ HW_ => ?_
     generalize w11.drew = w105 at HO_5 BK458 HI0 HK HB hx489_0 hx489_1 hx489_2 hHeld ⊢
     refine pu_ 0 40 ?_
     refine pu_ 1 41 ?_
     refine pu_ 2 42 ?_
     refine pu_ 3 43 ?_
     refine pu_ 4 44 ?_
     refine pu_ 5 45 ?_
     refine pu_ 6 46 ?_
     refine pu_ 7 47 ?_
     refine pu_ 9 49 ?_
     refine tk_ 8 48 ?_
     refine tk_ 10 50 ?_
     refine pu_ 11 51 ?_
     refine pu_ 12 52 ?_
     refine dn_ ?_
     try go_wp2
     go_roundg k1
     case measure => have := HK1.out; omega
     case rel => exact ⟨(x5_1), (wrap64 (x12_1 + 1)), (t460), (t461), z12_0_, H', ⟨z12_9_⟩, ⟨(rT1_ HO_5)⟩, ⟨z12_5_⟩, ⟨z12_8_⟩, ⟨z12_6_⟩⟩
    replace H := il_ H; obtain ⟨LMc98, H⟩ := H
    obtain ⟨y490, hy490⟩ : ∃ y_ : List (S50), y_ = (x5_1 ++ [(⟨(rd_T50 l1 x12_1).f0, (rd_T50 l1 x12_1).f1, (rd_T50 l1 x12_1).f2⟩ : S50)]) := ⟨_, rfl⟩
    rw [← hy490] at H
    have Ny490 := Aside0.mk hy490; clear hy490
    have H' := Aside0.mk H
    clear H
    obtain ⟨Ao99, co99, eo99⟩ := Kd.R_slice HO_5.out
    subst eo99
    try go_wp2
    replace HO_5 := aM_ (Kd.R_drew HO_5.out)
    replace BK458 := aM_ (blk_drew BK458.out)
    replace HI0 := aM_ (IsS62.drew HI0.out)
    replace HK := aM_ (keep_drew HK.out)
    replace HB := aM_ (below_drew1 HB.out)
    obtain ⟨⟨ad489, e489, hx489_0, hx489_1, hx489_2⟩, p489, q489⟩ := at2_ (at_T50 (Kd.R_reads' HO_5.out).2.2 (ji94)); cases e489
    refine st_ 13 (fun w' => w'.cell? ⟨gb458, 0, none⟩ = some (.int .i64 ((rd_T50 l1 x12_1).f0)) ∧ w'.cell? ⟨gb458, 1, none⟩ = some (.int .i64 ((rd_T50 l1 x12_1).f1)) ∧ w'.cell? ⟨gb458, 2, none⟩ = some (.string ((rd_T50 l1 x12_1).f2)) ∧ w'.cell? (ad489.add (((ji94)).toNat * 3)) = some (.int .i64 ((rd_T50 x5_1 (ji94)).f0)) ∧ w'.cell? ⟨(ad489.add (((ji94)).toNat * 3)).block, (ad489.add (((ji94)).toNat * 3)).off + 1, none⟩ = some (.int .i64 ((rd_T50 x5_1 (ji94)).f1)) ∧ w'.cell? ⟨(ad489.add (((ji94)).toNat * 3)).block, (ad489.add (((ji94)).toNat * 3)).off + 2, none⟩ = some (.string ((rd_T50 x5_1 (ji94)).f2))) [] spec_l1Cur_changed.tab12 spec_l1Cur_changed.bits12 ⟨(blk_cell BK458.out 0).trans rfl, (blk_cell BK458.out 1).trans rfl, (blk_cell BK458.out 2).trans rfl, hx489_0, hx489_1, hx489_2⟩ fun hHeld HT_ HW_ => ?_
    generalize w11.drew = w100 at HO_5 BK458 HI0 HK HB hx489_0 hx489_1 hx489_2 hHeld ⊢
    refine pu_ 0 40 ?_
    refine pu_ 1 41 ?_
    refine pu_ 2 42 ?_
    refine pu_ 3 43 ?_
    refine pu_ 4 44 ?_
    refine pu_ 5 45 ?_
    refine pu_ 6 46 ?_
    refine pu_ 7 47 ?_
    refine pu_ 9 49 ?_
    refine tk_ 8 48 ?_
    refine tk_ 10 50 ?_
    refine pu_ 11 51 ?_
    refine pu_ 12 52 ?_
    refine dn_ ?_
    have hnb101 := NB458_0.out
    have hnc101 := NB0_458.out
    have hz102 := cf3_ BK458.out
    try go_wp2_with (first | ((with_reducible refine gate_builtin (b := .append) (xs := #[.tmp 53, .tmp 55]) rfl ?_); at_builtin; refine Kd.R_append k50 w.heap.size rfl (.tmp 53) (.tmp 55) 23 50 (.agg #[(.int .i64 0), (.int .i64 0), (.string ⟨#[]⟩)]) 32 rfl Try.underlying23 info50 rfl (by decide) (by omega) (.slice (some ad489) x5_1.length co99) x5_1 (⟨(rd_T50 l1 x12_1).f0, (rd_T50 l1 x12_1).f1, (rd_T50 l1 x12_1).f2⟩ : S50) [.int .i64 ((rd_T50 l1 x12_1).f0), .int .i64 ((rd_T50 l1 x12_1).f1), .string ((rd_T50 l1 x12_1).f2)] (fun k_ => k_ ≠ gb458) (fun _ => False) rfl rfl ?aP (fun _ hk => hk.elim) ?aF ?aO (Below.refl _ _) ?aS ?aL ?_; (case aP => exact k50_mkM _ _ _ (⟨(rd_T50 l1 x12_1).f0, (rd_T50 l1 x12_1).f1, (rd_T50 l1 x12_1).f2⟩ : S50)); (case aF => exact (fun k_ hk => Kd.freshB (g := gb458) kP_ k_ hk)); (case aO => exact (rM_ HO_5 (fun _ hk => hk.2))); (case aS => exact (keep_size (w := w) (g := g) (row := none) z12_8_)); (case aL => have := LMc98.out; omega); intro v491 w103 ho hb hg hat; rw [← Ny490.out] at ho; have HO492 := aM_ (ho); replace BK458 := aM_ (blk_grown (g := gb458) (kR_ BK458) hg (Kd.R_away HO_5.out (fun _ hk => hk.2))); replace HB := aM_ (below_weaken z12_6_ HL.out hb); replace HI0 := aM_ (IsS62.grown z12_5_ hg (IsS62.own_ne HI0.out HO_5.out (by decide))); replace HK := aM_ (KeepBut.trans z12_8_ (KeepBut.of_grown hg g) (Kd.R_base2 HO_5.out)); clear HO_5; clear ho hb hg hat))
    go_roundg k1
    case measure => have := HK1.out; omega
    case rel => exact ⟨(y490), (wrap64 (x12_1 + 1)), (t460), (t461), z12_0_, H', ⟨z12_9_⟩, ⟨rT1_ HO492⟩, ⟨z12_5_⟩, ⟨z12_8_⟩, ⟨z12_6_⟩⟩
   rw [if_pos c53] at H
   have c53b0 : (t459 == 2) = true := beq_iff_eq.mpr c53
   have c53b1 : (t459 != 2) = false := bne_eq_false_iff_eq.mpr c53
   clear c53
   replace H := ob_ H; obtain ⟨⟨t475, t476, t477⟩, A54, H⟩ := H; try dsimp only at H
   replace H := ob_ H; obtain ⟨t478, A55, H⟩ := H; try dsimp only at H
   by_cases c56 : (x5_1.length : Int) = 0
   ·rw [if_pos c56] at H
    have c56b0 : ((x5_1.length : Int) == 0) = true := beq_iff_eq.mpr c56
    have c56b1 : ((x5_1.length : Int) != 0) = false := bne_eq_false_iff_eq.mpr c56
    clear c56
    replace H := il_ H; obtain ⟨LMc57, H⟩ := H
    obtain ⟨y479, hy479⟩ : ∃ y_ : List (S50), y_ = (x5_1 ++ [(⟨(rd_T50 l1 x12_1).f0, t478, (rd_T50 l1 x12_1).f2⟩ : S50)]) := ⟨_, rfl⟩
    rw [← hy479] at H
    have Ny479 := Aside0.mk hy479; clear hy479
    have H' := Aside0.mk H
    clear H
    try go_wp2
    replace HO_5 := aM_ (Kd.R_drew HO_5.out)
    replace BK458 := aM_ (blk_drew BK458.out)
    replace HI0 := aM_ (IsS62.drew HI0.out)
    replace HK := aM_ (keep_drew HK.out)
    replace HB := aM_ (below_drew1 HB.out)
    refine st_ 11 (fun w' => w'.cell? ⟨gb458, 0, none⟩ = some (.int .i64 ((rd_T50 l1 x12_1).f0)) ∧ w'.cell? ⟨gb458, 1, none⟩ = some (.int .i64 ((rd_T50 l1 x12_1).f1)) ∧ w'.cell? ⟨gb458, 2, none⟩ = some (.string ((rd_T50 l1 x12_1).f2))) [10] spec_l1Cur_changed.tab10 spec_l1Cur_changed.bits10 ⟨(blk_cell BK458.out 0).trans rfl, (blk_cell BK458.out 1).trans rfl, (blk_cell BK458.out 2).trans rfl⟩ fun hHeld HT_ HW_ => ?_
    generalize w11.drew = w58 at HO_5 BK458 HI0 HK HB hHeld ⊢
    refine pu_ 0 28 ?_
    refine pu_ 3 31 ?_
    refine pu_ 5 33 ?_
    refine tk_ 1 29 ?_
    refine pu_ 2 30 ?_
    refine tk_ 4 32 ?_
    refine on_ 6 34 fun K hK => ?_
    refine gS_ Try.func58 #[.pointer (some ⟨g, 0, none⟩), .int .i64 3] ?_
    with_reducible refine (spec_l1Cur_pick.calls g s0_0 t460 t461 3 t475 t476 t477 w0 _ ?side1 ?side2 A54.out).mono ?_
    (case side1 => repeat (first | (with_reducible first | exact HI0.out | apply IsS62.alloc | apply IsS62.drewN | apply IsS62.drew | apply IsS62.set_1 | apply IsS62.set_2 | refine IsS62.far ?_ (Aside0.out z12_7_) _) | exact HI0.out))
    (case side2 => repeat (first | (with_reducible first | exact HB.out | apply lA_ | apply lN_ | apply lD_ | refine below_set ?_ (IsS62.ge HI0.out) | refine below_set ?_ GE458.out) | exact HB.out))
    rintro e w59 ⟨rfl, hi, hb, hk⟩
    refine ⟨_, rfl, ?_⟩
    replace HO_5 := aM_ (Kd.R_mono (Kd.R_keep (IsS62.apart (show IsS62 w0 _ g s0_0 t460 t461 from by repeat (first | (with_reducible first | exact HI0.out | apply IsS62.alloc | apply IsS62.drewN | apply IsS62.drew | apply IsS62.set_1 | apply IsS62.set_2 | refine IsS62.far ?_ (Aside0.out z12_7_) _) | exact HI0.out)) (rR_ HO_5) (by decide)) hk (fun _ h => h.2)) (fun _ h => h.1))
    replace BK458 := aM_ (KeepBut.blk hk (g' := gb458) (o := .cells #[.int .i64 ((rd_T50 l1 x12_1).f0), .int .i64 ((rd_T50 l1 x12_1).f1), .string ((rd_T50 l1 x12_1).f2)] 50 (0, 0)) (kR_ BK458) NB458_0.out (by simp))
    replace HK := aM_ (KeepBut.trans z12_8_ hk (.inl rfl))
    replace HB := aM_ (hb)
    replace HI0 := aM_ (hi)
    (try clear hb)
    (try clear hb2)
    (try clear hk)
    (try clear hi)
    refine hK.out _ _ ⟨(blk_cell BK458.out 0).trans rfl, (blk_cell BK458.out 1).trans rfl, (blk_cell BK458.out 2).trans rfl⟩ (fun hHeld => ?_)
    clear hK K
    refine nm_ 34 ?_
    refine pu_ 7 35 ?_
    refine on_ 8 36 fun K hK => ?_
    refine gS_ Try.func62 #[.int .i64 (wrap64 (((rd_T50 l1 x12_1).f0) + 1)), .int .i64 (wrap64 (((rd_T50 l1 x12_1).f1) - t475))] ?_
    with_reducible refine (spec_l1Most.calls (wrap64 (((rd_T50 l1 x12_1).f0) + 1)) (wrap64 (((rd_T50 l1 x12_1).f1) - t475)) t478 _ A55.out).mono ?_
    rintro e w' ⟨rfl, ⟨nd, rfl⟩⟩
    refine ⟨_, rfl, ?_⟩
    refine hK.out _ _ ⟨(blk_cell BK458.out 0).trans rfl, (blk_cell BK458.out 1).trans rfl, (blk_cell BK458.out 2).trans rfl⟩ (fun hHeld => ?_)
    clear hK K
    refine nm_ 36 ?_
    refine pu_ 9 37 ?_
    refine last_ (i := 10) (N := none) (bz_ 11 0x7ff) rfl rfl (one_of HT_.out (by kernel_rfl)) (by decide) (fun K hK => ?_)
    have hs60 : w59.cell? ⟨gb458, 1, none⟩ = some (.int .i64 ((rd_T50 l1 x12_1).f1)) := (blk_cell BK458.out 1).trans rfl
    have hfs60 := blk_frozen BK458.out 1
    refine skip_ (w1 := ?_) (by rfl) rfl ?_ ?_
    rotate_left
    ·go_simp
     rfl
    refine hK.out _ _ ?_
    clear hK K
    refine dn_ ?_
    obtain ⟨Ao61, co61, eo61⟩ := Kd.R_slice HO_5.out
    subst eo61
    try go_wp2
    have n0_ : Aside0 (Kd.R k50 50 (w59.setCell ⟨gb458, 1, none⟩ (.int .i64 t478)) w.heap.size (fun k_ => k_ ≠ gb458) (.slice Ao61 x5_1.length co61) x5_1) := ⟨z12_12_⟩
    have n1_ : Aside0 ((w59.setCell ⟨gb458, 1, none⟩ (.int .i64 t478)).heap[gb458]? = some (.cells #[.int .i64 ((rd_T50 l1 x12_1).f0), .int .i64 t478, .string ((rd_T50 l1 x12_1).f2)] 50 (0, 0))) := ⟨z12_13_⟩
    have n2_ : Aside0 (IsS62 w0 (w59.setCell ⟨gb458, 1, none⟩ (.int .i64 t478)) g s0_0 t476 t477) := ⟨z12_5_⟩
    have n3_ : Aside0 (KeepBut w (w59.setCell ⟨gb458, 1, none⟩ (.int .i64 t478)) g none) := ⟨z12_8_⟩
    have n4_ : Aside0 (Below w0.heap.size w0 (w59.setCell ⟨gb458, 1, none⟩ (.int .i64 t478))) := ⟨z12_6_⟩
    (try clear HO_5)
    (try clear BK458)
    (try clear HI0)
    (try clear HK)
    (try clear HB)
    repeat rw [sd_]
    generalize (w59.setCell ⟨gb458, 1, none⟩ (.int .i64 t478)) = w62 at n0_ n1_ n2_ n3_ n4_ ⊢
    have HO_5 := n0_
    have BK458 := n1_
    have HI0 := n2_
    have HK := n3_
    have HB := n4_
    clear n0_ n1_ n2_ n3_ n4_
    (try (rw [drewN_self w62]; generalize hq_ : World.drewN w62 _ = w62; have n0_ : Aside0 (Kd.R k50 50 w62 w.heap.size (fun k_ => k_ ≠ gb458) (.slice Ao61 x5_1.length co61) x5_1) := ⟨(by rw [← hq_]; exact (rR_ HO_5))⟩; have n1_ : Aside0 (w62.heap[gb458]? = some (.cells #[.int .i64 ((rd_T50 l1 x12_1).f0), .int .i64 t478, .string ((rd_T50 l1 x12_1).f2)] 50 (0, 0))) := ⟨(by rw [← hq_]; exact (kR_ BK458))⟩; have n2_ : Aside0 (IsS62 w0 w62 g s0_0 t476 t477) := ⟨z12_14_⟩; have n3_ : Aside0 (KeepBut w w62 g none) := ⟨z12_15_⟩; have n4_ : Aside0 (Below w0.heap.size w0 w62) := ⟨z12_16_⟩; clear HO_5 BK458 HI0 HK HB hq_; have HO_5 := n0_; have BK458 := n1_; have HI0 := n2_; have HK := n3_; have HB := n4_; clear n0_ n1_ n2_ n3_ n4_))
    replace HO_5 := aM_ (Kd.R_drew HO_5.out)
    replace BK458 := aM_ (blk_drew BK458.out)
    replace HI0 := aM_ (IsS62.drew HI0.out)
    replace HK := aM_ (keep_drew HK.out)
    replace HB := aM_ (below_drew1 HB.out)
    refine st_ 13 (fun w' => True) [] spec_l1Cur_changed.tab12 spec_l1Cur_changed.bits12 trivial fun hHeld HT_ HW_ => ?_
    generalize w62.drew = w63 at HO_5 BK458 HI0 HK HB hHeld ⊢
    refine pu_ 0 40 ?_
    refine pu_ 1 41 ?_
    refine pu_ 2 42 ?_
    refine pv_ 3 43 ?_
    refine pv_ 4 44 ?_
    refine pv_ 5 45 ?_
    refine pv_ 6 46 ?_
    refine pv_ 7 47 ?_
    refine pv_ 8 48 ?_
    refine pv_ 9 49 ?_
    refine pv_ 10 50 ?_
    refine pv_ 11 51 ?_
    refine pu_ 12 52 ?_
    refine dn_ ?_
    have hnb64 := NB458_0.out
    have hnc64 := NB0_458.out
    have hz65 := cf3_ BK458.out
    try go_wp2_with (first | ((with_reducible refine gate_builtin (b := .append) (xs := #[.tmp 53, .tmp 55]) rfl ?_); at_builtin; refine Kd.R_append k50 w.heap.size rfl (.tmp 53) (.tmp 55) 23 50 (.agg #[(.int .i64 0), (.int .i64 0), (.string ⟨#[]⟩)]) 32 rfl Try.underlying23 info50 rfl (by decide) (by omega) (.slice Ao61 x5_1.length co61) x5_1 (⟨(rd_T50 l1 x12_1).f0, t478, (rd_T50 l1 x12_1).f2⟩ : S50) [.int .i64 ((rd_T50 l1 x12_1).f0), .int .i64 t478, .string ((rd_T50 l1 x12_1).f2)] (fun k_ => k_ ≠ gb458) (fun _ => False) rfl rfl ?aP (fun _ hk => hk.elim) ?aF ?aO (Below.refl _ _) ?aS ?aL ?_; (case aP => exact k50_mkM _ _ _ (⟨(rd_T50 l1 x12_1).f0, t478, (rd_T50 l1 x12_1).f2⟩ : S50)); (case aF => exact (fun k_ hk => Kd.freshB (g := gb458) kP_ k_ hk)); (case aO => exact (rR_ HO_5)); (case aS => exact (keep_size (w := w) (g := g) (row := none) z12_8_)); (case aL => have := LMc57.out; omega); intro v480 w66 ho hb hg hat; rw [← Ny479.out] at ho; have HO481 := aM_ (ho); replace BK458 := aM_ (blk_grown (g := gb458) (kR_ BK458) hg (Kd.R_away HO_5.out (fun _ hk => hk))); replace HB := aM_ (below_weaken z12_6_ HL.out hb); replace HI0 := aM_ (IsS62.grown z12_5_ hg (IsS62.own_ne HI0.out HO_5.out (by decide))); replace HK := aM_ (KeepBut.trans z12_8_ (KeepBut.of_grown hg g) (Kd.R_base2 HO_5.out)); clear HO_5; clear ho hb hg hat))
    go_roundg k1
    case measure => have := HK1.out; omega
    case rel => exact ⟨(y479), (wrap64 (x12_1 + 1)), (t476), (t477), z12_0_, H', ⟨z12_9_⟩, ⟨rT1_ HO481⟩, ⟨z12_5_⟩, ⟨z12_8_⟩, ⟨z12_6_⟩⟩
   rw [if_neg c56] at H
   have c56b0 : ((x5_1.length : Int) == 0) = false := beq_eq_false_iff_ne.mpr c56
   have c56b1 : ((x5_1.length : Int) != 0) = true := bne_iff_ne.mpr c56
   have c56b2 : ¬ (x5_1 = []) := fun h_ => c56 (by rw [h_]; rfl)
   obtain ⟨ji67, hji67⟩ : ∃ j_ : Int, (wrap64 ((x5_1.length : Int) - 1)) = j_ := ⟨_, rfl⟩
   replace H : (if 0 ≤ (ji67) then (if (ji67) < (x5_1.length : Int) then (if ((rd_T50 x5_1 (ji67)).f1) ≤ ((rd_T50 l1 x12_1).f0) then (if x5_1.length < 4398046511104 then (spec_l1Cur_changed.l0 k1 (x5_1 ++ [(⟨(rd_T50 l1 x12_1).f0, t478, (rd_T50 l1 x12_1).f2⟩ : S50)]) l1 (l1.length : Int) (wrap64 (x12_1 + 1)) s0_0 t476 t477) else (none)) else (spec_l1Cur_changed.l0 k1 x5_1 l1 (l1.length : Int) (wrap64 (x12_1 + 1)) s0_0 t476 t477)) else (none)) else (none)) = some (r1, r2, r3) := by first | (rw [hji67] at H; exact H) | (simp only [hji67] at H ⊢; exact H)
   (try rw [hji67] at A54)
   (try rw [hji67] at A55)
   have hji67w : (IntKind.i64.wrap ((x5_1.length : Int) - 1)) = ji67 := (i64_w _).trans hji67
   replace H := ig_ H; obtain ⟨c68b0, H⟩ := H
   replace H := ig_ H; obtain ⟨c69b0, H⟩ := H
   replace H := iF_ H; obtain ⟨c70b0, H⟩ | ⟨c70b0, H⟩ := H
   ·have H' := Aside0.mk H
    clear H
    try go_wp2
    replace HO_5 := aM_ (Kd.R_drew HO_5.out)
    replace BK458 := aM_ (blk_drew BK458.out)
    replace HI0 := aM_ (IsS62.drew HI0.out)
    replace HK := aM_ (keep_drew HK.out)
    replace HB := aM_ (below_drew1 HB.out)
    refine st_ 11 (fun w' => w'.cell? ⟨gb458, 0, none⟩ = some (.int .i64 ((rd_T50 l1 x12_1).f0)) ∧ w'.cell? ⟨gb458, 1, none⟩ = some (.int .i64 ((rd_T50 l1 x12_1).f1)) ∧ w'.cell? ⟨gb458, 2, none⟩ = some (.string ((rd_T50 l1 x12_1).f2))) [10] spec_l1Cur_changed.tab10 spec_l1Cur_changed.bits10 ⟨(blk_cell BK458.out 0).trans rfl, (blk_cell BK458.out 1).trans rfl, (blk_cell BK458.out 2).trans rfl⟩ fun hHeld HT_ HW_ => ?_
    generalize w11.drew = w81 at HO_5 BK458 HI0 HK HB hHeld ⊢
    refine pu_ 0 28 ?_
    refine pu_ 3 31 ?_
    refine pu_ 5 33 ?_
    refine tk_ 1 29 ?_
    refine pu_ 2 30 ?_
    refine tk_ 4 32 ?_
    refine on_ 6 34 fun K hK => ?_
    refine gS_ Try.func58 #[.pointer (some ⟨g, 0, none⟩), .int .i64 3] ?_
    with_reducible refine (spec_l1Cur_pick.calls g s0_0 t460 t461 3 t475 t476 t477 w0 _ ?side1 ?side2 A54.out).mono ?_
    (case side1 => repeat (first | (with_reducible first | exact HI0.out | apply IsS62.alloc | apply IsS62.drewN | apply IsS62.drew | apply IsS62.set_1 | apply IsS62.set_2 | refine IsS62.far ?_ (Aside0.out z12_7_) _) | exact HI0.out))
    (case side2 => repeat (first | (with_reducible first | exact HB.out | apply lA_ | apply lN_ | apply lD_ | refine below_set ?_ (IsS62.ge HI0.out) | refine below_set ?_ GE458.out) | exact HB.out))
    rintro e w82 ⟨rfl, hi, hb, hk⟩
    refine ⟨_, rfl, ?_⟩
    replace HO_5 := aM_ (Kd.R_mono (Kd.R_keep (IsS62.apart (show IsS62 w0 _ g s0_0 t460 t461 from by repeat (first | (with_reducible first | exact HI0.out | apply IsS62.alloc | apply IsS62.drewN | apply IsS62.drew | apply IsS62.set_1 | apply IsS62.set_2 | refine IsS62.far ?_ (Aside0.out z12_7_) _) | exact HI0.out)) (rR_ HO_5) (by decide)) hk (fun _ h => h.2)) (fun _ h => h.1))
    replace BK458 := aM_ (KeepBut.blk hk (g' := gb458) (o := .cells #[.int .i64 ((rd_T50 l1 x12_1).f0), .int .i64 ((rd_T50 l1 x12_1).f1), .string ((rd_T50 l1 x12_1).f2)] 50 (0, 0)) (kR_ BK458) NB458_0.out (by simp))
    replace HK := aM_ (KeepBut.trans z12_8_ hk (.inl rfl))
    replace HB := aM_ (hb)
    replace HI0 := aM_ (hi)
    (try clear hb)
    (try clear hb2)
    (try clear hk)
    (try clear hi)
    refine hK.out _ _ ⟨(blk_cell BK458.out 0).trans rfl, (blk_cell BK458.out 1).trans rfl, (blk_cell BK458.out 2).trans rfl⟩ (fun hHeld => ?_)
    clear hK K
    refine nm_ 34 ?_
    refine pu_ 7 35 ?_
    refine on_ 8 36 fun K hK => ?_
    refine gS_ Try.func62 #[.int .i64 (wrap64 (((rd_T50 l1 x12_1).f0) + 1)), .int .i64 (wrap64 (((rd_T50 l1 x12_1).f1) - t475))] ?_
    with_reducible refine (spec_l1Most.calls (wrap64 (((rd_T50 l1 x12_1).f0) + 1)) (wrap64 (((rd_T50 l1 x12_1).f1) - t475)) t478 _ A55.out).mono ?_
    rintro e w' ⟨rfl, ⟨nd, rfl⟩⟩
    refine ⟨_, rfl, ?_⟩
    refine hK.out _ _ ⟨(blk_cell BK458.out 0).trans rfl, (blk_cell BK458.out 1).trans rfl, (blk_cell BK458.out 2).trans rfl⟩ (fun hHeld => ?_)
    clear hK K
    refine nm_ 36 ?_
    refine pu_ 9 37 ?_
    refine last_ (i := 10) (N := none) (bz_ 11 0x7ff) rfl rfl (one_of HT_.out (by kernel_rfl)) (by decide) (fun K hK => ?_)
    have hs83 : w82.cell? ⟨gb458, 1, none⟩ = some (.int .i64 ((rd_T50 l1 x12_1).f1)) := (blk_cell BK458.out 1).trans rfl
    have hfs83 := blk_frozen BK458.out 1
    refine skip_ (w1 := ?_) (by rfl) rfl ?_ ?_
    rotate_left
    ·go_simp
     rfl
    refine hK.out _ _ ?_
    clear hK K
    refine dn_ ?_
    obtain ⟨Ao84, co84, eo84⟩ := Kd.R_slice HO_5.out
    subst eo84
    try go_wp2
    have n0_ : Aside0 (Kd.R k50 50 (w82.setCell ⟨gb458, 1, none⟩ (.int .i64 t478)) w.heap.size (fun k_ => k_ ≠ gb458) (.slice Ao84 x5_1.length co84) x5_1) := ⟨z12_12_⟩
    have n1_ : Aside0 ((w82.setCell ⟨gb458, 1, none⟩ (.int .i64 t478)).heap[gb458]? = some (.cells #[.int .i64 ((rd_T50 l1 x12_1).f0), .int .i64 t478, .string ((rd_T50 l1 x12_1).f2)] 50 (0, 0))) := ⟨z12_13_⟩
    have n2_ : Aside0 (IsS62 w0 (w82.setCell ⟨gb458, 1, none⟩ (.int .i64 t478)) g s0_0 t476 t477) := ⟨z12_5_⟩
    have n3_ : Aside0 (KeepBut w (w82.setCell ⟨gb458, 1, none⟩ (.int .i64 t478)) g none) := ⟨z12_8_⟩
    have n4_ : Aside0 (Below w0.heap.size w0 (w82.setCell ⟨gb458, 1, none⟩ (.int .i64 t478))) := ⟨z12_6_⟩
    (try clear HO_5)
    (try clear BK458)
    (try clear HI0)
    (try clear HK)
    (try clear HB)
    repeat rw [sd_]
    generalize (w82.setCell ⟨gb458, 1, none⟩ (.int .i64 t478)) = w85 at n0_ n1_ n2_ n3_ n4_ ⊢
    have HO_5 := n0_
    have BK458 := n1_
    have HI0 := n2_
    have HK := n3_
    have HB := n4_
    clear n0_ n1_ n2_ n3_ n4_
    (try (rw [drewN_self w85]; generalize hq_ : World.drewN w85 _ = w85; have n0_ : Aside0 (Kd.R k50 50 w85 w.heap.size (fun k_ => k_ ≠ gb458) (.slice Ao84 x5_1.length co84) x5_1) := ⟨(by rw [← hq_]; exact (rR_ HO_5))⟩; have n1_ : Aside0 (w85.heap[gb458]? = some (.cells #[.int .i64 ((rd_T50 l1 x12_1).f0), .int .i64 t478, .string ((rd_T50 l1 x12_1).f2)] 50 (0, 0))) := ⟨(by rw [← hq_]; exact (kR_ BK458))⟩; have n2_ : Aside0 (IsS62 w0 w85 g s0_0 t476 t477) := ⟨z12_14_⟩; have n3_ : Aside0 (KeepBut w w85 g none) := ⟨z12_15_⟩; have n4_ : Aside0 (Below w0.heap.size w0 w85) := ⟨z12_16_⟩; clear HO_5 BK458 HI0 HK HB hq_; have HO_5 := n0_; have BK458 := n1_; have HI0 := n2_; have HK := n3_; have HB := n4_; clear n0_ n1_ n2_ n3_ n4_))
    replace HO_5 := aM_ (Kd.R_drew HO_5.out)
    replace BK458 := aM_ (blk_drew BK458.out)
    replace HI0 := aM_ (IsS62.drew HI0.out)
    replace HK := aM_ (keep_drew HK.out)
    replace HB := aM_ (below_drew1 HB.out)
    obtain ⟨⟨ad482, e482, hx482_0, hx482_1, hx482_2⟩, p482, q482⟩ := at2_ (at_T50 (Kd.R_reads' HO_5.out).2.2 (ji67)); cases e482
    refine st_ 13 (fun w' => w'.cell? ⟨gb458, 0, none⟩ = some (.int .i64 ((rd_T50 l1 x12_1).f0)) ∧ w'.cell? ⟨gb458, 1, none⟩ = some (.int .i64 t478) ∧ w'.cell? ⟨gb458, 2, none⟩ = some (.string ((rd_T50 l1 x12_1).f2)) ∧ w'.cell? (ad482.add (((ji67)).toNat * 3)) = some (.int .i64 ((rd_T50 x5_1 (ji67)).f0)) ∧ w'.cell? ⟨(ad482.add (((ji67)).toNat * 3)).block, (ad482.add (((ji67)).toNat * 3)).off + 1, none⟩ = some (.int .i64 ((rd_T50 x5_1 (ji67)).f1)) ∧ w'.cell? ⟨(ad482.add (((ji67)).toNat * 3)).block, (ad482.add (((ji67)).toNat * 3)).off + 2, none⟩ = some (.string ((rd_T50 x5_1 (ji67)).f2))) [] spec_l1Cur_changed.tab12 spec_l1Cur_changed.bits12 ⟨(blk_cell BK458.out 0).trans rfl, (blk_cell BK458.out 1).trans rfl, (blk_cell BK458.out 2).trans rfl, hx482_0, hx482_1, hx482_2⟩ fun hHeld HT_ HW_ => ?_
    generalize w85.drew = w86 at HO_5 BK458 HI0 HK HB hx482_0 hx482_1 hx482_2 hHeld ⊢
    refine pu_ 0 40 ?_
    refine pu_ 1 41 ?_
    refine pu_ 2 42 ?_
    refine pu_ 3 43 ?_
    refine pu_ 4 44 ?_
    refine pu_ 5 45 ?_
    refine pu_ 6 46 ?_
    refine pu_ 7 47 ?_
    refine pu_ 9 49 ?_
    refine tk_ 8 48 ?_
    refine tk_ 10 50 ?_
    refine pu_ 11 51 ?_
    refine pu_ 12 52 ?_
    refine dn_ ?_
    try go_wp2
    go_roundg k1
    case measure => have := HK1.out; omega
    case rel => exact ⟨(x5_1), (wrap64 (x12_1 + 1)), (t476), (t477), z12_0_, H', ⟨z12_9_⟩, ⟨(rT1_ HO_5)⟩, ⟨z12_5_⟩, ⟨z12_8_⟩, ⟨z12_6_⟩⟩
   replace H := il_ H; obtain ⟨LMc71, H⟩ := H
   obtain ⟨y483, hy483⟩ : ∃ y_ : List (S50), y_ = (x5_1 ++ [(⟨(rd_T50 l1 x12_1).f0, t478, (rd_T50 l1 x12_1).f2⟩ : S50)]) := ⟨_, rfl⟩
   rw [← hy483] at H
   have Ny483 := Aside0.mk hy483; clear hy483
   have H' := Aside0.mk H
   clear H
   try go_wp2
   replace HO_5 := aM_ (Kd.R_drew HO_5.out)
   replace BK458 := aM_ (blk_drew BK458.out)
   replace HI0 := aM_ (IsS62.drew HI0.out)
   replace HK := aM_ (keep_drew HK.out)
   replace HB := aM_ (below_drew1 HB.out)
   refine st_ 11 (fun w' => w'.cell? ⟨gb458, 0, none⟩ = some (.int .i64 ((rd_T50 l1 x12_1).f0)) ∧ w'.cell? ⟨gb458, 1, none⟩ = some (.int .i64 ((rd_T50 l1 x12_1).f1)) ∧ w'.cell? ⟨gb458, 2, none⟩ = some (.string ((rd_T50 l1 x12_1).f2))) [10] spec_l1Cur_changed.tab10 spec_l1Cur_changed.bits10 ⟨(blk_cell BK458.out 0).trans rfl, (blk_cell BK458.out 1).trans rfl, (blk_cell BK458.out 2).trans rfl⟩ fun hHeld HT_ HW_ => ?_
   generalize w11.drew = w72 at HO_5 BK458 HI0 HK HB hHeld ⊢
   refine pu_ 0 28 ?_
   refine pu_ 3 31 ?_
   refine pu_ 5 33 ?_
   refine tk_ 1 29 ?_
   refine pu_ 2 30 ?_
   refine tk_ 4 32 ?_
   refine on_ 6 34 fun K hK => ?_
   refine gS_ Try.func58 #[.pointer (some ⟨g, 0, none⟩), .int .i64 3] ?_
   with_reducible refine (spec_l1Cur_pick.calls g s0_0 t460 t461 3 t475 t476 t477 w0 _ ?side1 ?side2 A54.out).mono ?_
   (case side1 => repeat (first | (with_reducible first | exact HI0.out | apply IsS62.alloc | apply IsS62.drewN | apply IsS62.drew | apply IsS62.set_1 | apply IsS62.set_2 | refine IsS62.far ?_ (Aside0.out z12_7_) _) | exact HI0.out))
   (case side2 => repeat (first | (with_reducible first | exact HB.out | apply lA_ | apply lN_ | apply lD_ | refine below_set ?_ (IsS62.ge HI0.out) | refine below_set ?_ GE458.out) | exact HB.out))
   rintro e w73 ⟨rfl, hi, hb, hk⟩
   refine ⟨_, rfl, ?_⟩
   replace HO_5 := aM_ (Kd.R_mono (Kd.R_keep (IsS62.apart (show IsS62 w0 _ g s0_0 t460 t461 from by repeat (first | (with_reducible first | exact HI0.out | apply IsS62.alloc | apply IsS62.drewN | apply IsS62.drew | apply IsS62.set_1 | apply IsS62.set_2 | refine IsS62.far ?_ (Aside0.out z12_7_) _) | exact HI0.out)) (rR_ HO_5) (by decide)) hk (fun _ h => h.2)) (fun _ h => h.1))
   replace BK458 := aM_ (KeepBut.blk hk (g' := gb458) (o := .cells #[.int .i64 ((rd_T50 l1 x12_1).f0), .int .i64 ((rd_T50 l1 x12_1).f1), .string ((rd_T50 l1 x12_1).f2)] 50 (0, 0)) (kR_ BK458) NB458_0.out (by simp))
   replace HK := aM_ (KeepBut.trans z12_8_ hk (.inl rfl))
   replace HB := aM_ (hb)
   replace HI0 := aM_ (hi)
   (try clear hb)
   (try clear hb2)
   (try clear hk)
   (try clear hi)
   refine hK.out _ _ ⟨(blk_cell BK458.out 0).trans rfl, (blk_cell BK458.out 1).trans rfl, (blk_cell BK458.out 2).trans rfl⟩ (fun hHeld => ?_)
   clear hK K
   refine nm_ 34 ?_
   refine pu_ 7 35 ?_
   refine on_ 8 36 fun K hK => ?_
   refine gS_ Try.func62 #[.int .i64 (wrap64 (((rd_T50 l1 x12_1).f0) + 1)), .int .i64 (wrap64 (((rd_T50 l1 x12_1).f1) - t475))] ?_
   with_reducible refine (spec_l1Most.calls (wrap64 (((rd_T50 l1 x12_1).f0) + 1)) (wrap64 (((rd_T50 l1 x12_1).f1) - t475)) t478 _ A55.out).mono ?_
   rintro e w' ⟨rfl, ⟨nd, rfl⟩⟩
   refine ⟨_, rfl, ?_⟩
   refine hK.out _ _ ⟨(blk_cell BK458.out 0).trans rfl, (blk_cell BK458.out 1).trans rfl, (blk_cell BK458.out 2).trans rfl⟩ (fun hHeld => ?_)
   clear hK K
   refine nm_ 36 ?_
   refine pu_ 9 37 ?_
   refine last_ (i := 10) (N := none) (bz_ 11 0x7ff) rfl rfl (one_of HT_.out (by kernel_rfl)) (by decide) (fun K hK => ?_)
   have hs74 : w73.cell? ⟨gb458, 1, none⟩ = some (.int .i64 ((rd_T50 l1 x12_1).f1)) := (blk_cell BK458.out 1).trans rfl
   have hfs74 := blk_frozen BK458.out 1
   refine skip_ (w1 := ?_) (by rfl) rfl ?_ ?_
   rotate_left
   ·go_simp
    rfl
   refine hK.out _ _ ?_
   clear hK K
   refine dn_ ?_
   obtain ⟨Ao75, co75, eo75⟩ := Kd.R_slice HO_5.out
   subst eo75
   try go_wp2
   have n0_ : Aside0 (Kd.R k50 50 (w73.setCell ⟨gb458, 1, none⟩ (.int .i64 t478)) w.heap.size (fun k_ => k_ ≠ gb458) (.slice Ao75 x5_1.length co75) x5_1) := ⟨z12_12_⟩
   have n1_ : Aside0 ((w73.setCell ⟨gb458, 1, none⟩ (.int .i64 t478)).heap[gb458]? = some (.cells #[.int .i64 ((rd_T50 l1 x12_1).f0), .int .i64 t478, .string ((rd_T50 l1 x12_1).f2)] 50 (0, 0))) := ⟨z12_13_⟩
   have n2_ : Aside0 (IsS62 w0 (w73.setCell ⟨gb458, 1, none⟩ (.int .i64 t478)) g s0_0 t476 t477) := ⟨z12_5_⟩
   have n3_ : Aside0 (KeepBut w (w73.setCell ⟨gb458, 1, none⟩ (.int .i64 t478)) g none) := ⟨z12_8_⟩
   have n4_ : Aside0 (Below w0.heap.size w0 (w73.setCell ⟨gb458, 1, none⟩ (.int .i64 t478))) := ⟨z12_6_⟩
   (try clear HO_5)
   (try clear BK458)
   (try clear HI0)
   (try clear HK)
   (try clear HB)
   repeat rw [sd_]
   generalize (w73.setCell ⟨gb458, 1, none⟩ (.int .i64 t478)) = w76 at n0_ n1_ n2_ n3_ n4_ ⊢
   have HO_5 := n0_
   have BK458 := n1_
   have HI0 := n2_
   have HK := n3_
   have HB := n4_
   clear n0_ n1_ n2_ n3_ n4_
   (try (rw [drewN_self w76]; generalize hq_ : World.drewN w76 _ = w76; have n0_ : Aside0 (Kd.R k50 50 w76 w.heap.size (fun k_ => k_ ≠ gb458) (.slice Ao75 x5_1.length co75) x5_1) := ⟨(by rw [← hq_]; exact (rR_ HO_5))⟩; have n1_ : Aside0 (w76.heap[gb458]? = some (.cells #[.int .i64 ((rd_T50 l1 x12_1).f0), .int .i64 t478, .string ((rd_T50 l1 x12_1).f2)] 50 (0, 0))) := ⟨(by rw [← hq_]; exact (kR_ BK458))⟩; have n2_ : Aside0 (IsS62 w0 w76 g s0_0 t476 t477) := ⟨z12_14_⟩; have n3_ : Aside0 (KeepBut w w76 g none) := ⟨z12_15_⟩; have n4_ : Aside0 (Below w0.heap.size w0 w76) := ⟨z12_16_⟩; clear HO_5 BK458 HI0 HK HB hq_; have HO_5 := n0_; have BK458 := n1_; have HI0 := n2_; have HK := n3_; have HB := n4_; clear n0_ n1_ n2_ n3_ n4_))
   replace HO_5 := aM_ (Kd.R_drew HO_5.out)
   replace BK458 := aM_ (blk_drew BK458.out)
   replace HI0 := aM_ (IsS62.drew HI0.out)
   replace HK := aM_ (keep_drew HK.out)
   replace HB := aM_ (below_drew1 HB.out)
   obtain ⟨⟨ad482, e482, hx482_0, hx482_1, hx482_2⟩, p482, q482⟩ := at2_ (at_T50 (Kd.R_reads' HO_5.out).2.2 (ji67)); cases e482
   refine st_ 13 (fun w' => w'.cell? ⟨gb458, 0, none⟩ = some (.int .i64 ((rd_T50 l1 x12_1).f0)) ∧ w'.cell? ⟨gb458, 1, none⟩ = some (.int .i64 t478) ∧ w'.cell? ⟨gb458, 2, none⟩ = some (.string ((rd_T50 l1 x12_1).f2)) ∧ w'.cell? (ad482.add (((ji67)).toNat * 3)) = some (.int .i64 ((rd_T50 x5_1 (ji67)).f0)) ∧ w'.cell? ⟨(ad482.add (((ji67)).toNat * 3)).block, (ad482.add (((ji67)).toNat * 3)).off + 1, none⟩ = some (.int .i64 ((rd_T50 x5_1 (ji67)).f1)) ∧ w'.cell? ⟨(ad482.add (((ji67)).toNat * 3)).block, (ad482.add (((ji67)).toNat * 3)).off + 2, none⟩ = some (.string ((rd_T50 x5_1 (ji67)).f2))) [] spec_l1Cur_changed.tab12 spec_l1Cur_changed.bits12 ⟨(blk_cell BK458.out 0).trans rfl, (blk_cell BK458.out 1).trans rfl, (blk_cell BK458.out 2).trans rfl, hx482_0, hx482_1, hx482_2⟩ fun hHeld HT_ HW_ => ?_
   generalize w76.drew = w77 at HO_5 BK458 HI0 HK HB hx482_0 hx482_1 hx482_2 hHeld ⊢
   refine pu_ 0 40 ?_
   refine pu_ 1 41 ?_
   refine pu_ 2 42 ?_
   refine pu_ 3 43 ?_
   refine pu_ 4 44 ?_
   refine pu_ 5 45 ?_
   refine pu_ 6 46 ?_
   refine pu_ 7 47 ?_
   refine pu_ 9 49 ?_
   refine tk_ 8 48 ?_
   refine tk_ 10 50 ?_
   refine pu_ 11 51 ?_
   refine pu_ 12 52 ?_
   refine dn_ ?_
   have hnb78 := NB458_0.out
   have hnc78 := NB0_458.out
   have hz79 := cf3_ BK458.out
   try go_wp2_with (first | ((with_reducible refine gate_builtin (b := .append) (xs := #[.tmp 53, .tmp 55]) rfl ?_); at_builtin; refine Kd.R_append k50 w.heap.size rfl (.tmp 53) (.tmp 55) 23 50 (.agg #[(.int .i64 0), (.int .i64 0), (.string ⟨#[]⟩)]) 32 rfl Try.underlying23 info50 rfl (by decide) (by omega) (.slice (some ad482) x5_1.length co75) x5_1 (⟨(rd_T50 l1 x12_1).f0, t478, (rd_T50 l1 x12_1).f2⟩ : S50) [.int .i64 ((rd_T50 l1 x12_1).f0), .int .i64 t478, .string ((rd_T50 l1 x12_1).f2)] (fun k_ => k_ ≠ gb458) (fun _ => False) rfl rfl ?aP (fun _ hk => hk.elim) ?aF ?aO (Below.refl _ _) ?aS ?aL ?_; (case aP => exact k50_mkM _ _ _ (⟨(rd_T50 l1 x12_1).f0, t478, (rd_T50 l1 x12_1).f2⟩ : S50)); (case aF => exact (fun k_ hk => Kd.freshB (g := gb458) kP_ k_ hk)); (case aO => exact (rR_ HO_5)); (case aS => exact (keep_size (w := w) (g := g) (row := none) z12_8_)); (case aL => have := LMc71.out; omega); intro v484 w80 ho hb hg hat; rw [← Ny483.out] at ho; have HO485 := aM_ (ho); replace BK458 := aM_ (blk_grown (g := gb458) (kR_ BK458) hg (Kd.R_away HO_5.out (fun _ hk => hk))); replace HB := aM_ (below_weaken z12_6_ HL.out hb); replace HI0 := aM_ (IsS62.grown z12_5_ hg (IsS62.own_ne HI0.out HO_5.out (by decide))); replace HK := aM_ (KeepBut.trans z12_8_ (KeepBut.of_grown hg g) (Kd.R_base2 HO_5.out)); clear HO_5; clear ho hb hg hat))
   go_roundg k1
   case measure => have := HK1.out; omega
   case rel => exact ⟨(y483), (wrap64 (x12_1 + 1)), (t476), (t477), z12_0_, H', ⟨z12_9_⟩, ⟨rT1_ HO485⟩, ⟨z12_5_⟩, ⟨z12_8_⟩, ⟨z12_6_⟩⟩

end Go.Proofs.Ytbfkpgmdbafmhaa.PFnTierCounts
