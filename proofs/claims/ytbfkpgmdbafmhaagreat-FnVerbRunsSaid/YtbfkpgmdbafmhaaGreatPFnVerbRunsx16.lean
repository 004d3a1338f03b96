/- Printed for this claim: functions of the program as Lean functions, and that the calls answer so. -/
import Derived.Test.YtbfkpgmdbafmhaaGreatPFnVerbRunsx0
import Derived.Test.YtbfkpgmdbafmhaaGreatPFnVerbRunsx8
import Derived.Test.YtbfkpgmdbafmhaaGreatPFnVerbRunsx10
import Derived.Test.YtbfkpgmdbafmhaaGreatPFnVerbRunsx15
import Derived.Test.YtbfkpgmdbafmhaaGreatPFnVerbRunsxD0
import Derived.Test.YtbfkpgmdbafmhaaGreatPFnVerbRunsxD1
namespace Go.Proofs.YtbfkpgmdbafmhaaGreat.PFnVerbRuns
open Go.RowKit Go.Proofs.YtbfkpgmdbafmhaaGreatW.PrintWords Go.Proofs.YtbfkpgmdbafmhaaGreatW.PrintLast Go.Proofs.YtbfkpgmdbafmhaaGreatW.PrintMore
attribute [local go_sem] max2_int min2_int max_two min_two max_three min_three max_four min_four isSome_setCell   -- for this text's walks alone
set_option linter.unusedVariables false
set_option linter.unusedSimpArgs false

theorem z16_0_ {p : Prop} (h : p := by first | rfl | (simp; done) | (simp [*]; done)) : p := h
theorem z16_1_ {p : Prop} (h : p := by repeat (first | exact (Kd.C_below HR1.out HB.out) | (with_reducible first | apply cA_ | apply cN_ | apply cD_))) : p := h
theorem z16_2_ {p : Prop} (h : p := by repeat (first | exact (Kd.C_below HR0.out HB.out) | (with_reducible first | apply cA_ | apply cN_ | apply cD_))) : p := h
theorem z16_3_ {p : Prop} (h : p := by first | (simp only [putAll, Act.put, List.setIfInBounds_toArray, List.set_cons_zero, List.set_cons_succ]; done) | (simp only [putAll, Act.put, List.setIfInBounds_toArray, List.set_cons_zero, List.set_cons_succ]; rfl)) : p := h
theorem z16_4_ {p : Prop} (h : p := by have := World.block_lt_of_cell? _ _ hw603_0; first | rwa [add_block] at this | exact this) : p := h
theorem z16_5_ {p : Prop} (h : p := by have := World.block_lt_of_cell? _ _ hw603_1; first | rwa [add_block] at this | exact this) : p := h
theorem z16_6_ {p : Prop} (h : p := by have := World.block_lt_of_cell? _ _ hw605_0; first | rwa [add_block] at this | exact this) : p := h
theorem z16_7_ {p : Prop} (h : p := by have := World.block_lt_of_cell? _ _ hw605_1; first | rwa [add_block] at this | exact this) : p := h
def Faf.T3 : Bool × List (List Nat × List Nat) := (true, [([], []), ([], []), ([], []), ([1, 2], [1, 2]), ([0, 3], [0, 3]), ([4], [4]), ([5], [5]), ([], []), ([], []), ([], []), ([8, 9, 3], [8, 9]), ([7, 10], [7, 10]), ([11], [11]), ([12], [12]), ([], []), ([], []), ([14, 6, 10, 0, 1, 2, 3, 4, 5, 6, 14, 15], [6, 14]), ([15, 13, 16, 0, 1, 2, 3, 4, 5, 6, 7, 8, 9, 10, 11, 12, 13, 14, 15, 16], [13, 15])])
def Faf.B3 : List Nat := [0, 0, 0, 6, 15, 31, 63, 0, 0, 0, 782, 1934, 3982, 8078, 0, 0, 51071, 131071]
theorem Faf.tab3 : rtab .any (opsOf Tryz.f11 3) = Faf.T3 := by kernel_rfl
theorem Faf.bits3 : waitsOk Faf.T3.2 Faf.B3 = true := by kernel_rfl
def Faf.T9 : Bool × List (List Nat × List Nat) := (true, [([], []), ([], []), ([0, 1], [0, 1]), ([], []), ([], []), ([], []), ([4, 5], [4, 5]), ([6], [6]), ([3, 7, 2], [3, 7]), ([2, 8], [2, 8])])
def Faf.B9 : List Nat := [0, 0, 3, 0, 0, 0, 48, 112, 255, 511]
theorem Faf.tab9 : rtab .any (opsOf Tryz.f11 9) = Faf.T9 := by kernel_rfl
theorem Faf.bits9 : waitsOk Faf.T9.2 Faf.B9 = true := by kernel_rfl
set_option maxHeartbeats 8000000 in
set_option maxRecDepth 100000 in
theorem Faf.calls (k : Nat) (A0 : Option Addr) (c0 : Nat) (l0 : List S74) (A1 : Option Addr) (c1 : Nat) (l1 : List S40) (a2 a3 : ByteArray) (r1 r2 : Int) (r3 : Bool) (w : World) (hr0 : Kd.C k74 w A0 l0.length l0) (hc0 : l0.length ≤ c0) (hr1 : Kd.C k40 w A1 l1.length l1) (hc1 : l1.length ≤ c1) (h : Faf.f k l0 l1 a2 a3 = some (r1, r2, r3)) :
 Calls Tryz.prog 11 #[.slice A0 l0.length c0, .slice A1 l1.length c1, .string a2, .string a3] w fun e w' => e = .returned (.tuple #[.int .i64 r1, .int .i64 r2, .bool r3]) ∧ Below w.heap.size w w' := by
 have hu3 := Tryz.underlying3
 have hu40 := Tryz.underlying40
 have HR0 := aM_ hr0
 have HC0 := aM_ hc0
 clear hr0 hc0
 have HR1 := aM_ hr1
 have HC1 := aM_ hc1
 clear hr1 hc1
 have HB := aM_ (Below.refl w.heap.size w)
 have H : (if (l1.length : Int) = 0 then (Faf.j0 k l0 l1 a2 a3 true) else ((FaR.f k l1).bind fun t597 => (if t597 = true then ((FaL.f k l0 (([a2, a3] : List ByteArray))).bind fun t601 => (if t601 = true then (Faf.j0 k l0 l1 a2 a3 (a2.toList == a3.toList)) else (Faf.j0 k l0 l1 a2 a3 true))) else (Faf.j0 k l0 l1 a2 a3 true)))) = some (r1, r2, r3) := h
 clear h
 have HC5 := aM_ H
 clear H
 go_enter Tryz.func11, Tryz.ntmps11
 go_upto_region 1 with (fail)
 go_cut [37] (fun v37 wc => ∃ (kq : Nat) (x37_4 : Bool), v37 = .bool x37_4 ∧ Aside0 (Faf.j0 kq l0 l1 a2 a3 x37_4 = some (r1, r2, r3)) ∧ Aside0 (kq ≤ k) ∧ Aside0 (Below w.heap.size w wc))
 case first =>
  have H := HC5.out
  clear HC5
  by_cases c6 : (l1.length : Int) = 0
  ·rw [if_pos c6] at H
   have c6b0 : ((l1.length : Int) == 0) = true := beq_iff_eq.mpr c6
   have c6b1 : ((l1.length : Int) != 0) = false := bne_eq_false_iff_eq.mpr c6
   clear c6
   (first | rw [c6b0] | (simp only [i64_w, i32_w]; rw [c6b0]) | skip)
   have H' := aM_ H
   clear H
   go_wp2
   go_meet
   case rel => exact ⟨_, (true), z16_0_, H', ⟨oR_⟩, ⟨hB_⟩⟩
  rw [if_neg c6] at H
  have c6b0 : ((l1.length : Int) == 0) = false := beq_eq_false_iff_ne.mpr c6
  have c6b1 : ((l1.length : Int) != 0) = true := bne_iff_ne.mpr c6
  have c6b2 : ¬ (l1 = []) := fun h_ => c6 (by rw [h_]; rfl)
  (first | rw [c6b0] | (simp only [i64_w, i32_w]; rw [c6b0]) | skip)
  replace H := ob_ H; obtain ⟨t597, A7, H⟩ := H; try dsimp only at H
  by_cases c8 : t597 = true
  rotate_left
  ·replace c8 := Bool.eq_false_iff.mpr c8
   subst c8
   replace H := in_ H (show ¬ (false = true) by decide)
   have H' := aM_ H
   clear H
   go_wp2_with (first | (go_at_call 29; (with_reducible refine (FaR.calls k _ _ l1 false _ ?_ ?_ A7.out).mono ?_); exact z16_1_; exact HC1.out; rintro e w21 ⟨rfl, hb⟩; replace HB := bS_ hb; (try clear hb)))
   go_meet
   case rel => exact ⟨_, (true), z16_0_, H', ⟨oR_⟩, ⟨hB_⟩⟩
  subst c8
  replace H := ip_ H rfl
  obtain ⟨y598, hy598⟩ : ∃ y_ : List ByteArray, y_ = (([a2, a3] : List ByteArray)) := ⟨_, rfl⟩
  rw [← hy598] at H
  have Ny598 := aM_ hy598; clear hy598
  replace H := ob_ H; obtain ⟨t601, A9, H⟩ := H; try dsimp only at H
  by_cases c10 : t601 = true
  ·subst c10
   replace H := ip_ H rfl
   have H' := aM_ H
   clear H
   go_wp2_with (first | (go_at_call 29; (with_reducible refine (FaR.calls k _ _ l1 true _ ?_ ?_ A7.out).mono ?_); exact z16_1_; exact HC1.out; rintro e w11 ⟨rfl, hb⟩; replace HB := bS_ hb; (try clear hb); (try clear hk)) | ((with_reducible refine gD_ 29 ?_); (try (refine gate_guard (by rfl) ?_; dsimp only)); refine rl_ Kd.string 9 29 ([a2, a3] : List ByteArray) [.string a2, .string a3] (Reps.one (show Kd.M Kd.string _ _ _ a2 [.string a2] from rfl) (Reps.one (show Kd.M Kd.string _ _ _ a3 [.string a3] from rfl) (Reps.none _ _))) ?_; intro v599 w12 ho13 hb hg_ hnew_; clear hg_ hnew_; (first | rw [← Ny598.out] at ho13 | (simp only [Int.reduceToNat] at ho13; rw [← Ny598.out] at ho13)); have HO600 := aM_ (Kd.R_lower ho13 (below_size hB_)); replace HB := bS_ hb; clear hb ho13; obtain ⟨Ao14, co14, eo14⟩ := rS_ HO600; subst eo14) | (go_at_call 38; (with_reducible refine (FaL.calls k _ _ l0 _ _ y598 true _ ?_ ?_ ?_ ?_ A9.out).mono ?_); exact z16_2_; exact HC0.out; exact cR_ HO600; exact (Kd.R_reads' HO600.out).2.1; rintro e w15 ⟨rfl, hb⟩; replace HO600 := rB_ HO600 hb; replace HB := bS_ hb; (try clear hb); (try clear hk)))
   go_meet
   case rel => exact ⟨_, ((a2.toList == a3.toList)), z16_0_, H', ⟨oR_⟩, ⟨hB_⟩⟩
  replace c10 := Bool.eq_false_iff.mpr c10
  subst c10
  replace H := in_ H (show ¬ (false = true) by decide)
  have H' := aM_ H
  clear H
  go_wp2_with (first | (go_at_call 29; (with_reducible refine (FaR.calls k _ _ l1 true _ ?_ ?_ A7.out).mono ?_); exact z16_1_; exact HC1.out; rintro e w16 ⟨rfl, hb⟩; replace HB := bS_ hb; (try clear hb); (try clear hk)) | ((with_reducible refine gD_ 29 ?_); (try (refine gate_guard (by rfl) ?_; dsimp only)); refine rl_ Kd.string 9 29 ([a2, a3] : List ByteArray) [.string a2, .string a3] (Reps.one (show Kd.M Kd.string _ _ _ a2 [.string a2] from rfl) (Reps.one (show Kd.M Kd.string _ _ _ a3 [.string a3] from rfl) (Reps.none _ _))) ?_; intro v599 w17 ho18 hb hg_ hnew_; clear hg_ hnew_; (first | rw [← Ny598.out] at ho18 | (simp only [Int.reduceToNat] at ho18; rw [← Ny598.out] at ho18)); have HO600 := aM_ (Kd.R_lower ho18 (below_size hB_)); replace HB := bS_ hb; clear hb ho18; obtain ⟨Ao19, co19, eo19⟩ := rS_ HO600; subst eo19) | (go_at_call 38; (with_reducible refine (FaL.calls k _ _ l0 _ _ y598 false _ ?_ ?_ ?_ ?_ A9.out).mono ?_); exact z16_2_; exact HC0.out; exact cR_ HO600; exact (Kd.R_reads' HO600.out).2.1; rintro e w20 ⟨rfl, hb⟩; replace HO600 := rB_ HO600 hb; replace HB := bS_ hb; (try clear hb); (try clear hk)))
  go_meet
  case rel => exact ⟨_, (true), z16_0_, H', ⟨oR_⟩, ⟨hB_⟩⟩
 case rest =>
  clear HC5
  (try clear c1)
  obtain ⟨kq, x37_4, rfl, HA, HJ4, HB⟩ := hcut
  cases kq with
  | zero => exact absurd HA.out (by simp [Faf.j0])
  | succ kj4 =>
   have H := HA.out
   clear HA
   simp only [Faf.j0] at H
   by_cases c22 : x37_4 = true
   ·subst c22
    replace H := ip_ H rfl
    simp only [Option.some.injEq, Prod.mk.injEq] at H
    obtain ⟨rfl, rfl, rfl⟩ := H
    go_wp2
    go_ret3
    exact ⟨rT_, hB_⟩
   replace c22 := Bool.eq_false_iff.mpr c22
   subst c22
   replace H := in_ H (show ¬ (false = true) by decide)
   replace H := ob_ H; obtain ⟨t602, A23, H⟩ := H; try dsimp only at H
   replace H := ig_ H; obtain ⟨c24b0, H⟩ := H
   replace H := ig_ H; obtain ⟨c25b0, H⟩ := H
   replace H := ob_ H; obtain ⟨t604, A26, H⟩ := H; try dsimp only at H
   replace H := ig_ H; obtain ⟨c27b0, H⟩ := H
   replace H := ig_ H; obtain ⟨c28b0, H⟩ := H
   have H' := aM_ H
   clear H
   try go_wp2
   replace HB := aM_ (below_drew1 HB.out)
   have p603 : 0 ≤ (t602 : Int) := ode_
   have q603 : t602 < (l0.length : Int) := ode_
   obtain ⟨ad603, e603, hx603_0, hx603_1⟩ := at_T74 HR0.out t602 p603 q603
   have hw603_1 := hx603_1
   have hw603_0 := hx603_0
   cases e603
   try replace hx603_0 := hc_ HB hx603_0
   try replace hx603_1 := hc_ HB hx603_1
   replace p603 := eq_true p603
   replace q603 := eq_true q603
   have p605 : 0 ≤ (t604 : Int) := ode_
   have q605 : t604 < (l0.length : Int) := ode_
   obtain ⟨ad605, e605, hx605_0, hx605_1⟩ := at_T74 HR0.out t604 p605 q605
   have hw605_1 := hx605_1
   have hw605_0 := hx605_0
   obtain rfl : ad603 = ad605 := (by injection e605)
   try replace hx605_0 := hc_ HB hx605_0
   try replace hx605_1 := hc_ HB hx605_1
   replace p605 := eq_true p605
   replace q605 := eq_true q605
   refine st_ 18 (fun w' => w'.cell? (ad603.add ((t602).toNat * 2)) = some (.string ((rd_T74 l0 t602).f0)) ∧ w'.cell? ⟨(ad603.add ((t602).toNat * 2)).block, (ad603.add ((t602).toNat * 2)).off + 1, none⟩ = some (.int .i64 ((rd_T74 l0 t602).f1)) ∧ w'.cell? (ad603.add ((t604).toNat * 2)) = some (.string ((rd_T74 l0 t604).f0)) ∧ w'.cell? ⟨(ad603.add ((t604).toNat * 2)).block, (ad603.add ((t604).toNat * 2)).off + 1, none⟩ = some (.int .i64 ((rd_T74 l0 t604).f1))) [] Faf.tab3 Faf.bits3 ⟨((HB.out.cell (World.block_lt_of_cell? w _ hw603_0)).trans hw603_0), ((HB.out.cell (World.block_lt_of_cell? w _ hw603_1)).trans hw603_1), ((HB.out.cell (World.block_lt_of_cell? w _ hw605_0)).trans hw605_0), ((HB.out.cell (World.block_lt_of_cell? w _ hw605_1)).trans hw605_1)⟩ fun hHeld HT_ HW_ => ?_
   generalize wc.drew = w29 at HB hx603_0 hx603_1 hx605_0 hx605_1 hHeld ⊢
   refine pu_ 0 38 ?_
   refine pu_ 1 39 ?_
   refine pu_ 2 40 ?_
   refine pu_ 7 45 ?_
   refine pu_ 8 46 ?_
   refine pu_ 9 47 ?_
   refine join_ (σ := Nat × Nat) 2 (bz_ 18 0xffff) (fun s_ => [(41, .int .i64 t602), (48, .int .i64 t604), (11, .pointer (some ⟨s_.1, 0, none⟩)), (12, .pointer (some ⟨s_.2, 0, none⟩)), (42, .pointer (some (ad603.add ((t602).toNat * 2)))), (43, .pointer (some ⟨(ad603.add ((t602).toNat * 2)).block, (ad603.add ((t602).toNat * 2)).off + 1, none⟩)), (44, .int .i64 ((rd_T74 l0 t602).f1)), (49, .pointer (some (ad603.add ((t604).toNat * 2)))), (50, .pointer (some ⟨(ad603.add ((t604).toNat * 2)).block, (ad603.add ((t604).toNat * 2)).off + 1, none⟩)), (51, .int .i64 ((rd_T74 l0 t604).f1))]) (fun s_ w' => (w'.cell? (ad603.add ((t602).toNat * 2)) = some (.string ((rd_T74 l0 t602).f0)) ∧ w'.cell? ⟨(ad603.add ((t602).toNat * 2)).block, (ad603.add ((t602).toNat * 2)).off + 1, none⟩ = some (.int .i64 ((rd_T74 l0 t602).f1)) ∧ w'.cell? (ad603.add ((t604).toNat * 2)) = some (.string ((rd_T74 l0 t604).f0)) ∧ w'.cell? ⟨(ad603.add ((t604).toNat * 2)).block, (ad603.add ((t604).toNat * 2)).off + 1, none⟩ = some (.int .i64 ((rd_T74 l0 t604).f1))) ∧ (w'.heap[s_.1]? = some (.cells #[.int .i64 0] 3 (0, 0))) ∧ (w'.heap[s_.2]? = some (.cells #[.int .i64 0] 3 (0, 0))) ∧ (w.heap.size ≤ s_.1) ∧ (w.heap.size ≤ s_.1) ∧ (s_.2 ≠ s_.1) ∧ (s_.1 ≠ s_.2) ∧ (w.heap.size ≤ s_.2) ∧ (w.heap.size ≤ s_.2) ∧ (Below w.heap.size w w')) ?_ ?_
   rotate_left
   ·intro hJ3_10_14_15
    refine join_ (σ := Nat) 3 (bz_ 18 0x7fff) (fun s_ => [(41, .int .i64 t602), (48, .int .i64 t604), (11, .pointer (some ⟨s_, 0, none⟩)), (42, .pointer (some (ad603.add ((t602).toNat * 2)))), (43, .pointer (some ⟨(ad603.add ((t602).toNat * 2)).block, (ad603.add ((t602).toNat * 2)).off + 1, none⟩)), (44, .int .i64 ((rd_T74 l0 t602).f1)), (49, .pointer (some (ad603.add ((t604).toNat * 2)))), (50, .pointer (some ⟨(ad603.add ((t604).toNat * 2)).block, (ad603.add ((t604).toNat * 2)).off + 1, none⟩)), (51, .int .i64 ((rd_T74 l0 t604).f1))]) (fun s_ w' => (w'.cell? (ad603.add ((t602).toNat * 2)) = some (.string ((rd_T74 l0 t602).f0)) ∧ w'.cell? ⟨(ad603.add ((t602).toNat * 2)).block, (ad603.add ((t602).toNat * 2)).off + 1, none⟩ = some (.int .i64 ((rd_T74 l0 t602).f1)) ∧ w'.cell? (ad603.add ((t604).toNat * 2)) = some (.string ((rd_T74 l0 t604).f0)) ∧ w'.cell? ⟨(ad603.add ((t604).toNat * 2)).block, (ad603.add ((t604).toNat * 2)).off + 1, none⟩ = some (.int .i64 ((rd_T74 l0 t604).f1))) ∧ (w'.heap[s_]? = some (.cells #[.int .i64 0] 3 (0, 0))) ∧ (w.heap.size ≤ s_) ∧ (w.heap.size ≤ s_) ∧ (Below w.heap.size w w')) ?_ ?_
    rotate_left
    ·intro hJ3_10_14
     refine join_ (σ := Nat) 3 (bz_ 18 0xbfff) (fun s_ => [(41, .int .i64 t602), (48, .int .i64 t604), (12, .pointer (some ⟨s_, 0, none⟩)), (42, .pointer (some (ad603.add ((t602).toNat * 2)))), (43, .pointer (some ⟨(ad603.add ((t602).toNat * 2)).block, (ad603.add ((t602).toNat * 2)).off + 1, none⟩)), (44, .int .i64 ((rd_T74 l0 t602).f1)), (49, .pointer (some (ad603.add ((t604).toNat * 2)))), (50, .pointer (some ⟨(ad603.add ((t604).toNat * 2)).block, (ad603.add ((t604).toNat * 2)).off + 1, none⟩)), (51, .int .i64 ((rd_T74 l0 t604).f1))]) (fun s_ w' => (w'.cell? (ad603.add ((t602).toNat * 2)) = some (.string ((rd_T74 l0 t602).f0)) ∧ w'.cell? ⟨(ad603.add ((t602).toNat * 2)).block, (ad603.add ((t602).toNat * 2)).off + 1, none⟩ = some (.int .i64 ((rd_T74 l0 t602).f1)) ∧ w'.cell? (ad603.add ((t604).toNat * 2)) = some (.string ((rd_T74 l0 t604).f0)) ∧ w'.cell? ⟨(ad603.add ((t604).toNat * 2)).block, (ad603.add ((t604).toNat * 2)).off + 1, none⟩ = some (.int .i64 ((rd_T74 l0 t604).f1))) ∧ (w'.heap[s_]? = some (.cells #[.int .i64 0] 3 (0, 0))) ∧ (w.heap.size ≤ s_) ∧ (w.heap.size ≤ s_) ∧ (Below w.heap.size w w')) ?_ ?_
     rotate_left
     ·intro hJ3_10_15
      refine join_ (σ := Nat × Nat) 6 (bz_ 18 0xc3ff) (fun s_ => [(41, .int .i64 t602), (11, .pointer (some ⟨s_.1, 0, none⟩)), (12, .pointer (some ⟨s_.2, 0, none⟩)), (42, .pointer (some (ad603.add ((t602).toNat * 2)))), (43, .pointer (some ⟨(ad603.add ((t602).toNat * 2)).block, (ad603.add ((t602).toNat * 2)).off + 1, none⟩)), (44, .int .i64 ((rd_T74 l0 t602).f1))]) (fun s_ w' => (w'.cell? (ad603.add ((t602).toNat * 2)) = some (.string ((rd_T74 l0 t602).f0)) ∧ w'.cell? ⟨(ad603.add ((t602).toNat * 2)).block, (ad603.add ((t602).toNat * 2)).off + 1, none⟩ = some (.int .i64 ((rd_T74 l0 t602).f1)) ∧ w'.cell? (ad603.add ((t604).toNat * 2)) = some (.string ((rd_T74 l0 t604).f0)) ∧ w'.cell? ⟨(ad603.add ((t604).toNat * 2)).block, (ad603.add ((t604).toNat * 2)).off + 1, none⟩ = some (.int .i64 ((rd_T74 l0 t604).f1))) ∧ (w'.heap[s_.1]? = some (.cells #[.int .i64 0] 3 (0, 0))) ∧ (w'.heap[s_.2]? = some (.cells #[.int .i64 0] 3 (0, 0))) ∧ (w.heap.size ≤ s_.1) ∧ (w.heap.size ≤ s_.1) ∧ (s_.2 ≠ s_.1) ∧ (s_.1 ≠ s_.2) ∧ (w.heap.size ≤ s_.2) ∧ (w.heap.size ≤ s_.2) ∧ (Below w.heap.size w w')) ?_ ?_
      rotate_left
      ·intro hJ3_14_15
       refine join_ (σ := Unit) 4 (bz_ 18 0x3fff) (fun s_ => [(41, .int .i64 t602), (48, .int .i64 t604), (42, .pointer (some (ad603.add ((t602).toNat * 2)))), (43, .pointer (some ⟨(ad603.add ((t602).toNat * 2)).block, (ad603.add ((t602).toNat * 2)).off + 1, none⟩)), (44, .int .i64 ((rd_T74 l0 t602).f1)), (49, .pointer (some (ad603.add ((t604).toNat * 2)))), (50, .pointer (some ⟨(ad603.add ((t604).toNat * 2)).block, (ad603.add ((t604).toNat * 2)).off + 1, none⟩)), (51, .int .i64 ((rd_T74 l0 t604).f1))]) (fun s_ w' => (w'.cell? (ad603.add ((t602).toNat * 2)) = some (.string ((rd_T74 l0 t602).f0)) ∧ w'.cell? ⟨(ad603.add ((t602).toNat * 2)).block, (ad603.add ((t602).toNat * 2)).off + 1, none⟩ = some (.int .i64 ((rd_T74 l0 t602).f1)) ∧ w'.cell? (ad603.add ((t604).toNat * 2)) = some (.string ((rd_T74 l0 t604).f0)) ∧ w'.cell? ⟨(ad603.add ((t604).toNat * 2)).block, (ad603.add ((t604).toNat * 2)).off + 1, none⟩ = some (.int .i64 ((rd_T74 l0 t604).f1))) ∧ (Below w.heap.size w w')) ?_ ?_
       rotate_left
       ·intro hJ3_10
        refine join_ (σ := Nat) 7 (bz_ 18 0x43ff) (fun s_ => [(41, .int .i64 t602), (11, .pointer (some ⟨s_, 0, none⟩)), (42, .pointer (some (ad603.add ((t602).toNat * 2)))), (43, .pointer (some ⟨(ad603.add ((t602).toNat * 2)).block, (ad603.add ((t602).toNat * 2)).off + 1, none⟩)), (44, .int .i64 ((rd_T74 l0 t602).f1))]) (fun s_ w' => (w'.cell? (ad603.add ((t602).toNat * 2)) = some (.string ((rd_T74 l0 t602).f0)) ∧ w'.cell? ⟨(ad603.add ((t602).toNat * 2)).block, (ad603.add ((t602).toNat * 2)).off + 1, none⟩ = some (.int .i64 ((rd_T74 l0 t602).f1)) ∧ w'.cell? (ad603.add ((t604).toNat * 2)) = some (.string ((rd_T74 l0 t604).f0)) ∧ w'.cell? ⟨(ad603.add ((t604).toNat * 2)).block, (ad603.add ((t604).toNat * 2)).off + 1, none⟩ = some (.int .i64 ((rd_T74 l0 t604).f1))) ∧ (w'.heap[s_]? = some (.cells #[.int .i64 0] 3 (0, 0))) ∧ (w.heap.size ≤ s_) ∧ (w.heap.size ≤ s_) ∧ (Below w.heap.size w w')) ?_ ?_
        rotate_left
        ·intro hJ3_14
         refine join_ (σ := Nat) 7 (bz_ 18 0x83ff) (fun s_ => [(41, .int .i64 t602), (12, .pointer (some ⟨s_, 0, none⟩)), (42, .pointer (some (ad603.add ((t602).toNat * 2)))), (43, .pointer (some ⟨(ad603.add ((t602).toNat * 2)).block, (ad603.add ((t602).toNat * 2)).off + 1, none⟩)), (44, .int .i64 ((rd_T74 l0 t602).f1))]) (fun s_ w' => (w'.cell? (ad603.add ((t602).toNat * 2)) = some (.string ((rd_T74 l0 t602).f0)) ∧ w'.cell? ⟨(ad603.add ((t602).toNat * 2)).block, (ad603.add ((t602).toNat * 2)).off + 1, none⟩ = some (.int .i64 ((rd_T74 l0 t602).f1)) ∧ w'.cell? (ad603.add ((t604).toNat * 2)) = some (.string ((rd_T74 l0 t604).f0)) ∧ w'.cell? ⟨(ad603.add ((t604).toNat * 2)).block, (ad603.add ((t604).toNat * 2)).off + 1, none⟩ = some (.int .i64 ((rd_T74 l0 t604).f1))) ∧ (w'.heap[s_]? = some (.cells #[.int .i64 0] 3 (0, 0))) ∧ (w.heap.size ≤ s_) ∧ (w.heap.size ≤ s_) ∧ (Below w.heap.size w w')) ?_ ?_
         rotate_left
         ·intro hJ3_15
          refine join_ (σ := Nat × Nat) 10 (bz_ 18 0xc387) (fun s_ => [(11, .pointer (some ⟨s_.1, 0, none⟩)), (12, .pointer (some ⟨s_.2, 0, none⟩))]) (fun s_ w' => (w'.cell? (ad603.add ((t602).toNat * 2)) = some (.string ((rd_T74 l0 t602).f0)) ∧ w'.cell? ⟨(ad603.add ((t602).toNat * 2)).block, (ad603.add ((t602).toNat * 2)).off + 1, none⟩ = some (.int .i64 ((rd_T74 l0 t602).f1)) ∧ w'.cell? (ad603.add ((t604).toNat * 2)) = some (.string ((rd_T74 l0 t604).f0)) ∧ w'.cell? ⟨(ad603.add ((t604).toNat * 2)).block, (ad603.add ((t604).toNat * 2)).off + 1, none⟩ = some (.int .i64 ((rd_T74 l0 t604).f1))) ∧ (w'.heap[s_.1]? = some (.cells #[.int .i64 0] 3 (0, 0))) ∧ (w'.heap[s_.2]? = some (.cells #[.int .i64 0] 3 (0, 0))) ∧ (w.heap.size ≤ s_.1) ∧ (w.heap.size ≤ s_.1) ∧ (s_.2 ≠ s_.1) ∧ (s_.1 ≠ s_.2) ∧ (w.heap.size ≤ s_.2) ∧ (w.heap.size ≤ s_.2) ∧ (Below w.heap.size w w')) ?_ ?_
          rotate_left
          ·intro hJ14_15
           refine join_ (σ := Unit) 8 (bz_ 18 0x3ff) (fun s_ => [(41, .int .i64 t602), (42, .pointer (some (ad603.add ((t602).toNat * 2)))), (43, .pointer (some ⟨(ad603.add ((t602).toNat * 2)).block, (ad603.add ((t602).toNat * 2)).off + 1, none⟩)), (44, .int .i64 ((rd_T74 l0 t602).f1))]) (fun s_ w' => (w'.cell? (ad603.add ((t602).toNat * 2)) = some (.string ((rd_T74 l0 t602).f0)) ∧ w'.cell? ⟨(ad603.add ((t602).toNat * 2)).block, (ad603.add ((t602).toNat * 2)).off + 1, none⟩ = some (.int .i64 ((rd_T74 l0 t602).f1)) ∧ w'.cell? (ad603.add ((t604).toNat * 2)) = some (.string ((rd_T74 l0 t604).f0)) ∧ w'.cell? ⟨(ad603.add ((t604).toNat * 2)).block, (ad603.add ((t604).toNat * 2)).off + 1, none⟩ = some (.int .i64 ((rd_T74 l0 t604).f1))) ∧ (Below w.heap.size w w')) ?_ ?_
           rotate_left
           ·intro hJ3
            refine join_ (σ := Nat) 11 (bz_ 18 0x4387) (fun s_ => [(11, .pointer (some ⟨s_, 0, none⟩))]) (fun s_ w' => (w'.cell? (ad603.add ((t602).toNat * 2)) = some (.string ((rd_T74 l0 t602).f0)) ∧ w'.cell? ⟨(ad603.add ((t602).toNat * 2)).block, (ad603.add ((t602).toNat * 2)).off + 1, none⟩ = some (.int .i64 ((rd_T74 l0 t602).f1)) ∧ w'.cell? (ad603.add ((t604).toNat * 2)) = some (.string ((rd_T74 l0 t604).f0)) ∧ w'.cell? ⟨(ad603.add ((t604).toNat * 2)).block, (ad603.add ((t604).toNat * 2)).off + 1, none⟩ = some (.int .i64 ((rd_T74 l0 t604).f1))) ∧ (w'.heap[s_]? = some (.cells #[.int .i64 0] 3 (0, 0))) ∧ (w.heap.size ≤ s_) ∧ (w.heap.size ≤ s_) ∧ (Below w.heap.size w w')) ?_ ?_
            rotate_left
            ·intro hJ14
             refine join_ (σ := Nat) 11 (bz_ 18 0x8387) (fun s_ => [(12, .pointer (some ⟨s_, 0, none⟩))]) (fun s_ w' => (w'.cell? (ad603.add ((t602).toNat * 2)) = some (.string ((rd_T74 l0 t602).f0)) ∧ w'.cell? ⟨(ad603.add ((t602).toNat * 2)).block, (ad603.add ((t602).toNat * 2)).off + 1, none⟩ = some (.int .i64 ((rd_T74 l0 t602).f1)) ∧ w'.cell? (ad603.add ((t604).toNat * 2)) = some (.string ((rd_T74 l0 t604).f0)) ∧ w'.cell? ⟨(ad603.add ((t604).toNat * 2)).block, (ad603.add ((t604).toNat * 2)).off + 1, none⟩ = some (.int .i64 ((rd_T74 l0 t604).f1))) ∧ (w'.heap[s_]? = some (.cells #[.int .i64 0] 3 (0, 0))) ∧ (w.heap.size ≤ s_) ∧ (w.heap.size ≤ s_) ∧ (Below w.heap.size w w')) ?_ ?_
             rotate_left
             ·intro hJ15
              refine three_ (i := 3) (j := 14) (k := 15) (Ni := some 41) (Nj := some 11) (Nk := some 12) (bz_ 18 0x38f) (bz_ 18 0x4387) (bz_ 18 0x8387) rfl rfl rfl rfl rfl rfl (three_of HT_.out (by kernel_rfl)) (by decide) (by decide) (by decide) (fun K hK => ?_) (fun K hK => ?_) (fun K hK => ?_)
              ·skip
               refine gS_ Tryz.func39 #[.slice (some ad603) l0.length c0, .string a2] ?_
               with_reducible refine (FaN.calls kj4 _ _ l0 a2 t602 _ ?side1 ?side2 A23.out).mono ?_
               (case side1 => repeat (first | exact (Kd.C_below HR0.out HB.out) | (with_reducible first | apply cA_ | apply cN_ | apply cD_)))
               (case side2 => exact HC0.out)
               rintro e w30 ⟨rfl, hb⟩
               refine ⟨_, rfl, ?_⟩
               replace HB := bS_ hb
               (try clear hb)
               (try clear hb2)
               (try clear hk)
               (try clear hi)
               refine hK.out _ _ ⟨((HB.out.cell (World.block_lt_of_cell? w _ hw603_0)).trans hw603_0), ((HB.out.cell (World.block_lt_of_cell? w _ hw603_1)).trans hw603_1), ((HB.out.cell (World.block_lt_of_cell? w _ hw605_0)).trans hw605_0), ((HB.out.cell (World.block_lt_of_cell? w _ hw605_1)).trans hw605_1)⟩ (fun hHeld => ?_)
               clear hK K
               refine nm_ 41 ?_
               refine pu_ 4 42 ?_
               refine pu_ 5 43 ?_
               refine tk_ 6 44 ?_
               exact norm_ z16_3_ (hJ3 () _ ⟨hHeld, hB_⟩)
              ·skip
               refine box_step ?hg (N := 11) ?hd (cs := #[.int .i64 0]) (t := 3) ?hr ?_; (case hd => rfl); (case hg => rfl); (case hr => first | (go_simp; done) | (go_simp; rfl))
               intro gb606 hg w30 hbox hb
               have BK606 := aM_ (hbox)
               have GW606 := gW_ w hg
               have GE606 := gW_ w hg
               replace HB := bS_ hb
               clear hb hbox hg
               refine hK.out _ _ ⟨((HB.out.cell (World.block_lt_of_cell? w _ hw603_0)).trans hw603_0), ((HB.out.cell (World.block_lt_of_cell? w _ hw603_1)).trans hw603_1), ((HB.out.cell (World.block_lt_of_cell? w _ hw605_0)).trans hw605_0), ((HB.out.cell (World.block_lt_of_cell? w _ hw605_1)).trans hw605_1)⟩ (fun hHeld => ?_)
               clear hK K
               refine nm_ 11 ?_
               exact norm_ z16_3_ (hJ14 (gb606) _ ⟨hHeld, (kR_ BK606), GW606.out, GE606.out, hB_⟩)
              ·skip
               refine box_step ?hg (N := 12) ?hd (cs := #[.int .i64 0]) (t := 3) ?hr ?_; (case hd => rfl); (case hg => rfl); (case hr => first | (go_simp; done) | (go_simp; rfl))
               intro gb607 hg w30 hbox hb
               have BK607 := aM_ (hbox)
               have GW607 := gW_ w hg
               have GE607 := gW_ w hg
               replace HB := bS_ hb
               clear hb hbox hg
               refine hK.out _ _ ⟨((HB.out.cell (World.block_lt_of_cell? w _ hw603_0)).trans hw603_0), ((HB.out.cell (World.block_lt_of_cell? w _ hw603_1)).trans hw603_1), ((HB.out.cell (World.block_lt_of_cell? w _ hw605_0)).trans hw605_0), ((HB.out.cell (World.block_lt_of_cell? w _ hw605_1)).trans hw605_1)⟩ (fun hHeld => ?_)
               clear hK K
               refine nm_ 12 ?_
               exact norm_ z16_3_ (hJ15 (gb607) _ ⟨hHeld, (kR_ BK607), GW607.out, GE607.out, hB_⟩)
             ·skip
              rintro gb607 w31 ⟨hS_, h0_, h1_, h2_, h3_⟩
              try dsimp only at h0_ h1_ h2_ h3_
              have n0_ := aM_ h0_; have n1_ := aM_ h1_; have n2_ := aM_ h2_; have n3_ := aM_ h3_
              clear HB
              clear h0_ h1_ h2_ h3_
              have BK607 := n0_
              have GW607 := n1_
              have GE607 := n2_
              have HB := n3_
              clear n0_ n1_ n2_ n3_
              have hHeld : w31.cell? (ad603.add ((t602).toNat * 2)) = some (.string ((rd_T74 l0 t602).f0)) ∧ w31.cell? ⟨(ad603.add ((t602).toNat * 2)).block, (ad603.add ((t602).toNat * 2)).off + 1, none⟩ = some (.int .i64 ((rd_T74 l0 t602).f1)) ∧ w31.cell? (ad603.add ((t604).toNat * 2)) = some (.string ((rd_T74 l0 t604).f0)) ∧ w31.cell? ⟨(ad603.add ((t604).toNat * 2)).block, (ad603.add ((t604).toNat * 2)).off + 1, none⟩ = some (.int .i64 ((rd_T74 l0 t604).f1)) := hS_
              refine norm_ (a' := ?_) ?_ ?_
              rotate_left
              ·simp only [putAll, Act.put, List.setIfInBounds_toArray, List.set_cons_zero, List.set_cons_succ]
               rfl
              refine two_ (i := 3) (j := 14) (Ni := some 41) (Nj := some 11) (bz_ 18 0x838f) (bz_ 18 0xc387) rfl rfl rfl rfl (two_of HT_.out (by kernel_rfl)) (by decide) (by decide) (fun K hK => ?_) (fun K hK => ?_)
              ·skip
               refine gS_ Tryz.func39 #[.slice (some ad603) l0.length c0, .string a2] ?_
               with_reducible refine (FaN.calls kj4 _ _ l0 a2 t602 _ ?side1 ?side2 A23.out).mono ?_
               (case side1 => repeat (first | exact (Kd.C_below HR0.out HB.out) | (with_reducible first | apply cA_ | apply cN_ | apply cD_)))
               (case side2 => exact HC0.out)
               rintro e w32 ⟨rfl, hb⟩
               refine ⟨_, rfl, ?_⟩
               replace BK607 := kB_ BK607 hb
               replace HB := bS_ hb
               (try clear hb)
               (try clear hb2)
               (try clear hk)
               (try clear hi)
               refine hK.out _ _ ⟨((HB.out.cell (World.block_lt_of_cell? w _ hw603_0)).trans hw603_0), ((HB.out.cell (World.block_lt_of_cell? w _ hw603_1)).trans hw603_1), ((HB.out.cell (World.block_lt_of_cell? w _ hw605_0)).trans hw605_0), ((HB.out.cell (World.block_lt_of_cell? w _ hw605_1)).trans hw605_1)⟩ (fun hHeld => ?_)
               clear hK K
               refine nm_ 41 ?_
               refine pu_ 4 42 ?_
               refine pu_ 5 43 ?_
               refine tk_ 6 44 ?_
               exact norm_ z16_3_ (hJ3_15 (gb607) _ ⟨hHeld, (kR_ BK607), GW607.out, GE607.out, hB_⟩)
              ·skip
               refine box_step ?hg (N := 11) ?hd (cs := #[.int .i64 0]) (t := 3) ?hr ?_; (case hd => rfl); (case hg => rfl); (case hr => first | (go_simp; done) | (go_simp; rfl))
               intro gb606 hg w32 hbox hb
               have BK606 := aM_ (hbox)
               have GW606 := gW_ w hg
               have GE606 := gW_ w hg
               have NB607_606 := nB_ gb607 hg
               have NB606_607 := nC_ gb607 hg
               replace BK607 := kB_ BK607 hb
               replace HB := bS_ hb
               clear hb hbox hg
               refine hK.out _ _ ⟨((HB.out.cell (World.block_lt_of_cell? w _ hw603_0)).trans hw603_0), ((HB.out.cell (World.block_lt_of_cell? w _ hw603_1)).trans hw603_1), ((HB.out.cell (World.block_lt_of_cell? w _ hw605_0)).trans hw605_0), ((HB.out.cell (World.block_lt_of_cell? w _ hw605_1)).trans hw605_1)⟩ (fun hHeld => ?_)
               clear hK K
               refine nm_ 11 ?_
               exact norm_ z16_3_ (hJ14_15 (gb606, gb607) _ ⟨hHeld, (kR_ BK606), (kR_ BK607), GW606.out, GE606.out, NB607_606.out, NB606_607.out, GW607.out, GE607.out, hB_⟩)
            ·skip
             rintro gb606 w31 ⟨hS_, h0_, h1_, h2_, h3_⟩
             try dsimp only at h0_ h1_ h2_ h3_
             have n0_ := aM_ h0_; have n1_ := aM_ h1_; have n2_ := aM_ h2_; have n3_ := aM_ h3_
             clear HB
             clear h0_ h1_ h2_ h3_
             have BK606 := n0_
             have GW606 := n1_
             have GE606 := n2_
             have HB := n3_
             clear n0_ n1_ n2_ n3_
             have hHeld : w31.cell? (ad603.add ((t602).toNat * 2)) = some (.string ((rd_T74 l0 t602).f0)) ∧ w31.cell? ⟨(ad603.add ((t602).toNat * 2)).block, (ad603.add ((t602).toNat * 2)).off + 1, none⟩ = some (.int .i64 ((rd_T74 l0 t602).f1)) ∧ w31.cell? (ad603.add ((t604).toNat * 2)) = some (.string ((rd_T74 l0 t604).f0)) ∧ w31.cell? ⟨(ad603.add ((t604).toNat * 2)).block, (ad603.add ((t604).toNat * 2)).off + 1, none⟩ = some (.int .i64 ((rd_T74 l0 t604).f1)) := hS_
             refine norm_ (a' := ?_) ?_ ?_
             rotate_left
             ·simp only [putAll, Act.put, List.setIfInBounds_toArray, List.set_cons_zero, List.set_cons_succ]
              rfl
             refine two_ (i := 3) (j := 15) (Ni := some 41) (Nj := some 12) (bz_ 18 0x438f) (bz_ 18 0xc387) rfl rfl rfl rfl (two_of HT_.out (by kernel_rfl)) (by decide) (by decide) (fun K hK => ?_) (fun K hK => ?_)
             ·skip
              refine gS_ Tryz.func39 #[.slice (some ad603) l0.length c0, .string a2] ?_
              with_reducible refine (FaN.calls kj4 _ _ l0 a2 t602 _ ?side1 ?side2 A23.out).mono ?_
              (case side1 => repeat (first | exact (Kd.C_below HR0.out HB.out) | (with_reducible first | apply cA_ | apply cN_ | apply cD_)))
              (case side2 => exact HC0.out)
              rintro e w32 ⟨rfl, hb⟩
              refine ⟨_, rfl, ?_⟩
              replace BK606 := kB_ BK606 hb
              replace HB := bS_ hb
              (try clear hb)
              (try clear hb2)
              (try clear hk)
              (try clear hi)
              refine hK.out _ _ ⟨((HB.out.cell (World.block_lt_of_cell? w _ hw603_0)).trans hw603_0), ((HB.out.cell (World.block_lt_of_cell? w _ hw603_1)).trans hw603_1), ((HB.out.cell (World.block_lt_of_cell? w _ hw605_0)).trans hw605_0), ((HB.out.cell (World.block_lt_of_cell? w _ hw605_1)).trans hw605_1)⟩ (fun hHeld => ?_)
              clear hK K
              refine nm_ 41 ?_
              refine pu_ 4 42 ?_
              refine pu_ 5 43 ?_
              refine tk_ 6 44 ?_
              exact norm_ z16_3_ (hJ3_14 (gb606) _ ⟨hHeld, (kR_ BK606), GW606.out, GE606.out, hB_⟩)
             ·skip
              refine box_step ?hg (N := 12) ?hd (cs := #[.int .i64 0]) (t := 3) ?hr ?_; (case hd => rfl); (case hg => rfl); (case hr => first | (go_simp; done) | (go_simp; rfl))
              intro gb607 hg w32 hbox hb
              have BK607 := aM_ (hbox)
              have GW607 := gW_ w hg
              have GE607 := gW_ w hg
              have NB606_607 := nB_ gb606 hg
              have NB607_606 := nC_ gb606 hg
              replace BK606 := kB_ BK606 hb
              replace HB := bS_ hb
              clear hb hbox hg
              refine hK.out _ _ ⟨((HB.out.cell (World.block_lt_of_cell? w _ hw603_0)).trans hw603_0), ((HB.out.cell (World.block_lt_of_cell? w _ hw603_1)).trans hw603_1), ((HB.out.cell (World.block_lt_of_cell? w _ hw605_0)).trans hw605_0), ((HB.out.cell (World.block_lt_of_cell? w _ hw605_1)).trans hw605_1)⟩ (fun hHeld => ?_)
              clear hK K
              refine nm_ 12 ?_
              exact norm_ z16_3_ (hJ14_15 (gb606, gb607) _ ⟨hHeld, (kR_ BK606), (kR_ BK607), GW606.out, GE606.out, NB607_606.out, NB606_607.out, GW607.out, GE607.out, hB_⟩)
           ·skip
            rintro _ w31 ⟨hS_, h0_⟩
            try dsimp only at h0_
            have n0_ := aM_ h0_
            clear HB
            clear h0_
            have HB := n0_
            clear n0_
            have hHeld : w31.cell? (ad603.add ((t602).toNat * 2)) = some (.string ((rd_T74 l0 t602).f0)) ∧ w31.cell? ⟨(ad603.add ((t602).toNat * 2)).block, (ad603.add ((t602).toNat * 2)).off + 1, none⟩ = some (.int .i64 ((rd_T74 l0 t602).f1)) ∧ w31.cell? (ad603.add ((t604).toNat * 2)) = some (.string ((rd_T74 l0 t604).f0)) ∧ w31.cell? ⟨(ad603.add ((t604).toNat * 2)).block, (ad603.add ((t604).toNat * 2)).off + 1, none⟩ = some (.int .i64 ((rd_T74 l0 t604).f1)) := hS_
            refine norm_ (a' := ?_) ?_ ?_
            rotate_left
            ·simp only [putAll, Act.put, List.setIfInBounds_toArray, List.set_cons_zero, List.set_cons_succ]
             rfl
            refine three_ (i := 10) (j := 14) (k := 15) (Ni := some 48) (Nj := some 11) (Nk := some 12) (bz_ 18 0x7ff) (bz_ 18 0x43ff) (bz_ 18 0x83ff) rfl rfl rfl rfl rfl rfl (three_of HT_.out (by kernel_rfl)) (by decide) (by decide) (by decide) (fun K hK => ?_) (fun K hK => ?_) (fun K hK => ?_)
            ·skip
             refine gS_ Tryz.func39 #[.slice (some ad603) l0.length c0, .string a3] ?_
             with_reducible refine (FaN.calls kj4 _ _ l0 a3 t604 _ ?side1 ?side2 A26.out).mono ?_
             (case side1 => repeat (first | exact (Kd.C_below HR0.out HB.out) | (with_reducible first | apply cA_ | apply cN_ | apply cD_)))
             (case side2 => exact HC0.out)
             rintro e w32 ⟨rfl, hb⟩
             refine ⟨_, rfl, ?_⟩
             replace HB := bS_ hb
             (try clear hb)
             (try clear hb2)
             (try clear hk)
             (try clear hi)
             refine hK.out _ _ ⟨((HB.out.cell (World.block_lt_of_cell? w _ hw603_0)).trans hw603_0), ((HB.out.cell (World.block_lt_of_cell? w _ hw603_1)).trans hw603_1), ((HB.out.cell (World.block_lt_of_cell? w _ hw605_0)).trans hw605_0), ((HB.out.cell (World.block_lt_of_cell? w _ hw605_1)).trans hw605_1)⟩ (fun hHeld => ?_)
             clear hK K
             refine nm_ 48 ?_
             refine pu_ 11 49 ?_
             refine pu_ 12 50 ?_
             refine tk_ 13 51 ?_
             exact norm_ z16_3_ (hJ3_10 () _ ⟨hHeld, hB_⟩)
            ·skip
             refine box_step ?hg (N := 11) ?hd (cs := #[.int .i64 0]) (t := 3) ?hr ?_; (case hd => rfl); (case hg => rfl); (case hr => first | (go_simp; done) | (go_simp; rfl))
             intro gb606 hg w32 hbox hb
             have BK606 := aM_ (hbox)
             have GW606 := gW_ w hg
             have GE606 := gW_ w hg
             replace HB := bS_ hb
             clear hb hbox hg
             refine hK.out _ _ ⟨((HB.out.cell (World.block_lt_of_cell? w _ hw603_0)).trans hw603_0), ((HB.out.cell (World.block_lt_of_cell? w _ hw603_1)).trans hw603_1), ((HB.out.cell (World.block_lt_of_cell? w _ hw605_0)).trans hw605_0), ((HB.out.cell (World.block_lt_of_cell? w _ hw605_1)).trans hw605_1)⟩ (fun hHeld => ?_)
             clear hK K
             refine nm_ 11 ?_
             exact norm_ z16_3_ (hJ3_14 (gb606) _ ⟨hHeld, (kR_ BK606), GW606.out, GE606.out, hB_⟩)
            ·skip
             refine box_step ?hg (N := 12) ?hd (cs := #[.int .i64 0]) (t := 3) ?hr ?_; (case hd => rfl); (case hg => rfl); (case hr => first | (go_simp; done) | (go_simp; rfl))
             intro gb607 hg w32 hbox hb
             have BK607 := aM_ (hbox)
             have GW607 := gW_ w hg
             have GE607 := gW_ w hg
             replace HB := bS_ hb
             clear hb hbox hg
             refine hK.out _ _ ⟨((HB.out.cell (World.block_lt_of_cell? w _ hw603_0)).trans hw603_0), ((HB.out.cell (World.block_lt_of_cell? w _ hw603_1)).trans hw603_1), ((HB.out.cell (World.block_lt_of_cell? w _ hw605_0)).trans hw605_0), ((HB.out.cell (World.block_lt_of_cell? w _ hw605_1)).trans hw605_1)⟩ (fun hHeld => ?_)
             clear hK K
             refine nm_ 12 ?_
             exact norm_ z16_3_ (hJ3_15 (gb607) _ ⟨hHeld, (kR_ BK607), GW607.out, GE607.out, hB_⟩)
          ·skip
           rintro ⟨gb606, gb607⟩ w32 ⟨hS_, h0_, h1_, h2_, h3_, h4_, h5_, h6_, h7_, h8_⟩
           try dsimp only at h0_ h1_ h2_ h3_ h4_ h5_ h6_ h7_ h8_
           have n0_ := aM_ h0_; have n1_ := aM_ h1_; have n2_ := aM_ h2_; have n3_ := aM_ h3_; have n4_ := aM_ h4_; have n5_ := aM_ h5_; have n6_ := aM_ h6_; have n7_ := aM_ h7_; have n8_ := aM_ h8_
           clear HB
           clear h0_ h1_ h2_ h3_ h4_ h5_ h6_ h7_ h8_
           have BK606 := n0_
           have BK607 := n1_
           have GW606 := n2_
           have GE606 := n3_
           have NB607_606 := n4_
           have NB606_607 := n5_
           have GW607 := n6_
           have GE607 := n7_
           have HB := n8_
           clear n0_ n1_ n2_ n3_ n4_ n5_ n6_ n7_ n8_
           have hHeld : w32.cell? (ad603.add ((t602).toNat * 2)) = some (.string ((rd_T74 l0 t602).f0)) ∧ w32.cell? ⟨(ad603.add ((t602).toNat * 2)).block, (ad603.add ((t602).toNat * 2)).off + 1, none⟩ = some (.int .i64 ((rd_T74 l0 t602).f1)) ∧ w32.cell? (ad603.add ((t604).toNat * 2)) = some (.string ((rd_T74 l0 t604).f0)) ∧ w32.cell? ⟨(ad603.add ((t604).toNat * 2)).block, (ad603.add ((t604).toNat * 2)).off + 1, none⟩ = some (.int .i64 ((rd_T74 l0 t604).f1)) := hS_
           refine norm_ (a' := ?_) ?_ ?_
           rotate_left
           ·simp only [putAll, Act.put, List.setIfInBounds_toArray, List.set_cons_zero, List.set_cons_succ]
            rfl
           refine on_ 3 41 fun K hK => ?_
           refine gS_ Tryz.func39 #[.slice (some ad603) l0.length c0, .string a2] ?_
           with_reducible refine (FaN.calls kj4 _ _ l0 a2 t602 _ ?side1 ?side2 A23.out).mono ?_
           (case side1 => repeat (first | exact (Kd.C_below HR0.out HB.out) | (with_reducible first | apply cA_ | apply cN_ | apply cD_)))
           (case side2 => exact HC0.out)
           rintro e w33 ⟨rfl, hb⟩
           refine ⟨_, rfl, ?_⟩
           replace BK606 := kB_ BK606 hb
           replace BK607 := kB_ BK607 hb
           replace HB := bS_ hb
           (try clear hb)
           (try clear hb2)
           (try clear hk)
           (try clear hi)
           refine hK.out _ _ ⟨((HB.out.cell (World.block_lt_of_cell? w _ hw603_0)).trans hw603_0), ((HB.out.cell (World.block_lt_of_cell? w _ hw603_1)).trans hw603_1), ((HB.out.cell (World.block_lt_of_cell? w _ hw605_0)).trans hw605_0), ((HB.out.cell (World.block_lt_of_cell? w _ hw605_1)).trans hw605_1)⟩ (fun hHeld => ?_)
           clear hK K
           refine nm_ 41 ?_
           refine pu_ 4 42 ?_
           refine pu_ 5 43 ?_
           refine tk_ 6 44 ?_
           exact norm_ z16_3_ (hJ3_14_15 (gb606, gb607) _ ⟨hHeld, (kR_ BK606), (kR_ BK607), GW606.out, GE606.out, NB607_606.out, NB606_607.out, GW607.out, GE607.out, hB_⟩)
         ·skip
          rintro gb607 w32 ⟨hS_, h0_, h1_, h2_, h3_⟩
          try dsimp only at h0_ h1_ h2_ h3_
          have n0_ := aM_ h0_; have n1_ := aM_ h1_; have n2_ := aM_ h2_; have n3_ := aM_ h3_
          clear HB
          clear h0_ h1_ h2_ h3_
          have BK607 := n0_
          have GW607 := n1_
          have GE607 := n2_
          have HB := n3_
          clear n0_ n1_ n2_ n3_
          have hHeld : w32.cell? (ad603.add ((t602).toNat * 2)) = some (.string ((rd_T74 l0 t602).f0)) ∧ w32.cell? ⟨(ad603.add ((t602).toNat * 2)).block, (ad603.add ((t602).toNat * 2)).off + 1, none⟩ = some (.int .i64 ((rd_T74 l0 t602).f1)) ∧ w32.cell? (ad603.add ((t604).toNat * 2)) = some (.string ((rd_T74 l0 t604).f0)) ∧ w32.cell? ⟨(ad603.add ((t604).toNat * 2)).block, (ad603.add ((t604).toNat * 2)).off + 1, none⟩ = some (.int .i64 ((rd_T74 l0 t604).f1)) := hS_
          refine norm_ (a' := ?_) ?_ ?_
          rotate_left
          ·simp only [putAll, Act.put, List.setIfInBounds_toArray, List.set_cons_zero, List.set_cons_succ]
           rfl
          refine two_ (i := 10) (j := 14) (Ni := some 48) (Nj := some 11) (bz_ 18 0x87ff) (bz_ 18 0xc3ff) rfl rfl rfl rfl (two_of HT_.out (by kernel_rfl)) (by decide) (by decide) (fun K hK => ?_) (fun K hK => ?_)
          ·skip
           refine gS_ Tryz.func39 #[.slice (some ad603) l0.length c0, .string a3] ?_
           with_reducible refine (FaN.calls kj4 _ _ l0 a3 t604 _ ?side1 ?side2 A26.out).mono ?_
           (case side1 => repeat (first | exact (Kd.C_below HR0.out HB.out) | (with_reducible first | apply cA_ | apply cN_ | apply cD_)))
           (case side2 => exact HC0.out)
           rintro e w33 ⟨rfl, hb⟩
           refine ⟨_, rfl, ?_⟩
           replace BK607 := kB_ BK607 hb
           replace HB := bS_ hb
           (try clear hb)
           (try clear hb2)
           (try clear hk)
           (try clear hi)
           refine hK.out _ _ ⟨((HB.out.cell (World.block_lt_of_cell? w _ hw603_0)).trans hw603_0), ((HB.out.cell (World.block_lt_of_cell? w _ hw603_1)).trans hw603_1), ((HB.out.cell (World.block_lt_of_cell? w _ hw605_0)).trans hw605_0), ((HB.out.cell (World.block_lt_of_cell? w _ hw605_1)).trans hw605_1)⟩ (fun hHeld => ?_)
           clear hK K
           refine nm_ 48 ?_
           refine pu_ 11 49 ?_
           refine pu_ 12 50 ?_
           refine tk_ 13 51 ?_
           exact norm_ z16_3_ (hJ3_10_15 (gb607) _ ⟨hHeld, (kR_ BK607), GW607.out, GE607.out, hB_⟩)
          ·skip
           refine box_step ?hg (N := 11) ?hd (cs := #[.int .i64 0]) (t := 3) ?hr ?_; (case hd => rfl); (case hg => rfl); (case hr => first | (go_simp; done) | (go_simp; rfl))
           intro gb606 hg w33 hbox hb
           have BK606 := aM_ (hbox)
           have GW606 := gW_ w hg
           have GE606 := gW_ w hg
           have NB607_606 := nB_ gb607 hg
           have NB606_607 := nC_ gb607 hg
           replace BK607 := kB_ BK607 hb
           replace HB := bS_ hb
           clear hb hbox hg
           refine hK.out _ _ ⟨((HB.out.cell (World.block_lt_of_cell? w _ hw603_0)).trans hw603_0), ((HB.out.cell (World.block_lt_of_cell? w _ hw603_1)).trans hw603_1), ((HB.out.cell (World.block_lt_of_cell? w _ hw605_0)).trans hw605_0), ((HB.out.cell (World.block_lt_of_cell? w _ hw605_1)).trans hw605_1)⟩ (fun hHeld => ?_)
           clear hK K
           refine nm_ 11 ?_
           exact norm_ z16_3_ (hJ3_14_15 (gb606, gb607) _ ⟨hHeld, (kR_ BK606), (kR_ BK607), GW606.out, GE606.out, NB607_606.out, NB606_607.out, GW607.out, GE607.out, hB_⟩)
        ·skip
         rintro gb606 w32 ⟨hS_, h0_, h1_, h2_, h3_⟩
         try dsimp only at h0_ h1_ h2_ h3_
         have n0_ := aM_ h0_; have n1_ := aM_ h1_; have n2_ := aM_ h2_; have n3_ := aM_ h3_
         clear HB
         clear h0_ h1_ h2_ h3_
         have BK606 := n0_
         have GW606 := n1_
         have GE606 := n2_
         have HB := n3_
         clear n0_ n1_ n2_ n3_
         have hHeld : w32.cell? (ad603.add ((t602).toNat * 2)) = some (.string ((rd_T74 l0 t602).f0)) ∧ w32.cell? ⟨(ad603.add ((t602).toNat * 2)).block, (ad603.add ((t602).toNat * 2)).off + 1, none⟩ = some (.int .i64 ((rd_T74 l0 t602).f1)) ∧ w32.cell? (ad603.add ((t604).toNat * 2)) = some (.string ((rd_T74 l0 t604).f0)) ∧ w32.cell? ⟨(ad603.add ((t604).toNat * 2)).block, (ad603.add ((t604).toNat * 2)).off + 1, none⟩ = some (.int .i64 ((rd_T74 l0 t604).f1)) := hS_
         refine norm_ (a' := ?_) ?_ ?_
         rotate_left
         ·simp only [putAll, Act.put, List.setIfInBounds_toArray, List.set_cons_zero, List.set_cons_succ]
          rfl
         refine two_ (i := 10) (j := 15) (Ni := some 48) (Nj := some 12) (bz_ 18 0x47ff) (bz_ 18 0xc3ff) rfl rfl rfl rfl (two_of HT_.out (by kernel_rfl)) (by decide) (by decide) (fun K hK => ?_) (fun K hK => ?_)
         ·skip
          refine gS_ Tryz.func39 #[.slice (some ad603) l0.length c0, .string a3] ?_
          with_reducible refine (FaN.calls kj4 _ _ l0 a3 t604 _ ?side1 ?side2 A26.out).mono ?_
          (case side1 => repeat (first | exact (Kd.C_below HR0.out HB.out) | (with_reducible first | apply cA_ | apply cN_ | apply cD_)))
          (case side2 => exact HC0.out)
          rintro e w33 ⟨rfl, hb⟩
          refine ⟨_, rfl, ?_⟩
          replace BK606 := kB_ BK606 hb
          replace HB := bS_ hb
          (try clear hb)
          (try clear hb2)
          (try clear hk)
          (try clear hi)
          refine hK.out _ _ ⟨((HB.out.cell (World.block_lt_of_cell? w _ hw603_0)).trans hw603_0), ((HB.out.cell (World.block_lt_of_cell? w _ hw603_1)).trans hw603_1), ((HB.out.cell (World.block_lt_of_cell? w _ hw605_0)).trans hw605_0), ((HB.out.cell (World.block_lt_of_cell? w _ hw605_1)).trans hw605_1)⟩ (fun hHeld => ?_)
          clear hK K
          refine nm_ 48 ?_
          refine pu_ 11 49 ?_
          refine pu_ 12 50 ?_
          refine tk_ 13 51 ?_
          exact norm_ z16_3_ (hJ3_10_14 (gb606) _ ⟨hHeld, (kR_ BK606), GW606.out, GE606.out, hB_⟩)
         ·skip
          refine box_step ?hg (N := 12) ?hd (cs := #[.int .i64 0]) (t := 3) ?hr ?_; (case hd => rfl); (case hg => rfl); (case hr => first | (go_simp; done) | (go_simp; rfl))
          intro gb607 hg w33 hbox hb
          have BK607 := aM_ (hbox)
          have GW607 := gW_ w hg
          have GE607 := gW_ w hg
          have NB606_607 := nB_ gb606 hg
          have NB607_606 := nC_ gb606 hg
          replace BK606 := kB_ BK606 hb
          replace HB := bS_ hb
          clear hb hbox hg
          refine hK.out _ _ ⟨((HB.out.cell (World.block_lt_of_cell? w _ hw603_0)).trans hw603_0), ((HB.out.cell (World.block_lt_of_cell? w _ hw603_1)).trans hw603_1), ((HB.out.cell (World.block_lt_of_cell? w _ hw605_0)).trans hw605_0), ((HB.out.cell (World.block_lt_of_cell? w _ hw605_1)).trans hw605_1)⟩ (fun hHeld => ?_)
          clear hK K
          refine nm_ 12 ?_
          exact norm_ z16_3_ (hJ3_14_15 (gb606, gb607) _ ⟨hHeld, (kR_ BK606), (kR_ BK607), GW606.out, GE606.out, NB607_606.out, NB606_607.out, GW607.out, GE607.out, hB_⟩)
       ·skip
        rintro _ w32 ⟨hS_, h0_⟩
        try dsimp only at h0_
        have n0_ := aM_ h0_
        clear HB
        clear h0_
        have HB := n0_
        clear n0_
        have hHeld : w32.cell? (ad603.add ((t602).toNat * 2)) = some (.string ((rd_T74 l0 t602).f0)) ∧ w32.cell? ⟨(ad603.add ((t602).toNat * 2)).block, (ad603.add ((t602).toNat * 2)).off + 1, none⟩ = some (.int .i64 ((rd_T74 l0 t602).f1)) ∧ w32.cell? (ad603.add ((t604).toNat * 2)) = some (.string ((rd_T74 l0 t604).f0)) ∧ w32.cell? ⟨(ad603.add ((t604).toNat * 2)).block, (ad603.add ((t604).toNat * 2)).off + 1, none⟩ = some (.int .i64 ((rd_T74 l0 t604).f1)) := hS_
        refine norm_ (a' := ?_) ?_ ?_
        rotate_left
        ·simp only [putAll, Act.put, List.setIfInBounds_toArray, List.set_cons_zero, List.set_cons_succ]
         rfl
        refine two_ (i := 14) (j := 15) (Ni := some 11) (Nj := some 12) (bz_ 18 0x7fff) (bz_ 18 0xbfff) rfl rfl rfl rfl (two_of HT_.out (by kernel_rfl)) (by decide) (by decide) (fun K hK => ?_) (fun K hK => ?_)
        ·skip
         refine box_step ?hg (N := 11) ?hd (cs := #[.int .i64 0]) (t := 3) ?hr ?_; (case hd => rfl); (case hg => rfl); (case hr => first | (go_simp; done) | (go_simp; rfl))
         intro gb606 hg w33 hbox hb
         have BK606 := aM_ (hbox)
         have GW606 := gW_ w hg
         have GE606 := gW_ w hg
         replace HB := bS_ hb
         clear hb hbox hg
         refine hK.out _ _ ⟨((HB.out.cell (World.block_lt_of_cell? w _ hw603_0)).trans hw603_0), ((HB.out.cell (World.block_lt_of_cell? w _ hw603_1)).trans hw603_1), ((HB.out.cell (World.block_lt_of_cell? w _ hw605_0)).trans hw605_0), ((HB.out.cell (World.block_lt_of_cell? w _ hw605_1)).trans hw605_1)⟩ (fun hHeld => ?_)
         clear hK K
         refine nm_ 11 ?_
         exact norm_ z16_3_ (hJ3_10_14 (gb606) _ ⟨hHeld, (kR_ BK606), GW606.out, GE606.out, hB_⟩)
        ·skip
         refine box_step ?hg (N := 12) ?hd (cs := #[.int .i64 0]) (t := 3) ?hr ?_; (case hd => rfl); (case hg => rfl); (case hr => first | (go_simp; done) | (go_simp; rfl))
         intro gb607 hg w33 hbox hb
         have BK607 := aM_ (hbox)
         have GW607 := gW_ w hg
         have GE607 := gW_ w hg
         replace HB := bS_ hb
         clear hb hbox hg
         refine hK.out _ _ ⟨((HB.out.cell (World.block_lt_of_cell? w _ hw603_0)).trans hw603_0), ((HB.out.cell (World.block_lt_of_cell? w _ hw603_1)).trans hw603_1), ((HB.out.cell (World.block_lt_of_cell? w _ hw605_0)).trans hw605_0), ((HB.out.cell (World.block_lt_of_cell? w _ hw605_1)).trans hw605_1)⟩ (fun hHeld => ?_)
         clear hK K
         refine nm_ 12 ?_
         exact norm_ z16_3_ (hJ3_10_15 (gb607) _ ⟨hHeld, (kR_ BK607), GW607.out, GE607.out, hB_⟩)
      ·skip
       rintro ⟨gb606, gb607⟩ w33 ⟨hS_, h0_, h1_, h2_, h3_, h4_, h5_, h6_, h7_, h8_⟩
       try dsimp only at h0_ h1_ h2_ h3_ h4_ h5_ h6_ h7_ h8_
       have n0_ := aM_ h0_; have n1_ := aM_ h1_; have n2_ := aM_ h2_; have n3_ := aM_ h3_; have n4_ := aM_ h4_; have n5_ := aM_ h5_; have n6_ := aM_ h6_; have n7_ := aM_ h7_; have n8_ := aM_ h8_
       clear HB
       clear h0_ h1_ h2_ h3_ h4_ h5_ h6_ h7_ h8_
       have BK606 := n0_
       have BK607 := n1_
       have GW606 := n2_
       have GE606 := n3_
       have NB607_606 := n4_
       have NB606_607 := n5_
       have GW607 := n6_
       have GE607 := n7_
       have HB := n8_
       clear n0_ n1_ n2_ n3_ n4_ n5_ n6_ n7_ n8_
       have hHeld : w33.cell? (ad603.add ((t602).toNat * 2)) = some (.string ((rd_T74 l0 t602).f0)) ∧ w33.cell? ⟨(ad603.add ((t602).toNat * 2)).block, (ad603.add ((t602).toNat * 2)).off + 1, none⟩ = some (.int .i64 ((rd_T74 l0 t602).f1)) ∧ w33.cell? (ad603.add ((t604).toNat * 2)) = some (.string ((rd_T74 l0 t604).f0)) ∧ w33.cell? ⟨(ad603.add ((t604).toNat * 2)).block, (ad603.add ((t604).toNat * 2)).off + 1, none⟩ = some (.int .i64 ((rd_T74 l0 t604).f1)) := hS_
       refine norm_ (a' := ?_) ?_ ?_
       rotate_left
       ·simp only [putAll, Act.put, List.setIfInBounds_toArray, List.set_cons_zero, List.set_cons_succ]
        rfl
       refine on_ 10 48 fun K hK => ?_
       refine gS_ Tryz.func39 #[.slice (some ad603) l0.length c0, .string a3] ?_
       with_reducible refine (FaN.calls kj4 _ _ l0 a3 t604 _ ?side1 ?side2 A26.out).mono ?_
       (case side1 => repeat (first | exact (Kd.C_below HR0.out HB.out) | (with_reducible first | apply cA_ | apply cN_ | apply cD_)))
       (case side2 => exact HC0.out)
       rintro e w34 ⟨rfl, hb⟩
       refine ⟨_, rfl, ?_⟩
       replace BK606 := kB_ BK606 hb
       replace BK607 := kB_ BK607 hb
       replace HB := bS_ hb
       (try clear hb)
       (try clear hb2)
       (try clear hk)
       (try clear hi)
       refine hK.out _ _ ⟨((HB.out.cell (World.block_lt_of_cell? w _ hw603_0)).trans hw603_0), ((HB.out.cell (World.block_lt_of_cell? w _ hw603_1)).trans hw603_1), ((HB.out.cell (World.block_lt_of_cell? w _ hw605_0)).trans hw605_0), ((HB.out.cell (World.block_lt_of_cell? w _ hw605_1)).trans hw605_1)⟩ (fun hHeld => ?_)
       clear hK K
       refine nm_ 48 ?_
       refine pu_ 11 49 ?_
       refine pu_ 12 50 ?_
       refine tk_ 13 51 ?_
       exact norm_ z16_3_ (hJ3_10_14_15 (gb606, gb607) _ ⟨hHeld, (kR_ BK606), (kR_ BK607), GW606.out, GE606.out, NB607_606.out, NB606_607.out, GW607.out, GE607.out, hB_⟩)
     ·skip
      rintro gb607 w33 ⟨hS_, h0_, h1_, h2_, h3_⟩
      try dsimp only at h0_ h1_ h2_ h3_
      have n0_ := aM_ h0_; have n1_ := aM_ h1_; have n2_ := aM_ h2_; have n3_ := aM_ h3_
      clear HB
      clear h0_ h1_ h2_ h3_
      have BK607 := n0_
      have GW607 := n1_
      have GE607 := n2_
      have HB := n3_
      clear n0_ n1_ n2_ n3_
      have hHeld : w33.cell? (ad603.add ((t602).toNat * 2)) = some (.string ((rd_T74 l0 t602).f0)) ∧ w33.cell? ⟨(ad603.add ((t602).toNat * 2)).block, (ad603.add ((t602).toNat * 2)).off + 1, none⟩ = some (.int .i64 ((rd_T74 l0 t602).f1)) ∧ w33.cell? (ad603.add ((t604).toNat * 2)) = some (.string ((rd_T74 l0 t604).f0)) ∧ w33.cell? ⟨(ad603.add ((t604).toNat * 2)).block, (ad603.add ((t604).toNat * 2)).off + 1, none⟩ = some (.int .i64 ((rd_T74 l0 t604).f1)) := hS_
      refine norm_ (a' := ?_) ?_ ?_
      rotate_left
      ·simp only [putAll, Act.put, List.setIfInBounds_toArray, List.set_cons_zero, List.set_cons_succ]
       rfl
      refine on_ 14 11 fun K hK => ?_
      refine box_step ?hg (N := 11) ?hd (cs := #[.int .i64 0]) (t := 3) ?hr ?_; (case hd => rfl); (case hg => rfl); (case hr => first | (go_simp; done) | (go_simp; rfl))
      intro gb606 hg w34 hbox hb
      have BK606 := aM_ (hbox)
      have GW606 := gW_ w hg
      have GE606 := gW_ w hg
      have NB607_606 := nB_ gb607 hg
      have NB606_607 := nC_ gb607 hg
      replace BK607 := kB_ BK607 hb
      replace HB := bS_ hb
      clear hb hbox hg
      refine hK.out _ _ ⟨((HB.out.cell (World.block_lt_of_cell? w _ hw603_0)).trans hw603_0), ((HB.out.cell (World.block_lt_of_cell? w _ hw603_1)).trans hw603_1), ((HB.out.cell (World.block_lt_of_cell? w _ hw605_0)).trans hw605_0), ((HB.out.cell (World.block_lt_of_cell? w _ hw605_1)).trans hw605_1)⟩ (fun hHeld => ?_)
      clear hK K
      refine nm_ 11 ?_
      exact norm_ z16_3_ (hJ3_10_14_15 (gb606, gb607) _ ⟨hHeld, (kR_ BK606), (kR_ BK607), GW606.out, GE606.out, NB607_606.out, NB606_607.out, GW607.out, GE607.out, hB_⟩)
    ·skip
     rintro gb606 w33 ⟨hS_, h0_, h1_, h2_, h3_⟩
     try dsimp only at h0_ h1_ h2_ h3_
     have n0_ := aM_ h0_; have n1_ := aM_ h1_; have n2_ := aM_ h2_; have n3_ := aM_ h3_
     clear HB
     clear h0_ h1_ h2_ h3_
     have BK606 := n0_
     have GW606 := n1_
     have GE606 := n2_
     have HB := n3_
     clear n0_ n1_ n2_ n3_
     have hHeld : w33.cell? (ad603.add ((t602).toNat * 2)) = some (.string ((rd_T74 l0 t602).f0)) ∧ w33.cell? ⟨(ad603.add ((t602).toNat * 2)).block, (ad603.add ((t602).toNat * 2)).off + 1, none⟩ = some (.int .i64 ((rd_T74 l0 t602).f1)) ∧ w33.cell? (ad603.add ((t604).toNat * 2)) = some (.string ((rd_T74 l0 t604).f0)) ∧ w33.cell? ⟨(ad603.add ((t604).toNat * 2)).block, (ad603.add ((t604).toNat * 2)).off + 1, none⟩ = some (.int .i64 ((rd_T74 l0 t604).f1)) := hS_
     refine norm_ (a' := ?_) ?_ ?_
     rotate_left
     ·simp only [putAll, Act.put, List.setIfInBounds_toArray, List.set_cons_zero, List.set_cons_succ]
      rfl
     refine on_ 15 12 fun K hK => ?_
     refine box_step ?hg (N := 12) ?hd (cs := #[.int .i64 0]) (t := 3) ?hr ?_; (case hd => rfl); (case hg => rfl); (case hr => first | (go_simp; done) | (go_simp; rfl))
     intro gb607 hg w34 hbox hb
     have BK607 := aM_ (hbox)
     have GW607 := gW_ w hg
     have GE607 := gW_ w hg
     have NB606_607 := nB_ gb606 hg
     have NB607_606 := nC_ gb606 hg
     replace BK606 := kB_ BK606 hb
     replace HB := bS_ hb
     clear hb hbox hg
     refine hK.out _ _ ⟨((HB.out.cell (World.block_lt_of_cell? w _ hw603_0)).trans hw603_0), ((HB.out.cell (World.block_lt_of_cell? w _ hw603_1)).trans hw603_1), ((HB.out.cell (World.block_lt_of_cell? w _ hw605_0)).trans hw605_0), ((HB.out.cell (World.block_lt_of_cell? w _ hw605_1)).trans hw605_1)⟩ (fun hHeld => ?_)
     clear hK K
     refine nm_ 12 ?_
     exact norm_ z16_3_ (hJ3_10_14_15 (gb606, gb607) _ ⟨hHeld, (kR_ BK606), (kR_ BK607), GW606.out, GE606.out, NB607_606.out, NB606_607.out, GW607.out, GE607.out, hB_⟩)
   rintro ⟨gb606, gb607⟩ w34 ⟨hS_, h0_, h1_, h2_, h3_, h4_, h5_, h6_, h7_, h8_⟩
   try dsimp only at h0_ h1_ h2_ h3_ h4_ h5_ h6_ h7_ h8_
   have n0_ := aM_ h0_; have n1_ := aM_ h1_; have n2_ := aM_ h2_; have n3_ := aM_ h3_; have n4_ := aM_ h4_; have n5_ := aM_ h5_; have n6_ := aM_ h6_; have n7_ := aM_ h7_; have n8_ := aM_ h8_
   clear HB
   clear h0_ h1_ h2_ h3_ h4_ h5_ h6_ h7_ h8_
   have BK606 := n0_
   have BK607 := n1_
   have GW606 := n2_
   have GE606 := n3_
   have NB607_606 := n4_
   have NB606_607 := n5_
   have GW607 := n6_
   have GE607 := n7_
   have HB := n8_
   clear n0_ n1_ n2_ n3_ n4_ n5_ n6_ n7_ n8_
   have hHeld : w34.cell? (ad603.add ((t602).toNat * 2)) = some (.string ((rd_T74 l0 t602).f0)) ∧ w34.cell? ⟨(ad603.add ((t602).toNat * 2)).block, (ad603.add ((t602).toNat * 2)).off + 1, none⟩ = some (.int .i64 ((rd_T74 l0 t602).f1)) ∧ w34.cell? (ad603.add ((t604).toNat * 2)) = some (.string ((rd_T74 l0 t604).f0)) ∧ w34.cell? ⟨(ad603.add ((t604).toNat * 2)).block, (ad603.add ((t604).toNat * 2)).off + 1, none⟩ = some (.int .i64 ((rd_T74 l0 t604).f1)) := hS_
   refine norm_ (a' := ?_) ?_ ?_
   rotate_left
   ·simp only [putAll, Act.put, List.setIfInBounds_toArray, List.set_cons_zero, List.set_cons_succ]
    rfl
   refine one_ (i := 16) (N := none) (bz_ 18 0x1ffff) rfl rfl (one_of HT_.out (by kernel_rfl)) (by decide) (fun K hK => ?_)
   have hs35 : w34.cell? ⟨gb606, 0, none⟩ = some (.int .i64 0) := (blk_cell BK606.out 0).trans rfl
   have hfs35 := blk_frozen BK606.out 0
   have hns35_1 := NB607_606.out
   have hms35_1 := NB606_607.out
   refine skip_ (w1 := ?_) (by rfl) rfl ?_ ?_
   rotate_left
   ·go_simp
    rfl
   refine hK.out _ _ ⟨((cell_far (p := ⟨gb606, _, none⟩) (by first | exact Nat.ne_of_lt (Nat.lt_of_lt_of_le z16_4_ GW606.out) | (rw [add_block]; exact Nat.ne_of_lt (Nat.lt_of_lt_of_le z16_4_ GW606.out)) | (show (Addr.add _ _).block ≠ _; rw [add_block]; exact Nat.ne_of_lt (Nat.lt_of_lt_of_le z16_4_ GW606.out)) | (dsimp only; exact Nat.ne_of_lt (Nat.lt_of_lt_of_le z16_4_ GW606.out))) _).trans (hHeld.1)), ((cell_far (p := ⟨gb606, _, none⟩) (by first | exact Nat.ne_of_lt (Nat.lt_of_lt_of_le z16_5_ GW606.out) | (rw [add_block]; exact Nat.ne_of_lt (Nat.lt_of_lt_of_le z16_5_ GW606.out)) | (show (Addr.add _ _).block ≠ _; rw [add_block]; exact Nat.ne_of_lt (Nat.lt_of_lt_of_le z16_5_ GW606.out)) | (dsimp only; exact Nat.ne_of_lt (Nat.lt_of_lt_of_le z16_5_ GW606.out))) _).trans (hHeld.2.1)), ((cell_far (p := ⟨gb606, _, none⟩) (by first | exact Nat.ne_of_lt (Nat.lt_of_lt_of_le z16_6_ GW606.out) | (rw [add_block]; exact Nat.ne_of_lt (Nat.lt_of_lt_of_le z16_6_ GW606.out)) | (show (Addr.add _ _).block ≠ _; rw [add_block]; exact Nat.ne_of_lt (Nat.lt_of_lt_of_le z16_6_ GW606.out)) | (dsimp only; exact Nat.ne_of_lt (Nat.lt_of_lt_of_le z16_6_ GW606.out))) _).trans (hHeld.2.2.1)), ((cell_far (p := ⟨gb606, _, none⟩) (by first | exact Nat.ne_of_lt (Nat.lt_of_lt_of_le z16_7_ GW606.out) | (rw [add_block]; exact Nat.ne_of_lt (Nat.lt_of_lt_of_le z16_7_ GW606.out)) | (show (Addr.add _ _).block ≠ _; rw [add_block]; exact Nat.ne_of_lt (Nat.lt_of_lt_of_le z16_7_ GW606.out)) | (dsimp only; exact Nat.ne_of_lt (Nat.lt_of_lt_of_le z16_7_ GW606.out))) _).trans (hHeld.2.2.2))⟩ (fun hHeld => ?_)
   clear hK K
   refine one_ (i := 17) (N := none) (bz_ 18 0x3ffff) rfl rfl (one_of HT_.out (by kernel_rfl)) (by decide) (fun K hK => ?_)
   have hs36 : w34.cell? ⟨gb607, 0, none⟩ = some (.int .i64 0) := (blk_cell BK607.out 0).trans rfl
   have hfs36 := blk_frozen BK607.out 0
   have hns36_0 := NB606_607.out
   have hms36_0 := NB607_606.out
   refine skip_ (w1 := ?_) (by rfl) rfl ?_ ?_
   rotate_left
   ·go_simp
    rfl
   refine hK.out _ _ ⟨((cell_far (p := ⟨gb607, _, none⟩) (by first | exact Nat.ne_of_lt (Nat.lt_of_lt_of_le z16_4_ GW607.out) | (rw [add_block]; exact Nat.ne_of_lt (Nat.lt_of_lt_of_le z16_4_ GW607.out)) | (show (Addr.add _ _).block ≠ _; rw [add_block]; exact Nat.ne_of_lt (Nat.lt_of_lt_of_le z16_4_ GW607.out)) | (dsimp only; exact Nat.ne_of_lt (Nat.lt_of_lt_of_le z16_4_ GW607.out))) _).trans (hHeld.1)), ((cell_far (p := ⟨gb607, _, none⟩) (by first | exact Nat.ne_of_lt (Nat.lt_of_lt_of_le z16_5_ GW607.out) | (rw [add_block]; exact Nat.ne_of_lt (Nat.lt_of_lt_of_le z16_5_ GW607.out)) | (show (Addr.add _ _).block ≠ _; rw [add_block]; exact Nat.ne_of_lt (Nat.lt_of_lt_of_le z16_5_ GW607.out)) | (dsimp only; exact Nat.ne_of_lt (Nat.lt_of_lt_of_le z16_5_ GW607.out))) _).trans (hHeld.2.1)), ((cell_far (p := ⟨gb607, _, none⟩) (by first | exact Nat.ne_of_lt (Nat.lt_of_lt_of_le z16_6_ GW607.out) | (rw [add_block]; exact Nat.ne_of_lt (Nat.lt_of_lt_of_le z16_6_ GW607.out)) | (show (Addr.add _ _).block ≠ _; rw [add_block]; exact Nat.ne_of_lt (Nat.lt_of_lt_of_le z16_6_ GW607.out)) | (dsimp only; exact Nat.ne_of_lt (Nat.lt_of_lt_of_le z16_6_ GW607.out))) _).trans (hHeld.2.2.1)), ((cell_far (p := ⟨gb607, _, none⟩) (by first | exact Nat.ne_of_lt (Nat.lt_of_lt_of_le z16_7_ GW607.out) | (rw [add_block]; exact Nat.ne_of_lt (Nat.lt_of_lt_of_le z16_7_ GW607.out)) | (show (Addr.add _ _).block ≠ _; rw [add_block]; exact Nat.ne_of_lt (Nat.lt_of_lt_of_le z16_7_ GW607.out)) | (dsimp only; exact Nat.ne_of_lt (Nat.lt_of_lt_of_le z16_7_ GW607.out))) _).trans (hHeld.2.2.2))⟩ (fun hHeld => ?_)
   clear hK K
   refine dn_ ?_
   try go_wp2
   go_loopg [14, 55] kj4 (fun kq v14 v55 w' => ∃ (x14_2 x55_2 : Int), v14 = .int .i64 x14_2 ∧ v55 = .int .i64 x55_2 ∧ Aside0 (Faf.l0 kq l1 x14_2 l1 (l1.length : Int) x55_2 ((rd_T74 l0 t602).f1) ((rd_T74 l0 t604).f1) = some (r1, r2, r3)) ∧ Aside0 (kq ≤ kj4) ∧ Aside0 (w'.heap[gb606]? = some (.cells #[.int .i64 ((rd_T74 l0 t602).f1)] 3 (0, 0))) ∧ Aside0 (w'.heap[gb607]? = some (.cells #[.int .i64 ((rd_T74 l0 t604).f1)] 3 (0, 0))) ∧ Aside0 (Below w.heap.size w w'))
   case atStart => exact ⟨(0), (0), z16_0_, z16_0_, H', ⟨Nat.le_refl _⟩, ⟨by (with_reducible repeat (first | apply kN_ | apply kD_ | apply kA_)); refine blk_far ?_ NB606_607.out _; (with_reducible repeat (first | apply kN_ | apply kD_ | apply kA_)); refine blk_put (cs := #[.int .i64 0]) ?_ 0 _ rfl; (with_reducible repeat (first | apply kN_ | apply kD_ | apply kA_)); exact BK606.out⟩, ⟨by (with_reducible repeat (first | apply kN_ | apply kD_ | apply kA_)); refine blk_put (cs := #[.int .i64 0]) ?_ 0 _ rfl; exact kR_ BK607⟩, ⟨hB_⟩⟩
   case round =>
    clear H'
    obtain ⟨x14_2, x55_2, rfl, rfl, HA, HK2, BK606, BK607, HB⟩ := hrel
    cases gk with
    | zero => exact absurd HA.out (by simp [Faf.l0])
    | succ k2 =>
     have H := HA.out
     clear HA
     simp only [Faf.l0] at H
     replace H := iF_ H; obtain ⟨c37b0, H⟩ | ⟨c37b0, H⟩ := H
     ·replace H := ig_ H; obtain ⟨c54b0, H⟩ := H
      replace H := ig_ H; obtain ⟨c55b0, H⟩ := H
      replace H := ob_ H; obtain ⟨t609, A56, H⟩ := H; try dsimp only at H
      simp only [Option.some.injEq, Prod.mk.injEq] at H
      obtain ⟨rfl, rfl, rfl⟩ := H
      obtain ⟨⟨ad608, e608, hx608_0, hx608_1, hx608_2⟩, p608, q608⟩ := at2_ (at_T40 HR1.out x14_2); cases e608
      try replace hx608_0 := hc_ HB hx608_0; try replace hx608_1 := hc_ HB hx608_1; try replace hx608_2 := hc_ HB hx608_2
      go_wp2_with (first | ((with_reducible refine gate_via (t := 73) rfl ?_); refine goesV_ (some 78) rfl rfl Tryz.func40 (by kernel_rfl) rfl #[.agg #[.string ((rd_T40 l1 x14_2).f0), .int .i64 ((rd_T40 l1 x14_2).f1), .int .i64 ((rd_T40 l1 x14_2).f2)], .pointer (some ⟨gb606, 0, none⟩), .pointer (some ⟨gb607, 0, none⟩)] rfl rfl (by (try simp only [List.map_toArray, List.map_cons, List.map_nil]); first | done | rfl | simp | (simp; rfl)) ?_; (with_reducible refine (Fa5.calls ((rd_T40 l1 x14_2).f0) ((rd_T40 l1 x14_2).f1) ((rd_T40 l1 x14_2).f2) gb606 ((rd_T74 l0 t602).f1) gb607 ((rd_T74 l0 t604).f1) t609 _ ?_ ?_ A56.out).mono ?_); exact kR_ BK606; exact kR_ BK607; rintro e w57 ⟨rfl, hb⟩; refine ⟨_, rfl, ?_⟩; replace BK606 := kB_ BK606 hb; replace BK607 := kB_ BK607 hb; replace HB := bS_ hb; (try clear hb)))
      go_ret3
      exact ⟨rT_, hB_⟩
     replace H := ig_ H; obtain ⟨c38b0, H⟩ := H
     replace H := ig_ H; obtain ⟨c39b0, H⟩ := H
     replace H := ob_ H; obtain ⟨t612, A40, H⟩ := H; try dsimp only at H
     replace H := ig_ H; obtain ⟨c41b0, H⟩ := H
     replace H := ig_ H; obtain ⟨c42b0, H⟩ := H
     replace H := ob_ H; obtain ⟨t614, A43, H⟩ := H; try dsimp only at H
     have HC44 := aM_ H
     clear H
     obtain ⟨⟨ad610, e610, hx610_0, hx610_1, hx610_2⟩, p610, q610⟩ := at2_ (at_T40 HR1.out x55_2); cases e610
     try replace hx610_0 := hc_ HB hx610_0; try replace hx610_1 := hc_ HB hx610_1; try replace hx610_2 := hc_ HB hx610_2
     try go_wp2_with (first | ((with_reducible refine gD_ 16 ?_); (try (refine gate_guard (by rfl) ?_; dsimp only)); refine bx_ 16 #[.string (⟨#[]⟩ : ByteArray), .int .i64 0, .int .i64 0] 40 fun gb611 hg w45 hbox hb => ?_; have BK611 := aM_ (hbox); have GW611 := gW_ w hg; have GE611 := gW_ w hg; have NB606_611 := aM_ (nR_ BK606 hg); have NB611_606 := aM_ (mR_ BK606 hg); have NB607_611 := aM_ (nR_ BK607 hg); have NB611_607 := aM_ (mR_ BK607 hg); replace BK606 := kB_ BK606 hb; replace BK607 := kB_ BK607 hb; replace HB := bS_ hb; clear hb hbox hg; have hnb46 := NB611_606.out; have hnc46 := NB606_611.out; have hnb47 := NB611_607.out; have hnc47 := NB607_611.out; have hz48 := cf3_ BK611.out))
     have n0_ : Aside0 ((((w45.setCell ⟨gb611, 0, none⟩ (.string ((rd_T40 l1 x55_2).f0))).setCell ⟨gb611, 1, none⟩ (.int .i64 ((rd_T40 l1 x55_2).f1))).setCell ⟨gb611, 2, none⟩ (.int .i64 ((rd_T40 l1 x55_2).f2))).heap[gb606]? = some (.cells #[.int .i64 ((rd_T74 l0 t602).f1)] 3 (0, 0))) := ⟨by exact kR_ BK606⟩
     have n1_ : Aside0 ((((w45.setCell ⟨gb611, 0, none⟩ (.string ((rd_T40 l1 x55_2).f0))).setCell ⟨gb611, 1, none⟩ (.int .i64 ((rd_T40 l1 x55_2).f1))).setCell ⟨gb611, 2, none⟩ (.int .i64 ((rd_T40 l1 x55_2).f2))).heap[gb607]? = some (.cells #[.int .i64 ((rd_T74 l0 t604).f1)] 3 (0, 0))) := ⟨by exact kR_ BK607⟩
     have n2_ : Aside0 ((((w45.setCell ⟨gb611, 0, none⟩ (.string ((rd_T40 l1 x55_2).f0))).setCell ⟨gb611, 1, none⟩ (.int .i64 ((rd_T40 l1 x55_2).f1))).setCell ⟨gb611, 2, none⟩ (.int .i64 ((rd_T40 l1 x55_2).f2))).heap[gb611]? = some (.cells #[.string ((rd_T40 l1 x55_2).f0), .int .i64 ((rd_T40 l1 x55_2).f1), .int .i64 ((rd_T40 l1 x55_2).f2)] 40 (0, 0))) := ⟨by (with_reducible repeat (first | apply kN_ | apply kD_ | apply kA_)); refine blk_put (cs := #[.string ((rd_T40 l1 x55_2).f0), .int .i64 ((rd_T40 l1 x55_2).f1), .int .i64 0]) ?_ 2 _ rfl; (with_reducible repeat (first | apply kN_ | apply kD_ | apply kA_)); refine blk_put (cs := #[.string ((rd_T40 l1 x55_2).f0), .int .i64 0, .int .i64 0]) ?_ 1 _ rfl; (with_reducible repeat (first | apply kN_ | apply kD_ | apply kA_)); refine blk_put (cs := #[.string (⟨#[]⟩ : ByteArray), .int .i64 0, .int .i64 0]) ?_ 0 _ rfl; (with_reducible repeat (first | apply kN_ | apply kD_ | apply kA_)); exact BK611.out⟩
     have n3_ : Aside0 (Below w.heap.size w (((w45.setCell ⟨gb611, 0, none⟩ (.string ((rd_T40 l1 x55_2).f0))).setCell ⟨gb611, 1, none⟩ (.int .i64 ((rd_T40 l1 x55_2).f1))).setCell ⟨gb611, 2, none⟩ (.int .i64 ((rd_T40 l1 x55_2).f2)))) := ⟨hB_⟩
     (try clear BK606)
     (try clear BK607)
     (try clear BK611)
     (try clear HB)
     repeat rw [sd_]
     generalize (((w45.setCell ⟨gb611, 0, none⟩ (.string ((rd_T40 l1 x55_2).f0))).setCell ⟨gb611, 1, none⟩ (.int .i64 ((rd_T40 l1 x55_2).f1))).setCell ⟨gb611, 2, none⟩ (.int .i64 ((rd_T40 l1 x55_2).f2))) = w49 at n0_ n1_ n2_ n3_ ⊢
     have BK606 := n0_
     have BK607 := n1_
     have BK611 := n2_
     have HB := n3_
     clear n0_ n1_ n2_ n3_
     replace BK606 := aM_ (blk_drew BK606.out)
     replace BK607 := aM_ (blk_drew BK607.out)
     replace BK611 := aM_ (blk_drew BK611.out)
     replace HB := aM_ (below_drew1 HB.out)
     have p613 : 0 ≤ (x14_2 : Int) := ode_
     have q613 : x14_2 < (l1.length : Int) := ode_
     obtain ⟨ad613, e613, hx613_0, hx613_1, hx613_2⟩ := at_T40 HR1.out x14_2 p613 q613
     have hw613_2 := hx613_2
     have hw613_1 := hx613_1
     have hw613_0 := hx613_0
     obtain rfl : ad610 = ad613 := (by injection e613)
     try replace hx613_0 := hc_ HB hx613_0
     try replace hx613_1 := hc_ HB hx613_1
     try replace hx613_2 := hc_ HB hx613_2
     replace p613 := eq_true p613
     replace q613 := eq_true q613
     refine st_ 10 (fun w' => w'.cell? ⟨gb611, 0, none⟩ = some (.string ((rd_T40 l1 x55_2).f0)) ∧ w'.cell? ⟨gb611, 1, none⟩ = some (.int .i64 ((rd_T40 l1 x55_2).f1)) ∧ w'.cell? ⟨gb611, 2, none⟩ = some (.int .i64 ((rd_T40 l1 x55_2).f2)) ∧ w'.cell? (ad610.add ((x14_2).toNat * 3)) = some (.string ((rd_T40 l1 x14_2).f0)) ∧ w'.cell? ⟨(ad610.add ((x14_2).toNat * 3)).block, (ad610.add ((x14_2).toNat * 3)).off + 1, none⟩ = some (.int .i64 ((rd_T40 l1 x14_2).f1)) ∧ w'.cell? ⟨(ad610.add ((x14_2).toNat * 3)).block, (ad610.add ((x14_2).toNat * 3)).off + 2, none⟩ = some (.int .i64 ((rd_T40 l1 x14_2).f2))) [] Faf.tab9 Faf.bits9 ⟨(blk_cell BK611.out 0).trans rfl, (blk_cell BK611.out 1).trans rfl, (blk_cell BK611.out 2).trans rfl, ((HB.out.cell (World.block_lt_of_cell? w _ hw613_0)).trans hw613_0), ((HB.out.cell (World.block_lt_of_cell? w _ hw613_1)).trans hw613_1), ((HB.out.cell (World.block_lt_of_cell? w _ hw613_2)).trans hw613_2)⟩ fun hHeld HT_ HW_ => ?_
     generalize w49.drew = w50 at BK606 BK607 BK611 HB hx613_0 hx613_1 hx613_2 hHeld ⊢
     refine pu_ 0 60 ?_
     refine pu_ 3 63 ?_
     refine pu_ 4 64 ?_
     refine pu_ 5 65 ?_
     refine pu_ 6 66 ?_
     refine tk_ 1 61 ?_
     refine tk_ 7 67 ?_
     refine on_ 2 62 fun K hK => ?_
     refine goesW_ Tryz.func40 (by kernel_rfl) rfl #[.agg #[.string ((rd_T40 l1 x55_2).f0), .int .i64 ((rd_T40 l1 x55_2).f1), .int .i64 ((rd_T40 l1 x55_2).f2)], .pointer (some ⟨gb606, 0, none⟩), .pointer (some ⟨gb607, 0, none⟩)] (by rfl) rfl rfl rfl aR_ ?_
     with_reducible refine (Fa5.calls ((rd_T40 l1 x55_2).f0) ((rd_T40 l1 x55_2).f1) ((rd_T40 l1 x55_2).f2) gb606 ((rd_T74 l0 t602).f1) gb607 ((rd_T74 l0 t604).f1) t612 _ ?side1 ?side2 A40.out).mono ?_
     (case side1 => exact kR_ BK606)
     (case side2 => exact kR_ BK607)
     rintro e w51 ⟨rfl, hb⟩
     refine ⟨_, rfl, ?_⟩
     replace BK606 := kB_ BK606 hb
     replace BK607 := kB_ BK607 hb
     replace BK611 := kB_ BK611 hb
     replace HB := bS_ hb
     (try clear hb)
     (try clear hb2)
     (try clear hk)
     (try clear hi)
     refine hK.out _ _ ⟨(blk_cell BK611.out 0).trans rfl, (blk_cell BK611.out 1).trans rfl, (blk_cell BK611.out 2).trans rfl, ((HB.out.cell (World.block_lt_of_cell? w _ hw613_0)).trans hw613_0), ((HB.out.cell (World.block_lt_of_cell? w _ hw613_1)).trans hw613_1), ((HB.out.cell (World.block_lt_of_cell? w _ hw613_2)).trans hw613_2)⟩ (fun hHeld => ?_)
     clear hK K
     refine nm_ 62 ?_
     refine on_ 8 68 fun K hK => ?_
     refine goesW_ Tryz.func40 (by kernel_rfl) rfl #[.agg #[.string ((rd_T40 l1 x14_2).f0), .int .i64 ((rd_T40 l1 x14_2).f1), .int .i64 ((rd_T40 l1 x14_2).f2)], .pointer (some ⟨gb606, 0, none⟩), .pointer (some ⟨gb607, 0, none⟩)] (by rfl) rfl rfl rfl aR_ ?_
     with_reducible refine (Fa5.calls ((rd_T40 l1 x14_2).f0) ((rd_T40 l1 x14_2).f1) ((rd_T40 l1 x14_2).f2) gb606 ((rd_T74 l0 t602).f1) gb607 ((rd_T74 l0 t604).f1) t614 _ ?side1 ?side2 A43.out).mono ?_
     (case side1 => exact kR_ BK606)
     (case side2 => exact kR_ BK607)
     rintro e w52 ⟨rfl, hb⟩
     refine ⟨_, rfl, ?_⟩
     replace BK606 := kB_ BK606 hb
     replace BK607 := kB_ BK607 hb
     replace BK611 := kB_ BK611 hb
     replace HB := bS_ hb
     (try clear hb)
     (try clear hb2)
     (try clear hk)
     (try clear hi)
     refine hK.out _ _ ⟨(blk_cell BK611.out 0).trans rfl, (blk_cell BK611.out 1).trans rfl, (blk_cell BK611.out 2).trans rfl, ((HB.out.cell (World.block_lt_of_cell? w _ hw613_0)).trans hw613_0), ((HB.out.cell (World.block_lt_of_cell? w _ hw613_1)).trans hw613_1), ((HB.out.cell (World.block_lt_of_cell? w _ hw613_2)).trans hw613_2)⟩ (fun hHeld => ?_)
     clear hK K
     refine nm_ 68 ?_
     refine pu_ 9 69 ?_
     refine dn_ ?_
     go_upto_if 69 with (fail)
     have H := HC44.out
     clear HC44
     replace H := iT_ H; obtain ⟨c53b0, H⟩ | ⟨c53b0, H⟩ := H
     ·(first | rw [c53b0] | (simp only [i64_w, i32_w]; rw [c53b0]) | skip)
      have H' := aM_ H
      clear H
      go_wp2
      go_roundg k2
      case measure => have := HJ4.out; have := HK2.out; omega
      case rel => exact ⟨(x55_2), (wrap64 (x55_2 + 1)), z16_0_, z16_0_, H', ⟨by have := HJ4.out; have := HK2.out; omega⟩, ⟨kP_⟩, ⟨kP_⟩, ⟨hB_⟩⟩
     (first | rw [c53b0] | (simp only [i64_w, i32_w]; rw [c53b0]) | skip)
     have H' := aM_ H
     clear H
     go_wp2
     go_roundg k2
     case measure => have := HJ4.out; have := HK2.out; omega
     case rel => exact ⟨(x14_2), (wrap64 (x55_2 + 1)), z16_0_, z16_0_, H', ⟨by have := HJ4.out; have := HK2.out; omega⟩, ⟨kP_⟩, ⟨kP_⟩, ⟨hB_⟩⟩

end Go.Proofs.YtbfkpgmdbafmhaaGreat.PFnVerbRuns
