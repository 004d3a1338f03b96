/- Printed for this claim: functions of the program as Lean functions, and that the calls answer so. -/
import Derived.Test.YtbfkpgmdbafmhaaPFnTierCountsx0
import Derived.Test.YtbfkpgmdbafmhaaPFnTierCountsx5
import Derived.Test.YtbfkpgmdbafmhaaPFnTierCountsxD0
import Derived.Test.YtbfkpgmdbafmhaaPFnTierCountsxD1
namespace Go.Proofs.Ytbfkpgmdbafmhaa.PFnTierCounts
open Go.RowKit Go.Proofs.YtbfkpgmdbafmhaaW.PrintWords Go.Proofs.YtbfkpgmdbafmhaaW.PrintLast Go.Proofs.YtbfkpgmdbafmhaaW.PrintMore
attribute [local go_sem] max2_int min2_int max_two min_two max_three min_three max_four min_four isSome_setCell   -- for this text's walks alone
attribute [local go_sem high] gtr_lt
set_option linter.unusedVariables false
set_option linter.unusedSimpArgs false

theorem z6_0_ {p : Prop} (h : p := by first | exact Kd.R_nil _ _ _ _ _ | exact Kd.N_nil _ _ _ _ _ | exact Kd.V_nil _ _ _ _ _ | exact Kd.Q_nil _ _ _ _ _ | exact Kd.S_nil _ _ _ _ _) : p := h
theorem z6_1_ {p : Prop} (h : p := by first | rfl | (simp; done) | (simp [*]; done)) : p := h
theorem z6_2_ {p : Prop} (h : p := by simp only [putAll, Act.put, List.setIfInBounds_toArray, List.set_cons_zero, List.set_cons_succ]) : p := h
theorem z6_3_ {p : Prop} (h : p := by have := HK1.out; have := HK2.out; omega) : p := h
/-! ### spec_CountGlosses: function 6 -/
def spec_CountGlosses.T9 : Bool × List (List Nat × List Nat) := (true, [([], []), ([], []), ([1], [1]), ([0, 2], [0, 2]), ([3], [3]), ([4], [4]), ([4], [4]), ([5, 6, 4], [4, 5, 6]), ([7, 4], [4, 7]), ([4], [4]), ([9, 4], [4, 9]), ([8, 10, 4], [4, 8, 10]), ([4, 11], [4, 11])])
def spec_CountGlosses.B9 : List Nat := [0, 0, 2, 7, 15, 31, 31, 127, 255, 31, 543, 2047, 4095]
theorem spec_CountGlosses.tab9 : rtab .any (opsOf Try.f6 9) = spec_CountGlosses.T9 := by kernel_rfl
theorem spec_CountGlosses.bits9 : waitsOk spec_CountGlosses.T9.2 spec_CountGlosses.B9 = true := by kernel_rfl
def spec_CountGlosses.T11 : Bool × List (List Nat × List Nat) := (true, [([], []), ([], []), ([1], [1]), ([0, 2], [0, 2]), ([3], [3]), ([4], [4]), ([4], [4]), ([5, 6, 4], [4, 5, 6]), ([7, 4], [4, 7]), ([4], [4]), ([9, 4], [4, 9]), ([8, 10, 4], [4, 8, 10]), ([4, 11], [4, 11])])
def spec_CountGlosses.B11 : List Nat := [0, 0, 2, 7, 15, 31, 31, 127, 255, 31, 543, 2047, 4095]
theorem spec_CountGlosses.tab11 : rtab .any (opsOf Try.f6 11) = spec_CountGlosses.T11 := by kernel_rfl
theorem spec_CountGlosses.bits11 : waitsOk spec_CountGlosses.T11.2 spec_CountGlosses.B11 = true := by kernel_rfl
def spec_CountGlosses.T13 : Bool × List (List Nat × List Nat) := (true, [([], []), ([], []), ([], []), ([1, 2], [1, 2]), ([0, 3], [0, 3]), ([], []), ([5], [5]), ([6], [6]), ([4, 7, 4], [4, 7]), ([], []), ([], []), ([9, 10], [9, 10]), ([8, 11, 8], [8, 11]), ([12, 12, 0, 1, 2, 3, 4, 5, 6, 7, 8, 9, 10, 11, 12], [1, 9, 12])])
def spec_CountGlosses.B13 : List Nat := [0, 0, 0, 6, 15, 0, 32, 96, 255, 0, 0, 1536, 4095, 8191]
theorem spec_CountGlosses.tab13 : rtab .any (opsOf Try.f6 13) = spec_CountGlosses.T13 := by kernel_rfl
theorem spec_CountGlosses.bits13 : waitsOk spec_CountGlosses.T13.2 spec_CountGlosses.B13 = true := by kernel_rfl
def spec_CountGlosses.T14 : Bool × List (List Nat × List Nat) := (true, [([], []), ([], []), ([0, 1], [0, 1]), ([2], [2]), ([], []), ([3, 4, 3], [3, 4]), ([], []), ([], []), ([6, 7], [6, 7]), ([5, 8, 5], [5, 8]), ([9, 9, 0, 1, 2, 3, 4, 5, 6, 7, 8, 9], [0, 6, 9])])
def spec_CountGlosses.B14 : List Nat := [0, 0, 3, 7, 0, 31, 0, 0, 192, 511, 1023]
theorem spec_CountGlosses.tab14 : rtab .any (opsOf Try.f6 14) = spec_CountGlosses.T14 := by kernel_rfl
theorem spec_CountGlosses.bits14 : waitsOk spec_CountGlosses.T14.2 spec_CountGlosses.B14 = true := by kernel_rfl
set_option maxHeartbeats 8000000 in
set_option maxRecDepth 100000 in
theorem spec_CountGlosses.calls (k : Nat) (A0 : Option Addr) (c0 : Nat) (l0 : List (S50)) (r1 : List ByteArray) (r2 : List Int) (r3 : Bool) (w : World) (hr0 : Kd.C k50 w A0 l0.length l0) (hc0 : l0.length ≤ c0) (h : spec_CountGlosses.f k l0 = some (r1, r2, r3)) :
 Calls Try.prog 6 #[.slice A0 l0.length c0] w fun e w' => ∃ v0_ v1_ : Value, e = .returned (.tuple #[v0_, v1_, .bool r3]) ∧ Kd.R Kd.string 9 w' w.heap.size (fun _ => True) v0_ r1 ∧ Kd.R (Kd.int .i64) 3 w' w.heap.size (fun _ => True) v1_ r2 ∧ Below w.heap.size w w' := by
 have hu50 := Try.underlying50
 have HR0 := Aside0.mk hr0
 have HC0 := Aside0.mk hc0
 clear hr0 hc0
 have HB := Aside0.mk (Below.refl w.heap.size w)
 have H : ((spec_tiGood.f k l0).bind fun t271 => (if t271 = true then (spec_CountGlosses.l0 k ([] : List ByteArray) ([] : List Int) l0 (l0.length : Int) 0) else (some (([] : List ByteArray), ([] : List Int), false)))) = some (r1, r2, r3) := h
 clear h
 replace H := ob_ H; obtain ⟨t271, A2, H⟩ := H; try dsimp only at H
 have HC3 := Aside0.mk H
 clear H
 go_enter Try.func6, Try.ntmps6
 go_upto_if 12 with (first | (refine gM_ (some 11) Try.func31 #[.slice A0 l0.length c0] ?_; (with_reducible refine (spec_tiGood.calls k _ _ l0 t271 _ ?side1 ?side2 A2.out).mono ?_); (case side1 => exact cC_ HR0); (case side2 => exact HC0.out); rintro e w4 ⟨rfl, hb⟩; refine ⟨_, rfl, ?_⟩; replace HB := aM_ (below_step hB_ hb); (try clear hb)))
 (try simp only [Act.put, List.setIfInBounds_toArray, List.set_cons_zero, List.set_cons_succ])
 have H := HC3.out
 clear HC3
 by_cases c5 : t271 = true
 rotate_left
 ·replace c5 := Bool.eq_false_iff.mpr c5
  subst c5
  replace H := in_ H (show ¬ (false = true) by decide)
  simp only [Option.some.injEq, Prod.mk.injEq] at H
  obtain ⟨rfl, rfl, rfl⟩ := H
  go_wp2
  go_ret3
  exact ⟨_, _, rT_, z6_0_, z6_0_, hB_⟩
 subst c5
 replace H := ip_ H rfl
 have H' := Aside0.mk H
 clear H
 go_wp2
 go_loopg [5, 6, 15] k (fun kq v5 v6 v15 w' => ∃ (x5_1 : List ByteArray) (x6_1 : List Int) (x15_1 : Int), v15 = .int .i64 x15_1 ∧ Aside0 (spec_CountGlosses.l0 kq x5_1 x6_1 l0 (l0.length : Int) x15_1 = some (r1, r2, r3)) ∧ Aside0 (kq ≤ k) ∧ Aside0 (Kd.R Kd.string 9 w' w.heap.size (fun _ => True) v5 x5_1) ∧ Aside0 (Kd.R (Kd.int .i64) 3 w' w.heap.size (fun _ => True) v6 x6_1) ∧ Aside0 (Below w.heap.size w w'))
 case atStart => exact ⟨(([] : List ByteArray)), (([] : List Int)), (0), z6_1_, H', ⟨Nat.le_refl _⟩, ⟨z6_0_⟩, ⟨z6_0_⟩, ⟨hB_⟩⟩
 case round =>
  clear H'
  (try clear c5)
  obtain ⟨x5_1, x6_1, x15_1, rfl, HA, HK1, HO_5, HO_6, HB⟩ := hrel
  cases gk with
  | zero => exact absurd HA.out (by simp [spec_CountGlosses.l0])
  | succ k1 =>
   have H := HA.out
   clear HA
   simp only [spec_CountGlosses.l0] at H
   replace H := iF_ H; obtain ⟨c6b0, H⟩ | ⟨c6b0, H⟩ := H
   ·(first | rw [c6b0] | (simp only [i64_w, i32_w]; rw [c6b0]) | skip)
    simp only [Option.some.injEq, Prod.mk.injEq] at H
    obtain ⟨rfl, rfl, rfl⟩ := H
    go_wp2
    go_ret3
    exact ⟨_, _, rT_, (rR_ HO_5), (rR_ HO_6), hB_⟩
   (first | rw [c6b0] | (simp only [i64_w, i32_w]; rw [c6b0]) | skip)
   replace H := ig_ H; obtain ⟨c7b0, H⟩ := H
   replace H := ig_ H; obtain ⟨c8b0, H⟩ := H
   have H' := Aside0.mk H
   clear H
   have p272 : 0 ≤ (x15_1 : Int) := ode_
   have q272 : x15_1 < (l0.length : Int) := ode_
   obtain ⟨ad272, e272, hx272_0, hx272_1, hx272_2⟩ := at_T50 HR0.out x15_1 p272 q272
   cases e272
   replace hx272_0 := hc_ HB hx272_0
   replace hx272_1 := hc_ HB hx272_1
   replace hx272_2 := hc_ HB hx272_2
   replace p272 := eq_true p272
   replace q272 := eq_true q272
   go_wp2_with (first | ((with_reducible refine gate_dst (N := 8) rfl ?_); refine bx_ 8 #[.int .i64 0, .int .i64 0, .string (⟨#[]⟩ : ByteArray)] 50 fun gb273 hg w9 hbox hb => ?_; have BK273 := aM_ (hbox); have GW273 := aM_ (gw_ w hg); have GE273 := aM_ (gw_ w hg); replace HO_5 := aM_ (Kd.R_below (rR_ HO_5) hb); replace HO_6 := aM_ (Kd.R_below (rR_ HO_6) hb); replace HB := aM_ (below_step hB_ hb); clear hb hbox hg; have hz10 := cf3_ BK273.out))
   try simp only [Act.put, List.setIfInBounds_toArray, List.set_cons_zero, List.set_cons_succ]
   go_loopg [9] k1 (fun kq v9 w' => ∃ (x9_2 : Int), v9 = .int .i64 x9_2 ∧ Aside0 (spec_CountGlosses.l1 kq x5_1 x6_1 x9_2 l0 (l0.length : Int) x15_1 ((rd_T50 l0 x15_1).f0) ((rd_T50 l0 x15_1).f1) ((rd_T50 l0 x15_1).f2) = some (r1, r2, r3)) ∧ Aside0 (kq ≤ k1) ∧ Aside0 (Kd.R Kd.string 9 w' w.heap.size (fun _ => True) u5 x5_1) ∧ Aside0 (Kd.R (Kd.int .i64) 3 w' w.heap.size (fun _ => True) u6 x6_1) ∧ Aside0 (w'.heap[gb273]? = some (.cells #[.int .i64 ((rd_T50 l0 x15_1).f0), .int .i64 ((rd_T50 l0 x15_1).f1), .string ((rd_T50 l0 x15_1).f2)] 50 (0, 0))) ∧ Aside0 (Below w.heap.size w w'))
   case atStart => exact ⟨(0), z6_1_, H', ⟨Nat.le_refl _⟩, ⟨by (with_reducible repeat (first | apply rA_ | apply rN_ | apply rD_)); exact Kd.R_mono (Kd.R_far (p := ⟨gb273, 2, none⟩) (Kd.R_far (p := ⟨gb273, 1, none⟩) (Kd.R_far (p := ⟨gb273, 0, none⟩) (Kd.R_types HO_5.out BK273.out (by decide)) (fun _ hk => hk.2) (.int .i64 ((rd_T50 l0 x15_1).f0))) (fun _ hk => hk.2) (.int .i64 ((rd_T50 l0 x15_1).f1))) (fun _ hk => hk.2) (.string ((rd_T50 l0 x15_1).f2))) (fun _ hk => trivial)⟩, ⟨by (with_reducible repeat (first | apply rA_ | apply rN_ | apply rD_)); exact Kd.R_mono (Kd.R_far (p := ⟨gb273, 2, none⟩) (Kd.R_far (p := ⟨gb273, 1, none⟩) (Kd.R_far (p := ⟨gb273, 0, none⟩) (Kd.R_types HO_6.out BK273.out (by decide)) (fun _ hk => hk.2) (.int .i64 ((rd_T50 l0 x15_1).f0))) (fun _ hk => hk.2) (.int .i64 ((rd_T50 l0 x15_1).f1))) (fun _ hk => hk.2) (.string ((rd_T50 l0 x15_1).f2))) (fun _ hk => trivial)⟩, ⟨by (with_reducible repeat (first | apply kN_ | apply kD_ | apply kA_)); refine blk_put (cs := #[.int .i64 ((rd_T50 l0 x15_1).f0), .int .i64 ((rd_T50 l0 x15_1).f1), .string (⟨#[]⟩ : ByteArray)]) ?_ 2 _ rfl; (with_reducible repeat (first | apply kN_ | apply kD_ | apply kA_)); refine blk_put (cs := #[.int .i64 ((rd_T50 l0 x15_1).f0), .int .i64 0, .string (⟨#[]⟩ : ByteArray)]) ?_ 1 _ rfl; (with_reducible repeat (first | apply kN_ | apply kD_ | apply kA_)); refine blk_put (cs := #[.int .i64 0, .int .i64 0, .string (⟨#[]⟩ : ByteArray)]) ?_ 0 _ rfl; (with_reducible repeat (first | apply kN_ | apply kD_ | apply kA_)); exact BK273.out⟩, ⟨hB_⟩⟩
   case round =>
    clear H'
    (try clear c5);(try clear c6);(try clear c6b0);(try clear c7);(try clear c7b0);(try clear c8);(try clear c8b0);(try clear hcz10_0);(try clear hcz10_1);(try clear hcz10_2);(try clear hfz10_0);(try clear hfz10_1);(try clear hfz10_2);(try clear hx272_0);(try clear hx272_1);(try clear hx272_2);(try clear p272);(try clear q272)
    obtain ⟨x9_2, rfl, HA, HK2, HO_5, HO_6, BK273, HB⟩ := hrel
    cases gk with
    | zero => exact absurd HA.out (by simp [spec_CountGlosses.l1])
    | succ k2 =>
     have H := HA.out
     clear HA
     simp only [spec_CountGlosses.l1] at H
     replace H := iF_ H; obtain ⟨c11b0, H⟩ | ⟨c11b0, H⟩ := H
     ·replace H := bs_ H; obtain ⟨y321, Ny321, H⟩ := H; try dsimp only at H
      replace H := it_ H; obtain ⟨c65b0, c65b1, H⟩ := H
      replace H := it_ H; obtain ⟨c66b0, c66b1, H⟩ := H
      replace H := bs_ H; obtain ⟨y324, Ny324, H⟩ := H; try dsimp only at H
      replace H := il_ H; obtain ⟨LMc67, H⟩ := H
      replace H := bs_ H; obtain ⟨y328, Ny328, H⟩ := H; try dsimp only at H
      replace H := bs_ H; obtain ⟨y331, Ny331, H⟩ := H; try dsimp only at H
      replace H := il_ H; obtain ⟨LMc68, H⟩ := H
      replace H := bs_ H; obtain ⟨y334, Ny334, H⟩ := H; try dsimp only at H
      have c69b0 := eq_true (ode_ : 0 ≤ x9_2)
      have c70b0 := eq_true (ode_ : x9_2 ≤ (x5_1.length : Int))
      replace H := bs_ H; obtain ⟨y337, Ny337, H⟩ := H; try dsimp only at H
      replace H := il_ H; obtain ⟨LMc71, H⟩ := H
      obtain ⟨y341, hy341⟩ : ∃ y_ : List ByteArray, y_ = (y334 ++ y337) := ⟨_, rfl⟩
      rw [← hy341] at H
      have Ny341 := Aside0.mk hy341; clear hy341
      have c72b0 := eq_true (ode_ : 0 ≤ x9_2)
      replace H := it_ H; obtain ⟨c73b0, c73b1, H⟩ := H
      obtain ⟨y344, hy344⟩ : ∃ y_ : List Int, y_ = (x6_1.take (x9_2 : Int).toNat) := ⟨_, rfl⟩
      rw [← hy344] at H
      have Ny344 := Aside0.mk hy344; clear hy344
      replace H := ob_ H; obtain ⟨t348, A74, H⟩ := H; try dsimp only at H
      replace H := bs_ H; obtain ⟨y351, Ny351, H⟩ := H; try dsimp only at H
      replace H := il_ H; obtain ⟨LMc75, H⟩ := H
      replace H := bs_ H; obtain ⟨y354, Ny354, H⟩ := H; try dsimp only at H
      have c76b0 := eq_true (ode_ : 0 ≤ x9_2)
      have c77b0 := eq_true (ode_ : x9_2 ≤ (x6_1.length : Int))
      replace H := bs_ H; obtain ⟨y357, Ny357, H⟩ := H; try dsimp only at H
      replace H := il_ H; obtain ⟨LMc78, H⟩ := H
      obtain ⟨y361, hy361⟩ : ∃ y_ : List Int, y_ = (y354 ++ y357) := ⟨_, rfl⟩
      rw [← hy361] at H
      have Ny361 := Aside0.mk hy361; clear hy361
      have H' := Aside0.mk H
      clear H
      try go_wp2
      replace HO_5 := aM_ (Kd.R_drew HO_5.out)
      replace HO_6 := aM_ (Kd.R_drew HO_6.out)
      replace BK273 := aM_ (blk_drew BK273.out)
      replace HB := aM_ (below_drew1 HB.out)
      obtain ⟨Ao80, co80, eo80⟩ := Kd.R_slice HO_5.out
      (first | subst eo80 | (injection eo80 with f1_ f2_ f3_; have f4_ := f1_.symm; have f5_ := f3_.symm; clear f1_ f2_ f3_; subst f4_; subst f5_))
      refine st_ 13 (fun w' => True) [] spec_CountGlosses.tab9 spec_CountGlosses.bits9 trivial fun hHeld HT_ HW_ => ?_
      generalize wr.drew = w79 at HO_5 HO_6 BK273 HB hHeld ⊢
      refine pu_ 0 19 ?_
      refine pu_ 1 20 ?_
      refine pu_ 2 21 ?_
      refine pu_ 3 22 ?_
      refine pu_ 4 23 ?_
      refine pv_ 5 24 ?_
      refine pv_ 6 25 ?_
      refine pv_ 7 26 ?_
      refine pv_ 8 27 ?_
      refine pv_ 9 28 ?_
      refine pv_ 10 29 ?_
      refine pv_ 11 30 ?_
      refine pu_ 12 31 ?_
      refine dn_ ?_
      try go_wp2
      replace HO_5 := aM_ (Kd.R_drew HO_5.out)
      replace HO_6 := aM_ (Kd.R_drew HO_6.out)
      replace BK273 := aM_ (blk_drew BK273.out)
      replace HB := aM_ (below_drew1 HB.out)
      refine st_ 13 (fun w' => True) [] spec_CountGlosses.tab11 spec_CountGlosses.bits11 trivial fun hHeld HT_ HW_ => ?_
      generalize w79.drew = w81 at HO_5 HO_6 BK273 HB hHeld ⊢
      refine pu_ 0 34 ?_
      refine pu_ 1 35 ?_
      refine pu_ 2 36 ?_
      refine pu_ 3 37 ?_
      refine pu_ 4 38 ?_
      refine pv_ 5 39 ?_
      refine pv_ 6 40 ?_
      refine pv_ 7 41 ?_
      refine pv_ 8 42 ?_
      refine pv_ 9 43 ?_
      refine pv_ 10 44 ?_
      refine pv_ 11 45 ?_
      refine pu_ 12 46 ?_
      refine dn_ ?_
      try go_wp2
      replace HO_5 := aM_ (Kd.R_drew HO_5.out)
      replace HO_6 := aM_ (Kd.R_drew HO_6.out)
      replace BK273 := aM_ (blk_drew BK273.out)
      replace HB := aM_ (below_drew1 HB.out)
      have q83 : (x9_2 : Int) ≤ ((x5_1.length : Int) : Int) := ode_
      obtain ⟨i083, hi083, _, hsz83, _⟩ := info_parts info9
      have hroom83 : x5_1.length ≤ co80 := (Kd.R_reads' HO_5.out).2.1
      have hC83 : Kd.C Kd.string _ Ao80 x5_1.length x5_1 := (Kd.R_reads' HO_5.out).2.2
      have hcut83 := cut_to (P := Try.prog) 25 9 .i64 Try.underlying25 hi083 Ao80 x5_1.length co80 x9_2 ode_ q83 hroom83
      have hr83 := Kd.C_take (m := (x9_2 : Int).toNat) hC83 (by omega)
      have hy83 : y324.length = (x9_2 : Int).toNat := (by rw [Ny324.out, List.length_take]; omega)
      rw [← Ny324.out] at hr83
      rw [← hy83] at hcut83
      have HR327 := Aside0.mk hr83
      have HC327 := Aside0.mk (show y324.length ≤ co80 from by omega)
      clear hr83 hC83 hroom83 hi083 hsz83
      have KY83 := Aside0.mk hy83
      clear hy83
      have KL83 := Aside0.mk (show (x9_2 : Int).toNat ≤ x5_1.length from by omega)
      replace q83 := eq_true q83
      have q84 : (x9_2 : Int) ≤ ((x5_1.length : Int) : Int) := ode_
      obtain ⟨i084, hi084, _, hsz84, _⟩ := info_parts info9
      have hroom84 : x5_1.length ≤ co80 := (Kd.R_reads' HO_5.out).2.1
      have hC84 : Kd.C Kd.string _ Ao80 x5_1.length x5_1 := (Kd.R_reads' HO_5.out).2.2
      have q084 : (0 : Int) ≤ (x9_2 : Int) := ode_
      have hcut84 := cut_from (P := Try.prog) 25 9 .i64 Try.underlying25 hi084 1 hsz84 Ao80 x5_1.length co80 x9_2 q084 q84
      have hr84 := Kd.C_drop (m := (x9_2 : Int).toNat) (c := co80) hC84 (by omega) hroom84
      obtain ⟨A84, hA84⟩ : ∃ Ab_, Ab_ = (if co80 = (x9_2 : Int).toNat then Ao80 else (Ao80 : Option Addr).map (·.add ((x9_2 : Int).toNat * 1))) := ⟨_, rfl⟩
      obtain ⟨c84, hc84⟩ : ∃ cb_, cb_ = co80 - (x9_2 : Int).toNat := ⟨_, rfl⟩
      have hy84 : y337.length = x5_1.length - (x9_2 : Int).toNat := (by rw [Ny337.out, List.length_drop] <;> omega)
      rw [show (x5_1).drop (x9_2 : Int).toNat = y337 from Ny337.out.symm] at hr84
      replace hr84 : Kd.C Kd.string _ A84 y337.length y337 := (by rw [hA84]; exact hr84)
      rw [← hy84, ← hA84, ← hc84] at hcut84
      have HR340 := Aside0.mk hr84
      have HC340 := Aside0.mk (show y337.length ≤ c84 from by rw [hy84, hc84]; exact Nat.sub_le_sub_right hroom84 _)
      clear hr84 hC84 hroom84 hi084 hsz84 hc84
      have KY84 := Aside0.mk hy84
      have KA84 := Aside0.mk hA84
      clear hy84 hA84
      have KL84 := Aside0.mk (show (x9_2 : Int).toNat ≤ x5_1.length from by omega)
      replace q84 := eq_true q84
      refine st_ 14 (fun w' => w'.cell? ⟨gb273, 0, none⟩ = some (.int .i64 ((rd_T50 l0 x15_1).f0)) ∧ w'.cell? ⟨gb273, 1, none⟩ = some (.int .i64 ((rd_T50 l0 x15_1).f1)) ∧ w'.cell? ⟨gb273, 2, none⟩ = some (.string ((rd_T50 l0 x15_1).f2))) [] spec_CountGlosses.tab13 spec_CountGlosses.bits13 ⟨(blk_cell BK273.out 0).trans rfl, (blk_cell BK273.out 1).trans rfl, (blk_cell BK273.out 2).trans rfl⟩ fun hHeld HT_ HW_ => ?_
      generalize w81.drew = w82 at HO_5 HO_6 BK273 HB HR327 HR340 hHeld ⊢
      refine pu_ 1 54 ?_
      refine pu_ 2 55 ?_
      refine pu_ 3 56 ?_
      refine pu_ 5 58 ?_
      refine pu_ 9 62 ?_
      refine pu_ 10 63 ?_
      refine pu_ 11 64 ?_
      refine tk_ 6 59 ?_
      refine join_ (σ := Value × Value × Value) 3 (bz_ 14 0xeff) (fun s_ => [(53, s_.1), (57, s_.2.1), (60, s_.2.2)]) (fun s_ w' => (w'.cell? ⟨gb273, 0, none⟩ = some (.int .i64 ((rd_T50 l0 x15_1).f0)) ∧ w'.cell? ⟨gb273, 1, none⟩ = some (.int .i64 ((rd_T50 l0 x15_1).f1)) ∧ w'.cell? ⟨gb273, 2, none⟩ = some (.string ((rd_T50 l0 x15_1).f2))) ∧ (Kd.R Kd.string 9 w' w.heap.size (fun k_ => some k_ ≠ (s_.2.2 : Value).ownBlock ∧ some k_ ≠ (.slice Ao80 x5_1.length co80 : Value).ownBlock) s_.2.1 y328) ∧ (Kd.R Kd.string 9 w' w.heap.size (fun k_ => some k_ ≠ (s_.2.1 : Value).ownBlock ∧ some k_ ≠ (.slice Ao80 x5_1.length co80 : Value).ownBlock) s_.2.2 y331) ∧ (Kd.R Kd.string 9 w' w.heap.size (fun k_ => some k_ ≠ (s_.2.1 : Value).ownBlock ∧ some k_ ≠ (s_.2.2 : Value).ownBlock) (.slice Ao80 x5_1.length co80) x5_1) ∧ (Kd.R (Kd.int .i64) 3 w' w.heap.size (fun _ => True) u6 x6_1) ∧ (w'.heap[gb273]? = some (.cells #[.int .i64 ((rd_T50 l0 x15_1).f0), .int .i64 ((rd_T50 l0 x15_1).f1), .string ((rd_T50 l0 x15_1).f2)] 50 (0, 0))) ∧ (Below w.heap.size w w') ∧ (Kd.C Kd.string w' Ao80 y324.length y324) ∧ (Kd.C Kd.string w' A84 y337.length y337)) ?_ ?_
      rotate_left
      ·intro hCont
       refine two_ (i := 0) (j := 7) (Ni := some 53) (Nj := some 60) (bz_ 14 0xe6f) (bz_ 14 0xeee) rfl rfl rfl rfl (two_of HT_.out (by kernel_rfl)) (by decide) (by decide) (fun K hK => ?_) (fun K hK => ?_)
       ·skip
        refine Kd.R_lit_step Kd.string _ 9 ?hg (N := 53) ?hd (xs := ([] : List ByteArray)) (inner := []) (ok := fun _ => True) (okp := fun _ => True) ?hr ?hp (fun _ hk => hk) trivial (Below.refl _ _) (Nat.le_refl _) (by simp) ?_; (case hd => rfl); (case hg => rfl); (case hr => first | (go_simp; done) | (go_simp; rfl)); (case hp => exact (Reps.none _ _))
        intro v322 w85 ho86 hb hg_ hnew_
        clear hg_ hnew_
        (first | rw [← Ny321.out] at ho86 | (simp only [Int.reduceToNat] at ho86; rw [← Ny321.out] at ho86))
        have HO323 := aM_ (Kd.R_lower (Kd.R_new' ho86 (Kd.R_lt (rR_ HO_5))) (below_size hB_))
        replace HO_5 := aM_ (Kd.R_elder' (rR_ HO_5) (Kd.R_base ho86) hb)
        replace HO_6 := aM_ (Kd.R_below (rR_ HO_6) hb)
        replace BK273 := aM_ (blk_below (g := gb273) (kR_ BK273) hb)
        replace HR327 := aM_ (Kd.C_below (cC_ HR327) hb)
        replace HR340 := aM_ (Kd.C_below (cC_ HR340) hb)
        replace HB := aM_ (below_step hB_ hb)
        clear hb ho86
        refine hK.out _ _ ⟨(blk_cell BK273.out 0).trans rfl, (blk_cell BK273.out 1).trans rfl, (blk_cell BK273.out 2).trans rfl⟩ (fun hHeld => ?_)
        clear hK K
        refine nm_ 53 ?_
        refine two_ (i := 4) (j := 7) (Ni := some 57) (Nj := some 60) (bz_ 14 0xe7f) (bz_ 14 0xeef) rfl rfl rfl rfl (two_of HT_.out (by kernel_rfl)) (by decide) (by decide) (fun K hK => ?_) (fun K hK => ?_)
        ·skip
         refine Kd.R_append_rows_step Kd.string (w0 := w) w.heap.size (by rfl) (.tmp 53) (.tmp 56) 25 9 (.string ⟨#[]⟩) 16 rfl Try.underlying25 info9 rfl (by decide) (by omega) v322 y321 y324 _ _ _ (fun k_ => some k_ ≠ (.slice Ao80 x5_1.length co80 : Value).ownBlock) (fun _ => False) rfl rfl ?aO ?aR (fun _ _ h => h) (fun _ h => h.elim) ?aF ?aB ?aS ?aL ?_
         (case aR => repeat (first | exact (cC_ HR327) | (with_reducible first | apply cA_ | apply cN_ | apply cD_)))
         (case aB => exact hB_)
         (case aF => exact (fun k_ hk => Kd.fresh' (Kd.R_lt (rR_ HO_5)) k_ hk))
         (case aO => exact (rM_ HO323 (fun _ hk => hk.2)))
         (case aS => exact (below_size hB_))
         (case aL => have := LMc67.out; omega)
         intro v329 w87 ho hb hg hat
         rw [← Ny328.out] at ho
         have HO330 := aM_ (ho)
         replace HO_6 := aM_ (Kd.R_over' (rR_ HO_6) (Kd.R_typed (rR_ HO323)) (by decide) hg)
         replace BK273 := aM_ (blk_grown (g := gb273) (kR_ BK273) hg (Kd.R_ne HO323.out BK273.out (by decide)))
         replace HB := aM_ (hb)
         replace HR327 := aM_ ((show Kd.C Kd.string w87 Ao80 y324.length y324 from by rw [Ny324.out]; exact Kd.C_take (m := (x9_2 : Int).toNat) ((Kd.R_reads' (Kd.R_after (ok := (fun _ => True)) (rR_ HO_5) hg hat)).2.2) KL83.out))
         replace HR340 := aM_ ((show Kd.C Kd.string w87 A84 y337.length y337 from by rw [Ny337.out, KA84.out]; exact Kd.C_drop (m := (x9_2 : Int).toNat) (c := co80) ((Kd.R_reads' (Kd.R_after (ok := (fun _ => True)) (rR_ HO_5) hg hat)).2.2) KL84.out ((Kd.R_reads' (Kd.R_after (ok := (fun _ => True)) (rR_ HO_5) hg hat)).2.1)))
         replace HO_5 := aM_ (Kd.R_after (ok := (fun _ => True)) (rR_ HO_5) hg hat)
         clear HO323
         clear ho hb hg hat
         refine hK.out _ _ ⟨(blk_cell BK273.out 0).trans rfl, (blk_cell BK273.out 1).trans rfl, (blk_cell BK273.out 2).trans rfl⟩ (fun hHeld => ?_)
         clear hK K
         refine nm_ 57 ?_
         refine on_ 7 60 fun K hK => ?_
         refine Kd.R_lit_step Kd.string _ 9 ?hg (N := 60) ?hd (xs := ([((rd_T50 l0 x15_1).f2)] : List ByteArray)) (inner := [.string ((rd_T50 l0 x15_1).f2)]) (ok := fun _ => True) (okp := fun _ => True) ?hr ?hp (fun _ hk => hk) trivial (Below.refl _ _) (Nat.le_refl _) (by simp) ?_; (case hd => rfl); (case hg => rfl); (case hr => first | (go_simp; done) | (go_simp; rfl)); (case hp => exact (Reps.one (show Kd.M Kd.string _ _ _ ((rd_T50 l0 x15_1).f2) [.string ((rd_T50 l0 x15_1).f2)] from rfl) (Reps.none _ _)))
         intro v332 w88 ho89 hb hg_ hnew_
         clear hg_ hnew_
         (first | rw [← Ny331.out] at ho89 | (simp only [Int.reduceToNat] at ho89; rw [← Ny331.out] at ho89))
         have HO333 := aM_ (Kd.R_lower (Kd.R_new' (Kd.R_new' ho89 (Kd.R_lt (rR_ HO_5))) (Kd.R_lt (rR_ HO330))) (below_size hB_))
         replace HO_5 := aM_ (Kd.R_elder' (rR_ HO_5) (Kd.R_base ho89) hb)
         replace HO_6 := aM_ (Kd.R_below (rR_ HO_6) hb)
         replace HO330 := aM_ (Kd.R_elder' (rR_ HO330) (Kd.R_base ho89) hb)
         replace BK273 := aM_ (blk_below (g := gb273) (kR_ BK273) hb)
         replace HR327 := aM_ (Kd.C_below (cC_ HR327) hb)
         replace HR340 := aM_ (Kd.C_below (cC_ HR340) hb)
         replace HB := aM_ (below_step hB_ hb)
         clear hb ho89
         refine hK.out _ _ ⟨(blk_cell BK273.out 0).trans rfl, (blk_cell BK273.out 1).trans rfl, (blk_cell BK273.out 2).trans rfl⟩ (fun hHeld => ?_)
         clear hK K
         refine nm_ 60 ?_
         exact norm_ z6_2_ (hCont (v322, v329, v332) _ ⟨hHeld, (rM_ HO330 (fun _ hk => ⟨hk.2, hk.1⟩)), (rM_ HO333 (fun _ hk => ⟨hk.2, hk.1.2⟩)), (rM_ HO_5 (fun _ hk => ⟨hk.1.2, hk.2⟩)), (rR_ HO_6), (kR_ BK273), hB_, (cC_ HR327), (cC_ HR340)⟩)
        ·skip
         refine Kd.R_lit_step Kd.string _ 9 ?hg (N := 60) ?hd (xs := ([((rd_T50 l0 x15_1).f2)] : List ByteArray)) (inner := [.string ((rd_T50 l0 x15_1).f2)]) (ok := fun _ => True) (okp := fun _ => True) ?hr ?hp (fun _ hk => hk) trivial (Below.refl _ _) (Nat.le_refl _) (by simp) ?_; (case hd => rfl); (case hg => rfl); (case hr => first | (go_simp; done) | (go_simp; rfl)); (case hp => exact (Reps.one (show Kd.M Kd.string _ _ _ ((rd_T50 l0 x15_1).f2) [.string ((rd_T50 l0 x15_1).f2)] from rfl) (Reps.none _ _)))
         intro v332 w87 ho88 hb hg_ hnew_
         clear hg_ hnew_
         (first | rw [← Ny331.out] at ho88 | (simp only [Int.reduceToNat] at ho88; rw [← Ny331.out] at ho88))
         have HO333 := aM_ (Kd.R_lower (Kd.R_new' (Kd.R_new' ho88 (Kd.R_lt (rR_ HO_5))) (Kd.R_lt (rR_ HO323))) (below_size hB_))
         replace HO_5 := aM_ (Kd.R_elder' (rR_ HO_5) (Kd.R_base ho88) hb)
         replace HO_6 := aM_ (Kd.R_below (rR_ HO_6) hb)
         replace HO323 := aM_ (Kd.R_elder' (rR_ HO323) (Kd.R_base ho88) hb)
         replace BK273 := aM_ (blk_below (g := gb273) (kR_ BK273) hb)
         replace HR327 := aM_ (Kd.C_below (cC_ HR327) hb)
         replace HR340 := aM_ (Kd.C_below (cC_ HR340) hb)
         replace HB := aM_ (below_step hB_ hb)
         clear hb ho88
         refine hK.out _ _ ⟨(blk_cell BK273.out 0).trans rfl, (blk_cell BK273.out 1).trans rfl, (blk_cell BK273.out 2).trans rfl⟩ (fun hHeld => ?_)
         clear hK K
         refine nm_ 60 ?_
         refine on_ 4 57 fun K hK => ?_
         refine Kd.R_append_rows_step Kd.string (w0 := w) w.heap.size (by rfl) (.tmp 53) (.tmp 56) 25 9 (.string ⟨#[]⟩) 16 rfl Try.underlying25 info9 rfl (by decide) (by omega) v322 y321 y324 _ _ _ (fun k_ => some k_ ≠ (.slice Ao80 x5_1.length co80 : Value).ownBlock ∧ some k_ ≠ (v332 : Value).ownBlock) (fun _ => False) rfl rfl ?aO ?aR (fun _ _ h => h) (fun _ h => h.elim) ?aF ?aB ?aS ?aL ?_
         (case aR => repeat (first | exact (cC_ HR327) | (with_reducible first | apply cA_ | apply cN_ | apply cD_)))
         (case aB => exact hB_)
         (case aF => exact (fun k_ hk => ⟨Kd.fresh' (Kd.R_lt (rR_ HO_5)) k_ hk, Kd.fresh' (Kd.R_lt (rR_ HO333)) k_ hk⟩))
         (case aO => exact (rM_ HO323 (fun _ hk => ⟨hk.1.2, hk.2⟩)))
         (case aS => exact (below_size hB_))
         (case aL => have := LMc67.out; omega)
         intro v329 w89 ho hb hg hat
         rw [← Ny328.out] at ho
         have HO330 := aM_ (ho)
         replace HO_6 := aM_ (Kd.R_over' (rR_ HO_6) (Kd.R_typed (rR_ HO323)) (by decide) hg)
         replace BK273 := aM_ (blk_grown (g := gb273) (kR_ BK273) hg (Kd.R_ne HO323.out BK273.out (by decide)))
         replace HO333 := aM_ (Kd.R_after (ok := (fun k_ => some k_ ≠ (.slice Ao80 x5_1.length co80 : Value).ownBlock)) (rM_ HO333 (fun _ hk => ⟨hk.1.2, hk.2⟩)) hg hat)
         replace HB := aM_ (hb)
         replace HR327 := aM_ ((show Kd.C Kd.string w89 Ao80 y324.length y324 from by rw [Ny324.out]; exact Kd.C_take (m := (x9_2 : Int).toNat) ((Kd.R_reads' (Kd.R_after (ok := (fun k_ => some k_ ≠ (v332 : Value).ownBlock)) (rM_ HO_5 (fun _ hk => ⟨hk.2, hk.1.2⟩)) hg hat)).2.2) KL83.out))
         replace HR340 := aM_ ((show Kd.C Kd.string w89 A84 y337.length y337 from by rw [Ny337.out, KA84.out]; exact Kd.C_drop (m := (x9_2 : Int).toNat) (c := co80) ((Kd.R_reads' (Kd.R_after (ok := (fun k_ => some k_ ≠ (v332 : Value).ownBlock)) (rM_ HO_5 (fun _ hk => ⟨hk.2, hk.1.2⟩)) hg hat)).2.2) KL84.out ((Kd.R_reads' (Kd.R_after (ok := (fun k_ => some k_ ≠ (v332 : Value).ownBlock)) (rM_ HO_5 (fun _ hk => ⟨hk.2, hk.1.2⟩)) hg hat)).2.1)))
         replace HO_5 := aM_ (Kd.R_after (ok := (fun k_ => some k_ ≠ (v332 : Value).ownBlock)) (rM_ HO_5 (fun _ hk => ⟨hk.2, hk.1.2⟩)) hg hat)
         clear HO323
         clear ho hb hg hat
         refine hK.out _ _ ⟨(blk_cell BK273.out 0).trans rfl, (blk_cell BK273.out 1).trans rfl, (blk_cell BK273.out 2).trans rfl⟩ (fun hHeld => ?_)
         clear hK K
         refine nm_ 57 ?_
         exact norm_ z6_2_ (hCont (v322, v329, v332) _ ⟨hHeld, (rM_ HO330 (fun _ hk => ⟨hk.2, hk.1⟩)), (rM_ HO333 (fun _ hk => ⟨hk.2, hk.1⟩)), (rM_ HO_5 (fun _ hk => ⟨hk.2, hk.1⟩)), (rR_ HO_6), (kR_ BK273), hB_, (cC_ HR327), (cC_ HR340)⟩)
       ·skip
        refine Kd.R_lit_step Kd.string _ 9 ?hg (N := 60) ?hd (xs := ([((rd_T50 l0 x15_1).f2)] : List ByteArray)) (inner := [.string ((rd_T50 l0 x15_1).f2)]) (ok := fun _ => True) (okp := fun _ => True) ?hr ?hp (fun _ hk => hk) trivial (Below.refl _ _) (Nat.le_refl _) (by simp) ?_; (case hd => rfl); (case hg => rfl); (case hr => first | (go_simp; done) | (go_simp; rfl)); (case hp => exact (Reps.one (show Kd.M Kd.string _ _ _ ((rd_T50 l0 x15_1).f2) [.string ((rd_T50 l0 x15_1).f2)] from rfl) (Reps.none _ _)))
        intro v332 w85 ho86 hb hg_ hnew_
        clear hg_ hnew_
        (first | rw [← Ny331.out] at ho86 | (simp only [Int.reduceToNat] at ho86; rw [← Ny331.out] at ho86))
        have HO333 := aM_ (Kd.R_lower (Kd.R_new' ho86 (Kd.R_lt (rR_ HO_5))) (below_size hB_))
        replace HO_5 := aM_ (Kd.R_elder' (rR_ HO_5) (Kd.R_base ho86) hb)
        replace HO_6 := aM_ (Kd.R_below (rR_ HO_6) hb)
        replace BK273 := aM_ (blk_below (g := gb273) (kR_ BK273) hb)
        replace HR327 := aM_ (Kd.C_below (cC_ HR327) hb)
        replace HR340 := aM_ (Kd.C_below (cC_ HR340) hb)
        replace HB := aM_ (below_step hB_ hb)
        clear hb ho86
        refine hK.out _ _ ⟨(blk_cell BK273.out 0).trans rfl, (blk_cell BK273.out 1).trans rfl, (blk_cell BK273.out 2).trans rfl⟩ (fun hHeld => ?_)
        clear hK K
        refine nm_ 60 ?_
        refine on_ 0 53 fun K hK => ?_
        refine Kd.R_lit_step Kd.string _ 9 ?hg (N := 53) ?hd (xs := ([] : List ByteArray)) (inner := []) (ok := fun _ => True) (okp := fun _ => True) ?hr ?hp (fun _ hk => hk) trivial (Below.refl _ _) (Nat.le_refl _) (by simp) ?_; (case hd => rfl); (case hg => rfl); (case hr => first | (go_simp; done) | (go_simp; rfl)); (case hp => exact (Reps.none _ _))
        intro v322 w87 ho88 hb hg_ hnew_
        clear hg_ hnew_
        (first | rw [← Ny321.out] at ho88 | (simp only [Int.reduceToNat] at ho88; rw [← Ny321.out] at ho88))
        have HO323 := aM_ (Kd.R_lower (Kd.R_new' (Kd.R_new' ho88 (Kd.R_lt (rR_ HO_5))) (Kd.R_lt (rR_ HO333))) (below_size hB_))
        replace HO_5 := aM_ (Kd.R_elder' (rR_ HO_5) (Kd.R_base ho88) hb)
        replace HO_6 := aM_ (Kd.R_below (rR_ HO_6) hb)
        replace HO333 := aM_ (Kd.R_elder' (rR_ HO333) (Kd.R_base ho88) hb)
        replace BK273 := aM_ (blk_below (g := gb273) (kR_ BK273) hb)
        replace HR327 := aM_ (Kd.C_below (cC_ HR327) hb)
        replace HR340 := aM_ (Kd.C_below (cC_ HR340) hb)
        replace HB := aM_ (below_step hB_ hb)
        clear hb ho88
        refine hK.out _ _ ⟨(blk_cell BK273.out 0).trans rfl, (blk_cell BK273.out 1).trans rfl, (blk_cell BK273.out 2).trans rfl⟩ (fun hHeld => ?_)
        clear hK K
        refine nm_ 53 ?_
        refine on_ 4 57 fun K hK => ?_
        refine Kd.R_append_rows_step Kd.string (w0 := w) w.heap.size (by rfl) (.tmp 53) (.tmp 56) 25 9 (.string ⟨#[]⟩) 16 rfl Try.underlying25 info9 rfl (by decide) (by omega) v322 y321 y324 _ _ _ (fun k_ => some k_ ≠ (.slice Ao80 x5_1.length co80 : Value).ownBlock ∧ some k_ ≠ (v332 : Value).ownBlock) (fun _ => False) rfl rfl ?aO ?aR (fun _ _ h => h) (fun _ h => h.elim) ?aF ?aB ?aS ?aL ?_
        (case aR => repeat (first | exact (cC_ HR327) | (with_reducible first | apply cA_ | apply cN_ | apply cD_)))
        (case aB => exact hB_)
        (case aF => exact (fun k_ hk => ⟨Kd.fresh' (Kd.R_lt (rR_ HO_5)) k_ hk, Kd.fresh' (Kd.R_lt (rR_ HO333)) k_ hk⟩))
        (case aO => exact (rM_ HO323 (fun _ hk => ⟨hk.1.2, hk.2⟩)))
        (case aS => exact (below_size hB_))
        (case aL => have := LMc67.out; omega)
        intro v329 w89 ho hb hg hat
        rw [← Ny328.out] at ho
        have HO330 := aM_ (ho)
        replace HO_6 := aM_ (Kd.R_over' (rR_ HO_6) (Kd.R_typed (rR_ HO323)) (by decide) hg)
        replace BK273 := aM_ (blk_grown (g := gb273) (kR_ BK273) hg (Kd.R_ne HO323.out BK273.out (by decide)))
        replace HO333 := aM_ (Kd.R_after (ok := (fun k_ => some k_ ≠ (.slice Ao80 x5_1.length co80 : Value).ownBlock)) (rM_ HO333 (fun _ hk => ⟨hk.1.2, hk.2⟩)) hg hat)
        replace HB := aM_ (hb)
        replace HR327 := aM_ ((show Kd.C Kd.string w89 Ao80 y324.length y324 from by rw [Ny324.out]; exact Kd.C_take (m := (x9_2 : Int).toNat) ((Kd.R_reads' (Kd.R_after (ok := (fun k_ => some k_ ≠ (v332 : Value).ownBlock)) (rM_ HO_5 (fun _ hk => ⟨hk.1.2, hk.2⟩)) hg hat)).2.2) KL83.out))
        replace HR340 := aM_ ((show Kd.C Kd.string w89 A84 y337.length y337 from by rw [Ny337.out, KA84.out]; exact Kd.C_drop (m := (x9_2 : Int).toNat) (c := co80) ((Kd.R_reads' (Kd.R_after (ok := (fun k_ => some k_ ≠ (v332 : Value).ownBlock)) (rM_ HO_5 (fun _ hk => ⟨hk.1.2, hk.2⟩)) hg hat)).2.2) KL84.out ((Kd.R_reads' (Kd.R_after (ok := (fun k_ => some k_ ≠ (v332 : Value).ownBlock)) (rM_ HO_5 (fun _ hk => ⟨hk.1.2, hk.2⟩)) hg hat)).2.1)))
        replace HO_5 := aM_ (Kd.R_after (ok := (fun k_ => some k_ ≠ (v332 : Value).ownBlock)) (rM_ HO_5 (fun _ hk => ⟨hk.1.2, hk.2⟩)) hg hat)
        clear HO323
        clear ho hb hg hat
        refine hK.out _ _ ⟨(blk_cell BK273.out 0).trans rfl, (blk_cell BK273.out 1).trans rfl, (blk_cell BK273.out 2).trans rfl⟩ (fun hHeld => ?_)
        clear hK K
        refine nm_ 57 ?_
        exact norm_ z6_2_ (hCont (v322, v329, v332) _ ⟨hHeld, (rM_ HO330 (fun _ hk => ⟨hk.2, hk.1⟩)), (rM_ HO333 (fun _ hk => ⟨hk.2, hk.1⟩)), (rM_ HO_5 (fun _ hk => ⟨hk.2, hk.1⟩)), (rR_ HO_6), (kR_ BK273), hB_, (cC_ HR327), (cC_ HR340)⟩)
      rintro ⟨v322, v329, v332⟩ w90 ⟨hS_, h0_, h1_, h2_, h3_, h4_, h5_, h6_, h7_⟩
      have n0_ : Aside0 (Kd.R Kd.string 9 w90 w.heap.size (fun k_ => some k_ ≠ (v332 : Value).ownBlock ∧ some k_ ≠ (.slice Ao80 x5_1.length co80 : Value).ownBlock) v329 y328) := ⟨h0_⟩
      have n1_ : Aside0 (Kd.R Kd.string 9 w90 w.heap.size (fun k_ => some k_ ≠ (v329 : Value).ownBlock ∧ some k_ ≠ (.slice Ao80 x5_1.length co80 : Value).ownBlock) v332 y331) := ⟨h1_⟩
      have n2_ : Aside0 (Kd.R Kd.string 9 w90 w.heap.size (fun k_ => some k_ ≠ (v329 : Value).ownBlock ∧ some k_ ≠ (v332 : Value).ownBlock) (.slice Ao80 x5_1.length co80) x5_1) := ⟨h2_⟩
      have n3_ : Aside0 (Kd.R (Kd.int .i64) 3 w90 w.heap.size (fun _ => True) u6 x6_1) := ⟨h3_⟩
      have n4_ : Aside0 (w90.heap[gb273]? = some (.cells #[.int .i64 ((rd_T50 l0 x15_1).f0), .int .i64 ((rd_T50 l0 x15_1).f1), .string ((rd_T50 l0 x15_1).f2)] 50 (0, 0))) := ⟨h4_⟩
      have n5_ : Aside0 (Below w.heap.size w w90) := ⟨h5_⟩
      have n6_ : Aside0 (Kd.C Kd.string w90 Ao80 y324.length y324) := ⟨h6_⟩
      have n7_ : Aside0 (Kd.C Kd.string w90 A84 y337.length y337) := ⟨h7_⟩
      clear HO_5
      clear HO_6
      clear BK273
      clear HB
      clear h0_ h1_ h2_ h3_ h4_ h5_ h6_ h7_
      have HO330 := n0_
      have HO333 := n1_
      have HO_5 := n2_
      have HO_6 := n3_
      have BK273 := n4_
      have HB := n5_
      have HR327 := n6_
      have HR340 := n7_
      clear n0_ n1_ n2_ n3_ n4_ n5_ n6_ n7_
      have hHeld : w90.cell? ⟨gb273, 0, none⟩ = some (.int .i64 ((rd_T50 l0 x15_1).f0)) ∧ w90.cell? ⟨gb273, 1, none⟩ = some (.int .i64 ((rd_T50 l0 x15_1).f1)) ∧ w90.cell? ⟨gb273, 2, none⟩ = some (.string ((rd_T50 l0 x15_1).f2)) := hS_
      obtain ⟨Ao92, co92, eo92⟩ := Kd.R_slice HO333.out
      (first | subst eo92 | (injection eo92 with f1_ f2_ f3_; have f4_ := f1_.symm; have f5_ := f3_.symm; clear f1_ f2_ f3_; subst f4_; subst f5_))
      refine norm_ (a' := ?_) ?_ ?_
      rotate_left
      ·simp only [putAll, Act.put, List.setIfInBounds_toArray, List.set_cons_zero, List.set_cons_succ]
       rfl
      refine on_ 8 61 fun K hK => ?_
      refine Kd.R_append_rows_step Kd.string (w0 := w) w.heap.size (by rfl) (.tmp 57) (.tmp 60) 25 9 (.string ⟨#[]⟩) 16 rfl Try.underlying25 info9 rfl (by decide) (by omega) v329 y328 y331 _ _ _ (fun k_ => some k_ ≠ (.slice Ao80 x5_1.length co80 : Value).ownBlock ∧ some k_ ≠ (.slice Ao92 y331.length co92 : Value).ownBlock) (fun _ => False) rfl rfl ?aO ?aR (fun _ _ h => h) (fun _ h => h.elim) ?aF ?aB ?aS ?aL ?_
      (case aR => exact cR_ HO333)
      (case aB => exact hB_)
      (case aF => exact (fun k_ hk => ⟨Kd.fresh' (Kd.R_lt (rR_ HO_5)) k_ hk, Kd.fresh' (Kd.R_lt (rR_ HO333)) k_ hk⟩))
      (case aO => exact (rM_ HO330 (fun _ hk => ⟨hk.2, hk.1⟩)))
      (case aS => exact (below_size hB_))
      (case aL => have := LMc68.out; omega)
      intro v335 w91 ho hb hg hat
      rw [← Ny334.out] at ho
      have HO336 := aM_ (ho)
      replace HO_6 := aM_ (Kd.R_over' (rR_ HO_6) (Kd.R_typed (rR_ HO330)) (by decide) hg)
      replace BK273 := aM_ (blk_grown (g := gb273) (kR_ BK273) hg (Kd.R_ne HO330.out BK273.out (by decide)))
      replace HO333 := aM_ (Kd.R_after (ok := (fun k_ => some k_ ≠ (.slice Ao80 x5_1.length co80 : Value).ownBlock)) (rM_ HO333 (fun _ hk => ⟨hk.2, hk.1⟩)) hg hat)
      replace HB := aM_ (hb)
      replace HR327 := aM_ ((show Kd.C Kd.string w91 Ao80 y324.length y324 from by rw [Ny324.out]; exact Kd.C_take (m := (x9_2 : Int).toNat) ((Kd.R_reads' (Kd.R_after (ok := (fun k_ => some k_ ≠ (.slice Ao92 y331.length co92 : Value).ownBlock)) (rM_ HO_5 (fun _ hk => ⟨hk.2, hk.1⟩)) hg hat)).2.2) KL83.out))
      replace HR340 := aM_ ((show Kd.C Kd.string w91 A84 y337.length y337 from by rw [Ny337.out, KA84.out]; exact Kd.C_drop (m := (x9_2 : Int).toNat) (c := co80) ((Kd.R_reads' (Kd.R_after (ok := (fun k_ => some k_ ≠ (.slice Ao92 y331.length co92 : Value).ownBlock)) (rM_ HO_5 (fun _ hk => ⟨hk.2, hk.1⟩)) hg hat)).2.2) KL84.out ((Kd.R_reads' (Kd.R_after (ok := (fun k_ => some k_ ≠ (.slice Ao92 y331.length co92 : Value).ownBlock)) (rM_ HO_5 (fun _ hk => ⟨hk.2, hk.1⟩)) hg hat)).2.1)))
      replace HO_5 := aM_ (Kd.R_after (ok := (fun k_ => some k_ ≠ (.slice Ao92 y331.length co92 : Value).ownBlock)) (rM_ HO_5 (fun _ hk => ⟨hk.2, hk.1⟩)) hg hat)
      clear HO330
      clear ho hb hg hat
      refine hK.out _ _ ⟨(blk_cell BK273.out 0).trans rfl, (blk_cell BK273.out 1).trans rfl, (blk_cell BK273.out 2).trans rfl⟩ (fun hHeld => ?_)
      clear hK K
      refine nm_ 61 ?_
      refine on_ 12 65 fun K hK => ?_
      refine Kd.R_append_rows_step Kd.string (w0 := w) w.heap.size (by rfl) (.tmp 61) (.tmp 64) 25 9 (.string ⟨#[]⟩) 16 rfl Try.underlying25 info9 rfl (by decide) (by omega) v335 y334 y337 _ _ _ (fun k_ => some k_ ≠ (.slice Ao80 x5_1.length co80 : Value).ownBlock ∧ some k_ ≠ (.slice Ao92 y331.length co92 : Value).ownBlock) (fun _ => False) rfl rfl ?aO ?aR (fun _ _ h => h) (fun _ h => h.elim) ?aF ?aB ?aS ?aL ?_
      (case aR => repeat (first | exact (cC_ HR340) | (with_reducible first | apply cA_ | apply cN_ | apply cD_)))
      (case aB => exact hB_)
      (case aF => exact (fun k_ hk => ⟨Kd.fresh' (Kd.R_lt (rR_ HO_5)) k_ hk, Kd.fresh' (Kd.R_lt (rR_ HO333)) k_ hk⟩))
      (case aO => exact (rR_ HO336))
      (case aS => exact (below_size hB_))
      (case aL => have := LMc71.out; omega)
      intro v342 w93 ho hb hg hat
      rw [← Ny341.out] at ho
      have HO343 := aM_ (ho)
      replace HO_6 := aM_ (Kd.R_over' (rR_ HO_6) (Kd.R_typed (rR_ HO336)) (by decide) hg)
      replace BK273 := aM_ (blk_grown (g := gb273) (kR_ BK273) hg (Kd.R_ne HO336.out BK273.out (by decide)))
      replace HO333 := aM_ (Kd.R_after (ok := (fun k_ => some k_ ≠ (.slice Ao80 x5_1.length co80 : Value).ownBlock)) (rR_ HO333) hg hat)
      replace HB := aM_ (hb)
      replace HR327 := aM_ ((show Kd.C Kd.string w93 Ao80 y324.length y324 from by rw [Ny324.out]; exact Kd.C_take (m := (x9_2 : Int).toNat) ((Kd.R_reads' (Kd.R_after (ok := (fun k_ => some k_ ≠ (.slice Ao92 y331.length co92 : Value).ownBlock)) (rR_ HO_5) hg hat)).2.2) KL83.out))
      replace HR340 := aM_ ((show Kd.C Kd.string w93 A84 y337.length y337 from by rw [Ny337.out, KA84.out]; exact Kd.C_drop (m := (x9_2 : Int).toNat) (c := co80) ((Kd.R_reads' (Kd.R_after (ok := (fun k_ => some k_ ≠ (.slice Ao92 y331.length co92 : Value).ownBlock)) (rR_ HO_5) hg hat)).2.2) KL84.out ((Kd.R_reads' (Kd.R_after (ok := (fun k_ => some k_ ≠ (.slice Ao92 y331.length co92 : Value).ownBlock)) (rR_ HO_5) hg hat)).2.1)))
      replace HO_5 := aM_ (Kd.R_after (ok := (fun k_ => some k_ ≠ (.slice Ao92 y331.length co92 : Value).ownBlock)) (rR_ HO_5) hg hat)
      clear HO336
      clear ho hb hg hat
      refine hK.out _ _ ⟨(blk_cell BK273.out 0).trans rfl, (blk_cell BK273.out 1).trans rfl, (blk_cell BK273.out 2).trans rfl⟩ (fun hHeld => ?_)
      clear hK K
      refine nm_ 65 ?_
      refine pu_ 13 5 ?_
      refine dn_ ?_
      try go_wp2
      replace HO_5 := aM_ (Kd.R_drew HO_5.out)
      replace HO_6 := aM_ (Kd.R_drew HO_6.out)
      replace HO333 := aM_ (Kd.R_drew HO333.out)
      replace HO343 := aM_ (Kd.R_drew HO343.out)
      replace BK273 := aM_ (blk_drew BK273.out)
      replace HR327 := aM_ (Kd.C_drew HR327.out)
      replace HR340 := aM_ (Kd.C_drew HR340.out)
      replace HB := aM_ (below_drew1 HB.out)
      obtain ⟨Ao96, co96, eo96⟩ := Kd.R_slice HO_6.out
      (first | subst eo96 | (injection eo96 with f1_ f2_ f3_; have f4_ := f1_.symm; have f5_ := f3_.symm; clear f1_ f2_ f3_; subst f4_; subst f5_))
      have q95 : (x9_2 : Int) ≤ ((x6_1.length : Int) : Int) := ode_
      obtain ⟨i095, hi095, _, hsz95, _⟩ := info_parts info3
      have hroom95 : x6_1.length ≤ co96 := (Kd.R_reads' HO_6.out).2.1
      have hC95 : Kd.C (Kd.int .i64) _ Ao96 x6_1.length x6_1 := (Kd.R_reads' HO_6.out).2.2
      have hcut95 := cut_to (P := Try.prog) 26 3 .i64 Try.underlying26 hi095 Ao96 x6_1.length co96 x9_2 ode_ q95 hroom95
      have hr95 := Kd.C_take (m := (x9_2 : Int).toNat) hC95 (by omega)
      have hy95 : y344.length = (x9_2 : Int).toNat := (by rw [Ny344.out, List.length_take]; omega)
      rw [← Ny344.out] at hr95
      rw [← hy95] at hcut95
      have HR347 := Aside0.mk hr95
      have HC347 := Aside0.mk (show y344.length ≤ co96 from by omega)
      clear hr95 hC95 hroom95 hi095 hsz95
      have KY95 := Aside0.mk hy95
      clear hy95
      have KL95 := Aside0.mk (show (x9_2 : Int).toNat ≤ x6_1.length from by omega)
      replace q95 := eq_true q95
      have q97 : (x9_2 : Int) ≤ ((x6_1.length : Int) : Int) := ode_
      obtain ⟨i097, hi097, _, hsz97, _⟩ := info_parts info3
      have hroom97 : x6_1.length ≤ co96 := (Kd.R_reads' HO_6.out).2.1
      have hC97 : Kd.C (Kd.int .i64) _ Ao96 x6_1.length x6_1 := (Kd.R_reads' HO_6.out).2.2
      have q097 : (0 : Int) ≤ (x9_2 : Int) := ode_
      have hcut97 := cut_from (P := Try.prog) 26 3 .i64 Try.underlying26 hi097 1 hsz97 Ao96 x6_1.length co96 x9_2 q097 q97
      have hr97 := Kd.C_drop (m := (x9_2 : Int).toNat) (c := co96) hC97 (by omega) hroom97
      obtain ⟨A97, hA97⟩ : ∃ Ab_, Ab_ = (if co96 = (x9_2 : Int).toNat then Ao96 else (Ao96 : Option Addr).map (·.add ((x9_2 : Int).toNat * 1))) := ⟨_, rfl⟩
      obtain ⟨c97, hc97⟩ : ∃ cb_, cb_ = co96 - (x9_2 : Int).toNat := ⟨_, rfl⟩
      have hy97 : y357.length = x6_1.length - (x9_2 : Int).toNat := (by rw [Ny357.out, List.length_drop] <;> omega)
      rw [show (x6_1).drop (x9_2 : Int).toNat = y357 from Ny357.out.symm] at hr97
      replace hr97 : Kd.C (Kd.int .i64) _ A97 y357.length y357 := (by rw [hA97]; exact hr97)
      rw [← hy97, ← hA97, ← hc97] at hcut97
      have HR360 := Aside0.mk hr97
      have HC360 := Aside0.mk (show y357.length ≤ c97 from by rw [hy97, hc97]; exact Nat.sub_le_sub_right hroom97 _)
      clear hr97 hC97 hroom97 hi097 hsz97 hc97
      have KY97 := Aside0.mk hy97
      have KA97 := Aside0.mk hA97
      clear hy97 hA97
      have KL97 := Aside0.mk (show (x9_2 : Int).toNat ≤ x6_1.length from by omega)
      replace q97 := eq_true q97
      refine st_ 11 (fun w' => True) [] spec_CountGlosses.tab14 spec_CountGlosses.bits14 trivial fun hHeld HT_ HW_ => ?_
      generalize w93.drew = w94 at HO_5 HO_6 HO333 HO343 BK273 HR327 HR340 HB HR347 HR360 hHeld ⊢
      refine pu_ 0 66 ?_
      refine pu_ 1 67 ?_
      refine pu_ 2 68 ?_
      refine pu_ 6 72 ?_
      refine pu_ 7 73 ?_
      refine pu_ 8 74 ?_
      refine join_ (σ := Value × Value) 3 (bz_ 11 0x1df) (fun s_ => [(69, s_.1), (70, s_.2)]) (fun s_ w' => (Kd.R Kd.string 9 w' w.heap.size (fun k_ => some k_ ≠ (v342 : Value).ownBlock ∧ some k_ ≠ (.slice Ao80 x5_1.length co80 : Value).ownBlock) (.slice Ao92 y331.length co92) y331) ∧ (Kd.R Kd.string 9 w' w.heap.size (fun k_ => some k_ ≠ (.slice Ao92 y331.length co92 : Value).ownBlock ∧ some k_ ≠ (.slice Ao80 x5_1.length co80 : Value).ownBlock) v342 y341) ∧ (Kd.R (Kd.int .i64) 3 w' w.heap.size (fun k_ => some k_ ≠ (s_.2 : Value).ownBlock ∧ some k_ ≠ (.slice Ao96 x6_1.length co96 : Value).ownBlock) s_.1 t348) ∧ (Kd.R (Kd.int .i64) 3 w' w.heap.size (fun k_ => some k_ ≠ (s_.1 : Value).ownBlock ∧ some k_ ≠ (.slice Ao96 x6_1.length co96 : Value).ownBlock) s_.2 y351) ∧ (Kd.R Kd.string 9 w' w.heap.size (fun k_ => some k_ ≠ (.slice Ao92 y331.length co92 : Value).ownBlock ∧ some k_ ≠ (v342 : Value).ownBlock) (.slice Ao80 x5_1.length co80) x5_1) ∧ (Kd.R (Kd.int .i64) 3 w' w.heap.size (fun k_ => some k_ ≠ (s_.1 : Value).ownBlock ∧ some k_ ≠ (s_.2 : Value).ownBlock) (.slice Ao96 x6_1.length co96) x6_1) ∧ (w'.heap[gb273]? = some (.cells #[.int .i64 ((rd_T50 l0 x15_1).f0), .int .i64 ((rd_T50 l0 x15_1).f1), .string ((rd_T50 l0 x15_1).f2)] 50 (0, 0))) ∧ (Below w.heap.size w w') ∧ (Kd.C Kd.string w' Ao80 y324.length y324) ∧ (Kd.C Kd.string w' A84 y337.length y337) ∧ (Kd.C (Kd.int .i64) w' Ao96 y344.length y344) ∧ (Kd.C (Kd.int .i64) w' A97 y357.length y357)) ?_ ?_
      rotate_left
      ·intro hCont
       refine two_ (i := 3) (j := 4) (Ni := some 69) (Nj := some 70) (bz_ 11 0x1cf) (bz_ 11 0x1d7) rfl rfl rfl rfl (two_of HT_.out (by kernel_rfl)) (by decide) (by decide) (fun K hK => ?_) (fun K hK => ?_)
       ·skip
        refine gS_ Try.func32 #[.slice Ao96 y344.length co96] ?_
        with_reducible refine (spec_l1Own.calls _ _ y344 t348 _ ?side1 ?side2 A74.out).mono ?_
        (case side1 => repeat (first | exact (cC_ HR347) | (with_reducible first | apply cA_ | apply cN_ | apply cD_)))
        (case side2 => exact HC347.out)
        rintro e w98 ⟨v349, rfl, ho0, hb⟩
        refine ⟨_, rfl, ?_⟩
        have HO350 := aM_ (Kd.R_lower (Kd.R_new' ho0 (Kd.R_lt (rR_ HO_6))) (below_size hB_))
        replace HO_5 := aM_ (Kd.R_below (rR_ HO_5) hb)
        replace HO_6 := aM_ (Kd.R_elder' (rR_ HO_6) (Kd.R_base ho0) hb)
        replace HO333 := aM_ (Kd.R_below (rR_ HO333) hb)
        replace HO343 := aM_ (Kd.R_below (rR_ HO343) hb)
        replace BK273 := aM_ (blk_below (g := gb273) (kR_ BK273) hb)
        replace HR327 := aM_ (Kd.C_below (cC_ HR327) hb)
        replace HR340 := aM_ (Kd.C_below (cC_ HR340) hb)
        replace HR347 := aM_ (Kd.C_below (cC_ HR347) hb)
        replace HR360 := aM_ (Kd.C_below (cC_ HR360) hb)
        replace HB := aM_ (below_step hB_ hb)
        (try clear hb)
        (try clear hb2)
        (try clear hk)
        (try clear hi)
        (try clear ho0)
        refine hK.out _ _ trivial (fun hHeld => ?_)
        clear hK K
        refine nm_ 69 ?_
        refine on_ 4 70 fun K hK => ?_
        refine Kd.R_lit_step (Kd.int .i64) _ 3 ?hg (N := 70) ?hd (xs := ([1] : List Int)) (inner := [.int .i64 1]) (ok := fun _ => True) (okp := fun _ => True) ?hr ?hp (fun _ hk => hk) trivial (Below.refl _ _) (Nat.le_refl _) (by simp) ?_; (case hd => rfl); (case hg => rfl); (case hr => first | (go_simp; done) | (go_simp; rfl)); (case hp => exact (Reps.one (show Kd.M (Kd.int .i64) _ _ _ 1 [.int .i64 1] from rfl) (Reps.none _ _)))
        intro v352 w99 ho100 hb hg_ hnew_
        clear hg_ hnew_
        (first | rw [← Ny351.out] at ho100 | (simp only [Int.reduceToNat] at ho100; rw [← Ny351.out] at ho100))
        have HO353 := aM_ (Kd.R_lower (Kd.R_new' (Kd.R_new' ho100 (Kd.R_lt (rR_ HO_6))) (Kd.R_lt (rR_ HO350))) (below_size hB_))
        replace HO_5 := aM_ (Kd.R_below (rR_ HO_5) hb)
        replace HO_6 := aM_ (Kd.R_elder' (rR_ HO_6) (Kd.R_base ho100) hb)
        replace HO333 := aM_ (Kd.R_below (rR_ HO333) hb)
        replace HO343 := aM_ (Kd.R_below (rR_ HO343) hb)
        replace HO350 := aM_ (Kd.R_elder' (rR_ HO350) (Kd.R_base ho100) hb)
        replace BK273 := aM_ (blk_below (g := gb273) (kR_ BK273) hb)
        replace HR327 := aM_ (Kd.C_below (cC_ HR327) hb)
        replace HR340 := aM_ (Kd.C_below (cC_ HR340) hb)
        replace HR347 := aM_ (Kd.C_below (cC_ HR347) hb)
        replace HR360 := aM_ (Kd.C_below (cC_ HR360) hb)
        replace HB := aM_ (below_step hB_ hb)
        clear hb ho100
        refine hK.out _ _ trivial (fun hHeld => ?_)
        clear hK K
        refine nm_ 70 ?_
        exact norm_ z6_2_ (hCont (v349, v352) _ ⟨(rM_ HO333 (fun _ hk => ⟨hk.2, hk.1⟩)), (rM_ HO343 (fun _ hk => ⟨hk.2, hk.1⟩)), (rM_ HO350 (fun _ hk => ⟨hk.2, hk.1.2⟩)), (rM_ HO353 (fun _ hk => ⟨hk.2, hk.1.2⟩)), (rR_ HO_5), (rM_ HO_6 (fun _ hk => ⟨hk.1.2, hk.2⟩)), (kR_ BK273), hB_, (cC_ HR327), (cC_ HR340), (cC_ HR347), (cC_ HR360)⟩)
       ·skip
        refine Kd.R_lit_step (Kd.int .i64) _ 3 ?hg (N := 70) ?hd (xs := ([1] : List Int)) (inner := [.int .i64 1]) (ok := fun _ => True) (okp := fun _ => True) ?hr ?hp (fun _ hk => hk) trivial (Below.refl _ _) (Nat.le_refl _) (by simp) ?_; (case hd => rfl); (case hg => rfl); (case hr => first | (go_simp; done) | (go_simp; rfl)); (case hp => exact (Reps.one (show Kd.M (Kd.int .i64) _ _ _ 1 [.int .i64 1] from rfl) (Reps.none _ _)))
        intro v352 w98 ho99 hb hg_ hnew_
        clear hg_ hnew_
        (first | rw [← Ny351.out] at ho99 | (simp only [Int.reduceToNat] at ho99; rw [← Ny351.out] at ho99))
        have HO353 := aM_ (Kd.R_lower (Kd.R_new' ho99 (Kd.R_lt (rR_ HO_6))) (below_size hB_))
        replace HO_5 := aM_ (Kd.R_below (rR_ HO_5) hb)
        replace HO_6 := aM_ (Kd.R_elder' (rR_ HO_6) (Kd.R_base ho99) hb)
        replace HO333 := aM_ (Kd.R_below (rR_ HO333) hb)
        replace HO343 := aM_ (Kd.R_below (rR_ HO343) hb)
        replace BK273 := aM_ (blk_below (g := gb273) (kR_ BK273) hb)
        replace HR327 := aM_ (Kd.C_below (cC_ HR327) hb)
        replace HR340 := aM_ (Kd.C_below (cC_ HR340) hb)
        replace HR347 := aM_ (Kd.C_below (cC_ HR347) hb)
        replace HR360 := aM_ (Kd.C_below (cC_ HR360) hb)
        replace HB := aM_ (below_step hB_ hb)
        clear hb ho99
        refine hK.out _ _ trivial (fun hHeld => ?_)
        clear hK K
        refine nm_ 70 ?_
        refine on_ 3 69 fun K hK => ?_
        refine gS_ Try.func32 #[.slice Ao96 y344.length co96] ?_
        with_reducible refine (spec_l1Own.calls _ _ y344 t348 _ ?side1 ?side2 A74.out).mono ?_
        (case side1 => repeat (first | exact (cC_ HR347) | (with_reducible first | apply cA_ | apply cN_ | apply cD_)))
        (case side2 => exact HC347.out)
        rintro e w100 ⟨v349, rfl, ho0, hb⟩
        refine ⟨_, rfl, ?_⟩
        have HO350 := aM_ (Kd.R_lower (Kd.R_new' (Kd.R_new' ho0 (Kd.R_lt (rR_ HO_6))) (Kd.R_lt (rR_ HO353))) (below_size hB_))
        replace HO_5 := aM_ (Kd.R_below (rR_ HO_5) hb)
        replace HO_6 := aM_ (Kd.R_elder' (rR_ HO_6) (Kd.R_base ho0) hb)
        replace HO333 := aM_ (Kd.R_below (rR_ HO333) hb)
        replace HO343 := aM_ (Kd.R_below (rR_ HO343) hb)
        replace HO353 := aM_ (Kd.R_elder' (rR_ HO353) (Kd.R_base ho0) hb)
        replace BK273 := aM_ (blk_below (g := gb273) (kR_ BK273) hb)
        replace HR327 := aM_ (Kd.C_below (cC_ HR327) hb)
        replace HR340 := aM_ (Kd.C_below (cC_ HR340) hb)
        replace HR347 := aM_ (Kd.C_below (cC_ HR347) hb)
        replace HR360 := aM_ (Kd.C_below (cC_ HR360) hb)
        replace HB := aM_ (below_step hB_ hb)
        (try clear hb)
        (try clear hb2)
        (try clear hk)
        (try clear hi)
        (try clear ho0)
        refine hK.out _ _ trivial (fun hHeld => ?_)
        clear hK K
        refine nm_ 69 ?_
        exact norm_ z6_2_ (hCont (v349, v352) _ ⟨(rM_ HO333 (fun _ hk => ⟨hk.2, hk.1⟩)), (rM_ HO343 (fun _ hk => ⟨hk.2, hk.1⟩)), (rM_ HO350 (fun _ hk => ⟨hk.2, hk.1.2⟩)), (rM_ HO353 (fun _ hk => ⟨hk.2, hk.1.2⟩)), (rR_ HO_5), (rM_ HO_6 (fun _ hk => ⟨hk.2, hk.1.2⟩)), (kR_ BK273), hB_, (cC_ HR327), (cC_ HR340), (cC_ HR347), (cC_ HR360)⟩)
      rintro ⟨v349, v352⟩ w101 ⟨h0_, h1_, h2_, h3_, h4_, h5_, h6_, h7_, h8_, h9_, h10_, h11_⟩
      have n0_ : Aside0 (Kd.R Kd.string 9 w101 w.heap.size (fun k_ => some k_ ≠ (v342 : Value).ownBlock ∧ some k_ ≠ (.slice Ao80 x5_1.length co80 : Value).ownBlock) (.slice Ao92 y331.length co92) y331) := ⟨h0_⟩
      have n1_ : Aside0 (Kd.R Kd.string 9 w101 w.heap.size (fun k_ => some k_ ≠ (.slice Ao92 y331.length co92 : Value).ownBlock ∧ some k_ ≠ (.slice Ao80 x5_1.length co80 : Value).ownBlock) v342 y341) := ⟨h1_⟩
      have n2_ : Aside0 (Kd.R (Kd.int .i64) 3 w101 w.heap.size (fun k_ => some k_ ≠ (v352 : Value).ownBlock ∧ some k_ ≠ (.slice Ao96 x6_1.length co96 : Value).ownBlock) v349 t348) := ⟨h2_⟩
      have n3_ : Aside0 (Kd.R (Kd.int .i64) 3 w101 w.heap.size (fun k_ => some k_ ≠ (v349 : Value).ownBlock ∧ some k_ ≠ (.slice Ao96 x6_1.length co96 : Value).ownBlock) v352 y351) := ⟨h3_⟩
      have n4_ : Aside0 (Kd.R Kd.string 9 w101 w.heap.size (fun k_ => some k_ ≠ (.slice Ao92 y331.length co92 : Value).ownBlock ∧ some k_ ≠ (v342 : Value).ownBlock) (.slice Ao80 x5_1.length co80) x5_1) := ⟨h4_⟩
      have n5_ : Aside0 (Kd.R (Kd.int .i64) 3 w101 w.heap.size (fun k_ => some k_ ≠ (v349 : Value).ownBlock ∧ some k_ ≠ (v352 : Value).ownBlock) (.slice Ao96 x6_1.length co96) x6_1) := ⟨h5_⟩
      have n6_ : Aside0 (w101.heap[gb273]? = some (.cells #[.int .i64 ((rd_T50 l0 x15_1).f0), .int .i64 ((rd_T50 l0 x15_1).f1), .string ((rd_T50 l0 x15_1).f2)] 50 (0, 0))) := ⟨h6_⟩
      have n7_ : Aside0 (Below w.heap.size w w101) := ⟨h7_⟩
      have n8_ : Aside0 (Kd.C Kd.string w101 Ao80 y324.length y324) := ⟨h8_⟩
      have n9_ : Aside0 (Kd.C Kd.string w101 A84 y337.length y337) := ⟨h9_⟩
      have n10_ : Aside0 (Kd.C (Kd.int .i64) w101 Ao96 y344.length y344) := ⟨h10_⟩
      have n11_ : Aside0 (Kd.C (Kd.int .i64) w101 A97 y357.length y357) := ⟨h11_⟩
      clear HO_5
      clear HO_6
      clear HO333
      clear HO343
      clear BK273
      clear HR327
      clear HR340
      clear HB
      clear h0_ h1_ h2_ h3_ h4_ h5_ h6_ h7_ h8_ h9_ h10_ h11_
      have HO333 := n0_
      have HO343 := n1_
      have HO350 := n2_
      have HO353 := n3_
      have HO_5 := n4_
      have HO_6 := n5_
      have BK273 := n6_
      have HB := n7_
      have HR327 := n8_
      have HR340 := n9_
      have HR347 := n10_
      have HR360 := n11_
      clear n0_ n1_ n2_ n3_ n4_ n5_ n6_ n7_ n8_ n9_ n10_ n11_
      have hHeld := trivial
      obtain ⟨Ao103, co103, eo103⟩ := Kd.R_slice HO353.out
      (first | subst eo103 | (injection eo103 with f1_ f2_ f3_; have f4_ := f1_.symm; have f5_ := f3_.symm; clear f1_ f2_ f3_; subst f4_; subst f5_))
      refine norm_ (a' := ?_) ?_ ?_
      rotate_left
      ·simp only [putAll, Act.put, List.setIfInBounds_toArray, List.set_cons_zero, List.set_cons_succ]
       rfl
      refine on_ 5 71 fun K hK => ?_
      refine Kd.R_append_rows_step (Kd.int .i64) (w0 := w) w.heap.size (by rfl) (.tmp 69) (.tmp 70) 26 3 (.int .i64 0) 8 rfl Try.underlying26 info3 rfl (by decide) (by omega) v349 t348 y351 _ _ _ (fun k_ => some k_ ≠ (.slice Ao96 x6_1.length co96 : Value).ownBlock ∧ some k_ ≠ (.slice Ao103 y351.length co103 : Value).ownBlock) (fun _ => False) rfl rfl ?aO ?aR (fun _ _ h => h) (fun _ h => h.elim) ?aF ?aB ?aS ?aL ?_
      (case aR => exact cR_ HO353)
      (case aB => exact hB_)
      (case aF => exact (fun k_ hk => ⟨Kd.fresh' (Kd.R_lt (rR_ HO_6)) k_ hk, Kd.fresh' (Kd.R_lt (rR_ HO353)) k_ hk⟩))
      (case aO => exact (rM_ HO350 (fun _ hk => ⟨hk.2, hk.1⟩)))
      (case aS => exact (below_size hB_))
      (case aL => have := LMc75.out; omega)
      intro v355 w102 ho hb hg hat
      rw [← Ny354.out] at ho
      have HO356 := aM_ (ho)
      replace BK273 := aM_ (blk_grown (g := gb273) (kR_ BK273) hg (Kd.R_ne HO350.out BK273.out (by decide)))
      replace HO333 := aM_ (Kd.R_over' (rR_ HO333) (Kd.R_typed (rR_ HO350)) (by decide) hg)
      replace HO343 := aM_ (Kd.R_over' (rR_ HO343) (Kd.R_typed (rR_ HO350)) (by decide) hg)
      replace HO353 := aM_ (Kd.R_after (ok := (fun k_ => some k_ ≠ (.slice Ao96 x6_1.length co96 : Value).ownBlock)) (rM_ HO353 (fun _ hk => ⟨hk.2, hk.1⟩)) hg hat)
      replace HB := aM_ (hb)
      replace HR327 := aM_ ((show Kd.C Kd.string w102 Ao80 y324.length y324 from by rw [Ny324.out]; exact Kd.C_take (m := (x9_2 : Int).toNat) ((Kd.R_reads' (Kd.R_over' (rR_ HO_5) (Kd.R_typed (rR_ HO350)) (by decide) hg)).2.2) KL83.out))
      replace HR340 := aM_ ((show Kd.C Kd.string w102 A84 y337.length y337 from by rw [Ny337.out, KA84.out]; exact Kd.C_drop (m := (x9_2 : Int).toNat) (c := co80) ((Kd.R_reads' (Kd.R_over' (rR_ HO_5) (Kd.R_typed (rR_ HO350)) (by decide) hg)).2.2) KL84.out ((Kd.R_reads' (Kd.R_over' (rR_ HO_5) (Kd.R_typed (rR_ HO350)) (by decide) hg)).2.1)))
      replace HO_5 := aM_ (Kd.R_over' (rR_ HO_5) (Kd.R_typed (rR_ HO350)) (by decide) hg)
      replace HR347 := aM_ ((show Kd.C (Kd.int .i64) w102 Ao96 y344.length y344 from by rw [Ny344.out]; exact Kd.C_take (m := (x9_2 : Int).toNat) ((Kd.R_reads' (Kd.R_after (ok := (fun k_ => some k_ ≠ (.slice Ao103 y351.length co103 : Value).ownBlock)) (rM_ HO_6 (fun _ hk => ⟨hk.2, hk.1⟩)) hg hat)).2.2) KL95.out))
      replace HR360 := aM_ ((show Kd.C (Kd.int .i64) w102 A97 y357.length y357 from by rw [Ny357.out, KA97.out]; exact Kd.C_drop (m := (x9_2 : Int).toNat) (c := co96) ((Kd.R_reads' (Kd.R_after (ok := (fun k_ => some k_ ≠ (.slice Ao103 y351.length co103 : Value).ownBlock)) (rM_ HO_6 (fun _ hk => ⟨hk.2, hk.1⟩)) hg hat)).2.2) KL97.out ((Kd.R_reads' (Kd.R_after (ok := (fun k_ => some k_ ≠ (.slice Ao103 y351.length co103 : Value).ownBlock)) (rM_ HO_6 (fun _ hk => ⟨hk.2, hk.1⟩)) hg hat)).2.1)))
      replace HO_6 := aM_ (Kd.R_after (ok := (fun k_ => some k_ ≠ (.slice Ao103 y351.length co103 : Value).ownBlock)) (rM_ HO_6 (fun _ hk => ⟨hk.2, hk.1⟩)) hg hat)
      clear HO350
      clear ho hb hg hat
      refine hK.out _ _ trivial (fun hHeld => ?_)
      clear hK K
      refine nm_ 71 ?_
      refine on_ 9 75 fun K hK => ?_
      refine Kd.R_append_rows_step (Kd.int .i64) (w0 := w) w.heap.size (by rfl) (.tmp 71) (.tmp 74) 26 3 (.int .i64 0) 8 rfl Try.underlying26 info3 rfl (by decide) (by omega) v355 y354 y357 _ _ _ (fun k_ => some k_ ≠ (.slice Ao96 x6_1.length co96 : Value).ownBlock ∧ some k_ ≠ (.slice Ao103 y351.length co103 : Value).ownBlock) (fun _ => False) rfl rfl ?aO ?aR (fun _ _ h => h) (fun _ h => h.elim) ?aF ?aB ?aS ?aL ?_
      (case aR => repeat (first | exact (cC_ HR360) | (with_reducible first | apply cA_ | apply cN_ | apply cD_)))
      (case aB => exact hB_)
      (case aF => exact (fun k_ hk => ⟨Kd.fresh' (Kd.R_lt (rR_ HO_6)) k_ hk, Kd.fresh' (Kd.R_lt (rR_ HO353)) k_ hk⟩))
      (case aO => exact (rR_ HO356))
      (case aS => exact (below_size hB_))
      (case aL => have := LMc78.out; omega)
      intro v362 w104 ho hb hg hat
      rw [← Ny361.out] at ho
      have HO363 := aM_ (ho)
      replace BK273 := aM_ (blk_grown (g := gb273) (kR_ BK273) hg (Kd.R_ne HO356.out BK273.out (by decide)))
      replace HO333 := aM_ (Kd.R_over' (rR_ HO333) (Kd.R_typed (rR_ HO356)) (by decide) hg)
      replace HO343 := aM_ (Kd.R_over' (rR_ HO343) (Kd.R_typed (rR_ HO356)) (by decide) hg)
      replace HO353 := aM_ (Kd.R_after (ok := (fun k_ => some k_ ≠ (.slice Ao96 x6_1.length co96 : Value).ownBlock)) (rR_ HO353) hg hat)
      replace HB := aM_ (hb)
      replace HR327 := aM_ ((show Kd.C Kd.string w104 Ao80 y324.length y324 from by rw [Ny324.out]; exact Kd.C_take (m := (x9_2 : Int).toNat) ((Kd.R_reads' (Kd.R_over' (rR_ HO_5) (Kd.R_typed (rR_ HO356)) (by decide) hg)).2.2) KL83.out))
      replace HR340 := aM_ ((show Kd.C Kd.string w104 A84 y337.length y337 from by rw [Ny337.out, KA84.out]; exact Kd.C_drop (m := (x9_2 : Int).toNat) (c := co80) ((Kd.R_reads' (Kd.R_over' (rR_ HO_5) (Kd.R_typed (rR_ HO356)) (by decide) hg)).2.2) KL84.out ((Kd.R_reads' (Kd.R_over' (rR_ HO_5) (Kd.R_typed (rR_ HO356)) (by decide) hg)).2.1)))
      replace HO_5 := aM_ (Kd.R_over' (rR_ HO_5) (Kd.R_typed (rR_ HO356)) (by decide) hg)
      replace HR347 := aM_ ((show Kd.C (Kd.int .i64) w104 Ao96 y344.length y344 from by rw [Ny344.out]; exact Kd.C_take (m := (x9_2 : Int).toNat) ((Kd.R_reads' (Kd.R_after (ok := (fun k_ => some k_ ≠ (.slice Ao103 y351.length co103 : Value).ownBlock)) (rR_ HO_6) hg hat)).2.2) KL95.out))
      replace HR360 := aM_ ((show Kd.C (Kd.int .i64) w104 A97 y357.length y357 from by rw [Ny357.out, KA97.out]; exact Kd.C_drop (m := (x9_2 : Int).toNat) (c := co96) ((Kd.R_reads' (Kd.R_after (ok := (fun k_ => some k_ ≠ (.slice Ao103 y351.length co103 : Value).ownBlock)) (rR_ HO_6) hg hat)).2.2) KL97.out ((Kd.R_reads' (Kd.R_after (ok := (fun k_ => some k_ ≠ (.slice Ao103 y351.length co103 : Value).ownBlock)) (rR_ HO_6) hg hat)).2.1)))
      replace HO_6 := aM_ (Kd.R_after (ok := (fun k_ => some k_ ≠ (.slice Ao103 y351.length co103 : Value).ownBlock)) (rR_ HO_6) hg hat)
      clear HO356
      clear ho hb hg hat
      refine hK.out _ _ trivial (fun hHeld => ?_)
      clear hK K
      refine nm_ 75 ?_
      refine pu_ 10 6 ?_
      refine dn_ ?_
      try go_wp2
      go_roundg k2
      case measure => have := HK1.out; have := HK2.out; omega
      case rel => exact ⟨(y341), (y361), (wrap64 (x15_1 + 1)), z6_1_, H', ⟨z6_3_⟩, ⟨rT1_ HO343⟩, ⟨rT1_ HO363⟩, ⟨hB_⟩⟩
     replace H := ig_ H; obtain ⟨c12b0, H⟩ := H
     by_cases c13 : (Op.bytesLess ((rdOf ByteArray.empty x5_1 x9_2).toList) ((rd_T50 l0 x15_1).f2).toList) = true
     ·rw [if_pos c13] at H
      have c13b0 : (Op.bytesLess ((rdOf ByteArray.empty x5_1 x9_2).toList) ((rd_T50 l0 x15_1).f2).toList) = true := c13
      clear c13
      have H' := Aside0.mk H
      clear H
      try go_wp2
      replace HO_5 := aM_ (Kd.R_drew HO_5.out)
      replace HO_6 := aM_ (Kd.R_drew HO_6.out)
      replace BK273 := aM_ (blk_drew BK273.out)
      replace HB := aM_ (below_drew1 HB.out)
      obtain ⟨Ao15, co15, eo15⟩ := Kd.R_slice HO_5.out
      (first | subst eo15 | (injection eo15 with f1_ f2_ f3_; have f4_ := f1_.symm; have f5_ := f3_.symm; clear f1_ f2_ f3_; subst f4_; subst f5_))
      obtain ⟨⟨ad274, e274, hx274_0⟩, p274, q274⟩ := at2_ (Kd.at_string (Kd.R_reads' HO_5.out).2.2 x9_2); cases e274
      refine st_ 13 (fun w' => w'.cell? ⟨gb273, 0, none⟩ = some (.int .i64 ((rd_T50 l0 x15_1).f0)) ∧ w'.cell? ⟨gb273, 1, none⟩ = some (.int .i64 ((rd_T50 l0 x15_1).f1)) ∧ w'.cell? ⟨gb273, 2, none⟩ = some (.string ((rd_T50 l0 x15_1).f2)) ∧ w'.cell? (ad274.add (x9_2).toNat) = some (.string (rdOf ByteArray.empty x5_1 x9_2))) [] spec_CountGlosses.tab9 spec_CountGlosses.bits9 ⟨(blk_cell BK273.out 0).trans rfl, (blk_cell BK273.out 1).trans rfl, (blk_cell BK273.out 2).trans rfl, hx274_0⟩ fun hHeld HT_ HW_ => ?_
      generalize wr.drew = w14 at HO_5 HO_6 BK273 HB hx274_0 hHeld ⊢
      refine pu_ 0 19 ?_
      refine pu_ 1 20 ?_
      refine pu_ 2 21 ?_
      refine pu_ 3 22 ?_
      refine pu_ 4 23 ?_
      refine pu_ 5 24 ?_
      refine pu_ 6 25 ?_
      refine pu_ 7 26 ?_
      refine pu_ 9 28 ?_
      refine tk_ 8 27 ?_
      refine tk_ 10 29 ?_
      refine pu_ 11 30 ?_
      refine pu_ 12 31 ?_
      refine dn_ ?_
      try go_wp2
      go_roundg k2
      case measure => have := HK1.out; have := HK2.out; omega
      case rel => exact ⟨(wrap64 (x9_2 + 1)), z6_1_, H', ⟨z6_3_⟩, ⟨(rR_ HO_5)⟩, ⟨(rR_ HO_6)⟩, ⟨kP_⟩, ⟨hB_⟩⟩
     rw [if_neg c13] at H
     have c13b0 : (Op.bytesLess ((rdOf ByteArray.empty x5_1 x9_2).toList) ((rd_T50 l0 x15_1).f2).toList) = false := by simpa using c13
     clear c13
     by_cases c16 : (rdOf ByteArray.empty x5_1 x9_2).toList = ((rd_T50 l0 x15_1).f2).toList
     ·rw [if_pos c16] at H
      have c16b0 : ((rdOf ByteArray.empty x5_1 x9_2).toList == ((rd_T50 l0 x15_1).f2).toList) = true := beq_iff_eq.mpr c16
      have c16b1 : ((rdOf ByteArray.empty x5_1 x9_2).toList != ((rd_T50 l0 x15_1).f2).toList) = false := bne_eq_false_iff_eq.mpr c16
      clear c16
      replace H := ig_ H; obtain ⟨c17b0, H⟩ := H
      obtain ⟨y277, hy277⟩ : ∃ y_ : List Int, y_ = (x6_1.set (x9_2 : Int).toNat (wrap64 ((rd x6_1 x9_2) + 1))) := ⟨_, rfl⟩
      rw [← hy277] at H
      have Ny277 := Aside0.mk hy277; clear hy277
      have H' := Aside0.mk H
      clear H
      try go_wp2
      replace HO_5 := aM_ (Kd.R_drew HO_5.out)
      replace HO_6 := aM_ (Kd.R_drew HO_6.out)
      replace BK273 := aM_ (blk_drew BK273.out)
      replace HB := aM_ (below_drew1 HB.out)
      obtain ⟨Ao20, co20, eo20⟩ := Kd.R_slice HO_5.out
      (first | subst eo20 | (injection eo20 with f1_ f2_ f3_; have f4_ := f1_.symm; have f5_ := f3_.symm; clear f1_ f2_ f3_; subst f4_; subst f5_))
      obtain ⟨⟨ad274, e274, hx274_0⟩, p274, q274⟩ := at2_ (Kd.at_string (Kd.R_reads' HO_5.out).2.2 x9_2); cases e274
      refine st_ 13 (fun w' => w'.cell? ⟨gb273, 0, none⟩ = some (.int .i64 ((rd_T50 l0 x15_1).f0)) ∧ w'.cell? ⟨gb273, 1, none⟩ = some (.int .i64 ((rd_T50 l0 x15_1).f1)) ∧ w'.cell? ⟨gb273, 2, none⟩ = some (.string ((rd_T50 l0 x15_1).f2)) ∧ w'.cell? (ad274.add (x9_2).toNat) = some (.string (rdOf ByteArray.empty x5_1 x9_2))) [] spec_CountGlosses.tab9 spec_CountGlosses.bits9 ⟨(blk_cell BK273.out 0).trans rfl, (blk_cell BK273.out 1).trans rfl, (blk_cell BK273.out 2).trans rfl, hx274_0⟩ fun hHeld HT_ HW_ => ?_
      generalize wr.drew = w19 at HO_5 HO_6 BK273 HB hx274_0 hHeld ⊢
      refine pu_ 0 19 ?_
      refine pu_ 1 20 ?_
      refine pu_ 2 21 ?_
      refine pu_ 3 22 ?_
      refine pu_ 4 23 ?_
      refine pu_ 5 24 ?_
      refine pu_ 6 25 ?_
      refine pu_ 7 26 ?_
      refine pu_ 9 28 ?_
      refine tk_ 8 27 ?_
      refine tk_ 10 29 ?_
      refine pu_ 11 30 ?_
      refine pu_ 12 31 ?_
      refine dn_ ?_
      try go_wp2
      replace HO_5 := aM_ (Kd.R_drew HO_5.out)
      replace HO_6 := aM_ (Kd.R_drew HO_6.out)
      replace BK273 := aM_ (blk_drew BK273.out)
      replace HB := aM_ (below_drew1 HB.out)
      have p275 : 0 ≤ (x9_2 : Int) := ode_
      have q275 : x9_2 < (x5_1.length : Int) := ode_
      obtain ⟨ad275, e275, hx275_0⟩ := Kd.at_string (Kd.R_reads' HO_5.out).2.2 x9_2 p275 q275
      obtain rfl : ad274 = ad275 := (by injection e275)
      replace p275 := eq_true p275
      replace q275 := eq_true q275
      refine st_ 13 (fun w' => w'.cell? ⟨gb273, 0, none⟩ = some (.int .i64 ((rd_T50 l0 x15_1).f0)) ∧ w'.cell? ⟨gb273, 1, none⟩ = some (.int .i64 ((rd_T50 l0 x15_1).f1)) ∧ w'.cell? ⟨gb273, 2, none⟩ = some (.string ((rd_T50 l0 x15_1).f2)) ∧ w'.cell? (ad274.add (x9_2).toNat) = some (.string (rdOf ByteArray.empty x5_1 x9_2))) [] spec_CountGlosses.tab11 spec_CountGlosses.bits11 ⟨(blk_cell BK273.out 0).trans rfl, (blk_cell BK273.out 1).trans rfl, (blk_cell BK273.out 2).trans rfl, hx275_0⟩ fun hHeld HT_ HW_ => ?_
      generalize w19.drew = w21 at HO_5 HO_6 BK273 HB hx275_0 hHeld ⊢
      refine pu_ 0 34 ?_
      refine pu_ 1 35 ?_
      refine pu_ 2 36 ?_
      refine pu_ 3 37 ?_
      refine pu_ 4 38 ?_
      refine pu_ 5 39 ?_
      refine pu_ 6 40 ?_
      refine pu_ 7 41 ?_
      refine pu_ 9 43 ?_
      refine tk_ 8 42 ?_
      refine tk_ 10 44 ?_
      refine pu_ 11 45 ?_
      refine pu_ 12 46 ?_
      refine dn_ ?_
      obtain ⟨Ao22, co22, eo22⟩ := Kd.R_slice HO_6.out
      subst eo22
      obtain ⟨⟨ad276, e276, hx276_0⟩, p276, q276⟩ := at2_ (Kd.at_int (Kd.R_reads' HO_6.out).2.2 x9_2); cases e276
      have p18 : 0 ≤ (x9_2 : Int) := ode_
      have q18 : (x9_2 : Int) < ((x6_1.length : Int) : Int) := ode_
      obtain ⟨go18, co18, eo18, gb18, gl18, cl18, HG18⟩ := Kd.R_form HO_6.out (by omega)
      (first | cases eo18 | (injection eo18 with ea_ en_ ec_; (first | subst ea_ | (injection ea_ with ea_; subst ea_)); subst ec_; clear en_))
      have GB18 := Aside0.mk gb18
      have GG18 := Aside0.mk HG18
      clear gb18 gl18 HG18
      (first | simp only [add_plain] at hx276_0 | skip)
      obtain ⟨hx18_0, hf18_0⟩ := Kd.R_celln 0 HO_6.out (x9_2 : Int) p18 q18
      replace p18 := eq_true p18
      replace q18 := eq_true q18
      obtain ⟨hy23_, hz23_⟩ := Kd.R_celln 0 HO_6.out (x9_2 : Int) ode_ ode_
      have HP23 := Kd.R_putg HO_6.out (x9_2 : Int) (wrap64 ((rd x6_1 x9_2) + 1))
      try go_wp2_with (first | ((with_reducible refine gate_store (t := 3) (p := 52) rfl ?_); refine store_event (t := 3) (p := 52) (v := ?vo_w24) (w1 := (w21.setCell ⟨go18, (x9_2 : Int).toNat, none⟩ (.int .i64 (wrap64 ((rd x6_1 x9_2) + 1))))) ?hg ?ho ?hn ?hr ?_; (case ho => rfl); (case hg => rfl); (case hn => rfl); (case hr => first | (go_simp; done) | (go_simp; rfl)); intro w24 hw; have hg : w21.grownBy w24 (some go18) := (by rw [hw]; exact HP23.2); have hp_ : Kd.R (Kd.int .i64) 3 w24 w.heap.size (fun _ => True) (.slice (some ⟨go18, 0, none⟩) x6_1.length co22) y277 := (by rw [hw, Ny277.out]; exact HP23.1); clear HP23; replace HO_5 := aM_ (Kd.R_over' (v := (.slice (some ⟨go18, 0, none⟩) x6_1.length co22)) (rR_ HO_5) (Kd.R_typed HO_6.out) (by decide) hg); replace BK273 := aM_ (blk_grown (g := gb273) (kR_ BK273) hg (Kd.R_ne HO_6.out BK273.out (by decide))); replace HO_6 := aM_ (hp_); replace HB := aM_ ((by rw [hw]; exact below_set (HB.out) GB18.out : Below w.heap.size w w24)); clear hg hw hp_))
      go_roundg k2
      case measure => have := HK1.out; have := HK2.out; omega
      case rel => exact ⟨(x5_1), (y277), (wrap64 (x15_1 + 1)), z6_1_, H', ⟨z6_3_⟩, ⟨(rR_ HO_5)⟩, ⟨(rR_ HO_6)⟩, ⟨hB_⟩⟩
     rw [if_neg c16] at H
     have c16b0 : ((rdOf ByteArray.empty x5_1 x9_2).toList == ((rd_T50 l0 x15_1).f2).toList) = false := beq_eq_false_iff_ne.mpr c16
     have c16b1 : ((rdOf ByteArray.empty x5_1 x9_2).toList != ((rd_T50 l0 x15_1).f2).toList) = true := bne_iff_ne.mpr c16
     replace H := bs_ H; obtain ⟨y278, Ny278, H⟩ := H; try dsimp only at H
     have c25b0 := eq_true (ode_ : 0 ≤ x9_2)
     replace H := it_ H; obtain ⟨c26b0, c26b1, H⟩ := H
     replace H := bs_ H; obtain ⟨y281, Ny281, H⟩ := H; try dsimp only at H
     replace H := il_ H; obtain ⟨LMc27, H⟩ := H
     replace H := bs_ H; obtain ⟨y285, Ny285, H⟩ := H; try dsimp only at H
     replace H := bs_ H; obtain ⟨y288, Ny288, H⟩ := H; try dsimp only at H
     replace H := il_ H; obtain ⟨LMc28, H⟩ := H
     replace H := bs_ H; obtain ⟨y291, Ny291, H⟩ := H; try dsimp only at H
     have c29b0 := eq_true (ode_ : 0 ≤ x9_2)
     have c30b0 := eq_true (ode_ : x9_2 ≤ (x5_1.length : Int))
     replace H := bs_ H; obtain ⟨y294, Ny294, H⟩ := H; try dsimp only at H
     replace H := il_ H; obtain ⟨LMc31, H⟩ := H
     obtain ⟨y298, hy298⟩ : ∃ y_ : List ByteArray, y_ = (y291 ++ y294) := ⟨_, rfl⟩
     rw [← hy298] at H
     have Ny298 := Aside0.mk hy298; clear hy298
     have c32b0 := eq_true (ode_ : 0 ≤ x9_2)
     replace H := it_ H; obtain ⟨c33b0, c33b1, H⟩ := H
     obtain ⟨y301, hy301⟩ : ∃ y_ : List Int, y_ = (x6_1.take (x9_2 : Int).toNat) := ⟨_, rfl⟩
     rw [← hy301] at H
     have Ny301 := Aside0.mk hy301; clear hy301
     replace H := ob_ H; obtain ⟨t305, A34, H⟩ := H; try dsimp only at H
     replace H := bs_ H; obtain ⟨y308, Ny308, H⟩ := H; try dsimp only at H
     replace H := il_ H; obtain ⟨LMc35, H⟩ := H
     replace H := bs_ H; obtain ⟨y311, Ny311, H⟩ := H; try dsimp only at H
     have c36b0 := eq_true (ode_ : 0 ≤ x9_2)
     have c37b0 := eq_true (ode_ : x9_2 ≤ (x6_1.length : Int))
     replace H := bs_ H; obtain ⟨y314, Ny314, H⟩ := H; try dsimp only at H
     replace H := il_ H; obtain ⟨LMc38, H⟩ := H
     obtain ⟨y318, hy318⟩ : ∃ y_ : List Int, y_ = (y311 ++ y314) := ⟨_, rfl⟩
     rw [← hy318] at H
     have Ny318 := Aside0.mk hy318; clear hy318
     have H' := Aside0.mk H
     clear H
     try go_wp2
     replace HO_5 := aM_ (Kd.R_drew HO_5.out)
     replace HO_6 := aM_ (Kd.R_drew HO_6.out)
     replace BK273 := aM_ (blk_drew BK273.out)
     replace HB := aM_ (below_drew1 HB.out)
     obtain ⟨Ao40, co40, eo40⟩ := Kd.R_slice HO_5.out
     (first | subst eo40 | (injection eo40 with f1_ f2_ f3_; have f4_ := f1_.symm; have f5_ := f3_.symm; clear f1_ f2_ f3_; subst f4_; subst f5_))
     obtain ⟨⟨ad274, e274, hx274_0⟩, p274, q274⟩ := at2_ (Kd.at_string (Kd.R_reads' HO_5.out).2.2 x9_2); cases e274
     refine st_ 13 (fun w' => w'.cell? ⟨gb273, 0, none⟩ = some (.int .i64 ((rd_T50 l0 x15_1).f0)) ∧ w'.cell? ⟨gb273, 1, none⟩ = some (.int .i64 ((rd_T50 l0 x15_1).f1)) ∧ w'.cell? ⟨gb273, 2, none⟩ = some (.string ((rd_T50 l0 x15_1).f2)) ∧ w'.cell? (ad274.add (x9_2).toNat) = some (.string (rdOf ByteArray.empty x5_1 x9_2))) [] spec_CountGlosses.tab9 spec_CountGlosses.bits9 ⟨(blk_cell BK273.out 0).trans rfl, (blk_cell BK273.out 1).trans rfl, (blk_cell BK273.out 2).trans rfl, hx274_0⟩ fun hHeld HT_ HW_ => ?_
     generalize wr.drew = w39 at HO_5 HO_6 BK273 HB hx274_0 hHeld ⊢
     refine pu_ 0 19 ?_
     refine pu_ 1 20 ?_
     refine pu_ 2 21 ?_
     refine pu_ 3 22 ?_
     refine pu_ 4 23 ?_
     refine pu_ 5 24 ?_
     refine pu_ 6 25 ?_
     refine pu_ 7 26 ?_
     refine pu_ 9 28 ?_
     refine tk_ 8 27 ?_
     refine tk_ 10 29 ?_
     refine pu_ 11 30 ?_
     refine pu_ 12 31 ?_
     refine dn_ ?_
     try go_wp2
     replace HO_5 := aM_ (Kd.R_drew HO_5.out)
     replace HO_6 := aM_ (Kd.R_drew HO_6.out)
     replace BK273 := aM_ (blk_drew BK273.out)
     replace HB := aM_ (below_drew1 HB.out)
     have p275 : 0 ≤ (x9_2 : Int) := ode_
     have q275 : x9_2 < (x5_1.length : Int) := ode_
     obtain ⟨ad275, e275, hx275_0⟩ := Kd.at_string (Kd.R_reads' HO_5.out).2.2 x9_2 p275 q275
     obtain rfl : ad274 = ad275 := (by injection e275)
     replace p275 := eq_true p275
     replace q275 := eq_true q275
     refine st_ 13 (fun w' => w'.cell? ⟨gb273, 0, none⟩ = some (.int .i64 ((rd_T50 l0 x15_1).f0)) ∧ w'.cell? ⟨gb273, 1, none⟩ = some (.int .i64 ((rd_T50 l0 x15_1).f1)) ∧ w'.cell? ⟨gb273, 2, none⟩ = some (.string ((rd_T50 l0 x15_1).f2)) ∧ w'.cell? (ad274.add (x9_2).toNat) = some (.string (rdOf ByteArray.empty x5_1 x9_2))) [] spec_CountGlosses.tab11 spec_CountGlosses.bits11 ⟨(blk_cell BK273.out 0).trans rfl, (blk_cell BK273.out 1).trans rfl, (blk_cell BK273.out 2).trans rfl, hx275_0⟩ fun hHeld HT_ HW_ => ?_
     generalize w39.drew = w41 at HO_5 HO_6 BK273 HB hx275_0 hHeld ⊢
     refine pu_ 0 34 ?_
     refine pu_ 1 35 ?_
     refine pu_ 2 36 ?_
     refine pu_ 3 37 ?_
     refine pu_ 4 38 ?_
     refine pu_ 5 39 ?_
     refine pu_ 6 40 ?_
     refine pu_ 7 41 ?_
     refine pu_ 9 43 ?_
     refine tk_ 8 42 ?_
     refine tk_ 10 44 ?_
     refine pu_ 11 45 ?_
     refine pu_ 12 46 ?_
     refine dn_ ?_
     try go_wp2
     replace HO_5 := aM_ (Kd.R_drew HO_5.out)
     replace HO_6 := aM_ (Kd.R_drew HO_6.out)
     replace BK273 := aM_ (blk_drew BK273.out)
     replace HB := aM_ (below_drew1 HB.out)
     have q43 : (x9_2 : Int) ≤ ((x5_1.length : Int) : Int) := ode_
     obtain ⟨i043, hi043, _, hsz43, _⟩ := info_parts info9
     have hroom43 : x5_1.length ≤ co40 := (Kd.R_reads' HO_5.out).2.1
     have hC43 : Kd.C Kd.string _ (some ad274) x5_1.length x5_1 := (Kd.R_reads' HO_5.out).2.2
     have hcut43 := cut_to (P := Try.prog) 25 9 .i64 Try.underlying25 hi043 (some ad274) x5_1.length co40 x9_2 ode_ q43 hroom43
     have hr43 := Kd.C_take (m := (x9_2 : Int).toNat) hC43 (by omega)
     have hy43 : y281.length = (x9_2 : Int).toNat := (by rw [Ny281.out, List.length_take]; omega)
     rw [← Ny281.out] at hr43
     rw [← hy43] at hcut43
     have HR284 := Aside0.mk hr43
     have HC284 := Aside0.mk (show y281.length ≤ co40 from by omega)
     clear hr43 hC43 hroom43 hi043 hsz43
     have KY43 := Aside0.mk hy43
     clear hy43
     have KL43 := Aside0.mk (show (x9_2 : Int).toNat ≤ x5_1.length from by omega)
     replace q43 := eq_true q43
     have q44 : (x9_2 : Int) ≤ ((x5_1.length : Int) : Int) := ode_
     obtain ⟨i044, hi044, _, hsz44, _⟩ := info_parts info9
     have hroom44 : x5_1.length ≤ co40 := (Kd.R_reads' HO_5.out).2.1
     have hC44 : Kd.C Kd.string _ (some ad274) x5_1.length x5_1 := (Kd.R_reads' HO_5.out).2.2
     have q044 : (0 : Int) ≤ (x9_2 : Int) := ode_
     have hcut44 := cut_from (P := Try.prog) 25 9 .i64 Try.underlying25 hi044 1 hsz44 (some ad274) x5_1.length co40 x9_2 q044 q44
     have hr44 := Kd.C_drop (m := (x9_2 : Int).toNat) (c := co40) hC44 (by omega) hroom44
     obtain ⟨A44, hA44⟩ : ∃ Ab_, Ab_ = (if co40 = (x9_2 : Int).toNat then (some ad274) else ((some ad274) : Option Addr).map (·.add ((x9_2 : Int).toNat * 1))) := ⟨_, rfl⟩
     obtain ⟨c44, hc44⟩ : ∃ cb_, cb_ = co40 - (x9_2 : Int).toNat := ⟨_, rfl⟩
     have hy44 : y294.length = x5_1.length - (x9_2 : Int).toNat := (by rw [Ny294.out, List.length_drop] <;> omega)
     rw [show (x5_1).drop (x9_2 : Int).toNat = y294 from Ny294.out.symm] at hr44
     replace hr44 : Kd.C Kd.string _ A44 y294.length y294 := (by rw [hA44]; exact hr44)
     rw [← hy44, ← hA44, ← hc44] at hcut44
     have HR297 := Aside0.mk hr44
     have HC297 := Aside0.mk (show y294.length ≤ c44 from by rw [hy44, hc44]; exact Nat.sub_le_sub_right hroom44 _)
     clear hr44 hC44 hroom44 hi044 hsz44 hc44
     have KY44 := Aside0.mk hy44
     have KA44 := Aside0.mk hA44
     clear hy44 hA44
     have KL44 := Aside0.mk (show (x9_2 : Int).toNat ≤ x5_1.length from by omega)
     replace q44 := eq_true q44
     refine st_ 14 (fun w' => w'.cell? ⟨gb273, 0, none⟩ = some (.int .i64 ((rd_T50 l0 x15_1).f0)) ∧ w'.cell? ⟨gb273, 1, none⟩ = some (.int .i64 ((rd_T50 l0 x15_1).f1)) ∧ w'.cell? ⟨gb273, 2, none⟩ = some (.string ((rd_T50 l0 x15_1).f2))) [] spec_CountGlosses.tab13 spec_CountGlosses.bits13 ⟨(blk_cell BK273.out 0).trans rfl, (blk_cell BK273.out 1).trans rfl, (blk_cell BK273.out 2).trans rfl⟩ fun hHeld HT_ HW_ => ?_
     generalize w41.drew = w42 at HO_5 HO_6 BK273 HB HR284 HR297 hHeld ⊢
     refine pu_ 1 54 ?_
     refine pu_ 2 55 ?_
     refine pu_ 3 56 ?_
     refine pu_ 5 58 ?_
     refine pu_ 9 62 ?_
     refine pu_ 10 63 ?_
     refine pu_ 11 64 ?_
     refine tk_ 6 59 ?_
     refine join_ (σ := Value × Value × Value) 3 (bz_ 14 0xeff) (fun s_ => [(53, s_.1), (57, s_.2.1), (60, s_.2.2)]) (fun s_ w' => (w'.cell? ⟨gb273, 0, none⟩ = some (.int .i64 ((rd_T50 l0 x15_1).f0)) ∧ w'.cell? ⟨gb273, 1, none⟩ = some (.int .i64 ((rd_T50 l0 x15_1).f1)) ∧ w'.cell? ⟨gb273, 2, none⟩ = some (.string ((rd_T50 l0 x15_1).f2))) ∧ (Kd.R Kd.string 9 w' w.heap.size (fun k_ => some k_ ≠ (s_.2.2 : Value).ownBlock ∧ some k_ ≠ (.slice (some ad274) x5_1.length co40 : Value).ownBlock) s_.2.1 y285) ∧ (Kd.R Kd.string 9 w' w.heap.size (fun k_ => some k_ ≠ (s_.2.1 : Value).ownBlock ∧ some k_ ≠ (.slice (some ad274) x5_1.length co40 : Value).ownBlock) s_.2.2 y288) ∧ (Kd.R Kd.string 9 w' w.heap.size (fun k_ => some k_ ≠ (s_.2.1 : Value).ownBlock ∧ some k_ ≠ (s_.2.2 : Value).ownBlock) (.slice (some ad274) x5_1.length co40) x5_1) ∧ (Kd.R (Kd.int .i64) 3 w' w.heap.size (fun _ => True) u6 x6_1) ∧ (w'.heap[gb273]? = some (.cells #[.int .i64 ((rd_T50 l0 x15_1).f0), .int .i64 ((rd_T50 l0 x15_1).f1), .string ((rd_T50 l0 x15_1).f2)] 50 (0, 0))) ∧ (Below w.heap.size w w') ∧ (Kd.C Kd.string w' (some ad274) y281.length y281) ∧ (Kd.C Kd.string w' A44 y294.length y294)) ?_ ?_
     rotate_left
     ·intro hCont
      refine two_ (i := 0) (j := 7) (Ni := some 53) (Nj := some 60) (bz_ 14 0xe6f) (bz_ 14 0xeee) rfl rfl rfl rfl (two_of HT_.out (by kernel_rfl)) (by decide) (by decide) (fun K hK => ?_) (fun K hK => ?_)
      ·skip
       refine Kd.R_lit_step Kd.string _ 9 ?hg (N := 53) ?hd (xs := ([] : List ByteArray)) (inner := []) (ok := fun _ => True) (okp := fun _ => True) ?hr ?hp (fun _ hk => hk) trivial (Below.refl _ _) (Nat.le_refl _) (by simp) ?_; (case hd => rfl); (case hg => rfl); (case hr => first | (go_simp; done) | (go_simp; rfl)); (case hp => exact (Reps.none _ _))
       intro v279 w45 ho46 hb hg_ hnew_
       clear hg_ hnew_
       (first | rw [← Ny278.out] at ho46 | (simp only [Int.reduceToNat] at ho46; rw [← Ny278.out] at ho46))
       have HO280 := aM_ (Kd.R_lower (Kd.R_new' ho46 (Kd.R_lt (rR_ HO_5))) (below_size hB_))
       replace HO_5 := aM_ (Kd.R_elder' (rR_ HO_5) (Kd.R_base ho46) hb)
       replace HO_6 := aM_ (Kd.R_below (rR_ HO_6) hb)
       replace BK273 := aM_ (blk_below (g := gb273) (kR_ BK273) hb)
       replace HR284 := aM_ (Kd.C_below (cC_ HR284) hb)
       replace HR297 := aM_ (Kd.C_below (cC_ HR297) hb)
       replace HB := aM_ (below_step hB_ hb)
       clear hb ho46
       refine hK.out _ _ ⟨(blk_cell BK273.out 0).trans rfl, (blk_cell BK273.out 1).trans rfl, (blk_cell BK273.out 2).trans rfl⟩ (fun hHeld => ?_)
       clear hK K
       refine nm_ 53 ?_
       refine two_ (i := 4) (j := 7) (Ni := some 57) (Nj := some 60) (bz_ 14 0xe7f) (bz_ 14 0xeef) rfl rfl rfl rfl (two_of HT_.out (by kernel_rfl)) (by decide) (by decide) (fun K hK => ?_) (fun K hK => ?_)
       ·skip
        refine Kd.R_append_rows_step Kd.string (w0 := w) w.heap.size (by rfl) (.tmp 53) (.tmp 56) 25 9 (.string ⟨#[]⟩) 16 rfl Try.underlying25 info9 rfl (by decide) (by omega) v279 y278 y281 _ _ _ (fun k_ => some k_ ≠ (.slice (some ad274) x5_1.length co40 : Value).ownBlock) (fun _ => False) rfl rfl ?aO ?aR (fun _ _ h => h) (fun _ h => h.elim) ?aF ?aB ?aS ?aL ?_
        (case aR => repeat (first | exact (cC_ HR284) | (with_reducible first | apply cA_ | apply cN_ | apply cD_)))
        (case aB => exact hB_)
        (case aF => exact (fun k_ hk => Kd.fresh' (Kd.R_lt (rR_ HO_5)) k_ hk))
        (case aO => exact (rM_ HO280 (fun _ hk => hk.2)))
        (case aS => exact (below_size hB_))
        (case aL => have := LMc27.out; omega)
        intro v286 w47 ho hb hg hat
        rw [← Ny285.out] at ho
        have HO287 := aM_ (ho)
        replace HO_6 := aM_ (Kd.R_over' (rR_ HO_6) (Kd.R_typed (rR_ HO280)) (by decide) hg)
        replace BK273 := aM_ (blk_grown (g := gb273) (kR_ BK273) hg (Kd.R_ne HO280.out BK273.out (by decide)))
        replace HB := aM_ (hb)
        replace HR284 := aM_ ((show Kd.C Kd.string w47 (some ad274) y281.length y281 from by rw [Ny281.out]; exact Kd.C_take (m := (x9_2 : Int).toNat) ((Kd.R_reads' (Kd.R_after (ok := (fun _ => True)) (rR_ HO_5) hg hat)).2.2) KL43.out))
        replace HR297 := aM_ ((show Kd.C Kd.string w47 A44 y294.length y294 from by rw [Ny294.out, KA44.out]; exact Kd.C_drop (m := (x9_2 : Int).toNat) (c := co40) ((Kd.R_reads' (Kd.R_after (ok := (fun _ => True)) (rR_ HO_5) hg hat)).2.2) KL44.out ((Kd.R_reads' (Kd.R_after (ok := (fun _ => True)) (rR_ HO_5) hg hat)).2.1)))
        replace HO_5 := aM_ (Kd.R_after (ok := (fun _ => True)) (rR_ HO_5) hg hat)
        clear HO280
        clear ho hb hg hat
        refine hK.out _ _ ⟨(blk_cell BK273.out 0).trans rfl, (blk_cell BK273.out 1).trans rfl, (blk_cell BK273.out 2).trans rfl⟩ (fun hHeld => ?_)
        clear hK K
        refine nm_ 57 ?_
        refine on_ 7 60 fun K hK => ?_
        refine Kd.R_lit_step Kd.string _ 9 ?hg (N := 60) ?hd (xs := ([((rd_T50 l0 x15_1).f2)] : List ByteArray)) (inner := [.string ((rd_T50 l0 x15_1).f2)]) (ok := fun _ => True) (okp := fun _ => True) ?hr ?hp (fun _ hk => hk) trivial (Below.refl _ _) (Nat.le_refl _) (by simp) ?_; (case hd => rfl); (case hg => rfl); (case hr => first | (go_simp; done) | (go_simp; rfl)); (case hp => exact (Reps.one (show Kd.M Kd.string _ _ _ ((rd_T50 l0 x15_1).f2) [.string ((rd_T50 l0 x15_1).f2)] from rfl) (Reps.none _ _)))
        intro v289 w48 ho49 hb hg_ hnew_
        clear hg_ hnew_
        (first | rw [← Ny288.out] at ho49 | (simp only [Int.reduceToNat] at ho49; rw [← Ny288.out] at ho49))
        have HO290 := aM_ (Kd.R_lower (Kd.R_new' (Kd.R_new' ho49 (Kd.R_lt (rR_ HO_5))) (Kd.R_lt (rR_ HO287))) (below_size hB_))
        replace HO_5 := aM_ (Kd.R_elder' (rR_ HO_5) (Kd.R_base ho49) hb)
        replace HO_6 := aM_ (Kd.R_below (rR_ HO_6) hb)
        replace HO287 := aM_ (Kd.R_elder' (rR_ HO287) (Kd.R_base ho49) hb)
        replace BK273 := aM_ (blk_below (g := gb273) (kR_ BK273) hb)
        replace HR284 := aM_ (Kd.C_below (cC_ HR284) hb)
        replace HR297 := aM_ (Kd.C_below (cC_ HR297) hb)
        replace HB := aM_ (below_step hB_ hb)
        clear hb ho49
        refine hK.out _ _ ⟨(blk_cell BK273.out 0).trans rfl, (blk_cell BK273.out 1).trans rfl, (blk_cell BK273.out 2).trans rfl⟩ (fun hHeld => ?_)
        clear hK K
        refine nm_ 60 ?_
        exact norm_ z6_2_ (hCont (v279, v286, v289) _ ⟨hHeld, (rM_ HO287 (fun _ hk => ⟨hk.2, hk.1⟩)), (rM_ HO290 (fun _ hk => ⟨hk.2, hk.1.2⟩)), (rM_ HO_5 (fun _ hk => ⟨hk.1.2, hk.2⟩)), (rR_ HO_6), (kR_ BK273), hB_, (cC_ HR284), (cC_ HR297)⟩)
       ·skip
        refine Kd.R_lit_step Kd.string _ 9 ?hg (N := 60) ?hd (xs := ([((rd_T50 l0 x15_1).f2)] : List ByteArray)) (inner := [.string ((rd_T50 l0 x15_1).f2)]) (ok := fun _ => True) (okp := fun _ => True) ?hr ?hp (fun _ hk => hk) trivial (Below.refl _ _) (Nat.le_refl _) (by simp) ?_; (case hd => rfl); (case hg => rfl); (case hr => first | (go_simp; done) | (go_simp; rfl)); (case hp => exact (Reps.one (show Kd.M Kd.string _ _ _ ((rd_T50 l0 x15_1).f2) [.string ((rd_T50 l0 x15_1).f2)] from rfl) (Reps.none _ _)))
        intro v289 w47 ho48 hb hg_ hnew_
        clear hg_ hnew_
        (first | rw [← Ny288.out] at ho48 | (simp only [Int.reduceToNat] at ho48; rw [← Ny288.out] at ho48))
        have HO290 := aM_ (Kd.R_lower (Kd.R_new' (Kd.R_new' ho48 (Kd.R_lt (rR_ HO_5))) (Kd.R_lt (rR_ HO280))) (below_size hB_))
        replace HO_5 := aM_ (Kd.R_elder' (rR_ HO_5) (Kd.R_base ho48) hb)
        replace HO_6 := aM_ (Kd.R_below (rR_ HO_6) hb)
        replace HO280 := aM_ (Kd.R_elder' (rR_ HO280) (Kd.R_base ho48) hb)
        replace BK273 := aM_ (blk_below (g := gb273) (kR_ BK273) hb)
        replace HR284 := aM_ (Kd.C_below (cC_ HR284) hb)
        replace HR297 := aM_ (Kd.C_below (cC_ HR297) hb)
        replace HB := aM_ (below_step hB_ hb)
        clear hb ho48
        refine hK.out _ _ ⟨(blk_cell BK273.out 0).trans rfl, (blk_cell BK273.out 1).trans rfl, (blk_cell BK273.out 2).trans rfl⟩ (fun hHeld => ?_)
        clear hK K
        refine nm_ 60 ?_
        refine on_ 4 57 fun K hK => ?_
        refine Kd.R_append_rows_step Kd.string (w0 := w) w.heap.size (by rfl) (.tmp 53) (.tmp 56) 25 9 (.string ⟨#[]⟩) 16 rfl Try.underlying25 info9 rfl (by decide) (by omega) v279 y278 y281 _ _ _ (fun k_ => some k_ ≠ (.slice (some ad274) x5_1.length co40 : Value).ownBlock ∧ some k_ ≠ (v289 : Value).ownBlock) (fun _ => False) rfl rfl ?aO ?aR (fun _ _ h => h) (fun _ h => h.elim) ?aF ?aB ?aS ?aL ?_
        (case aR => repeat (first | exact (cC_ HR284) | (with_reducible first | apply cA_ | apply cN_ | apply cD_)))
        (case aB => exact hB_)
        (case aF => exact (fun k_ hk => ⟨Kd.fresh' (Kd.R_lt (rR_ HO_5)) k_ hk, Kd.fresh' (Kd.R_lt (rR_ HO290)) k_ hk⟩))
        (case aO => exact (rM_ HO280 (fun _ hk => ⟨hk.1.2, hk.2⟩)))
        (case aS => exact (below_size hB_))
        (case aL => have := LMc27.out; omega)
        intro v286 w49 ho hb hg hat
        rw [← Ny285.out] at ho
        have HO287 := aM_ (ho)
        replace HO_6 := aM_ (Kd.R_over' (rR_ HO_6) (Kd.R_typed (rR_ HO280)) (by decide) hg)
        replace BK273 := aM_ (blk_grown (g := gb273) (kR_ BK273) hg (Kd.R_ne HO280.out BK273.out (by decide)))
        replace HO290 := aM_ (Kd.R_after (ok := (fun k_ => some k_ ≠ (.slice (some ad274) x5_1.length co40 : Value).ownBlock)) (rM_ HO290 (fun _ hk => ⟨hk.1.2, hk.2⟩)) hg hat)
        replace HB := aM_ (hb)
        replace HR284 := aM_ ((show Kd.C Kd.string w49 (some ad274) y281.length y281 from by rw [Ny281.out]; exact Kd.C_take (m := (x9_2 : Int).toNat) ((Kd.R_reads' (Kd.R_after (ok := (fun k_ => some k_ ≠ (v289 : Value).ownBlock)) (rM_ HO_5 (fun _ hk => ⟨hk.2, hk.1.2⟩)) hg hat)).2.2) KL43.out))
        replace HR297 := aM_ ((show Kd.C Kd.string w49 A44 y294.length y294 from by rw [Ny294.out, KA44.out]; exact Kd.C_drop (m := (x9_2 : Int).toNat) (c := co40) ((Kd.R_reads' (Kd.R_after (ok := (fun k_ => some k_ ≠ (v289 : Value).ownBlock)) (rM_ HO_5 (fun _ hk => ⟨hk.2, hk.1.2⟩)) hg hat)).2.2) KL44.out ((Kd.R_reads' (Kd.R_after (ok := (fun k_ => some k_ ≠ (v289 : Value).ownBlock)) (rM_ HO_5 (fun _ hk => ⟨hk.2, hk.1.2⟩)) hg hat)).2.1)))
        replace HO_5 := aM_ (Kd.R_after (ok := (fun k_ => some k_ ≠ (v289 : Value).ownBlock)) (rM_ HO_5 (fun _ hk => ⟨hk.2, hk.1.2⟩)) hg hat)
        clear HO280
        clear ho hb hg hat
        refine hK.out _ _ ⟨(blk_cell BK273.out 0).trans rfl, (blk_cell BK273.out 1).trans rfl, (blk_cell BK273.out 2).trans rfl⟩ (fun hHeld => ?_)
        clear hK K
        refine nm_ 57 ?_
        exact norm_ z6_2_ (hCont (v279, v286, v289) _ ⟨hHeld, (rM_ HO287 (fun _ hk => ⟨hk.2, hk.1⟩)), (rM_ HO290 (fun _ hk => ⟨hk.2, hk.1⟩)), (rM_ HO_5 (fun _ hk => ⟨hk.2, hk.1⟩)), (rR_ HO_6), (kR_ BK273), hB_, (cC_ HR284), (cC_ HR297)⟩)
      ·skip
       refine Kd.R_lit_step Kd.string _ 9 ?hg (N := 60) ?hd (xs := ([((rd_T50 l0 x15_1).f2)] : List ByteArray)) (inner := [.string ((rd_T50 l0 x15_1).f2)]) (ok := fun _ => True) (okp := fun _ => True) ?hr ?hp (fun _ hk => hk) trivial (Below.refl _ _) (Nat.le_refl _) (by simp) ?_; (case hd => rfl); (case hg => rfl); (case hr => first | (go_simp; done) | (go_simp; rfl)); (case hp => exact (Reps.one (show Kd.M Kd.string _ _ _ ((rd_T50 l0 x15_1).f2) [.string ((rd_T50 l0 x15_1).f2)] from rfl) (Reps.none _ _)))
       intro v289 w45 ho46 hb hg_ hnew_
       clear hg_ hnew_
       (first | rw [← Ny288.out] at ho46 | (simp only [Int.reduceToNat] at ho46; rw [← Ny288.out] at ho46))
       have HO290 := aM_ (Kd.R_lower (Kd.R_new' ho46 (Kd.R_lt (rR_ HO_5))) (below_size hB_))
       replace HO_5 := aM_ (Kd.R_elder' (rR_ HO_5) (Kd.R_base ho46) hb)
       replace HO_6 := aM_ (Kd.R_below (rR_ HO_6) hb)
       replace BK273 := aM_ (blk_below (g := gb273) (kR_ BK273) hb)
       replace HR284 := aM_ (Kd.C_below (cC_ HR284) hb)
       replace HR297 := aM_ (Kd.C_below (cC_ HR297) hb)
       replace HB := aM_ (below_step hB_ hb)
       clear hb ho46
       refine hK.out _ _ ⟨(blk_cell BK273.out 0).trans rfl, (blk_cell BK273.out 1).trans rfl, (blk_cell BK273.out 2).trans rfl⟩ (fun hHeld => ?_)
       clear hK K
       refine nm_ 60 ?_
       refine on_ 0 53 fun K hK => ?_
       refine Kd.R_lit_step Kd.string _ 9 ?hg (N := 53) ?hd (xs := ([] : List ByteArray)) (inner := []) (ok := fun _ => True) (okp := fun _ => True) ?hr ?hp (fun _ hk => hk) trivial (Below.refl _ _) (Nat.le_refl _) (by simp) ?_; (case hd => rfl); (case hg => rfl); (case hr => first | (go_simp; done) | (go_simp; rfl)); (case hp => exact (Reps.none _ _))
       intro v279 w47 ho48 hb hg_ hnew_
       clear hg_ hnew_
       (first | rw [← Ny278.out] at ho48 | (simp only [Int.reduceToNat] at ho48; rw [← Ny278.out] at ho48))
       have HO280 := aM_ (Kd.R_lower (Kd.R_new' (Kd.R_new' ho48 (Kd.R_lt (rR_ HO_5))) (Kd.R_lt (rR_ HO290))) (below_size hB_))
       replace HO_5 := aM_ (Kd.R_elder' (rR_ HO_5) (Kd.R_base ho48) hb)
       replace HO_6 := aM_ (Kd.R_below (rR_ HO_6) hb)
       replace HO290 := aM_ (Kd.R_elder' (rR_ HO290) (Kd.R_base ho48) hb)
       replace BK273 := aM_ (blk_below (g := gb273) (kR_ BK273) hb)
       replace HR284 := aM_ (Kd.C_below (cC_ HR284) hb)
       replace HR297 := aM_ (Kd.C_below (cC_ HR297) hb)
       replace HB := aM_ (below_step hB_ hb)
       clear hb ho48
       refine hK.out _ _ ⟨(blk_cell BK273.out 0).trans rfl, (blk_cell BK273.out 1).trans rfl, (blk_cell BK273.out 2).trans rfl⟩ (fun hHeld => ?_)
       clear hK K
       refine nm_ 53 ?_
       refine on_ 4 57 fun K hK => ?_
       refine Kd.R_append_rows_step Kd.string (w0 := w) w.heap.size (by rfl) (.tmp 53) (.tmp 56) 25 9 (.string ⟨#[]⟩) 16 rfl Try.underlying25 info9 rfl (by decide) (by omega) v279 y278 y281 _ _ _ (fun k_ => some k_ ≠ (.slice (some ad274) x5_1.length co40 : Value).ownBlock ∧ some k_ ≠ (v289 : Value).ownBlock) (fun _ => False) rfl rfl ?aO ?aR (fun _ _ h => h) (fun _ h => h.elim) ?aF ?aB ?aS ?aL ?_
       (case aR => repeat (first | exact (cC_ HR284) | (with_reducible first | apply cA_ | apply cN_ | apply cD_)))
       (case aB => exact hB_)
       (case aF => exact (fun k_ hk => ⟨Kd.fresh' (Kd.R_lt (rR_ HO_5)) k_ hk, Kd.fresh' (Kd.R_lt (rR_ HO290)) k_ hk⟩))
       (case aO => exact (rM_ HO280 (fun _ hk => ⟨hk.1.2, hk.2⟩)))
       (case aS => exact (below_size hB_))
       (case aL => have := LMc27.out; omega)
       intro v286 w49 ho hb hg hat
       rw [← Ny285.out] at ho
       have HO287 := aM_ (ho)
       replace HO_6 := aM_ (Kd.R_over' (rR_ HO_6) (Kd.R_typed (rR_ HO280)) (by decide) hg)
       replace BK273 := aM_ (blk_grown (g := gb273) (kR_ BK273) hg (Kd.R_ne HO280.out BK273.out (by decide)))
       replace HO290 := aM_ (Kd.R_after (ok := (fun k_ => some k_ ≠ (.slice (some ad274) x5_1.length co40 : Value).ownBlock)) (rM_ HO290 (fun _ hk => ⟨hk.1.2, hk.2⟩)) hg hat)
       replace HB := aM_ (hb)
       replace HR284 := aM_ ((show Kd.C Kd.string w49 (some ad274) y281.length y281 from by rw [Ny281.out]; exact Kd.C_take (m := (x9_2 : Int).toNat) ((Kd.R_reads' (Kd.R_after (ok := (fun k_ => some k_ ≠ (v289 : Value).ownBlock)) (rM_ HO_5 (fun _ hk => ⟨hk.1.2, hk.2⟩)) hg hat)).2.2) KL43.out))
       replace HR297 := aM_ ((show Kd.C Kd.string w49 A44 y294.length y294 from by rw [Ny294.out, KA44.out]; exact Kd.C_drop (m := (x9_2 : Int).toNat) (c := co40) ((Kd.R_reads' (Kd.R_after (ok := (fun k_ => some k_ ≠ (v289 : Value).ownBlock)) (rM_ HO_5 (fun _ hk => ⟨hk.1.2, hk.2⟩)) hg hat)).2.2) KL44.out ((Kd.R_reads' (Kd.R_after (ok := (fun k_ => some k_ ≠ (v289 : Value).ownBlock)) (rM_ HO_5 (fun _ hk => ⟨hk.1.2, hk.2⟩)) hg hat)).2.1)))
       replace HO_5 := aM_ (Kd.R_after (ok := (fun k_ => some k_ ≠ (v289 : Value).ownBlock)) (rM_ HO_5 (fun _ hk => ⟨hk.1.2, hk.2⟩)) hg hat)
       clear HO280
       clear ho hb hg hat
       refine hK.out _ _ ⟨(blk_cell BK273.out 0).trans rfl, (blk_cell BK273.out 1).trans rfl, (blk_cell BK273.out 2).trans rfl⟩ (fun hHeld => ?_)
       clear hK K
       refine nm_ 57 ?_
       exact norm_ z6_2_ (hCont (v279, v286, v289) _ ⟨hHeld, (rM_ HO287 (fun _ hk => ⟨hk.2, hk.1⟩)), (rM_ HO290 (fun _ hk => ⟨hk.2, hk.1⟩)), (rM_ HO_5 (fun _ hk => ⟨hk.2, hk.1⟩)), (rR_ HO_6), (kR_ BK273), hB_, (cC_ HR284), (cC_ HR297)⟩)
     rintro ⟨v279, v286, v289⟩ w50 ⟨hS_, h0_, h1_, h2_, h3_, h4_, h5_, h6_, h7_⟩
     have n0_ : Aside0 (Kd.R Kd.string 9 w50 w.heap.size (fun k_ => some k_ ≠ (v289 : Value).ownBlock ∧ some k_ ≠ (.slice (some ad274) x5_1.length co40 : Value).ownBlock) v286 y285) := ⟨h0_⟩
     have n1_ : Aside0 (Kd.R Kd.string 9 w50 w.heap.size (fun k_ => some k_ ≠ (v286 : Value).ownBlock ∧ some k_ ≠ (.slice (some ad274) x5_1.length co40 : Value).ownBlock) v289 y288) := ⟨h1_⟩
     have n2_ : Aside0 (Kd.R Kd.string 9 w50 w.heap.size (fun k_ => some k_ ≠ (v286 : Value).ownBlock ∧ some k_ ≠ (v289 : Value).ownBlock) (.slice (some ad274) x5_1.length co40) x5_1) := ⟨h2_⟩
     have n3_ : Aside0 (Kd.R (Kd.int .i64) 3 w50 w.heap.size (fun _ => True) u6 x6_1) := ⟨h3_⟩
     have n4_ : Aside0 (w50.heap[gb273]? = some (.cells #[.int .i64 ((rd_T50 l0 x15_1).f0), .int .i64 ((rd_T50 l0 x15_1).f1), .string ((rd_T50 l0 x15_1).f2)] 50 (0, 0))) := ⟨h4_⟩
     have n5_ : Aside0 (Below w.heap.size w w50) := ⟨h5_⟩
     have n6_ : Aside0 (Kd.C Kd.string w50 (some ad274) y281.length y281) := ⟨h6_⟩
     have n7_ : Aside0 (Kd.C Kd.string w50 A44 y294.length y294) := ⟨h7_⟩
     clear HO_5
     clear HO_6
     clear BK273
     clear HB
     clear h0_ h1_ h2_ h3_ h4_ h5_ h6_ h7_
     have HO287 := n0_
     have HO290 := n1_
     have HO_5 := n2_
     have HO_6 := n3_
     have BK273 := n4_
     have HB := n5_
     have HR284 := n6_
     have HR297 := n7_
     clear n0_ n1_ n2_ n3_ n4_ n5_ n6_ n7_
     have hHeld : w50.cell? ⟨gb273, 0, none⟩ = some (.int .i64 ((rd_T50 l0 x15_1).f0)) ∧ w50.cell? ⟨gb273, 1, none⟩ = some (.int .i64 ((rd_T50 l0 x15_1).f1)) ∧ w50.cell? ⟨gb273, 2, none⟩ = some (.string ((rd_T50 l0 x15_1).f2)) := hS_
     obtain ⟨Ao52, co52, eo52⟩ := Kd.R_slice HO290.out
     (first | subst eo52 | (injection eo52 with f1_ f2_ f3_; have f4_ := f1_.symm; have f5_ := f3_.symm; clear f1_ f2_ f3_; subst f4_; subst f5_))
     refine norm_ (a' := ?_) ?_ ?_
     rotate_left
     ·simp only [putAll, Act.put, List.setIfInBounds_toArray, List.set_cons_zero, List.set_cons_succ]
      rfl
     refine on_ 8 61 fun K hK => ?_
     refine Kd.R_append_rows_step Kd.string (w0 := w) w.heap.size (by rfl) (.tmp 57) (.tmp 60) 25 9 (.string ⟨#[]⟩) 16 rfl Try.underlying25 info9 rfl (by decide) (by omega) v286 y285 y288 _ _ _ (fun k_ => some k_ ≠ (.slice (some ad274) x5_1.length co40 : Value).ownBlock ∧ some k_ ≠ (.slice Ao52 y288.length co52 : Value).ownBlock) (fun _ => False) rfl rfl ?aO ?aR (fun _ _ h => h) (fun _ h => h.elim) ?aF ?aB ?aS ?aL ?_
     (case aR => exact cR_ HO290)
     (case aB => exact hB_)
     (case aF => exact (fun k_ hk => ⟨Kd.fresh' (Kd.R_lt (rR_ HO_5)) k_ hk, Kd.fresh' (Kd.R_lt (rR_ HO290)) k_ hk⟩))
     (case aO => exact (rM_ HO287 (fun _ hk => ⟨hk.2, hk.1⟩)))
     (case aS => exact (below_size hB_))
     (case aL => have := LMc28.out; omega)
     intro v292 w51 ho hb hg hat
     rw [← Ny291.out] at ho
     have HO293 := aM_ (ho)
     replace HO_6 := aM_ (Kd.R_over' (rR_ HO_6) (Kd.R_typed (rR_ HO287)) (by decide) hg)
     replace BK273 := aM_ (blk_grown (g := gb273) (kR_ BK273) hg (Kd.R_ne HO287.out BK273.out (by decide)))
     replace HO290 := aM_ (Kd.R_after (ok := (fun k_ => some k_ ≠ (.slice (some ad274) x5_1.length co40 : Value).ownBlock)) (rM_ HO290 (fun _ hk => ⟨hk.2, hk.1⟩)) hg hat)
     replace HB := aM_ (hb)
     replace HR284 := aM_ ((show Kd.C Kd.string w51 (some ad274) y281.length y281 from by rw [Ny281.out]; exact Kd.C_take (m := (x9_2 : Int).toNat) ((Kd.R_reads' (Kd.R_after (ok := (fun k_ => some k_ ≠ (.slice Ao52 y288.length co52 : Value).ownBlock)) (rM_ HO_5 (fun _ hk => ⟨hk.2, hk.1⟩)) hg hat)).2.2) KL43.out))
     replace HR297 := aM_ ((show Kd.C Kd.string w51 A44 y294.length y294 from by rw [Ny294.out, KA44.out]; exact Kd.C_drop (m := (x9_2 : Int).toNat) (c := co40) ((Kd.R_reads' (Kd.R_after (ok := (fun k_ => some k_ ≠ (.slice Ao52 y288.length co52 : Value).ownBlock)) (rM_ HO_5 (fun _ hk => ⟨hk.2, hk.1⟩)) hg hat)).2.2) KL44.out ((Kd.R_reads' (Kd.R_after (ok := (fun k_ => some k_ ≠ (.slice Ao52 y288.length co52 : Value).ownBlock)) (rM_ HO_5 (fun _ hk => ⟨hk.2, hk.1⟩)) hg hat)).2.1)))
     replace HO_5 := aM_ (Kd.R_after (ok := (fun k_ => some k_ ≠ (.slice Ao52 y288.length co52 : Value).ownBlock)) (rM_ HO_5 (fun _ hk => ⟨hk.2, hk.1⟩)) hg hat)
     clear HO287
     clear ho hb hg hat
     refine hK.out _ _ ⟨(blk_cell BK273.out 0).trans rfl, (blk_cell BK273.out 1).trans rfl, (blk_cell BK273.out 2).trans rfl⟩ (fun hHeld => ?_)
     clear hK K
     refine nm_ 61 ?_
     refine on_ 12 65 fun K hK => ?_
     refine Kd.R_append_rows_step Kd.string (w0 := w) w.heap.size (by rfl) (.tmp 61) (.tmp 64) 25 9 (.string ⟨#[]⟩) 16 rfl Try.underlying25 info9 rfl (by decide) (by omega) v292 y291 y294 _ _ _ (fun k_ => some k_ ≠ (.slice (some ad274) x5_1.length co40 : Value).ownBlock ∧ some k_ ≠ (.slice Ao52 y288.length co52 : Value).ownBlock) (fun _ => False) rfl rfl ?aO ?aR (fun _ _ h => h) (fun _ h => h.elim) ?aF ?aB ?aS ?aL ?_
     (case aR => repeat (first | exact (cC_ HR297) | (with_reducible first | apply cA_ | apply cN_ | apply cD_)))
     (case aB => exact hB_)
     (case aF => exact (fun k_ hk => ⟨Kd.fresh' (Kd.R_lt (rR_ HO_5)) k_ hk, Kd.fresh' (Kd.R_lt (rR_ HO290)) k_ hk⟩))
     (case aO => exact (rR_ HO293))
     (case aS => exact (below_size hB_))
     (case aL => have := LMc31.out; omega)
     intro v299 w53 ho hb hg hat
     rw [← Ny298.out] at ho
     have HO300 := aM_ (ho)
     replace HO_6 := aM_ (Kd.R_over' (rR_ HO_6) (Kd.R_typed (rR_ HO293)) (by decide) hg)
     replace BK273 := aM_ (blk_grown (g := gb273) (kR_ BK273) hg (Kd.R_ne HO293.out BK273.out (by decide)))
     replace HO290 := aM_ (Kd.R_after (ok := (fun k_ => some k_ ≠ (.slice (some ad274) x5_1.length co40 : Value).ownBlock)) (rR_ HO290) hg hat)
     replace HB := aM_ (hb)
     replace HR284 := aM_ ((show Kd.C Kd.string w53 (some ad274) y281.length y281 from by rw [Ny281.out]; exact Kd.C_take (m := (x9_2 : Int).toNat) ((Kd.R_reads' (Kd.R_after (ok := (fun k_ => some k_ ≠ (.slice Ao52 y288.length co52 : Value).ownBlock)) (rR_ HO_5) hg hat)).2.2) KL43.out))
     replace HR297 := aM_ ((show Kd.C Kd.string w53 A44 y294.length y294 from by rw [Ny294.out, KA44.out]; exact Kd.C_drop (m := (x9_2 : Int).toNat) (c := co40) ((Kd.R_reads' (Kd.R_after (ok := (fun k_ => some k_ ≠ (.slice Ao52 y288.length co52 : Value).ownBlock)) (rR_ HO_5) hg hat)).2.2) KL44.out ((Kd.R_reads' (Kd.R_after (ok := (fun k_ => some k_ ≠ (.slice Ao52 y288.length co52 : Value).ownBlock)) (rR_ HO_5) hg hat)).2.1)))
     replace HO_5 := aM_ (Kd.R_after (ok := (fun k_ => some k_ ≠ (.slice Ao52 y288.length co52 : Value).ownBlock)) (rR_ HO_5) hg hat)
     clear HO293
     clear ho hb hg hat
     refine hK.out _ _ ⟨(blk_cell BK273.out 0).trans rfl, (blk_cell BK273.out 1).trans rfl, (blk_cell BK273.out 2).trans rfl⟩ (fun hHeld => ?_)
     clear hK K
     refine nm_ 65 ?_
     refine pu_ 13 5 ?_
     refine dn_ ?_
     try go_wp2
     replace HO_5 := aM_ (Kd.R_drew HO_5.out)
     replace HO_6 := aM_ (Kd.R_drew HO_6.out)
     replace HO290 := aM_ (Kd.R_drew HO290.out)
     replace HO300 := aM_ (Kd.R_drew HO300.out)
     replace BK273 := aM_ (blk_drew BK273.out)
     replace HR284 := aM_ (Kd.C_drew HR284.out)
     replace HR297 := aM_ (Kd.C_drew HR297.out)
     replace HB := aM_ (below_drew1 HB.out)
     obtain ⟨Ao56, co56, eo56⟩ := Kd.R_slice HO_6.out
     (first | subst eo56 | (injection eo56 with f1_ f2_ f3_; have f4_ := f1_.symm; have f5_ := f3_.symm; clear f1_ f2_ f3_; subst f4_; subst f5_))
     have q55 : (x9_2 : Int) ≤ ((x6_1.length : Int) : Int) := ode_
     obtain ⟨i055, hi055, _, hsz55, _⟩ := info_parts info3
     have hroom55 : x6_1.length ≤ co56 := (Kd.R_reads' HO_6.out).2.1
     have hC55 : Kd.C (Kd.int .i64) _ Ao56 x6_1.length x6_1 := (Kd.R_reads' HO_6.out).2.2
     have hcut55 := cut_to (P := Try.prog) 26 3 .i64 Try.underlying26 hi055 Ao56 x6_1.length co56 x9_2 ode_ q55 hroom55
     have hr55 := Kd.C_take (m := (x9_2 : Int).toNat) hC55 (by omega)
     have hy55 : y301.length = (x9_2 : Int).toNat := (by rw [Ny301.out, List.length_take]; omega)
     rw [← Ny301.out] at hr55
     rw [← hy55] at hcut55
     have HR304 := Aside0.mk hr55
     have HC304 := Aside0.mk (show y301.length ≤ co56 from by omega)
     clear hr55 hC55 hroom55 hi055 hsz55
     have KY55 := Aside0.mk hy55
     clear hy55
     have KL55 := Aside0.mk (show (x9_2 : Int).toNat ≤ x6_1.length from by omega)
     replace q55 := eq_true q55
     have q57 : (x9_2 : Int) ≤ ((x6_1.length : Int) : Int) := ode_
     obtain ⟨i057, hi057, _, hsz57, _⟩ := info_parts info3
     have hroom57 : x6_1.length ≤ co56 := (Kd.R_reads' HO_6.out).2.1
     have hC57 : Kd.C (Kd.int .i64) _ Ao56 x6_1.length x6_1 := (Kd.R_reads' HO_6.out).2.2
     have q057 : (0 : Int) ≤ (x9_2 : Int) := ode_
     have hcut57 := cut_from (P := Try.prog) 26 3 .i64 Try.underlying26 hi057 1 hsz57 Ao56 x6_1.length co56 x9_2 q057 q57
     have hr57 := Kd.C_drop (m := (x9_2 : Int).toNat) (c := co56) hC57 (by omega) hroom57
     obtain ⟨A57, hA57⟩ : ∃ Ab_, Ab_ = (if co56 = (x9_2 : Int).toNat then Ao56 else (Ao56 : Option Addr).map (·.add ((x9_2 : Int).toNat * 1))) := ⟨_, rfl⟩
     obtain ⟨c57, hc57⟩ : ∃ cb_, cb_ = co56 - (x9_2 : Int).toNat := ⟨_, rfl⟩
     have hy57 : y314.length = x6_1.length - (x9_2 : Int).toNat := (by rw [Ny314.out, List.length_drop] <;> omega)
     rw [show (x6_1).drop (x9_2 : Int).toNat = y314 from Ny314.out.symm] at hr57
     replace hr57 : Kd.C (Kd.int .i64) _ A57 y314.length y314 := (by rw [hA57]; exact hr57)
     rw [← hy57, ← hA57, ← hc57] at hcut57
     have HR317 := Aside0.mk hr57
     have HC317 := Aside0.mk (show y314.length ≤ c57 from by rw [hy57, hc57]; exact Nat.sub_le_sub_right hroom57 _)
     clear hr57 hC57 hroom57 hi057 hsz57 hc57
     have KY57 := Aside0.mk hy57
     have KA57 := Aside0.mk hA57
     clear hy57 hA57
     have KL57 := Aside0.mk (show (x9_2 : Int).toNat ≤ x6_1.length from by omega)
     replace q57 := eq_true q57
     refine st_ 11 (fun w' => True) [] spec_CountGlosses.tab14 spec_CountGlosses.bits14 trivial fun hHeld HT_ HW_ => ?_
     generalize w53.drew = w54 at HO_5 HO_6 HO290 HO300 BK273 HR284 HR297 HB HR304 HR317 hHeld ⊢
     refine pu_ 0 66 ?_
     refine pu_ 1 67 ?_
     refine pu_ 2 68 ?_
     refine pu_ 6 72 ?_
     refine pu_ 7 73 ?_
     refine pu_ 8 74 ?_
     refine join_ (σ := Value × Value) 3 (bz_ 11 0x1df) (fun s_ => [(69, s_.1), (70, s_.2)]) (fun s_ w' => (Kd.R Kd.string 9 w' w.heap.size (fun k_ => some k_ ≠ (v299 : Value).ownBlock ∧ some k_ ≠ (.slice (some ad274) x5_1.length co40 : Value).ownBlock) (.slice Ao52 y288.length co52) y288) ∧ (Kd.R Kd.string 9 w' w.heap.size (fun k_ => some k_ ≠ (.slice Ao52 y288.length co52 : Value).ownBlock ∧ some k_ ≠ (.slice (some ad274) x5_1.length co40 : Value).ownBlock) v299 y298) ∧ (Kd.R (Kd.int .i64) 3 w' w.heap.size (fun k_ => some k_ ≠ (s_.2 : Value).ownBlock ∧ some k_ ≠ (.slice Ao56 x6_1.length co56 : Value).ownBlock) s_.1 t305) ∧ (Kd.R (Kd.int .i64) 3 w' w.heap.size (fun k_ => some k_ ≠ (s_.1 : Value).ownBlock ∧ some k_ ≠ (.slice Ao56 x6_1.length co56 : Value).ownBlock) s_.2 y308) ∧ (Kd.R Kd.string 9 w' w.heap.size (fun k_ => some k_ ≠ (.slice Ao52 y288.length co52 : Value).ownBlock ∧ some k_ ≠ (v299 : Value).ownBlock) (.slice (some ad274) x5_1.length co40) x5_1) ∧ (Kd.R (Kd.int .i64) 3 w' w.heap.size (fun k_ => some k_ ≠ (s_.1 : Value).ownBlock ∧ some k_ ≠ (s_.2 : Value).ownBlock) (.slice Ao56 x6_1.length co56) x6_1) ∧ (w'.heap[gb273]? = some (.cells #[.int .i64 ((rd_T50 l0 x15_1).f0), .int .i64 ((rd_T50 l0 x15_1).f1), .string ((rd_T50 l0 x15_1).f2)] 50 (0, 0))) ∧ (Below w.heap.size w w') ∧ (Kd.C Kd.string w' (some ad274) y281.length y281) ∧ (Kd.C Kd.string w' A44 y294.length y294) ∧ (Kd.C (Kd.int .i64) w' Ao56 y301.length y301) ∧ (Kd.C (Kd.int .i64) w' A57 y314.length y314)) ?_ ?_
     rotate_left
     ·intro hCont
      refine two_ (i := 3) (j := 4) (Ni := some 69) (Nj := some 70) (bz_ 11 0x1cf) (bz_ 11 0x1d7) rfl rfl rfl rfl (two_of HT_.out (by kernel_rfl)) (by decide) (by decide) (fun K hK => ?_) (fun K hK => ?_)
      ·skip
       refine gS_ Try.func32 #[.slice Ao56 y301.length co56] ?_
       with_reducible refine (spec_l1Own.calls _ _ y301 t305 _ ?side1 ?side2 A34.out).mono ?_
       (case side1 => repeat (first | exact (cC_ HR304) | (with_reducible first | apply cA_ | apply cN_ | apply cD_)))
       (case side2 => exact HC304.out)
       rintro e w58 ⟨v306, rfl, ho0, hb⟩
       refine ⟨_, rfl, ?_⟩
       have HO307 := aM_ (Kd.R_lower (Kd.R_new' ho0 (Kd.R_lt (rR_ HO_6))) (below_size hB_))
       replace HO_5 := aM_ (Kd.R_below (rR_ HO_5) hb)
       replace HO_6 := aM_ (Kd.R_elder' (rR_ HO_6) (Kd.R_base ho0) hb)
       replace HO290 := aM_ (Kd.R_below (rR_ HO290) hb)
       replace HO300 := aM_ (Kd.R_below (rR_ HO300) hb)
       replace BK273 := aM_ (blk_below (g := gb273) (kR_ BK273) hb)
       replace HR284 := aM_ (Kd.C_below (cC_ HR284) hb)
       replace HR297 := aM_ (Kd.C_below (cC_ HR297) hb)
       replace HR304 := aM_ (Kd.C_below (cC_ HR304) hb)
       replace HR317 := aM_ (Kd.C_below (cC_ HR317) hb)
       replace HB := aM_ (below_step hB_ hb)
       (try clear hb)
       (try clear hb2)
       (try clear hk)
       (try clear hi)
       (try clear ho0)
       refine hK.out _ _ trivial (fun hHeld => ?_)
       clear hK K
       refine nm_ 69 ?_
       refine on_ 4 70 fun K hK => ?_
       refine Kd.R_lit_step (Kd.int .i64) _ 3 ?hg (N := 70) ?hd (xs := ([1] : List Int)) (inner := [.int .i64 1]) (ok := fun _ => True) (okp := fun _ => True) ?hr ?hp (fun _ hk => hk) trivial (Below.refl _ _) (Nat.le_refl _) (by simp) ?_; (case hd => rfl); (case hg => rfl); (case hr => first | (go_simp; done) | (go_simp; rfl)); (case hp => exact (Reps.one (show Kd.M (Kd.int .i64) _ _ _ 1 [.int .i64 1] from rfl) (Reps.none _ _)))
       intro v309 w59 ho60 hb hg_ hnew_
       clear hg_ hnew_
       (first | rw [← Ny308.out] at ho60 | (simp only [Int.reduceToNat] at ho60; rw [← Ny308.out] at ho60))
       have HO310 := aM_ (Kd.R_lower (Kd.R_new' (Kd.R_new' ho60 (Kd.R_lt (rR_ HO_6))) (Kd.R_lt (rR_ HO307))) (below_size hB_))
       replace HO_5 := aM_ (Kd.R_below (rR_ HO_5) hb)
       replace HO_6 := aM_ (Kd.R_elder' (rR_ HO_6) (Kd.R_base ho60) hb)
       replace HO290 := aM_ (Kd.R_below (rR_ HO290) hb)
       replace HO300 := aM_ (Kd.R_below (rR_ HO300) hb)
       replace HO307 := aM_ (Kd.R_elder' (rR_ HO307) (Kd.R_base ho60) hb)
       replace BK273 := aM_ (blk_below (g := gb273) (kR_ BK273) hb)
       replace HR284 := aM_ (Kd.C_below (cC_ HR284) hb)
       replace HR297 := aM_ (Kd.C_below (cC_ HR297) hb)
       replace HR304 := aM_ (Kd.C_below (cC_ HR304) hb)
       replace HR317 := aM_ (Kd.C_below (cC_ HR317) hb)
       replace HB := aM_ (below_step hB_ hb)
       clear hb ho60
       refine hK.out _ _ trivial (fun hHeld => ?_)
       clear hK K
       refine nm_ 70 ?_
       exact norm_ z6_2_ (hCont (v306, v309) _ ⟨(rM_ HO290 (fun _ hk => ⟨hk.2, hk.1⟩)), (rM_ HO300 (fun _ hk => ⟨hk.2, hk.1⟩)), (rM_ HO307 (fun _ hk => ⟨hk.2, hk.1.2⟩)), (rM_ HO310 (fun _ hk => ⟨hk.2, hk.1.2⟩)), (rR_ HO_5), (rM_ HO_6 (fun _ hk => ⟨hk.1.2, hk.2⟩)), (kR_ BK273), hB_, (cC_ HR284), (cC_ HR297), (cC_ HR304), (cC_ HR317)⟩)
      ·skip
       refine Kd.R_lit_step (Kd.int .i64) _ 3 ?hg (N := 70) ?hd (xs := ([1] : List Int)) (inner := [.int .i64 1]) (ok := fun _ => True) (okp := fun _ => True) ?hr ?hp (fun _ hk => hk) trivial (Below.refl _ _) (Nat.le_refl _) (by simp) ?_; (case hd => rfl); (case hg => rfl); (case hr => first | (go_simp; done) | (go_simp; rfl)); (case hp => exact (Reps.one (show Kd.M (Kd.int .i64) _ _ _ 1 [.int .i64 1] from rfl) (Reps.none _ _)))
       intro v309 w58 ho59 hb hg_ hnew_
       clear hg_ hnew_
       (first | rw [← Ny308.out] at ho59 | (simp only [Int.reduceToNat] at ho59; rw [← Ny308.out] at ho59))
       have HO310 := aM_ (Kd.R_lower (Kd.R_new' ho59 (Kd.R_lt (rR_ HO_6))) (below_size hB_))
       replace HO_5 := aM_ (Kd.R_below (rR_ HO_5) hb)
       replace HO_6 := aM_ (Kd.R_elder' (rR_ HO_6) (Kd.R_base ho59) hb)
       replace HO290 := aM_ (Kd.R_below (rR_ HO290) hb)
       replace HO300 := aM_ (Kd.R_below (rR_ HO300) hb)
       replace BK273 := aM_ (blk_below (g := gb273) (kR_ BK273) hb)
       replace HR284 := aM_ (Kd.C_below (cC_ HR284) hb)
       replace HR297 := aM_ (Kd.C_below (cC_ HR297) hb)
       replace HR304 := aM_ (Kd.C_below (cC_ HR304) hb)
       replace HR317 := aM_ (Kd.C_below (cC_ HR317) hb)
       replace HB := aM_ (below_step hB_ hb)
       clear hb ho59
       refine hK.out _ _ trivial (fun hHeld => ?_)
       clear hK K
       refine nm_ 70 ?_
       refine on_ 3 69 fun K hK => ?_
       refine gS_ Try.func32 #[.slice Ao56 y301.length co56] ?_
       with_reducible refine (spec_l1Own.calls _ _ y301 t305 _ ?side1 ?side2 A34.out).mono ?_
       (case side1 => repeat (first | exact (cC_ HR304) | (with_reducible first | apply cA_ | apply cN_ | apply cD_)))
       (case side2 => exact HC304.out)
       rintro e w60 ⟨v306, rfl, ho0, hb⟩
       refine ⟨_, rfl, ?_⟩
       have HO307 := aM_ (Kd.R_lower (Kd.R_new' (Kd.R_new' ho0 (Kd.R_lt (rR_ HO_6))) (Kd.R_lt (rR_ HO310))) (below_size hB_))
       replace HO_5 := aM_ (Kd.R_below (rR_ HO_5) hb)
       replace HO_6 := aM_ (Kd.R_elder' (rR_ HO_6) (Kd.R_base ho0) hb)
       replace HO290 := aM_ (Kd.R_below (rR_ HO290) hb)
       replace HO300 := aM_ (Kd.R_below (rR_ HO300) hb)
       replace HO310 := aM_ (Kd.R_elder' (rR_ HO310) (Kd.R_base ho0) hb)
       replace BK273 := aM_ (blk_below (g := gb273) (kR_ BK273) hb)
       replace HR284 := aM_ (Kd.C_below (cC_ HR284) hb)
       replace HR297 := aM_ (Kd.C_below (cC_ HR297) hb)
       replace HR304 := aM_ (Kd.C_below (cC_ HR304) hb)
       replace HR317 := aM_ (Kd.C_below (cC_ HR317) hb)
       replace HB := aM_ (below_step hB_ hb)
       (try clear hb)
       (try clear hb2)
       (try clear hk)
       (try clear hi)
       (try clear ho0)
       refine hK.out _ _ trivial (fun hHeld => ?_)
       clear hK K
       refine nm_ 69 ?_
       exact norm_ z6_2_ (hCont (v306, v309) _ ⟨(rM_ HO290 (fun _ hk => ⟨hk.2, hk.1⟩)), (rM_ HO300 (fun _ hk => ⟨hk.2, hk.1⟩)), (rM_ HO307 (fun _ hk => ⟨hk.2, hk.1.2⟩)), (rM_ HO310 (fun _ hk => ⟨hk.2, hk.1.2⟩)), (rR_ HO_5), (rM_ HO_6 (fun _ hk => ⟨hk.2, hk.1.2⟩)), (kR_ BK273), hB_, (cC_ HR284), (cC_ HR297), (cC_ HR304), (cC_ HR317)⟩)
     rintro ⟨v306, v309⟩ w61 ⟨h0_, h1_, h2_, h3_, h4_, h5_, h6_, h7_, h8_, h9_, h10_, h11_⟩
     have n0_ : Aside0 (Kd.R Kd.string 9 w61 w.heap.size (fun k_ => some k_ ≠ (v299 : Value).ownBlock ∧ some k_ ≠ (.slice (some ad274) x5_1.length co40 : Value).ownBlock) (.slice Ao52 y288.length co52) y288) := ⟨h0_⟩
     have n1_ : Aside0 (Kd.R Kd.string 9 w61 w.heap.size (fun k_ => some k_ ≠ (.slice Ao52 y288.length co52 : Value).ownBlock ∧ some k_ ≠ (.slice (some ad274) x5_1.length co40 : Value).ownBlock) v299 y298) := ⟨h1_⟩
     have n2_ : Aside0 (Kd.R (Kd.int .i64) 3 w61 w.heap.size (fun k_ => some k_ ≠ (v309 : Value).ownBlock ∧ some k_ ≠ (.slice Ao56 x6_1.length co56 : Value).ownBlock) v306 t305) := ⟨h2_⟩
     have n3_ : Aside0 (Kd.R (Kd.int .i64) 3 w61 w.heap.size (fun k_ => some k_ ≠ (v306 : Value).ownBlock ∧ some k_ ≠ (.slice Ao56 x6_1.length co56 : Value).ownBlock) v309 y308) := ⟨h3_⟩
     have n4_ : Aside0 (Kd.R Kd.string 9 w61 w.heap.size (fun k_ => some k_ ≠ (.slice Ao52 y288.length co52 : Value).ownBlock ∧ some k_ ≠ (v299 : Value).ownBlock) (.slice (some ad274) x5_1.length co40) x5_1) := ⟨h4_⟩
     have n5_ : Aside0 (Kd.R (Kd.int .i64) 3 w61 w.heap.size (fun k_ => some k_ ≠ (v306 : Value).ownBlock ∧ some k_ ≠ (v309 : Value).ownBlock) (.slice Ao56 x6_1.length co56) x6_1) := ⟨h5_⟩
     have n6_ : Aside0 (w61.heap[gb273]? = some (.cells #[.int .i64 ((rd_T50 l0 x15_1).f0), .int .i64 ((rd_T50 l0 x15_1).f1), .string ((rd_T50 l0 x15_1).f2)] 50 (0, 0))) := ⟨h6_⟩
     have n7_ : Aside0 (Below w.heap.size w w61) := ⟨h7_⟩
     have n8_ : Aside0 (Kd.C Kd.string w61 (some ad274) y281.length y281) := ⟨h8_⟩
     have n9_ : Aside0 (Kd.C Kd.string w61 A44 y294.length y294) := ⟨h9_⟩
     have n10_ : Aside0 (Kd.C (Kd.int .i64) w61 Ao56 y301.length y301) := ⟨h10_⟩
     have n11_ : Aside0 (Kd.C (Kd.int .i64) w61 A57 y314.length y314) := ⟨h11_⟩
     clear HO_5
     clear HO_6
     clear HO290
     clear HO300
     clear BK273
     clear HR284
     clear HR297
     clear HB
     clear h0_ h1_ h2_ h3_ h4_ h5_ h6_ h7_ h8_ h9_ h10_ h11_
     have HO290 := n0_
     have HO300 := n1_
     have HO307 := n2_
     have HO310 := n3_
     have HO_5 := n4_
     have HO_6 := n5_
     have BK273 := n6_
     have HB := n7_
     have HR284 := n8_
     have HR297 := n9_
     have HR304 := n10_
     have HR317 := n11_
     clear n0_ n1_ n2_ n3_ n4_ n5_ n6_ n7_ n8_ n9_ n10_ n11_
     have hHeld := trivial
     obtain ⟨Ao63, co63, eo63⟩ := Kd.R_slice HO310.out
     (first | subst eo63 | (injection eo63 with f1_ f2_ f3_; have f4_ := f1_.symm; have f5_ := f3_.symm; clear f1_ f2_ f3_; subst f4_; subst f5_))
     refine norm_ (a' := ?_) ?_ ?_
     rotate_left
     ·simp only [putAll, Act.put, List.setIfInBounds_toArray, List.set_cons_zero, List.set_cons_succ]
      rfl
     refine on_ 5 71 fun K hK => ?_
     refine Kd.R_append_rows_step (Kd.int .i64) (w0 := w) w.heap.size (by rfl) (.tmp 69) (.tmp 70) 26 3 (.int .i64 0) 8 rfl Try.underlying26 info3 rfl (by decide) (by omega) v306 t305 y308 _ _ _ (fun k_ => some k_ ≠ (.slice Ao56 x6_1.length co56 : Value).ownBlock ∧ some k_ ≠ (.slice Ao63 y308.length co63 : Value).ownBlock) (fun _ => False) rfl rfl ?aO ?aR (fun _ _ h => h) (fun _ h => h.elim) ?aF ?aB ?aS ?aL ?_
     (case aR => exact cR_ HO310)
     (case aB => exact hB_)
     (case aF => exact (fun k_ hk => ⟨Kd.fresh' (Kd.R_lt (rR_ HO_6)) k_ hk, Kd.fresh' (Kd.R_lt (rR_ HO310)) k_ hk⟩))
     (case aO => exact (rM_ HO307 (fun _ hk => ⟨hk.2, hk.1⟩)))
     (case aS => exact (below_size hB_))
     (case aL => have := LMc35.out; omega)
     intro v312 w62 ho hb hg hat
     rw [← Ny311.out] at ho
     have HO313 := aM_ (ho)
     replace BK273 := aM_ (blk_grown (g := gb273) (kR_ BK273) hg (Kd.R_ne HO307.out BK273.out (by decide)))
     replace HO290 := aM_ (Kd.R_over' (rR_ HO290) (Kd.R_typed (rR_ HO307)) (by decide) hg)
     replace HO300 := aM_ (Kd.R_over' (rR_ HO300) (Kd.R_typed (rR_ HO307)) (by decide) hg)
     replace HO310 := aM_ (Kd.R_after (ok := (fun k_ => some k_ ≠ (.slice Ao56 x6_1.length co56 : Value).ownBlock)) (rM_ HO310 (fun _ hk => ⟨hk.2, hk.1⟩)) hg hat)
     replace HB := aM_ (hb)
     replace HR284 := aM_ ((show Kd.C Kd.string w62 (some ad274) y281.length y281 from by rw [Ny281.out]; exact Kd.C_take (m := (x9_2 : Int).toNat) ((Kd.R_reads' (Kd.R_over' (rR_ HO_5) (Kd.R_typed (rR_ HO307)) (by decide) hg)).2.2) KL43.out))
     replace HR297 := aM_ ((show Kd.C Kd.string w62 A44 y294.length y294 from by rw [Ny294.out, KA44.out]; exact Kd.C_drop (m := (x9_2 : Int).toNat) (c := co40) ((Kd.R_reads' (Kd.R_over' (rR_ HO_5) (Kd.R_typed (rR_ HO307)) (by decide) hg)).2.2) KL44.out ((Kd.R_reads' (Kd.R_over' (rR_ HO_5) (Kd.R_typed (rR_ HO307)) (by decide) hg)).2.1)))
     replace HO_5 := aM_ (Kd.R_over' (rR_ HO_5) (Kd.R_typed (rR_ HO307)) (by decide) hg)
     replace HR304 := aM_ ((show Kd.C (Kd.int .i64) w62 Ao56 y301.length y301 from by rw [Ny301.out]; exact Kd.C_take (m := (x9_2 : Int).toNat) ((Kd.R_reads' (Kd.R_after (ok := (fun k_ => some k_ ≠ (.slice Ao63 y308.length co63 : Value).ownBlock)) (rM_ HO_6 (fun _ hk => ⟨hk.2, hk.1⟩)) hg hat)).2.2) KL55.out))
     replace HR317 := aM_ ((show Kd.C (Kd.int .i64) w62 A57 y314.length y314 from by rw [Ny314.out, KA57.out]; exact Kd.C_drop (m := (x9_2 : Int).toNat) (c := co56) ((Kd.R_reads' (Kd.R_after (ok := (fun k_ => some k_ ≠ (.slice Ao63 y308.length co63 : Value).ownBlock)) (rM_ HO_6 (fun _ hk => ⟨hk.2, hk.1⟩)) hg hat)).2.2) KL57.out ((Kd.R_reads' (Kd.R_after (ok := (fun k_ => some k_ ≠ (.slice Ao63 y308.length co63 : Value).ownBlock)) (rM_ HO_6 (fun _ hk => ⟨hk.2, hk.1⟩)) hg hat)).2.1)))
     replace HO_6 := aM_ (Kd.R_after (ok := (fun k_ => some k_ ≠ (.slice Ao63 y308.length co63 : Value).ownBlock)) (rM_ HO_6 (fun _ hk => ⟨hk.2, hk.1⟩)) hg hat)
     clear HO307
     clear ho hb hg hat
     refine hK.out _ _ trivial (fun hHeld => ?_)
     clear hK K
     refine nm_ 71 ?_
     refine on_ 9 75 fun K hK => ?_
     refine Kd.R_append_rows_step (Kd.int .i64) (w0 := w) w.heap.size (by rfl) (.tmp 71) (.tmp 74) 26 3 (.int .i64 0) 8 rfl Try.underlying26 info3 rfl (by decide) (by omega) v312 y311 y314 _ _ _ (fun k_ => some k_ ≠ (.slice Ao56 x6_1.length co56 : Value).ownBlock ∧ some k_ ≠ (.slice Ao63 y308.length co63 : Value).ownBlock) (fun _ => False) rfl rfl ?aO ?aR (fun _ _ h => h) (fun _ h => h.elim) ?aF ?aB ?aS ?aL ?_
     (case aR => repeat (first | exact (cC_ HR317) | (with_reducible first | apply cA_ | apply cN_ | apply cD_)))
     (case aB => exact hB_)
     (case aF => exact (fun k_ hk => ⟨Kd.fresh' (Kd.R_lt (rR_ HO_6)) k_ hk, Kd.fresh' (Kd.R_lt (rR_ HO310)) k_ hk⟩))
     (case aO => exact (rR_ HO313))
     (case aS => exact (below_size hB_))
     (case aL => have := LMc38.out; omega)
     intro v319 w64 ho hb hg hat
     rw [← Ny318.out] at ho
     have HO320 := aM_ (ho)
     replace BK273 := aM_ (blk_grown (g := gb273) (kR_ BK273) hg (Kd.R_ne HO313.out BK273.out (by decide)))
     replace HO290 := aM_ (Kd.R_over' (rR_ HO290) (Kd.R_typed (rR_ HO313)) (by decide) hg)
     replace HO300 := aM_ (Kd.R_over' (rR_ HO300) (Kd.R_typed (rR_ HO313)) (by decide) hg)
     replace HO310 := aM_ (Kd.R_after (ok := (fun k_ => some k_ ≠ (.slice Ao56 x6_1.length co56 : Value).ownBlock)) (rR_ HO310) hg hat)
     replace HB := aM_ (hb)
     replace HR284 := aM_ ((show Kd.C Kd.string w64 (some ad274) y281.length y281 from by rw [Ny281.out]; exact Kd.C_take (m := (x9_2 : Int).toNat) ((Kd.R_reads' (Kd.R_over' (rR_ HO_5) (Kd.R_typed (rR_ HO313)) (by decide) hg)).2.2) KL43.out))
     replace HR297 := aM_ ((show Kd.C Kd.string w64 A44 y294.length y294 from by rw [Ny294.out, KA44.out]; exact Kd.C_drop (m := (x9_2 : Int).toNat) (c := co40) ((Kd.R_reads' (Kd.R_over' (rR_ HO_5) (Kd.R_typed (rR_ HO313)) (by decide) hg)).2.2) KL44.out ((Kd.R_reads' (Kd.R_over' (rR_ HO_5) (Kd.R_typed (rR_ HO313)) (by decide) hg)).2.1)))
     replace HO_5 := aM_ (Kd.R_over' (rR_ HO_5) (Kd.R_typed (rR_ HO313)) (by decide) hg)
     replace HR304 := aM_ ((show Kd.C (Kd.int .i64) w64 Ao56 y301.length y301 from by rw [Ny301.out]; exact Kd.C_take (m := (x9_2 : Int).toNat) ((Kd.R_reads' (Kd.R_after (ok := (fun k_ => some k_ ≠ (.slice Ao63 y308.length co63 : Value).ownBlock)) (rR_ HO_6) hg hat)).2.2) KL55.out))
     replace HR317 := aM_ ((show Kd.C (Kd.int .i64) w64 A57 y314.length y314 from by rw [Ny314.out, KA57.out]; exact Kd.C_drop (m := (x9_2 : Int).toNat) (c := co56) ((Kd.R_reads' (Kd.R_after (ok := (fun k_ => some k_ ≠ (.slice Ao63 y308.length co63 : Value).ownBlock)) (rR_ HO_6) hg hat)).2.2) KL57.out ((Kd.R_reads' (Kd.R_after (ok := (fun k_ => some k_ ≠ (.slice Ao63 y308.length co63 : Value).ownBlock)) (rR_ HO_6) hg hat)).2.1)))
     replace HO_6 := aM_ (Kd.R_after (ok := (fun k_ => some k_ ≠ (.slice Ao63 y308.length co63 : Value).ownBlock)) (rR_ HO_6) hg hat)
     clear HO313
     clear ho hb hg hat
     refine hK.out _ _ trivial (fun hHeld => ?_)
     clear hK K
     refine nm_ 75 ?_
     refine pu_ 10 6 ?_
     refine dn_ ?_
     try go_wp2
     go_roundg k2
     case measure => have := HK1.out; have := HK2.out; omega
     case rel => exact ⟨(y298), (y318), (wrap64 (x15_1 + 1)), z6_1_, H', ⟨z6_3_⟩, ⟨rT1_ HO300⟩, ⟨rT1_ HO320⟩, ⟨hB_⟩⟩

end Go.Proofs.Ytbfkpgmdbafmhaa.PFnTierCounts
