/- Printed for this claim: functions of the program as Lean functions, and that the calls answer so. -/
import Derived.Test.YtfkdlfbjkdkffaaGreatDoorPFnPointsx0
import Derived.Test.YtfkdlfbjkdkffaaGreatDoorPFnPointsx1
import Derived.Test.YtfkdlfbjkdkffaaGreatDoorPFnPointsx3
import Derived.Test.YtfkdlfbjkdkffaaGreatDoorPFnPointsxD0
namespace Go.Proofs.YtfkdlfbjkdkffaaGreatDoor.PFnPoints
open Go.RowKit Go.Proofs.YtfkdlfbjkdkffaaGreatDoorW.PrintWords Go.Proofs.YtfkdlfbjkdkffaaGreatDoorW.PrintLast Go.Proofs.YtfkdlfbjkdkffaaGreatDoorW.PrintMore
theorem z11_0_ {p : Prop} (h : p := by simp only [putAll, Act.put, List.setIfInBounds_toArray, List.set_cons_zero, List.set_cons_succ]) : p := h
theorem z11_1_ {p : Prop} (h : p := by first | rfl | (simp; done) | (simp [*]; done)) : p := h
theorem z11_2_ {p : Prop} (h : p := by repeat (first | exact Drawn0.refl _ | apply Drawn0.step)) : p := h
set_option maxHeartbeats 8000000
set_option maxRecDepth 100000
attribute [local go_sem] max2_int min2_int max_two min_two max_three min_three max_four min_four isSome_setCell   -- for this text's walks alone
set_option linter.unusedVariables false
set_option linter.unusedSimpArgs false

attribute [local go_sem high] eqA58
/-! ### spec_l1Num: function 106 -/
def spec_l1Num.T3 : Bool × List (List Nat × List Nat) := (true, [([], []), ([0], [0]), ([1], [1]), ([], []), ([3], [3]), ([4], [4]), ([5], [5]), ([6], [6]), ([7], [7]), ([2, 8], [2, 8]), ([9, 2, 0, 1, 2, 3, 4, 5, 6, 7, 8, 9], [9])])
def spec_l1Num.B3 : List Nat := [0, 1, 3, 0, 8, 24, 56, 120, 248, 511, 1023]
theorem spec_l1Num.tab3 : rtab .any (opsOf Tryz.f106 3) = spec_l1Num.T3 := by kernel_rfl
theorem spec_l1Num.bits3 : waitsOk spec_l1Num.T3.2 spec_l1Num.B3 = true := by kernel_rfl
theorem spec_l1Num.calls (k : Nat) : ∀ (a0 : Int) (r : ByteArray) (w : World) (h : spec_l1Num.f k a0 = some r),
 Calls Tryz.prog 106 #[.int .i64 a0] w fun e w' => e = .returned (.string r) ∧ Below w.heap.size w w' := by
 induction k using Nat.strongRecOn with
 | _ k ih =>
 intro a0 r w h
 cases k with
 | zero => exact absurd h (by simp [spec_l1Num.f])
 | succ k =>
 simp only [spec_l1Num.f] at h
 have HB := Aside0.mk (Below.refl w.heap.size w)
 have H : (if a0 < 10 then (some (strOfNums (([(wrap64 (48 + a0)) % 256] : List Int)))) else ((spec_l1Num.f k (wrap64 (Int.tdiv a0 10))).bind fun t364 => ((some (([(wrap64 (48 + (Int.tmod a0 10))) % 256] : List Int) : List Int)).bind fun y365 => (if t364.size + (strOfNums y365).size ≤ 9223372036854775807 then (some (t364 ++ (strOfNums y365))) else (none))))) = some r := h
 clear h
 replace H := iT_ H; obtain ⟨c2b0, H⟩ | ⟨c2b0, H⟩ := H
 ·obtain ⟨y361, hy361⟩ : ∃ y_ : List Int, y_ = (([(wrap64 (48 + a0)) % 256] : List Int)) := ⟨_, rfl⟩
  rw [← hy361] at H
  have Ny361 := Aside0.mk hy361; clear hy361
  obtain rfl := Option.some.inj H
  go_enter Tryz.func106, Tryz.ntmps106
  go_wp2_with (first | ((with_reducible refine gate_dst (N := 8) rfl ?_); refine rl_ (Kd.int .u8) 5 8 ([(wrap64 (48 + a0)) % 256] : List Int) [.int .u8 ((wrap64 (48 + a0)) % 256)] (Reps.one (show Kd.M (Kd.int .u8) _ _ _ ((wrap64 (48 + a0)) % 256) [.int .u8 ((wrap64 (48 + a0)) % 256)] from rfl) (Reps.none _ _)) ?_; intro v362 w3 ho4 hb hg_ hnew_; clear hg_ hnew_; (first | rw [← Ny361.out] at ho4 | (simp only [Int.reduceToNat] at ho4; rw [← Ny361.out] at ho4)); have HO363 := aM_ (Kd.R_lower ho4 (below_size hB_)); replace HB := aM_ (below_step hB_ hb); clear hb ho4; have hcv5 := own_string (P := Tryz.prog) Tryz.underlying22 Tryz.underlying5 Tryz.underlying9 (Kd.own_of_R HO363.out)))
  go_ret
  exact ⟨rT_, hB_⟩
 replace H := ob_ H; obtain ⟨t364, A6, H⟩ := H; try dsimp only at H
 replace H := bs_ H; obtain ⟨y365, Ny365, H⟩ := H; try dsimp only at H
 by_cases c7 : t364.size + (strOfNums y365).size ≤ 9223372036854775807
 rotate_left
 ·rw [if_neg c7] at H
  exact absurd H (by simp)
 rw [if_pos c7] at H
 have c7b0 := eq_true c7
 have c7b1 : decide (t364.size + (strOfNums y365).size ≤ 9223372036854775807) = true := decide_eq_true c7
 try have c7b2 : (9223372036854775807 < t364.size + (strOfNums y365).size) = False := eq_false (Nat.not_lt.2 c7)
 obtain rfl := Option.some.inj H
 go_enter Tryz.func106, Tryz.ntmps106
 try go_wp2
 replace HB := aM_ (below_drew1 HB.out)
 refine st_ 11 (fun w' => True) [] spec_l1Num.tab3 spec_l1Num.bits3 trivial fun hHeld HT_ HW_ => ?_
 generalize w.drew = w8 at HB hHeld ⊢
 refine pu_ 0 10 ?_
 refine pu_ 1 11 ?_
 refine pu_ 3 13 ?_
 refine pu_ 4 14 ?_
 refine pu_ 5 15 ?_
 refine pu_ 6 16 ?_
 refine join_ (σ := Value) 2 (bz_ 11 0x1ff) (fun s_ => [(12, .string t364), (17, s_), (18, .string (strOfNums y365))]) (fun s_ w' => (Kd.R (Kd.int .u8) 5 w' w.heap.size (fun _ => True) s_ y365) ∧ (Below w.heap.size w w')) ?_ ?_
 rotate_left
 ·intro hCont
  refine two_ (i := 2) (j := 7) (Ni := some 12) (Nj := some 17) (bz_ 11 0x7f) (bz_ 11 0xfb) rfl rfl rfl rfl (two_of HT_.out (by kernel_rfl)) (by decide) (by decide) (fun K hK => ?_) (fun K hK => ?_)
  ·skip
   refine gS_ Tryz.func106 #[.int .i64 (wrap64 (Int.tdiv a0 10))] ?_
   with_reducible refine (ih k (by omega) (wrap64 (Int.tdiv a0 10)) t364 _ A6.out).mono ?_
   rintro e w9 ⟨rfl, hb⟩
   refine ⟨_, rfl, ?_⟩
   replace HB := aM_ (below_step hB_ hb)
   (try clear hb)
   (try clear hb2)
   (try clear hk)
   (try clear hi)
   refine hK.out _ _ trivial (fun hHeld => ?_)
   clear hK K
   refine nm_ 12 ?_
   refine on_ 7 17 fun K hK => ?_
   refine Kd.R_lit_step (Kd.int .u8) _ 5 ?hg (N := 17) ?hd (xs := ([(wrap64 (48 + (Int.tmod a0 10))) % 256] : List Int)) (inner := [.int .u8 ((wrap64 (48 + (Int.tmod a0 10))) % 256)]) (ok := fun _ => True) (okp := fun _ => True) ?hr ?hp (fun _ hk => hk) trivial (Below.refl _ _) (Nat.le_refl _) (by simp) ?_; (case hd => rfl); (case hg => rfl); (case hr => first | (go_simp; done) | (go_simp; rfl)); (case hp => exact (Reps.one (show Kd.M (Kd.int .u8) _ _ _ ((wrap64 (48 + (Int.tmod a0 10))) % 256) [.int .u8 ((wrap64 (48 + (Int.tmod a0 10))) % 256)] from rfl) (Reps.none _ _)))
   intro v366 w10 ho11 hb hg_ hnew_
   clear hg_ hnew_
   (first | rw [← Ny365.out] at ho11 | (simp only [Int.reduceToNat] at ho11; rw [← Ny365.out] at ho11))
   have HO367 := aM_ (Kd.R_lower ho11 (below_size hB_))
   replace HB := aM_ (below_step hB_ hb)
   clear hb ho11
   refine hK.out _ _ trivial (fun hHeld => ?_)
   clear hK K
   refine nm_ 17 ?_
   refine on_ 8 18 fun K hK => ?_
   have hcv12 := own_string (P := Tryz.prog) Tryz.underlying22 Tryz.underlying5 Tryz.underlying9 (Kd.own_of_R HO367.out)
   refine value_ (w1 := ?_) (v := ?_) (by rfl) rfl ?_ ?_
   rotate_left 2
   ·go_simp
    constructor
    ·rfl
    ·rfl
   clear hcv12
   refine hK.out _ _ trivial (fun hHeld => ?_)
   clear hK K
   refine nm_ 18 ?_
   exact norm_ z11_0_ (hCont (v366) _ ⟨(rR_ HO367), hB_⟩)
  ·skip
   refine Kd.R_lit_step (Kd.int .u8) _ 5 ?hg (N := 17) ?hd (xs := ([(wrap64 (48 + (Int.tmod a0 10))) % 256] : List Int)) (inner := [.int .u8 ((wrap64 (48 + (Int.tmod a0 10))) % 256)]) (ok := fun _ => True) (okp := fun _ => True) ?hr ?hp (fun _ hk => hk) trivial (Below.refl _ _) (Nat.le_refl _) (by simp) ?_; (case hd => rfl); (case hg => rfl); (case hr => first | (go_simp; done) | (go_simp; rfl)); (case hp => exact (Reps.one (show Kd.M (Kd.int .u8) _ _ _ ((wrap64 (48 + (Int.tmod a0 10))) % 256) [.int .u8 ((wrap64 (48 + (Int.tmod a0 10))) % 256)] from rfl) (Reps.none _ _)))
   intro v366 w9 ho10 hb hg_ hnew_
   clear hg_ hnew_
   (first | rw [← Ny365.out] at ho10 | (simp only [Int.reduceToNat] at ho10; rw [← Ny365.out] at ho10))
   have HO367 := aM_ (Kd.R_lower ho10 (below_size hB_))
   replace HB := aM_ (below_step hB_ hb)
   clear hb ho10
   refine hK.out _ _ trivial (fun hHeld => ?_)
   clear hK K
   refine nm_ 17 ?_
   refine two_ (i := 2) (j := 8) (Ni := some 12) (Nj := some 18) (bz_ 11 0xff) (bz_ 11 0x1fb) rfl rfl rfl rfl (two_of HT_.out (by kernel_rfl)) (by decide) (by decide) (fun K hK => ?_) (fun K hK => ?_)
   ·skip
    refine gS_ Tryz.func106 #[.int .i64 (wrap64 (Int.tdiv a0 10))] ?_
    with_reducible refine (ih k (by omega) (wrap64 (Int.tdiv a0 10)) t364 _ A6.out).mono ?_
    rintro e w11 ⟨rfl, hb⟩
    refine ⟨_, rfl, ?_⟩
    replace HO367 := aM_ (Kd.R_below (rR_ HO367) hb)
    replace HB := aM_ (below_step hB_ hb)
    (try clear hb)
    (try clear hb2)
    (try clear hk)
    (try clear hi)
    refine hK.out _ _ trivial (fun hHeld => ?_)
    clear hK K
    refine nm_ 12 ?_
    refine on_ 8 18 fun K hK => ?_
    have hcv12 := own_string (P := Tryz.prog) Tryz.underlying22 Tryz.underlying5 Tryz.underlying9 (Kd.own_of_R HO367.out)
    refine value_ (w1 := ?_) (v := ?_) (by rfl) rfl ?_ ?_
    rotate_left 2
    ·go_simp
     constructor
     ·rfl
     ·rfl
    clear hcv12
    refine hK.out _ _ trivial (fun hHeld => ?_)
    clear hK K
    refine nm_ 18 ?_
    exact norm_ z11_0_ (hCont (v366) _ ⟨(rR_ HO367), hB_⟩)
   ·skip
    have hcv11 := own_string (P := Tryz.prog) Tryz.underlying22 Tryz.underlying5 Tryz.underlying9 (Kd.own_of_R HO367.out)
    refine value_ (w1 := ?_) (v := ?_) (by rfl) rfl ?_ ?_
    rotate_left 2
    ·go_simp
     constructor
     ·rfl
     ·rfl
    clear hcv11
    refine hK.out _ _ trivial (fun hHeld => ?_)
    clear hK K
    refine nm_ 18 ?_
    refine on_ 2 12 fun K hK => ?_
    refine gS_ Tryz.func106 #[.int .i64 (wrap64 (Int.tdiv a0 10))] ?_
    with_reducible refine (ih k (by omega) (wrap64 (Int.tdiv a0 10)) t364 _ A6.out).mono ?_
    rintro e w12 ⟨rfl, hb⟩
    refine ⟨_, rfl, ?_⟩
    replace HO367 := aM_ (Kd.R_below (rR_ HO367) hb)
    replace HB := aM_ (below_step hB_ hb)
    (try clear hb)
    (try clear hb2)
    (try clear hk)
    (try clear hi)
    refine hK.out _ _ trivial (fun hHeld => ?_)
    clear hK K
    refine nm_ 12 ?_
    exact norm_ z11_0_ (hCont (v366) _ ⟨(rR_ HO367), hB_⟩)
 rintro v366 w13 ⟨h0_, h1_⟩
 have n0_ : Aside0 (Kd.R (Kd.int .u8) 5 w13 w.heap.size (fun _ => True) v366 y365) := ⟨h0_⟩
 have n1_ : Aside0 (Below w.heap.size w w13) := ⟨h1_⟩
 clear HB
 clear h0_ h1_
 have HO367 := n0_
 have HB := n1_
 clear n0_ n1_
 have hHeld := trivial
 refine norm_ (a' := ?_) ?_ ?_
 rotate_left
 ·simp only [putAll, Act.put, List.setIfInBounds_toArray, List.set_cons_zero, List.set_cons_succ]
  rfl
 refine pu_ 9 19 ?_
 refine pu_ 10 2 ?_
 refine dn_ ?_
 try go_wp2
 go_ret
 exact ⟨rT_, hB_⟩

/-! ### spec_l1Int: function 77 -/
theorem spec_l1Int.calls (k : Nat) (a0 : Int) (r : ByteArray) (w : World) (h : spec_l1Int.f k a0 = some r) :
 Calls Tryz.prog 77 #[.int .i64 a0] w fun e w' => e = .returned (.string r) ∧ Below w.heap.size w w' := by
 have HB := Aside0.mk (Below.refl w.heap.size w)
 have H : (if a0 < 0 then ((spec_l1Num.f k (wrap64 (-a0))).bind fun t368 => (if 1 + t368.size ≤ 9223372036854775807 then (some ((⟨#[45]⟩ : ByteArray) ++ t368)) else (none))) else ((spec_l1Num.f k a0).bind fun t369 => (some t369))) = some r := h
 clear h
 replace H := iF_ H; obtain ⟨c2b0, H⟩ | ⟨c2b0, H⟩ := H
 ·replace H := ob_ H; obtain ⟨t369, A6, H⟩ := H; try dsimp only at H
  obtain rfl := Option.some.inj H
  go_enter Tryz.func77, Tryz.ntmps77
  go_wp2_with (first | ((with_reducible refine gC_ 106 ?_); refine gM_ (some 10) Tryz.func106 #[.int .i64 a0] ?_; (with_reducible refine (spec_l1Num.calls k a0 t369 _ A6.out).mono ?_); rintro e w7 ⟨rfl, hb⟩; refine ⟨_, rfl, ?_⟩; replace HB := aM_ (below_step hB_ hb); (try clear hb)))
  go_ret
  exact ⟨rT_, hB_⟩
 replace H := ob_ H; obtain ⟨t368, A3, H⟩ := H; try dsimp only at H
 by_cases c4 : 1 + t368.size ≤ 9223372036854775807
 rotate_left
 ·rw [if_neg c4] at H
  exact absurd H (by simp)
 rw [if_pos c4] at H
 have c4b0 := eq_true c4
 have c4b1 : decide (1 + t368.size ≤ 9223372036854775807) = true := decide_eq_true c4
 try have c4b2 : (9223372036854775807 < 1 + t368.size) = False := eq_false (Nat.not_lt.2 c4)
 obtain rfl := Option.some.inj H
 go_enter Tryz.func77, Tryz.ntmps77
 go_wp2_with (first | ((with_reducible refine gC_ 106 ?_); refine gM_ (some 7) Tryz.func106 #[.int .i64 (wrap64 (-a0))] ?_; (with_reducible refine (spec_l1Num.calls k (wrap64 (-a0)) t368 _ A3.out).mono ?_); rintro e w5 ⟨rfl, hb⟩; refine ⟨_, rfl, ?_⟩; replace HB := aM_ (below_step hB_ hb); (try clear hb)))
 go_ret
 exact ⟨rT_, hB_⟩

/-! ### spec_loText: function 71 -/
def spec_loText.T5 : Bool × List (List Nat × List Nat) := (true, [([], []), ([], []), ([1], [1]), ([2], [2]), ([], []), ([4], [4]), ([5], [5]), ([3, 6], [3, 6]), ([7], [7]), ([0, 8], [0, 8]), ([9, 6, 0, 1, 2, 3, 4, 5, 6, 7, 8, 9], [0, 9])])
def spec_loText.B5 : List Nat := [0, 0, 2, 6, 0, 16, 48, 126, 254, 511, 1023]
theorem spec_loText.tab5 : rtab .any (opsOf Tryz.f71 5) = spec_loText.T5 := by kernel_rfl
theorem spec_loText.bits5 : waitsOk spec_loText.T5.2 spec_loText.B5 = true := by kernel_rfl
theorem spec_loText.calls (k : Nat) (A0 : Option Addr) (c0 : Nat) (l0 : List (S58)) (r : ByteArray) (w : World) (hr0 : Kd.C k58 w A0 l0.length l0) (hc0 : l0.length ≤ c0) (h : spec_loText.f k l0 = some r) :
 Calls Tryz.prog 71 #[.slice A0 l0.length c0] w fun e w' => e = .returned (.string r) ∧ Below w.heap.size w w' := by
 have hu58 := Tryz.underlying58
 have HR0 := Aside0.mk hr0
 have HC0 := Aside0.mk hc0
 clear hr0 hc0
 have HB := Aside0.mk (Below.refl w.heap.size w)
 have H : (spec_loText.l0 k (⟨#[]⟩ : ByteArray) l0 (l0.length : Int) 0) = some r := h
 clear h
 have H' := Aside0.mk H
 clear H
 go_enter Tryz.func71, Tryz.ntmps71
 go_wp2
 go_loopg [3, 8] k (fun kq v3 v8 w' => ∃ (x3_1 : ByteArray) (x8_1 : Int), v3 = .string x3_1 ∧ v8 = .int .i64 x8_1 ∧ Aside0 (spec_loText.l0 kq x3_1 l0 (l0.length : Int) x8_1 = some r) ∧ Aside0 (kq ≤ k) ∧ Aside0 (Below w.heap.size w w'))
 case atStart => exact ⟨((⟨#[]⟩ : ByteArray)), (0), z11_1_, z11_1_, H', ⟨Nat.le_refl _⟩, ⟨hB_⟩⟩
 case round =>
  clear H'
  obtain ⟨x3_1, x8_1, rfl, rfl, HA, HK1, HB⟩ := hrel
  cases gk with
  | zero => exact absurd HA.out (by simp [spec_loText.l0])
  | succ k1 =>
   have H := HA.out
   clear HA
   simp only [spec_loText.l0] at H
   replace H := iF_ H; obtain ⟨c2b0, H⟩ | ⟨c2b0, H⟩ := H
   ·obtain rfl := Option.some.inj H
    go_wp2
    go_ret
    exact ⟨rT_, hB_⟩
   replace H := ig_ H; obtain ⟨c3b0, H⟩ := H
   replace H := ig_ H; obtain ⟨c4b0, H⟩ := H
   by_cases c5 : ((rd_T58 l0 x8_1).f0).size + 1 ≤ 9223372036854775807
   rotate_left
   ·rw [if_neg c5] at H
    exact absurd H (by simp)
   rw [if_pos c5] at H
   have c5b0 := eq_true c5
   have c5b1 : decide (((rd_T58 l0 x8_1).f0).size + 1 ≤ 9223372036854775807) = true := decide_eq_true c5
   try have c5b2 : (9223372036854775807 < ((rd_T58 l0 x8_1).f0).size + 1) = False := eq_false (Nat.not_lt.2 c5)
   replace H := ob_ H; obtain ⟨t372, A6, H⟩ := H; try dsimp only at H
   by_cases c7 : (((rd_T58 l0 x8_1).f0) ++ (⟨#[64]⟩ : ByteArray)).size + t372.size ≤ 9223372036854775807
   rotate_left
   ·rw [if_neg c7] at H
    exact absurd H (by simp)
   rw [if_pos c7] at H
   have c7b0 := eq_true c7
   have c7b1 : decide ((((rd_T58 l0 x8_1).f0) ++ (⟨#[64]⟩ : ByteArray)).size + t372.size ≤ 9223372036854775807) = true := decide_eq_true c7
   try have c7b2 : (9223372036854775807 < (((rd_T58 l0 x8_1).f0) ++ (⟨#[64]⟩ : ByteArray)).size + t372.size) = False := eq_false (Nat.not_lt.2 c7)
   try (have c7b3 := c7b2; simp only [ByteArray.size_append', ByteArray.size_mk', List.size_toArray, List.length_cons, List.length_nil, Nat.zero_add, Nat.reduceAdd] at c7b3)
   by_cases c8 : ((((rd_T58 l0 x8_1).f0) ++ (⟨#[64]⟩ : ByteArray)) ++ t372).size + 1 ≤ 9223372036854775807
   rotate_left
   ·rw [if_neg c8] at H
    exact absurd H (by simp)
   rw [if_pos c8] at H
   have c8b0 := eq_true c8
   have c8b1 : decide (((((rd_T58 l0 x8_1).f0) ++ (⟨#[64]⟩ : ByteArray)) ++ t372).size + 1 ≤ 9223372036854775807) = true := decide_eq_true c8
   try have c8b2 : (9223372036854775807 < ((((rd_T58 l0 x8_1).f0) ++ (⟨#[64]⟩ : ByteArray)) ++ t372).size + 1) = False := eq_false (Nat.not_lt.2 c8)
   try (have c8b3 := c8b2; simp only [ByteArray.size_append', ByteArray.size_mk', List.size_toArray, List.length_cons, List.length_nil, Nat.zero_add, Nat.reduceAdd] at c8b3)
   by_cases c9 : x3_1.size + (((((rd_T58 l0 x8_1).f0) ++ (⟨#[64]⟩ : ByteArray)) ++ t372) ++ (⟨#[59]⟩ : ByteArray)).size ≤ 9223372036854775807
   rotate_left
   ·rw [if_neg c9] at H
    exact absurd H (by simp)
   rw [if_pos c9] at H
   have c9b0 := eq_true c9
   have c9b1 : decide (x3_1.size + (((((rd_T58 l0 x8_1).f0) ++ (⟨#[64]⟩ : ByteArray)) ++ t372) ++ (⟨#[59]⟩ : ByteArray)).size ≤ 9223372036854775807) = true := decide_eq_true c9
   try have c9b2 : (9223372036854775807 < x3_1.size + (((((rd_T58 l0 x8_1).f0) ++ (⟨#[64]⟩ : ByteArray)) ++ t372) ++ (⟨#[59]⟩ : ByteArray)).size) = False := eq_false (Nat.not_lt.2 c9)
   try (have c9b3 := c9b2; simp only [ByteArray.size_append', ByteArray.size_mk', List.size_toArray, List.length_cons, List.length_nil, Nat.zero_add, Nat.reduceAdd] at c9b3)
   have H' := Aside0.mk H
   clear H
   have p370 : 0 ≤ (x8_1 : Int) := ode_
   have q370 : x8_1 < (l0.length : Int) := ode_
   obtain ⟨ad370, e370, hx370_0, hx370_1⟩ := at_T58 HR0.out x8_1 p370 q370
   cases e370
   try replace hx370_0 := hc_ HB hx370_0
   try replace hx370_1 := hc_ HB hx370_1
   replace p370 := eq_true p370
   replace q370 := eq_true q370
   try go_wp2_with (first | ((with_reducible refine gate_dst (N := 5) rfl ?_); refine bx_ 5 #[.string (⟨#[]⟩ : ByteArray), .int .i64 0] 58 fun gb371 hg w10 hbox hb => ?_; have BK371 := aM_ (hbox); have GW371 := aM_ (gw_ w hg); have GE371 := aM_ (gw_ w hg); replace HB := aM_ (below_step hB_ hb); clear hb hbox hg; have hz11 := cf2_ BK371.out))
   have n0_ : Aside0 (((w10.setCell ⟨gb371, 0, none⟩ (.string ((rd_T58 l0 x8_1).f0))).setCell ⟨gb371, 1, none⟩ (.int .i64 ((rd_T58 l0 x8_1).f1))).heap[gb371]? = some (.cells #[.string ((rd_T58 l0 x8_1).f0), .int .i64 ((rd_T58 l0 x8_1).f1)] 58 (0, 0))) := ⟨by (with_reducible repeat (first | apply kN_ | apply kD_ | apply kA_)); refine blk_put (cs := #[.string ((rd_T58 l0 x8_1).f0), .int .i64 0]) ?_ 1 _ rfl; (with_reducible repeat (first | apply kN_ | apply kD_ | apply kA_)); refine blk_put (cs := #[.string (⟨#[]⟩ : ByteArray), .int .i64 0]) ?_ 0 _ rfl; (with_reducible repeat (first | apply kN_ | apply kD_ | apply kA_)); exact BK371.out⟩
   have n1_ : Aside0 (Below w.heap.size w ((w10.setCell ⟨gb371, 0, none⟩ (.string ((rd_T58 l0 x8_1).f0))).setCell ⟨gb371, 1, none⟩ (.int .i64 ((rd_T58 l0 x8_1).f1)))) := ⟨hB_⟩
   (try clear BK371)
   (try clear HB)
   repeat rw [sd_]
   generalize ((w10.setCell ⟨gb371, 0, none⟩ (.string ((rd_T58 l0 x8_1).f0))).setCell ⟨gb371, 1, none⟩ (.int .i64 ((rd_T58 l0 x8_1).f1))) = w12 at n0_ n1_ ⊢
   have BK371 := n0_
   have HB := n1_
   clear n0_ n1_
   replace BK371 := aM_ (blk_drew BK371.out)
   replace HB := aM_ (below_drew1 HB.out)
   refine st_ 11 (fun w' => w'.cell? ⟨gb371, 0, none⟩ = some (.string ((rd_T58 l0 x8_1).f0)) ∧ w'.cell? ⟨gb371, 1, none⟩ = some (.int .i64 ((rd_T58 l0 x8_1).f1))) [] spec_loText.tab5 spec_loText.bits5 ⟨(blk_cell BK371.out 0).trans rfl, (blk_cell BK371.out 1).trans rfl⟩ fun hHeld HT_ HW_ => ?_
   generalize w12.drew = w13 at BK371 HB hHeld ⊢
   refine pu_ 0 12 ?_
   refine pu_ 1 13 ?_
   refine pu_ 4 16 ?_
   refine tk_ 2 14 ?_
   refine pu_ 3 15 ?_
   refine tk_ 5 17 ?_
   refine on_ 6 18 fun K hK => ?_
   refine gS_ Tryz.func77 #[.int .i64 ((rd_T58 l0 x8_1).f1)] ?_
   with_reducible refine (spec_l1Int.calls k1 ((rd_T58 l0 x8_1).f1) t372 _ A6.out).mono ?_
   rintro e w14 ⟨rfl, hb⟩
   refine ⟨_, rfl, ?_⟩
   replace BK371 := aM_ (blk_below (g := gb371) (kR_ BK371) hb)
   replace HB := aM_ (below_step hB_ hb)
   (try clear hb)
   (try clear hb2)
   (try clear hk)
   (try clear hi)
   refine hK.out _ _ ⟨(blk_cell BK371.out 0).trans rfl, (blk_cell BK371.out 1).trans rfl⟩ (fun hHeld => ?_)
   clear hK K
   refine nm_ 18 ?_
   refine pu_ 7 19 ?_
   refine pu_ 8 20 ?_
   refine pu_ 9 21 ?_
   refine pu_ 10 3 ?_
   refine dn_ ?_
   try go_wp2
   go_roundg k1
   case measure => have := HK1.out; omega
   case rel => exact ⟨(x3_1 ++ (((((rd_T58 l0 x8_1).f0) ++ (⟨#[64]⟩ : ByteArray)) ++ t372) ++ (⟨#[59]⟩ : ByteArray))), (wrap64 (x8_1 + 1)), z11_1_, z11_1_, H', ⟨by have := HK1.out; omega⟩, ⟨hB_⟩⟩

/-! ### spec_LociText: function 30 -/
theorem spec_LociText.calls (k : Nat) (A0 : Option Addr) (c0 : Nat) (l0 : List (S58)) (r1 : ByteArray) (r2 : Bool) (w : World) (hr0 : Kd.C k58 w A0 l0.length l0) (hc0 : l0.length ≤ c0) (h : spec_LociText.f k l0 = some (r1, r2)) :
 Calls Tryz.prog 30 #[.slice A0 l0.length c0] w fun e w' => e = .returned (.tuple #[.string r1, .bool r2]) ∧ Below w.heap.size w w' := by
 have HR0 := Aside0.mk hr0
 have HC0 := Aside0.mk hc0
 clear hr0 hc0
 have HB := Aside0.mk (Below.refl w.heap.size w)
 have H : ((spec_loGood.f k l0).bind fun t373 => (if t373 = true then ((spec_loText.f k l0).bind fun t374 => (some (t374, true))) else (some ((⟨#[]⟩ : ByteArray), false)))) = some (r1, r2) := h
 clear h
 replace H := ob_ H; obtain ⟨t373, A2, H⟩ := H; try dsimp only at H
 have HC3 := Aside0.mk H
 clear H
 go_enter Tryz.func30, Tryz.ntmps30
 go_upto_if 6 with (first | ((with_reducible refine gC_ 50 ?_); refine gM_ (some 5) Tryz.func50 #[.slice A0 l0.length c0] ?_; (with_reducible refine (spec_loGood.calls k _ _ l0 t373 _ ?side1 ?side2 A2.out).mono ?_); (case side1 => exact cC_ HR0); (case side2 => exact HC0.out); rintro e w4 ⟨rfl, hb⟩; refine ⟨_, rfl, ?_⟩; replace HB := aM_ (below_step hB_ hb); (try clear hb)))
 (try simp only [Act.put, List.setIfInBounds_toArray, List.set_cons_zero, List.set_cons_succ])
 have H := HC3.out
 clear HC3
 by_cases c5 : t373 = true
 rotate_left
 ·replace c5 := Bool.eq_false_iff.mpr c5
  subst c5
  replace H := in_ H (show ¬ (false = true) by decide)
  simp only [Option.some.injEq, Prod.mk.injEq] at H
  obtain ⟨rfl, rfl⟩ := H
  go_wp2
  go_ret2
  exact ⟨rT_, hB_⟩
 subst c5
 replace H := ip_ H rfl
 replace H := ob_ H; obtain ⟨t374, A6, H⟩ := H; try dsimp only at H
 simp only [Option.some.injEq, Prod.mk.injEq] at H
 obtain ⟨rfl, rfl⟩ := H
 go_wp2_with (first | ((with_reducible refine gC_ 71 ?_); refine gM_ (some 8) Tryz.func71 #[.slice A0 l0.length c0] ?_; (with_reducible refine (spec_loText.calls k _ _ l0 t374 _ ?side1 ?side2 A6.out).mono ?_); (case side1 => exact (by repeat (first | exact (Kd.C_below HR0.out HB.out) | (with_reducible first | apply cA_ | apply cN_ | apply cD_)))); (case side2 => exact HC0.out); rintro e w7 ⟨rfl, hb⟩; refine ⟨_, rfl, ?_⟩; replace HB := aM_ (below_step hB_ hb); (try clear hb)))
 go_ret2
 exact ⟨rT_, hB_⟩

/-! ### laws_sameInts: function 31 -/
theorem laws_sameInts.calls (k : Nat) (A0 : Option Addr) (c0 : Nat) (l0 : List Int) (A1 : Option Addr) (c1 : Nat) (l1 : List Int) (r : Bool) (w : World) (hr0 : Kd.C (Kd.int .i64) w A0 l0.length l0) (hc0 : l0.length ≤ c0) (hr1 : Kd.C (Kd.int .i64) w A1 l1.length l1) (hc1 : l1.length ≤ c1) (h : laws_sameInts.f k l0 l1 = some r) :
 Calls Tryz.prog 31 #[.slice A0 l0.length c0, .slice A1 l1.length c1] w fun e w' => e = .returned (.bool r) ∧ Drawn0 w w' := by
 have HR0 := Aside0.mk hr0
 have HC0 := Aside0.mk hc0
 clear hr0 hc0
 have HR1 := Aside0.mk hr1
 have HC1 := Aside0.mk hc1
 clear hr1 hc1
 have H : (if (l0.length : Int) = (l1.length : Int) then (laws_sameInts.l0 k l0 l1 (l0.length : Int) 0) else (some false)) = some r := h
 clear h
 by_cases c3 : (l0.length : Int) = (l1.length : Int)
 rotate_left
 ·rw [if_neg c3] at H
  have c3b0 : ((l0.length : Int) == (l1.length : Int)) = false := beq_eq_false_iff_ne.mpr c3
  have c3b1 : ((l0.length : Int) != (l1.length : Int)) = true := bne_iff_ne.mpr c3
  have c3b2 : (l0.length == l1.length) = false := by first | simpa using c3 | (simp at c3 ⊢; omega)
  obtain rfl := Option.some.inj H
  go_enter Tryz.func31, Tryz.ntmps31
  go_wp2
  repeat (go_quiet (fail); try go_wp2)
  go_ret
  exact ⟨z11_1_, z11_2_⟩
 rw [if_pos c3] at H
 have c3b0 : ((l0.length : Int) == (l1.length : Int)) = true := beq_iff_eq.mpr c3
 have c3b1 : ((l0.length : Int) != (l1.length : Int)) = false := bne_eq_false_iff_eq.mpr c3
 have c3b2 : (l0.length == l1.length) = true := by first | simpa using c3 | (simp at c3 ⊢; omega)
 clear c3
 have H' := Aside0.mk H
 clear H
 go_enter Tryz.func31, Tryz.ntmps31
 go_wp2
 repeat (go_quiet (fail); try go_wp2)
 go_loopg [13] k (fun kq v13 w' => ∃ (x13_1 : Int), v13 = .int .i64 x13_1 ∧ Aside0 (laws_sameInts.l0 kq l0 l1 (l0.length : Int) x13_1 = some r) ∧ Aside0 (kq ≤ k) ∧ Drawn0 w w')
 case atStart => exact ⟨(0), z11_1_, H', ⟨Nat.le_refl _⟩, z11_2_⟩
 case round =>
  clear H'
  (try clear c1);(try clear c3);(try clear c3b0);(try clear c3b1);(try clear c3b2)
  obtain ⟨x13_1, rfl, HA, HK1, ⟨m1, rfl⟩⟩ := hrel
  cases gk with
  | zero => exact absurd HA.out (by simp [laws_sameInts.l0])
  | succ k1 =>
   have H := HA.out
   clear HA
   simp only [laws_sameInts.l0] at H
   replace H := iF_ H; obtain ⟨c4b0, H⟩ | ⟨c4b0, H⟩ := H
   ·obtain rfl := Option.some.inj H
    go_wp2
    repeat (go_quiet (fail); try go_wp2)
    go_ret
    exact ⟨z11_1_, z11_2_⟩
   replace H := ig_ H; obtain ⟨c5b0, H⟩ := H
   replace H := ig_ H; obtain ⟨c6b0, H⟩ := H
   replace H := ig_ H; obtain ⟨c7b0, H⟩ := H
   by_cases c8 : (rd l0 x13_1) = (rd l1 x13_1)
   rotate_left
   ·rw [if_neg c8] at H
    have c8b0 : ((rd l0 x13_1) == (rd l1 x13_1)) = false := beq_eq_false_iff_ne.mpr c8
    have c8b1 : ((rd l0 x13_1) != (rd l1 x13_1)) = true := bne_iff_ne.mpr c8
    obtain rfl := Option.some.inj H
    obtain ⟨⟨ad375, e375, hx375_0⟩, p375, q375⟩ := at2_ (Kd.at_int HR0.out x13_1); cases e375
    obtain ⟨⟨ad376, e376, hx376_0⟩, p376, q376⟩ := at2_ (Kd.at_int HR1.out x13_1); cases e376
    go_wp2
    repeat (go_quiet (fail); try go_wp2)
    go_ret
    exact ⟨z11_1_, z11_2_⟩
   rw [if_pos c8] at H
   have c8b0 : ((rd l0 x13_1) == (rd l1 x13_1)) = true := beq_iff_eq.mpr c8
   have c8b1 : ((rd l0 x13_1) != (rd l1 x13_1)) = false := bne_eq_false_iff_eq.mpr c8
   clear c8
   have H' := Aside0.mk H
   clear H
   obtain ⟨⟨ad375, e375, hx375_0⟩, p375, q375⟩ := at2_ (Kd.at_int HR0.out x13_1); cases e375
   obtain ⟨⟨ad376, e376, hx376_0⟩, p376, q376⟩ := at2_ (Kd.at_int HR1.out x13_1); cases e376
   go_wp2
   repeat (go_quiet (fail); try go_wp2)
   go_roundg k1
   case measure => have := HK1.out; omega
   case rel => exact ⟨(wrap64 (x13_1 + 1)), z11_1_, H', ⟨by have := HK1.out; omega⟩, z11_2_⟩

/-! ### laws_pSameLoci: function 32 -/
theorem laws_pSameLoci.calls (k : Nat) (A0 : Option Addr) (c0 : Nat) (l0 : List (S58)) (A1 : Option Addr) (c1 : Nat) (l1 : List (S58)) (r : Bool) (w : World) (hr0 : Kd.C k58 w A0 l0.length l0) (hc0 : l0.length ≤ c0) (hr1 : Kd.C k58 w A1 l1.length l1) (hc1 : l1.length ≤ c1) (h : laws_pSameLoci.f k l0 l1 = some r) :
 Calls Tryz.prog 32 #[.slice A0 l0.length c0, .slice A1 l1.length c1] w fun e w' => e = .returned (.bool r) ∧ Drawn0 w w' := by
 have hu58 := Tryz.underlying58
 have HR0 := Aside0.mk hr0
 have HC0 := Aside0.mk hc0
 clear hr0 hc0
 have HR1 := Aside0.mk hr1
 have HC1 := Aside0.mk hc1
 clear hr1 hc1
 have H : (if (l0.length : Int) = (l1.length : Int) then (laws_pSameLoci.l0 k l0 l1 (l0.length : Int) 0) else (some false)) = some r := h
 clear h
 by_cases c3 : (l0.length : Int) = (l1.length : Int)
 rotate_left
 ·rw [if_neg c3] at H
  have c3b0 : ((l0.length : Int) == (l1.length : Int)) = false := beq_eq_false_iff_ne.mpr c3
  have c3b1 : ((l0.length : Int) != (l1.length : Int)) = true := bne_iff_ne.mpr c3
  have c3b2 : (l0.length == l1.length) = false := by first | simpa using c3 | (simp at c3 ⊢; omega)
  obtain rfl := Option.some.inj H
  go_enter Tryz.func32, Tryz.ntmps32
  go_wp2
  repeat (go_quiet (fail); try go_wp2)
  go_ret
  exact ⟨z11_1_, z11_2_⟩
 rw [if_pos c3] at H
 have c3b0 : ((l0.length : Int) == (l1.length : Int)) = true := beq_iff_eq.mpr c3
 have c3b1 : ((l0.length : Int) != (l1.length : Int)) = false := bne_eq_false_iff_eq.mpr c3
 have c3b2 : (l0.length == l1.length) = true := by first | simpa using c3 | (simp at c3 ⊢; omega)
 clear c3
 have H' := Aside0.mk H
 clear H
 go_enter Tryz.func32, Tryz.ntmps32
 go_wp2
 repeat (go_quiet (fail); try go_wp2)
 go_loopg [13] k (fun kq v13 w' => ∃ (x13_1 : Int), v13 = .int .i64 x13_1 ∧ Aside0 (laws_pSameLoci.l0 kq l0 l1 (l0.length : Int) x13_1 = some r) ∧ Aside0 (kq ≤ k) ∧ Drawn0 w w')
 case atStart => exact ⟨(0), z11_1_, H', ⟨Nat.le_refl _⟩, z11_2_⟩
 case round =>
  clear H'
  (try clear c1);(try clear c3);(try clear c3b0);(try clear c3b1);(try clear c3b2)
  obtain ⟨x13_1, rfl, HA, HK1, ⟨m1, rfl⟩⟩ := hrel
  cases gk with
  | zero => exact absurd HA.out (by simp [laws_pSameLoci.l0])
  | succ k1 =>
   have H := HA.out
   clear HA
   simp only [laws_pSameLoci.l0] at H
   replace H := iF_ H; obtain ⟨c4b0, H⟩ | ⟨c4b0, H⟩ := H
   ·obtain rfl := Option.some.inj H
    go_wp2
    repeat (go_quiet (fail); try go_wp2)
    go_ret
    exact ⟨z11_1_, z11_2_⟩
   replace H := ig_ H; obtain ⟨c5b0, H⟩ := H
   replace H := ig_ H; obtain ⟨c6b0, H⟩ := H
   replace H := ig_ H; obtain ⟨c7b0, H⟩ := H
   by_cases c8 : (!((((rd_T58 l0 x13_1).f0).toList) == (((rd_T58 l1 x13_1).f0).toList)) || (!(((rd_T58 l0 x13_1).f1) == ((rd_T58 l1 x13_1).f1)))) = true
   ·rw [if_pos c8] at H
    have c8b0 : (!((((rd_T58 l0 x13_1).f0).toList) == (((rd_T58 l1 x13_1).f0).toList)) || (!(((rd_T58 l0 x13_1).f1) == ((rd_T58 l1 x13_1).f1)))) = true := c8
    clear c8
    obtain rfl := Option.some.inj H
    obtain ⟨⟨ad377, e377, hx377_0, hx377_1⟩, p377, q377⟩ := at2_ (at_T58 HR0.out x13_1); cases e377
    obtain ⟨⟨ad378, e378, hx378_0, hx378_1⟩, p378, q378⟩ := at2_ (at_T58 HR1.out x13_1); cases e378
    go_wp2
    repeat (go_quiet (fail); try go_wp2)
    go_ret
    exact ⟨z11_1_, z11_2_⟩
   rw [if_neg c8] at H
   have c8b0 : (!((((rd_T58 l0 x13_1).f0).toList) == (((rd_T58 l1 x13_1).f0).toList)) || (!(((rd_T58 l0 x13_1).f1) == ((rd_T58 l1 x13_1).f1)))) = false := by simpa using c8
   clear c8
   have H' := Aside0.mk H
   clear H
   obtain ⟨⟨ad377, e377, hx377_0, hx377_1⟩, p377, q377⟩ := at2_ (at_T58 HR0.out x13_1); cases e377
   obtain ⟨⟨ad378, e378, hx378_0, hx378_1⟩, p378, q378⟩ := at2_ (at_T58 HR1.out x13_1); cases e378
   go_wp2
   repeat (go_quiet (fail); try go_wp2)
   go_roundg k1
   case measure => have := HK1.out; omega
   case rel => exact ⟨(wrap64 (x13_1 + 1)), z11_1_, H', ⟨by have := HK1.out; omega⟩, z11_2_⟩

end Go.Proofs.YtfkdlfbjkdkffaaGreatDoor.PFnPoints
