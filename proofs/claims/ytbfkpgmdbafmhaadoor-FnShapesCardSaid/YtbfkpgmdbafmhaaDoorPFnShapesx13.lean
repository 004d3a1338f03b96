/- Printed for this claim: functions of the program as Lean functions, and that the calls answer so. -/
import Derived.Test.YtbfkpgmdbafmhaaDoorPFnShapesx0
import Derived.Test.YtbfkpgmdbafmhaaDoorPFnShapesx2
import Derived.Test.YtbfkpgmdbafmhaaDoorPFnShapesx3
import Derived.Test.YtbfkpgmdbafmhaaDoorPFnShapesxD0
import Derived.Test.YtbfkpgmdbafmhaaDoorPFnShapesxD1
namespace Go.Proofs.YtbfkpgmdbafmhaaDoor.PFnShapes
open Go.RowKit Go.Proofs.YtbfkpgmdbafmhaaDoorW.PrintWords Go.Proofs.YtbfkpgmdbafmhaaDoorW.PrintLast Go.Proofs.YtbfkpgmdbafmhaaDoorW.PrintMore
theorem z13_0_ {p : Prop} (h : p := by simp only [putAll, Act.put, List.setIfInBounds_toArray, List.set_cons_zero, List.set_cons_succ]) : p := h
theorem z13_1_ {p : Prop} (h : p := by first | rfl | (simp; done) | (simp [*]; done)) : p := h
theorem z13_2_ {p : Prop} (h : p := by repeat (first | (with_reducible first | exact HI0.out | apply IsS59.alloc | apply IsS59.drewN | apply IsS59.drew | apply IsS59.set_1 | apply IsS59.set_2) | exact HI0.out)) : p := h
theorem z13_3_ {p : Prop} (h : p := by repeat (first | (with_reducible first | exact HB.out | apply lA_ | apply lN_ | apply lD_ | refine below_set ?_ (IsS59.ge HI0.out)) | exact HB.out)) : p := h
theorem z13_4_ {p : Prop} (h : p := by repeat (first | (with_reducible first | exact HK.out | apply KeepBut.set_ | apply keep_drewN | apply keep_drew | apply keep_alloc) | exact HK.out)) : p := h
theorem z13_5_ {p : Prop} (h : p := by have := HK1.out; have := HJ5.out; omega) : p := h
set_option maxHeartbeats 8000000
set_option maxRecDepth 100000
attribute [local go_sem] max2_int min2_int max_two min_two max_three min_three max_four min_four isSome_setCell   -- for this text's walks alone
set_option linter.unusedVariables false
set_option linter.unusedSimpArgs false

/-! ### spec_l1Num: function 52 -/
def spec_l1Num.T3 : Bool × List (List Nat × List Nat) := (true, [([], []), ([0], [0]), ([1], [1]), ([], []), ([3], [3]), ([4], [4]), ([5], [5]), ([6], [6]), ([7], [7]), ([2, 8], [2, 8]), ([9, 2, 0, 1, 2, 3, 4, 5, 6, 7, 8, 9], [9])])
def spec_l1Num.B3 : List Nat := [0, 1, 3, 0, 8, 24, 56, 120, 248, 511, 1023]
theorem spec_l1Num.tab3 : rtab .any (opsOf Tryd.f52 3) = spec_l1Num.T3 := by kernel_rfl
theorem spec_l1Num.bits3 : waitsOk spec_l1Num.T3.2 spec_l1Num.B3 = true := by kernel_rfl
theorem spec_l1Num.calls (k : Nat) : ∀ (a0 : Int) (r : ByteArray) (w : World) (h : spec_l1Num.f k a0 = some r),
 Calls Tryd.prog 52 #[.int .i64 a0] w fun e w' => e = .returned (.string r) ∧ Below w.heap.size w w' := by
 induction k using Nat.strongRecOn with
 | _ k ih =>
 intro a0 r w h
 cases k with
 | zero => exact absurd h (by simp [spec_l1Num.f])
 | succ k =>
 simp only [spec_l1Num.f] at h
 have HB := Aside0.mk (Below.refl w.heap.size w)
 have H : (if a0 < 10 then (some (strOfNums (([(wrap64 (48 + a0)) % 256] : List Int)))) else ((spec_l1Num.f k (wrap64 (Int.tdiv a0 10))).bind fun t531 => ((some (([(wrap64 (48 + (Int.tmod a0 10))) % 256] : List Int) : List Int)).bind fun y532 => (if t531.size + (strOfNums y532).size ≤ 9223372036854775807 then (some (t531 ++ (strOfNums y532))) else (none))))) = some r := h
 clear h
 replace H := iT_ H; obtain ⟨c2b0, H⟩ | ⟨c2b0, H⟩ := H
 ·obtain ⟨y528, hy528⟩ : ∃ y_ : List Int, y_ = (([(wrap64 (48 + a0)) % 256] : List Int)) := ⟨_, rfl⟩
  rw [← hy528] at H
  have Ny528 := Aside0.mk hy528; clear hy528
  obtain rfl := Option.some.inj H
  go_enter Tryd.func52, Tryd.ntmps52
  go_wp2_with (first | ((with_reducible refine gate_dst (N := 8) rfl ?_); refine rl_ (Kd.int .u8) 5 8 ([(wrap64 (48 + a0)) % 256] : List Int) [.int .u8 ((wrap64 (48 + a0)) % 256)] (Reps.one (show Kd.M (Kd.int .u8) _ _ _ ((wrap64 (48 + a0)) % 256) [.int .u8 ((wrap64 (48 + a0)) % 256)] from rfl) (Reps.none _ _)) ?_; intro v529 w3 ho4 hb hg_ hnew_; clear hg_ hnew_; (first | rw [← Ny528.out] at ho4 | (simp only [Int.reduceToNat] at ho4; rw [← Ny528.out] at ho4)); have HO530 := aM_ (Kd.R_lower ho4 (below_size hB_)); replace HB := aM_ (below_step hB_ hb); clear hb ho4; have hcv5 := own_string (P := Tryd.prog) Tryd.underlying22 Tryd.underlying5 Tryd.underlying9 (Kd.own_of_R HO530.out)))
  go_ret
  exact ⟨rT_, hB_⟩
 replace H := ob_ H; obtain ⟨t531, A6, H⟩ := H; try dsimp only at H
 replace H := bs_ H; obtain ⟨y532, Ny532, H⟩ := H; try dsimp only at H
 by_cases c7 : t531.size + (strOfNums y532).size ≤ 9223372036854775807
 rotate_left
 ·rw [if_neg c7] at H
  exact absurd H (by simp)
 rw [if_pos c7] at H
 have c7b0 := eq_true c7
 have c7b1 : decide (t531.size + (strOfNums y532).size ≤ 9223372036854775807) = true := decide_eq_true c7
 try have c7b2 : (9223372036854775807 < t531.size + (strOfNums y532).size) = False := eq_false (Nat.not_lt.2 c7)
 obtain rfl := Option.some.inj H
 go_enter Tryd.func52, Tryd.ntmps52
 try go_wp2
 replace HB := aM_ (below_drew1 HB.out)
 refine st_ 11 (fun w' => True) [] spec_l1Num.tab3 spec_l1Num.bits3 trivial fun hHeld HT_ HW_ => ?_
 generalize w.drew = w8 at HB hHeld ⊢
 refine pu_ 0 10 ?_
 refine pu_ 1 11 ?_
 refine pu_ 3 13 ?_
 refine pu_ 4 14 ?_
 refine pu_ 5 15 ?_
 refine pu_ 6 16 ?_
 refine join_ (σ := Value) 2 (bz_ 11 0x1ff) (fun s_ => [(12, .string t531), (17, s_), (18, .string (strOfNums y532))]) (fun s_ w' => (Kd.R (Kd.int .u8) 5 w' w.heap.size (fun _ => True) s_ y532) ∧ (Below w.heap.size w w')) ?_ ?_
 rotate_left
 ·intro hCont
  refine two_ (i := 2) (j := 7) (Ni := some 12) (Nj := some 17) (bz_ 11 0x7f) (bz_ 11 0xfb) rfl rfl rfl rfl (two_of HT_.out (by kernel_rfl)) (by decide) (by decide) (fun K hK => ?_) (fun K hK => ?_)
  ·skip
   refine gS_ Tryd.func52 #[.int .i64 (wrap64 (Int.tdiv a0 10))] ?_
   with_reducible refine (ih k (by omega) (wrap64 (Int.tdiv a0 10)) t531 _ A6.out).mono ?_
   rintro e w9 ⟨rfl, hb⟩
   refine ⟨_, rfl, ?_⟩
   replace HB := aM_ (below_step hB_ hb)
   (try clear hb)
   (try clear hb2)
   (try clear hk)
   (try clear hi)
   refine hK.out _ _ trivial (fun hHeld => ?_)
   clear hK K
   refine nm_ 12 ?_
   refine on_ 7 17 fun K hK => ?_
   refine Kd.R_lit_step (Kd.int .u8) _ 5 ?hg (N := 17) ?hd (xs := ([(wrap64 (48 + (Int.tmod a0 10))) % 256] : List Int)) (inner := [.int .u8 ((wrap64 (48 + (Int.tmod a0 10))) % 256)]) (ok := fun _ => True) (okp := fun _ => True) ?hr ?hp (fun _ hk => hk) trivial (Below.refl _ _) (Nat.le_refl _) (by simp) ?_; (case hd => rfl); (case hg => rfl); (case hr => first | (go_simp; done) | (go_simp; rfl)); (case hp => exact (Reps.one (show Kd.M (Kd.int .u8) _ _ _ ((wrap64 (48 + (Int.tmod a0 10))) % 256) [.int .u8 ((wrap64 (48 + (Int.tmod a0 10))) % 256)] from rfl) (Reps.none _ _)))
   intro v533 w10 ho11 hb hg_ hnew_
   clear hg_ hnew_
   (first | rw [← Ny532.out] at ho11 | (simp only [Int.reduceToNat] at ho11; rw [← Ny532.out] at ho11))
   have HO534 := aM_ (Kd.R_lower ho11 (below_size hB_))
   replace HB := aM_ (below_step hB_ hb)
   clear hb ho11
   refine hK.out _ _ trivial (fun hHeld => ?_)
   clear hK K
   refine nm_ 17 ?_
   refine on_ 8 18 fun K hK => ?_
   have hcv12 := own_string (P := Tryd.prog) Tryd.underlying22 Tryd.underlying5 Tryd.underlying9 (Kd.own_of_R HO534.out)
   refine value_ (w1 := ?_) (v := ?_) (by rfl) rfl ?_ ?_
   rotate_left 2
   ·go_simp
    constructor
    ·rfl
    ·rfl
   clear hcv12
   refine hK.out _ _ trivial (fun hHeld => ?_)
   clear hK K
   refine nm_ 18 ?_
   exact norm_ z13_0_ (hCont (v533) _ ⟨(rR_ HO534), hB_⟩)
  ·skip
   refine Kd.R_lit_step (Kd.int .u8) _ 5 ?hg (N := 17) ?hd (xs := ([(wrap64 (48 + (Int.tmod a0 10))) % 256] : List Int)) (inner := [.int .u8 ((wrap64 (48 + (Int.tmod a0 10))) % 256)]) (ok := fun _ => True) (okp := fun _ => True) ?hr ?hp (fun _ hk => hk) trivial (Below.refl _ _) (Nat.le_refl _) (by simp) ?_; (case hd => rfl); (case hg => rfl); (case hr => first | (go_simp; done) | (go_simp; rfl)); (case hp => exact (Reps.one (show Kd.M (Kd.int .u8) _ _ _ ((wrap64 (48 + (Int.tmod a0 10))) % 256) [.int .u8 ((wrap64 (48 + (Int.tmod a0 10))) % 256)] from rfl) (Reps.none _ _)))
   intro v533 w9 ho10 hb hg_ hnew_
   clear hg_ hnew_
   (first | rw [← Ny532.out] at ho10 | (simp only [Int.reduceToNat] at ho10; rw [← Ny532.out] at ho10))
   have HO534 := aM_ (Kd.R_lower ho10 (below_size hB_))
   replace HB := aM_ (below_step hB_ hb)
   clear hb ho10
   refine hK.out _ _ trivial (fun hHeld => ?_)
   clear hK K
   refine nm_ 17 ?_
   refine two_ (i := 2) (j := 8) (Ni := some 12) (Nj := some 18) (bz_ 11 0xff) (bz_ 11 0x1fb) rfl rfl rfl rfl (two_of HT_.out (by kernel_rfl)) (by decide) (by decide) (fun K hK => ?_) (fun K hK => ?_)
   ·skip
    refine gS_ Tryd.func52 #[.int .i64 (wrap64 (Int.tdiv a0 10))] ?_
    with_reducible refine (ih k (by omega) (wrap64 (Int.tdiv a0 10)) t531 _ A6.out).mono ?_
    rintro e w11 ⟨rfl, hb⟩
    refine ⟨_, rfl, ?_⟩
    replace HO534 := aM_ (Kd.R_below (rR_ HO534) hb)
    replace HB := aM_ (below_step hB_ hb)
    (try clear hb)
    (try clear hb2)
    (try clear hk)
    (try clear hi)
    refine hK.out _ _ trivial (fun hHeld => ?_)
    clear hK K
    refine nm_ 12 ?_
    refine on_ 8 18 fun K hK => ?_
    have hcv12 := own_string (P := Tryd.prog) Tryd.underlying22 Tryd.underlying5 Tryd.underlying9 (Kd.own_of_R HO534.out)
    refine value_ (w1 := ?_) (v := ?_) (by rfl) rfl ?_ ?_
    rotate_left 2
    ·go_simp
     constructor
     ·rfl
     ·rfl
    clear hcv12
    refine hK.out _ _ trivial (fun hHeld => ?_)
    clear hK K
    refine nm_ 18 ?_
    exact norm_ z13_0_ (hCont (v533) _ ⟨(rR_ HO534), hB_⟩)
   ·skip
    have hcv11 := own_string (P := Tryd.prog) Tryd.underlying22 Tryd.underlying5 Tryd.underlying9 (Kd.own_of_R HO534.out)
    refine value_ (w1 := ?_) (v := ?_) (by rfl) rfl ?_ ?_
    rotate_left 2
    ·go_simp
     constructor
     ·rfl
     ·rfl
    clear hcv11
    refine hK.out _ _ trivial (fun hHeld => ?_)
    clear hK K
    refine nm_ 18 ?_
    refine on_ 2 12 fun K hK => ?_
    refine gS_ Tryd.func52 #[.int .i64 (wrap64 (Int.tdiv a0 10))] ?_
    with_reducible refine (ih k (by omega) (wrap64 (Int.tdiv a0 10)) t531 _ A6.out).mono ?_
    rintro e w12 ⟨rfl, hb⟩
    refine ⟨_, rfl, ?_⟩
    replace HO534 := aM_ (Kd.R_below (rR_ HO534) hb)
    replace HB := aM_ (below_step hB_ hb)
    (try clear hb)
    (try clear hb2)
    (try clear hk)
    (try clear hi)
    refine hK.out _ _ trivial (fun hHeld => ?_)
    clear hK K
    refine nm_ 12 ?_
    exact norm_ z13_0_ (hCont (v533) _ ⟨(rR_ HO534), hB_⟩)
 rintro v533 w13 ⟨h0_, h1_⟩
 have n0_ : Aside0 (Kd.R (Kd.int .u8) 5 w13 w.heap.size (fun _ => True) v533 y532) := ⟨h0_⟩
 have n1_ : Aside0 (Below w.heap.size w w13) := ⟨h1_⟩
 clear HB
 clear h0_ h1_
 have HO534 := n0_
 have HB := n1_
 clear n0_ n1_
 have hHeld := trivial
 refine norm_ (a' := ?_) ?_ ?_
 rotate_left
 ·simp only [putAll, Act.put, List.setIfInBounds_toArray, List.set_cons_zero, List.set_cons_succ]
  rfl
 refine pu_ 9 19 ?_
 refine pu_ 10 2 ?_
 refine dn_ ?_
 try go_wp2
 go_ret
 exact ⟨rT_, hB_⟩

/-! ### spec_shText: function 35 -/
theorem spec_shText.calls (k : Nat) (a0_0 : Int) (a0_1 : Int) (a0_2 : Int) (a0_3 : Int) (a0_4 : Int) (a0_5 : Bool) (r : ByteArray) (w : World) (h : spec_shText.f k a0_0 a0_1 a0_2 a0_3 a0_4 a0_5 = some r) :
 Calls Tryd.prog 35 #[.agg #[.int .i64 a0_0, .int .i64 a0_1, .int .i64 a0_2, .int .i64 a0_3, .int .i64 a0_4, .bool a0_5]] w fun e w' => e = .returned (.string r) ∧ Below w.heap.size w w' := by
 have hu25 := Tryd.underlying25
 have HB := Aside0.mk (Below.refl w.heap.size w)
 have H : ((spec_l1Num.f k a0_0).bind fun t536 => ((spec_shFingers.f a0_0 a0_1 a0_2 a0_3 a0_4 a0_5).bind fun t537 => (spec_shText.l0 k t536 t537 (t537.length : Int) 0 a0_0 a0_1 a0_2 a0_3 a0_4 a0_5))) = some r := h
 clear h
 replace H := ob_ H; obtain ⟨t536, A2, H⟩ := H; try dsimp only at H
 replace H := ob_ H; obtain ⟨t537, A3, H⟩ := H; try dsimp only at H
 have H' := Aside0.mk H
 clear H
 go_enter Tryd.func35, Tryd.ntmps35
 go_wp2_with (first | ((with_reducible refine gate_dst (N := 1) rfl ?_); refine bx_ 1 #[.int .i64 a0_0, .int .i64 a0_1, .int .i64 a0_2, .int .i64 a0_3, .int .i64 a0_4, .bool a0_5] 25 fun gb535 hg w4 hbox hb => ?_; have BK535 := aM_ (hbox); have GW535 := aM_ (gw_ w hg); have GE535 := aM_ (gw_ w hg); replace HB := aM_ (below_step hB_ hb); clear hb hbox hg; have hz5 := cf6_ BK535.out) | ((with_reducible refine gC_ 52 ?_); refine gM_ (some 8) Tryd.func52 #[.int .i64 a0_0] ?_; (with_reducible refine (spec_l1Num.calls k a0_0 t536 _ A2.out).mono ?_); rintro e w6 ⟨rfl, hb⟩; refine ⟨_, rfl, ?_⟩; replace BK535 := aM_ (blk_below (g := gb535) (kR_ BK535) hb); replace HB := aM_ (below_step hB_ hb); (try clear hb); have hz7 := cf6_ BK535.out) | ((with_reducible refine gC_ 25 ?_); refine gM_ (some 10) Tryd.func25 #[.agg #[.int .i64 a0_0, .int .i64 a0_1, .int .i64 a0_2, .int .i64 a0_3, .int .i64 a0_4, .bool a0_5]] ?_; (with_reducible refine (spec_shFingers.calls a0_0 a0_1 a0_2 a0_3 a0_4 a0_5 t537 _ A3.out).mono ?_); rintro e w8 ⟨v538, rfl, ho0, hb⟩; refine ⟨_, rfl, ?_⟩; have HO539 := aM_ (Kd.R_lower ho0 (below_size hB_)); replace BK535 := aM_ (blk_below (g := gb535) (kR_ BK535) hb); replace HB := aM_ (below_step hB_ hb); (try clear hb); (try clear ho0); obtain ⟨Ao9, co9, eo9⟩ := Kd.R_slice HO539.out; subst eo9))
 try simp only [Act.put, List.setIfInBounds_toArray, List.set_cons_zero, List.set_cons_succ]
 go_loopg [3, 12] k (fun kq v3 v12 w' => ∃ (x3_1 : ByteArray) (x12_1 : Int), v3 = .string x3_1 ∧ v12 = .int .i64 x12_1 ∧ Aside0 (spec_shText.l0 kq x3_1 t537 (t537.length : Int) x12_1 a0_0 a0_1 a0_2 a0_3 a0_4 a0_5 = some r) ∧ Aside0 (kq ≤ k) ∧ Aside0 (Kd.R (Kd.int .i64) 3 w' w.heap.size (fun _ => True) (.slice Ao9 t537.length co9) t537) ∧ Aside0 (w'.heap[gb535]? = some (.cells #[.int .i64 a0_0, .int .i64 a0_1, .int .i64 a0_2, .int .i64 a0_3, .int .i64 a0_4, .bool a0_5] 25 (0, 0))) ∧ Aside0 (Below w.heap.size w w'))
 case atStart => exact ⟨(t536), (0), z13_1_, z13_1_, H', ⟨Nat.le_refl _⟩, ⟨rR_ HO539⟩, ⟨kP_⟩, ⟨hB_⟩⟩
 case round =>
  clear H'
  (try clear hcz5_0);(try clear hcz5_1);(try clear hcz5_2);(try clear hcz5_3);(try clear hcz5_4);(try clear hcz5_5);(try clear hcz7_0);(try clear hcz7_1);(try clear hcz7_2);(try clear hcz7_3);(try clear hcz7_4);(try clear hcz7_5);(try clear hfz5_0);(try clear hfz5_1);(try clear hfz5_2);(try clear hfz5_3);(try clear hfz5_4);(try clear hfz5_5);(try clear hfz7_0);(try clear hfz7_1);(try clear hfz7_2);(try clear hfz7_3);(try clear hfz7_4);(try clear hfz7_5)
  obtain ⟨x3_1, x12_1, rfl, rfl, HA, HK1, HO_10, BK535, HB⟩ := hrel
  cases gk with
  | zero => exact absurd HA.out (by simp [spec_shText.l0])
  | succ k1 =>
   have H := HA.out
   clear HA
   simp only [spec_shText.l0] at H
   replace H := iF_ H; obtain ⟨c10b0, H⟩ | ⟨c10b0, H⟩ := H
   ·by_cases c16 : a0_5 = true
    rotate_left
    ·replace c16 := Bool.eq_false_iff.mpr c16
     subst c16
     replace H := in_ H (show ¬ (false = true) by decide)
     obtain rfl := Option.some.inj H
     have hz19 := cf6_ BK535.out
     go_wp2
     go_ret
     exact ⟨rT_, hB_⟩
    subst c16
    replace H := ip_ H rfl
    by_cases c17 : x3_1.size + 1 ≤ 9223372036854775807
    rotate_left
    ·rw [if_neg c17] at H
     exact absurd H (by simp)
    rw [if_pos c17] at H
    have c17b0 := eq_true c17
    have c17b1 : decide (x3_1.size + 1 ≤ 9223372036854775807) = true := decide_eq_true c17
    try have c17b2 : (9223372036854775807 < x3_1.size + 1) = False := eq_false (Nat.not_lt.2 c17)
    obtain rfl := Option.some.inj H
    have hz18 := cf6_ BK535.out
    go_wp2
    go_ret
    exact ⟨rT_, hB_⟩
   replace H := ig_ H; obtain ⟨c11b0, H⟩ := H
   replace H := ig_ H; obtain ⟨c12b0, H⟩ := H
   replace H := ob_ H; obtain ⟨t541, A13, H⟩ := H; try dsimp only at H
   by_cases c14 : x3_1.size + t541.size ≤ 9223372036854775807
   rotate_left
   ·rw [if_neg c14] at H
    exact absurd H (by simp)
   rw [if_pos c14] at H
   have c14b0 := eq_true c14
   have c14b1 : decide (x3_1.size + t541.size ≤ 9223372036854775807) = true := decide_eq_true c14
   try have c14b2 : (9223372036854775807 < x3_1.size + t541.size) = False := eq_false (Nat.not_lt.2 c14)
   have H' := Aside0.mk H
   clear H
   obtain ⟨⟨ad540, e540, hx540_0⟩, p540, q540⟩ := at2_ (Kd.at_int (Kd.R_reads' HO_10.out).2.2 x12_1); cases e540
   go_wp2_with (first | ((with_reducible refine gC_ 52 ?_); refine gM_ (some 18) Tryd.func52 #[.int .i64 (rd t537 x12_1)] ?_; (with_reducible refine (spec_l1Num.calls k1 (rd t537 x12_1) t541 _ A13.out).mono ?_); rintro e w15 ⟨rfl, hb⟩; refine ⟨_, rfl, ?_⟩; replace HO_10 := aM_ (Kd.R_below (rR_ HO_10) hb); replace BK535 := aM_ (blk_below (g := gb535) (kR_ BK535) hb); replace HB := aM_ (below_step hB_ hb); (try clear hb)))
   go_roundg k1
   case measure => have := HK1.out; omega
   case rel => exact ⟨(x3_1 ++ t541), (wrap64 (x12_1 + 1)), z13_1_, z13_1_, H', ⟨by have := HK1.out; omega⟩, ⟨(rR_ HO_10)⟩, ⟨kP_⟩, ⟨hB_⟩⟩

/-! ### spec_ShapeText: function 16 -/
theorem spec_ShapeText.calls (k : Nat) (a0_0 : Int) (a0_1 : Int) (a0_2 : Int) (a0_3 : Int) (a0_4 : Int) (a0_5 : Bool) (r1 : ByteArray) (r2 : Bool) (w : World) (h : spec_ShapeText.f k a0_0 a0_1 a0_2 a0_3 a0_4 a0_5 = some (r1, r2)) :
 Calls Tryd.prog 16 #[.agg #[.int .i64 a0_0, .int .i64 a0_1, .int .i64 a0_2, .int .i64 a0_3, .int .i64 a0_4, .bool a0_5]] w fun e w' => e = .returned (.tuple #[.string r1, .bool r2]) ∧ Below w.heap.size w w' := by
 have hu25 := Tryd.underlying25
 have HB := Aside0.mk (Below.refl w.heap.size w)
 have H : ((spec_shGood.f k a0_0 a0_1 a0_2 a0_3 a0_4 a0_5).bind fun t543 => (if t543 = true then ((spec_shText.f k a0_0 a0_1 a0_2 a0_3 a0_4 a0_5).bind fun t544 => (some (t544, true))) else (some ((⟨#[]⟩ : ByteArray), false)))) = some (r1, r2) := h
 clear h
 replace H := ob_ H; obtain ⟨t543, A2, H⟩ := H; try dsimp only at H
 have HC3 := Aside0.mk H
 clear H
 go_enter Tryd.func16, Tryd.ntmps16
 go_upto_if 6 with (first | ((with_reducible refine gate_dst (N := 1) rfl ?_); refine bx_ 1 #[.int .i64 a0_0, .int .i64 a0_1, .int .i64 a0_2, .int .i64 a0_3, .int .i64 a0_4, .bool a0_5] 25 fun gb542 hg w4 hbox hb => ?_; have BK542 := aM_ (hbox); have GW542 := aM_ (gw_ w hg); have GE542 := aM_ (gw_ w hg); replace HB := aM_ (below_step hB_ hb); clear hb hbox hg; have hz5 := cf6_ BK542.out) | ((with_reducible refine gC_ 24 ?_); refine gM_ (some 5) Tryd.func24 #[.agg #[.int .i64 a0_0, .int .i64 a0_1, .int .i64 a0_2, .int .i64 a0_3, .int .i64 a0_4, .bool a0_5]] ?_; (with_reducible refine (spec_shGood.calls k a0_0 a0_1 a0_2 a0_3 a0_4 a0_5 t543 _ A2.out).mono ?_); rintro e w6 ⟨rfl, hb⟩; refine ⟨_, rfl, ?_⟩; replace BK542 := aM_ (blk_below (g := gb542) (kR_ BK542) hb); replace HB := aM_ (below_step hB_ hb); (try clear hb)))
 (try simp only [Act.put, List.setIfInBounds_toArray, List.set_cons_zero, List.set_cons_succ])
 have H := HC3.out
 clear HC3
 by_cases c7 : t543 = true
 rotate_left
 ·replace c7 := Bool.eq_false_iff.mpr c7
  subst c7
  replace H := in_ H (show ¬ (false = true) by decide)
  simp only [Option.some.injEq, Prod.mk.injEq] at H
  obtain ⟨rfl, rfl⟩ := H
  go_wp2
  go_ret2
  exact ⟨rT_, hB_⟩
 subst c7
 replace H := ip_ H rfl
 replace H := ob_ H; obtain ⟨t544, A8, H⟩ := H; try dsimp only at H
 simp only [Option.some.injEq, Prod.mk.injEq] at H
 obtain ⟨rfl, rfl⟩ := H
 have hz9 := cf6_ BK542.out
 clear BK542
 go_wp2_with (first | ((with_reducible refine gC_ 35 ?_); refine gM_ (some 8) Tryd.func35 #[.agg #[.int .i64 a0_0, .int .i64 a0_1, .int .i64 a0_2, .int .i64 a0_3, .int .i64 a0_4, .bool a0_5]] ?_; (with_reducible refine (spec_shText.calls k a0_0 a0_1 a0_2 a0_3 a0_4 a0_5 t544 _ A8.out).mono ?_); rintro e w10 ⟨rfl, hb⟩; refine ⟨_, rfl, ?_⟩; replace HB := aM_ (below_step hB_ hb); (try clear hb)))
 go_ret2
 exact ⟨rT_, hB_⟩

/-! ### spec_l1Cur_spoilt: function 38 -/
theorem spec_l1Cur_spoilt.calls (k : Nat) (g : Nat) (s0_0 : List Int) (s0_1 : Int) (s0_2 : Int) (a1 : ByteArray) (a2 : ByteArray) (r1 : ByteArray) (r2 : Int) (r3 : Int) (w0 w : World) (hI : IsS59 w0 w g s0_0 s0_1 s0_2) (hB : Below w0.heap.size w0 w) (h : spec_l1Cur_spoilt.f k s0_0 s0_1 s0_2 a1 a2 = some (r1, r2, r3)) :
 Calls Tryd.prog 38 #[.pointer (some ⟨g, 0, none⟩), .string a1, .string a2] w fun e w' => e = .returned (.string r1) ∧ IsS59 w0 w' g s0_0 r2 r3 ∧ Below w0.heap.size w0 w' ∧ KeepBut w w' g none := by
 have HI0 := Aside0.mk hI
 have HK := Aside0.mk (KeepBut.refl w g none)
 have HL := Aside0.mk hB.size
 clear hI
 have HW0 := Aside0.mk hB.size
 have HB := Aside0.mk hB
 clear hB
 have H : ((spec_l1Cur_pick.f s0_0 s0_1 s0_2 2).bind fun bt545 => (spec_l1Cur_spoilt.l0 k a1 a2 (wrap64 (1 + bt545.1)) s0_0 bt545.2.1 bt545.2.2)) = some (r1, r2, r3) := h
 clear h
 replace H := ob_ H; obtain ⟨⟨t545, t546, t547⟩, A4, H⟩ := H; try dsimp only at H
 have H' := Aside0.mk H
 clear H
 go_enter Tryd.func38, Tryd.ntmps38
 go_wp2_with (first | (go_at_call 37; (with_reducible refine (spec_l1Cur_pick.calls g s0_0 s0_1 s0_2 2 t545 t546 t547 w0 _ ?side1 ?side2 A4.out).mono ?_); (case side1 => exact z13_2_); (case side2 => exact z13_3_); rintro e w5 ⟨rfl, hi, hb, hk⟩; replace HK := aM_ (KeepBut.trans z13_4_ hk (.inl rfl)); replace HB := aM_ (hb); replace HI0 := aM_ (hi); (try clear hb); (try clear hk); (try clear hi)) | (go_quiet (fail)))
 go_loopg [1, 7] k (fun kq v1 v7 w' => ∃ (x1_1 : ByteArray) (x7_1 : Int) (x1001_1 : Int) (x1002_1 : Int), v1 = .string x1_1 ∧ v7 = .int .i64 x7_1 ∧ Aside0 (spec_l1Cur_spoilt.l0 kq x1_1 a2 x7_1 s0_0 x1001_1 x1002_1 = some (r1, r2, r3)) ∧ Aside0 (kq ≤ k) ∧ Aside0 (IsS59 w0 w' g s0_0 x1001_1 x1002_1) ∧ Aside0 (KeepBut w w' g none) ∧ Aside0 (Below w0.heap.size w0 w'))
 case atStart => exact ⟨(a1), (wrap64 (1 + t545)), (t546), (t547), z13_1_, z13_1_, H', ⟨Nat.le_refl _⟩, ⟨z13_2_⟩, ⟨z13_4_⟩, ⟨z13_3_⟩⟩
 case round =>
  clear H'
  obtain ⟨x1_1, x7_1, x1001_1, x1002_1, rfl, rfl, HA, HK1, HI0, HK, HB⟩ := hrel
  cases gk with
  | zero => exact absurd HA.out (by simp [spec_l1Cur_spoilt.l0])
  | succ k1 =>
   have H := HA.out
   clear HA
   simp only [spec_l1Cur_spoilt.l0] at H
   have HC6 := Aside0.mk H
   clear H
   go_upto_region 2 with (fail)
   repeat (go_quiet (fail); go_upto_region 2 with (fail))
   go_cut [19] (fun v19 wc => ∃ (kq : Nat) (x19_5 : Bool), v19 = .bool x19_5 ∧ Aside0 (spec_l1Cur_spoilt.j1 kq x1_1 a2 x7_1 x19_5 s0_0 x1001_1 x1002_1 = some (r1, r2, r3)) ∧ Aside0 (kq ≤ k1) ∧ Aside0 (IsS59 w0 wc g s0_0 x1001_1 x1002_1) ∧ Aside0 (KeepBut w wc g none) ∧ Aside0 (Below w0.heap.size w0 wc))
   case first =>
    have H := HC6.out
    clear HC6
    by_cases c7 : x7_1 > 0
    rotate_left
    ·rw [if_neg c7] at H
     have c7b0 : decide (0 < x7_1) = false := decide_eq_false c7
     clear c7
     (first | rw [c7b0] | (simp only [i64_w, i32_w]; rw [c7b0]) | skip)
     have H' := Aside0.mk H
     clear H
     go_wp2
     repeat (go_quiet (fail); try go_wp2)
     go_meet
     case rel => exact ⟨_, (false), z13_1_, H', ⟨by have := HK1.out; first | omega | exact Nat.le_refl _⟩, ⟨z13_2_⟩, ⟨z13_4_⟩, ⟨z13_3_⟩⟩
    rw [if_pos c7] at H
    have c7b0 : decide (0 < x7_1) = true := decide_eq_true c7
    clear c7
    (first | rw [c7b0] | (simp only [i64_w, i32_w]; rw [c7b0]) | skip)
    have H' := Aside0.mk H
    clear H
    go_wp2
    repeat (go_quiet (fail); try go_wp2)
    go_meet
    case rel => exact ⟨_, (decide ((x1_1.size : Int) > 0)), z13_1_, H', ⟨by have := HK1.out; first | omega | exact Nat.le_refl _⟩, ⟨z13_2_⟩, ⟨z13_4_⟩, ⟨z13_3_⟩⟩
   case rest =>
    clear HC6
    obtain ⟨kq, x19_5, rfl, HA, HJ5, HI0, HK, HB⟩ := hcut
    cases kq with
    | zero => exact absurd HA.out (by simp [spec_l1Cur_spoilt.j1])
    | succ kj5 =>
     have H := HA.out
     clear HA
     simp only [spec_l1Cur_spoilt.j1] at H
     by_cases c8 : x19_5 = true
     rotate_left
     ·replace c8 := Bool.eq_false_iff.mpr c8
      subst c8
      replace H := in_ H (show ¬ (false = true) by decide)
      simp only [Option.some.injEq, Prod.mk.injEq] at H
      obtain ⟨rfl, rfl, rfl⟩ := H
      go_wp2
      repeat (go_quiet (fail); try go_wp2)
      go_ret
      exact ⟨rT_, z13_2_, z13_3_, z13_4_⟩
     subst c8
     replace H := ip_ H rfl
     replace H := ob_ H; obtain ⟨⟨t548, t549, t550⟩, A9, H⟩ := H; try dsimp only at H
     replace H := ob_ H; obtain ⟨⟨t551, t552, t553⟩, A10, H⟩ := H; try dsimp only at H
     replace H := ig_ H; obtain ⟨c11b0, H⟩ := H
     replace H := ig_ H; obtain ⟨c12b0, H⟩ := H
     replace H := bs_ H; obtain ⟨y554, Ny554, H⟩ := H; try dsimp only at H
     replace H := ob_ H; obtain ⟨⟨t557, t558, t559⟩, A14, H⟩ := H; try dsimp only at H
     have HC15 := Aside0.mk H
     clear H
     go_upto_if 44 with (first | (go_at_call 37; (with_reducible refine (spec_l1Cur_pick.calls g s0_0 x1001_1 x1002_1 (x1_1.size : Int) t548 t549 t550 w0 _ ?side1 ?side2 A9.out).mono ?_); (case side1 => exact z13_2_); (case side2 => exact z13_3_); rintro e w16 ⟨rfl, hi, hb, hk⟩; replace HK := aM_ (KeepBut.trans z13_4_ hk (.inl rfl)); replace HB := aM_ (hb); replace HI0 := aM_ (hi); (try clear hb); (try clear hk); (try clear hi)) | (go_at_call 37; (with_reducible refine (spec_l1Cur_pick.calls g s0_0 t549 t550 (a2.size : Int) t551 t552 t553 w0 _ ?side1 ?side2 A10.out).mono ?_); (case side1 => exact z13_2_); (case side2 => exact z13_3_); rintro e w17 ⟨rfl, hi, hb, hk⟩; replace HK := aM_ (KeepBut.trans z13_4_ hk (.inl rfl)); replace HB := aM_ (hb); replace HI0 := aM_ (hi); (try clear hb); (try clear hk); (try clear hi); have p13 : 0 ≤ (t551 : Int) := ode_; have q13 : t551 < (a2.size : Int) := ode_; have hx13 := bt_at a2 t551; replace p13 := eq_true p13; replace q13 := eq_true q13) | ((with_reducible refine gate_dst (N := 32) rfl ?_); (try (refine gate_guard (by rfl) ?_; dsimp only)); refine rl_ (Kd.int .u8) 5 32 ([bt a2 t551] : List Int) [.int .u8 (bt a2 t551)] (Reps.one (show Kd.M (Kd.int .u8) _ _ _ (bt a2 t551) [.int .u8 (bt a2 t551)] from rfl) (Reps.none _ _)) ?_; intro v555 w18 ho19 hb hg_ hnew_; clear hg_ hnew_; (first | rw [← Ny554.out] at ho19 | (simp only [Int.reduceToNat] at ho19; rw [← Ny554.out] at ho19)); have HO556 := aM_ (Kd.R_lower ho19 (keep_size (w := w) (g := g) (row := none) z13_4_)); replace HK := aM_ (KeepBut.trans z13_4_ (KeepBut.of_below hb g none) (.inl rfl)); replace HB := aM_ (below_step z13_3_ hb); replace HI0 := aM_ (IsS59.below z13_2_ hb); clear hb ho19; have hcv20 := own_string (P := Tryd.prog) Tryd.underlying22 Tryd.underlying5 Tryd.underlying9 (Kd.own_of_R HO556.out)) | (go_at_call 37; (with_reducible refine (spec_l1Cur_pick.calls g s0_0 t552 t553 3 t557 t558 t559 w0 _ ?side1 ?side2 A14.out).mono ?_); (case side1 => exact z13_2_); (case side2 => exact z13_3_); rintro e w21 ⟨rfl, hi, hb, hk⟩; replace HO556 := aM_ (Kd.R_mono (Kd.R_keep (IsS59.apart (show IsS59 w0 _ g s0_0 t552 t553 from by repeat (first | (with_reducible first | exact HI0.out | apply IsS59.alloc | apply IsS59.drewN | apply IsS59.drew | apply IsS59.set_1 | apply IsS59.set_2) | exact HI0.out)) (rR_ HO556) (by decide)) hk (fun _ h => h.2)) (fun _ h => h.1)); replace HK := aM_ (KeepBut.trans z13_4_ hk (.inl rfl)); replace HB := aM_ (hb); replace HI0 := aM_ (hi); (try clear hb); (try clear hk); (try clear hi)) | (go_quiet (fail)))
     (try simp only [Act.put, List.setIfInBounds_toArray, List.set_cons_zero, List.set_cons_succ])
     have H := HC15.out
     clear HC15
     by_cases c22 : t557 = 0
     ·rw [if_pos c22] at H
      have c22b0 : (t557 == 0) = true := beq_iff_eq.mpr c22
      have c22b1 : (t557 != 0) = false := bne_eq_false_iff_eq.mpr c22
      clear c22
      (first | rw [c22b0] | (simp only [i64_w, i32_w]; rw [c22b0]) | skip)
      replace H := it_ H; obtain ⟨c23b0, c23b1, H⟩ := H
      replace H := it_ H; obtain ⟨c24b0, c24b1, H⟩ := H
      by_cases c25 : (x1_1.extract 0 (t548 : Int).toNat).size + (strOfNums y554).size ≤ 9223372036854775807
      rotate_left
      ·rw [if_neg c25] at H
       exact absurd H (by simp)
      rw [if_pos c25] at H
      have c25b0 := eq_true c25
      have c25b1 : decide ((x1_1.extract 0 (t548 : Int).toNat).size + (strOfNums y554).size ≤ 9223372036854775807) = true := decide_eq_true c25
      try have c25b2 : (9223372036854775807 < (x1_1.extract 0 (t548 : Int).toNat).size + (strOfNums y554).size) = False := eq_false (Nat.not_lt.2 c25)
      have c26b0 := eq_true (ode_ : 0 ≤ t548)
      have c27b0 := eq_true (ode_ : t548 ≤ (x1_1.size : Int))
      by_cases c28 : ((x1_1.extract 0 (t548 : Int).toNat) ++ (strOfNums y554)).size + (x1_1.extract (t548 : Int).toNat x1_1.size).size ≤ 9223372036854775807
      rotate_left
      ·rw [if_neg c28] at H
       exact absurd H (by simp)
      rw [if_pos c28] at H
      have c28b0 := eq_true c28
      have c28b1 : decide (((x1_1.extract 0 (t548 : Int).toNat) ++ (strOfNums y554)).size + (x1_1.extract (t548 : Int).toNat x1_1.size).size ≤ 9223372036854775807) = true := decide_eq_true c28
      try have c28b2 : (9223372036854775807 < ((x1_1.extract 0 (t548 : Int).toNat) ++ (strOfNums y554)).size + (x1_1.extract (t548 : Int).toNat x1_1.size).size) = False := eq_false (Nat.not_lt.2 c28)
      try (have c28b3 := c28b2; simp only [ByteArray.size_append', ByteArray.size_mk', List.size_toArray, List.length_cons, List.length_nil, Nat.zero_add, Nat.reduceAdd] at c28b3)
      have H' := Aside0.mk H
      clear H
      go_wp2
      repeat (go_quiet (fail); try go_wp2)
      go_roundg kj5
      case measure => have := HK1.out; have := HJ5.out; omega
      case rel => exact ⟨(((x1_1.extract 0 (t548 : Int).toNat) ++ (strOfNums y554)) ++ (x1_1.extract (t548 : Int).toNat x1_1.size)), (wrap64 (x7_1 - 1)), (t558), (t559), z13_1_, z13_1_, H', ⟨z13_5_⟩, ⟨z13_2_⟩, ⟨z13_4_⟩, ⟨z13_3_⟩⟩
     rw [if_neg c22] at H
     have c22b0 : (t557 == 0) = false := beq_eq_false_iff_ne.mpr c22
     have c22b1 : (t557 != 0) = true := bne_iff_ne.mpr c22
     (first | rw [c22b0] | (simp only [i64_w, i32_w]; rw [c22b0]) | skip)
     by_cases c29 : t557 = 1
     rotate_left
     ·rw [if_neg c29] at H
      have c29b0 : (t557 == 1) = false := beq_eq_false_iff_ne.mpr c29
      have c29b1 : (t557 != 1) = true := bne_iff_ne.mpr c29
      replace H := it_ H; obtain ⟨c37b0, c37b1, H⟩ := H
      replace H := it_ H; obtain ⟨c38b0, c38b1, H⟩ := H
      obtain ⟨ji39, hji39⟩ : ∃ j_ : Int, (wrap64 (t548 + 1)) = j_ := ⟨_, rfl⟩
      replace H : (if 0 ≤ (ji39) then (if (ji39) ≤ (x1_1.size : Int) then (if (x1_1.extract 0 (t548 : Int).toNat).size + (x1_1.extract ((ji39) : Int).toNat x1_1.size).size ≤ 9223372036854775807 then (spec_l1Cur_spoilt.l0 kj5 ((x1_1.extract 0 (t548 : Int).toNat) ++ (x1_1.extract ((ji39) : Int).toNat x1_1.size)) a2 (wrap64 (x7_1 - 1)) s0_0 t558 t559) else (none)) else (none)) else (none)) = some (r1, r2, r3) := by first | (rw [hji39] at H; exact H) | (simp only [hji39] at H ⊢; exact H)
      have hji39w : (IntKind.i64.wrap (t548 + 1)) = ji39 := (i64_w _).trans hji39
      replace H := it_ H; obtain ⟨c40b0, c40b1, H⟩ := H
      replace H := it_ H; obtain ⟨c41b0, c41b1, H⟩ := H
      by_cases c42 : (x1_1.extract 0 (t548 : Int).toNat).size + (x1_1.extract ((ji39) : Int).toNat x1_1.size).size ≤ 9223372036854775807
      rotate_left
      ·rw [if_neg c42] at H
       exact absurd H (by simp)
      rw [if_pos c42] at H
      have c42b0 := eq_true c42
      have c42b1 : decide ((x1_1.extract 0 (t548 : Int).toNat).size + (x1_1.extract ((ji39) : Int).toNat x1_1.size).size ≤ 9223372036854775807) = true := decide_eq_true c42
      try have c42b2 : (9223372036854775807 < (x1_1.extract 0 (t548 : Int).toNat).size + (x1_1.extract ((ji39) : Int).toNat x1_1.size).size) = False := eq_false (Nat.not_lt.2 c42)
      have H' := Aside0.mk H
      clear H
      go_wp2
      repeat (go_quiet (fail); try go_wp2)
      go_roundg kj5
      case measure => have := HK1.out; have := HJ5.out; omega
      case rel => exact ⟨((x1_1.extract 0 (t548 : Int).toNat) ++ (x1_1.extract ((ji39) : Int).toNat x1_1.size)), (wrap64 (x7_1 - 1)), (t558), (t559), (by first | rfl | (simp; done) | (simp only [← hji39] <;> (first | rfl | simp)) | (simp [*]; done)), z13_1_, H', ⟨z13_5_⟩, ⟨z13_2_⟩, ⟨z13_4_⟩, ⟨z13_3_⟩⟩
     rw [if_pos c29] at H
     have c29b0 : (t557 == 1) = true := beq_iff_eq.mpr c29
     have c29b1 : (t557 != 1) = false := bne_eq_false_iff_eq.mpr c29
     clear c29
     replace H := it_ H; obtain ⟨c30b0, c30b1, H⟩ := H
     replace H := it_ H; obtain ⟨c31b0, c31b1, H⟩ := H
     by_cases c32 : (x1_1.extract 0 (t548 : Int).toNat).size + (strOfNums y554).size ≤ 9223372036854775807
     rotate_left
     ·rw [if_neg c32] at H
      exact absurd H (by simp)
     rw [if_pos c32] at H
     have c32b0 := eq_true c32
     have c32b1 : decide ((x1_1.extract 0 (t548 : Int).toNat).size + (strOfNums y554).size ≤ 9223372036854775807) = true := decide_eq_true c32
     try have c32b2 : (9223372036854775807 < (x1_1.extract 0 (t548 : Int).toNat).size + (strOfNums y554).size) = False := eq_false (Nat.not_lt.2 c32)
     obtain ⟨ji33, hji33⟩ : ∃ j_ : Int, (wrap64 (t548 + 1)) = j_ := ⟨_, rfl⟩
     replace H : (if 0 ≤ (ji33) then (if (ji33) ≤ (x1_1.size : Int) then (if ((x1_1.extract 0 (t548 : Int).toNat) ++ (strOfNums y554)).size + (x1_1.extract ((ji33) : Int).toNat x1_1.size).size ≤ 9223372036854775807 then (spec_l1Cur_spoilt.l0 kj5 (((x1_1.extract 0 (t548 : Int).toNat) ++ (strOfNums y554)) ++ (x1_1.extract ((ji33) : Int).toNat x1_1.size)) a2 (wrap64 (x7_1 - 1)) s0_0 t558 t559) else (none)) else (none)) else (none)) = some (r1, r2, r3) := by first | (rw [hji33] at H; exact H) | (simp only [hji33] at H ⊢; exact H)
     have hji33w : (IntKind.i64.wrap (t548 + 1)) = ji33 := (i64_w _).trans hji33
     replace H := it_ H; obtain ⟨c34b0, c34b1, H⟩ := H
     replace H := it_ H; obtain ⟨c35b0, c35b1, H⟩ := H
     by_cases c36 : ((x1_1.extract 0 (t548 : Int).toNat) ++ (strOfNums y554)).size + (x1_1.extract ((ji33) : Int).toNat x1_1.size).size ≤ 9223372036854775807
     rotate_left
     ·rw [if_neg c36] at H
      exact absurd H (by simp)
     rw [if_pos c36] at H
     have c36b0 := eq_true c36
     have c36b1 : decide (((x1_1.extract 0 (t548 : Int).toNat) ++ (strOfNums y554)).size + (x1_1.extract ((ji33) : Int).toNat x1_1.size).size ≤ 9223372036854775807) = true := decide_eq_true c36
     try have c36b2 : (9223372036854775807 < ((x1_1.extract 0 (t548 : Int).toNat) ++ (strOfNums y554)).size + (x1_1.extract ((ji33) : Int).toNat x1_1.size).size) = False := eq_false (Nat.not_lt.2 c36)
     try (have c36b3 := c36b2; simp only [ByteArray.size_append', ByteArray.size_mk', List.size_toArray, List.length_cons, List.length_nil, Nat.zero_add, Nat.reduceAdd] at c36b3)
     have H' := Aside0.mk H
     clear H
     go_wp2
     repeat (go_quiet (fail); try go_wp2)
     go_roundg kj5
     case measure => have := HK1.out; have := HJ5.out; omega
     case rel => exact ⟨(((x1_1.extract 0 (t548 : Int).toNat) ++ (strOfNums y554)) ++ (x1_1.extract ((ji33) : Int).toNat x1_1.size)), (wrap64 (x7_1 - 1)), (t558), (t559), (by first | rfl | (simp; done) | (simp only [← hji33] <;> (first | rfl | simp)) | (simp [*]; done)), z13_1_, H', ⟨z13_5_⟩, ⟨z13_2_⟩, ⟨z13_4_⟩, ⟨z13_3_⟩⟩

end Go.Proofs.YtbfkpgmdbafmhaaDoor.PFnShapes
