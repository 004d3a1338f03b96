/- Printed for this claim: functions of the program as Lean functions, and that the calls answer so. -/
import Derived.Test.YtfkdlfbjkdkffaaGreatDoorPFnVerbsx0
import Derived.Test.YtfkdlfbjkdkffaaGreatDoorPFnVerbsx12
import Derived.Test.YtfkdlfbjkdkffaaGreatDoorPFnVerbsx13
import Derived.Test.YtfkdlfbjkdkffaaGreatDoorPFnVerbsxD0
namespace Go.Proofs.YtfkdlfbjkdkffaaGreatDoor.PFnVerbs
open Go.RowKit Go.Proofs.YtfkdlfbjkdkffaaGreatDoorW.PrintWords Go.Proofs.YtfkdlfbjkdkffaaGreatDoorW.PrintLast Go.Proofs.YtfkdlfbjkdkffaaGreatDoorW.PrintMore
theorem z14_0_ {p : Prop} (h : p := by simp only [putAll, Act.put, List.setIfInBounds_toArray, List.set_cons_zero, List.set_cons_succ]) : p := h
set_option maxHeartbeats 8000000
set_option maxRecDepth 100000
attribute [local go_sem] max2_int min2_int max_two min_two max_three min_three max_four min_four isSome_setCell   -- for this text's walks alone
set_option linter.unusedVariables false
set_option linter.unusedSimpArgs false

/-! ### impl_Verb_text: function 57 -/
def impl_Verb_text.T1 : Bool × List (List Nat × List Nat) := (true, [([], []), ([0], [0]), ([1], [1]), ([], []), ([3], [3]), ([4], [4]), ([2, 5], [2, 5]), ([6], [6]), ([], []), ([8], [8]), ([9, 5], [9]), ([7, 10], [7, 10]), ([11, 10, 0, 1, 2, 3, 4, 5, 6, 7, 8, 9, 10, 11], [11])])
def impl_Verb_text.B1 : List Nat := [0, 1, 3, 0, 8, 24, 63, 127, 0, 256, 824, 2047, 4095]
theorem impl_Verb_text.tab1 : rtab .any (opsOf Tryz.f57 1) = impl_Verb_text.T1 := by kernel_rfl
theorem impl_Verb_text.bits1 : waitsOk impl_Verb_text.T1.2 impl_Verb_text.B1 = true := by kernel_rfl
theorem impl_Verb_text.calls (a0_0 : ByteArray) (a0_1 : Int) (a0_2 : Int) (r : ByteArray) (w : World) (hT_ : TabW Tryz.prog 0 w) (h : impl_Verb_text.f a0_0 a0_1 a0_2 = some r) :
 Calls Tryz.prog 57 #[.agg #[.string a0_0, .int .i64 a0_1, .int .i64 a0_2]] w fun e w' => e = .returned (.string r) ∧ Below w.heap.size w w' := by
 have hu27 := Tryz.underlying27
 have HT := Aside0.mk hT_
 clear hT_
 have HB := Aside0.mk (Below.refl w.heap.size w)
 have H : (if a0_0.size + 1 ≤ 9223372036854775807 then ((strconv_Itoa.f a0_1).bind fun t502 => (if (a0_0 ++ (⟨#[58]⟩ : ByteArray)).size + t502.size ≤ 9223372036854775807 then (if ((a0_0 ++ (⟨#[58]⟩ : ByteArray)) ++ t502).size + 1 ≤ 9223372036854775807 then ((strconv_Itoa.f a0_2).bind fun t503 => (if (((a0_0 ++ (⟨#[58]⟩ : ByteArray)) ++ t502) ++ (⟨#[62]⟩ : ByteArray)).size + t503.size ≤ 9223372036854775807 then (some ((((a0_0 ++ (⟨#[58]⟩ : ByteArray)) ++ t502) ++ (⟨#[62]⟩ : ByteArray)) ++ t503)) else (none))) else (none)) else (none))) else (none)) = some r := h
 clear h
 by_cases c2 : a0_0.size + 1 ≤ 9223372036854775807
 rotate_left
 ·rw [if_neg c2] at H
  exact absurd H (by simp)
 rw [if_pos c2] at H
 have c2b0 := eq_true c2
 have c2b1 : decide (a0_0.size + 1 ≤ 9223372036854775807) = true := decide_eq_true c2
 try have c2b2 : (9223372036854775807 < a0_0.size + 1) = False := eq_false (Nat.not_lt.2 c2)
 replace H := ob_ H; obtain ⟨t502, A3, H⟩ := H; try dsimp only at H
 by_cases c4 : (a0_0 ++ (⟨#[58]⟩ : ByteArray)).size + t502.size ≤ 9223372036854775807
 rotate_left
 ·rw [if_neg c4] at H
  exact absurd H (by simp)
 rw [if_pos c4] at H
 have c4b0 := eq_true c4
 have c4b1 : decide ((a0_0 ++ (⟨#[58]⟩ : ByteArray)).size + t502.size ≤ 9223372036854775807) = true := decide_eq_true c4
 try have c4b2 : (9223372036854775807 < (a0_0 ++ (⟨#[58]⟩ : ByteArray)).size + t502.size) = False := eq_false (Nat.not_lt.2 c4)
 try (have c4b3 := c4b2; simp only [ByteArray.size_append', ByteArray.size_mk', List.size_toArray, List.length_cons, List.length_nil, Nat.zero_add, Nat.reduceAdd] at c4b3)
 by_cases c5 : ((a0_0 ++ (⟨#[58]⟩ : ByteArray)) ++ t502).size + 1 ≤ 9223372036854775807
 rotate_left
 ·rw [if_neg c5] at H
  exact absurd H (by simp)
 rw [if_pos c5] at H
 have c5b0 := eq_true c5
 have c5b1 : decide (((a0_0 ++ (⟨#[58]⟩ : ByteArray)) ++ t502).size + 1 ≤ 9223372036854775807) = true := decide_eq_true c5
 try have c5b2 : (9223372036854775807 < ((a0_0 ++ (⟨#[58]⟩ : ByteArray)) ++ t502).size + 1) = False := eq_false (Nat.not_lt.2 c5)
 try (have c5b3 := c5b2; simp only [ByteArray.size_append', ByteArray.size_mk', List.size_toArray, List.length_cons, List.length_nil, Nat.zero_add, Nat.reduceAdd] at c5b3)
 replace H := ob_ H; obtain ⟨t503, A6, H⟩ := H; try dsimp only at H
 by_cases c7 : (((a0_0 ++ (⟨#[58]⟩ : ByteArray)) ++ t502) ++ (⟨#[62]⟩ : ByteArray)).size + t503.size ≤ 9223372036854775807
 rotate_left
 ·rw [if_neg c7] at H
  exact absurd H (by simp)
 rw [if_pos c7] at H
 have c7b0 := eq_true c7
 have c7b1 : decide ((((a0_0 ++ (⟨#[58]⟩ : ByteArray)) ++ t502) ++ (⟨#[62]⟩ : ByteArray)).size + t503.size ≤ 9223372036854775807) = true := decide_eq_true c7
 try have c7b2 : (9223372036854775807 < (((a0_0 ++ (⟨#[58]⟩ : ByteArray)) ++ t502) ++ (⟨#[62]⟩ : ByteArray)).size + t503.size) = False := eq_false (Nat.not_lt.2 c7)
 try (have c7b3 := c7b2; simp only [ByteArray.size_append', ByteArray.size_mk', List.size_toArray, List.length_cons, List.length_nil, Nat.zero_add, Nat.reduceAdd] at c7b3)
 obtain rfl := Option.some.inj H
 go_enter Tryz.func57, Tryz.ntmps57
 try go_wp2_with (first | ((with_reducible refine gate_dst (N := 1) rfl ?_); refine bx_ 1 #[.string a0_0, .int .i64 a0_1, .int .i64 a0_2] 27 fun gb501 hg w8 hbox hb => ?_; have BK501 := aM_ (hbox); have GW501 := aM_ (gw_ w hg); have GE501 := aM_ (gw_ w hg); replace HB := aM_ (below_step hB_ hb); clear hb hbox hg))
 replace BK501 := aM_ (blk_drew BK501.out)
 replace HB := aM_ (below_drew1 HB.out)
 refine st_ 13 (fun w' => w'.cell? ⟨gb501, 0, none⟩ = some (.string a0_0) ∧ w'.cell? ⟨gb501, 1, none⟩ = some (.int .i64 a0_1) ∧ w'.cell? ⟨gb501, 2, none⟩ = some (.int .i64 a0_2)) [] impl_Verb_text.tab1 impl_Verb_text.bits1 ⟨(blk_cell BK501.out 0).trans rfl, (blk_cell BK501.out 1).trans rfl, (blk_cell BK501.out 2).trans rfl⟩ fun hHeld HT_ HW_ => ?_
 generalize w8.drew = w9 at BK501 HB hHeld ⊢
 refine pu_ 0 3 ?_
 refine pu_ 3 6 ?_
 refine pu_ 8 11 ?_
 refine tk_ 1 4 ?_
 refine pu_ 2 5 ?_
 refine tk_ 4 7 ?_
 refine tk_ 9 12 ?_
 refine on_ 5 8 fun K hK => ?_
 refine gS_ Tryz.func95 #[.int .i64 a0_1] ?_
 with_reducible refine (strconv_Itoa.calls a0_1 t502 _ ?side1 A3.out).mono ?_
 (case side1 => exact TabW.below HT.out hB_)
 rintro e w10 ⟨rfl, hb⟩
 refine ⟨_, rfl, ?_⟩
 replace BK501 := aM_ (blk_below (g := gb501) (kR_ BK501) hb)
 replace HB := aM_ (below_step hB_ hb)
 (try clear hb)
 (try clear hb2)
 (try clear hk)
 (try clear hi)
 refine hK.out _ _ ⟨(blk_cell BK501.out 0).trans rfl, (blk_cell BK501.out 1).trans rfl, (blk_cell BK501.out 2).trans rfl⟩ (fun hHeld => ?_)
 clear hK K
 refine nm_ 8 ?_
 refine pu_ 6 9 ?_
 refine pu_ 7 10 ?_
 refine on_ 10 13 fun K hK => ?_
 refine gS_ Tryz.func95 #[.int .i64 a0_2] ?_
 with_reducible refine (strconv_Itoa.calls a0_2 t503 _ ?side1 A6.out).mono ?_
 (case side1 => exact TabW.below HT.out hB_)
 rintro e w11 ⟨rfl, hb⟩
 refine ⟨_, rfl, ?_⟩
 replace BK501 := aM_ (blk_below (g := gb501) (kR_ BK501) hb)
 replace HB := aM_ (below_step hB_ hb)
 (try clear hb)
 (try clear hb2)
 (try clear hk)
 (try clear hi)
 refine hK.out _ _ ⟨(blk_cell BK501.out 0).trans rfl, (blk_cell BK501.out 1).trans rfl, (blk_cell BK501.out 2).trans rfl⟩ (fun hHeld => ?_)
 clear hK K
 refine nm_ 13 ?_
 refine pu_ 11 14 ?_
 refine pu_ 12 2 ?_
 refine dn_ ?_
 try go_wp2
 go_ret
 exact ⟨rT_, hB_⟩

/-! ### impl_VerbText: function 12 -/
theorem impl_VerbText.calls (k : Nat) (a0_0 : ByteArray) (a0_1 : Int) (a0_2 : Int) (r1 : ByteArray) (r2 : Bool) (w : World) (hT_ : TabW Tryz.prog 0 w) (h : impl_VerbText.f k a0_0 a0_1 a0_2 = some (r1, r2)) :
 Calls Tryz.prog 12 #[.agg #[.string a0_0, .int .i64 a0_1, .int .i64 a0_2]] w fun e w' => e = .returned (.tuple #[.string r1, .bool r2]) ∧ Below w.heap.size w w' := by
 have hu27 := Tryz.underlying27
 have HT := Aside0.mk hT_
 clear hT_
 have HB := Aside0.mk (Below.refl w.heap.size w)
 have H : ((impl_IsVerb.f k a0_0 a0_1 a0_2).bind fun t505 => (if t505 = true then ((impl_Verb_text.f a0_0 a0_1 a0_2).bind fun t506 => (some (t506, true))) else (some ((⟨#[]⟩ : ByteArray), false)))) = some (r1, r2) := h
 clear h
 replace H := ob_ H; obtain ⟨t505, A2, H⟩ := H; try dsimp only at H
 have HC3 := Aside0.mk H
 clear H
 go_enter Tryz.func12, Tryz.ntmps12
 go_upto_if 6 with (first | ((with_reducible refine gate_dst (N := 1) rfl ?_); refine bx_ 1 #[.string a0_0, .int .i64 a0_1, .int .i64 a0_2] 27 fun gb504 hg w4 hbox hb => ?_; have BK504 := aM_ (hbox); have GW504 := aM_ (gw_ w hg); have GE504 := aM_ (gw_ w hg); replace HB := aM_ (below_step hB_ hb); clear hb hbox hg; have hz5 := cf3_ BK504.out) | ((with_reducible refine gC_ 19 ?_); refine gM_ (some 5) Tryz.func19 #[.agg #[.string a0_0, .int .i64 a0_1, .int .i64 a0_2]] ?_; (with_reducible refine (impl_IsVerb.calls k a0_0 a0_1 a0_2 t505 _ A2.out).mono ?_); rintro e w6 ⟨rfl, hb⟩; refine ⟨_, rfl, ?_⟩; replace BK504 := aM_ (blk_below (g := gb504) (kR_ BK504) hb); replace HB := aM_ (below_step hB_ hb); (try clear hb)))
 (try simp only [Act.put, List.setIfInBounds_toArray, List.set_cons_zero, List.set_cons_succ])
 have H := HC3.out
 clear HC3
 by_cases c7 : t505 = true
 rotate_left
 ·replace c7 := Bool.eq_false_iff.mpr c7
  subst c7
  replace H := in_ H (show ¬ (false = true) by decide)
  simp only [Option.some.injEq, Prod.mk.injEq] at H
  obtain ⟨rfl, rfl⟩ := H
  go_wp2
  go_ret2
  exact ⟨rT_, hB_⟩
 subst c7
 replace H := ip_ H rfl
 replace H := ob_ H; obtain ⟨t506, A8, H⟩ := H; try dsimp only at H
 simp only [Option.some.injEq, Prod.mk.injEq] at H
 obtain ⟨rfl, rfl⟩ := H
 have hz9 := cf3_ BK504.out
 clear BK504
 go_wp2_with (first | ((with_reducible refine gC_ 57 ?_); refine gM_ (some 8) Tryz.func57 #[.agg #[.string a0_0, .int .i64 a0_1, .int .i64 a0_2]] ?_; (with_reducible refine (impl_Verb_text.calls a0_0 a0_1 a0_2 t506 _ ?side1 A8.out).mono ?_); (case side1 => exact TabW.below HT.out hB_); rintro e w10 ⟨rfl, hb⟩; refine ⟨_, rfl, ?_⟩; replace HB := aM_ (below_step hB_ hb); (try clear hb)))
 go_ret2
 exact ⟨rT_, hB_⟩

/-! ### spec_l1Num: function 106 -/
def spec_l1Num.T3 : Bool × List (List Nat × List Nat) := (true, [([], []), ([0], [0]), ([1], [1]), ([], []), ([3], [3]), ([4], [4]), ([5], [5]), ([6], [6]), ([7], [7]), ([2, 8], [2, 8]), ([9, 2, 0, 1, 2, 3, 4, 5, 6, 7, 8, 9], [9])])
def spec_l1Num.B3 : List Nat := [0, 1, 3, 0, 8, 24, 56, 120, 248, 511, 1023]
theorem spec_l1Num.tab3 : rtab .any (opsOf Tryz.f106 3) = spec_l1Num.T3 := by kernel_rfl
theorem spec_l1Num.bits3 : waitsOk spec_l1Num.T3.2 spec_l1Num.B3 = true := by kernel_rfl
theorem spec_l1Num.calls (k : Nat) : ∀ (a0 : Int) (r : ByteArray) (w : World) (h : spec_l1Num.f k a0 = some r),
 Calls Tryz.prog 106 #[.int .i64 a0] w fun e w' => e = .returned (.string r) ∧ Below w.heap.size w w' := by
 induction k using Nat.strongRecOn with
 | _ k ih =>
 intro a0 r w h
 cases k with
 | zero => exact absurd h (by simp [spec_l1Num.f])
 | succ k =>
 simp only [spec_l1Num.f] at h
 have HB := Aside0.mk (Below.refl w.heap.size w)
 have H : (if a0 < 10 then (some (strOfNums (([(wrap64 (48 + a0)) % 256] : List Int)))) else ((spec_l1Num.f k (wrap64 (Int.tdiv a0 10))).bind fun t510 => ((some (([(wrap64 (48 + (Int.tmod a0 10))) % 256] : List Int) : List Int)).bind fun y511 => (if t510.size + (strOfNums y511).size ≤ 9223372036854775807 then (some (t510 ++ (strOfNums y511))) else (none))))) = some r := h
 clear h
 replace H := iT_ H; obtain ⟨c2b0, H⟩ | ⟨c2b0, H⟩ := H
 ·obtain ⟨y507, hy507⟩ : ∃ y_ : List Int, y_ = (([(wrap64 (48 + a0)) % 256] : List Int)) := ⟨_, rfl⟩
  rw [← hy507] at H
  have Ny507 := Aside0.mk hy507; clear hy507
  obtain rfl := Option.some.inj H
  go_enter Tryz.func106, Tryz.ntmps106
  go_wp2_with (first | ((with_reducible refine gate_dst (N := 8) rfl ?_); refine rl_ (Kd.int .u8) 5 8 ([(wrap64 (48 + a0)) % 256] : List Int) [.int .u8 ((wrap64 (48 + a0)) % 256)] (Reps.one (show Kd.M (Kd.int .u8) _ _ _ ((wrap64 (48 + a0)) % 256) [.int .u8 ((wrap64 (48 + a0)) % 256)] from rfl) (Reps.none _ _)) ?_; intro v508 w3 ho4 hb hg_ hnew_; clear hg_ hnew_; (first | rw [← Ny507.out] at ho4 | (simp only [Int.reduceToNat] at ho4; rw [← Ny507.out] at ho4)); have HO509 := aM_ (Kd.R_lower ho4 (below_size hB_)); replace HB := aM_ (below_step hB_ hb); clear hb ho4; have hcv5 := own_string (P := Tryz.prog) Tryz.underlying22 Tryz.underlying5 Tryz.underlying9 (Kd.own_of_R HO509.out)))
  go_ret
  exact ⟨rT_, hB_⟩
 replace H := ob_ H; obtain ⟨t510, A6, H⟩ := H; try dsimp only at H
 replace H := bs_ H; obtain ⟨y511, Ny511, H⟩ := H; try dsimp only at H
 by_cases c7 : t510.size + (strOfNums y511).size ≤ 9223372036854775807
 rotate_left
 ·rw [if_neg c7] at H
  exact absurd H (by simp)
 rw [if_pos c7] at H
 have c7b0 := eq_true c7
 have c7b1 : decide (t510.size + (strOfNums y511).size ≤ 9223372036854775807) = true := decide_eq_true c7
 try have c7b2 : (9223372036854775807 < t510.size + (strOfNums y511).size) = False := eq_false (Nat.not_lt.2 c7)
 obtain rfl := Option.some.inj H
 go_enter Tryz.func106, Tryz.ntmps106
 try go_wp2
 replace HB := aM_ (below_drew1 HB.out)
 refine st_ 11 (fun w' => True) [] spec_l1Num.tab3 spec_l1Num.bits3 trivial fun hHeld HT_ HW_ => ?_
 generalize w.drew = w8 at HB hHeld ⊢
 refine pu_ 0 10 ?_
 refine pu_ 1 11 ?_
 refine pu_ 3 13 ?_
 refine pu_ 4 14 ?_
 refine pu_ 5 15 ?_
 refine pu_ 6 16 ?_
 refine join_ (σ := Value) 2 (bz_ 11 0x1ff) (fun s_ => [(12, .string t510), (17, s_), (18, .string (strOfNums y511))]) (fun s_ w' => (Kd.R (Kd.int .u8) 5 w' w.heap.size (fun _ => True) s_ y511) ∧ (Below w.heap.size w w')) ?_ ?_
 rotate_left
 ·intro hCont
  refine two_ (i := 2) (j := 7) (Ni := some 12) (Nj := some 17) (bz_ 11 0x7f) (bz_ 11 0xfb) rfl rfl rfl rfl (two_of HT_.out (by kernel_rfl)) (by decide) (by decide) (fun K hK => ?_) (fun K hK => ?_)
  ·skip
   refine gS_ Tryz.func106 #[.int .i64 (wrap64 (Int.tdiv a0 10))] ?_
   with_reducible refine (ih k (by omega) (wrap64 (Int.tdiv a0 10)) t510 _ A6.out).mono ?_
   rintro e w9 ⟨rfl, hb⟩
   refine ⟨_, rfl, ?_⟩
   replace HB := aM_ (below_step hB_ hb)
   (try clear hb)
   (try clear hb2)
   (try clear hk)
   (try clear hi)
   refine hK.out _ _ trivial (fun hHeld => ?_)
   clear hK K
   refine nm_ 12 ?_
   refine on_ 7 17 fun K hK => ?_
   refine Kd.R_lit_step (Kd.int .u8) _ 5 ?hg (N := 17) ?hd (xs := ([(wrap64 (48 + (Int.tmod a0 10))) % 256] : List Int)) (inner := [.int .u8 ((wrap64 (48 + (Int.tmod a0 10))) % 256)]) (ok := fun _ => True) (okp := fun _ => True) ?hr ?hp (fun _ hk => hk) trivial (Below.refl _ _) (Nat.le_refl _) (by simp) ?_; (case hd => rfl); (case hg => rfl); (case hr => first | (go_simp; done) | (go_simp; rfl)); (case hp => exact (Reps.one (show Kd.M (Kd.int .u8) _ _ _ ((wrap64 (48 + (Int.tmod a0 10))) % 256) [.int .u8 ((wrap64 (48 + (Int.tmod a0 10))) % 256)] from rfl) (Reps.none _ _)))
   intro v512 w10 ho11 hb hg_ hnew_
   clear hg_ hnew_
   (first | rw [← Ny511.out] at ho11 | (simp only [Int.reduceToNat] at ho11; rw [← Ny511.out] at ho11))
   have HO513 := aM_ (Kd.R_lower ho11 (below_size hB_))
   replace HB := aM_ (below_step hB_ hb)
   clear hb ho11
   refine hK.out _ _ trivial (fun hHeld => ?_)
   clear hK K
   refine nm_ 17 ?_
   refine on_ 8 18 fun K hK => ?_
   have hcv12 := own_string (P := Tryz.prog) Tryz.underlying22 Tryz.underlying5 Tryz.underlying9 (Kd.own_of_R HO513.out)
   refine value_ (w1 := ?_) (v := ?_) (by rfl) rfl ?_ ?_
   rotate_left 2
   ·go_simp
    constructor
    ·rfl
    ·rfl
   clear hcv12
   refine hK.out _ _ trivial (fun hHeld => ?_)
   clear hK K
   refine nm_ 18 ?_
   exact norm_ z14_0_ (hCont (v512) _ ⟨(rR_ HO513), hB_⟩)
  ·skip
   refine Kd.R_lit_step (Kd.int .u8) _ 5 ?hg (N := 17) ?hd (xs := ([(wrap64 (48 + (Int.tmod a0 10))) % 256] : List Int)) (inner := [.int .u8 ((wrap64 (48 + (Int.tmod a0 10))) % 256)]) (ok := fun _ => True) (okp := fun _ => True) ?hr ?hp (fun _ hk => hk) trivial (Below.refl _ _) (Nat.le_refl _) (by simp) ?_; (case hd => rfl); (case hg => rfl); (case hr => first | (go_simp; done) | (go_simp; rfl)); (case hp => exact (Reps.one (show Kd.M (Kd.int .u8) _ _ _ ((wrap64 (48 + (Int.tmod a0 10))) % 256) [.int .u8 ((wrap64 (48 + (Int.tmod a0 10))) % 256)] from rfl) (Reps.none _ _)))
   intro v512 w9 ho10 hb hg_ hnew_
   clear hg_ hnew_
   (first | rw [← Ny511.out] at ho10 | (simp only [Int.reduceToNat] at ho10; rw [← Ny511.out] at ho10))
   have HO513 := aM_ (Kd.R_lower ho10 (below_size hB_))
   replace HB := aM_ (below_step hB_ hb)
   clear hb ho10
   refine hK.out _ _ trivial (fun hHeld => ?_)
   clear hK K
   refine nm_ 17 ?_
   refine two_ (i := 2) (j := 8) (Ni := some 12) (Nj := some 18) (bz_ 11 0xff) (bz_ 11 0x1fb) rfl rfl rfl rfl (two_of HT_.out (by kernel_rfl)) (by decide) (by decide) (fun K hK => ?_) (fun K hK => ?_)
   ·skip
    refine gS_ Tryz.func106 #[.int .i64 (wrap64 (Int.tdiv a0 10))] ?_
    with_reducible refine (ih k (by omega) (wrap64 (Int.tdiv a0 10)) t510 _ A6.out).mono ?_
    rintro e w11 ⟨rfl, hb⟩
    refine ⟨_, rfl, ?_⟩
    replace HO513 := aM_ (Kd.R_below (rR_ HO513) hb)
    replace HB := aM_ (below_step hB_ hb)
    (try clear hb)
    (try clear hb2)
    (try clear hk)
    (try clear hi)
    refine hK.out _ _ trivial (fun hHeld => ?_)
    clear hK K
    refine nm_ 12 ?_
    refine on_ 8 18 fun K hK => ?_
    have hcv12 := own_string (P := Tryz.prog) Tryz.underlying22 Tryz.underlying5 Tryz.underlying9 (Kd.own_of_R HO513.out)
    refine value_ (w1 := ?_) (v := ?_) (by rfl) rfl ?_ ?_
    rotate_left 2
    ·go_simp
     constructor
     ·rfl
     ·rfl
    clear hcv12
    refine hK.out _ _ trivial (fun hHeld => ?_)
    clear hK K
    refine nm_ 18 ?_
    exact norm_ z14_0_ (hCont (v512) _ ⟨(rR_ HO513), hB_⟩)
   ·skip
    have hcv11 := own_string (P := Tryz.prog) Tryz.underlying22 Tryz.underlying5 Tryz.underlying9 (Kd.own_of_R HO513.out)
    refine value_ (w1 := ?_) (v := ?_) (by rfl) rfl ?_ ?_
    rotate_left 2
    ·go_simp
     constructor
     ·rfl
     ·rfl
    clear hcv11
    refine hK.out _ _ trivial (fun hHeld => ?_)
    clear hK K
    refine nm_ 18 ?_
    refine on_ 2 12 fun K hK => ?_
    refine gS_ Tryz.func106 #[.int .i64 (wrap64 (Int.tdiv a0 10))] ?_
    with_reducible refine (ih k (by omega) (wrap64 (Int.tdiv a0 10)) t510 _ A6.out).mono ?_
    rintro e w12 ⟨rfl, hb⟩
    refine ⟨_, rfl, ?_⟩
    replace HO513 := aM_ (Kd.R_below (rR_ HO513) hb)
    replace HB := aM_ (below_step hB_ hb)
    (try clear hb)
    (try clear hb2)
    (try clear hk)
    (try clear hi)
    refine hK.out _ _ trivial (fun hHeld => ?_)
    clear hK K
    refine nm_ 12 ?_
    exact norm_ z14_0_ (hCont (v512) _ ⟨(rR_ HO513), hB_⟩)
 rintro v512 w13 ⟨h0_, h1_⟩
 have n0_ : Aside0 (Kd.R (Kd.int .u8) 5 w13 w.heap.size (fun _ => True) v512 y511) := ⟨h0_⟩
 have n1_ : Aside0 (Below w.heap.size w w13) := ⟨h1_⟩
 clear HB
 clear h0_ h1_
 have HO513 := n0_
 have HB := n1_
 clear n0_ n1_
 have hHeld := trivial
 refine norm_ (a' := ?_) ?_ ?_
 rotate_left
 ·simp only [putAll, Act.put, List.setIfInBounds_toArray, List.set_cons_zero, List.set_cons_succ]
  rfl
 refine pu_ 9 19 ?_
 refine pu_ 10 2 ?_
 refine dn_ ?_
 try go_wp2
 go_ret
 exact ⟨rT_, hB_⟩

/-! ### spec_l1Int: function 77 -/
theorem spec_l1Int.calls (k : Nat) (a0 : Int) (r : ByteArray) (w : World) (h : spec_l1Int.f k a0 = some r) :
 Calls Tryz.prog 77 #[.int .i64 a0] w fun e w' => e = .returned (.string r) ∧ Below w.heap.size w w' := by
 have HB := Aside0.mk (Below.refl w.heap.size w)
 have H : (if a0 < 0 then ((spec_l1Num.f k (wrap64 (-a0))).bind fun t514 => (if 1 + t514.size ≤ 9223372036854775807 then (some ((⟨#[45]⟩ : ByteArray) ++ t514)) else (none))) else ((spec_l1Num.f k a0).bind fun t515 => (some t515))) = some r := h
 clear h
 replace H := iF_ H; obtain ⟨c2b0, H⟩ | ⟨c2b0, H⟩ := H
 ·replace H := ob_ H; obtain ⟨t515, A6, H⟩ := H; try dsimp only at H
  obtain rfl := Option.some.inj H
  go_enter Tryz.func77, Tryz.ntmps77
  go_wp2_with (first | ((with_reducible refine gC_ 106 ?_); refine gM_ (some 10) Tryz.func106 #[.int .i64 a0] ?_; (with_reducible refine (spec_l1Num.calls k a0 t515 _ A6.out).mono ?_); rintro e w7 ⟨rfl, hb⟩; refine ⟨_, rfl, ?_⟩; replace HB := aM_ (below_step hB_ hb); (try clear hb)))
  go_ret
  exact ⟨rT_, hB_⟩
 replace H := ob_ H; obtain ⟨t514, A3, H⟩ := H; try dsimp only at H
 by_cases c4 : 1 + t514.size ≤ 9223372036854775807
 rotate_left
 ·rw [if_neg c4] at H
  exact absurd H (by simp)
 rw [if_pos c4] at H
 have c4b0 := eq_true c4
 have c4b1 : decide (1 + t514.size ≤ 9223372036854775807) = true := decide_eq_true c4
 try have c4b2 : (9223372036854775807 < 1 + t514.size) = False := eq_false (Nat.not_lt.2 c4)
 obtain rfl := Option.some.inj H
 go_enter Tryz.func77, Tryz.ntmps77
 go_wp2_with (first | ((with_reducible refine gC_ 106 ?_); refine gM_ (some 7) Tryz.func106 #[.int .i64 (wrap64 (-a0))] ?_; (with_reducible refine (spec_l1Num.calls k (wrap64 (-a0)) t514 _ A3.out).mono ?_); rintro e w5 ⟨rfl, hb⟩; refine ⟨_, rfl, ?_⟩; replace HB := aM_ (below_step hB_ hb); (try clear hb)))
 go_ret
 exact ⟨rT_, hB_⟩

/-! ### spec_veText: function 58 -/
def spec_veText.T1 : Bool × List (List Nat × List Nat) := (true, [([], []), ([0], [0]), ([1], [1]), ([], []), ([3], [3]), ([4], [4]), ([2, 5], [2, 5]), ([6], [6]), ([], []), ([8], [8]), ([9, 5], [9]), ([7, 10], [7, 10]), ([11, 10, 0, 1, 2, 3, 4, 5, 6, 7, 8, 9, 10, 11], [11])])
def spec_veText.B1 : List Nat := [0, 1, 3, 0, 8, 24, 63, 127, 0, 256, 824, 2047, 4095]
theorem spec_veText.tab1 : rtab .any (opsOf Tryz.f58 1) = spec_veText.T1 := by kernel_rfl
theorem spec_veText.bits1 : waitsOk spec_veText.T1.2 spec_veText.B1 = true := by kernel_rfl
theorem spec_veText.calls (k : Nat) (a0_0 : ByteArray) (a0_1 : Int) (a0_2 : Int) (r : ByteArray) (w : World) (h : spec_veText.f k a0_0 a0_1 a0_2 = some r) :
 Calls Tryz.prog 58 #[.agg #[.string a0_0, .int .i64 a0_1, .int .i64 a0_2]] w fun e w' => e = .returned (.string r) ∧ Below w.heap.size w w' := by
 have hu27 := Tryz.underlying27
 have HB := Aside0.mk (Below.refl w.heap.size w)
 have H : (if a0_0.size + 1 ≤ 9223372036854775807 then ((spec_l1Int.f k a0_1).bind fun t517 => (if (a0_0 ++ (⟨#[58]⟩ : ByteArray)).size + t517.size ≤ 9223372036854775807 then (if ((a0_0 ++ (⟨#[58]⟩ : ByteArray)) ++ t517).size + 1 ≤ 9223372036854775807 then ((spec_l1Int.f k a0_2).bind fun t518 => (if (((a0_0 ++ (⟨#[58]⟩ : ByteArray)) ++ t517) ++ (⟨#[62]⟩ : ByteArray)).size + t518.size ≤ 9223372036854775807 then (some ((((a0_0 ++ (⟨#[58]⟩ : ByteArray)) ++ t517) ++ (⟨#[62]⟩ : ByteArray)) ++ t518)) else (none))) else (none)) else (none))) else (none)) = some r := h
 clear h
 by_cases c2 : a0_0.size + 1 ≤ 9223372036854775807
 rotate_left
 ·rw [if_neg c2] at H
  exact absurd H (by simp)
 rw [if_pos c2] at H
 have c2b0 := eq_true c2
 have c2b1 : decide (a0_0.size + 1 ≤ 9223372036854775807) = true := decide_eq_true c2
 try have c2b2 : (9223372036854775807 < a0_0.size + 1) = False := eq_false (Nat.not_lt.2 c2)
 replace H := ob_ H; obtain ⟨t517, A3, H⟩ := H; try dsimp only at H
 by_cases c4 : (a0_0 ++ (⟨#[58]⟩ : ByteArray)).size + t517.size ≤ 9223372036854775807
 rotate_left
 ·rw [if_neg c4] at H
  exact absurd H (by simp)
 rw [if_pos c4] at H
 have c4b0 := eq_true c4
 have c4b1 : decide ((a0_0 ++ (⟨#[58]⟩ : ByteArray)).size + t517.size ≤ 9223372036854775807) = true := decide_eq_true c4
 try have c4b2 : (9223372036854775807 < (a0_0 ++ (⟨#[58]⟩ : ByteArray)).size + t517.size) = False := eq_false (Nat.not_lt.2 c4)
 try (have c4b3 := c4b2; simp only [ByteArray.size_append', ByteArray.size_mk', List.size_toArray, List.length_cons, List.length_nil, Nat.zero_add, Nat.reduceAdd] at c4b3)
 by_cases c5 : ((a0_0 ++ (⟨#[58]⟩ : ByteArray)) ++ t517).size + 1 ≤ 9223372036854775807
 rotate_left
 ·rw [if_neg c5] at H
  exact absurd H (by simp)
 rw [if_pos c5] at H
 have c5b0 := eq_true c5
 have c5b1 : decide (((a0_0 ++ (⟨#[58]⟩ : ByteArray)) ++ t517).size + 1 ≤ 9223372036854775807) = true := decide_eq_true c5
 try have c5b2 : (9223372036854775807 < ((a0_0 ++ (⟨#[58]⟩ : ByteArray)) ++ t517).size + 1) = False := eq_false (Nat.not_lt.2 c5)
 try (have c5b3 := c5b2; simp only [ByteArray.size_append', ByteArray.size_mk', List.size_toArray, List.length_cons, List.length_nil, Nat.zero_add, Nat.reduceAdd] at c5b3)
 replace H := ob_ H; obtain ⟨t518, A6, H⟩ := H; try dsimp only at H
 by_cases c7 : (((a0_0 ++ (⟨#[58]⟩ : ByteArray)) ++ t517) ++ (⟨#[62]⟩ : ByteArray)).size + t518.size ≤ 9223372036854775807
 rotate_left
 ·rw [if_neg c7] at H
  exact absurd H (by simp)
 rw [if_pos c7] at H
 have c7b0 := eq_true c7
 have c7b1 : decide ((((a0_0 ++ (⟨#[58]⟩ : ByteArray)) ++ t517) ++ (⟨#[62]⟩ : ByteArray)).size + t518.size ≤ 9223372036854775807) = true := decide_eq_true c7
 try have c7b2 : (9223372036854775807 < (((a0_0 ++ (⟨#[58]⟩ : ByteArray)) ++ t517) ++ (⟨#[62]⟩ : ByteArray)).size + t518.size) = False := eq_false (Nat.not_lt.2 c7)
 try (have c7b3 := c7b2; simp only [ByteArray.size_append', ByteArray.size_mk', List.size_toArray, List.length_cons, List.length_nil, Nat.zero_add, Nat.reduceAdd] at c7b3)
 obtain rfl := Option.some.inj H
 go_enter Tryz.func58, Tryz.ntmps58
 try go_wp2_with (first | ((with_reducible refine gate_dst (N := 1) rfl ?_); refine bx_ 1 #[.string a0_0, .int .i64 a0_1, .int .i64 a0_2] 27 fun gb516 hg w8 hbox hb => ?_; have BK516 := aM_ (hbox); have GW516 := aM_ (gw_ w hg); have GE516 := aM_ (gw_ w hg); replace HB := aM_ (below_step hB_ hb); clear hb hbox hg))
 replace BK516 := aM_ (blk_drew BK516.out)
 replace HB := aM_ (below_drew1 HB.out)
 refine st_ 13 (fun w' => w'.cell? ⟨gb516, 0, none⟩ = some (.string a0_0) ∧ w'.cell? ⟨gb516, 1, none⟩ = some (.int .i64 a0_1) ∧ w'.cell? ⟨gb516, 2, none⟩ = some (.int .i64 a0_2)) [] spec_veText.tab1 spec_veText.bits1 ⟨(blk_cell BK516.out 0).trans rfl, (blk_cell BK516.out 1).trans rfl, (blk_cell BK516.out 2).trans rfl⟩ fun hHeld HT_ HW_ => ?_
 generalize w8.drew = w9 at BK516 HB hHeld ⊢
 refine pu_ 0 3 ?_
 refine pu_ 3 6 ?_
 refine pu_ 8 11 ?_
 refine tk_ 1 4 ?_
 refine pu_ 2 5 ?_
 refine tk_ 4 7 ?_
 refine tk_ 9 12 ?_
 refine on_ 5 8 fun K hK => ?_
 refine gS_ Tryz.func77 #[.int .i64 a0_1] ?_
 with_reducible refine (spec_l1Int.calls k a0_1 t517 _ A3.out).mono ?_
 rintro e w10 ⟨rfl, hb⟩
 refine ⟨_, rfl, ?_⟩
 replace BK516 := aM_ (blk_below (g := gb516) (kR_ BK516) hb)
 replace HB := aM_ (below_step hB_ hb)
 (try clear hb)
 (try clear hb2)
 (try clear hk)
 (try clear hi)
 refine hK.out _ _ ⟨(blk_cell BK516.out 0).trans rfl, (blk_cell BK516.out 1).trans rfl, (blk_cell BK516.out 2).trans rfl⟩ (fun hHeld => ?_)
 clear hK K
 refine nm_ 8 ?_
 refine pu_ 6 9 ?_
 refine pu_ 7 10 ?_
 refine on_ 10 13 fun K hK => ?_
 refine gS_ Tryz.func77 #[.int .i64 a0_2] ?_
 with_reducible refine (spec_l1Int.calls k a0_2 t518 _ A6.out).mono ?_
 rintro e w11 ⟨rfl, hb⟩
 refine ⟨_, rfl, ?_⟩
 replace BK516 := aM_ (blk_below (g := gb516) (kR_ BK516) hb)
 replace HB := aM_ (below_step hB_ hb)
 (try clear hb)
 (try clear hb2)
 (try clear hk)
 (try clear hi)
 refine hK.out _ _ ⟨(blk_cell BK516.out 0).trans rfl, (blk_cell BK516.out 1).trans rfl, (blk_cell BK516.out 2).trans rfl⟩ (fun hHeld => ?_)
 clear hK K
 refine nm_ 13 ?_
 refine pu_ 11 14 ?_
 refine pu_ 12 2 ?_
 refine dn_ ?_
 try go_wp2
 go_ret
 exact ⟨rT_, hB_⟩

/-! ### spec_VerbText: function 13 -/
theorem spec_VerbText.calls (k : Nat) (a0_0 : ByteArray) (a0_1 : Int) (a0_2 : Int) (r1 : ByteArray) (r2 : Bool) (w : World) (h : spec_VerbText.f k a0_0 a0_1 a0_2 = some (r1, r2)) :
 Calls Tryz.prog 13 #[.agg #[.string a0_0, .int .i64 a0_1, .int .i64 a0_2]] w fun e w' => e = .returned (.tuple #[.string r1, .bool r2]) ∧ Below w.heap.size w w' := by
 have hu27 := Tryz.underlying27
 have HB := Aside0.mk (Below.refl w.heap.size w)
 have H : ((spec_veOne.f k a0_0 a0_1 a0_2).bind fun t520 => (if t520 = true then ((spec_veText.f k a0_0 a0_1 a0_2).bind fun t521 => (some (t521, true))) else (some ((⟨#[]⟩ : ByteArray), false)))) = some (r1, r2) := h
 clear h
 replace H := ob_ H; obtain ⟨t520, A2, H⟩ := H; try dsimp only at H
 have HC3 := Aside0.mk H
 clear H
 go_enter Tryz.func13, Tryz.ntmps13
 go_upto_if 6 with (first | ((with_reducible refine gate_dst (N := 1) rfl ?_); refine bx_ 1 #[.string a0_0, .int .i64 a0_1, .int .i64 a0_2] 27 fun gb519 hg w4 hbox hb => ?_; have BK519 := aM_ (hbox); have GW519 := aM_ (gw_ w hg); have GE519 := aM_ (gw_ w hg); replace HB := aM_ (below_step hB_ hb); clear hb hbox hg; have hz5 := cf3_ BK519.out) | ((with_reducible refine gC_ 54 ?_); refine gM_ (some 5) Tryz.func54 #[.agg #[.string a0_0, .int .i64 a0_1, .int .i64 a0_2]] ?_; (with_reducible refine (spec_veOne.calls k a0_0 a0_1 a0_2 t520 _ A2.out).mono ?_); rintro e w6 ⟨rfl, hb⟩; refine ⟨_, rfl, ?_⟩; replace BK519 := aM_ (blk_below (g := gb519) (kR_ BK519) hb); replace HB := aM_ (below_step hB_ hb); (try clear hb)))
 (try simp only [Act.put, List.setIfInBounds_toArray, List.set_cons_zero, List.set_cons_succ])
 have H := HC3.out
 clear HC3
 by_cases c7 : t520 = true
 rotate_left
 ·replace c7 := Bool.eq_false_iff.mpr c7
  subst c7
  replace H := in_ H (show ¬ (false = true) by decide)
  simp only [Option.some.injEq, Prod.mk.injEq] at H
  obtain ⟨rfl, rfl⟩ := H
  go_wp2
  go_ret2
  exact ⟨rT_, hB_⟩
 subst c7
 replace H := ip_ H rfl
 replace H := ob_ H; obtain ⟨t521, A8, H⟩ := H; try dsimp only at H
 simp only [Option.some.injEq, Prod.mk.injEq] at H
 obtain ⟨rfl, rfl⟩ := H
 have hz9 := cf3_ BK519.out
 clear BK519
 go_wp2_with (first | ((with_reducible refine gC_ 58 ?_); refine gM_ (some 8) Tryz.func58 #[.agg #[.string a0_0, .int .i64 a0_1, .int .i64 a0_2]] ?_; (with_reducible refine (spec_veText.calls k a0_0 a0_1 a0_2 t521 _ A8.out).mono ?_); rintro e w10 ⟨rfl, hb⟩; refine ⟨_, rfl, ?_⟩; replace HB := aM_ (below_step hB_ hb); (try clear hb)))
 go_ret2
 exact ⟨rT_, hB_⟩

end Go.Proofs.YtfkdlfbjkdkffaaGreatDoor.PFnVerbs
