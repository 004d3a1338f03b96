/- Written by a program of this claim's author, out of the loaded program as Lean prints it: the functions as Lean functions, and that the calls answer so. -/
import Derived.Test.YtgjljcejhdpibaaDoorPFnExactParseLocix0
import Derived.Test.YtgjljcejhdpibaaDoorPFnExactParseLocix4
import Derived.Test.YtgjljcejhdpibaaDoorPFnExactParseLocix5
import Derived.Test.YtgjljcejhdpibaaDoorPFnExactParseLocix6
import Derived.Test.YtgjljcejhdpibaaDoorPFnExactParseLocixD0
namespace Go.Proofs.YtgjljcejhdpibaaDoor.PFnExactParseLoci
open Go.RowKit Go.Proofs.YtgjljcejhdpibaaDoorW.PrintWords Go.Proofs.YtgjljcejhdpibaaDoorW.PrintLast Go.Proofs.YtgjljcejhdpibaaDoorW.PrintMore
attribute [local go_sem] max2_int min2_int max_two min_two max_three min_three max_four min_four isSome_setCell   -- for this text's walks alone
theorem yactParseLocix7_0_ {p : Prop} (h : p := by first | rfl | (simp; done) | (simp [*]; done)) : p := h
abbrev bactParseLocix7_11_0 : Array Bool := #[false, false, false, false, false, false, false, false, false, false, false]
abbrev bactParseLocix7_11_1 : Array Bool := #[true, false, false, false, false, false, false, false, false, false, false]
abbrev bactParseLocix7_11_13 : Array Bool := #[true, true, false, false, true, false, false, false, false, false, false]
abbrev bactParseLocix7_11_17 : Array Bool := #[true, true, true, false, true, false, false, false, false, false, false]
abbrev bactParseLocix7_11_1f : Array Bool := #[true, true, true, true, true, false, false, false, false, false, false]
abbrev bactParseLocix7_11_1ff : Array Bool := #[true, true, true, true, true, true, true, true, true, false, false]
abbrev bactParseLocix7_11_3 : Array Bool := #[true, true, false, false, false, false, false, false, false, false, false]
abbrev bactParseLocix7_11_3f : Array Bool := #[true, true, true, true, true, true, false, false, false, false, false]
abbrev bactParseLocix7_11_3ff : Array Bool := #[true, true, true, true, true, true, true, true, true, true, false]
abbrev bactParseLocix7_11_7f : Array Bool := #[true, true, true, true, true, true, true, false, false, false, false]
abbrev bactParseLocix7_11_7ff : Array Bool := #[true, true, true, true, true, true, true, true, true, true, true]
abbrev bactParseLocix7_11_ff : Array Bool := #[true, true, true, true, true, true, true, true, false, false, false]
set_option linter.unusedVariables false
set_option linter.unusedSimpArgs false

/-! ### strconv_Itoa: function 44, by hand -/
theorem strconv_Itoa.calls (a0 : Int) (r : ByteArray) (w : World) (hT_ : TabW Tryd.prog 0 w) (h : strconv_Itoa.f a0 = some r) :
 Calls Tryd.prog 44 #[.int .i64 a0] w fun e w' => e = .returned (.string r) ∧ Below w.heap.size w w' := by
 unfold strconv_Itoa.f at h
 split at h
 case isFalse => cases h
 case isTrue hl =>
  obtain rfl := Option.some.inj h
  exact itoa_tab (fun ht => Any.strconv_Itoa laid_laysM171 a0 hl.1 hl.2 w ht) hT_

/-! ### impl_lociText: function 26 -/
def impl_lociText.T5 : Bool × List (List Nat × List Nat) := (true, [([], []), ([], []), ([1], [1]), ([2], [2]), ([], []), ([4], [4]), ([5], [5]), ([3, 6], [3, 6]), ([7], [7]), ([0, 8], [0, 8]), ([9, 6, 0, 1, 2, 3, 4, 5, 6, 7, 8, 9], [0, 9])])
def impl_lociText.B5 : List Nat := [0, 0, 2, 6, 0, 16, 48, 126, 254, 511, 1023]
theorem impl_lociText.tab5 : rtab .any (opsOf Tryd.f26 5) = impl_lociText.T5 := by kernel_rfl
theorem impl_lociText.bits5 : waitsOk impl_lociText.T5.2 impl_lociText.B5 = true := by kernel_rfl
set_option maxHeartbeats 8000000 in
set_option maxRecDepth 100000 in
theorem impl_lociText.calls (k : Nat) (A0 : Option Addr) (c0 : Nat) (l0 : List (S40)) (r : ByteArray) (w : World) (hT_ : TabW Tryd.prog 0 w) (hr0 : Kd.C k40 w A0 l0.length l0) (hc0 : l0.length ≤ c0) (h : impl_lociText.f k l0 = some r) :
 Calls Tryd.prog 26 #[.slice A0 l0.length c0] w fun e w' => e = .returned (.string r) ∧ Below w.heap.size w w' := by
 have hu40 := Tryd.underlying40
 have HR0 := Aside0.mk hr0
 have HC0 := Aside0.mk hc0
 clear hr0 hc0
 have HT := Aside0.mk hT_
 clear hT_
 have HB := Aside0.mk (Below.refl w.heap.size w)
 have H : (impl_lociText.l0 k (⟨#[]⟩ : ByteArray) l0 (l0.length : Int) 0) = some r := h
 clear h
 have H' := Aside0.mk H
 clear H
 go_enter Tryd.func26, Tryd.ntmps26
 go_wp2
 go_loopg [3, 8] k (fun kq v3 v8 w' => ∃ (x3_1 : ByteArray) (x8_1 : Int), v3 = .string x3_1 ∧ v8 = .int .i64 x8_1 ∧ Aside0 (impl_lociText.l0 kq x3_1 l0 (l0.length : Int) x8_1 = some r) ∧ Aside0 (kq ≤ k) ∧ Aside0 (Below w.heap.size w w'))
 case atStart => exact ⟨((⟨#[]⟩ : ByteArray)), (0), yactParseLocix7_0_, yactParseLocix7_0_, H', ⟨Nat.le_refl _⟩, ⟨hB_⟩⟩
 case round =>
  clear H'
  obtain ⟨x3_1, x8_1, rfl, rfl, HA, HK1, HB⟩ := hrel
  cases gk with
  | zero => exact absurd HA.out (by simp [impl_lociText.l0])
  | succ k1 =>
   have H := HA.out
   clear HA
   simp only [impl_lociText.l0] at H
   by_cases c2 : x8_1 < (l0.length : Int)
   ·rw [if_pos c2] at H
    have c2b0 : decide (x8_1 < (l0.length : Int)) = true := decide_eq_true c2
    clear c2
    by_cases c3 : 0 ≤ x8_1
    ·rw [if_pos c3] at H
     have c3b0 : decide (0 ≤ x8_1) = true := decide_eq_true c3
     clear c3
     by_cases c4 : x8_1 < (l0.length : Int)
     ·rw [if_pos c4] at H
      have c4b0 : decide (x8_1 < (l0.length : Int)) = true := decide_eq_true c4
      clear c4
      by_cases c5 : ((rd_T40 l0 x8_1).f0).size + 1 ≤ 9223372036854775807
      ·rw [if_pos c5] at H
       have c5b0 := eq_true c5
       have c5b1 : decide (((rd_T40 l0 x8_1).f0).size + 1 ≤ 9223372036854775807) = true := decide_eq_true c5
       try have c5b2 : (9223372036854775807 < ((rd_T40 l0 x8_1).f0).size + 1) = False := eq_false (Nat.not_lt.2 c5)
       replace H := Option.bind_eq_some_iff.mp H
       obtain ⟨t194, A60, H⟩ := H
       try dsimp only at H
       have A6 := Aside0.mk A60
       clear A60
       by_cases c7 : (((rd_T40 l0 x8_1).f0) ++ (⟨#[64]⟩ : ByteArray)).size + t194.size ≤ 9223372036854775807
       ·rw [if_pos c7] at H
        have c7b0 := eq_true c7
        have c7b1 : decide ((((rd_T40 l0 x8_1).f0) ++ (⟨#[64]⟩ : ByteArray)).size + t194.size ≤ 9223372036854775807) = true := decide_eq_true c7
        try have c7b2 : (9223372036854775807 < (((rd_T40 l0 x8_1).f0) ++ (⟨#[64]⟩ : ByteArray)).size + t194.size) = False := eq_false (Nat.not_lt.2 c7)
        try (have c7b3 := c7b2; simp only [ByteArray.size_append', ByteArray.size_mk', List.size_toArray, List.length_cons, List.length_nil, Nat.zero_add, Nat.reduceAdd] at c7b3)
        by_cases c8 : ((((rd_T40 l0 x8_1).f0) ++ (⟨#[64]⟩ : ByteArray)) ++ t194).size + 1 ≤ 9223372036854775807
        ·rw [if_pos c8] at H
         have c8b0 := eq_true c8
         have c8b1 : decide (((((rd_T40 l0 x8_1).f0) ++ (⟨#[64]⟩ : ByteArray)) ++ t194).size + 1 ≤ 9223372036854775807) = true := decide_eq_true c8
         try have c8b2 : (9223372036854775807 < ((((rd_T40 l0 x8_1).f0) ++ (⟨#[64]⟩ : ByteArray)) ++ t194).size + 1) = False := eq_false (Nat.not_lt.2 c8)
         try (have c8b3 := c8b2; simp only [ByteArray.size_append', ByteArray.size_mk', List.size_toArray, List.length_cons, List.length_nil, Nat.zero_add, Nat.reduceAdd] at c8b3)
         by_cases c9 : x3_1.size + (((((rd_T40 l0 x8_1).f0) ++ (⟨#[64]⟩ : ByteArray)) ++ t194) ++ (⟨#[59]⟩ : ByteArray)).size ≤ 9223372036854775807
         ·rw [if_pos c9] at H
          have c9b0 := eq_true c9
          have c9b1 : decide (x3_1.size + (((((rd_T40 l0 x8_1).f0) ++ (⟨#[64]⟩ : ByteArray)) ++ t194) ++ (⟨#[59]⟩ : ByteArray)).size ≤ 9223372036854775807) = true := decide_eq_true c9
          try have c9b2 : (9223372036854775807 < x3_1.size + (((((rd_T40 l0 x8_1).f0) ++ (⟨#[64]⟩ : ByteArray)) ++ t194) ++ (⟨#[59]⟩ : ByteArray)).size) = False := eq_false (Nat.not_lt.2 c9)
          try (have c9b3 := c9b2; simp only [ByteArray.size_append', ByteArray.size_mk', List.size_toArray, List.length_cons, List.length_nil, Nat.zero_add, Nat.reduceAdd] at c9b3)
          have H' := Aside0.mk H
          clear H
          have p192 : 0 ≤ (x8_1 : Int) := of_decide_eq_true (by first | (with_reducible assumption) | assumption)
          have q192 : x8_1 < (l0.length : Int) := of_decide_eq_true (by first | (with_reducible assumption) | assumption)
          obtain ⟨ad192, e192, hx192_0, hx192_1⟩ := at_T40 HR0.out x8_1 p192 q192
          cases e192
          try replace hx192_0 := (HB.out.cell (World.block_lt_of_cell? w _ hx192_0)).trans hx192_0
          try replace hx192_1 := (HB.out.cell (World.block_lt_of_cell? w _ hx192_1)).trans hx192_1
          replace p192 := eq_true p192
          replace q192 := eq_true q192
          try go_wp2_with (first | ((with_reducible refine gate_dst (N := 5) rfl ?_); refine box_event ?hg (N := 5) ?hd (cs := #[.string (⟨#[]⟩ : ByteArray), .int .i64 0]) (t := 40) ?hr ?_; (case hd => rfl); (case hg => rfl); (case hr => first | (go_simp; done) | (go_simp; rfl)); intro gb193 hg w10 hbox hb; have BK193 := aM_ (hbox); have GW193 := aM_ (gw_ w hg); have GE193 := aM_ (gw_ w hg); replace HB := aM_ (below_step hB_ hb); clear hb hbox hg; have hz11 := cf2_ BK193.out))
          have n0_ : Aside0 (((w10.setCell ⟨gb193, 0, none⟩ (.string ((rd_T40 l0 x8_1).f0))).setCell ⟨gb193, 1, none⟩ (.int .i64 ((rd_T40 l0 x8_1).f1))).heap[gb193]? = some (.cells #[.string ((rd_T40 l0 x8_1).f0), .int .i64 ((rd_T40 l0 x8_1).f1)] 40 (0, 0))) := ⟨by (with_reducible repeat (first | apply kN_ | apply kD_ | apply kA_)); refine blk_put (cs := #[.string ((rd_T40 l0 x8_1).f0), .int .i64 0]) ?_ 1 _ rfl; (with_reducible repeat (first | apply kN_ | apply kD_ | apply kA_)); refine blk_put (cs := #[.string (⟨#[]⟩ : ByteArray), .int .i64 0]) ?_ 0 _ rfl; (with_reducible repeat (first | apply kN_ | apply kD_ | apply kA_)); exact BK193.out⟩
          have n1_ : Aside0 (Below w.heap.size w ((w10.setCell ⟨gb193, 0, none⟩ (.string ((rd_T40 l0 x8_1).f0))).setCell ⟨gb193, 1, none⟩ (.int .i64 ((rd_T40 l0 x8_1).f1)))) := ⟨hB_⟩
          (try clear BK193)
          (try clear HB)
          generalize ((w10.setCell ⟨gb193, 0, none⟩ (.string ((rd_T40 l0 x8_1).f0))).setCell ⟨gb193, 1, none⟩ (.int .i64 ((rd_T40 l0 x8_1).f1))) = w12 at n0_ n1_ ⊢
          have BK193 := n0_
          have HB := n1_
          clear n0_ n1_
          replace BK193 := aM_ (blk_drew BK193.out)
          replace HB := aM_ (below_drew1 HB.out)
          refine start_ (n := 11) (S := fun w' => w'.cell? ⟨gb193, 0, none⟩ = some (.string ((rd_T40 l0 x8_1).f0)) ∧ w'.cell? ⟨gb193, 1, none⟩ = some (.int .i64 ((rd_T40 l0 x8_1).f1))) (ds := []) bactParseLocix7_11_0 (by kernel_rfl) rfl rfl ⟨(blk_cell BK193.out 0).trans rfl, (blk_cell BK193.out 1).trans rfl⟩ (fun hHeld => ?_); refine with_tabW impl_lociText.tab5 impl_lociText.bits5 (fun HT_ HW_ => ?_)
          generalize w12.drew = w13 at BK193 HB hHeld ⊢
          refine pure_ (i := 0) (N := some 12) (v := ?_) (a' := ?_) bactParseLocix7_11_1 rfl rfl (any_of HT_.out (by kernel_rfl)) (fun _ _ _ h => h) (Or.inl ⟨by rfl, ?_⟩) ?_ ?_
          rotate_left
          ·intro w'
           go_simp
           with_reducible rfl
          rotate_left
          ·simp only [Act.put, List.setIfInBounds_toArray, List.set_cons_zero, List.set_cons_succ, i64_w, i32_w]
           rfl
          refine pure_ (i := 1) (N := some 13) (v := ?_) (a' := ?_) bactParseLocix7_11_3 rfl rfl (any_of HT_.out (by kernel_rfl)) (fun _ _ _ h => h) (Or.inl ⟨by rfl, ?_⟩) ?_ ?_
          rotate_left
          ·intro w'
           go_simp
           with_reducible rfl
          rotate_left
          ·simp only [Act.put, List.setIfInBounds_toArray, List.set_cons_zero, List.set_cons_succ, i64_w, i32_w]
           rfl
          refine pure_ (i := 4) (N := some 16) (v := ?_) (a' := ?_) bactParseLocix7_11_13 rfl rfl (any_of HT_.out (by kernel_rfl)) (fun _ _ _ h => h) (Or.inl ⟨by rfl, ?_⟩) ?_ ?_
          rotate_left
          ·intro w'
           go_simp
           with_reducible rfl
          rotate_left
          ·simp only [Act.put, List.setIfInBounds_toArray, List.set_cons_zero, List.set_cons_succ, i64_w, i32_w]
           rfl
          refine take_ (i := 2) (N := some 14) (v := ?_) (a' := ?_) bactParseLocix7_11_17 rfl rfl (take_ofW HT_.out HW_.out (by kernel_rfl)) (fun _ _ _ h => h) (Or.inl ⟨by rfl, ?_⟩) hHeld ?_ ?_
          rotate_left
          ·rintro w' ⟨s0, s1⟩
           go_simp
           with_reducible rfl
          rotate_left
          ·simp only [Act.put, List.setIfInBounds_toArray, List.set_cons_zero, List.set_cons_succ, i64_w, i32_w]
           rfl
          refine pure_ (i := 3) (N := some 15) (v := ?_) (a' := ?_) bactParseLocix7_11_1f rfl rfl (any_of HT_.out (by kernel_rfl)) (fun _ _ _ h => h) (Or.inl ⟨by rfl, ?_⟩) ?_ ?_
          rotate_left
          ·intro w'
           go_simp
           with_reducible rfl
          rotate_left
          ·simp only [Act.put, List.setIfInBounds_toArray, List.set_cons_zero, List.set_cons_succ, i64_w, i32_w]
           rfl
          refine take_ (i := 5) (N := some 17) (v := ?_) (a' := ?_) bactParseLocix7_11_3f rfl rfl (take_ofW HT_.out HW_.out (by kernel_rfl)) (fun _ _ _ h => h) (Or.inl ⟨by rfl, ?_⟩) hHeld ?_ ?_
          rotate_left
          ·rintro w' ⟨s0, s1⟩
           go_simp
           with_reducible rfl
          rotate_left
          ·simp only [Act.put, List.setIfInBounds_toArray, List.set_cons_zero, List.set_cons_succ, i64_w, i32_w]
           rfl
          refine one_ (i := 6) (N := some 18) bactParseLocix7_11_7f rfl rfl (one_of HT_.out (by kernel_rfl)) (by decide) (fun K hK => ?_)
          refine goes_ Tryd.func44 (by kernel_rfl) rfl #[.int .i64 ((rd_T40 l0 x8_1).f1)] (by rfl) rfl rfl aR_ ?_
          with_reducible refine (strconv_Itoa.calls ((rd_T40 l0 x8_1).f1) t194 _ ?side1 A6.out).mono ?_
          (case side1 => exact TabW.below HT.out hB_)
          rintro e w14 ⟨rfl, hb⟩
          refine ⟨_, rfl, ?_⟩
          replace BK193 := aM_ (blk_below (g := gb193) (kR_ BK193) hb)
          replace HB := aM_ (below_step hB_ hb)
          (try clear hb)
          (try clear hb2)
          (try clear hk)
          (try clear hi)
          refine hK.out _ _ ⟨(blk_cell BK193.out 0).trans rfl, (blk_cell BK193.out 1).trans rfl⟩ (fun hHeld => ?_)
          clear hK K
          refine norm_ (a' := ?_) ?_ ?_
          rotate_left
          ·show Act.put _ (some 18) _ = _
           simp only [Act.put, List.setIfInBounds_toArray, List.set_cons_zero, List.set_cons_succ, i64_w, i32_w]
           rfl
          refine pure_ (i := 7) (N := some 19) (v := ?_) (a' := ?_) bactParseLocix7_11_ff rfl rfl (any_of HT_.out (by kernel_rfl)) (fun _ _ _ h => h) (Or.inl ⟨by rfl, ?_⟩) ?_ ?_
          rotate_left
          ·intro w'
           go_simp
           with_reducible rfl
          rotate_left
          ·simp only [Act.put, List.setIfInBounds_toArray, List.set_cons_zero, List.set_cons_succ, i64_w, i32_w]
           rfl
          refine pure_ (i := 8) (N := some 20) (v := ?_) (a' := ?_) bactParseLocix7_11_1ff rfl rfl (any_of HT_.out (by kernel_rfl)) (fun _ _ _ h => h) (Or.inl ⟨by rfl, ?_⟩) ?_ ?_
          rotate_left
          ·intro w'
           go_simp
           with_reducible rfl
          rotate_left
          ·simp only [Act.put, List.setIfInBounds_toArray, List.set_cons_zero, List.set_cons_succ, i64_w, i32_w]
           rfl
          refine pure_ (i := 9) (N := some 21) (v := ?_) (a' := ?_) bactParseLocix7_11_3ff rfl rfl (any_of HT_.out (by kernel_rfl)) (fun _ _ _ h => h) (Or.inl ⟨by rfl, ?_⟩) ?_ ?_
          rotate_left
          ·intro w'
           go_simp
           with_reducible rfl
          rotate_left
          ·simp only [Act.put, List.setIfInBounds_toArray, List.set_cons_zero, List.set_cons_succ, i64_w, i32_w]
           rfl
          refine pure_ (i := 10) (N := some 3) (v := ?_) (a' := ?_) bactParseLocix7_11_7ff rfl rfl (any_of HT_.out (by kernel_rfl)) (fun _ _ _ h => h) (Or.inl ⟨by rfl, ?_⟩) ?_ ?_
          rotate_left
          ·intro w'
           go_simp
           with_reducible rfl
          rotate_left
          ·simp only [Act.put, List.setIfInBounds_toArray, List.set_cons_zero, List.set_cons_succ, i64_w, i32_w]
           rfl
          refine done_ (done_of HT_.out (by kernel_rfl)) ?_
          try go_wp2
          go_roundg k1
          case measure => have := HK1.out; omega
          case rel => exact ⟨(x3_1 ++ (((((rd_T40 l0 x8_1).f0) ++ (⟨#[64]⟩ : ByteArray)) ++ t194) ++ (⟨#[59]⟩ : ByteArray))), (wrap64 (x8_1 + 1)), yactParseLocix7_0_, yactParseLocix7_0_, H', ⟨by have := HK1.out; omega⟩, ⟨hB_⟩⟩
         ·rw [if_neg c9] at H
          exact absurd H (by simp)
        ·rw [if_neg c8] at H
         exact absurd H (by simp)
       ·rw [if_neg c7] at H
        exact absurd H (by simp)
      ·rw [if_neg c5] at H
       exact absurd H (by simp)
     ·rw [if_neg c4] at H
      exact absurd H (by simp)
    ·rw [if_neg c3] at H
     exact absurd H (by simp)
   ·rw [if_neg c2] at H
    have c2b0 : decide (x8_1 < (l0.length : Int)) = false := decide_eq_false c2
    clear c2
    obtain rfl := Option.some.inj H
    go_wp2
    go_ret
    exact ⟨rT_, hB_⟩

/-! ### strings_Index: function 55 -/
set_option maxHeartbeats 8000000 in
set_option maxRecDepth 100000 in
theorem strings_Index.calls (a0 : ByteArray) (a1 : ByteArray) (r : Int) (w : World) (h : strings_Index.f a0 a1 = some r) :
 Calls Tryd.prog 55 #[.string a0, .string a1] w fun e w' => e = .returned (.int .i64 r) ∧ Drawn0 w w' := by
 have H : ((stringslite_Index.f a0 a1).bind fun t195 => (some t195)) = some r := h
 clear h
 replace H := Option.bind_eq_some_iff.mp H
 obtain ⟨t195, A30, H⟩ := H
 try dsimp only at H
 have A3 := Aside0.mk A30
 clear A30
 obtain rfl := Option.some.inj H
 go_enter Tryd.func55, Tryd.ntmps55
 go_wp2_with (first | ((with_reducible refine gate_callee (f := 56) rfl ?_); refine goesM_ (some 7) Tryd.func56 #[.string a0, .string a1] ?_; (with_reducible refine (stringslite_Index.calls a0 a1 t195 _ A3.out).mono ?_); rintro e w' ⟨rfl, ⟨nd, rfl⟩⟩; refine ⟨_, rfl, ?_⟩))
 go_ret
 exact ⟨yactParseLocix7_0_, by repeat (first | exact Drawn0.refl _ | apply Drawn0.step)⟩

/-! ### impl_ParseLoci: function 6, by hand -/
section
attribute [local go_sem] Oper.semAt_some
set_option maxRecDepth 100000 in
set_option maxHeartbeats 4000000 in
theorem seq_closure (l bx b1 b2 n : Nat) (c : UInt8) (e : Nat) (he : e = 0 ∨ e = 1) (s : ByteArray) (hs : s.size ≤ 4611686018427387904) (J Jx : List ByteArray → World → Prop)
 (hJb : ∀ s W1 u, J s W1 → J s (W1.setCell ⟨bx, 0, none⟩ u)) (hJd : ∀ s W1 m, J s W1 → J s (W1.drewN m))
 (hIx : ∀ (s : ByteArray) (w : World), Calls Tryd.prog 55 #[.string s, .string ⟨#[c]⟩] w fun e w' => e = .returned (.int .i64 (Lib.indexByte s.data.toList c)) ∧ ∃ nd, w' = w.drewN nd)
 (hY : ∀ pre x W1, J pre W1 → (∃ t, (cutsAt e c s.data.toList).map mk_ = (pre ++ [x]) ++ t) → YieldAt Fence.wide (n - 1) Tryd.prog l #[.string x] W1 fun e W' => (e = .returned (.bool true) ∧ J (pre ++ [x]) W' ∧ KpB b1 bx b2 W1 W') ∨ (e = .returned (.bool false) ∧ Jx (pre ++ [x]) W'))
 (W : World) (hb1 : W.heap[b1]? = some (.cells #[.string ⟨#[c]⟩] 9 (0, 0))) (hbx : W.heap[bx]? = some (.cells #[.string s] 9 (0, 0))) (hb2 : W.heap[b2]? = some (.cells #[.int .i64 (e : Int)] 3 (0, 0))) (n1 : bx ≠ b1) (n2 : bx ≠ b2) (h0 : J [] W) :
 CallsIn Fence.wide n Tryd.prog 53 #[.func (.yield l) #[] #[], .pointer (some ⟨b1, 0, none⟩), .pointer (some ⟨bx, 0, none⟩), .pointer (some ⟨b2, 0, none⟩)] W fun e_ W' => (∃ v, e_ = .returned v) ∧
  ((∃ ys, ys = (cutsAt e c s.data.toList).map mk_ ∧ J ys W') ∨ (∃ pre, (∃ t, (cutsAt e c s.data.toList).map mk_ = pre ++ t) ∧ Jx pre W')) := by
 refine callsIn_of_wp Tryd.func53 rfl trivial ?_ rfl
 simp only [Tryd.ntmps53, List.size_toArray, List.length_cons, List.length_nil, Nat.reduceAdd, Nat.reduceSub, Array.replicate_succ, Array.replicate_zero, List.push_toArray, List.append_toArray, List.nil_append, List.cons_append]
 obtain ⟨c1, f1⟩ := one_cell hb1
 gi_wp2
 gi_loopw [7] (fun p wr => ∃ (pre : List ByteArray) (rest : ByteArray), (cutsAt e c s.data.toList).map mk_ = pre ++ (cutsAt e c rest.data.toList).map mk_ ∧ pre.length + rest.size ≤ s.size ∧ J pre wr ∧ wr.heap[b1]? = some (.cells #[.string ⟨#[c]⟩] 9 (0, 0)) ∧ wr.heap[bx]? = some (.cells #[.string rest] 9 (0, 0)) ∧ wr.heap[b2]? = some (.cells #[.int .i64 (e : Int)] 3 (0, 0)))
  (fun _ wr => match wr.cell? ⟨bx, 0, none⟩ with | some (.string t) => t.size | _ => 0)
 case atStart => exact ⟨[], s, by simp, by simp, h0, hb1, hbx, hb2⟩
 case round =>
  clear c1 f1
  obtain ⟨pre, rest, hcut, hlen, hJ, g1, gx, g2⟩ := hrel
  obtain ⟨c1, f1⟩ := one_cell g1
  obtain ⟨cx, fx⟩ := one_cell gx
  obtain ⟨c2, f2⟩ := one_cell g2
  by_cases hlt : Lib.indexByte rest.data.toList c < 0
  ·have hd := decide_eq_true hlt
   gi_wp2
   refine ⟨trivial, fun h_ => absurd h_ (by simp [Fence.wide]), ?_⟩
   gi_at_call 55
   refine CallsIn.mono (callsIn_wide.2 (hIx rest _)) ?_
   rintro e_ w' ⟨rfl, nd, rfl⟩
   have cx' : (wr.drewN nd).cell? ⟨bx, 0, none⟩ = some (.string rest) := cx
   obtain ⟨fn, tmps, assign, body, hy, hR⟩ := hY pre rest (wr.drewN nd) (hJd _ _ _ hJ) ⟨[], by rw [hcut, cutsAt_none e c _ hlt, List.map_cons, List.map_nil, mk_data, List.append_nil]⟩
   gi_wp2
   refine ⟨fun h_ => absurd h_ (by simp [Fence.wide]), hR.mono ?_⟩
   have hall : (cutsAt e c s.data.toList).map mk_ = pre ++ [rest] := by rw [hcut, cutsAt_none e c _ hlt, List.map_cons, List.map_nil, mk_data]
   rintro e_ W3 (⟨rfl, hJ3, hk3⟩ | ⟨rfl, hJx3⟩)
   ·gi_wp2
    go_end0
    exact ⟨⟨_, rfl⟩, .inl ⟨_, rfl, by rw [hall]; exact hJ3⟩⟩
   ·gi_wp2
    go_end0
    exact ⟨⟨_, rfl⟩, .inr ⟨_, ⟨[], by rw [hall, List.append_nil]⟩, hJx3⟩⟩
  ·have hd := decide_eq_false hlt
   have hge := Lib.indexByte_ge rest.data.toList c
   obtain ⟨k, hk⟩ : ∃ k : Nat, Lib.indexByte rest.data.toList c = k := ⟨(Lib.indexByte rest.data.toList c).toNat, by omega⟩
   obtain ⟨hc1, hc2⟩ := cutsAt_some e c _ k hk
   have hkl : k < rest.size := by
    have := (List.getElem?_eq_some_iff.1 hc2).1
    have e1 : rest.data.toList.length = rest.size := by rw [Array.length_toList]; rfl
    omega
   obtain ⟨frag, hfrag⟩ : ∃ f, f = rest.extract 0 (k + e) := ⟨_, rfl⟩
   obtain ⟨rest2, hrest2⟩ : ∃ f, f = rest.extract (k + 1) rest.size := ⟨_, rfl⟩
   have hcut2 : (cutsAt e c s.data.toList).map mk_ = (pre ++ [frag]) ++ (cutsAt e c rest2.data.toList).map mk_ := by
    rw [hcut, hc1, List.map_cons, List.append_assoc, List.singleton_append, hfrag, hrest2]
    congr 2
    ·exact (frag_of rest c k e hc2 he).symm
    ·rw [rest_of rest k]
   have hsz2 : rest2.size + k + 1 = rest.size := by rw [hrest2, ByteArray.size_extract]; omega
   gi_wp2
   refine ⟨trivial, fun h_ => absurd h_ (by simp [Fence.wide]), ?_⟩
   gi_at_call 55
   refine CallsIn.mono (callsIn_wide.2 (hIx rest _)) ?_
   rintro e_ w' ⟨rfl, nd, rfl⟩
   rw [hk] at hd hlt ⊢
   have cx' : (wr.drewN nd).cell? ⟨bx, 0, none⟩ = some (.string rest) := cx
   have c2' : (wr.drewN nd).cell? ⟨b2, 0, none⟩ = some (.int .i64 (e : Int)) := c2
   have hw1 : wrap64 ((k : Int) + (e : Int)) = ((k + e : Nat) : Int) := by unfold wrap64; omega
   subst hfrag
   obtain ⟨fn, tmps, assign, body, hy, hR⟩ := hY pre (rest.extract 0 (k + e)) (wr.drewN nd) (hJd _ _ _ hJ) ⟨_, hcut2⟩
   gi_wp2
   refine ⟨fun h_ => absurd h_ (by simp [Fence.wide]), hR.mono ?_⟩
   clear hy hR
   rintro e_ W3 (⟨rfl, hJ3, hk3⟩ | ⟨rfl, hJx3⟩)
   ·have g1' := hk3.1.trans g1
    have gx' := hk3.2.1.trans gx
    have g2' := hk3.2.2.trans g2
    have hm0 := Aside0.mk cx
    clear c1 cx c2 f1 fx f2 cx' c2' g1 gx g2
    obtain ⟨c1, f1⟩ := one_cell g1'
    obtain ⟨cx, fx⟩ := one_cell gx'
    have hw2 : wrap64 ((k : Int) + 1) = ((k + 1 : Nat) : Int) := by unfold wrap64; omega
    gi_wp2
    go_roundw
    case rel => exact ⟨_, rest2, hcut2, by rw [List.length_append, List.length_singleton]; omega, hJb _ _ _ hJ3, (Below.heap_setCell W3 ⟨bx, 0, none⟩ _ b1 (fun h => n1 h.symm)).trans g1', by rw [hrest2]; exact blk_set gx' 0 _, (Below.heap_setCell W3 ⟨bx, 0, none⟩ _ b2 (fun h => n2 h.symm)).trans g2'⟩
    case measure =>
     have e2 := (one_cell (blk_set gx' 0 (.string (rest.extract (k + 1) rest.size)))).1
     simp only [e2, hm0.out]
     rw [← hrest2]; omega
   ·gi_wp2
    refine bodyPost_ret (results_none rfl _ _ _) rfl ?_
    exact ⟨⟨_, rfl⟩, .inr ⟨_, ⟨_, hcut2⟩, hJx3⟩⟩
theorem seq_made (s : ByteArray) (w : World) : Calls Tryd.prog 21 #[.string s, .string ⟨#[59]⟩] w fun e w' =>
 e = .returned (.func (.func 53) #[] #[.pointer (some ⟨w.heap.size + 1, 0, none⟩), .pointer (some ⟨w.heap.size, 0, none⟩), .pointer (some ⟨w.heap.size + 2, 0, none⟩)]) ∧ w' = ((w.alloc (.cells #[.string s] 9)).alloc (.cells #[.string (⟨#[59]⟩ : ByteArray)] 9)).alloc (.cells #[.int .i64 1] 3) := by
 have h40 : ∀ w, Calls Tryd.prog 40 #[.string s, .string ⟨#[59]⟩, .int .i64 1] w fun e w' =>
  e = .returned (.func (.func 53) #[] #[.pointer (some ⟨w.heap.size + 1, 0, none⟩), .pointer (some ⟨w.heap.size, 0, none⟩), .pointer (some ⟨w.heap.size + 2, 0, none⟩)]) ∧ w' = ((w.alloc (.cells #[.string s] 9)).alloc (.cells #[.string (⟨#[59]⟩ : ByteArray)] 9)).alloc (.cells #[.int .i64 1] 3) := by
  intro w
  go_enter Tryd.func40, Tryd.ntmps40
  go_wp2
  go_ret
  exact ⟨rfl, rfl⟩
 go_enter Tryd.func21, Tryd.ntmps21
 go_wp2_with (first | ((with_reducible refine gate_callee (f := 40) rfl ?_); refine goesL_ (some 9) rfl rfl Tryd.func40 (by kernel_rfl) rfl #[.string s, .string ⟨#[59]⟩, .int .i64 1] rfl (by (try simp only [List.map_toArray, List.map_cons, List.map_nil]); first | done | rfl) ?_; (with_reducible refine (h40 _).mono ?_); rintro e w' ⟨rfl, rfl⟩; refine ⟨_, rfl, ?_⟩))
 go_ret
 exact ⟨rfl, rfl⟩
theorem infoL_ : (Tryd.prog.info? 40).map (fun i => (i.zero, i.size, i.bytes)) = some (some (.agg #[.string ⟨#[]⟩, .int .i64 0]), 2, 24) := by kernel_rfl
theorem idx_one (s : ByteArray) (c : UInt8) : strings_Index.f s ⟨#[c]⟩ = some (Lib.indexByte s.data.toList c) := rfl
theorem row_of {W : World} {base base' : Nat} {v : Value} {out : List S40} {inner : List Value} (ho : W.ownsRow base 40 2 v out.length inner) (hr : Reps (fun (x : S40) (c : List Value) => c = [.string x.f0, .int .i64 x.f1]) 2 out inner) (hb : base' ≤ base) : Kd.R k40 40 W base' (fun _ => True) v out :=
 ⟨fun _ _ => trivial, inner, owns_mono ho hb, hr.imp_ (fun p c hp => by rw [hp]; exact k40_mkM _ _ _ p)⟩
set_option maxRecDepth 100000 in
set_option maxHeartbeats 4000000 in
theorem impl_ParseLoci.calls (k : Nat) (a0 : ByteArray) (r1 : List S40) (r2 : Bool) (w : World) (hT_ : TabW Tryd.prog 1 w) (h : impl_ParseLoci.f k a0 = some (r1, r2)) :
 Calls Tryd.prog 6 #[.string a0] w fun e w' => ∃ v1_ : Value, e = .returned (.tuple #[v1_, .bool r2]) ∧ Kd.R k40 40 w' w.heap.size (fun _ => True) v1_ r1 ∧ Below w.heap.size w w' := by
 unfold impl_ParseLoci.f at h
 split at h
 case isFalse => cases h
 rename_i hsz
 obtain ⟨out0, hrun, h⟩ := Option.bind_eq_some_iff.mp h
 obtain ⟨t, hA, h⟩ := Option.bind_eq_some_iff.mp h
 obtain ⟨i0, hi, hz0, hz1, hz2⟩ := info_parts infoL_
 refine (callsIn_wide (n := 9)).1 ?_
 refine callsIn_of_wp_marks Tryd.func6 rfl trivial ?_ rfl
 simp only [Tryd.ntmps6, List.size_toArray, List.length_cons, List.length_nil, Nat.reduceAdd, Nat.reduceSub, Array.replicate_succ, Array.replicate_zero, List.push_toArray, List.append_toArray, List.nil_append, List.cons_append]
 gi_wp2
 refine ⟨trivial, ?_⟩
 gi_at_call 21
 have b0 := Boxed.new w 22 (.slice none 0 0)
 have hB3 := below_alloc (Below.refl w.heap.size w) (.cells #[.slice none 0 0] 22)
 have hz3 := World.size_alloc w (.cells #[.slice none 0 0] 22)
 generalize w.alloc (.cells #[.slice none 0 0] 22) = w3 at b0 hB3 hz3 ⊢
 refine CallsIn.mono (callsIn_wide.2 (seq_made a0 _)) ?_
 rintro e3 w4 ⟨rfl, hw4⟩
 have px := ((Boxed.new w3 9 (.string a0)).alloc (.cells #[.string (⟨#[59]⟩ : ByteArray)] 9)).alloc (.cells #[.int .i64 1] 3)
 have p1 := (Boxed.new (w3.alloc (.cells #[.string a0] 9)) 9 (.string (⟨#[59]⟩ : ByteArray))).alloc (.cells #[.int .i64 1] 3)
 have p2 := Boxed.new ((w3.alloc (.cells #[.string a0] 9)).alloc (.cells #[.string (⟨#[59]⟩ : ByteArray)] 9)) 3 (.int .i64 1)
 replace b0 := ((b0.alloc (.cells #[.string a0] 9)).alloc (.cells #[.string (⟨#[59]⟩ : ByteArray)] 9)).alloc (.cells #[.int .i64 1] 3)
 have hB4 := below_alloc (below_alloc (below_alloc hB3 (.cells #[.string a0] 9)) (.cells #[.string (⟨#[59]⟩ : ByteArray)] 9)) (.cells #[.int .i64 1] 3)
 have hz4 : w4.heap.size = w3.heap.size + 3 := by rw [hw4]; simp only [World.size_alloc]
 simp only [World.size_alloc] at p1 p2
 rw [← hw4] at px p1 p2 b0 hB4
 clear hw4 hB3
 obtain ⟨all, hall⟩ : ∃ A, A = (cutsAt 1 59 a0.data.toList).map mk_ := ⟨_, rfl⟩
 replace hrun : impl_ParseLoci.run all [] = some out0 := by rw [hall]; exact hrun
 have HZ := Aside0.mk (And.intro hz3 hz4)
 clear hz3 hz4
 gi_wp2
 obtain ⟨hz3, hz4⟩ := HZ.out
 clear HZ
 refine wpIn_rangeFunc_box rfl (by omega) (gf := 53) (lb := #[.pointer (some ⟨w3.heap.size + 1, 0, none⟩), .pointer (some ⟨w3.heap.size, 0, none⟩), .pointer (some ⟨w3.heap.size + 2, 0, none⟩)]) rfl trivial (enters_of Tryd.func53 (by kernel_rfl) rfl)
  (encs := fun x : ByteArray => #[.string x]) (Kp := KpB (w3.heap.size + 1) w3.heap.size (w3.heap.size + 2)) (S := fun xs => xs = all) (Sp := fun pre => ∃ t, all = pre ++ t) (all := all) (w0 := w4) (bx := w3.heap.size) (by omega)
  ?seq (fun h k => ⟨k.1.trans h.1, k.2.1.trans h.2.1, k.2.2.trans h.2.2⟩) (fun W l o o' hl _ _ _ => ⟨World.putObj_heap_other (by omega), World.putObj_heap_other (by omega), World.putObj_heap_other (by omega)⟩) (Below.refl _ _) (fun _ => rfl)
  (fun pre W => (∃ (rest : List ByteArray) (out : List S40) (v : Value) (inner : List Value), w4.heap.size ≤ W.heap.size ∧ all = pre ++ rest ∧ impl_ParseLoci.run rest out = some out0 ∧ out.length ≤ 9 ∧ Boxed W w.heap.size 22 v ∧ W.ownsRow w4.heap.size 40 2 v out.length inner ∧ Reps (fun (x : S40) (c : List Value) => c = [.string x.f0, .int .i64 x.f1]) 2 out inner) ∧ Below w.heap.size w W)
  (fun _ _ _ => False)
  ?hI (fun _ _ _ _ _ hs _ _ => hs) ?hIb (fun _ _ _ _ hs => hs) ?hId (fun _ _ _ _ hs => hs) ⟨⟨all, [], _, [], Nat.le_refl _, rfl, hrun, by simp, b0, World.ownsRow_nil _ _ _ _, Reps.none _ _⟩, hB4⟩
  (fun x => { tmps := #[.string a0, undef, .slice none 0 0, .bool false, .pointer (some ⟨w.heap.size, 0, none⟩), .string x, undef, undef, undef, undef, undef, .string a0, .func (.func 53) #[] #[.pointer (some ⟨w3.heap.size + 1, 0, none⟩), .pointer (some ⟨w3.heap.size, 0, none⟩), .pointer (some ⟨w3.heap.size + 2, 0, none⟩)], .string x, undef, undef, undef, undef, undef, undef, undef, undef, undef, undef, undef, undef, undef, undef, undef, undef, undef, undef, undef, undef, undef, undef, undef, undef, undef, undef, undef, undef, undef, undef, undef, undef, undef, undef, undef], defers := [] }) ?assign ?body ?done ?stop
 case seq =>
  intro l J Jx W hW hJ hJx hJb hJxb hJd hJxd hY h0
  subst hall
  exact seq_closure l w3.heap.size (w3.heap.size + 1) (w3.heap.size + 2) 8 59 1 (.inr rfl) a0 (by omega) J Jx hJb hJd (fun s w => (strings_Index.calls s ⟨#[59]⟩ _ w (idx_one s 59)).mono fun _ _ ⟨h1, h2⟩ => ⟨h1, drawn_ h2⟩) hY W (boxed_below p1 hW) (boxed_below px hW) (boxed_below p2 hW) (by omega) (by omega) h0
 case hI =>
  rintro s W W' row ⟨⟨rest, out, v, inner, hN, h1, h2, h3, q0, q4, q5⟩, hB⟩ hg hr
  have hne : ∀ B, B < w4.heap.size → some B ≠ row := fun B hB e => by have := (hr _ e.symm).1; omega
  exact ⟨⟨rest, out, v, inner, Nat.le_trans hN hg.size, h1, h2, h3, q0.kept hg (hne _ (by omega)), owns_kept q4 hg (fun r e => (hr r e).2), q5⟩, ownFrom_below (w₀ := w) (Nat.le_refl _) (by omega) s W W' row hB hg hr⟩
 case hIb =>
  rintro s W u ⟨⟨rest, out, v, inner, hN, h1, h2, h3, q0, q4, q5⟩, hB⟩
  exact ⟨⟨rest, out, v, inner, by rw [World.size_setCell]; exact hN, h1, h2, h3, boxed_far q0 (by omega) u, owns_far q4 (by omega) u, q5⟩, below_set hB (by show w.heap.size ≤ w3.heap.size; omega)⟩
 case hId =>
  rintro s W m ⟨⟨rest, out, v, inner, hN, h1, h2, h3, q0, q4, q5⟩, hB⟩
  exact ⟨⟨rest, out, v, inner, hN, h1, h2, h3, q0, q4, q5⟩, pw_below_drewN hB m⟩
 case assign =>
  intro l x W K hK
  clear hz3 hz4
  gi_wp2
  exact hK
 case body =>
  rintro l pre x W ⟨⟨rest, out, v, inner, hN, h1, h2, h3, q0, q4, q5⟩, hB⟩ ⟨tl, htl⟩
  obtain rfl : rest = x :: tl := by
   rw [h1, List.append_assoc] at htl
   exact List.append_cancel_left htl
  have hall' : all = (pre ++ [x]) ++ tl := htl
  have HZ := Aside0.mk (And.intro hz3 hz4)
  clear hz3 hz4
  simp only [impl_ParseLoci.run] at h2
  obtain ⟨o1, hone, h2⟩ := Option.bind_eq_some_iff.mp h2
  unfold impl_ParseLoci.one at hone
  obtain ⟨Av, cv, rfl⟩ := owns_slice q4
  have d0 := q0.cell
  by_cases cx : x.toList = []
  ·rw [if_pos cx] at hone
   obtain rfl := Option.some.inj hone
   have cxb : (x.toList == ([] : List UInt8)) = true := beq_iff_eq.mpr cx
   gi_wp2
   exact ⟨KeepsOthers.refl _, ⟨rfl, rfl, rfl⟩, ⟨hN, tl, hall.symm.trans hall', out, h2, h3, _, q0, inner, q4, q5⟩, hB⟩
  rw [if_neg cx] at hone
  have cxb : (x.toList == ([] : List UInt8)) = false := beq_eq_false_iff_ne.mpr cx
  by_cases c8 : 8 < out.length
  ·rw [if_pos c8] at hone
   obtain rfl := Option.some.inj hone
   have c8b : decide ((8 : Int) < (out.length : Int)) = true := decide_eq_true (by omega)
   have c8c : decide (8 < out.length) = true := decide_eq_true c8
   gi_wp2
   exact ⟨KeepsOthers.refl _, ⟨rfl, rfl, rfl⟩, ⟨hN, tl, hall.symm.trans hall', out, h2, h3, _, q0, inner, q4, q5⟩, hB⟩
  rw [if_neg c8] at hone
  have c8b : decide ((8 : Int) < (out.length : Int)) = false := decide_eq_false (by omega)
  have c8c : decide (8 < out.length) = false := decide_eq_false c8
  obtain ⟨y, hy, hone⟩ := Option.bind_eq_some_iff.mp hone
  obtain ⟨⟨who, at_, fnd⟩, hc, hone⟩ := Option.bind_eq_some_iff.mp hone
  obtain ⟨⟨ang, ok⟩, hd, hone⟩ := Option.bind_eq_some_iff.mp hone
  dsimp only at hd hone
  obtain rfl := Option.some.inj hone
  gi_wp2
  refine ⟨trivial, ?_⟩
  gi_at_call 23
  refine CallsIn.mono (CallsIn.inRound l (callsIn_wide.2 (strings_TrimSuffix.calls x ⟨#[59]⟩ y _ hy))) ?_
  rintro e5 w5 ⟨rfl, ⟨nd, rfl⟩⟩
  gi_wp2
  refine ⟨trivial, ?_⟩
  gi_at_call 22
  refine CallsIn.mono (CallsIn.inRound l (callsIn_wide.2 (strings_Cut.calls y ⟨#[64]⟩ who at_ fnd _ hc))) ?_
  rintro e6 w6 ⟨rfl, ⟨nd2, rfl⟩⟩
  have hB6 := pw_below_drewN (pw_below_drewN hB nd) nd2
  have kp6 : KpB (w3.heap.size + 1) w3.heap.size (w3.heap.size + 2) W ((W.drewN nd).drewN nd2) := ⟨rfl, rfl, rfl⟩
  have ko6 : KeepsOthers W ((W.drewN nd).drewN nd2) := ⟨Nat.le_refl _, fun _ _ h _ => h⟩
  replace q0 : Boxed ((W.drewN nd).drewN nd2) w.heap.size 22 (.slice Av out.length cv) := q0
  replace q4 : ((W.drewN nd).drewN nd2).ownsRow w4.heap.size 40 2 (.slice Av out.length cv) out.length inner := q4
  have hN6 : w4.heap.size ≤ ((W.drewN nd).drewN nd2).heap.size := hN
  clear d0
  generalize (W.drewN nd).drewN nd2 = w6 at q0 q4 hB6 kp6 ko6 hN6 ⊢
  gi_wp2
  refine ⟨trivial, ?_⟩
  gi_at_call 24
  refine CallsIn.mono (CallsIn.inRound l (callsIn_wide.2 (impl_decimal.calls at_ ang ok _ (TabW.below hT_ hB6) hd))) ?_
  rintro e7 w7 ⟨rfl, hb⟩
  obtain ⟨hz3, hz4⟩ := HZ.out
  have hB7 := below_step hB6 hb
  have ko7 := ko6.trans (ko_below hb)
  have kp7 := kp_trans kp6 (kp_below (b1 := w3.heap.size + 1) (bx := w3.heap.size) (b2 := w3.heap.size + 2) hb (by omega) (by omega) (by omega))
  have hN7 := Nat.le_trans hN6 hb.size
  replace q0 := boxed_below q0 hb
  replace q4 := owns_below q4 hb
  clear hb ko6 kp6 hB6 hN6 hz3 hz4
  have d3 := q0.cell
  gi_wp2_with (gi_at_builtin; refine wpListIn_append_own _ rfl _ _ 22 rfl w4.heap.size 40 i0 (.agg #[.string ⟨#[]⟩, .int .i64 0]) 2 24 Tryd.underlying22 hi hz0 hz1 hz2 rfl (by decide) _ _ _ rfl (q4.alloc _) ⟨w7.heap.size, 0, none⟩ 1 1 [.string who, .int .i64 ang] rfl rfl (World.news_of_block (World.alloc_heap_new w7 (.cells #[.string who, .int .i64 ang] 40))) (by simp [Value.oneCell']) (by simp only [maxLen]; omega) (by omega) (by rw [World.size_alloc]; omega) ?_; intro v' w8 hown' hgrow _; obtain ⟨g', cap', rfl⟩ := ownsRow_succ hown'; have hfar : ∀ b, b < w4.heap.size → some b ≠ (Value.slice Av out.length cv).ownBlock := (fun b hb he => by have := own_base q4 b he.symm; omega); have a1_ := (q0.alloc (.cells #[.string who, .int .i64 ang] 40)).kept hgrow (hfar _ (by have := HZ.out; omega)); have d4 := a1_.cell; have g4 := a1_.frozen)
  obtain ⟨hz3, hz4⟩ := HZ.out
  obtain ⟨_, a2_, _, a4_, a5_⟩ := q0.appended (by decide) (owns_mono (base' := w.heap.size) q4 (by omega)) (by omega) (by omega) (owns_mono (base' := w.heap.size) hown' (by omega)) hgrow
  refine ⟨ko7.trans a4_, kp_grown kp7 hgrow (by omega) (by omega) (by omega) (hfar _ (by omega)) (hfar _ (by omega)) (hfar _ (by omega)) (by omega) (by omega) (by omega) _, ⟨tl, out ++ [⟨who, ang⟩], .slice (some ⟨g', 0, none⟩) (out.length + 1) cap', inner ++ [.string who, .int .i64 ang], ?_, hall', h2, by rw [List.length_append, List.length_singleton]; omega, a2_, ?_, ?_⟩, hB7.trans a5_⟩
  ·exact Nat.le_trans hN7 a4_.size
  ·rw [List.length_append, List.length_singleton]
   exact hown'.kept (grownBy_setCell' w8 w.heap.size _) (.inr (a1_.not_row (by decide) hown').symm)
  ·exact q5.snoc rfl rfl
 case done =>
  rintro D xs W hD rfl ⟨⟨rest, out, v, inner, hN, h1, h2, h3, q0, q4, q5⟩, hB⟩ hK
  obtain rfl : rest = [] := by simpa using h1
  simp only [impl_ParseLoci.run, Option.some.injEq] at h2
  subst h2
  obtain ⟨Av, cv, rfl⟩ := owns_slice q4
  have hR := row_of q4 q5 (Nat.le_refl _)
  have hcr := Kd.R_reads' hR
  have d0 := q0.cell
  have hDl := (Array.getElem?_eq_some_iff.1 hK).1
  gi_wp2
  refine ⟨trivial, ?_⟩
  gi_at_call 25
  refine CallsIn.mono (callsIn_wide.2 (impl_AreLoci.calls k _ _ out t _ hcr.2.2 hcr.2.1 hA)) ?_
  rintro e5 w5 ⟨rfl, hb⟩
  have hB5 := below_step hB hb
  have hK5 := (hb.block D hDl).trans hK
  have q6 := owns_below q4 hb
  replace q0 := boxed_below q0 hb
  have hs5 := hb.size
  clear hb d0
  have d0 := q0.cell
  have HZ := Aside0.mk (And.intro hz3 hz4)
  clear hz3 hz4
  cases t with
  | false =>
   rw [if_neg (by decide)] at h
   simp only [Option.some.injEq, Prod.mk.injEq] at h
   obtain ⟨rfl, rfl⟩ := h
   gi_wp2
   refine ⟨trivial, ?_⟩
   gi_wp2
   obtain ⟨hz3, hz4⟩ := HZ.out
   refine ⟨by simp, .inl ⟨_, _, rfl, run_takeDeferred hK5, ?_⟩⟩
   exact ⟨_, results_tmp2 rfl _ _ _, _, rfl, Kd.R_nil _ _ _ _ _, hB5.trans (belowK_b (w := w) (Nat.le_refl _) _ D _ _ (by omega) hK5 rfl rfl)⟩
  | true =>
   rw [if_pos rfl] at h
   obtain ⟨s, hs, h⟩ := Option.bind_eq_some_iff.mp h
   have hR6 := row_of q6 q5 (Nat.le_refl _)
   have hcr6 := Kd.R_reads' hR6
   gi_wp2
   refine ⟨trivial, ?_⟩
   gi_at_call 26
   refine CallsIn.mono (callsIn_wide.2 (impl_lociText.calls k _ _ out s _ (TabW.weak (a := 1) (TabW.below hT_ hB5) (by decide)) hcr6.2.2 hcr6.2.1 hs)) ?_
   rintro e6 w6 ⟨rfl, hb⟩
   have hB6 := below_step hB5 hb
   have hK6 := (hb.block D (Nat.lt_of_lt_of_le hDl hs5)).trans hK5
   have q7 := owns_below q6 hb
   replace q0 := boxed_below q0 hb
   clear hb d0
   have d0 := q0.cell
   by_cases cs : s.toList = a0.toList
   ·rw [if_pos cs] at h
    simp only [Option.some.injEq, Prod.mk.injEq] at h
    obtain ⟨rfl, rfl⟩ := h
    have cs0 : (s.toList == a0.toList) = true := beq_iff_eq.mpr cs
    have cs1 : (s.toList != a0.toList) = false := bne_eq_false_iff_eq.mpr cs
    gi_wp2
    obtain ⟨hz3, hz4⟩ := HZ.out
    refine ⟨by simp, .inl ⟨_, _, rfl, run_takeDeferred hK6, ?_⟩⟩
    exact ⟨_, results_tmp2 rfl _ _ _, _, rfl, row_of (ownsRow_putObj q7 _ hK6 rfl) q5 (by omega), hB6.trans (belowK_b (w := w) (Nat.le_refl _) _ D _ _ (by omega) hK6 rfl rfl)⟩
   ·rw [if_neg cs] at h
    simp only [Option.some.injEq, Prod.mk.injEq] at h
    obtain ⟨rfl, rfl⟩ := h
    have cs0 : (s.toList == a0.toList) = false := beq_eq_false_iff_ne.mpr cs
    have cs1 : (s.toList != a0.toList) = true := bne_iff_ne.mpr cs
    gi_wp2
    obtain ⟨hz3, hz4⟩ := HZ.out
    refine ⟨by simp, .inl ⟨_, _, rfl, run_takeDeferred hK6, ?_⟩⟩
    exact ⟨_, results_tmp2 rfl _ _ _, _, rfl, Kd.R_nil _ _ _ _ _, hB6.trans (belowK_b (w := w) (Nat.le_refl _) _ D _ _ (by omega) hK6 rfl rfl)⟩
 case stop =>
  rintro D c pre W _ _ h _
  exact h.elim
end

/-! ### laws_eqLocus: function 27 -/
set_option maxHeartbeats 8000000 in
set_option maxRecDepth 100000 in
theorem laws_eqLocus.calls (a0_0 : ByteArray) (a0_1 : Int) (a1_0 : ByteArray) (a1_1 : Int) (r : Bool) (w : World) (h : laws_eqLocus.f a0_0 a0_1 a1_0 a1_1 = some r) :
 Calls Tryd.prog 27 #[.agg #[.string a0_0, .int .i64 a0_1], .agg #[.string a1_0, .int .i64 a1_1]] w fun e w' => e = .returned (.bool r) ∧ Below w.heap.size w w' := by
 have hu40 := Tryd.underlying40
 have HB := Aside0.mk (Below.refl w.heap.size w)
 have H : (if a0_0.toList = a1_0.toList then (if a0_1 = a1_1 then (some true) else (some false)) else (some false)) = some r := h
 clear h
 by_cases c3 : a0_0.toList = a1_0.toList
 ·rw [if_pos c3] at H
  have c3b0 : (a0_0.toList == a1_0.toList) = true := beq_iff_eq.mpr c3
  have c3b1 : (a0_0.toList != a1_0.toList) = false := bne_eq_false_iff_eq.mpr c3
  clear c3
  by_cases c4 : a0_1 = a1_1
  ·rw [if_pos c4] at H
   have c4b0 : (a0_1 == a1_1) = true := beq_iff_eq.mpr c4
   have c4b1 : (a0_1 != a1_1) = false := bne_eq_false_iff_eq.mpr c4
   clear c4
   obtain rfl := Option.some.inj H
   go_enter Tryd.func27, Tryd.ntmps27
   go_wp2_with (first | ((with_reducible refine gate_dst (N := 2) rfl ?_); refine box_event ?hg (N := 2) ?hd (cs := #[.string a0_0, .int .i64 a0_1]) (t := 40) ?hr ?_; (case hd => rfl); (case hg => rfl); (case hr => first | (go_simp; done) | (go_simp; rfl)); intro gb196 hg w5 hbox hb; have BK196 := aM_ (hbox); have GW196 := aM_ (gw_ w hg); have GE196 := aM_ (gw_ w hg); replace HB := aM_ (below_step hB_ hb); clear hb hbox hg) | ((with_reducible refine gate_dst (N := 3) rfl ?_); refine box_event ?hg (N := 3) ?hd (cs := #[.string a1_0, .int .i64 a1_1]) (t := 40) ?hr ?_; (case hd => rfl); (case hg => rfl); (case hr => first | (go_simp; done) | (go_simp; rfl)); intro gb197 hg w6 hbox hb; have BK197 := aM_ (hbox); have GW197 := aM_ (gw_ w hg); have GE197 := aM_ (gw_ w hg); have NB196_197 := aM_ (nR_ BK196 hg); have NB197_196 := aM_ (mR_ BK196 hg); replace BK196 := aM_ (blk_below (g := gb196) (kR_ BK196) hb); replace HB := aM_ (below_step hB_ hb); clear hb hbox hg; have hnb7 := NB196_197.out; have hnc7 := NB197_196.out; have hz8 := cf2_ BK196.out; have hz9 := cf2_ BK197.out; clear BK196))
   go_ret
   exact ⟨rT_, hB_⟩
  ·rw [if_neg c4] at H
   have c4b0 : (a0_1 == a1_1) = false := beq_eq_false_iff_ne.mpr c4
   have c4b1 : (a0_1 != a1_1) = true := bne_iff_ne.mpr c4
   obtain rfl := Option.some.inj H
   go_enter Tryd.func27, Tryd.ntmps27
   go_wp2_with (first | ((with_reducible refine gate_dst (N := 2) rfl ?_); refine box_event ?hg (N := 2) ?hd (cs := #[.string a0_0, .int .i64 a0_1]) (t := 40) ?hr ?_; (case hd => rfl); (case hg => rfl); (case hr => first | (go_simp; done) | (go_simp; rfl)); intro gb196 hg w10 hbox hb; have BK196 := aM_ (hbox); have GW196 := aM_ (gw_ w hg); have GE196 := aM_ (gw_ w hg); replace HB := aM_ (below_step hB_ hb); clear hb hbox hg) | ((with_reducible refine gate_dst (N := 3) rfl ?_); refine box_event ?hg (N := 3) ?hd (cs := #[.string a1_0, .int .i64 a1_1]) (t := 40) ?hr ?_; (case hd => rfl); (case hg => rfl); (case hr => first | (go_simp; done) | (go_simp; rfl)); intro gb197 hg w11 hbox hb; have BK197 := aM_ (hbox); have GW197 := aM_ (gw_ w hg); have GE197 := aM_ (gw_ w hg); have NB196_197 := aM_ (nR_ BK196 hg); have NB197_196 := aM_ (mR_ BK196 hg); replace BK196 := aM_ (blk_below (g := gb196) (kR_ BK196) hb); replace HB := aM_ (below_step hB_ hb); clear hb hbox hg; have hnb12 := NB196_197.out; have hnc12 := NB197_196.out; have hz13 := cf2_ BK196.out; have hz14 := cf2_ BK197.out; clear BK196))
   go_ret
   exact ⟨rT_, hB_⟩
 ·rw [if_neg c3] at H
  have c3b0 : (a0_0.toList == a1_0.toList) = false := beq_eq_false_iff_ne.mpr c3
  have c3b1 : (a0_0.toList != a1_0.toList) = true := bne_iff_ne.mpr c3
  obtain rfl := Option.some.inj H
  go_enter Tryd.func27, Tryd.ntmps27
  go_wp2_with (first | ((with_reducible refine gate_dst (N := 2) rfl ?_); refine box_event ?hg (N := 2) ?hd (cs := #[.string a0_0, .int .i64 a0_1]) (t := 40) ?hr ?_; (case hd => rfl); (case hg => rfl); (case hr => first | (go_simp; done) | (go_simp; rfl)); intro gb196 hg w15 hbox hb; have BK196 := aM_ (hbox); have GW196 := aM_ (gw_ w hg); have GE196 := aM_ (gw_ w hg); replace HB := aM_ (below_step hB_ hb); clear hb hbox hg) | ((with_reducible refine gate_dst (N := 3) rfl ?_); refine box_event ?hg (N := 3) ?hd (cs := #[.string a1_0, .int .i64 a1_1]) (t := 40) ?hr ?_; (case hd => rfl); (case hg => rfl); (case hr => first | (go_simp; done) | (go_simp; rfl)); intro gb197 hg w16 hbox hb; have BK197 := aM_ (hbox); have GW197 := aM_ (gw_ w hg); have GE197 := aM_ (gw_ w hg); have NB196_197 := aM_ (nR_ BK196 hg); have NB197_196 := aM_ (mR_ BK196 hg); replace BK196 := aM_ (blk_below (g := gb196) (kR_ BK196) hb); replace HB := aM_ (below_step hB_ hb); clear hb hbox hg; have hnb17 := NB196_197.out; have hnc17 := NB197_196.out; have hz18 := cf2_ BK196.out; clear BK196; have hz19 := cf2_ BK197.out))
  go_ret
  exact ⟨rT_, hB_⟩

end Go.Proofs.YtgjljcejhdpibaaDoor.PFnExactParseLoci
