/- Written by a program of this claim's author, out of the loaded program as Lean prints it: the functions as Lean functions, and that the calls answer so. -/
import Derived.Test.YtgjljcejhdpibaaDoorPFnExactParseLocix0
import Derived.Test.YtgjljcejhdpibaaDoorPFnExactParseLocix1
import Derived.Test.YtgjljcejhdpibaaDoorPFnExactParseLocix3
import Derived.Test.YtgjljcejhdpibaaDoorPFnExactParseLocixD0
namespace Go.Proofs.YtgjljcejhdpibaaDoor.PFnExactParseLoci
open Go.RowKit Go.Proofs.YtgjljcejhdpibaaDoorW.PrintWords Go.Proofs.YtgjljcejhdpibaaDoorW.PrintLast Go.Proofs.YtgjljcejhdpibaaDoorW.PrintMore
attribute [local go_sem] max2_int min2_int max_two min_two max_three min_three max_four min_four isSome_setCell   -- for this text's walks alone
theorem yactParseLocix4_0_ {p : Prop} (h : p := by first | rfl | (simp; done) | (simp [*]; done)) : p := h
theorem yactParseLocix4_1_ {p : Prop} (h : p := by first | (with_reducible assumption) | assumption) : p := h
theorem yactParseLocix4_2_ {p : Prop} (h : p := by first | exact Kd.R_nil _ _ _ _ _ | exact Kd.N_nil _ _ _ _ _ | exact Kd.V_nil _ _ _ _ _ | exact Kd.Q_nil _ _ _ _ _ | exact Kd.S_nil _ _ _ _ _) : p := h
theorem yactParseLocix4_3_ {p : Prop} (h : p := by (with_reducible repeat (first | apply Kd.R_alloc | apply Kd.R_drewN | apply Kd.R_drew)); exact HO_18.out) : p := h
theorem yactParseLocix4_4_ {p : Prop} (h : p := by (with_reducible repeat (first | apply Kd.R_alloc | apply Kd.R_drewN | apply Kd.R_drew)); exact HO_5.out) : p := h
theorem yactParseLocix4_5_ {p : Prop} (h : p := by (with_reducible repeat (first | apply Kd.R_alloc | apply Kd.R_drewN | apply Kd.R_drew)); exact HO152.out) : p := h
theorem yactParseLocix4_6_ {p : Prop} (h : p := by first | rfl | (simp [errW_none, errW_some] <;> rfl) | (simp only [← hji6]; first | rfl | (simp [errW_none, errW_some] <;> rfl)) | (simp [*, errW_none, errW_some] <;> rfl)) : p := h
theorem yactParseLocix4_7_ {p : Prop} (h : p := by repeat (first | exact Drawn0.refl _ | apply Drawn0.step)) : p := h
abbrev bactParseLocix4_11_0 : Array Bool := #[false, false, false, false, false, false, false, false, false, false, false]
abbrev bactParseLocix4_11_1 : Array Bool := #[true, false, false, false, false, false, false, false, false, false, false]
abbrev bactParseLocix4_11_13 : Array Bool := #[true, true, false, false, true, false, false, false, false, false, false]
abbrev bactParseLocix4_11_17 : Array Bool := #[true, true, true, false, true, false, false, false, false, false, false]
abbrev bactParseLocix4_11_1f : Array Bool := #[true, true, true, true, true, false, false, false, false, false, false]
abbrev bactParseLocix4_11_1ff : Array Bool := #[true, true, true, true, true, true, true, true, true, false, false]
abbrev bactParseLocix4_11_3 : Array Bool := #[true, true, false, false, false, false, false, false, false, false, false]
abbrev bactParseLocix4_11_3f : Array Bool := #[true, true, true, true, true, true, false, false, false, false, false]
abbrev bactParseLocix4_11_3ff : Array Bool := #[true, true, true, true, true, true, true, true, true, true, false]
abbrev bactParseLocix4_11_7f : Array Bool := #[true, true, true, true, true, true, true, false, false, false, false]
abbrev bactParseLocix4_11_7ff : Array Bool := #[true, true, true, true, true, true, true, true, true, true, true]
abbrev bactParseLocix4_11_ff : Array Bool := #[true, true, true, true, true, true, true, true, false, false, false]
abbrev bactParseLocix4_12_0 : Array Bool := #[false, false, false, false, false, false, false, false, false, false, false, false]
abbrev bactParseLocix4_12_1 : Array Bool := #[true, false, false, false, false, false, false, false, false, false, false, false]
abbrev bactParseLocix4_12_17 : Array Bool := #[true, true, true, false, true, false, false, false, false, false, false, false]
abbrev bactParseLocix4_12_1ff : Array Bool := #[true, true, true, true, true, true, true, true, true, false, false, false]
abbrev bactParseLocix4_12_3 : Array Bool := #[true, true, false, false, false, false, false, false, false, false, false, false]
abbrev bactParseLocix4_12_37 : Array Bool := #[true, true, true, false, true, true, false, false, false, false, false, false]
abbrev bactParseLocix4_12_3f : Array Bool := #[true, true, true, true, true, true, false, false, false, false, false, false]
abbrev bactParseLocix4_12_3ff : Array Bool := #[true, true, true, true, true, true, true, true, true, true, false, false]
abbrev bactParseLocix4_12_7 : Array Bool := #[true, true, true, false, false, false, false, false, false, false, false, false]
abbrev bactParseLocix4_12_7f : Array Bool := #[true, true, true, true, true, true, true, false, false, false, false, false]
abbrev bactParseLocix4_12_7ff : Array Bool := #[true, true, true, true, true, true, true, true, true, true, true, false]
abbrev bactParseLocix4_12_ff : Array Bool := #[true, true, true, true, true, true, true, true, false, false, false, false]
abbrev bactParseLocix4_12_fff : Array Bool := #[true, true, true, true, true, true, true, true, true, true, true, true]
set_option linter.unusedVariables false
set_option linter.unusedSimpArgs false

/-! ### spec_loText: function 20 -/
def spec_loText.T5 : Bool × List (List Nat × List Nat) := (true, [([], []), ([], []), ([1], [1]), ([2], [2]), ([], []), ([4], [4]), ([5], [5]), ([3, 6], [3, 6]), ([7], [7]), ([0, 8], [0, 8]), ([9, 6, 0, 1, 2, 3, 4, 5, 6, 7, 8, 9], [0, 9])])
def spec_loText.B5 : List Nat := [0, 0, 2, 6, 0, 16, 48, 126, 254, 511, 1023]
theorem spec_loText.tab5 : rtab .any (opsOf Tryd.f20 5) = spec_loText.T5 := by kernel_rfl
theorem spec_loText.bits5 : waitsOk spec_loText.T5.2 spec_loText.B5 = true := by kernel_rfl
set_option maxHeartbeats 8000000 in
set_option maxRecDepth 100000 in
theorem spec_loText.calls (k : Nat) (A0 : Option Addr) (c0 : Nat) (l0 : List (S40)) (r : ByteArray) (w : World) (hr0 : Kd.C k40 w A0 l0.length l0) (hc0 : l0.length ≤ c0) (h : spec_loText.f k l0 = some r) :
 Calls Tryd.prog 20 #[.slice A0 l0.length c0] w fun e w' => e = .returned (.string r) ∧ Below w.heap.size w w' := by
 have hu40 := Tryd.underlying40
 have HR0 := Aside0.mk hr0
 have HC0 := Aside0.mk hc0
 clear hr0 hc0
 have HB := Aside0.mk (Below.refl w.heap.size w)
 have H : (spec_loText.l0 k (⟨#[]⟩ : ByteArray) l0 (l0.length : Int) 0) = some r := h
 clear h
 have H' := Aside0.mk H
 clear H
 go_enter Tryd.func20, Tryd.ntmps20
 go_wp2
 go_loopg [3, 8] k (fun kq v3 v8 w' => ∃ (x3_1 : ByteArray) (x8_1 : Int), v3 = .string x3_1 ∧ v8 = .int .i64 x8_1 ∧ Aside0 (spec_loText.l0 kq x3_1 l0 (l0.length : Int) x8_1 = some r) ∧ Aside0 (kq ≤ k) ∧ Aside0 (Below w.heap.size w w'))
 case atStart => exact ⟨((⟨#[]⟩ : ByteArray)), (0), yactParseLocix4_0_, yactParseLocix4_0_, H', ⟨Nat.le_refl _⟩, ⟨hB_⟩⟩
 case round =>
  clear H'
  obtain ⟨x3_1, x8_1, rfl, rfl, HA, HK1, HB⟩ := hrel
  cases gk with
  | zero => exact absurd HA.out (by simp [spec_loText.l0])
  | succ k1 =>
   have H := HA.out
   clear HA
   simp only [spec_loText.l0] at H
   by_cases c2 : x8_1 < (l0.length : Int)
   ·rw [if_pos c2] at H
    have c2b0 : decide (x8_1 < (l0.length : Int)) = true := decide_eq_true c2
    clear c2
    by_cases c3 : 0 ≤ x8_1
    ·rw [if_pos c3] at H
     have c3b0 : decide (0 ≤ x8_1) = true := decide_eq_true c3
     clear c3
     by_cases c4 : x8_1 < (l0.length : Int)
     ·rw [if_pos c4] at H
      have c4b0 : decide (x8_1 < (l0.length : Int)) = true := decide_eq_true c4
      clear c4
      by_cases c5 : ((rd_T40 l0 x8_1).f0).size + 1 ≤ 9223372036854775807
      ·rw [if_pos c5] at H
       have c5b0 := eq_true c5
       have c5b1 : decide (((rd_T40 l0 x8_1).f0).size + 1 ≤ 9223372036854775807) = true := decide_eq_true c5
       try have c5b2 : (9223372036854775807 < ((rd_T40 l0 x8_1).f0).size + 1) = False := eq_false (Nat.not_lt.2 c5)
       replace H := Option.bind_eq_some_iff.mp H
       obtain ⟨t142, A60, H⟩ := H
       try dsimp only at H
       have A6 := Aside0.mk A60
       clear A60
       by_cases c7 : (((rd_T40 l0 x8_1).f0) ++ (⟨#[64]⟩ : ByteArray)).size + t142.size ≤ 9223372036854775807
       ·rw [if_pos c7] at H
        have c7b0 := eq_true c7
        have c7b1 : decide ((((rd_T40 l0 x8_1).f0) ++ (⟨#[64]⟩ : ByteArray)).size + t142.size ≤ 9223372036854775807) = true := decide_eq_true c7
        try have c7b2 : (9223372036854775807 < (((rd_T40 l0 x8_1).f0) ++ (⟨#[64]⟩ : ByteArray)).size + t142.size) = False := eq_false (Nat.not_lt.2 c7)
        try (have c7b3 := c7b2; simp only [ByteArray.size_append', ByteArray.size_mk', List.size_toArray, List.length_cons, List.length_nil, Nat.zero_add, Nat.reduceAdd] at c7b3)
        by_cases c8 : ((((rd_T40 l0 x8_1).f0) ++ (⟨#[64]⟩ : ByteArray)) ++ t142).size + 1 ≤ 9223372036854775807
        ·rw [if_pos c8] at H
         have c8b0 := eq_true c8
         have c8b1 : decide (((((rd_T40 l0 x8_1).f0) ++ (⟨#[64]⟩ : ByteArray)) ++ t142).size + 1 ≤ 9223372036854775807) = true := decide_eq_true c8
         try have c8b2 : (9223372036854775807 < ((((rd_T40 l0 x8_1).f0) ++ (⟨#[64]⟩ : ByteArray)) ++ t142).size + 1) = False := eq_false (Nat.not_lt.2 c8)
         try (have c8b3 := c8b2; simp only [ByteArray.size_append', ByteArray.size_mk', List.size_toArray, List.length_cons, List.length_nil, Nat.zero_add, Nat.reduceAdd] at c8b3)
         by_cases c9 : x3_1.size + (((((rd_T40 l0 x8_1).f0) ++ (⟨#[64]⟩ : ByteArray)) ++ t142) ++ (⟨#[59]⟩ : ByteArray)).size ≤ 9223372036854775807
         ·rw [if_pos c9] at H
          have c9b0 := eq_true c9
          have c9b1 : decide (x3_1.size + (((((rd_T40 l0 x8_1).f0) ++ (⟨#[64]⟩ : ByteArray)) ++ t142) ++ (⟨#[59]⟩ : ByteArray)).size ≤ 9223372036854775807) = true := decide_eq_true c9
          try have c9b2 : (9223372036854775807 < x3_1.size + (((((rd_T40 l0 x8_1).f0) ++ (⟨#[64]⟩ : ByteArray)) ++ t142) ++ (⟨#[59]⟩ : ByteArray)).size) = False := eq_false (Nat.not_lt.2 c9)
          try (have c9b3 := c9b2; simp only [ByteArray.size_append', ByteArray.size_mk', List.size_toArray, List.length_cons, List.length_nil, Nat.zero_add, Nat.reduceAdd] at c9b3)
          have H' := Aside0.mk H
          clear H
          have p140 : 0 ≤ (x8_1 : Int) := of_decide_eq_true yactParseLocix4_1_
          have q140 : x8_1 < (l0.length : Int) := of_decide_eq_true yactParseLocix4_1_
          obtain ⟨ad140, e140, hx140_0, hx140_1⟩ := at_T40 HR0.out x8_1 p140 q140
          cases e140
          try replace hx140_0 := (HB.out.cell (World.block_lt_of_cell? w _ hx140_0)).trans hx140_0
          try replace hx140_1 := (HB.out.cell (World.block_lt_of_cell? w _ hx140_1)).trans hx140_1
          replace p140 := eq_true p140
          replace q140 := eq_true q140
          try go_wp2_with (first | ((with_reducible refine gate_dst (N := 5) rfl ?_); refine box_event ?hg (N := 5) ?hd (cs := #[.string (⟨#[]⟩ : ByteArray), .int .i64 0]) (t := 40) ?hr ?_; (case hd => rfl); (case hg => rfl); (case hr => first | (go_simp; done) | (go_simp; rfl)); intro gb141 hg w10 hbox hb; have BK141 := aM_ (hbox); have GW141 := aM_ (gw_ w hg); have GE141 := aM_ (gw_ w hg); replace HB := aM_ (below_step hB_ hb); clear hb hbox hg; have hz11 := cf2_ BK141.out))
          have n0_ : Aside0 (((w10.setCell ⟨gb141, 0, none⟩ (.string ((rd_T40 l0 x8_1).f0))).setCell ⟨gb141, 1, none⟩ (.int .i64 ((rd_T40 l0 x8_1).f1))).heap[gb141]? = some (.cells #[.string ((rd_T40 l0 x8_1).f0), .int .i64 ((rd_T40 l0 x8_1).f1)] 40 (0, 0))) := ⟨by (with_reducible repeat (first | apply kN_ | apply kD_ | apply kA_)); refine blk_put (cs := #[.string ((rd_T40 l0 x8_1).f0), .int .i64 0]) ?_ 1 _ rfl; (with_reducible repeat (first | apply kN_ | apply kD_ | apply kA_)); refine blk_put (cs := #[.string (⟨#[]⟩ : ByteArray), .int .i64 0]) ?_ 0 _ rfl; (with_reducible repeat (first | apply kN_ | apply kD_ | apply kA_)); exact BK141.out⟩
          have n1_ : Aside0 (Below w.heap.size w ((w10.setCell ⟨gb141, 0, none⟩ (.string ((rd_T40 l0 x8_1).f0))).setCell ⟨gb141, 1, none⟩ (.int .i64 ((rd_T40 l0 x8_1).f1)))) := ⟨hB_⟩
          (try clear BK141)
          (try clear HB)
          generalize ((w10.setCell ⟨gb141, 0, none⟩ (.string ((rd_T40 l0 x8_1).f0))).setCell ⟨gb141, 1, none⟩ (.int .i64 ((rd_T40 l0 x8_1).f1))) = w12 at n0_ n1_ ⊢
          have BK141 := n0_
          have HB := n1_
          clear n0_ n1_
          replace BK141 := aM_ (blk_drew BK141.out)
          replace HB := aM_ (below_drew1 HB.out)
          refine start_ (n := 11) (S := fun w' => w'.cell? ⟨gb141, 0, none⟩ = some (.string ((rd_T40 l0 x8_1).f0)) ∧ w'.cell? ⟨gb141, 1, none⟩ = some (.int .i64 ((rd_T40 l0 x8_1).f1))) (ds := []) bactParseLocix4_11_0 (by kernel_rfl) rfl rfl ⟨(blk_cell BK141.out 0).trans rfl, (blk_cell BK141.out 1).trans rfl⟩ (fun hHeld => ?_); refine with_tabW spec_loText.tab5 spec_loText.bits5 (fun HT_ HW_ => ?_)
          generalize w12.drew = w13 at BK141 HB hHeld ⊢
          refine pure_ (i := 0) (N := some 12) (v := ?_) (a' := ?_) bactParseLocix4_11_1 rfl rfl (any_of HT_.out (by kernel_rfl)) (fun _ _ _ h => h) (Or.inl ⟨by rfl, ?_⟩) ?_ ?_
          rotate_left
          ·intro w'
           go_simp
           with_reducible rfl
          rotate_left
          ·simp only [Act.put, List.setIfInBounds_toArray, List.set_cons_zero, List.set_cons_succ, i64_w, i32_w]
           rfl
          refine pure_ (i := 1) (N := some 13) (v := ?_) (a' := ?_) bactParseLocix4_11_3 rfl rfl (any_of HT_.out (by kernel_rfl)) (fun _ _ _ h => h) (Or.inl ⟨by rfl, ?_⟩) ?_ ?_
          rotate_left
          ·intro w'
           go_simp
           with_reducible rfl
          rotate_left
          ·simp only [Act.put, List.setIfInBounds_toArray, List.set_cons_zero, List.set_cons_succ, i64_w, i32_w]
           rfl
          refine pure_ (i := 4) (N := some 16) (v := ?_) (a' := ?_) bactParseLocix4_11_13 rfl rfl (any_of HT_.out (by kernel_rfl)) (fun _ _ _ h => h) (Or.inl ⟨by rfl, ?_⟩) ?_ ?_
          rotate_left
          ·intro w'
           go_simp
           with_reducible rfl
          rotate_left
          ·simp only [Act.put, List.setIfInBounds_toArray, List.set_cons_zero, List.set_cons_succ, i64_w, i32_w]
           rfl
          refine take_ (i := 2) (N := some 14) (v := ?_) (a' := ?_) bactParseLocix4_11_17 rfl rfl (take_ofW HT_.out HW_.out (by kernel_rfl)) (fun _ _ _ h => h) (Or.inl ⟨by rfl, ?_⟩) hHeld ?_ ?_
          rotate_left
          ·rintro w' ⟨s0, s1⟩
           go_simp
           with_reducible rfl
          rotate_left
          ·simp only [Act.put, List.setIfInBounds_toArray, List.set_cons_zero, List.set_cons_succ, i64_w, i32_w]
           rfl
          refine pure_ (i := 3) (N := some 15) (v := ?_) (a' := ?_) bactParseLocix4_11_1f rfl rfl (any_of HT_.out (by kernel_rfl)) (fun _ _ _ h => h) (Or.inl ⟨by rfl, ?_⟩) ?_ ?_
          rotate_left
          ·intro w'
           go_simp
           with_reducible rfl
          rotate_left
          ·simp only [Act.put, List.setIfInBounds_toArray, List.set_cons_zero, List.set_cons_succ, i64_w, i32_w]
           rfl
          refine take_ (i := 5) (N := some 17) (v := ?_) (a' := ?_) bactParseLocix4_11_3f rfl rfl (take_ofW HT_.out HW_.out (by kernel_rfl)) (fun _ _ _ h => h) (Or.inl ⟨by rfl, ?_⟩) hHeld ?_ ?_
          rotate_left
          ·rintro w' ⟨s0, s1⟩
           go_simp
           with_reducible rfl
          rotate_left
          ·simp only [Act.put, List.setIfInBounds_toArray, List.set_cons_zero, List.set_cons_succ, i64_w, i32_w]
           rfl
          refine one_ (i := 6) (N := some 18) bactParseLocix4_11_7f rfl rfl (one_of HT_.out (by kernel_rfl)) (by decide) (fun K hK => ?_)
          refine goes_ Tryd.func37 (by kernel_rfl) rfl #[.int .i64 ((rd_T40 l0 x8_1).f1)] (by rfl) rfl rfl aR_ ?_
          with_reducible refine (spec_l1Int.calls k1 ((rd_T40 l0 x8_1).f1) t142 _ A6.out).mono ?_
          rintro e w14 ⟨rfl, hb⟩
          refine ⟨_, rfl, ?_⟩
          replace BK141 := aM_ (blk_below (g := gb141) (kR_ BK141) hb)
          replace HB := aM_ (below_step hB_ hb)
          (try clear hb)
          (try clear hb2)
          (try clear hk)
          (try clear hi)
          refine hK.out _ _ ⟨(blk_cell BK141.out 0).trans rfl, (blk_cell BK141.out 1).trans rfl⟩ (fun hHeld => ?_)
          clear hK K
          refine norm_ (a' := ?_) ?_ ?_
          rotate_left
          ·show Act.put _ (some 18) _ = _
           simp only [Act.put, List.setIfInBounds_toArray, List.set_cons_zero, List.set_cons_succ, i64_w, i32_w]
           rfl
          refine pure_ (i := 7) (N := some 19) (v := ?_) (a' := ?_) bactParseLocix4_11_ff rfl rfl (any_of HT_.out (by kernel_rfl)) (fun _ _ _ h => h) (Or.inl ⟨by rfl, ?_⟩) ?_ ?_
          rotate_left
          ·intro w'
           go_simp
           with_reducible rfl
          rotate_left
          ·simp only [Act.put, List.setIfInBounds_toArray, List.set_cons_zero, List.set_cons_succ, i64_w, i32_w]
           rfl
          refine pure_ (i := 8) (N := some 20) (v := ?_) (a' := ?_) bactParseLocix4_11_1ff rfl rfl (any_of HT_.out (by kernel_rfl)) (fun _ _ _ h => h) (Or.inl ⟨by rfl, ?_⟩) ?_ ?_
          rotate_left
          ·intro w'
           go_simp
           with_reducible rfl
          rotate_left
          ·simp only [Act.put, List.setIfInBounds_toArray, List.set_cons_zero, List.set_cons_succ, i64_w, i32_w]
           rfl
          refine pure_ (i := 9) (N := some 21) (v := ?_) (a' := ?_) bactParseLocix4_11_3ff rfl rfl (any_of HT_.out (by kernel_rfl)) (fun _ _ _ h => h) (Or.inl ⟨by rfl, ?_⟩) ?_ ?_
          rotate_left
          ·intro w'
           go_simp
           with_reducible rfl
          rotate_left
          ·simp only [Act.put, List.setIfInBounds_toArray, List.set_cons_zero, List.set_cons_succ, i64_w, i32_w]
           rfl
          refine pure_ (i := 10) (N := some 3) (v := ?_) (a' := ?_) bactParseLocix4_11_7ff rfl rfl (any_of HT_.out (by kernel_rfl)) (fun _ _ _ h => h) (Or.inl ⟨by rfl, ?_⟩) ?_ ?_
          rotate_left
          ·intro w'
           go_simp
           with_reducible rfl
          rotate_left
          ·simp only [Act.put, List.setIfInBounds_toArray, List.set_cons_zero, List.set_cons_succ, i64_w, i32_w]
           rfl
          refine done_ (done_of HT_.out (by kernel_rfl)) ?_
          try go_wp2
          go_roundg k1
          case measure => have := HK1.out; omega
          case rel => exact ⟨(x3_1 ++ (((((rd_T40 l0 x8_1).f0) ++ (⟨#[64]⟩ : ByteArray)) ++ t142) ++ (⟨#[59]⟩ : ByteArray))), (wrap64 (x8_1 + 1)), yactParseLocix4_0_, yactParseLocix4_0_, H', ⟨by have := HK1.out; omega⟩, ⟨hB_⟩⟩
         ·rw [if_neg c9] at H
          exact absurd H (by simp)
        ·rw [if_neg c8] at H
         exact absurd H (by simp)
       ·rw [if_neg c7] at H
        exact absurd H (by simp)
      ·rw [if_neg c5] at H
       exact absurd H (by simp)
     ·rw [if_neg c4] at H
      exact absurd H (by simp)
    ·rw [if_neg c3] at H
     exact absurd H (by simp)
   ·rw [if_neg c2] at H
    have c2b0 : decide (x8_1 < (l0.length : Int)) = false := decide_eq_false c2
    clear c2
    obtain rfl := Option.some.inj H
    go_wp2
    go_ret
    exact ⟨rT_, hB_⟩

/-! ### spec_ParseLoci: function 5 -/
def spec_ParseLoci.T11 : Bool × List (List Nat × List Nat) := (true, [([], []), ([], []), ([1], [1]), ([2], [2]), ([], []), ([4], [4]), ([5], [5]), ([6], [6]), ([3, 7], [3, 7]), ([8], [8]), ([0, 9, 7], [0, 9]), ([10, 10, 0, 1, 2, 3, 4, 5, 6, 7, 8, 9, 10], [0, 10])])
def spec_ParseLoci.B11 : List Nat := [0, 0, 2, 6, 0, 16, 48, 112, 254, 510, 1023, 2047]
theorem spec_ParseLoci.tab11 : rtab .any (opsOf Tryd.f5 11) = spec_ParseLoci.T11 := by kernel_rfl
theorem spec_ParseLoci.bits11 : waitsOk spec_ParseLoci.T11.2 spec_ParseLoci.B11 = true := by kernel_rfl
set_option maxHeartbeats 8000000 in
set_option maxRecDepth 100000 in
theorem spec_ParseLoci.calls (k : Nat) (a0 : ByteArray) (r1 : List (S40)) (r2 : Bool) (w : World) (h : spec_ParseLoci.f k a0 = some (r1, r2)) :
 Calls Tryd.prog 5 #[.string a0] w fun e w' => ∃ v0_ : Value, e = .returned (.tuple #[v0_, .bool r2]) ∧ Kd.R k40 40 w' w.heap.size (fun _ => True) v0_ r1 ∧ Below w.heap.size w w' := by
 have hu40 := Tryd.underlying40
 have HB := Aside0.mk (Below.refl w.heap.size w)
 have H : ((spec_l1Split.f k a0 59).bind fun t143 => (if (t143.length : Int) > 9 then (some (([] : List (S40)), false)) else (if 0 ≤ (wrap64 ((t143.length : Int) - 1)) then (if (wrap64 ((t143.length : Int) - 1)) ≤ (t143.length : Int) then ((some (t143.take ((wrap64 ((t143.length : Int) - 1)) : Int).toNat : List ByteArray)).bind fun y146 => (spec_ParseLoci.l0 k a0 ([] : List (S40)) y146 (y146.length : Int) 0)) else (none)) else (none)))) = some (r1, r2) := h
 clear h
 replace H := Option.bind_eq_some_iff.mp H
 obtain ⟨t143, A20, H⟩ := H
 try dsimp only at H
 have A2 := Aside0.mk A20
 clear A20
 by_cases c3 : (t143.length : Int) > 9
 ·rw [if_pos c3] at H
  have c3b0 : decide (9 < (t143.length : Int)) = true := decide_eq_true c3
  have c3b1 : decide (9 < t143.length) = true := decide_eq_true (by omega)
  clear c3
  simp only [Option.some.injEq, Prod.mk.injEq] at H
  obtain ⟨rfl, rfl⟩ := H
  go_enter Tryd.func5, Tryd.ntmps5
  go_wp2_with (first | ((with_reducible refine gate_callee (f := 17) rfl ?_); refine goesM_ (some 10) Tryd.func17 #[.string a0, .int .u8 59] ?_; (with_reducible refine (spec_l1Split.calls k a0 59 t143 _ A2.out).mono ?_); rintro e w4 ⟨v144, rfl, ho0, hb⟩; refine ⟨_, rfl, ?_⟩; have HO145 := aM_ (Kd.R_lower ho0 (below_size hB_)); replace HB := aM_ (below_step hB_ hb); (try clear hb); (try clear hb2); (try clear hk); (try clear hi); (try clear ho0); obtain ⟨Ao5, co5, eo5⟩ := Kd.R_slice HO145.out; subst eo5))
  go_ret2
  exact ⟨_, rT_, yactParseLocix4_2_, hB_⟩
 ·rw [if_neg c3] at H
  have c3b0 : decide (9 < (t143.length : Int)) = false := decide_eq_false c3
  have c3b1 : decide (9 < t143.length) = false := decide_eq_false (by omega)
  clear c3
  obtain ⟨ji6, hji6⟩ : ∃ j_ : Int, (wrap64 ((t143.length : Int) - 1)) = j_ := ⟨_, rfl⟩
  replace H : (if 0 ≤ (ji6) then (if (ji6) ≤ (t143.length : Int) then ((some (t143.take ((ji6) : Int).toNat : List ByteArray)).bind fun y146 => (spec_ParseLoci.l0 k a0 ([] : List (S40)) y146 (y146.length : Int) 0)) else (none)) else (none)) = some (r1, r2) := by first | (rw [hji6] at H; exact H) | (simp only [hji6] at H ⊢; exact H)
  (try rw [hji6] at A2)
  have hji6w : (IntKind.i64.wrap ((t143.length : Int) - 1)) = ji6 := (i64_w _).trans hji6
  by_cases c7 : 0 ≤ (ji6)
  ·rw [if_pos c7] at H
   have c7b0 := eq_true c7
   have c7b1 : decide (0 ≤ (ji6)) = true := decide_eq_true c7
   clear c7
   by_cases c8 : (ji6) ≤ (t143.length : Int)
   ·rw [if_pos c8] at H
    have c8b0 := eq_true c8
    have c8b1 : decide ((ji6) ≤ (t143.length : Int)) = true := decide_eq_true c8
    clear c8
    obtain ⟨y146, hy146⟩ : ∃ y_ : List ByteArray, y_ = (t143.take ((ji6) : Int).toNat) := ⟨_, rfl⟩
    replace H : (spec_ParseLoci.l0 k a0 ([] : List (S40)) y146 (y146.length : Int) 0) = some (r1, r2) := by first | (rw [hy146]; with_reducible exact H) | (have H2_ := (Option.bind_some _ _).symm.trans H; rw [hy146]; with_reducible exact H2_) | (have H2_ := (Option.bind_some _ _).symm.trans H; with_reducible exact H2_) | with_reducible exact H | (rw [hy146]; exact H) | exact H
    have Ny146 := Aside0.mk hy146
    clear hy146
    have H' := Aside0.mk H
    clear H
    go_enter Tryd.func5, Tryd.ntmps5
    go_wp2_with (first | ((with_reducible refine gate_callee (f := 17) rfl ?_); refine goesM_ (some 10) Tryd.func17 #[.string a0, .int .u8 59] ?_; (with_reducible refine (spec_l1Split.calls k a0 59 t143 _ A2.out).mono ?_); rintro e w9 ⟨v144, rfl, ho0, hb⟩; refine ⟨_, rfl, ?_⟩; have HO145 := aM_ (Kd.R_lower ho0 (below_size hB_)); replace HB := aM_ (below_step hB_ hb); (try clear hb); (try clear hb2); (try clear hk); (try clear hi); (try clear ho0); obtain ⟨Ao10, co10, eo10⟩ := Kd.R_slice HO145.out; subst eo10; have q11 : ((ji6) : Int) ≤ ((t143.length : Int) : Int) := of_decide_eq_true yactParseLocix4_1_; obtain ⟨i011, hi011, _, hsz11, _⟩ := info_parts info9; have hcut11 := cut_to (P := Tryd.prog) 30 9 .i64 Tryd.underlying30 hi011 Ao10 t143.length co10 (ji6) (of_decide_eq_true yactParseLocix4_1_) q11 (Kd.R_reads' HO145.out).2.1; have hr11 := Kd.R_take (m := ((ji6) : Int).toNat) HO145.out (by omega); have hy11 : y146.length = ((ji6) : Int).toNat := (by rw [Ny146.out, List.length_take]; omega); rw [← Ny146.out] at hr11; rw [← hy11] at hr11 hcut11; clear hy11 hi011 hsz11 HO145; have HO148 := Aside0.mk hr11; clear hr11; replace q11 := eq_true q11))
    go_loopg [5, 20] k (fun kq v5 v20 w' => ∃ (x5_1 : List (S40)) (x20_1 : Int), v20 = .int .i64 x20_1 ∧ Aside0 (spec_ParseLoci.l0 kq a0 x5_1 y146 (y146.length : Int) x20_1 = some (r1, r2)) ∧ Aside0 (kq ≤ k) ∧ Aside0 (Kd.R k40 40 w' w.heap.size (fun _ => True) v5 x5_1) ∧ Aside0 (Kd.R Kd.string 9 w' w.heap.size (fun _ => True) (.slice Ao10 y146.length co10) y146) ∧ Aside0 (Below w.heap.size w w'))
    case atStart => exact ⟨(([] : List (S40))), (0), yactParseLocix4_0_, H', ⟨Nat.le_refl _⟩, ⟨yactParseLocix4_2_⟩, ⟨by (with_reducible repeat (first | apply Kd.R_alloc | apply Kd.R_drewN | apply Kd.R_drew)); exact HO148.out⟩, ⟨hB_⟩⟩
    case round =>
     clear H'
     (try clear c3);(try clear c3b0);(try clear c3b1);(try clear c7);(try clear c7b0);(try clear c7b1);(try clear c8);(try clear c8b0);(try clear c8b1);(try clear q11);(try clear q11)
     obtain ⟨x5_1, x20_1, rfl, HA, HK1, HO_5, HO_18, HB⟩ := hrel
     cases gk with
     | zero => exact absurd HA.out (by simp [spec_ParseLoci.l0])
     | succ k1 =>
      have H := HA.out
      clear HA
      simp only [spec_ParseLoci.l0] at H
      by_cases c12 : x20_1 < (y146.length : Int)
      ·rw [if_pos c12] at H
       have c12b0 : decide (x20_1 < (y146.length : Int)) = true := decide_eq_true c12
       clear c12
       by_cases c13 : 0 ≤ x20_1
       ·rw [if_pos c13] at H
        have c13b0 : decide (0 ≤ x20_1) = true := decide_eq_true c13
        clear c13
        by_cases c14 : x20_1 < (y146.length : Int)
        ·rw [if_pos c14] at H
         have c14b0 : decide (x20_1 < (y146.length : Int)) = true := decide_eq_true c14
         clear c14
         replace H := Option.bind_eq_some_iff.mp H
         obtain ⟨t150, A150, H⟩ := H
         try dsimp only at H
         have A15 := Aside0.mk A150
         clear A150
         by_cases c16 : (t150.length : Int) = 2
         ·rw [if_pos c16] at H
          have c16b0 : ((t150.length : Int) == 2) = true := beq_iff_eq.mpr c16
          have c16b1 : ((t150.length : Int) != 2) = false := bne_eq_false_iff_eq.mpr c16
          clear c16
          by_cases c17 : 0 < (t150.length : Int)
          ·rw [if_pos c17] at H
           have c17b0 : decide (0 < (t150.length : Int)) = true := decide_eq_true c17
           have c17b1 : decide (0 < t150.length) = true := decide_eq_true (by omega)
           clear c17
           by_cases c18 : 1 < (t150.length : Int)
           ·rw [if_pos c18] at H
            have c18b0 : decide (1 < (t150.length : Int)) = true := decide_eq_true c18
            have c18b1 : decide (1 < t150.length) = true := decide_eq_true (by omega)
            clear c18
            replace H := Option.bind_eq_some_iff.mp H
            obtain ⟨t155, A190, H⟩ := H
            try dsimp only at H
            have A19 := Aside0.mk A190
            clear A190
            by_cases c20 : x5_1.length < 5864062014805
            ·rw [if_pos c20] at H
             have LMc20 := Aside0.mk c20
             clear c20
             obtain ⟨y156, hy156⟩ : ∃ y_ : List (S40), y_ = (x5_1 ++ [(⟨rdOf ByteArray.empty t150 0, t155⟩ : S40)]) := ⟨_, rfl⟩
             replace H : (spec_ParseLoci.l0 k1 a0 y156 y146 (y146.length : Int) (wrap64 (x20_1 + 1))) = some (r1, r2) := by first | (rw [hy156]; with_reducible exact H) | (have H2_ := (Option.bind_some _ _).symm.trans H; rw [hy156]; with_reducible exact H2_) | (have H2_ := (Option.bind_some _ _).symm.trans H; with_reducible exact H2_) | with_reducible exact H | (rw [hy156]; exact H) | exact H
             have Ny156 := Aside0.mk hy156
             clear hy156
             have H' := Aside0.mk H
             clear H
             have p149 : 0 ≤ (x20_1 : Int) := of_decide_eq_true yactParseLocix4_1_
             have q149 : x20_1 < (y146.length : Int) := of_decide_eq_true yactParseLocix4_1_
             obtain ⟨ad149, e149, hx149_0⟩ := Kd.at_string (Kd.R_reads' HO_18.out).2.2 x20_1 p149 q149
             cases e149
             replace p149 := eq_true p149
             replace q149 := eq_true q149
             try go_wp2_with (first | ((with_reducible refine gate_callee (f := 17) rfl ?_); refine goesM_ (some 25) Tryd.func17 #[.string (rdOf ByteArray.empty y146 x20_1), .int .u8 64] ?_; (with_reducible refine (spec_l1Split.calls k1 (rdOf ByteArray.empty y146 x20_1) 64 t150 _ A15.out).mono ?_); rintro e w21 ⟨v151, rfl, ho0, hb⟩; refine ⟨_, rfl, ?_⟩; have HO152 := aM_ (Kd.R_lower (Kd.R_new' ho0 (Kd.R_lt yactParseLocix4_3_)) (below_size hB_)); replace HO_5 := aM_ (Kd.R_below yactParseLocix4_4_ hb); replace HO_18 := aM_ (Kd.R_elder' yactParseLocix4_3_ (Kd.R_base ho0) hb); replace HB := aM_ (below_step hB_ hb); (try clear hb); (try clear hb2); (try clear hk); (try clear hi); (try clear ho0); obtain ⟨Ao22, co22, eo22⟩ := Kd.R_slice HO152.out; subst eo22))
             replace HO_5 := aM_ (Kd.R_drew HO_5.out)
             replace HO_18 := aM_ (Kd.R_drew HO_18.out)
             replace HO152 := aM_ (Kd.R_drew HO152.out)
             replace HB := aM_ (below_drew1 HB.out)
             have p153 : 0 ≤ (0 : Int) := (by omega)
             have q153 : 0 < (t150.length : Int) := of_decide_eq_true yactParseLocix4_1_
             obtain ⟨ad153, e153, hx153_0⟩ := Kd.at_string (Kd.R_reads' HO152.out).2.2 0 p153 q153
             cases e153
             have qi153 : (0 < t150.length) = True := eq_true (by omega)
             (try rw [show ((0 : Int)).toNat = 0 from rfl] at hx153_0)
             (try rw [Addr.add_zero'] at hx153_0)
             replace p153 := eq_true p153
             replace q153 := eq_true q153
             have p154 : 0 ≤ (1 : Int) := (by omega)
             have q154 : 1 < (t150.length : Int) := of_decide_eq_true yactParseLocix4_1_
             obtain ⟨ad154, e154, hx154_0⟩ := Kd.at_string (Kd.R_reads' HO152.out).2.2 1 p154 q154
             obtain rfl : ad153 = ad154 := (by injection e154)
             (try simp only [show (1 : Int).toNat = 1 from rfl, Nat.reduceMul, Nat.reduceEqDiff, Go.Addr.add, ↓reduceIte] at hx154_0)
             have qi154 : (1 < t150.length) = True := eq_true (by omega)
             (try rw [show ((1 : Int)).toNat = 1 from rfl] at hx154_0)
             replace p154 := eq_true p154
             replace q154 := eq_true q154
             refine start_ (n := 12) (S := fun w' => w'.cell? ad153 = some (.string (rdOf ByteArray.empty t150 0)) ∧ w'.cell? ⟨ad153.block, ad153.off + 1, none⟩ = some (.string (rdOf ByteArray.empty t150 1))) (ds := [9, 10]) bactParseLocix4_12_0 (by kernel_rfl) rfl rfl ⟨hx153_0, hx154_0⟩ (fun hHeld => ?_); refine with_tabW spec_ParseLoci.tab11 spec_ParseLoci.bits11 (fun HT_ HW_ => ?_)
             generalize w21.drew = w23 at HO_5 HO_18 HO152 HB hx153_0 hx154_0 hHeld ⊢
             refine pure_ (i := 0) (N := some 29) (v := ?_) (a' := ?_) bactParseLocix4_12_1 rfl rfl (any_of HT_.out (by kernel_rfl)) (fun _ _ _ h => h) (Or.inl ⟨by rfl, ?_⟩) ?_ ?_
             rotate_left
             ·intro w'
              go_simp
              with_reducible rfl
             rotate_left
             ·simp only [Act.put, List.setIfInBounds_toArray, List.set_cons_zero, List.set_cons_succ, i64_w, i32_w]
              rfl
             refine pure_ (i := 1) (N := some 30) (v := ?_) (a' := ?_) bactParseLocix4_12_3 rfl rfl (any_of HT_.out (by kernel_rfl)) (fun _ _ _ h => h) (Or.inl ⟨by rfl, ?_⟩) ?_ ?_
             rotate_left
             ·intro w'
              go_simp
              with_reducible rfl
             rotate_left
             ·simp only [Act.put, List.setIfInBounds_toArray, List.set_cons_zero, List.set_cons_succ, i64_w, i32_w]
              rfl
             refine pure_ (i := 2) (N := some 31) (v := ?_) (a' := ?_) bactParseLocix4_12_7 rfl rfl (any_of HT_.out (by kernel_rfl)) (fun _ _ _ h => h) (Or.inl ⟨by rfl, ?_⟩) ?_ ?_
             rotate_left
             ·intro w'
              go_simp
              with_reducible rfl
             rotate_left
             ·simp only [Act.put, List.setIfInBounds_toArray, List.set_cons_zero, List.set_cons_succ, i64_w, i32_w]
              rfl
             refine pure_ (i := 4) (N := some 33) (v := ?_) (a' := ?_) bactParseLocix4_12_17 rfl rfl (any_of HT_.out (by kernel_rfl)) (fun _ _ _ h => h) (Or.inl ⟨by rfl, ?_⟩) ?_ ?_
             rotate_left
             ·intro w'
              go_simp
              with_reducible rfl
             rotate_left
             ·simp only [Act.put, List.setIfInBounds_toArray, List.set_cons_zero, List.set_cons_succ, i64_w, i32_w]
              rfl
             refine pure_ (i := 5) (N := some 34) (v := ?_) (a' := ?_) bactParseLocix4_12_37 rfl rfl (any_of HT_.out (by kernel_rfl)) (fun _ _ _ h => h) (Or.inl ⟨by rfl, ?_⟩) ?_ ?_
             rotate_left
             ·intro w'
              go_simp
              with_reducible rfl
             rotate_left
             ·simp only [Act.put, List.setIfInBounds_toArray, List.set_cons_zero, List.set_cons_succ, i64_w, i32_w]
              rfl
             refine take_ (i := 3) (N := some 32) (v := ?_) (a' := ?_) bactParseLocix4_12_3f rfl rfl (take_ofW HT_.out HW_.out (by kernel_rfl)) (fun _ _ _ h => h) (Or.inl ⟨by rfl, ?_⟩) hHeld ?_ ?_
             rotate_left
             ·rintro w' ⟨s0, s1⟩
              go_simp
              with_reducible rfl
             rotate_left
             ·simp only [Act.put, List.setIfInBounds_toArray, List.set_cons_zero, List.set_cons_succ, i64_w, i32_w]
              rfl
             refine take_ (i := 6) (N := some 35) (v := ?_) (a' := ?_) bactParseLocix4_12_7f rfl rfl (take_ofW HT_.out HW_.out (by kernel_rfl)) (fun _ _ _ h => h) (Or.inl ⟨by rfl, ?_⟩) hHeld ?_ ?_
             rotate_left
             ·rintro w' ⟨s0, s1⟩
              go_simp
              with_reducible rfl
             rotate_left
             ·simp only [Act.put, List.setIfInBounds_toArray, List.set_cons_zero, List.set_cons_succ, i64_w, i32_w]
              rfl
             refine one_ (i := 7) (N := some 36) bactParseLocix4_12_ff rfl rfl (one_of HT_.out (by kernel_rfl)) (by decide) (fun K hK => ?_)
             refine goes_ Tryd.func18 (by kernel_rfl) rfl #[.string (rdOf ByteArray.empty t150 1)] (by rfl) rfl rfl aR_ ?_
             with_reducible refine (spec_loRead.calls k1 (rdOf ByteArray.empty t150 1) t155 _ A19.out).mono ?_
             rintro e w24 ⟨rfl, hb⟩
             have HS0_ := (hb.cell (World.block_lt_of_cell? _ _ (hHeld.1))).trans (hHeld.1)
             have HS1_ := (hb.cell (World.block_lt_of_cell? _ _ (hHeld.2))).trans (hHeld.2)
             refine ⟨_, rfl, ?_⟩
             replace HO_5 := aM_ (Kd.R_below yactParseLocix4_4_ hb)
             replace HO_18 := aM_ (Kd.R_below yactParseLocix4_3_ hb)
             replace HO152 := aM_ (Kd.R_below yactParseLocix4_5_ hb)
             replace HB := aM_ (below_step hB_ hb)
             (try clear hb)
             (try clear hb2)
             (try clear hk)
             (try clear hi)
             refine hK.out _ _ ⟨HS0_, HS1_⟩ (fun hHeld => ?_)
             clear hK K
             refine norm_ (a' := ?_) ?_ ?_
             rotate_left
             ·show Act.put _ (some 36) _ = _
              simp only [Act.put, List.setIfInBounds_toArray, List.set_cons_zero, List.set_cons_succ, i64_w, i32_w]
              rfl
             refine pure_ (i := 8) (N := some 37) (v := ?_) (a' := ?_) bactParseLocix4_12_1ff rfl rfl (any_of HT_.out (by kernel_rfl)) (fun _ _ _ h => h) (Or.inl ⟨by rfl, ?_⟩) ?_ ?_
             rotate_left
             ·intro w'
              go_simp
              with_reducible rfl
             rotate_left
             ·simp only [Act.put, List.setIfInBounds_toArray, List.set_cons_zero, List.set_cons_succ, i64_w, i32_w]
              rfl
             refine last_ (i := 9) (N := some 38) bactParseLocix4_12_3ff rfl rfl (one_of HT_.out (by kernel_rfl)) (by decide) (fun K hK => ?_)
             refine value_ (w1 := ?_) (v := ?_) (by rfl) rfl ?_ ?_
             rotate_left 2
             ·go_simp
              constructor
              ·rfl
              ·rfl
             refine hK.out _ _ ?_
             clear hK K
             refine norm_ (a' := ?_) ?_ ?_
             rotate_left
             ·show Act.put _ (some 38) _ = _
              simp only [Act.put, List.setIfInBounds_toArray, List.set_cons_zero, List.set_cons_succ, i64_w, i32_w]
              rfl
             refine last_ (i := 10) (N := some 39) bactParseLocix4_12_7ff rfl rfl (one_of HT_.out (by kernel_rfl)) (by decide) (fun K hK => ?_)
             refine Kd.R_append_step k40 (w0 := w) w.heap.size (by rfl) (.tmp 29) (.tmp 38) 22 40 (.agg #[(.string ⟨#[]⟩), (.int .i64 0)]) 24 rfl Tryd.underlying22 info40 rfl (by decide) (by omega) u5 x5_1 (⟨rdOf ByteArray.empty t150 0, t155⟩ : S40) [.string (rdOf ByteArray.empty t150 0), .int .i64 t155] (fun _ => True) (fun _ => False) rfl rfl ?aP (fun _ hk => hk.elim) ?aF ?aO ?aB ?aS ?aL ?_
             (case aP => exact k40_mkM _ _ _ (⟨rdOf ByteArray.empty t150 0, t155⟩ : S40))
             (case aB => exact hB_)
             (case aF => exact (fun _ _ => trivial))
             (case aO => exact yactParseLocix4_4_)
             (case aS => exact (below_size hB_))
             (case aL => have := LMc20.out; omega)
             intro v157 w25 ho hb hg hat
             rw [← Ny156.out] at ho
             have HO158 := aM_ (ho)
             replace HO_18 := aM_ (Kd.R_over' yactParseLocix4_3_ (Kd.R_typed yactParseLocix4_4_) (by decide) hg)
             replace HO152 := aM_ (Kd.R_over' yactParseLocix4_5_ (Kd.R_typed yactParseLocix4_4_) (by decide) hg)
             replace HB := aM_ (hb)
             clear HO_5
             clear ho hb hg hat
             refine hK.out _ _ ?_
             clear hK K
             refine norm_ (a' := ?_) ?_ ?_
             rotate_left
             ·show Act.put _ (some 39) _ = _
              simp only [Act.put, List.setIfInBounds_toArray, List.set_cons_zero, List.set_cons_succ, i64_w, i32_w]
              rfl
             refine pure_ (i := 11) (N := some 5) (v := ?_) (a' := ?_) bactParseLocix4_12_fff rfl rfl (any_of HT_.out (by kernel_rfl)) (fun _ _ _ h => h) (Or.inl ⟨by rfl, ?_⟩) ?_ ?_
             rotate_left
             ·intro w'
              go_simp
              with_reducible rfl
             rotate_left
             ·simp only [Act.put, List.setIfInBounds_toArray, List.set_cons_zero, List.set_cons_succ, i64_w, i32_w]
              rfl
             refine done_ (done_of HT_.out (by kernel_rfl)) ?_
             try go_wp2
             go_roundg k1
             case measure => have := HK1.out; omega
             case rel => exact ⟨(y156), (wrap64 (x20_1 + 1)), yactParseLocix4_0_, H', ⟨by have := HK1.out; omega⟩, ⟨by (with_reducible repeat (first | apply Kd.R_alloc | apply Kd.R_drewN | apply Kd.R_drew)); exact HO158.out⟩, ⟨by (with_reducible repeat (first | apply Kd.R_alloc | apply Kd.R_drewN | apply Kd.R_drew)); exact Kd.R_mono HO_18.out (fun _ hk => trivial)⟩, ⟨hB_⟩⟩
            ·rw [if_neg c20] at H
             exact absurd H (by simp)
           ·rw [if_neg c18] at H
            exact absurd H (by simp)
          ·rw [if_neg c17] at H
           exact absurd H (by simp)
         ·rw [if_neg c16] at H
          have c16b0 : ((t150.length : Int) == 2) = false := beq_eq_false_iff_ne.mpr c16
          have c16b1 : ((t150.length : Int) != 2) = true := bne_iff_ne.mpr c16
          simp only [Option.some.injEq, Prod.mk.injEq] at H
          obtain ⟨rfl, rfl⟩ := H
          have p149 : 0 ≤ (x20_1 : Int) := of_decide_eq_true yactParseLocix4_1_
          have q149 : x20_1 < (y146.length : Int) := of_decide_eq_true yactParseLocix4_1_
          obtain ⟨ad149, e149, hx149_0⟩ := Kd.at_string (Kd.R_reads' HO_18.out).2.2 x20_1 p149 q149
          cases e149
          replace p149 := eq_true p149
          replace q149 := eq_true q149
          go_wp2_with (first | ((with_reducible refine gate_callee (f := 17) rfl ?_); refine goesM_ (some 25) Tryd.func17 #[.string (rdOf ByteArray.empty y146 x20_1), .int .u8 64] ?_; (with_reducible refine (spec_l1Split.calls k1 (rdOf ByteArray.empty y146 x20_1) 64 t150 _ A15.out).mono ?_); rintro e w26 ⟨v151, rfl, ho0, hb⟩; refine ⟨_, rfl, ?_⟩; have HO152 := aM_ (Kd.R_lower (Kd.R_new' ho0 (Kd.R_lt yactParseLocix4_3_)) (below_size hB_)); replace HO_5 := aM_ (Kd.R_below yactParseLocix4_4_ hb); replace HO_18 := aM_ (Kd.R_elder' yactParseLocix4_3_ (Kd.R_base ho0) hb); replace HB := aM_ (below_step hB_ hb); (try clear hb); (try clear hb2); (try clear hk); (try clear hi); (try clear ho0); obtain ⟨Ao27, co27, eo27⟩ := Kd.R_slice HO152.out; subst eo27))
          go_ret2
          exact ⟨_, yactParseLocix4_6_, yactParseLocix4_2_, hB_⟩
        ·rw [if_neg c14] at H
         exact absurd H (by simp)
       ·rw [if_neg c13] at H
        exact absurd H (by simp)
      ·rw [if_neg c12] at H
       have c12b0 : decide (x20_1 < (y146.length : Int)) = false := decide_eq_false c12
       clear c12
       replace H := Option.bind_eq_some_iff.mp H
       obtain ⟨t159, A280, H⟩ := H
       try dsimp only at H
       have A28 := Aside0.mk A280
       clear A280
       by_cases c29 : t159 = true
       ·subst c29
        replace H := ip_ H rfl
        replace H := Option.bind_eq_some_iff.mp H
        obtain ⟨t160, A300, H⟩ := H
        try dsimp only at H
        have A30 := Aside0.mk A300
        clear A300
        by_cases c31 : t160.toList = a0.toList
        ·rw [if_pos c31] at H
         have c31b0 : (t160.toList == a0.toList) = true := beq_iff_eq.mpr c31
         have c31b1 : (t160.toList != a0.toList) = false := bne_eq_false_iff_eq.mpr c31
         clear c31
         simp only [Option.some.injEq, Prod.mk.injEq] at H
         obtain ⟨rfl, rfl⟩ := H
         obtain ⟨Ao32, co32, eo32⟩ := Kd.R_slice HO_5.out
         subst eo32
         go_wp2_with (first | ((with_reducible refine gate_callee (f := 19) rfl ?_); refine goesM_ (some 42) Tryd.func19 #[.slice Ao32 x5_1.length co32] ?_; (with_reducible refine (spec_loGood.calls k1 _ _ x5_1 true _ ?side1 ?side2 A28.out).mono ?_); (case side1 => repeat (first | exact (Kd.R_reads' HO_5.out).2.2 | (with_reducible refine Kd.C_alloc ?_ _) | (with_reducible refine Kd.C_drewN ?_ _) | (with_reducible refine Kd.C_drew ?_))); (case side2 => exact (Kd.R_reads' HO_5.out).2.1); rintro e w33 ⟨rfl, hb⟩; refine ⟨_, rfl, ?_⟩; replace HO_5 := aM_ (Kd.R_below yactParseLocix4_4_ hb); replace HO_18 := aM_ (Kd.R_below yactParseLocix4_3_ hb); replace HB := aM_ (below_step hB_ hb); (try clear hb); (try clear hb2); (try clear hk); (try clear hi)) | (go_at_call 20; (with_reducible refine (spec_loText.calls k1 _ _ x5_1 t160 _ ?side1 ?side2 A30.out).mono ?_); (case side1 => repeat (first | exact (Kd.R_reads' HO_5.out).2.2 | (with_reducible refine Kd.C_alloc ?_ _) | (with_reducible refine Kd.C_drewN ?_ _) | (with_reducible refine Kd.C_drew ?_))); (case side2 => exact (Kd.R_reads' HO_5.out).2.1); rintro e w34 ⟨rfl, hb⟩; replace HO_5 := aM_ (Kd.R_below yactParseLocix4_4_ hb); replace HO_18 := aM_ (Kd.R_below yactParseLocix4_3_ hb); replace HB := aM_ (below_step hB_ hb); (try clear hb); (try clear hb2); (try clear hk); (try clear hi)))
         go_ret2
         exact ⟨_, yactParseLocix4_6_, yactParseLocix4_4_, hB_⟩
        ·rw [if_neg c31] at H
         have c31b0 : (t160.toList == a0.toList) = false := beq_eq_false_iff_ne.mpr c31
         have c31b1 : (t160.toList != a0.toList) = true := bne_iff_ne.mpr c31
         simp only [Option.some.injEq, Prod.mk.injEq] at H
         obtain ⟨rfl, rfl⟩ := H
         obtain ⟨Ao35, co35, eo35⟩ := Kd.R_slice HO_5.out
         subst eo35
         go_wp2_with (first | ((with_reducible refine gate_callee (f := 19) rfl ?_); refine goesM_ (some 42) Tryd.func19 #[.slice Ao35 x5_1.length co35] ?_; (with_reducible refine (spec_loGood.calls k1 _ _ x5_1 true _ ?side1 ?side2 A28.out).mono ?_); (case side1 => repeat (first | exact (Kd.R_reads' HO_5.out).2.2 | (with_reducible refine Kd.C_alloc ?_ _) | (with_reducible refine Kd.C_drewN ?_ _) | (with_reducible refine Kd.C_drew ?_))); (case side2 => exact (Kd.R_reads' HO_5.out).2.1); rintro e w36 ⟨rfl, hb⟩; refine ⟨_, rfl, ?_⟩; replace HO_5 := aM_ (Kd.R_below yactParseLocix4_4_ hb); replace HO_18 := aM_ (Kd.R_below yactParseLocix4_3_ hb); replace HB := aM_ (below_step hB_ hb); (try clear hb); (try clear hb2); (try clear hk); (try clear hi)) | (go_at_call 20; (with_reducible refine (spec_loText.calls k1 _ _ x5_1 t160 _ ?side1 ?side2 A30.out).mono ?_); (case side1 => repeat (first | exact (Kd.R_reads' HO_5.out).2.2 | (with_reducible refine Kd.C_alloc ?_ _) | (with_reducible refine Kd.C_drewN ?_ _) | (with_reducible refine Kd.C_drew ?_))); (case side2 => exact (Kd.R_reads' HO_5.out).2.1); rintro e w37 ⟨rfl, hb⟩; replace HO_5 := aM_ (Kd.R_below yactParseLocix4_4_ hb); replace HO_18 := aM_ (Kd.R_below yactParseLocix4_3_ hb); replace HB := aM_ (below_step hB_ hb); (try clear hb); (try clear hb2); (try clear hk); (try clear hi)))
         go_ret2
         exact ⟨_, yactParseLocix4_6_, yactParseLocix4_2_, hB_⟩
       ·replace c29 := Bool.eq_false_iff.mpr c29
        subst c29
        replace H := in_ H (show ¬ (false = true) by decide)
        simp only [Option.some.injEq, Prod.mk.injEq] at H
        obtain ⟨rfl, rfl⟩ := H
        obtain ⟨Ao38, co38, eo38⟩ := Kd.R_slice HO_5.out
        subst eo38
        go_wp2_with (first | ((with_reducible refine gate_callee (f := 19) rfl ?_); refine goesM_ (some 42) Tryd.func19 #[.slice Ao38 x5_1.length co38] ?_; (with_reducible refine (spec_loGood.calls k1 _ _ x5_1 false _ ?side1 ?side2 A28.out).mono ?_); (case side1 => repeat (first | exact (Kd.R_reads' HO_5.out).2.2 | (with_reducible refine Kd.C_alloc ?_ _) | (with_reducible refine Kd.C_drewN ?_ _) | (with_reducible refine Kd.C_drew ?_))); (case side2 => exact (Kd.R_reads' HO_5.out).2.1); rintro e w39 ⟨rfl, hb⟩; refine ⟨_, rfl, ?_⟩; replace HO_5 := aM_ (Kd.R_below yactParseLocix4_4_ hb); replace HO_18 := aM_ (Kd.R_below yactParseLocix4_3_ hb); replace HB := aM_ (below_step hB_ hb); (try clear hb); (try clear hb2); (try clear hk); (try clear hi)))
        go_ret2
        exact ⟨_, yactParseLocix4_6_, yactParseLocix4_2_, hB_⟩
   ·rw [if_neg c8] at H
    exact absurd H (by simp)
  ·rw [if_neg c7] at H
   exact absurd H (by simp)

/-! ### stringslite_Index: function 56, by hand -/
open Go.Shelf Go.RowKit Go.Sort Go.Lib in
def laid_lays219_ren : Go.Shelf.Ren := ⟨fun | 219 => 56 | 217 => 67 | 225 => 68 | 224 => 69 | 267 => 70 | 266 => 78 | 314 => 79 | n => n, fun | 9 => 9 | 3 => 3 | 4 => 4 | 5 => 5 | 46 => 82 | 146 => 95 | 51 => 94 | n => n, fun | 1 => 0 | n => n⟩
open Go.Shelf Go.RowKit Go.Sort Go.Lib in
theorem laid_lays219 : Go.Proofs.Lays.n219 Tryd.prog laid_lays219_ren := {
 mixed := by kernel_rfl
 f217 := Tryd.func67.trans (congrArg some (by kernel_rfl))
 f219 := Tryd.func56.trans (congrArg some (by kernel_rfl))
 f224 := Tryd.func69.trans (congrArg some (by kernel_rfl))
 f225 := Tryd.func68.trans (congrArg some (by kernel_rfl))
 f266 := Tryd.func78.trans (congrArg some (by kernel_rfl))
 f267 := Tryd.func70.trans (congrArg some (by kernel_rfl))
 f314 := Tryd.func79.trans (congrArg some (by kernel_rfl))
 t3 := Tryd.underlying3
 a3 := Tryd.isAgg3
 z3 := Tryd.sizeOf3
 v3 := Tryd.zeroValue3
 t4 := Tryd.underlying4
 a4 := Tryd.isAgg4
 z4 := Tryd.sizeOf4
 v4 := Tryd.zeroValue4
 t5 := Tryd.underlying5
 a5 := Tryd.isAgg5
 z5 := Tryd.sizeOf5
 v5 := Tryd.zeroValue5
 t9 := Tryd.underlying9
 a9 := Tryd.isAgg9
 z9 := Tryd.sizeOf9
 v9 := Tryd.zeroValue9
 t46 := Tryd.underlying82
 a46 := Tryd.isAgg82
 z46 := Tryd.sizeOf82
 v46 := Tryd.zeroValue82
 t51 := Tryd.underlying94
 a51 := Tryd.isAgg94
 z51 := Tryd.sizeOf94
 v51 := Tryd.zeroValue94
 t146 := Tryd.underlying95
 a146 := Tryd.isAgg95
 z146 := Tryd.sizeOf95
 v146 := Tryd.zeroValue95
 g1 := by kernel_rfl }
theorem stringslite_Index.calls (a0 : ByteArray) (a1 : ByteArray) (r : Int) (w : World) (h : stringslite_Index.f a0 a1 = some r) :
 Calls Tryd.prog 56 #[.string a0, .string a1] w fun e w' => e = .returned (.int .i64 r) ∧ Drawn0 w w' := by
 unfold stringslite_Index.f at h
 split at h
 case isFalse => cases h
 case isTrue hl =>
  obtain rfl := Option.some.inj h
  obtain ⟨⟨l⟩⟩ := a1
  match l, hl with
  | [c], _ => exact (Any.stringslite_Index_one laid_lays219 a0 c w).mono fun _ _ ⟨he, hw⟩ => ⟨he, by subst hw; exact Drawn0.refl _⟩
  | [], hl => cases hl
  | _ :: _ :: _, hl => exact absurd hl (by simp [ByteArray.size])

/-! ### stringslite_Cut: function 41 -/
set_option maxHeartbeats 8000000 in
set_option maxRecDepth 100000 in
theorem stringslite_Cut.calls (a0 : ByteArray) (a1 : ByteArray) (r1 : ByteArray) (r2 : ByteArray) (r3 : Bool) (w : World) (h : stringslite_Cut.f a0 a1 = some (r1, r2, r3)) :
 Calls Tryd.prog 41 #[.string a0, .string a1] w fun e w' => e = .returned (.tuple #[.string r1, .string r2, .bool r3]) ∧ Drawn0 w w' := by
 have H : ((stringslite_Index.f a0 a1).bind fun t161 => (if t161 ≥ 0 then (if 0 ≤ t161 then (if t161 ≤ (a0.size : Int) then (if 0 ≤ (wrap64 (t161 + (a1.size : Int))) then (if (wrap64 (t161 + (a1.size : Int))) ≤ (a0.size : Int) then (some (a0.extract 0 (t161 : Int).toNat, a0.extract ((wrap64 (t161 + (a1.size : Int))) : Int).toNat a0.size, true)) else (none)) else (none)) else (none)) else (none)) else (some (a0, (⟨#[]⟩ : ByteArray), false)))) = some (r1, r2, r3) := h
 clear h
 replace H := Option.bind_eq_some_iff.mp H
 obtain ⟨t161, A30, H⟩ := H
 try dsimp only at H
 have A3 := Aside0.mk A30
 clear A30
 by_cases c4 : t161 ≥ 0
 ·rw [if_pos c4] at H
  have c4b0 : decide (0 ≤ t161) = true := decide_eq_true c4
  clear c4
  by_cases c5 : 0 ≤ t161
  ·rw [if_pos c5] at H
   have c5b0 := eq_true c5
   have c5b1 : decide (0 ≤ t161) = true := decide_eq_true c5
   clear c5
   by_cases c6 : t161 ≤ (a0.size : Int)
   ·rw [if_pos c6] at H
    have c6b0 := eq_true c6
    have c6b1 : decide (t161 ≤ (a0.size : Int)) = true := decide_eq_true c6
    clear c6
    obtain ⟨ji7, hji7⟩ : ∃ j_ : Int, (wrap64 (t161 + (a1.size : Int))) = j_ := ⟨_, rfl⟩
    replace H : (if 0 ≤ (ji7) then (if (ji7) ≤ (a0.size : Int) then (some (a0.extract 0 (t161 : Int).toNat, a0.extract ((ji7) : Int).toNat a0.size, true)) else (none)) else (none)) = some (r1, r2, r3) := by first | (rw [hji7] at H; exact H) | (simp only [hji7] at H ⊢; exact H)
    (try rw [hji7] at A3)
    have hji7w : (IntKind.i64.wrap (t161 + (a1.size : Int))) = ji7 := (i64_w _).trans hji7
    by_cases c8 : 0 ≤ (ji7)
    ·rw [if_pos c8] at H
     have c8b0 := eq_true c8
     have c8b1 : decide (0 ≤ (ji7)) = true := decide_eq_true c8
     clear c8
     by_cases c9 : (ji7) ≤ (a0.size : Int)
     ·rw [if_pos c9] at H
      have c9b0 := eq_true c9
      have c9b1 : decide ((ji7) ≤ (a0.size : Int)) = true := decide_eq_true c9
      clear c9
      simp only [Option.some.injEq, Prod.mk.injEq] at H
      obtain ⟨rfl, rfl, rfl⟩ := H
      go_enter Tryd.func41, Tryd.ntmps41
      go_wp2_with (first | (go_at_call 56; (with_reducible refine (stringslite_Index.calls a0 a1 t161 _ A3.out).mono ?_); rintro e w' ⟨rfl, ⟨nd, rfl⟩⟩; (try first | exact ⟨rfl, _, World.drewN_drewN _ _ _⟩ | exact ⟨rfl, _, Eq.trans (World.drewN_drewN _ _ _) (congrArg (World.drewN _) (Nat.add_assoc _ _ _))⟩)) | (go_quiet (first | (go_at_call 56; (with_reducible refine (stringslite_Index.calls a0 a1 t161 _ A3.out).mono ?_); rintro e w' ⟨rfl, ⟨nd, rfl⟩⟩; (try first | exact ⟨rfl, _, World.drewN_drewN _ _ _⟩ | exact ⟨rfl, _, Eq.trans (World.drewN_drewN _ _ _) (congrArg (World.drewN _) (Nat.add_assoc _ _ _))⟩)))))
      go_ret3
      exact ⟨by first | rfl | (simp; done) | (simp only [← hji7] <;> (first | rfl | simp)) | (simp [*]; done), yactParseLocix4_7_⟩
     ·rw [if_neg c9] at H
      exact absurd H (by simp)
    ·rw [if_neg c8] at H
     exact absurd H (by simp)
   ·rw [if_neg c6] at H
    exact absurd H (by simp)
  ·rw [if_neg c5] at H
   exact absurd H (by simp)
 ·rw [if_neg c4] at H
  have c4b0 : decide (0 ≤ t161) = false := decide_eq_false c4
  clear c4
  simp only [Option.some.injEq, Prod.mk.injEq] at H
  obtain ⟨rfl, rfl, rfl⟩ := H
  go_enter Tryd.func41, Tryd.ntmps41
  go_wp2_with (first | (go_at_call 56; (with_reducible refine (stringslite_Index.calls a0 a1 t161 _ A3.out).mono ?_); rintro e w' ⟨rfl, ⟨nd, rfl⟩⟩; (try first | exact ⟨rfl, _, World.drewN_drewN _ _ _⟩ | exact ⟨rfl, _, Eq.trans (World.drewN_drewN _ _ _) (congrArg (World.drewN _) (Nat.add_assoc _ _ _))⟩)) | (go_quiet (first | (go_at_call 56; (with_reducible refine (stringslite_Index.calls a0 a1 t161 _ A3.out).mono ?_); rintro e w' ⟨rfl, ⟨nd, rfl⟩⟩; (try first | exact ⟨rfl, _, World.drewN_drewN _ _ _⟩ | exact ⟨rfl, _, Eq.trans (World.drewN_drewN _ _ _) (congrArg (World.drewN _) (Nat.add_assoc _ _ _))⟩)))))
  go_ret3
  exact ⟨yactParseLocix4_0_, yactParseLocix4_7_⟩

/-! ### strings_Cut: function 22 -/
set_option maxHeartbeats 8000000 in
set_option maxRecDepth 100000 in
theorem strings_Cut.calls (a0 : ByteArray) (a1 : ByteArray) (r1 : ByteArray) (r2 : ByteArray) (r3 : Bool) (w : World) (h : strings_Cut.f a0 a1 = some (r1, r2, r3)) :
 Calls Tryd.prog 22 #[.string a0, .string a1] w fun e w' => e = .returned (.tuple #[.string r1, .string r2, .bool r3]) ∧ Drawn0 w w' := by
 have H : ((stringslite_Cut.f a0 a1).bind fun bt162 => (some (bt162.1, bt162.2.1, bt162.2.2))) = some (r1, r2, r3) := h
 clear h
 replace H := Option.bind_eq_some_iff.mp H
 obtain ⟨⟨t162, t163, t164⟩, A30, H⟩ := H
 try dsimp only at H
 have A3 := Aside0.mk A30
 clear A30
 simp only [Option.some.injEq, Prod.mk.injEq] at H
 obtain ⟨rfl, rfl, rfl⟩ := H
 go_enter Tryd.func22, Tryd.ntmps22
 go_wp2_with (first | ((with_reducible refine gate_callee (f := 41) rfl ?_); refine goesM_ (some 9) Tryd.func41 #[.string a0, .string a1] ?_; (with_reducible refine (stringslite_Cut.calls a0 a1 t162 t163 t164 _ A3.out).mono ?_); rintro e w' ⟨rfl, ⟨nd, rfl⟩⟩; refine ⟨_, rfl, ?_⟩))
 go_ret3
 exact ⟨yactParseLocix4_0_, yactParseLocix4_7_⟩

/-! ### stringslite_HasSuffix: function 57 -/
set_option maxHeartbeats 8000000 in
set_option maxRecDepth 100000 in
theorem stringslite_HasSuffix.calls (a0 : ByteArray) (a1 : ByteArray) (r : Bool) (w : World) (h : stringslite_HasSuffix.f a0 a1 = some r) :
 Calls Tryd.prog 57 #[.string a0, .string a1] w fun e w' => e = .returned (.bool r) ∧ Drawn0 w w' := by
 have H : (if (a0.size : Int) ≥ (a1.size : Int) then (if 0 ≤ (wrap64 ((a0.size : Int) - (a1.size : Int))) then (if (wrap64 ((a0.size : Int) - (a1.size : Int))) ≤ (a0.size : Int) then (some ((a0.extract ((wrap64 ((a0.size : Int) - (a1.size : Int))) : Int).toNat a0.size).toList == a1.toList)) else (none)) else (none)) else (some false)) = some r := h
 clear h
 by_cases c3 : (a0.size : Int) ≥ (a1.size : Int)
 ·rw [if_pos c3] at H
  have c3b0 : decide ((a1.size : Int) ≤ (a0.size : Int)) = true := decide_eq_true c3
  have c3b1 : decide (a1.size ≤ a0.size) = true := decide_eq_true (Int.ofNat_le.mp c3)
  clear c3
  obtain ⟨ji4, hji4⟩ : ∃ j_ : Int, (wrap64 ((a0.size : Int) - (a1.size : Int))) = j_ := ⟨_, rfl⟩
  replace H : (if 0 ≤ (ji4) then (if (ji4) ≤ (a0.size : Int) then (some ((a0.extract ((ji4) : Int).toNat a0.size).toList == a1.toList)) else (none)) else (none)) = some r := by first | (rw [hji4] at H; exact H) | (simp only [hji4] at H ⊢; exact H)
  have hji4w : (IntKind.i64.wrap ((a0.size : Int) - (a1.size : Int))) = ji4 := (i64_w _).trans hji4
  by_cases c5 : 0 ≤ (ji4)
  ·rw [if_pos c5] at H
   have c5b0 := eq_true c5
   have c5b1 : decide (0 ≤ (ji4)) = true := decide_eq_true c5
   clear c5
   by_cases c6 : (ji4) ≤ (a0.size : Int)
   ·rw [if_pos c6] at H
    have c6b0 := eq_true c6
    have c6b1 : decide ((ji4) ≤ (a0.size : Int)) = true := decide_eq_true c6
    clear c6
    obtain rfl := Option.some.inj H
    go_enter Tryd.func57, Tryd.ntmps57
    go_wp2
    go_ret
    exact ⟨by first | rfl | (simp; done) | (simp only [← hji4] <;> (first | rfl | simp)) | (simp [*]; done), yactParseLocix4_7_⟩
   ·rw [if_neg c6] at H
    exact absurd H (by simp)
  ·rw [if_neg c5] at H
   exact absurd H (by simp)
 ·rw [if_neg c3] at H
  have c3b0 : decide ((a1.size : Int) ≤ (a0.size : Int)) = false := decide_eq_false c3
  have c3b1 : decide (a1.size ≤ a0.size) = false := decide_eq_false (fun h => c3 (Int.ofNat_le.mpr h))
  clear c3
  obtain rfl := Option.some.inj H
  go_enter Tryd.func57, Tryd.ntmps57
  go_wp2
  go_ret
  exact ⟨yactParseLocix4_0_, yactParseLocix4_7_⟩

/-! ### stringslite_TrimSuffix: function 42 -/
set_option maxHeartbeats 8000000 in
set_option maxRecDepth 100000 in
theorem stringslite_TrimSuffix.calls (a0 : ByteArray) (a1 : ByteArray) (r : ByteArray) (w : World) (h : stringslite_TrimSuffix.f a0 a1 = some r) :
 Calls Tryd.prog 42 #[.string a0, .string a1] w fun e w' => e = .returned (.string r) ∧ Drawn0 w w' := by
 have H : ((stringslite_HasSuffix.f a0 a1).bind fun t165 => (if t165 = true then (if 0 ≤ (wrap64 ((a0.size : Int) - (a1.size : Int))) then (if (wrap64 ((a0.size : Int) - (a1.size : Int))) ≤ (a0.size : Int) then (some (a0.extract 0 ((wrap64 ((a0.size : Int) - (a1.size : Int))) : Int).toNat)) else (none)) else (none)) else (some a0))) = some r := h
 clear h
 replace H := Option.bind_eq_some_iff.mp H
 obtain ⟨t165, A30, H⟩ := H
 try dsimp only at H
 have A3 := Aside0.mk A30
 clear A30
 by_cases c4 : t165 = true
 ·subst c4
  replace H := ip_ H rfl
  obtain ⟨ji5, hji5⟩ : ∃ j_ : Int, (wrap64 ((a0.size : Int) - (a1.size : Int))) = j_ := ⟨_, rfl⟩
  replace H : (if 0 ≤ (ji5) then (if (ji5) ≤ (a0.size : Int) then (some (a0.extract 0 ((ji5) : Int).toNat)) else (none)) else (none)) = some r := by first | (rw [hji5] at H; exact H) | (simp only [hji5] at H ⊢; exact H)
  (try rw [hji5] at A3)
  have hji5w : (IntKind.i64.wrap ((a0.size : Int) - (a1.size : Int))) = ji5 := (i64_w _).trans hji5
  by_cases c6 : 0 ≤ (ji5)
  ·rw [if_pos c6] at H
   have c6b0 := eq_true c6
   have c6b1 : decide (0 ≤ (ji5)) = true := decide_eq_true c6
   clear c6
   by_cases c7 : (ji5) ≤ (a0.size : Int)
   ·rw [if_pos c7] at H
    have c7b0 := eq_true c7
    have c7b1 : decide ((ji5) ≤ (a0.size : Int)) = true := decide_eq_true c7
    clear c7
    obtain rfl := Option.some.inj H
    go_enter Tryd.func42, Tryd.ntmps42
    go_wp2_with (first | ((with_reducible refine gate_callee (f := 57) rfl ?_); refine goesM_ (some 7) Tryd.func57 #[.string a0, .string a1] ?_; (with_reducible refine (stringslite_HasSuffix.calls a0 a1 true _ A3.out).mono ?_); rintro e w' ⟨rfl, ⟨nd, rfl⟩⟩; refine ⟨_, rfl, ?_⟩))
    go_ret
    exact ⟨by first | rfl | (simp; done) | (simp only [← hji5] <;> (first | rfl | simp)) | (simp [*]; done), yactParseLocix4_7_⟩
   ·rw [if_neg c7] at H
    exact absurd H (by simp)
  ·rw [if_neg c6] at H
   exact absurd H (by simp)
 ·replace c4 := Bool.eq_false_iff.mpr c4
  subst c4
  replace H := in_ H (show ¬ (false = true) by decide)
  obtain rfl := Option.some.inj H
  go_enter Tryd.func42, Tryd.ntmps42
  go_wp2_with (first | ((with_reducible refine gate_callee (f := 57) rfl ?_); refine goesM_ (some 7) Tryd.func57 #[.string a0, .string a1] ?_; (with_reducible refine (stringslite_HasSuffix.calls a0 a1 false _ A3.out).mono ?_); rintro e w' ⟨rfl, ⟨nd, rfl⟩⟩; refine ⟨_, rfl, ?_⟩))
  go_ret
  exact ⟨yactParseLocix4_0_, yactParseLocix4_7_⟩

/-! ### strings_TrimSuffix: function 23 -/
set_option maxHeartbeats 8000000 in
set_option maxRecDepth 100000 in
theorem strings_TrimSuffix.calls (a0 : ByteArray) (a1 : ByteArray) (r : ByteArray) (w : World) (h : strings_TrimSuffix.f a0 a1 = some r) :
 Calls Tryd.prog 23 #[.string a0, .string a1] w fun e w' => e = .returned (.string r) ∧ Drawn0 w w' := by
 have H : ((stringslite_TrimSuffix.f a0 a1).bind fun t166 => (some t166)) = some r := h
 clear h
 replace H := Option.bind_eq_some_iff.mp H
 obtain ⟨t166, A30, H⟩ := H
 try dsimp only at H
 have A3 := Aside0.mk A30
 clear A30
 obtain rfl := Option.some.inj H
 go_enter Tryd.func23, Tryd.ntmps23
 go_wp2_with (first | ((with_reducible refine gate_callee (f := 42) rfl ?_); refine goesM_ (some 7) Tryd.func42 #[.string a0, .string a1] ?_; (with_reducible refine (stringslite_TrimSuffix.calls a0 a1 t166 _ A3.out).mono ?_); rintro e w' ⟨rfl, ⟨nd, rfl⟩⟩; refine ⟨_, rfl, ?_⟩))
 go_ret
 exact ⟨yactParseLocix4_0_, yactParseLocix4_7_⟩

end Go.Proofs.YtgjljcejhdpibaaDoor.PFnExactParseLoci
