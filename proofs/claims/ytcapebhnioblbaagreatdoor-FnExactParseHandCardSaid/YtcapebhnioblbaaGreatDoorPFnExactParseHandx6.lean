/- Written by a program of this claim's author, out of the loaded program as Lean prints it: the functions as Lean functions, and that the calls answer so. -/
import Derived.Test.YtcapebhnioblbaaGreatDoorPFnExactParseHandx0
import Derived.Test.YtcapebhnioblbaaGreatDoorPFnExactParseHandx1
import Derived.Test.YtcapebhnioblbaaGreatDoorPFnExactParseHandx5
import Derived.Test.YtcapebhnioblbaaGreatDoorPFnExactParseHandxD0
namespace Go.Proofs.YtcapebhnioblbaaGreatDoor.PFnExactParseHand
open Go.RowKit Go.Proofs.YtcapebhnioblbaaGreatDoorW.PrintWords Go.Proofs.YtcapebhnioblbaaGreatDoorW.PrintLast Go.Proofs.YtcapebhnioblbaaGreatDoorW.PrintMore
attribute [local go_sem] max2_int min2_int max_two min_two max_three min_three max_four min_four isSome_setCell   -- for this text's walks alone
theorem yactParseHandx6_0_ {p : Prop} (h : p := by (with_reducible repeat (first | apply Kd.R_alloc | apply Kd.R_drewN | apply Kd.R_drew)); exact HO_4.out) : p := h
theorem yactParseHandx6_1_ {p : Prop} (h : p := by (with_reducible repeat (first | apply kN_ | apply kD_ | apply kA_)); refine blk_put (cs := #[.string (⟨#[]⟩ : ByteArray), .int .i64 0]) ?_ 1 _ rfl; (with_reducible repeat (first | apply kN_ | apply kD_ | apply kA_)); refine blk_put (cs := #[.string (⟨#[]⟩ : ByteArray), .int .i64 0]) ?_ 0 _ rfl; (with_reducible repeat (first | apply kN_ | apply kD_ | apply kA_)); exact BK191.out) : p := h
abbrev bactParseHandx6_8_0 : Array Bool := #[false, false, false, false, false, false, false, false]
abbrev bactParseHandx6_8_1 : Array Bool := #[true, false, false, false, false, false, false, false]
abbrev bactParseHandx6_8_1f : Array Bool := #[true, true, true, true, true, false, false, false]
abbrev bactParseHandx6_8_3f : Array Bool := #[true, true, true, true, true, true, false, false]
abbrev bactParseHandx6_8_7f : Array Bool := #[true, true, true, true, true, true, true, false]
abbrev bactParseHandx6_8_9 : Array Bool := #[true, false, false, true, false, false, false, false]
abbrev bactParseHandx6_8_b : Array Bool := #[true, true, false, true, false, false, false, false]
abbrev bactParseHandx6_8_f : Array Bool := #[true, true, true, true, false, false, false, false]
abbrev bactParseHandx6_8_ff : Array Bool := #[true, true, true, true, true, true, true, true]
set_option linter.unusedVariables false
set_option linter.unusedSimpArgs false

/-! ### spec_mvText: function 34 -/
def spec_mvText.T4 : Bool × List (List Nat × List Nat) := (true, [([], []), ([0], [0]), ([1], [1]), ([], []), ([3], [3]), ([4], [4]), ([2, 5], [2, 5]), ([6, 5, 0, 1, 2, 3, 4, 5, 6], [6])])
def spec_mvText.B4 : List Nat := [0, 1, 3, 0, 8, 24, 63, 127]
theorem spec_mvText.tab4 : rtab .any (opsOf Tryz.f34 4) = spec_mvText.T4 := by kernel_rfl
theorem spec_mvText.bits4 : waitsOk spec_mvText.T4.2 spec_mvText.B4 = true := by kernel_rfl
set_option maxHeartbeats 8000000 in
set_option maxRecDepth 100000 in
theorem spec_mvText.calls (k : Nat) (a0_0 : ByteArray) (a0_1 : Int) (r : ByteArray) (w : World) (h : spec_mvText.f k a0_0 a0_1 = some r) :
 Calls Tryz.prog 34 #[.agg #[.string a0_0, .int .i64 a0_1]] w fun e w' => e = .returned (.string r) ∧ Below w.heap.size w w' := by
 have hu29 := Tryz.underlying29
 have HB := Aside0.mk (Below.refl w.heap.size w)
 have H : (if a0_0.toList = ([] : List UInt8) then (some (⟨#[45]⟩ : ByteArray)) else (if a0_1 > 1 then (if a0_0.size + 1 ≤ 9223372036854775807 then ((spec_l1Num.f k a0_1).bind fun t190 => (if (a0_0 ++ (⟨#[42]⟩ : ByteArray)).size + t190.size ≤ 9223372036854775807 then (some ((a0_0 ++ (⟨#[42]⟩ : ByteArray)) ++ t190)) else (none))) else (none)) else (some a0_0))) = some r := h
 clear h
 by_cases c2 : a0_0.toList = ([] : List UInt8)
 ·rw [if_pos c2] at H
  have c2b0 : (a0_0.toList == ([] : List UInt8)) = true := beq_iff_eq.mpr c2
  have c2b1 : (a0_0.toList != ([] : List UInt8)) = false := bne_eq_false_iff_eq.mpr c2
  clear c2
  obtain rfl := Option.some.inj H
  go_enter Tryz.func34, Tryz.ntmps34
  go_wp2_with (first | ((with_reducible refine gate_dst (N := 1) rfl ?_); refine box_event ?hg (N := 1) ?hd (cs := #[.string a0_0, .int .i64 a0_1]) (t := 29) ?hr ?_; (case hd => rfl); (case hg => rfl); (case hr => first | (go_simp; done) | (go_simp; rfl)); intro gb189 hg w3 hbox hb; have BK189 := aM_ (hbox); have GW189 := aM_ (gw_ w hg); have GE189 := aM_ (gw_ w hg); replace HB := aM_ (below_step hB_ hb); clear hb hbox hg; have hz4 := cf2_ BK189.out))
  go_ret
  exact ⟨rT_, hB_⟩
 ·rw [if_neg c2] at H
  have c2b0 : (a0_0.toList == ([] : List UInt8)) = false := beq_eq_false_iff_ne.mpr c2
  have c2b1 : (a0_0.toList != ([] : List UInt8)) = true := bne_iff_ne.mpr c2
  by_cases c5 : a0_1 > 1
  ·rw [if_pos c5] at H
   have c5b0 : decide (1 < a0_1) = true := decide_eq_true c5
   clear c5
   by_cases c6 : a0_0.size + 1 ≤ 9223372036854775807
   ·rw [if_pos c6] at H
    have c6b0 := eq_true c6
    have c6b1 : decide (a0_0.size + 1 ≤ 9223372036854775807) = true := decide_eq_true c6
    try have c6b2 : (9223372036854775807 < a0_0.size + 1) = False := eq_false (Nat.not_lt.2 c6)
    replace H := Option.bind_eq_some_iff.mp H
    obtain ⟨t190, A70, H⟩ := H
    try dsimp only at H
    have A7 := Aside0.mk A70
    clear A70
    by_cases c8 : (a0_0 ++ (⟨#[42]⟩ : ByteArray)).size + t190.size ≤ 9223372036854775807
    ·rw [if_pos c8] at H
     have c8b0 := eq_true c8
     have c8b1 : decide ((a0_0 ++ (⟨#[42]⟩ : ByteArray)).size + t190.size ≤ 9223372036854775807) = true := decide_eq_true c8
     try have c8b2 : (9223372036854775807 < (a0_0 ++ (⟨#[42]⟩ : ByteArray)).size + t190.size) = False := eq_false (Nat.not_lt.2 c8)
     try (have c8b3 := c8b2; simp only [ByteArray.size_append', ByteArray.size_mk', List.size_toArray, List.length_cons, List.length_nil, Nat.zero_add, Nat.reduceAdd] at c8b3)
     obtain rfl := Option.some.inj H
     go_enter Tryz.func34, Tryz.ntmps34
     try go_wp2_with (first | ((with_reducible refine gate_dst (N := 1) rfl ?_); refine box_event ?hg (N := 1) ?hd (cs := #[.string a0_0, .int .i64 a0_1]) (t := 29) ?hr ?_; (case hd => rfl); (case hg => rfl); (case hr => first | (go_simp; done) | (go_simp; rfl)); intro gb189 hg w9 hbox hb; have BK189 := aM_ (hbox); have GW189 := aM_ (gw_ w hg); have GE189 := aM_ (gw_ w hg); replace HB := aM_ (below_step hB_ hb); clear hb hbox hg; have hz10 := cf2_ BK189.out))
     replace BK189 := aM_ (blk_drew BK189.out)
     replace HB := aM_ (below_drew1 HB.out)
     refine start_ (n := 8) (S := fun w' => w'.cell? ⟨gb189, 0, none⟩ = some (.string a0_0) ∧ w'.cell? ⟨gb189, 1, none⟩ = some (.int .i64 a0_1)) (ds := []) bactParseHandx6_8_0 (by kernel_rfl) rfl rfl ⟨(blk_cell BK189.out 0).trans rfl, (blk_cell BK189.out 1).trans rfl⟩ (fun hHeld => ?_); refine with_tabW spec_mvText.tab4 spec_mvText.bits4 (fun HT_ HW_ => ?_)
     generalize w9.drew = w11 at BK189 HB hHeld ⊢
     refine pure_ (i := 0) (N := some 11) (v := ?_) (a' := ?_) bactParseHandx6_8_1 rfl rfl (any_of HT_.out (by kernel_rfl)) (fun _ _ _ h => h) (Or.inl ⟨by rfl, ?_⟩) ?_ ?_
     rotate_left
     ·intro w'
      go_simp
      with_reducible rfl
     rotate_left
     ·simp only [Act.put, List.setIfInBounds_toArray, List.set_cons_zero, List.set_cons_succ, i64_w, i32_w]
      rfl
     refine pure_ (i := 3) (N := some 14) (v := ?_) (a' := ?_) bactParseHandx6_8_9 rfl rfl (any_of HT_.out (by kernel_rfl)) (fun _ _ _ h => h) (Or.inl ⟨by rfl, ?_⟩) ?_ ?_
     rotate_left
     ·intro w'
      go_simp
      with_reducible rfl
     rotate_left
     ·simp only [Act.put, List.setIfInBounds_toArray, List.set_cons_zero, List.set_cons_succ, i64_w, i32_w]
      rfl
     refine take_ (i := 1) (N := some 12) (v := ?_) (a' := ?_) bactParseHandx6_8_b rfl rfl (take_ofW HT_.out HW_.out (by kernel_rfl)) (fun _ _ _ h => h) (Or.inl ⟨by rfl, ?_⟩) hHeld ?_ ?_
     rotate_left
     ·rintro w' ⟨s0, s1⟩
      go_simp
      with_reducible rfl
     rotate_left
     ·simp only [Act.put, List.setIfInBounds_toArray, List.set_cons_zero, List.set_cons_succ, i64_w, i32_w]
      rfl
     refine pure_ (i := 2) (N := some 13) (v := ?_) (a' := ?_) bactParseHandx6_8_f rfl rfl (any_of HT_.out (by kernel_rfl)) (fun _ _ _ h => h) (Or.inl ⟨by rfl, ?_⟩) ?_ ?_
     rotate_left
     ·intro w'
      go_simp
      with_reducible rfl
     rotate_left
     ·simp only [Act.put, List.setIfInBounds_toArray, List.set_cons_zero, List.set_cons_succ, i64_w, i32_w]
      rfl
     refine take_ (i := 4) (N := some 15) (v := ?_) (a' := ?_) bactParseHandx6_8_1f rfl rfl (take_ofW HT_.out HW_.out (by kernel_rfl)) (fun _ _ _ h => h) (Or.inl ⟨by rfl, ?_⟩) hHeld ?_ ?_
     rotate_left
     ·rintro w' ⟨s0, s1⟩
      go_simp
      with_reducible rfl
     rotate_left
     ·simp only [Act.put, List.setIfInBounds_toArray, List.set_cons_zero, List.set_cons_succ, i64_w, i32_w]
      rfl
     refine one_ (i := 5) (N := some 16) bactParseHandx6_8_3f rfl rfl (one_of HT_.out (by kernel_rfl)) (by decide) (fun K hK => ?_)
     refine goes_ Tryz.func57 (by kernel_rfl) rfl #[.int .i64 a0_1] (by rfl) rfl rfl aR_ ?_
     with_reducible refine (spec_l1Num.calls k a0_1 t190 _ A7.out).mono ?_
     rintro e w12 ⟨rfl, hb⟩
     refine ⟨_, rfl, ?_⟩
     replace BK189 := aM_ (blk_below (g := gb189) (kR_ BK189) hb)
     replace HB := aM_ (below_step hB_ hb)
     (try clear hb)
     (try clear hb2)
     (try clear hk)
     (try clear hi)
     refine hK.out _ _ ⟨(blk_cell BK189.out 0).trans rfl, (blk_cell BK189.out 1).trans rfl⟩ (fun hHeld => ?_)
     clear hK K
     refine norm_ (a' := ?_) ?_ ?_
     rotate_left
     ·show Act.put _ (some 16) _ = _
      simp only [Act.put, List.setIfInBounds_toArray, List.set_cons_zero, List.set_cons_succ, i64_w, i32_w]
      rfl
     refine pure_ (i := 6) (N := some 17) (v := ?_) (a' := ?_) bactParseHandx6_8_7f rfl rfl (any_of HT_.out (by kernel_rfl)) (fun _ _ _ h => h) (Or.inl ⟨by rfl, ?_⟩) ?_ ?_
     rotate_left
     ·intro w'
      go_simp
      with_reducible rfl
     rotate_left
     ·simp only [Act.put, List.setIfInBounds_toArray, List.set_cons_zero, List.set_cons_succ, i64_w, i32_w]
      rfl
     refine pure_ (i := 7) (N := some 2) (v := ?_) (a' := ?_) bactParseHandx6_8_ff rfl rfl (any_of HT_.out (by kernel_rfl)) (fun _ _ _ h => h) (Or.inl ⟨by rfl, ?_⟩) ?_ ?_
     rotate_left
     ·intro w'
      go_simp
      with_reducible rfl
     rotate_left
     ·simp only [Act.put, List.setIfInBounds_toArray, List.set_cons_zero, List.set_cons_succ, i64_w, i32_w]
      rfl
     refine done_ (done_of HT_.out (by kernel_rfl)) ?_
     try go_wp2
     go_ret
     exact ⟨rT_, hB_⟩
    ·rw [if_neg c8] at H
     exact absurd H (by simp)
   ·rw [if_neg c6] at H
    exact absurd H (by simp)
  ·rw [if_neg c5] at H
   have c5b0 : decide (1 < a0_1) = false := decide_eq_false c5
   clear c5
   obtain rfl := Option.some.inj H
   go_enter Tryz.func34, Tryz.ntmps34
   go_wp2_with (first | ((with_reducible refine gate_dst (N := 1) rfl ?_); refine box_event ?hg (N := 1) ?hd (cs := #[.string a0_0, .int .i64 a0_1]) (t := 29) ?hr ?_; (case hd => rfl); (case hg => rfl); (case hr => first | (go_simp; done) | (go_simp; rfl)); intro gb189 hg w13 hbox hb; have BK189 := aM_ (hbox); have GW189 := aM_ (gw_ w hg); have GE189 := aM_ (gw_ w hg); replace HB := aM_ (below_step hB_ hb); clear hb hbox hg; have hz14 := cf2_ BK189.out))
   go_ret
   exact ⟨rT_, hB_⟩

/-! ### spec_mvParse: function 19 -/
set_option maxHeartbeats 8000000 in
set_option maxRecDepth 100000 in
theorem spec_mvParse.calls (k : Nat) (a0 : ByteArray) (r1 : ByteArray) (r2 : Int) (r3 : Bool) (w : World) (h : spec_mvParse.f k a0 = some (r1, r2, r3)) :
 Calls Tryz.prog 19 #[.string a0] w fun e w' => e = .returned (.tuple #[.agg #[.string r1, .int .i64 r2], .bool r3]) ∧ Below w.heap.size w w' := by
 have hu29 := Tryz.underlying29
 have HB := Aside0.mk (Below.refl w.heap.size w)
 have H : ((spec_l1Split.f k a0 42).bind fun t192 => (if 0 < (t192.length : Int) then (if a0.toList = ([45] : List UInt8) then (spec_mvParse.j0 k a0 t192 (⟨#[]⟩ : ByteArray) 1) else (spec_mvParse.j0 k a0 t192 (rdOf ByteArray.empty t192 0) 1)) else (none))) = some (r1, r2, r3) := h
 clear h
 replace H := Option.bind_eq_some_iff.mp H
 obtain ⟨t192, A20, H⟩ := H
 try dsimp only at H
 have A2 := Aside0.mk A20
 clear A20
 by_cases c3 : 0 < (t192.length : Int)
 ·rw [if_pos c3] at H
  have c3b0 : decide (0 < (t192.length : Int)) = true := decide_eq_true c3
  have c3b1 : decide (0 < t192.length) = true := decide_eq_true (by omega)
  clear c3
  have HC4 := Aside0.mk H
  clear H
  go_enter Tryz.func19, Tryz.ntmps19
  go_upto_if 13 with (first | ((with_reducible refine gate_dst (N := 2) rfl ?_); refine box_event ?hg (N := 2) ?hd (cs := #[.string (⟨#[]⟩ : ByteArray), .int .i64 0]) (t := 29) ?hr ?_; (case hd => rfl); (case hg => rfl); (case hr => first | (go_simp; done) | (go_simp; rfl)); intro gb191 hg w5 hbox hb; have BK191 := aM_ (hbox); have GW191 := aM_ (gw_ w hg); have GE191 := aM_ (gw_ w hg); replace HB := aM_ (below_step hB_ hb); clear hb hbox hg) | ((with_reducible refine gate_callee (f := 15) rfl ?_); refine goesM_ (some 7) Tryz.func15 #[.string a0, .int .u8 42] ?_; (with_reducible refine (spec_l1Split.calls k a0 42 t192 _ A2.out).mono ?_); rintro e w6 ⟨v193, rfl, ho0, hb⟩; refine ⟨_, rfl, ?_⟩; have HO194 := aM_ (Kd.R_lower ho0 (below_size hB_)); replace BK191 := aM_ (blk_below (g := gb191) (kR_ BK191) hb); replace HB := aM_ (below_step hB_ hb); (try clear hb); (try clear hb2); (try clear hk); (try clear hi); (try clear ho0); obtain ⟨Ao7, co7, eo7⟩ := Kd.R_slice HO194.out; subst eo7; have p195 : 0 ≤ (0 : Int) := (by omega); have q195 : 0 < (t192.length : Int) := of_decide_eq_true (by first | (with_reducible assumption) | assumption); obtain ⟨ad195, e195, hx195_0⟩ := Kd.at_string (Kd.R_reads' HO194.out).2.2 0 p195 q195; cases e195; have qi195 : (0 < t192.length) = True := eq_true (by omega); (try rw [show ((0 : Int)).toNat = 0 from rfl] at hx195_0); (try rw [Addr.add_zero'] at hx195_0); replace p195 := eq_true p195; replace q195 := eq_true q195) | ((with_reducible refine gate_dst (N := 5) rfl ?_); refine box_event ?hg (N := 5) ?hd (cs := #[.string (⟨#[]⟩ : ByteArray), .int .i64 0]) (t := 29) ?hr ?_; (case hd => rfl); (case hg => rfl); (case hr => first | (go_simp; done) | (go_simp; rfl)); intro gb196 hg w8 hbox hb; have BK196 := aM_ (hbox); have GW196 := aM_ (gw_ w hg); have GE196 := aM_ (gw_ w hg); have NB191_196 := aM_ (nR_ BK191 hg); have NB196_191 := aM_ (mR_ BK191 hg); replace HO194 := aM_ (Kd.R_below (by (with_reducible repeat (first | apply Kd.R_alloc | apply Kd.R_drewN | apply Kd.R_drew)); exact HO194.out) hb); replace BK191 := aM_ (blk_below (g := gb191) (kR_ BK191) hb); replace HB := aM_ (below_step hB_ hb); clear hb hbox hg; have hnb9 := NB196_191.out; have hnc9 := NB191_196.out; have hz10 := cf2_ BK196.out))
  (try simp only [Act.put, List.setIfInBounds_toArray, List.set_cons_zero, List.set_cons_succ])
  go_cut [] (fun wc => ∃ (kq : Nat) (x197000_3 : ByteArray), Aside0 (spec_mvParse.j0 kq a0 t192 x197000_3 1 = some (r1, r2, r3)) ∧ Aside0 (kq ≤ k) ∧ Aside0 (Kd.R Kd.string 9 wc w.heap.size (fun _ => True) (.slice (some ad195) t192.length co7) t192) ∧ Aside0 (wc.heap[gb191]? = some (.cells #[.string (⟨#[]⟩ : ByteArray), .int .i64 0] 29 (0, 0))) ∧ Aside0 (wc.heap[gb196]? = some (.cells #[.string x197000_3, .int .i64 1] 29 (0, 0))) ∧ Aside0 (Below w.heap.size w wc))
  case first =>
   have H := HC4.out
   clear HC4
   by_cases c11 : a0.toList = ([45] : List UInt8)
   ·rw [if_pos c11] at H
    have c11b0 : (a0.toList == ([45] : List UInt8)) = true := beq_iff_eq.mpr c11
    have c11b1 : (a0.toList != ([45] : List UInt8)) = false := bne_eq_false_iff_eq.mpr c11
    clear c11
    (first | rw [c11b0] | (simp only [i64_w, i32_w]; rw [c11b0]) | skip)
    have H' := Aside0.mk H
    clear H
    have hnb12 := NB196_191.out
    have hnc12 := NB191_196.out
    have hz13 := cf2_ BK196.out
    go_wp2
    go_meet
    case rel => exact ⟨_, ((⟨#[]⟩ : ByteArray)), H', ⟨oR_⟩, ⟨by (with_reducible repeat (first | apply Kd.R_alloc | apply Kd.R_drewN | apply Kd.R_drew)); exact Kd.R_mono (Kd.R_far (p := ⟨gb196, 0, none⟩) (Kd.R_far (p := ⟨gb196, 1, none⟩) (Kd.R_far (p := ⟨gb196, 0, none⟩) (Kd.R_types HO194.out BK196.out (by decide)) (fun _ hk => hk.2) (.string (rdOf ByteArray.empty t192 0))) (fun _ hk => hk.2) (.int .i64 1)) (fun _ hk => hk.2) (.string (⟨#[]⟩ : ByteArray))) (fun _ hk => trivial)⟩, ⟨by (with_reducible repeat (first | apply kN_ | apply kD_ | apply kA_)); refine blk_far ?_ NB191_196.out _; (with_reducible repeat (first | apply kN_ | apply kD_ | apply kA_)); refine blk_far ?_ NB191_196.out _; (with_reducible repeat (first | apply kN_ | apply kD_ | apply kA_)); refine blk_far ?_ NB191_196.out _; (with_reducible repeat (first | apply kN_ | apply kD_ | apply kA_)); exact BK191.out⟩, ⟨by (with_reducible repeat (first | apply kN_ | apply kD_ | apply kA_)); refine blk_put (cs := #[.string (rdOf ByteArray.empty t192 0), .int .i64 1]) ?_ 0 _ rfl; (with_reducible repeat (first | apply kN_ | apply kD_ | apply kA_)); refine blk_put (cs := #[.string (rdOf ByteArray.empty t192 0), .int .i64 0]) ?_ 1 _ rfl; (with_reducible repeat (first | apply kN_ | apply kD_ | apply kA_)); refine blk_put (cs := #[.string (⟨#[]⟩ : ByteArray), .int .i64 0]) ?_ 0 _ rfl; (with_reducible repeat (first | apply kN_ | apply kD_ | apply kA_)); exact BK196.out⟩, ⟨hB_⟩⟩
   ·rw [if_neg c11] at H
    have c11b0 : (a0.toList == ([45] : List UInt8)) = false := beq_eq_false_iff_ne.mpr c11
    have c11b1 : (a0.toList != ([45] : List UInt8)) = true := bne_iff_ne.mpr c11
    (first | rw [c11b0] | (simp only [i64_w, i32_w]; rw [c11b0]) | skip)
    have H' := Aside0.mk H
    clear H
    go_wp2
    go_meet
    case rel => exact ⟨_, (rdOf ByteArray.empty t192 0), H', ⟨oR_⟩, ⟨by (with_reducible repeat (first | apply Kd.R_alloc | apply Kd.R_drewN | apply Kd.R_drew)); exact Kd.R_mono (Kd.R_far (p := ⟨gb196, 1, none⟩) (Kd.R_far (p := ⟨gb196, 0, none⟩) (Kd.R_types HO194.out BK196.out (by decide)) (fun _ hk => hk.2) (.string (rdOf ByteArray.empty t192 0))) (fun _ hk => hk.2) (.int .i64 1)) (fun _ hk => trivial)⟩, ⟨by (with_reducible repeat (first | apply kN_ | apply kD_ | apply kA_)); refine blk_far ?_ NB191_196.out _; (with_reducible repeat (first | apply kN_ | apply kD_ | apply kA_)); refine blk_far ?_ NB191_196.out _; (with_reducible repeat (first | apply kN_ | apply kD_ | apply kA_)); exact BK191.out⟩, ⟨by (with_reducible repeat (first | apply kN_ | apply kD_ | apply kA_)); refine blk_put (cs := #[.string (rdOf ByteArray.empty t192 0), .int .i64 0]) ?_ 1 _ rfl; (with_reducible repeat (first | apply kN_ | apply kD_ | apply kA_)); refine blk_put (cs := #[.string (⟨#[]⟩ : ByteArray), .int .i64 0]) ?_ 0 _ rfl; (with_reducible repeat (first | apply kN_ | apply kD_ | apply kA_)); exact BK196.out⟩, ⟨hB_⟩⟩
  case rest =>
   clear HC4
   (try clear c3);(try clear c3b0);(try clear c3b1);(try clear hcz10_0);(try clear hcz10_1);(try clear hfz10_0);(try clear hfz10_1);(try clear hx195_0);(try clear p195);(try clear q195)
   obtain ⟨kq, x197000_3, HA, HJ3, HO_4, BK191, BK196, HB⟩ := hcut
   cases kq with
   | zero => exact absurd HA.out (by simp [spec_mvParse.j0])
   | succ kj3 =>
    have H := HA.out
    clear HA
    simp only [spec_mvParse.j0] at H
    have HC14 := Aside0.mk H
    clear H
    go_upto_if 17 with (fail)
    go_cut [] (fun wc => ∃ (kq : Nat) (x197001_13 : Int), Aside0 (spec_mvParse.j1 kq a0 t192 x197000_3 x197001_13 = some (r1, r2, r3)) ∧ Aside0 (kq ≤ kj3) ∧ Aside0 (Kd.R Kd.string 9 wc w.heap.size (fun _ => True) (.slice (some ad195) t192.length co7) t192) ∧ Aside0 (wc.heap[gb191]? = some (.cells #[.string (⟨#[]⟩ : ByteArray), .int .i64 0] 29 (0, 0))) ∧ Aside0 (wc.heap[gb196]? = some (.cells #[.string x197000_3, .int .i64 x197001_13] 29 (0, 0))) ∧ Aside0 (Below w.heap.size w wc))
    case first =>
     have H := HC14.out
     clear HC14
     by_cases c15 : (t192.length : Int) = 2
     ·rw [if_pos c15] at H
      have c15b0 : ((t192.length : Int) == 2) = true := beq_iff_eq.mpr c15
      have c15b1 : ((t192.length : Int) != 2) = false := bne_eq_false_iff_eq.mpr c15
      clear c15
      (first | rw [c15b0] | (simp only [i64_w, i32_w]; rw [c15b0]) | skip)
      by_cases c16 : 1 < (t192.length : Int)
      ·rw [if_pos c16] at H
       have c16b0 : decide (1 < (t192.length : Int)) = true := decide_eq_true c16
       have c16b1 : decide (1 < t192.length) = true := decide_eq_true (by omega)
       clear c16
       replace H := Option.bind_eq_some_iff.mp H
       obtain ⟨t198, A170, H⟩ := H
       try dsimp only at H
       have A17 := Aside0.mk A170
       clear A170
       have H' := Aside0.mk H
       clear H
       have p197 : 0 ≤ (1 : Int) := (by omega)
       have q197 : 1 < (t192.length : Int) := of_decide_eq_true (by first | (with_reducible assumption) | assumption)
       obtain ⟨ad197, e197, hx197_0⟩ := Kd.at_string (Kd.R_reads' HO_4.out).2.2 1 p197 q197
       obtain rfl : ad195 = ad197 := (by injection e197)
       (try simp only [show (1 : Int).toNat = 1 from rfl, Nat.reduceMul, Nat.reduceEqDiff, Go.Addr.add, ↓reduceIte] at hx197_0)
       have qi197 : (1 < t192.length) = True := eq_true (by omega)
       (try rw [show ((1 : Int)).toNat = 1 from rfl] at hx197_0)
       replace p197 := eq_true p197
       replace q197 := eq_true q197
       go_wp2_with (first | ((with_reducible refine gate_callee (f := 32) rfl ?_); refine goesM_ (some 21) Tryz.func32 #[.string (rdOf ByteArray.empty t192 1)] ?_; (with_reducible refine (spec_l1Read.calls kj3 (rdOf ByteArray.empty t192 1) t198 _ A17.out).mono ?_); rintro e w' ⟨rfl, ⟨nd, rfl⟩⟩; refine ⟨_, rfl, ?_⟩; (try (rw [drewN_self wc]; generalize hq_ : World.drewN wc _ = wc; have n0_ : Aside0 (Kd.R Kd.string 9 wc w.heap.size (fun _ => True) (.slice (some ad195) t192.length co7) t192) := ⟨by rw [← hq_]; exact yactParseHandx6_0_⟩; have n1_ : Aside0 (wc.heap[gb191]? = some (.cells #[.string (⟨#[]⟩ : ByteArray), .int .i64 0] 29 (0, 0))) := ⟨by rw [← hq_]; exact (by (with_reducible repeat (first | apply kN_ | apply kD_ | apply kA_)); exact BK191.out)⟩; have n2_ : Aside0 (wc.heap[gb196]? = some (.cells #[.string x197000_3, .int .i64 1] 29 (0, 0))) := ⟨by rw [← hq_]; exact (by (with_reducible repeat (first | apply kN_ | apply kD_ | apply kA_)); exact BK196.out)⟩; have n3_ : Aside0 (Below w.heap.size w wc) := ⟨by rw [← hq_]; exact hB_⟩; clear HO_4 BK191 BK196 HB hq_; have HO_4 := n0_; have BK191 := n1_; have BK196 := n2_; have HB := n3_; clear n0_ n1_ n2_ n3_)); have hnb18 := NB196_191.out; have hnc18 := NB191_196.out; have hz19 := cf2_ BK196.out))
       go_meet
       case rel => exact ⟨_, (t198), H', ⟨by have := HJ3.out; first | omega | exact Nat.le_refl _⟩, ⟨by (with_reducible repeat (first | apply Kd.R_alloc | apply Kd.R_drewN | apply Kd.R_drew)); exact Kd.R_mono (Kd.R_far (p := ⟨gb196, 1, none⟩) (Kd.R_types HO_4.out BK196.out (by decide)) (fun _ hk => hk.2) (.int .i64 t198)) (fun _ hk => trivial)⟩, ⟨by (with_reducible repeat (first | apply kN_ | apply kD_ | apply kA_)); refine blk_far ?_ NB191_196.out _; (with_reducible repeat (first | apply kN_ | apply kD_ | apply kA_)); exact BK191.out⟩, ⟨by (with_reducible repeat (first | apply kN_ | apply kD_ | apply kA_)); refine blk_put (cs := #[.string x197000_3, .int .i64 1]) ?_ 1 _ rfl; (with_reducible repeat (first | apply kN_ | apply kD_ | apply kA_)); exact BK196.out⟩, ⟨hB_⟩⟩
      ·rw [if_neg c16] at H
       exact absurd H (by simp)
     ·rw [if_neg c15] at H
      have c15b0 : ((t192.length : Int) == 2) = false := beq_eq_false_iff_ne.mpr c15
      have c15b1 : ((t192.length : Int) != 2) = true := bne_iff_ne.mpr c15
      (first | rw [c15b0] | (simp only [i64_w, i32_w]; rw [c15b0]) | skip)
      have H' := Aside0.mk H
      clear H
      go_wp2
      go_meet
      case rel => exact ⟨_, (1), H', ⟨by have := HJ3.out; first | omega | exact Nat.le_refl _⟩, ⟨yactParseHandx6_0_⟩, ⟨kP_⟩, ⟨kP_⟩, ⟨hB_⟩⟩
    case rest =>
     clear HC14
     (try clear c3);(try clear c3b0);(try clear c3b1);(try clear hcz10_0);(try clear hcz10_1);(try clear hfz10_0);(try clear hfz10_1);(try clear hx195_0);(try clear p195);(try clear q195)
     obtain ⟨kq, x197001_13, HA, HJ13, HO_4, BK191, BK196, HB⟩ := hcut
     cases kq with
     | zero => exact absurd HA.out (by simp [spec_mvParse.j1])
     | succ kj13 =>
      have H := HA.out
      clear HA
      simp only [spec_mvParse.j1] at H
      by_cases c20 : (t192.length : Int) > 2
      ·rw [if_pos c20] at H
       have c20b0 : decide (2 < (t192.length : Int)) = true := decide_eq_true c20
       have c20b1 : decide (2 < t192.length) = true := decide_eq_true (by omega)
       clear c20
       simp only [Option.some.injEq, Prod.mk.injEq] at H
       obtain ⟨rfl, rfl, rfl⟩ := H
       clear BK196
       have hz21 := cf2_ BK191.out
       go_wp2
       refine bodyPost_ret (results_ct rfl _ _ gb191 29 #[.string (⟨#[]⟩ : ByteArray), .int .i64 0] (0, 0) _ rfl yactParseHandx6_1_ Tryz.underlying29 rfl (by kernel_rfl)) rfl ?_
       exact ⟨rT_, hB_⟩
      ·rw [if_neg c20] at H
       have c20b0 : decide (2 < (t192.length : Int)) = false := decide_eq_false c20
       have c20b1 : decide (2 < t192.length) = false := decide_eq_false (by omega)
       clear c20
       replace H := Option.bind_eq_some_iff.mp H
       obtain ⟨t199, A220, H⟩ := H
       try dsimp only at H
       have A22 := Aside0.mk A220
       clear A220
       by_cases c23 : t199 = true
       ·subst c23
        replace H := ip_ H rfl
        replace H := Option.bind_eq_some_iff.mp H
        obtain ⟨t200, A240, H⟩ := H
        try dsimp only at H
        have A24 := Aside0.mk A240
        clear A240
        by_cases c25 : t200.toList = a0.toList
        ·rw [if_pos c25] at H
         have c25b0 : (t200.toList == a0.toList) = true := beq_iff_eq.mpr c25
         have c25b1 : (t200.toList != a0.toList) = false := bne_eq_false_iff_eq.mpr c25
         clear c25
         simp only [Option.some.injEq, Prod.mk.injEq] at H
         obtain ⟨rfl, rfl, rfl⟩ := H
         have hnb26 := NB196_191.out
         have hnc26 := NB191_196.out
         have hz27 := cf2_ BK196.out
         go_wp2_with (first | (go_at_call 33; (with_reducible refine (spec_mvGood.calls kj13 x197000_3 x197001_13 true _ A22.out).mono ?_); rintro e w28 ⟨rfl, hb⟩; replace HO_4 := aM_ (Kd.R_below yactParseHandx6_0_ hb); replace BK191 := aM_ (blk_below (g := gb191) (kR_ BK191) hb); replace BK196 := aM_ (blk_below (g := gb196) (kR_ BK196) hb); replace HB := aM_ (below_step hB_ hb); (try clear hb); (try clear hb2); (try clear hk); (try clear hi); have hz29 := cf2_ BK196.out) | (go_at_call 34; (with_reducible refine (spec_mvText.calls kj13 x197000_3 x197001_13 t200 _ A24.out).mono ?_); rintro e w30 ⟨rfl, hb⟩; replace HO_4 := aM_ (Kd.R_below yactParseHandx6_0_ hb); replace BK191 := aM_ (blk_below (g := gb191) (kR_ BK191) hb); replace BK196 := aM_ (blk_below (g := gb196) (kR_ BK196) hb); replace HB := aM_ (below_step hB_ hb); (try clear hb); (try clear hb2); (try clear hk); (try clear hi); have hz31 := cf2_ BK196.out; clear BK196; have hz32 := cf2_ BK191.out))
         refine bodyPost_ret (results_ct rfl _ _ gb191 29 #[.string x197000_3, .int .i64 x197001_13] (0, 0) _ rfl (by (with_reducible repeat (first | apply kN_ | apply kD_ | apply kA_)); refine blk_put (cs := #[.string x197000_3, .int .i64 0]) ?_ 1 _ rfl; (with_reducible repeat (first | apply kN_ | apply kD_ | apply kA_)); refine blk_put (cs := #[.string (⟨#[]⟩ : ByteArray), .int .i64 0]) ?_ 0 _ rfl; (with_reducible repeat (first | apply kN_ | apply kD_ | apply kA_)); exact BK191.out) Tryz.underlying29 rfl (by kernel_rfl)) rfl ?_
         exact ⟨rT_, hB_⟩
        ·rw [if_neg c25] at H
         have c25b0 : (t200.toList == a0.toList) = false := beq_eq_false_iff_ne.mpr c25
         have c25b1 : (t200.toList != a0.toList) = true := bne_iff_ne.mpr c25
         simp only [Option.some.injEq, Prod.mk.injEq] at H
         obtain ⟨rfl, rfl, rfl⟩ := H
         have hnb33 := NB196_191.out
         have hnc33 := NB191_196.out
         have hz34 := cf2_ BK196.out
         go_wp2_with (first | (go_at_call 33; (with_reducible refine (spec_mvGood.calls kj13 x197000_3 x197001_13 true _ A22.out).mono ?_); rintro e w35 ⟨rfl, hb⟩; replace HO_4 := aM_ (Kd.R_below yactParseHandx6_0_ hb); replace BK191 := aM_ (blk_below (g := gb191) (kR_ BK191) hb); replace BK196 := aM_ (blk_below (g := gb196) (kR_ BK196) hb); replace HB := aM_ (below_step hB_ hb); (try clear hb); (try clear hb2); (try clear hk); (try clear hi); have hz36 := cf2_ BK196.out; clear BK196) | (go_at_call 34; (with_reducible refine (spec_mvText.calls kj13 x197000_3 x197001_13 t200 _ A24.out).mono ?_); rintro e w37 ⟨rfl, hb⟩; replace HO_4 := aM_ (Kd.R_below yactParseHandx6_0_ hb); replace BK191 := aM_ (blk_below (g := gb191) (kR_ BK191) hb); replace HB := aM_ (below_step hB_ hb); (try clear hb); (try clear hb2); (try clear hk); (try clear hi); have hz38 := cf2_ BK191.out))
         refine bodyPost_ret (results_ct rfl _ _ gb191 29 #[.string (⟨#[]⟩ : ByteArray), .int .i64 0] (0, 0) _ rfl yactParseHandx6_1_ Tryz.underlying29 rfl (by kernel_rfl)) rfl ?_
         exact ⟨rT_, hB_⟩
       ·replace c23 := Bool.eq_false_iff.mpr c23
        subst c23
        replace H := in_ H (show ¬ (false = true) by decide)
        simp only [Option.some.injEq, Prod.mk.injEq] at H
        obtain ⟨rfl, rfl, rfl⟩ := H
        have hnb39 := NB196_191.out
        have hnc39 := NB191_196.out
        have hz40 := cf2_ BK196.out
        clear BK196
        go_wp2_with (first | (go_at_call 33; (with_reducible refine (spec_mvGood.calls kj13 x197000_3 x197001_13 false _ A22.out).mono ?_); rintro e w41 ⟨rfl, hb⟩; replace HO_4 := aM_ (Kd.R_below yactParseHandx6_0_ hb); replace BK191 := aM_ (blk_below (g := gb191) (kR_ BK191) hb); replace HB := aM_ (below_step hB_ hb); (try clear hb); (try clear hb2); (try clear hk); (try clear hi); have hz42 := cf2_ BK191.out))
        refine bodyPost_ret (results_ct rfl _ _ gb191 29 #[.string (⟨#[]⟩ : ByteArray), .int .i64 0] (0, 0) _ rfl yactParseHandx6_1_ Tryz.underlying29 rfl (by kernel_rfl)) rfl ?_
        exact ⟨rT_, hB_⟩
 ·rw [if_neg c3] at H
  exact absurd H (by simp)

end Go.Proofs.YtcapebhnioblbaaGreatDoor.PFnExactParseHand
