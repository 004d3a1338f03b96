/- Printed for this claim: functions of the program as Lean functions, and that the calls answer so. -/
import Derived.Test.YtfkdlfbjkdkffaaGreatDoorPFnVerbsx0
import Derived.Test.YtfkdlfbjkdkffaaGreatDoorPFnVerbsx13
import Derived.Test.YtfkdlfbjkdkffaaGreatDoorPFnVerbsx14
import Derived.Test.YtfkdlfbjkdkffaaGreatDoorPFnVerbsx16
import Derived.Test.YtfkdlfbjkdkffaaGreatDoorPFnVerbsxD0
namespace Go.Proofs.YtfkdlfbjkdkffaaGreatDoor.PFnVerbs
open Go.RowKit Go.Proofs.YtfkdlfbjkdkffaaGreatDoorW.PrintWords Go.Proofs.YtfkdlfbjkdkffaaGreatDoorW.PrintLast Go.Proofs.YtfkdlfbjkdkffaaGreatDoorW.PrintMore
attribute [local go_sem] max2_int min2_int max_two min_two max_three min_three max_four min_four isSome_setCell   -- for this text's walks alone
set_option linter.unusedVariables false
set_option linter.unusedSimpArgs false

theorem z17_0_ {p : Prop} (h : p := by (with_reducible repeat (first | apply kN_ | apply kD_ | apply kA_)); refine blk_put (cs := #[.string (⟨#[]⟩ : ByteArray), .int .i64 0, .int .i64 0]) ?_ 2 _ rfl; (with_reducible repeat (first | apply kN_ | apply kD_ | apply kA_)); refine blk_put (cs := #[.string (⟨#[]⟩ : ByteArray), .int .i64 0, .int .i64 0]) ?_ 1 _ rfl; (with_reducible repeat (first | apply kN_ | apply kD_ | apply kA_)); refine blk_put (cs := #[.string (⟨#[]⟩ : ByteArray), .int .i64 0, .int .i64 0]) ?_ 0 _ rfl; (with_reducible repeat (first | apply kN_ | apply kD_ | apply kA_)); exact BK586.out) : p := h
theorem z17_1_ {p : Prop} (h : p := by simp only [putAll, Act.put, List.setIfInBounds_toArray, List.set_cons_zero, List.set_cons_succ]) : p := h
theorem z17_2_ {p : Prop} (h : p := by (with_reducible repeat (first | apply kN_ | apply kD_ | apply kA_)); refine blk_put (cs := #[.string (rdOf ByteArray.empty t587 0), .int .i64 t596, .int .i64 0]) ?_ 2 _ rfl; (with_reducible repeat (first | apply kN_ | apply kD_ | apply kA_)); refine blk_put (cs := #[.string (rdOf ByteArray.empty t587 0), .int .i64 0, .int .i64 0]) ?_ 1 _ rfl; (with_reducible repeat (first | apply kN_ | apply kD_ | apply kA_)); refine blk_put (cs := #[.string (⟨#[]⟩ : ByteArray), .int .i64 0, .int .i64 0]) ?_ 0 _ rfl; (with_reducible repeat (first | apply kN_ | apply kD_ | apply kA_)); exact BK599.out) : p := h
/-! ### spec_ParseVerb: function 16 -/
def spec_ParseVerb.T7 : Bool × List (List Nat × List Nat) := (true, [([], []), ([0], [0]), ([1], [1]), ([], []), ([3], [3]), ([4], [4]), ([5], [5]), ([], []), ([7], [7]), ([8], [8]), ([9, 6], [9]), ([2, 6, 10], [2, 6, 10]), ([], []), ([12, 11, 10, 0, 1, 2, 3, 4, 5, 6, 7, 8, 9, 10, 11, 12], [11, 12])])
def spec_ParseVerb.B7 : List Nat := [0, 1, 3, 0, 8, 24, 56, 0, 128, 384, 1016, 2047, 0, 8191]
theorem spec_ParseVerb.tab7 : rtab .any (opsOf Tryz.f16 7) = spec_ParseVerb.T7 := by kernel_rfl
theorem spec_ParseVerb.bits7 : waitsOk spec_ParseVerb.T7.2 spec_ParseVerb.B7 = true := by kernel_rfl
set_option maxHeartbeats 8000000 in
set_option maxRecDepth 100000 in
theorem spec_ParseVerb.calls (k : Nat) (a0 : ByteArray) (r1 : ByteArray) (r2 : Int) (r3 : Int) (r4 : Bool) (w : World) (h : spec_ParseVerb.f k a0 = some (r1, r2, r3, r4)) :
 Calls Tryz.prog 16 #[.string a0] w fun e w' => e = .returned (.tuple #[.agg #[.string r1, .int .i64 r2, .int .i64 r3], .bool r4]) ∧ Below w.heap.size w w' := by
 have hu27 := Tryz.underlying27
 have HB := Aside0.mk (Below.refl w.heap.size w)
 have H : ((spec_l1Split.f k a0 58).bind fun t587 => (if (t587.length : Int) = 2 then (if 1 < (t587.length : Int) then ((spec_l1Split.f k (rdOf ByteArray.empty t587 1) 62).bind fun t591 => (if (t591.length : Int) = 2 then (if 0 < (t587.length : Int) then (if 0 < (t591.length : Int) then ((spec_veRead.f k (rdOf ByteArray.empty t591 0)).bind fun t596 => (if 1 < (t591.length : Int) then ((spec_veRead.f k (rdOf ByteArray.empty t591 1)).bind fun t598 => ((spec_veOne.f k (rdOf ByteArray.empty t587 0) t596 t598).bind fun t600 => (if t600 = true then ((spec_veText.f k (rdOf ByteArray.empty t587 0) t596 t598).bind fun t601 => (if t601.toList = a0.toList then (some (rdOf ByteArray.empty t587 0, t596, t598, true)) else (some ((⟨#[]⟩ : ByteArray), 0, 0, false)))) else (some ((⟨#[]⟩ : ByteArray), 0, 0, false))))) else (none))) else (none)) else (none)) else (some ((⟨#[]⟩ : ByteArray), 0, 0, false)))) else (none)) else (some ((⟨#[]⟩ : ByteArray), 0, 0, false)))) = some (r1, r2, r3, r4) := h
 clear h
 replace H := ob_ H; obtain ⟨t587, A2, H⟩ := H; try dsimp only at H
 have HC3 := Aside0.mk H
 clear H
 go_enter Tryz.func16, Tryz.ntmps16
 go_upto_if 11 with (first | ((with_reducible refine gate_dst (N := 2) rfl ?_); refine bx_ 2 #[.string (⟨#[]⟩ : ByteArray), .int .i64 0, .int .i64 0] 27 fun gb586 hg w4 hbox hb => ?_; have BK586 := aM_ (hbox); have GW586 := aM_ (gw_ w hg); have GE586 := aM_ (gw_ w hg); replace HB := aM_ (below_step hB_ hb); clear hb hbox hg) | ((with_reducible refine gC_ 63 ?_); refine gM_ (some 8) Tryz.func63 #[.string a0, .int .u8 58] ?_; (with_reducible refine (spec_l1Split.calls k a0 58 t587 _ A2.out).mono ?_); rintro e w5 ⟨v588, rfl, ho0, hb⟩; refine ⟨_, rfl, ?_⟩; have HO589 := aM_ (Kd.R_lower ho0 (below_size hB_)); replace BK586 := aM_ (blk_below (g := gb586) (kR_ BK586) hb); replace HB := aM_ (below_step hB_ hb); (try clear hb); (try clear ho0); obtain ⟨Ao6, co6, eo6⟩ := Kd.R_slice HO589.out; subst eo6))
 (try simp only [Act.put, List.setIfInBounds_toArray, List.set_cons_zero, List.set_cons_succ])
 have H := HC3.out
 clear HC3
 by_cases c7 : (t587.length : Int) = 2
 rotate_left
 ·rw [if_neg c7] at H
  have c7b0 : ((t587.length : Int) == 2) = false := beq_eq_false_iff_ne.mpr c7
  have c7b1 : ((t587.length : Int) != 2) = true := bne_iff_ne.mpr c7
  (first | rw [c7b0] | (simp only [i64_w, i32_w]; rw [c7b0]) | skip)
  simp only [Option.some.injEq, Prod.mk.injEq] at H
  obtain ⟨rfl, rfl, rfl, rfl⟩ := H
  have hz50 := cf3_ BK586.out
  go_wp2
  refine bodyPost_ret (results_ct rfl _ _ gb586 27 #[.string (⟨#[]⟩ : ByteArray), .int .i64 0, .int .i64 0] (0, 0) _ rfl z17_0_ Tryz.underlying27 rfl (by kernel_rfl)) rfl ?_
  exact ⟨rT_, hB_⟩
 rw [if_pos c7] at H
 have c7b0 : ((t587.length : Int) == 2) = true := beq_iff_eq.mpr c7
 have c7b1 : ((t587.length : Int) != 2) = false := bne_eq_false_iff_eq.mpr c7
 clear c7
 (first | rw [c7b0] | (simp only [i64_w, i32_w]; rw [c7b0]) | skip)
 by_cases c8 : 1 < (t587.length : Int)
 rotate_left
 ·rw [if_neg c8] at H
  exact absurd H (by simp)
 rw [if_pos c8] at H
 have c8b0 : decide (1 < (t587.length : Int)) = true := decide_eq_true c8
 have c8b1 : decide (1 < t587.length) = true := decide_eq_true (by omega)
 clear c8
 replace H := ob_ H; obtain ⟨t591, A9, H⟩ := H; try dsimp only at H
 have HC10 := Aside0.mk H
 clear H
 have p590 : 0 ≤ (1 : Int) := (by omega)
 have q590 : 1 < (t587.length : Int) := ode_
 obtain ⟨ad590, e590, hx590_0⟩ := Kd.at_string (Kd.R_reads' HO589.out).2.2 1 p590 q590
 cases e590
 (try simp only [show (1 : Int).toNat = 1 from rfl, Nat.reduceMul, Nat.reduceEqDiff, Go.Addr.add, ↓reduceIte] at hx590_0)
 have qi590 : (1 < t587.length) = True := eq_true (by omega)
 (try rw [show ((1 : Int)).toNat = 1 from rfl] at hx590_0)
 replace p590 := eq_true p590
 replace q590 := eq_true q590
 go_upto_if 19 with (first | ((with_reducible refine gC_ 63 ?_); refine gM_ (some 16) Tryz.func63 #[.string (rdOf ByteArray.empty t587 1), .int .u8 62] ?_; (with_reducible refine (spec_l1Split.calls k (rdOf ByteArray.empty t587 1) 62 t591 _ A9.out).mono ?_); rintro e w11 ⟨v592, rfl, ho0, hb⟩; refine ⟨_, rfl, ?_⟩; have HO593 := aM_ (Kd.R_lower (Kd.R_new' ho0 (Kd.R_lt (rR_ HO589))) (below_size hB_)); replace HO589 := aM_ (Kd.R_elder' (rR_ HO589) (Kd.R_base ho0) hb); replace BK586 := aM_ (blk_below (g := gb586) (kR_ BK586) hb); replace HB := aM_ (below_step hB_ hb); (try clear hb); (try clear ho0); obtain ⟨Ao12, co12, eo12⟩ := Kd.R_slice HO593.out; subst eo12))
 (try simp only [Act.put, List.setIfInBounds_toArray, List.set_cons_zero, List.set_cons_succ])
 have H := HC10.out
 clear HC10
 by_cases c13 : (t591.length : Int) = 2
 rotate_left
 ·rw [if_neg c13] at H
  have c13b0 : ((t591.length : Int) == 2) = false := beq_eq_false_iff_ne.mpr c13
  have c13b1 : ((t591.length : Int) != 2) = true := bne_iff_ne.mpr c13
  (first | rw [c13b0] | (simp only [i64_w, i32_w]; rw [c13b0]) | skip)
  simp only [Option.some.injEq, Prod.mk.injEq] at H
  obtain ⟨rfl, rfl, rfl, rfl⟩ := H
  have hz49 := cf3_ BK586.out
  go_wp2
  refine bodyPost_ret (results_ct rfl _ _ gb586 27 #[.string (⟨#[]⟩ : ByteArray), .int .i64 0, .int .i64 0] (0, 0) _ rfl z17_0_ Tryz.underlying27 rfl (by kernel_rfl)) rfl ?_
  exact ⟨rT_, hB_⟩
 rw [if_pos c13] at H
 have c13b0 : ((t591.length : Int) == 2) = true := beq_iff_eq.mpr c13
 have c13b1 : ((t591.length : Int) != 2) = false := bne_eq_false_iff_eq.mpr c13
 clear c13
 (first | rw [c13b0] | (simp only [i64_w, i32_w]; rw [c13b0]) | skip)
 by_cases c14 : 0 < (t587.length : Int)
 rotate_left
 ·rw [if_neg c14] at H
  exact absurd H (by simp)
 rw [if_pos c14] at H
 have c14b0 : decide (0 < (t587.length : Int)) = true := decide_eq_true c14
 have c14b1 : decide (0 < t587.length) = true := decide_eq_true (by omega)
 clear c14
 by_cases c15 : 0 < (t591.length : Int)
 rotate_left
 ·rw [if_neg c15] at H
  exact absurd H (by simp)
 rw [if_pos c15] at H
 have c15b0 : decide (0 < (t591.length : Int)) = true := decide_eq_true c15
 have c15b1 : decide (0 < t591.length) = true := decide_eq_true (by omega)
 clear c15
 replace H := ob_ H; obtain ⟨t596, A16, H⟩ := H; try dsimp only at H
 by_cases c17 : 1 < (t591.length : Int)
 rotate_left
 ·rw [if_neg c17] at H
  exact absurd H (by simp)
 rw [if_pos c17] at H
 have c17b0 : decide (1 < (t591.length : Int)) = true := decide_eq_true c17
 have c17b1 : decide (1 < t591.length) = true := decide_eq_true (by omega)
 clear c17
 replace H := ob_ H; obtain ⟨t598, A18, H⟩ := H; try dsimp only at H
 replace H := ob_ H; obtain ⟨t600, A19, H⟩ := H; try dsimp only at H
 by_cases c20 : t600 = true
 rotate_left
 ·replace c20 := Bool.eq_false_iff.mpr c20
  subst c20
  replace H := in_ H (show ¬ (false = true) by decide)
  simp only [Option.some.injEq, Prod.mk.injEq] at H
  obtain ⟨rfl, rfl, rfl, rfl⟩ := H
  try go_wp2
  replace HO589 := aM_ (Kd.R_drew HO589.out)
  replace HO593 := aM_ (Kd.R_drew HO593.out)
  replace BK586 := aM_ (blk_drew BK586.out)
  replace HB := aM_ (below_drew1 HB.out)
  have p594 : 0 ≤ (0 : Int) := (by omega)
  have q594 : 0 < (t587.length : Int) := ode_
  obtain ⟨ad594, e594, hx594_0⟩ := Kd.at_string (Kd.R_reads' HO589.out).2.2 0 p594 q594
  obtain rfl : ad590 = ad594 := (by injection e594)
  have qi594 : (0 < t587.length) = True := eq_true (by omega)
  (try rw [show ((0 : Int)).toNat = 0 from rfl] at hx594_0)
  (try rw [Addr.add_zero'] at hx594_0)
  replace p594 := eq_true p594
  replace q594 := eq_true q594
  have p595 : 0 ≤ (0 : Int) := (by omega)
  have q595 : 0 < (t591.length : Int) := ode_
  obtain ⟨ad595, e595, hx595_0⟩ := Kd.at_string (Kd.R_reads' HO593.out).2.2 0 p595 q595
  cases e595
  have qi595 : (0 < t591.length) = True := eq_true (by omega)
  (try rw [show ((0 : Int)).toNat = 0 from rfl] at hx595_0)
  (try rw [Addr.add_zero'] at hx595_0)
  replace p595 := eq_true p595
  replace q595 := eq_true q595
  have p597 : 0 ≤ (1 : Int) := (by omega)
  have q597 : 1 < (t591.length : Int) := ode_
  obtain ⟨ad597, e597, hx597_0⟩ := Kd.at_string (Kd.R_reads' HO593.out).2.2 1 p597 q597
  obtain rfl : ad595 = ad597 := (by injection e597)
  (try simp only [show (1 : Int).toNat = 1 from rfl, Nat.reduceMul, Nat.reduceEqDiff, Go.Addr.add, ↓reduceIte] at hx597_0)
  have qi597 : (1 < t591.length) = True := eq_true (by omega)
  (try rw [show ((1 : Int)).toNat = 1 from rfl] at hx597_0)
  replace p597 := eq_true p597
  replace q597 := eq_true q597
  refine st_ 14 (fun w' => w'.cell? ad590 = some (.string (rdOf ByteArray.empty t587 0)) ∧ w'.cell? ad595 = some (.string (rdOf ByteArray.empty t591 0)) ∧ w'.cell? ⟨ad595.block, ad595.off + 1, none⟩ = some (.string (rdOf ByteArray.empty t591 1))) [] spec_ParseVerb.tab7 spec_ParseVerb.bits7 ⟨hx594_0, hx595_0, hx597_0⟩ fun hHeld HT_ HW_ => ?_
  generalize w11.drew = w39 at HO589 HO593 BK586 HB hx594_0 hx595_0 hx597_0 hHeld ⊢
  refine pu_ 0 21 ?_
  refine pu_ 1 22 ?_
  refine pu_ 3 24 ?_
  refine pu_ 4 25 ?_
  refine pu_ 7 28 ?_
  refine pu_ 8 29 ?_
  refine tk_ 2 23 ?_
  refine tk_ 5 26 ?_
  refine tk_ 9 30 ?_
  refine join_ (σ := Nat) 1 (bz_ 14 0x1fff) (fun s_ => [(27, .int .i64 t596), (31, .int .i64 t598), (6, .pointer (some ⟨s_, 0, none⟩)), (32, .agg #[.string (rdOf ByteArray.empty t587 0), .int .i64 t596, .int .i64 t598])]) (fun s_ w' => (w'.cell? ad590 = some (.string (rdOf ByteArray.empty t587 0)) ∧ w'.cell? ad595 = some (.string (rdOf ByteArray.empty t591 0)) ∧ w'.cell? ⟨ad595.block, ad595.off + 1, none⟩ = some (.string (rdOf ByteArray.empty t591 1))) ∧ (Kd.R Kd.string 9 w' w.heap.size (fun k_ => some k_ ≠ (.slice (some ad595) t591.length co12 : Value).ownBlock) (.slice (some ad590) t587.length co6) t587) ∧ (Kd.R Kd.string 9 w' w.heap.size (fun k_ => some k_ ≠ (.slice (some ad590) t587.length co6 : Value).ownBlock) (.slice (some ad595) t591.length co12) t591) ∧ (w'.heap[gb586]? = some (.cells #[.string (⟨#[]⟩ : ByteArray), .int .i64 0, .int .i64 0] 27 (0, 0))) ∧ (w'.heap[s_]? = some (.cells #[.string (⟨#[]⟩ : ByteArray), .int .i64 0, .int .i64 0] 27 (0, 0))) ∧ (w.heap.size ≤ s_) ∧ (w.heap.size ≤ s_) ∧ (gb586 ≠ s_) ∧ (s_ ≠ gb586) ∧ (Below w.heap.size w w')) ?_ ?_
  rotate_left
  ·intro hCont
   refine two_ (i := 6) (j := 12) (Ni := some 27) (Nj := some 6) (bz_ 14 0x3ff) (bz_ 14 0x13bf) rfl rfl rfl rfl (two_of HT_.out (by kernel_rfl)) (by decide) (by decide) (fun K hK => ?_) (fun K hK => ?_)
   ·skip
    refine gS_ Tryz.func64 #[.string (rdOf ByteArray.empty t591 0)] ?_
    with_reducible refine (spec_veRead.calls k (rdOf ByteArray.empty t591 0) t596 _ A16.out).mono ?_
    rintro e w' ⟨rfl, ⟨nd, rfl⟩⟩
    refine ⟨_, rfl, ?_⟩
    refine hK.out _ _ ⟨hHeld.1, hHeld.2.1, hHeld.2.2⟩ (fun hHeld => ?_)
    clear hK K
    refine nm_ 27 ?_
    refine two_ (i := 10) (j := 12) (Ni := some 31) (Nj := some 6) (bz_ 14 0x7ff) (bz_ 14 0x13ff) rfl rfl rfl rfl (two_of HT_.out (by kernel_rfl)) (by decide) (by decide) (fun K hK => ?_) (fun K hK => ?_)
    ·skip
     refine gS_ Tryz.func64 #[.string (rdOf ByteArray.empty t591 1)] ?_
     with_reducible refine (spec_veRead.calls k (rdOf ByteArray.empty t591 1) t598 _ A18.out).mono ?_
     rintro e w' ⟨rfl, ⟨nd, rfl⟩⟩
     refine ⟨_, rfl, ?_⟩
     refine hK.out _ _ ⟨hHeld.1, hHeld.2.1, hHeld.2.2⟩ (fun hHeld => ?_)
     clear hK K
     refine nm_ 31 ?_
     refine pu_ 11 32 ?_
     refine on_ 12 6 fun K hK => ?_
     refine box_step ?hg (N := 6) ?hd (cs := #[.string (⟨#[]⟩ : ByteArray), .int .i64 0, .int .i64 0]) (t := 27) ?hr ?_; (case hd => rfl); (case hg => rfl); (case hr => first | (go_simp; done) | (go_simp; rfl))
     intro gb599 hg w40 hbox hb
     have HS0_ := (hb.cell (World.block_lt_of_cell? _ _ (hHeld.1))).trans (hHeld.1)
     have HS1_ := (hb.cell (World.block_lt_of_cell? _ _ (hHeld.2.1))).trans (hHeld.2.1)
     have HS2_ := (hb.cell (World.block_lt_of_cell? _ _ (hHeld.2.2))).trans (hHeld.2.2)
     have BK599 := aM_ (hbox)
     have GW599 := aM_ (gw_ w hg)
     have GE599 := aM_ (gw_ w hg)
     have NB586_599 := aM_ (nb_ gb586 hg)
     have NB599_586 := aM_ (nc_ gb586 hg)
     replace HO589 := aM_ (Kd.R_below (rR_ HO589) hb)
     replace HO593 := aM_ (Kd.R_below (rR_ HO593) hb)
     replace BK586 := aM_ (blk_below (g := gb586) (kR_ BK586) hb)
     replace HB := aM_ (below_step hB_ hb)
     clear hb hbox hg
     refine hK.out _ _ ⟨HS0_, HS1_, HS2_⟩ (fun hHeld => ?_)
     clear hK K
     refine nm_ 6 ?_
     exact norm_ z17_1_ (hCont (gb599) _ ⟨hHeld, (rM_ HO589 (fun _ hk => hk.2)), (rM_ HO593 (fun _ hk => hk.2)), (kR_ BK586), (kR_ BK599), GW599.out, GE599.out, NB586_599.out, NB599_586.out, hB_⟩)
    ·skip
     refine box_step ?hg (N := 6) ?hd (cs := #[.string (⟨#[]⟩ : ByteArray), .int .i64 0, .int .i64 0]) (t := 27) ?hr ?_; (case hd => rfl); (case hg => rfl); (case hr => first | (go_simp; done) | (go_simp; rfl))
     intro gb599 hg w40 hbox hb
     have HS0_ := (hb.cell (World.block_lt_of_cell? _ _ (hHeld.1))).trans (hHeld.1)
     have HS1_ := (hb.cell (World.block_lt_of_cell? _ _ (hHeld.2.1))).trans (hHeld.2.1)
     have HS2_ := (hb.cell (World.block_lt_of_cell? _ _ (hHeld.2.2))).trans (hHeld.2.2)
     have BK599 := aM_ (hbox)
     have GW599 := aM_ (gw_ w hg)
     have GE599 := aM_ (gw_ w hg)
     have NB586_599 := aM_ (nb_ gb586 hg)
     have NB599_586 := aM_ (nc_ gb586 hg)
     replace HO589 := aM_ (Kd.R_below (rR_ HO589) hb)
     replace HO593 := aM_ (Kd.R_below (rR_ HO593) hb)
     replace BK586 := aM_ (blk_below (g := gb586) (kR_ BK586) hb)
     replace HB := aM_ (below_step hB_ hb)
     clear hb hbox hg
     refine hK.out _ _ ⟨HS0_, HS1_, HS2_⟩ (fun hHeld => ?_)
     clear hK K
     refine nm_ 6 ?_
     refine on_ 10 31 fun K hK => ?_
     refine gS_ Tryz.func64 #[.string (rdOf ByteArray.empty t591 1)] ?_
     with_reducible refine (spec_veRead.calls k (rdOf ByteArray.empty t591 1) t598 _ A18.out).mono ?_
     rintro e w' ⟨rfl, ⟨nd, rfl⟩⟩
     refine ⟨_, rfl, ?_⟩
     refine hK.out _ _ ⟨hHeld.1, hHeld.2.1, hHeld.2.2⟩ (fun hHeld => ?_)
     clear hK K
     refine nm_ 31 ?_
     refine pu_ 11 32 ?_
     exact norm_ z17_1_ (hCont (gb599) _ ⟨hHeld, (rM_ HO589 (fun _ hk => hk.2)), (rM_ HO593 (fun _ hk => hk.2)), (kR_ BK586), (kR_ BK599), GW599.out, GE599.out, NB586_599.out, NB599_586.out, hB_⟩)
   ·skip
    refine box_step ?hg (N := 6) ?hd (cs := #[.string (⟨#[]⟩ : ByteArray), .int .i64 0, .int .i64 0]) (t := 27) ?hr ?_; (case hd => rfl); (case hg => rfl); (case hr => first | (go_simp; done) | (go_simp; rfl))
    intro gb599 hg w40 hbox hb
    have HS0_ := (hb.cell (World.block_lt_of_cell? _ _ (hHeld.1))).trans (hHeld.1)
    have HS1_ := (hb.cell (World.block_lt_of_cell? _ _ (hHeld.2.1))).trans (hHeld.2.1)
    have HS2_ := (hb.cell (World.block_lt_of_cell? _ _ (hHeld.2.2))).trans (hHeld.2.2)
    have BK599 := aM_ (hbox)
    have GW599 := aM_ (gw_ w hg)
    have GE599 := aM_ (gw_ w hg)
    have NB586_599 := aM_ (nb_ gb586 hg)
    have NB599_586 := aM_ (nc_ gb586 hg)
    replace HO589 := aM_ (Kd.R_below (rR_ HO589) hb)
    replace HO593 := aM_ (Kd.R_below (rR_ HO593) hb)
    replace BK586 := aM_ (blk_below (g := gb586) (kR_ BK586) hb)
    replace HB := aM_ (below_step hB_ hb)
    clear hb hbox hg
    refine hK.out _ _ ⟨HS0_, HS1_, HS2_⟩ (fun hHeld => ?_)
    clear hK K
    refine nm_ 6 ?_
    refine on_ 6 27 fun K hK => ?_
    refine gS_ Tryz.func64 #[.string (rdOf ByteArray.empty t591 0)] ?_
    with_reducible refine (spec_veRead.calls k (rdOf ByteArray.empty t591 0) t596 _ A16.out).mono ?_
    rintro e w' ⟨rfl, ⟨nd, rfl⟩⟩
    refine ⟨_, rfl, ?_⟩
    refine hK.out _ _ ⟨hHeld.1, hHeld.2.1, hHeld.2.2⟩ (fun hHeld => ?_)
    clear hK K
    refine nm_ 27 ?_
    refine on_ 10 31 fun K hK => ?_
    refine gS_ Tryz.func64 #[.string (rdOf ByteArray.empty t591 1)] ?_
    with_reducible refine (spec_veRead.calls k (rdOf ByteArray.empty t591 1) t598 _ A18.out).mono ?_
    rintro e w' ⟨rfl, ⟨nd, rfl⟩⟩
    refine ⟨_, rfl, ?_⟩
    refine hK.out _ _ ⟨hHeld.1, hHeld.2.1, hHeld.2.2⟩ (fun hHeld => ?_)
    clear hK K
    refine nm_ 31 ?_
    refine pu_ 11 32 ?_
    exact norm_ z17_1_ (hCont (gb599) _ ⟨hHeld, (rM_ HO589 (fun _ hk => hk.2)), (rM_ HO593 (fun _ hk => hk.2)), (kR_ BK586), (kR_ BK599), GW599.out, GE599.out, NB586_599.out, NB599_586.out, hB_⟩)
  rintro gb599 w41 ⟨hS_, h0_, h1_, h2_, h3_, h4_, h5_, h6_, h7_, h8_⟩
  have n0_ : Aside0 (Kd.R Kd.string 9 w41 w.heap.size (fun k_ => some k_ ≠ (.slice (some ad595) t591.length co12 : Value).ownBlock) (.slice (some ad590) t587.length co6) t587) := ⟨h0_⟩
  have n1_ : Aside0 (Kd.R Kd.string 9 w41 w.heap.size (fun k_ => some k_ ≠ (.slice (some ad590) t587.length co6 : Value).ownBlock) (.slice (some ad595) t591.length co12) t591) := ⟨h1_⟩
  have n2_ : Aside0 (w41.heap[gb586]? = some (.cells #[.string (⟨#[]⟩ : ByteArray), .int .i64 0, .int .i64 0] 27 (0, 0))) := ⟨h2_⟩
  have n3_ : Aside0 (w41.heap[gb599]? = some (.cells #[.string (⟨#[]⟩ : ByteArray), .int .i64 0, .int .i64 0] 27 (0, 0))) := ⟨h3_⟩
  have n4_ : Aside0 (w.heap.size ≤ gb599) := ⟨h4_⟩
  have n5_ : Aside0 (w.heap.size ≤ gb599) := ⟨h5_⟩
  have n6_ : Aside0 (gb586 ≠ gb599) := ⟨h6_⟩
  have n7_ : Aside0 (gb599 ≠ gb586) := ⟨h7_⟩
  have n8_ : Aside0 (Below w.heap.size w w41) := ⟨h8_⟩
  clear HO589
  clear HO593
  clear BK586
  clear HB
  clear h0_ h1_ h2_ h3_ h4_ h5_ h6_ h7_ h8_
  have HO589 := n0_
  have HO593 := n1_
  have BK586 := n2_
  have BK599 := n3_
  have GW599 := n4_
  have GE599 := n5_
  have NB586_599 := n6_
  have NB599_586 := n7_
  have HB := n8_
  clear n0_ n1_ n2_ n3_ n4_ n5_ n6_ n7_ n8_
  have hHeld : w41.cell? ad590 = some (.string (rdOf ByteArray.empty t587 0)) ∧ w41.cell? ad595 = some (.string (rdOf ByteArray.empty t591 0)) ∧ w41.cell? ⟨ad595.block, ad595.off + 1, none⟩ = some (.string (rdOf ByteArray.empty t591 1)) := hS_
  refine norm_ (a' := ?_) ?_ ?_
  rotate_left
  ·simp only [putAll, Act.put, List.setIfInBounds_toArray, List.set_cons_zero, List.set_cons_succ]
   rfl
  refine one_ (i := 13) (N := none) (bz_ 14 0x3fff) rfl rfl (one_of HT_.out (by kernel_rfl)) (by decide) (fun K hK => ?_)
  have hs42 : w41.cell? ⟨gb599, 0, none⟩ = some (.string (⟨#[]⟩ : ByteArray)) := (blk_cell BK599.out 0).trans rfl
  have hfs42 := blk_frozen BK599.out 0
  have hns42_0 := NB586_599.out
  have hms42_0 := NB599_586.out
  have hs43 : w41.cell? ⟨gb599, 1, none⟩ = some (.int .i64 0) := (blk_cell BK599.out 1).trans rfl
  have hfs43 := blk_frozen BK599.out 1
  have hns43_0 := NB586_599.out
  have hms43_0 := NB599_586.out
  have hs44 : w41.cell? ⟨gb599, 2, none⟩ = some (.int .i64 0) := (blk_cell BK599.out 2).trans rfl
  have hfs44 := blk_frozen BK599.out 2
  have hns44_0 := NB586_599.out
  have hms44_0 := NB599_586.out
  refine skip_ (w1 := ?_) (by rfl) rfl ?_ ?_
  rotate_left
  ·go_simp
   rfl
  refine hK.out _ _ ⟨((cell_far (p := ⟨gb599, _, none⟩) (by first | exact Kd.own_blk (Kd.R_ne HO589.out BK599.out (by decide)) | (rw [add_block]; exact Kd.own_blk (Kd.R_ne HO589.out BK599.out (by decide))) | (show (Addr.add _ _).block ≠ _; rw [add_block]; exact Kd.own_blk (Kd.R_ne HO589.out BK599.out (by decide))) | (dsimp only; exact Kd.own_blk (Kd.R_ne HO589.out BK599.out (by decide)))) _).trans (((cell_far (p := ⟨gb599, _, none⟩) (by first | exact Kd.own_blk (Kd.R_ne HO589.out BK599.out (by decide)) | (rw [add_block]; exact Kd.own_blk (Kd.R_ne HO589.out BK599.out (by decide))) | (show (Addr.add _ _).block ≠ _; rw [add_block]; exact Kd.own_blk (Kd.R_ne HO589.out BK599.out (by decide))) | (dsimp only; exact Kd.own_blk (Kd.R_ne HO589.out BK599.out (by decide)))) _).trans (((cell_far (p := ⟨gb599, _, none⟩) (by first | exact Kd.own_blk (Kd.R_ne HO589.out BK599.out (by decide)) | (rw [add_block]; exact Kd.own_blk (Kd.R_ne HO589.out BK599.out (by decide))) | (show (Addr.add _ _).block ≠ _; rw [add_block]; exact Kd.own_blk (Kd.R_ne HO589.out BK599.out (by decide))) | (dsimp only; exact Kd.own_blk (Kd.R_ne HO589.out BK599.out (by decide)))) _).trans (hHeld.1)))))), ((cell_far (p := ⟨gb599, _, none⟩) (by first | exact Kd.own_blk (Kd.R_ne HO593.out BK599.out (by decide)) | (rw [add_block]; exact Kd.own_blk (Kd.R_ne HO593.out BK599.out (by decide))) | (show (Addr.add _ _).block ≠ _; rw [add_block]; exact Kd.own_blk (Kd.R_ne HO593.out BK599.out (by decide))) | (dsimp only; exact Kd.own_blk (Kd.R_ne HO593.out BK599.out (by decide)))) _).trans (((cell_far (p := ⟨gb599, _, none⟩) (by first | exact Kd.own_blk (Kd.R_ne HO593.out BK599.out (by decide)) | (rw [add_block]; exact Kd.own_blk (Kd.R_ne HO593.out BK599.out (by decide))) | (show (Addr.add _ _).block ≠ _; rw [add_block]; exact Kd.own_blk (Kd.R_ne HO593.out BK599.out (by decide))) | (dsimp only; exact Kd.own_blk (Kd.R_ne HO593.out BK599.out (by decide)))) _).trans (((cell_far (p := ⟨gb599, _, none⟩) (by first | exact Kd.own_blk (Kd.R_ne HO593.out BK599.out (by decide)) | (rw [add_block]; exact Kd.own_blk (Kd.R_ne HO593.out BK599.out (by decide))) | (show (Addr.add _ _).block ≠ _; rw [add_block]; exact Kd.own_blk (Kd.R_ne HO593.out BK599.out (by decide))) | (dsimp only; exact Kd.own_blk (Kd.R_ne HO593.out BK599.out (by decide)))) _).trans (hHeld.2.1)))))), ((cell_far (p := ⟨gb599, _, none⟩) (by first | exact Kd.own_blk (Kd.R_ne HO593.out BK599.out (by decide)) | (rw [add_block]; exact Kd.own_blk (Kd.R_ne HO593.out BK599.out (by decide))) | (show (Addr.add _ _).block ≠ _; rw [add_block]; exact Kd.own_blk (Kd.R_ne HO593.out BK599.out (by decide))) | (dsimp only; exact Kd.own_blk (Kd.R_ne HO593.out BK599.out (by decide)))) _).trans (((cell_far (p := ⟨gb599, _, none⟩) (by first | exact Kd.own_blk (Kd.R_ne HO593.out BK599.out (by decide)) | (rw [add_block]; exact Kd.own_blk (Kd.R_ne HO593.out BK599.out (by decide))) | (show (Addr.add _ _).block ≠ _; rw [add_block]; exact Kd.own_blk (Kd.R_ne HO593.out BK599.out (by decide))) | (dsimp only; exact Kd.own_blk (Kd.R_ne HO593.out BK599.out (by decide)))) _).trans (((cell_far (p := ⟨gb599, _, none⟩) (by first | exact Kd.own_blk (Kd.R_ne HO593.out BK599.out (by decide)) | (rw [add_block]; exact Kd.own_blk (Kd.R_ne HO593.out BK599.out (by decide))) | (show (Addr.add _ _).block ≠ _; rw [add_block]; exact Kd.own_blk (Kd.R_ne HO593.out BK599.out (by decide))) | (dsimp only; exact Kd.own_blk (Kd.R_ne HO593.out BK599.out (by decide)))) _).trans (hHeld.2.2))))))⟩ (fun hHeld => ?_)
  clear hK K
  refine dn_ ?_
  have hnb45 := NB599_586.out
  have hnc45 := NB586_599.out
  have hz46 := cf3_ BK599.out
  try go_wp2_with (first | ((with_reducible refine gC_ 54 ?_); refine gM_ (some 34) Tryz.func54 #[.agg #[.string (rdOf ByteArray.empty t587 0), .int .i64 t596, .int .i64 t598]] ?_; (with_reducible refine (spec_veOne.calls k (rdOf ByteArray.empty t587 0) t596 t598 false _ A19.out).mono ?_); rintro e w47 ⟨rfl, hb⟩; refine ⟨_, rfl, ?_⟩; replace HO589 := aM_ (Kd.R_below (by (with_reducible repeat (first | apply rA_ | apply rN_ | apply rD_)); exact (Kd.R_mono (Kd.R_far (p := ⟨gb599, 2, none⟩) (Kd.R_far (p := ⟨gb599, 1, none⟩) (Kd.R_far (p := ⟨gb599, 0, none⟩) (Kd.R_types HO589.out BK599.out (by decide)) (fun _ hk => hk.2) (.string (rdOf ByteArray.empty t587 0))) (fun _ hk => hk.2) (.int .i64 t596)) (fun _ hk => hk.2) (.int .i64 t598)) (fun _ h_ => h_.1))) hb); replace HO593 := aM_ (Kd.R_below (by (with_reducible repeat (first | apply rA_ | apply rN_ | apply rD_)); exact (Kd.R_mono (Kd.R_far (p := ⟨gb599, 2, none⟩) (Kd.R_far (p := ⟨gb599, 1, none⟩) (Kd.R_far (p := ⟨gb599, 0, none⟩) (Kd.R_types HO593.out BK599.out (by decide)) (fun _ hk => hk.2) (.string (rdOf ByteArray.empty t587 0))) (fun _ hk => hk.2) (.int .i64 t596)) (fun _ hk => hk.2) (.int .i64 t598)) (fun _ h_ => h_.1))) hb); replace BK586 := aM_ (blk_below (g := gb586) (kR_ BK586) hb); replace BK599 := aM_ (blk_below (g := gb599) (o := .cells #[.string (rdOf ByteArray.empty t587 0), .int .i64 t596, .int .i64 t598] 27 (0, 0)) z17_2_ hb); replace HB := aM_ (below_step hB_ hb); (try clear hb); (try clear hk); clear BK599; have hz48 := cf3_ BK586.out))
  refine bodyPost_ret (results_ct rfl _ _ gb586 27 #[.string (⟨#[]⟩ : ByteArray), .int .i64 0, .int .i64 0] (0, 0) _ rfl z17_0_ Tryz.underlying27 rfl (by kernel_rfl)) rfl ?_
  exact ⟨rT_, hB_⟩
 subst c20
 replace H := ip_ H rfl
 replace H := ob_ H; obtain ⟨t601, A21, H⟩ := H; try dsimp only at H
 have HC22 := Aside0.mk H
 clear H
 try go_wp2
 replace HO589 := aM_ (Kd.R_drew HO589.out)
 replace HO593 := aM_ (Kd.R_drew HO593.out)
 replace BK586 := aM_ (blk_drew BK586.out)
 replace HB := aM_ (below_drew1 HB.out)
 have p594 : 0 ≤ (0 : Int) := (by omega)
 have q594 : 0 < (t587.length : Int) := ode_
 obtain ⟨ad594, e594, hx594_0⟩ := Kd.at_string (Kd.R_reads' HO589.out).2.2 0 p594 q594
 obtain rfl : ad590 = ad594 := (by injection e594)
 have qi594 : (0 < t587.length) = True := eq_true (by omega)
 (try rw [show ((0 : Int)).toNat = 0 from rfl] at hx594_0)
 (try rw [Addr.add_zero'] at hx594_0)
 replace p594 := eq_true p594
 replace q594 := eq_true q594
 have p595 : 0 ≤ (0 : Int) := (by omega)
 have q595 : 0 < (t591.length : Int) := ode_
 obtain ⟨ad595, e595, hx595_0⟩ := Kd.at_string (Kd.R_reads' HO593.out).2.2 0 p595 q595
 cases e595
 have qi595 : (0 < t591.length) = True := eq_true (by omega)
 (try rw [show ((0 : Int)).toNat = 0 from rfl] at hx595_0)
 (try rw [Addr.add_zero'] at hx595_0)
 replace p595 := eq_true p595
 replace q595 := eq_true q595
 have p597 : 0 ≤ (1 : Int) := (by omega)
 have q597 : 1 < (t591.length : Int) := ode_
 obtain ⟨ad597, e597, hx597_0⟩ := Kd.at_string (Kd.R_reads' HO593.out).2.2 1 p597 q597
 obtain rfl : ad595 = ad597 := (by injection e597)
 (try simp only [show (1 : Int).toNat = 1 from rfl, Nat.reduceMul, Nat.reduceEqDiff, Go.Addr.add, ↓reduceIte] at hx597_0)
 have qi597 : (1 < t591.length) = True := eq_true (by omega)
 (try rw [show ((1 : Int)).toNat = 1 from rfl] at hx597_0)
 replace p597 := eq_true p597
 replace q597 := eq_true q597
 refine st_ 14 (fun w' => w'.cell? ad590 = some (.string (rdOf ByteArray.empty t587 0)) ∧ w'.cell? ad595 = some (.string (rdOf ByteArray.empty t591 0)) ∧ w'.cell? ⟨ad595.block, ad595.off + 1, none⟩ = some (.string (rdOf ByteArray.empty t591 1))) [] spec_ParseVerb.tab7 spec_ParseVerb.bits7 ⟨hx594_0, hx595_0, hx597_0⟩ fun hHeld HT_ HW_ => ?_
 generalize w11.drew = w23 at HO589 HO593 BK586 HB hx594_0 hx595_0 hx597_0 hHeld ⊢
 refine pu_ 0 21 ?_
 refine pu_ 1 22 ?_
 refine pu_ 3 24 ?_
 refine pu_ 4 25 ?_
 refine pu_ 7 28 ?_
 refine pu_ 8 29 ?_
 refine tk_ 2 23 ?_
 refine tk_ 5 26 ?_
 refine tk_ 9 30 ?_
 refine join_ (σ := Nat) 1 (bz_ 14 0x1fff) (fun s_ => [(27, .int .i64 t596), (31, .int .i64 t598), (6, .pointer (some ⟨s_, 0, none⟩)), (32, .agg #[.string (rdOf ByteArray.empty t587 0), .int .i64 t596, .int .i64 t598])]) (fun s_ w' => (w'.cell? ad590 = some (.string (rdOf ByteArray.empty t587 0)) ∧ w'.cell? ad595 = some (.string (rdOf ByteArray.empty t591 0)) ∧ w'.cell? ⟨ad595.block, ad595.off + 1, none⟩ = some (.string (rdOf ByteArray.empty t591 1))) ∧ (Kd.R Kd.string 9 w' w.heap.size (fun k_ => some k_ ≠ (.slice (some ad595) t591.length co12 : Value).ownBlock) (.slice (some ad590) t587.length co6) t587) ∧ (Kd.R Kd.string 9 w' w.heap.size (fun k_ => some k_ ≠ (.slice (some ad590) t587.length co6 : Value).ownBlock) (.slice (some ad595) t591.length co12) t591) ∧ (w'.heap[gb586]? = some (.cells #[.string (⟨#[]⟩ : ByteArray), .int .i64 0, .int .i64 0] 27 (0, 0))) ∧ (w'.heap[s_]? = some (.cells #[.string (⟨#[]⟩ : ByteArray), .int .i64 0, .int .i64 0] 27 (0, 0))) ∧ (w.heap.size ≤ s_) ∧ (w.heap.size ≤ s_) ∧ (gb586 ≠ s_) ∧ (s_ ≠ gb586) ∧ (Below w.heap.size w w')) ?_ ?_
 rotate_left
 ·intro hCont
  refine two_ (i := 6) (j := 12) (Ni := some 27) (Nj := some 6) (bz_ 14 0x3ff) (bz_ 14 0x13bf) rfl rfl rfl rfl (two_of HT_.out (by kernel_rfl)) (by decide) (by decide) (fun K hK => ?_) (fun K hK => ?_)
  ·skip
   refine gS_ Tryz.func64 #[.string (rdOf ByteArray.empty t591 0)] ?_
   with_reducible refine (spec_veRead.calls k (rdOf ByteArray.empty t591 0) t596 _ A16.out).mono ?_
   rintro e w' ⟨rfl, ⟨nd, rfl⟩⟩
   refine ⟨_, rfl, ?_⟩
   refine hK.out _ _ ⟨hHeld.1, hHeld.2.1, hHeld.2.2⟩ (fun hHeld => ?_)
   clear hK K
   refine nm_ 27 ?_
   refine two_ (i := 10) (j := 12) (Ni := some 31) (Nj := some 6) (bz_ 14 0x7ff) (bz_ 14 0x13ff) rfl rfl rfl rfl (two_of HT_.out (by kernel_rfl)) (by decide) (by decide) (fun K hK => ?_) (fun K hK => ?_)
   ·skip
    refine gS_ Tryz.func64 #[.string (rdOf ByteArray.empty t591 1)] ?_
    with_reducible refine (spec_veRead.calls k (rdOf ByteArray.empty t591 1) t598 _ A18.out).mono ?_
    rintro e w' ⟨rfl, ⟨nd, rfl⟩⟩
    refine ⟨_, rfl, ?_⟩
    refine hK.out _ _ ⟨hHeld.1, hHeld.2.1, hHeld.2.2⟩ (fun hHeld => ?_)
    clear hK K
    refine nm_ 31 ?_
    refine pu_ 11 32 ?_
    refine on_ 12 6 fun K hK => ?_
    refine box_step ?hg (N := 6) ?hd (cs := #[.string (⟨#[]⟩ : ByteArray), .int .i64 0, .int .i64 0]) (t := 27) ?hr ?_; (case hd => rfl); (case hg => rfl); (case hr => first | (go_simp; done) | (go_simp; rfl))
    intro gb599 hg w24 hbox hb
    have HS0_ := (hb.cell (World.block_lt_of_cell? _ _ (hHeld.1))).trans (hHeld.1)
    have HS1_ := (hb.cell (World.block_lt_of_cell? _ _ (hHeld.2.1))).trans (hHeld.2.1)
    have HS2_ := (hb.cell (World.block_lt_of_cell? _ _ (hHeld.2.2))).trans (hHeld.2.2)
    have BK599 := aM_ (hbox)
    have GW599 := aM_ (gw_ w hg)
    have GE599 := aM_ (gw_ w hg)
    have NB586_599 := aM_ (nb_ gb586 hg)
    have NB599_586 := aM_ (nc_ gb586 hg)
    replace HO589 := aM_ (Kd.R_below (rR_ HO589) hb)
    replace HO593 := aM_ (Kd.R_below (rR_ HO593) hb)
    replace BK586 := aM_ (blk_below (g := gb586) (kR_ BK586) hb)
    replace HB := aM_ (below_step hB_ hb)
    clear hb hbox hg
    refine hK.out _ _ ⟨HS0_, HS1_, HS2_⟩ (fun hHeld => ?_)
    clear hK K
    refine nm_ 6 ?_
    exact norm_ z17_1_ (hCont (gb599) _ ⟨hHeld, (rM_ HO589 (fun _ hk => hk.2)), (rM_ HO593 (fun _ hk => hk.2)), (kR_ BK586), (kR_ BK599), GW599.out, GE599.out, NB586_599.out, NB599_586.out, hB_⟩)
   ·skip
    refine box_step ?hg (N := 6) ?hd (cs := #[.string (⟨#[]⟩ : ByteArray), .int .i64 0, .int .i64 0]) (t := 27) ?hr ?_; (case hd => rfl); (case hg => rfl); (case hr => first | (go_simp; done) | (go_simp; rfl))
    intro gb599 hg w24 hbox hb
    have HS0_ := (hb.cell (World.block_lt_of_cell? _ _ (hHeld.1))).trans (hHeld.1)
    have HS1_ := (hb.cell (World.block_lt_of_cell? _ _ (hHeld.2.1))).trans (hHeld.2.1)
    have HS2_ := (hb.cell (World.block_lt_of_cell? _ _ (hHeld.2.2))).trans (hHeld.2.2)
    have BK599 := aM_ (hbox)
    have GW599 := aM_ (gw_ w hg)
    have GE599 := aM_ (gw_ w hg)
    have NB586_599 := aM_ (nb_ gb586 hg)
    have NB599_586 := aM_ (nc_ gb586 hg)
    replace HO589 := aM_ (Kd.R_below (rR_ HO589) hb)
    replace HO593 := aM_ (Kd.R_below (rR_ HO593) hb)
    replace BK586 := aM_ (blk_below (g := gb586) (kR_ BK586) hb)
    replace HB := aM_ (below_step hB_ hb)
    clear hb hbox hg
    refine hK.out _ _ ⟨HS0_, HS1_, HS2_⟩ (fun hHeld => ?_)
    clear hK K
    refine nm_ 6 ?_
    refine on_ 10 31 fun K hK => ?_
    refine gS_ Tryz.func64 #[.string (rdOf ByteArray.empty t591 1)] ?_
    with_reducible refine (spec_veRead.calls k (rdOf ByteArray.empty t591 1) t598 _ A18.out).mono ?_
    rintro e w' ⟨rfl, ⟨nd, rfl⟩⟩
    refine ⟨_, rfl, ?_⟩
    refine hK.out _ _ ⟨hHeld.1, hHeld.2.1, hHeld.2.2⟩ (fun hHeld => ?_)
    clear hK K
    refine nm_ 31 ?_
    refine pu_ 11 32 ?_
    exact norm_ z17_1_ (hCont (gb599) _ ⟨hHeld, (rM_ HO589 (fun _ hk => hk.2)), (rM_ HO593 (fun _ hk => hk.2)), (kR_ BK586), (kR_ BK599), GW599.out, GE599.out, NB586_599.out, NB599_586.out, hB_⟩)
  ·skip
   refine box_step ?hg (N := 6) ?hd (cs := #[.string (⟨#[]⟩ : ByteArray), .int .i64 0, .int .i64 0]) (t := 27) ?hr ?_; (case hd => rfl); (case hg => rfl); (case hr => first | (go_simp; done) | (go_simp; rfl))
   intro gb599 hg w24 hbox hb
   have HS0_ := (hb.cell (World.block_lt_of_cell? _ _ (hHeld.1))).trans (hHeld.1)
   have HS1_ := (hb.cell (World.block_lt_of_cell? _ _ (hHeld.2.1))).trans (hHeld.2.1)
   have HS2_ := (hb.cell (World.block_lt_of_cell? _ _ (hHeld.2.2))).trans (hHeld.2.2)
   have BK599 := aM_ (hbox)
   have GW599 := aM_ (gw_ w hg)
   have GE599 := aM_ (gw_ w hg)
   have NB586_599 := aM_ (nb_ gb586 hg)
   have NB599_586 := aM_ (nc_ gb586 hg)
   replace HO589 := aM_ (Kd.R_below (rR_ HO589) hb)
   replace HO593 := aM_ (Kd.R_below (rR_ HO593) hb)
   replace BK586 := aM_ (blk_below (g := gb586) (kR_ BK586) hb)
   replace HB := aM_ (below_step hB_ hb)
   clear hb hbox hg
   refine hK.out _ _ ⟨HS0_, HS1_, HS2_⟩ (fun hHeld => ?_)
   clear hK K
   refine nm_ 6 ?_
   refine on_ 6 27 fun K hK => ?_
   refine gS_ Tryz.func64 #[.string (rdOf ByteArray.empty t591 0)] ?_
   with_reducible refine (spec_veRead.calls k (rdOf ByteArray.empty t591 0) t596 _ A16.out).mono ?_
   rintro e w' ⟨rfl, ⟨nd, rfl⟩⟩
   refine ⟨_, rfl, ?_⟩
   refine hK.out _ _ ⟨hHeld.1, hHeld.2.1, hHeld.2.2⟩ (fun hHeld => ?_)
   clear hK K
   refine nm_ 27 ?_
   refine on_ 10 31 fun K hK => ?_
   refine gS_ Tryz.func64 #[.string (rdOf ByteArray.empty t591 1)] ?_
   with_reducible refine (spec_veRead.calls k (rdOf ByteArray.empty t591 1) t598 _ A18.out).mono ?_
   rintro e w' ⟨rfl, ⟨nd, rfl⟩⟩
   refine ⟨_, rfl, ?_⟩
   refine hK.out _ _ ⟨hHeld.1, hHeld.2.1, hHeld.2.2⟩ (fun hHeld => ?_)
   clear hK K
   refine nm_ 31 ?_
   refine pu_ 11 32 ?_
   exact norm_ z17_1_ (hCont (gb599) _ ⟨hHeld, (rM_ HO589 (fun _ hk => hk.2)), (rM_ HO593 (fun _ hk => hk.2)), (kR_ BK586), (kR_ BK599), GW599.out, GE599.out, NB586_599.out, NB599_586.out, hB_⟩)
 rintro gb599 w25 ⟨hS_, h0_, h1_, h2_, h3_, h4_, h5_, h6_, h7_, h8_⟩
 have n0_ : Aside0 (Kd.R Kd.string 9 w25 w.heap.size (fun k_ => some k_ ≠ (.slice (some ad595) t591.length co12 : Value).ownBlock) (.slice (some ad590) t587.length co6) t587) := ⟨h0_⟩
 have n1_ : Aside0 (Kd.R Kd.string 9 w25 w.heap.size (fun k_ => some k_ ≠ (.slice (some ad590) t587.length co6 : Value).ownBlock) (.slice (some ad595) t591.length co12) t591) := ⟨h1_⟩
 have n2_ : Aside0 (w25.heap[gb586]? = some (.cells #[.string (⟨#[]⟩ : ByteArray), .int .i64 0, .int .i64 0] 27 (0, 0))) := ⟨h2_⟩
 have n3_ : Aside0 (w25.heap[gb599]? = some (.cells #[.string (⟨#[]⟩ : ByteArray), .int .i64 0, .int .i64 0] 27 (0, 0))) := ⟨h3_⟩
 have n4_ : Aside0 (w.heap.size ≤ gb599) := ⟨h4_⟩
 have n5_ : Aside0 (w.heap.size ≤ gb599) := ⟨h5_⟩
 have n6_ : Aside0 (gb586 ≠ gb599) := ⟨h6_⟩
 have n7_ : Aside0 (gb599 ≠ gb586) := ⟨h7_⟩
 have n8_ : Aside0 (Below w.heap.size w w25) := ⟨h8_⟩
 clear HO589
 clear HO593
 clear BK586
 clear HB
 clear h0_ h1_ h2_ h3_ h4_ h5_ h6_ h7_ h8_
 have HO589 := n0_
 have HO593 := n1_
 have BK586 := n2_
 have BK599 := n3_
 have GW599 := n4_
 have GE599 := n5_
 have NB586_599 := n6_
 have NB599_586 := n7_
 have HB := n8_
 clear n0_ n1_ n2_ n3_ n4_ n5_ n6_ n7_ n8_
 have hHeld : w25.cell? ad590 = some (.string (rdOf ByteArray.empty t587 0)) ∧ w25.cell? ad595 = some (.string (rdOf ByteArray.empty t591 0)) ∧ w25.cell? ⟨ad595.block, ad595.off + 1, none⟩ = some (.string (rdOf ByteArray.empty t591 1)) := hS_
 refine norm_ (a' := ?_) ?_ ?_
 rotate_left
 ·simp only [putAll, Act.put, List.setIfInBounds_toArray, List.set_cons_zero, List.set_cons_succ]
  rfl
 refine one_ (i := 13) (N := none) (bz_ 14 0x3fff) rfl rfl (one_of HT_.out (by kernel_rfl)) (by decide) (fun K hK => ?_)
 have hs26 : w25.cell? ⟨gb599, 0, none⟩ = some (.string (⟨#[]⟩ : ByteArray)) := (blk_cell BK599.out 0).trans rfl
 have hfs26 := blk_frozen BK599.out 0
 have hns26_0 := NB586_599.out
 have hms26_0 := NB599_586.out
 have hs27 : w25.cell? ⟨gb599, 1, none⟩ = some (.int .i64 0) := (blk_cell BK599.out 1).trans rfl
 have hfs27 := blk_frozen BK599.out 1
 have hns27_0 := NB586_599.out
 have hms27_0 := NB599_586.out
 have hs28 : w25.cell? ⟨gb599, 2, none⟩ = some (.int .i64 0) := (blk_cell BK599.out 2).trans rfl
 have hfs28 := blk_frozen BK599.out 2
 have hns28_0 := NB586_599.out
 have hms28_0 := NB599_586.out
 refine skip_ (w1 := ?_) (by rfl) rfl ?_ ?_
 rotate_left
 ·go_simp
  rfl
 refine hK.out _ _ ⟨((cell_far (p := ⟨gb599, _, none⟩) (by first | exact Kd.own_blk (Kd.R_ne HO589.out BK599.out (by decide)) | (rw [add_block]; exact Kd.own_blk (Kd.R_ne HO589.out BK599.out (by decide))) | (show (Addr.add _ _).block ≠ _; rw [add_block]; exact Kd.own_blk (Kd.R_ne HO589.out BK599.out (by decide))) | (dsimp only; exact Kd.own_blk (Kd.R_ne HO589.out BK599.out (by decide)))) _).trans (((cell_far (p := ⟨gb599, _, none⟩) (by first | exact Kd.own_blk (Kd.R_ne HO589.out BK599.out (by decide)) | (rw [add_block]; exact Kd.own_blk (Kd.R_ne HO589.out BK599.out (by decide))) | (show (Addr.add _ _).block ≠ _; rw [add_block]; exact Kd.own_blk (Kd.R_ne HO589.out BK599.out (by decide))) | (dsimp only; exact Kd.own_blk (Kd.R_ne HO589.out BK599.out (by decide)))) _).trans (((cell_far (p := ⟨gb599, _, none⟩) (by first | exact Kd.own_blk (Kd.R_ne HO589.out BK599.out (by decide)) | (rw [add_block]; exact Kd.own_blk (Kd.R_ne HO589.out BK599.out (by decide))) | (show (Addr.add _ _).block ≠ _; rw [add_block]; exact Kd.own_blk (Kd.R_ne HO589.out BK599.out (by decide))) | (dsimp only; exact Kd.own_blk (Kd.R_ne HO589.out BK599.out (by decide)))) _).trans (hHeld.1)))))), ((cell_far (p := ⟨gb599, _, none⟩) (by first | exact Kd.own_blk (Kd.R_ne HO593.out BK599.out (by decide)) | (rw [add_block]; exact Kd.own_blk (Kd.R_ne HO593.out BK599.out (by decide))) | (show (Addr.add _ _).block ≠ _; rw [add_block]; exact Kd.own_blk (Kd.R_ne HO593.out BK599.out (by decide))) | (dsimp only; exact Kd.own_blk (Kd.R_ne HO593.out BK599.out (by decide)))) _).trans (((cell_far (p := ⟨gb599, _, none⟩) (by first | exact Kd.own_blk (Kd.R_ne HO593.out BK599.out (by decide)) | (rw [add_block]; exact Kd.own_blk (Kd.R_ne HO593.out BK599.out (by decide))) | (show (Addr.add _ _).block ≠ _; rw [add_block]; exact Kd.own_blk (Kd.R_ne HO593.out BK599.out (by decide))) | (dsimp only; exact Kd.own_blk (Kd.R_ne HO593.out BK599.out (by decide)))) _).trans (((cell_far (p := ⟨gb599, _, none⟩) (by first | exact Kd.own_blk (Kd.R_ne HO593.out BK599.out (by decide)) | (rw [add_block]; exact Kd.own_blk (Kd.R_ne HO593.out BK599.out (by decide))) | (show (Addr.add _ _).block ≠ _; rw [add_block]; exact Kd.own_blk (Kd.R_ne HO593.out BK599.out (by decide))) | (dsimp only; exact Kd.own_blk (Kd.R_ne HO593.out BK599.out (by decide)))) _).trans (hHeld.2.1)))))), ((cell_far (p := ⟨gb599, _, none⟩) (by first | exact Kd.own_blk (Kd.R_ne HO593.out BK599.out (by decide)) | (rw [add_block]; exact Kd.own_blk (Kd.R_ne HO593.out BK599.out (by decide))) | (show (Addr.add _ _).block ≠ _; rw [add_block]; exact Kd.own_blk (Kd.R_ne HO593.out BK599.out (by decide))) | (dsimp only; exact Kd.own_blk (Kd.R_ne HO593.out BK599.out (by decide)))) _).trans (((cell_far (p := ⟨gb599, _, none⟩) (by first | exact Kd.own_blk (Kd.R_ne HO593.out BK599.out (by decide)) | (rw [add_block]; exact Kd.own_blk (Kd.R_ne HO593.out BK599.out (by decide))) | (show (Addr.add _ _).block ≠ _; rw [add_block]; exact Kd.own_blk (Kd.R_ne HO593.out BK599.out (by decide))) | (dsimp only; exact Kd.own_blk (Kd.R_ne HO593.out BK599.out (by decide)))) _).trans (((cell_far (p := ⟨gb599, _, none⟩) (by first | exact Kd.own_blk (Kd.R_ne HO593.out BK599.out (by decide)) | (rw [add_block]; exact Kd.own_blk (Kd.R_ne HO593.out BK599.out (by decide))) | (show (Addr.add _ _).block ≠ _; rw [add_block]; exact Kd.own_blk (Kd.R_ne HO593.out BK599.out (by decide))) | (dsimp only; exact Kd.own_blk (Kd.R_ne HO593.out BK599.out (by decide)))) _).trans (hHeld.2.2))))))⟩ (fun hHeld => ?_)
 clear hK K
 refine dn_ ?_
 have hnb29 := NB599_586.out
 have hnc29 := NB586_599.out
 have hz30 := cf3_ BK599.out
 go_upto_if 41 with (first | ((with_reducible refine gC_ 54 ?_); refine gM_ (some 34) Tryz.func54 #[.agg #[.string (rdOf ByteArray.empty t587 0), .int .i64 t596, .int .i64 t598]] ?_; (with_reducible refine (spec_veOne.calls k (rdOf ByteArray.empty t587 0) t596 t598 true _ A19.out).mono ?_); rintro e w31 ⟨rfl, hb⟩; refine ⟨_, rfl, ?_⟩; replace HO589 := aM_ (Kd.R_below (by (with_reducible repeat (first | apply rA_ | apply rN_ | apply rD_)); exact (Kd.R_mono (Kd.R_far (p := ⟨gb599, 2, none⟩) (Kd.R_far (p := ⟨gb599, 1, none⟩) (Kd.R_far (p := ⟨gb599, 0, none⟩) (Kd.R_types HO589.out BK599.out (by decide)) (fun _ hk => hk.2) (.string (rdOf ByteArray.empty t587 0))) (fun _ hk => hk.2) (.int .i64 t596)) (fun _ hk => hk.2) (.int .i64 t598)) (fun _ h_ => h_.1))) hb); replace HO593 := aM_ (Kd.R_below (by (with_reducible repeat (first | apply rA_ | apply rN_ | apply rD_)); exact (Kd.R_mono (Kd.R_far (p := ⟨gb599, 2, none⟩) (Kd.R_far (p := ⟨gb599, 1, none⟩) (Kd.R_far (p := ⟨gb599, 0, none⟩) (Kd.R_types HO593.out BK599.out (by decide)) (fun _ hk => hk.2) (.string (rdOf ByteArray.empty t587 0))) (fun _ hk => hk.2) (.int .i64 t596)) (fun _ hk => hk.2) (.int .i64 t598)) (fun _ h_ => h_.1))) hb); replace BK586 := aM_ (blk_below (g := gb586) (kR_ BK586) hb); replace BK599 := aM_ (blk_below (g := gb599) (o := .cells #[.string (rdOf ByteArray.empty t587 0), .int .i64 t596, .int .i64 t598] 27 (0, 0)) z17_2_ hb); replace HB := aM_ (below_step hB_ hb); (try clear hb); (try clear hk); have hz32 := cf3_ BK599.out) | (go_at_call 58; (with_reducible refine (spec_veText.calls k (rdOf ByteArray.empty t587 0) t596 t598 t601 _ A21.out).mono ?_); rintro e w33 ⟨rfl, hb⟩; replace HO589 := aM_ (Kd.R_below (rR_ HO589) hb); replace HO593 := aM_ (Kd.R_below (rR_ HO593) hb); replace BK586 := aM_ (blk_below (g := gb586) (kR_ BK586) hb); replace BK599 := aM_ (blk_below (g := gb599) (kR_ BK599) hb); replace HB := aM_ (below_step hB_ hb); (try clear hb); (try clear hk)))
 (try simp only [Act.put, List.setIfInBounds_toArray, List.set_cons_zero, List.set_cons_succ])
 have H := HC22.out
 clear HC22
 by_cases c34 : t601.toList = a0.toList
 rotate_left
 ·rw [if_neg c34] at H
  have c34b0 : (t601.toList == a0.toList) = false := beq_eq_false_iff_ne.mpr c34
  have c34b1 : (t601.toList != a0.toList) = true := bne_iff_ne.mpr c34
  (first | rw [c34b0] | (simp only [i64_w, i32_w]; rw [c34b0]) | skip)
  simp only [Option.some.injEq, Prod.mk.injEq] at H
  obtain ⟨rfl, rfl, rfl, rfl⟩ := H
  clear BK599
  have hz38 := cf3_ BK586.out
  go_wp2
  refine bodyPost_ret (results_ct rfl _ _ gb586 27 #[.string (⟨#[]⟩ : ByteArray), .int .i64 0, .int .i64 0] (0, 0) _ rfl z17_0_ Tryz.underlying27 rfl (by kernel_rfl)) rfl ?_
  exact ⟨rT_, hB_⟩
 rw [if_pos c34] at H
 have c34b0 : (t601.toList == a0.toList) = true := beq_iff_eq.mpr c34
 have c34b1 : (t601.toList != a0.toList) = false := bne_eq_false_iff_eq.mpr c34
 clear c34
 (first | rw [c34b0] | (simp only [i64_w, i32_w]; rw [c34b0]) | skip)
 simp only [Option.some.injEq, Prod.mk.injEq] at H
 obtain ⟨rfl, rfl, rfl, rfl⟩ := H
 have hnb35 := NB599_586.out
 have hnc35 := NB586_599.out
 have hz36 := cf3_ BK599.out
 clear BK599
 have hz37 := cf3_ BK586.out
 go_wp2
 refine bodyPost_ret (results_ct rfl _ _ gb586 27 #[.string (rdOf ByteArray.empty t587 0), .int .i64 t596, .int .i64 t598] (0, 0) _ rfl (by (with_reducible repeat (first | apply kN_ | apply kD_ | apply kA_)); refine blk_put (cs := #[.string (rdOf ByteArray.empty t587 0), .int .i64 t596, .int .i64 0]) ?_ 2 _ rfl; (with_reducible repeat (first | apply kN_ | apply kD_ | apply kA_)); refine blk_put (cs := #[.string (rdOf ByteArray.empty t587 0), .int .i64 0, .int .i64 0]) ?_ 1 _ rfl; (with_reducible repeat (first | apply kN_ | apply kD_ | apply kA_)); refine blk_put (cs := #[.string (⟨#[]⟩ : ByteArray), .int .i64 0, .int .i64 0]) ?_ 0 _ rfl; (with_reducible repeat (first | apply kN_ | apply kD_ | apply kA_)); exact BK586.out) Tryz.underlying27 rfl (by kernel_rfl)) rfl ?_
 exact ⟨rT_, hB_⟩

end Go.Proofs.YtfkdlfbjkdkffaaGreatDoor.PFnVerbs
