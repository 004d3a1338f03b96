/- Written by a program of this claim's author, out of the loaded program as Lean prints it: the functions as Lean functions, and that the calls answer so. -/
import Derived.Test.YtcapebhnioblbaaGreatDoorPFnExactParseHandx0
import Derived.Test.YtcapebhnioblbaaGreatDoorPFnExactParseHandx8
import Derived.Test.YtcapebhnioblbaaGreatDoorPFnExactParseHandx9
import Derived.Test.YtcapebhnioblbaaGreatDoorPFnExactParseHandxD0
namespace Go.Proofs.YtcapebhnioblbaaGreatDoor.PFnExactParseHand
open Go.RowKit Go.Proofs.YtcapebhnioblbaaGreatDoorW.PrintWords Go.Proofs.YtcapebhnioblbaaGreatDoorW.PrintLast Go.Proofs.YtcapebhnioblbaaGreatDoorW.PrintMore
attribute [local go_sem] max2_int min2_int max_two min_two max_three min_three max_four min_four isSome_setCell   -- for this text's walks alone
theorem yactParseHandx10_0_ {p : Prop} (h : p := by first | rfl | (simp; done) | (simp [*]; done)) : p := h
theorem yactParseHandx10_1_ {p : Prop} (h : p := by first | (with_reducible assumption) | assumption) : p := h
theorem yactParseHandx10_2_ {p : Prop} (h : p := by (with_reducible repeat (first | apply kN_ | apply kD_ | apply kA_)); refine blk_put (cs := #[.int .i64 x295000_1, .int .i64 x295001_1, .int .i64 x295002_1, .int .i64 x295003_1, .int .i64 x295004_1, .bool x295005_1]) ?_ 5 _ rfl; (with_reducible repeat (first | apply kN_ | apply kD_ | apply kA_)); exact BK294.out) : p := h
theorem yactParseHandx10_3_ {p : Prop} (h : p := by (with_reducible repeat (first | apply kN_ | apply kD_ | apply kA_)); refine blk_put (cs := #[.int .i64 0, .int .i64 0, .int .i64 0, .int .i64 0, .int .i64 0, .bool false]) ?_ 5 _ rfl; (with_reducible repeat (first | apply kN_ | apply kD_ | apply kA_)); refine blk_put (cs := #[.int .i64 0, .int .i64 0, .int .i64 0, .int .i64 0, .int .i64 0, .bool false]) ?_ 4 _ rfl; (with_reducible repeat (first | apply kN_ | apply kD_ | apply kA_)); refine blk_put (cs := #[.int .i64 0, .int .i64 0, .int .i64 0, .int .i64 0, .int .i64 0, .bool false]) ?_ 3 _ rfl; (with_reducible repeat (first | apply kN_ | apply kD_ | apply kA_)); refine blk_put (cs := #[.int .i64 0, .int .i64 0, .int .i64 0, .int .i64 0, .int .i64 0, .bool false]) ?_ 2 _ rfl; (with_reducible repeat (first | apply kN_ | apply kD_ | apply kA_)); refine blk_put (cs := #[.int .i64 0, .int .i64 0, .int .i64 0, .int .i64 0, .int .i64 0, .bool false]) ?_ 1 _ rfl; (with_reducible repeat (first | apply kN_ | apply kD_ | apply kA_)); refine blk_put (cs := #[.int .i64 0, .int .i64 0, .int .i64 0, .int .i64 0, .int .i64 0, .bool false]) ?_ 0 _ rfl; (with_reducible repeat (first | apply kN_ | apply kD_ | apply kA_)); exact BK292.out) : p := h
abbrev bactParseHandx10_9_0 : Array Bool := #[false, false, false, false, false, false, false, false, false]
abbrev bactParseHandx10_9_1f : Array Bool := #[true, true, true, true, true, false, false, false, false]
abbrev bactParseHandx10_9_1ff : Array Bool := #[true, true, true, true, true, true, true, true, true]
abbrev bactParseHandx10_9_2 : Array Bool := #[false, true, false, false, false, false, false, false, false]
abbrev bactParseHandx10_9_3f : Array Bool := #[true, true, true, true, true, true, false, false, false]
abbrev bactParseHandx10_9_6 : Array Bool := #[false, true, true, false, false, false, false, false, false]
abbrev bactParseHandx10_9_7f : Array Bool := #[true, true, true, true, true, true, true, false, false]
abbrev bactParseHandx10_9_e : Array Bool := #[false, true, true, true, false, false, false, false, false]
abbrev bactParseHandx10_9_f : Array Bool := #[true, true, true, true, false, false, false, false, false]
abbrev bactParseHandx10_9_ff : Array Bool := #[true, true, true, true, true, true, true, true, false]
set_option linter.unusedVariables false
set_option linter.unusedSimpArgs false

/-! ### strconv_Itoa: function 67, by hand -/
open Go.Shelf Go.RowKit Go.Sort Go.Lib in
def laid_lays171_ren : Go.Shelf.Ren := ⟨fun | 171 => 67 | 243 => 80 | 246 => 86 | 283 => 92 | 284 => 93 | 285 => 94 | 286 => 95 | 129 => 100 | 317 => 99 | 318 => 101 | 319 => 102 | 320 => 103 | 337 => 106 | 338 => 107 | n => n, fun | 3 => 3 | 9 => 9 | 2 => 2 | 4 => 4 | 171 => 114 | 0 => 0 | 53 => 115 | 37 => 94 | 5 => 5 | 173 => 118 | 212 => 127 | 51 => 95 | 20 => 20 | 213 => 128 | 46 => 84 | 232 => 136 | 233 => 137 | n => n, fun | 17 => 5 | 18 => 6 | 19 => 7 | n => n⟩
open Go.Shelf Go.RowKit Go.Sort Go.Lib in
theorem laid_lays171 : Go.Proofs.Lays.n171 Tryz.prog laid_lays171_ren := {
 mixed := by kernel_rfl
 f129 := Tryz.func100.trans (congrArg some (by kernel_rfl))
 f171 := Tryz.func67.trans (congrArg some (by kernel_rfl))
 f243 := Tryz.func80.trans (congrArg some (by kernel_rfl))
 f246 := Tryz.func86.trans (congrArg some (by kernel_rfl))
 f283 := Tryz.func92.trans (congrArg some (by kernel_rfl))
 f284 := Tryz.func93.trans (congrArg some (by kernel_rfl))
 f285 := Tryz.func94.trans (congrArg some (by kernel_rfl))
 f286 := Tryz.func95.trans (congrArg some (by kernel_rfl))
 f317 := Tryz.func99.trans (congrArg some (by kernel_rfl))
 f318 := Tryz.func101.trans (congrArg some (by kernel_rfl))
 f319 := Tryz.func102.trans (congrArg some (by kernel_rfl))
 f320 := Tryz.func103.trans (congrArg some (by kernel_rfl))
 f337 := Tryz.func106.trans (congrArg some (by kernel_rfl))
 f338 := Tryz.func107.trans (congrArg some (by kernel_rfl))
 t0 := Tryz.underlying0
 a0 := Tryz.isAgg0
 z0 := Tryz.sizeOf0
 v0 := Tryz.zeroValue0
 t2 := Tryz.underlying2
 a2 := Tryz.isAgg2
 z2 := Tryz.sizeOf2
 v2 := Tryz.zeroValue2
 t3 := Tryz.underlying3
 a3 := Tryz.isAgg3
 z3 := Tryz.sizeOf3
 v3 := Tryz.zeroValue3
 t4 := Tryz.underlying4
 a4 := Tryz.isAgg4
 z4 := Tryz.sizeOf4
 v4 := Tryz.zeroValue4
 t5 := Tryz.underlying5
 a5 := Tryz.isAgg5
 z5 := Tryz.sizeOf5
 v5 := Tryz.zeroValue5
 t9 := Tryz.underlying9
 a9 := Tryz.isAgg9
 z9 := Tryz.sizeOf9
 v9 := Tryz.zeroValue9
 t20 := Tryz.underlying20
 a20 := Tryz.isAgg20
 z20 := Tryz.sizeOf20
 v20 := Tryz.zeroValue20
 t37 := Tryz.underlying94
 a37 := Tryz.isAgg94
 z37 := Tryz.sizeOf94
 v37 := Tryz.zeroValue94
 t46 := Tryz.underlying84
 a46 := Tryz.isAgg84
 z46 := Tryz.sizeOf84
 v46 := Tryz.zeroValue84
 t51 := Tryz.underlying95
 a51 := Tryz.isAgg95
 z51 := Tryz.sizeOf95
 v51 := Tryz.zeroValue95
 t53 := Tryz.underlying115
 a53 := Tryz.isAgg115
 z53 := Tryz.sizeOf115
 v53 := Tryz.zeroValue115
 t171 := Tryz.underlying114
 a171 := Tryz.isAgg114
 z171 := Tryz.sizeOf114
 v171 := Tryz.zeroValue114
 t173 := Tryz.underlying118
 a173 := Tryz.isAgg118
 z173 := Tryz.sizeOf118
 v173 := Tryz.zeroValue118
 t212 := Tryz.underlying127
 a212 := Tryz.isAgg127
 z212 := Tryz.sizeOf127
 v212 := Tryz.zeroValue127
 t213 := Tryz.underlying128
 a213 := Tryz.isAgg128
 z213 := Tryz.sizeOf128
 t232 := Tryz.underlying136
 a232 := Tryz.isAgg136
 z232 := Tryz.sizeOf136
 v232 := Tryz.zeroValue136
 t233 := Tryz.underlying137
 a233 := Tryz.isAgg137
 z233 := Tryz.sizeOf137
 v233 := Tryz.zeroValue137
 g17 := by kernel_rfl
 g18 := by kernel_rfl
 g19 := by kernel_rfl }
theorem strconv_Itoa.same (a0 : Int) (r : ByteArray) (w : World) (h : strconv_Itoa.f a0 = some r) :
 Calls Tryz.prog 67 #[.int .i64 a0] w fun e w' => e = .returned (.string r) ∧ w' = w := by
 unfold strconv_Itoa.f at h
 split at h
 case isFalse => cases h
 case isTrue hl =>
  obtain rfl := Option.some.inj h
  obtain ⟨i, rfl⟩ : ∃ i : Nat, a0 = i := ⟨a0.toNat, by omega⟩
  rw [Int.toNat_natCast]
  exact Any.strconv_Itoa_small laid_lays171 i (by omega) w
theorem strconv_Itoa.calls (a0 : Int) (r : ByteArray) (w : World) (h : strconv_Itoa.f a0 = some r) :
 Calls Tryz.prog 67 #[.int .i64 a0] w fun e w' => e = .returned (.string r) ∧ Drawn0 w w' :=
 (strconv_Itoa.same a0 r w h).mono fun _ _ ⟨he, hw⟩ => ⟨he, by subst hw; exact Drawn0.refl _⟩

/-! ### impl_Shape_text: function 40 -/
set_option maxHeartbeats 8000000 in
set_option maxRecDepth 100000 in
theorem impl_Shape_text.calls (k : Nat) (a0_0 : Int) (a0_1 : Int) (a0_2 : Int) (a0_3 : Int) (a0_4 : Int) (a0_5 : Bool) (r : ByteArray) (w : World) (h : impl_Shape_text.f k a0_0 a0_1 a0_2 a0_3 a0_4 a0_5 = some r) :
 Calls Tryz.prog 40 #[.agg #[.int .i64 a0_0, .int .i64 a0_1, .int .i64 a0_2, .int .i64 a0_3, .int .i64 a0_4, .bool a0_5]] w fun e w' => e = .returned (.string r) ∧ Below w.heap.size w w' := by
 have hu23 := Tryz.underlying23
 have HB := Aside0.mk (Below.refl w.heap.size w)
 have H : ((strconv_Itoa.f a0_0).bind fun t286 => ((impl_Shape_bends.f a0_0 a0_1 a0_2 a0_3 a0_4 a0_5).bind fun t287 => (impl_Shape_text.l0 k t286 t287 (t287.length : Int) 0 a0_0 a0_1 a0_2 a0_3 a0_4 a0_5))) = some r := h
 clear h
 replace H := Option.bind_eq_some_iff.mp H
 obtain ⟨t286, A20, H⟩ := H
 try dsimp only at H
 have A2 := Aside0.mk A20
 clear A20
 replace H := Option.bind_eq_some_iff.mp H
 obtain ⟨t287, A30, H⟩ := H
 try dsimp only at H
 have A3 := Aside0.mk A30
 clear A30
 have H' := Aside0.mk H
 clear H
 go_enter Tryz.func40, Tryz.ntmps40
 go_wp2_with (first | ((with_reducible refine gate_dst (N := 1) rfl ?_); refine box_event ?hg (N := 1) ?hd (cs := #[.int .i64 a0_0, .int .i64 a0_1, .int .i64 a0_2, .int .i64 a0_3, .int .i64 a0_4, .bool a0_5]) (t := 23) ?hr ?_; (case hd => rfl); (case hg => rfl); (case hr => first | (go_simp; done) | (go_simp; rfl)); intro gb285 hg w4 hbox hb; have BK285 := aM_ (hbox); have GW285 := aM_ (gw_ w hg); have GE285 := aM_ (gw_ w hg); replace HB := aM_ (below_step hB_ hb); clear hb hbox hg; have hz5 := cf6_ BK285.out) | ((with_reducible refine gate_callee (f := 67) rfl ?_); refine goesM_ (some 8) Tryz.func67 #[.int .i64 a0_0] ?_; (with_reducible refine (strconv_Itoa.calls a0_0 t286 _ A2.out).mono ?_); rintro e w' ⟨rfl, ⟨nd, rfl⟩⟩; refine ⟨_, rfl, ?_⟩) | ((with_reducible refine gate_callee (f := 66) rfl ?_); refine goesM_ (some 10) Tryz.func66 #[.agg #[.int .i64 a0_0, .int .i64 a0_1, .int .i64 a0_2, .int .i64 a0_3, .int .i64 a0_4, .bool a0_5]] ?_; (with_reducible refine (impl_Shape_bends.calls a0_0 a0_1 a0_2 a0_3 a0_4 a0_5 t287 _ A3.out).mono ?_); rintro e w6 ⟨v288, rfl, ho0, hb⟩; refine ⟨_, rfl, ?_⟩; have HO289 := aM_ (Kd.R_lower ho0 (below_size hB_)); replace BK285 := aM_ (blk_below (g := gb285) (kR_ BK285) hb); replace HB := aM_ (below_step hB_ hb); (try clear hb); (try clear hb2); (try clear hk); (try clear hi); (try clear ho0); obtain ⟨Ao7, co7, eo7⟩ := Kd.R_slice HO289.out; subst eo7))
 try simp only [Act.put, List.setIfInBounds_toArray, List.set_cons_zero, List.set_cons_succ]
 go_loopg [3, 12] k (fun kq v3 v12 w' => ∃ (x3_1 : ByteArray) (x12_1 : Int), v3 = .string x3_1 ∧ v12 = .int .i64 x12_1 ∧ Aside0 (impl_Shape_text.l0 kq x3_1 t287 (t287.length : Int) x12_1 a0_0 a0_1 a0_2 a0_3 a0_4 a0_5 = some r) ∧ Aside0 (kq ≤ k) ∧ Aside0 (Kd.R (Kd.int .i64) 3 w' w.heap.size (fun _ => True) (.slice Ao7 t287.length co7) t287) ∧ Aside0 (w'.heap[gb285]? = some (.cells #[.int .i64 a0_0, .int .i64 a0_1, .int .i64 a0_2, .int .i64 a0_3, .int .i64 a0_4, .bool a0_5] 23 (0, 0))) ∧ Aside0 (Below w.heap.size w w'))
 case atStart => exact ⟨(t286), (0), yactParseHandx10_0_, yactParseHandx10_0_, H', ⟨Nat.le_refl _⟩, ⟨by (with_reducible repeat (first | apply Kd.R_alloc | apply Kd.R_drewN | apply Kd.R_drew)); exact HO289.out⟩, ⟨kP_⟩, ⟨hB_⟩⟩
 case round =>
  clear H'
  (try clear hcz5_0);(try clear hcz5_1);(try clear hcz5_2);(try clear hcz5_3);(try clear hcz5_4);(try clear hcz5_5);(try clear hfz5_0);(try clear hfz5_1);(try clear hfz5_2);(try clear hfz5_3);(try clear hfz5_4);(try clear hfz5_5)
  obtain ⟨x3_1, x12_1, rfl, rfl, HA, HK1, HO_10, BK285, HB⟩ := hrel
  cases gk with
  | zero => exact absurd HA.out (by simp [impl_Shape_text.l0])
  | succ k1 =>
   have H := HA.out
   clear HA
   simp only [impl_Shape_text.l0] at H
   by_cases c8 : x12_1 < (t287.length : Int)
   ·rw [if_pos c8] at H
    have c8b0 : decide (x12_1 < (t287.length : Int)) = true := decide_eq_true c8
    clear c8
    by_cases c9 : 0 ≤ x12_1
    ·rw [if_pos c9] at H
     have c9b0 : decide (0 ≤ x12_1) = true := decide_eq_true c9
     clear c9
     by_cases c10 : x12_1 < (t287.length : Int)
     ·rw [if_pos c10] at H
      have c10b0 : decide (x12_1 < (t287.length : Int)) = true := decide_eq_true c10
      clear c10
      replace H := Option.bind_eq_some_iff.mp H
      obtain ⟨t291, A110, H⟩ := H
      try dsimp only at H
      have A11 := Aside0.mk A110
      clear A110
      by_cases c12 : x3_1.size + t291.size ≤ 9223372036854775807
      ·rw [if_pos c12] at H
       have c12b0 := eq_true c12
       have c12b1 : decide (x3_1.size + t291.size ≤ 9223372036854775807) = true := decide_eq_true c12
       try have c12b2 : (9223372036854775807 < x3_1.size + t291.size) = False := eq_false (Nat.not_lt.2 c12)
       have H' := Aside0.mk H
       clear H
       have p290 : 0 ≤ (x12_1 : Int) := of_decide_eq_true yactParseHandx10_1_
       have q290 : x12_1 < (t287.length : Int) := of_decide_eq_true yactParseHandx10_1_
       obtain ⟨ad290, e290, hx290_0⟩ := Kd.at_int (Kd.R_reads' HO_10.out).2.2 x12_1 p290 q290
       cases e290
       replace p290 := eq_true p290
       replace q290 := eq_true q290
       go_wp2_with (first | ((with_reducible refine gate_callee (f := 67) rfl ?_); refine goesM_ (some 18) Tryz.func67 #[.int .i64 (rd t287 x12_1)] ?_; (with_reducible refine (strconv_Itoa.calls (rd t287 x12_1) t291 _ A11.out).mono ?_); rintro e w' ⟨rfl, ⟨nd, rfl⟩⟩; refine ⟨_, rfl, ?_⟩))
       go_roundg k1
       case measure => have := HK1.out; omega
       case rel => exact ⟨(x3_1 ++ t291), (wrap64 (x12_1 + 1)), yactParseHandx10_0_, yactParseHandx10_0_, H', ⟨by have := HK1.out; omega⟩, ⟨by (with_reducible repeat (first | apply Kd.R_alloc | apply Kd.R_drewN | apply Kd.R_drew)); exact HO_10.out⟩, ⟨kP_⟩, ⟨hB_⟩⟩
      ·rw [if_neg c12] at H
       exact absurd H (by simp)
     ·rw [if_neg c10] at H
      exact absurd H (by simp)
    ·rw [if_neg c9] at H
     exact absurd H (by simp)
   ·rw [if_neg c8] at H
    have c8b0 : decide (x12_1 < (t287.length : Int)) = false := decide_eq_false c8
    clear c8
    by_cases c13 : a0_5 = true
    ·subst c13
     replace H := ip_ H rfl
     by_cases c14 : x3_1.size + 1 ≤ 9223372036854775807
     ·rw [if_pos c14] at H
      have c14b0 := eq_true c14
      have c14b1 : decide (x3_1.size + 1 ≤ 9223372036854775807) = true := decide_eq_true c14
      try have c14b2 : (9223372036854775807 < x3_1.size + 1) = False := eq_false (Nat.not_lt.2 c14)
      obtain rfl := Option.some.inj H
      have hz15 := cf6_ BK285.out
      go_wp2
      go_ret
      exact ⟨rT_, hB_⟩
     ·rw [if_neg c14] at H
      exact absurd H (by simp)
    ·replace c13 := Bool.eq_false_iff.mpr c13
     subst c13
     replace H := in_ H (show ¬ (false = true) by decide)
     obtain rfl := Option.some.inj H
     have hz16 := cf6_ BK285.out
     go_wp2
     go_ret
     exact ⟨rT_, hB_⟩

/-! ### impl_ParseShape: function 22 -/
def impl_ParseShape.T7 : Bool × List (List Nat × List Nat) := (true, [([], []), ([], []), ([], []), ([], []), ([2, 3], [2, 3]), ([4], [4]), ([5], [5]), ([0, 1, 6], [0, 1, 6]), ([7, 7, 0, 1, 2, 3, 4, 5, 6, 7], [7])])
def impl_ParseShape.B7 : List Nat := [0, 0, 0, 0, 12, 28, 60, 127, 255]
theorem impl_ParseShape.tab7 : rtab .any (opsOf Tryz.f22 7) = impl_ParseShape.T7 := by kernel_rfl
theorem impl_ParseShape.bits7 : waitsOk impl_ParseShape.T7.2 impl_ParseShape.B7 = true := by kernel_rfl
set_option maxHeartbeats 8000000 in
set_option maxRecDepth 100000 in
theorem impl_ParseShape.calls (k : Nat) (a0 : ByteArray) (r1 : Int) (r2 : Int) (r3 : Int) (r4 : Int) (r5 : Int) (r6 : Bool) (r7 : Bool) (w : World) (h : impl_ParseShape.f k a0 = some (r1, r2, r3, r4, r5, r6, r7)) :
 Calls Tryz.prog 22 #[.string a0] w fun e w' => e = .returned (.tuple #[.agg #[.int .i64 r1, .int .i64 r2, .int .i64 r3, .int .i64 r4, .int .i64 r5, .bool r6], .bool r7]) ∧ Below w.heap.size w w' := by
 have hu23 := Tryz.underlying23
 have HB := Aside0.mk (Below.refl w.heap.size w)
 have H : ((impl_within.f (a0.size : Int) 5 6).bind fun t293 => (if t293 = true then (impl_ParseShape.l0 k a0 0 0 0 0 0 0 false) else (some (0, 0, 0, 0, 0, false, false)))) = some (r1, r2, r3, r4, r5, r6, r7) := h
 clear h
 replace H := Option.bind_eq_some_iff.mp H
 obtain ⟨t293, A20, H⟩ := H
 try dsimp only at H
 have A2 := Aside0.mk A20
 clear A20
 by_cases c3 : t293 = true
 ·subst c3
  replace H := ip_ H rfl
  have H' := Aside0.mk H
  clear H
  go_enter Tryz.func22, Tryz.ntmps22
  go_wp2_with (first | ((with_reducible refine gate_dst (N := 2) rfl ?_); refine box_event ?hg (N := 2) ?hd (cs := #[.int .i64 0, .int .i64 0, .int .i64 0, .int .i64 0, .int .i64 0, .bool false]) (t := 23) ?hr ?_; (case hd => rfl); (case hg => rfl); (case hr => first | (go_simp; done) | (go_simp; rfl)); intro gb292 hg w4 hbox hb; have BK292 := aM_ (hbox); have GW292 := aM_ (gw_ w hg); have GE292 := aM_ (gw_ w hg); replace HB := aM_ (below_step hB_ hb); clear hb hbox hg) | ((with_reducible refine gate_callee (f := 37) rfl ?_); refine goesM_ (some 8) Tryz.func37 #[.int .i64 (a0.size : Int), .int .i64 5, .int .i64 6] ?_; (with_reducible refine (impl_within.calls (a0.size : Int) 5 6 true _ A2.out).mono ?_); rintro e w' ⟨rfl, ⟨nd, rfl⟩⟩; refine ⟨_, rfl, ?_⟩) | ((with_reducible refine gate_dst (N := 4) rfl ?_); refine box_event ?hg (N := 4) ?hd (cs := #[.int .i64 0, .int .i64 0, .int .i64 0, .int .i64 0, .int .i64 0, .bool false]) (t := 23) ?hr ?_; (case hd => rfl); (case hg => rfl); (case hr => first | (go_simp; done) | (go_simp; rfl)); intro gb294 hg w5 hbox hb; have BK294 := aM_ (hbox); have GW294 := aM_ (gw_ w hg); have GE294 := aM_ (gw_ w hg); have NB292_294 := aM_ (nR_ BK292 hg); have NB294_292 := aM_ (mR_ BK292 hg); replace BK292 := aM_ (blk_below (g := gb292) (kR_ BK292) hb); replace HB := aM_ (below_step hB_ hb); clear hb hbox hg))
  try simp only [Act.put, List.setIfInBounds_toArray, List.set_cons_zero, List.set_cons_succ]
  go_loopg [11] k (fun kq v11 w' => ∃ (x11_1 : Int) (x295000_1 : Int) (x295001_1 : Int) (x295002_1 : Int) (x295003_1 : Int) (x295004_1 : Int) (x295005_1 : Bool), v11 = .int .i64 x11_1 ∧ Aside0 (impl_ParseShape.l0 kq a0 x11_1 x295000_1 x295001_1 x295002_1 x295003_1 x295004_1 x295005_1 = some (r1, r2, r3, r4, r5, r6, r7)) ∧ Aside0 (kq ≤ k) ∧ Aside0 (w'.heap[gb292]? = some (.cells #[.int .i64 0, .int .i64 0, .int .i64 0, .int .i64 0, .int .i64 0, .bool false] 23 (0, 0))) ∧ Aside0 (w'.heap[gb294]? = some (.cells #[.int .i64 x295000_1, .int .i64 x295001_1, .int .i64 x295002_1, .int .i64 x295003_1, .int .i64 x295004_1, .bool x295005_1] 23 (0, 0))) ∧ Aside0 (Below w.heap.size w w'))
  case atStart => exact ⟨(0), (0), (0), (0), (0), (0), (false), yactParseHandx10_0_, H', ⟨Nat.le_refl _⟩, ⟨kP_⟩, ⟨kP_⟩, ⟨hB_⟩⟩
  case round =>
   clear H'
   (try clear c3)
   obtain ⟨x11_1, x295000_1, x295001_1, x295002_1, x295003_1, x295004_1, x295005_1, rfl, HA, HK1, BK292, BK294, HB⟩ := hrel
   cases gk with
   | zero => exact absurd HA.out (by simp [impl_ParseShape.l0])
   | succ k1 =>
    have H := HA.out
    clear HA
    simp only [impl_ParseShape.l0] at H
    by_cases c6 : x11_1 < 5
    ·rw [if_pos c6] at H
     have c6b0 : decide (x11_1 < 5) = true := decide_eq_true c6
     clear c6
     by_cases c7 : 0 ≤ x11_1
     ·rw [if_pos c7] at H
      have c7b0 : decide (0 ≤ x11_1) = true := decide_eq_true c7
      clear c7
      by_cases c8 : x11_1 < (a0.size : Int)
      ·rw [if_pos c8] at H
       have c8b0 : decide (x11_1 < (a0.size : Int)) = true := decide_eq_true c8
       clear c8
       replace H := Option.bind_eq_some_iff.mp H
       obtain ⟨⟨t295, t296, t297, t298, t299, t300⟩, A100, H⟩ := H
       try dsimp only at H
       have A10 := Aside0.mk A100
       clear A100
       have H' := Aside0.mk H
       clear H
       try go_wp2
       replace BK292 := aM_ (blk_drew BK292.out)
       replace BK294 := aM_ (blk_drew BK294.out)
       replace HB := aM_ (below_drew1 HB.out)
       have p9 : 0 ≤ (x11_1 : Int) := of_decide_eq_true yactParseHandx10_1_
       have q9 : x11_1 < (a0.size : Int) := of_decide_eq_true yactParseHandx10_1_
       have hx9 := bt_at a0 x11_1
       replace p9 := eq_true p9
       replace q9 := eq_true q9
       refine start_ (n := 9) (S := fun w' => w'.cell? ⟨gb294, 0, none⟩ = some (.int .i64 x295000_1) ∧ w'.cell? ⟨gb294, 1, none⟩ = some (.int .i64 x295001_1) ∧ w'.cell? ⟨gb294, 2, none⟩ = some (.int .i64 x295002_1) ∧ w'.cell? ⟨gb294, 3, none⟩ = some (.int .i64 x295003_1) ∧ w'.cell? ⟨gb294, 4, none⟩ = some (.int .i64 x295004_1) ∧ w'.cell? ⟨gb294, 5, none⟩ = some (.bool x295005_1)) (ds := [8]) bactParseHandx10_9_0 (by kernel_rfl) rfl rfl ⟨(blk_cell BK294.out 0).trans rfl, (blk_cell BK294.out 1).trans rfl, (blk_cell BK294.out 2).trans rfl, (blk_cell BK294.out 3).trans rfl, (blk_cell BK294.out 4).trans rfl, (blk_cell BK294.out 5).trans rfl⟩ (fun hHeld => ?_); refine with_tabW impl_ParseShape.tab7 impl_ParseShape.bits7 (fun HT_ HW_ => ?_)
       generalize wr.drew = w11 at BK292 BK294 HB hHeld ⊢
       refine pure_ (i := 1) (N := some 15) (v := ?_) (a' := ?_) bactParseHandx10_9_2 rfl rfl (any_of HT_.out (by kernel_rfl)) (fun _ _ _ h => h) (Or.inl ⟨by rfl, ?_⟩) ?_ ?_
       rotate_left
       ·intro w'
        go_simp
        with_reducible rfl
       rotate_left
       ·simp only [Act.put, List.setIfInBounds_toArray, List.set_cons_zero, List.set_cons_succ, i64_w, i32_w]
        rfl
       refine pure_ (i := 2) (N := some 16) (v := ?_) (a' := ?_) bactParseHandx10_9_6 rfl rfl (any_of HT_.out (by kernel_rfl)) (fun _ _ _ h => h) (Or.inl ⟨by rfl, ?_⟩) ?_ ?_
       rotate_left
       ·intro w'
        go_simp
        with_reducible rfl
       rotate_left
       ·simp only [Act.put, List.setIfInBounds_toArray, List.set_cons_zero, List.set_cons_succ, i64_w, i32_w]
        rfl
       refine pure_ (i := 3) (N := some 17) (v := ?_) (a' := ?_) bactParseHandx10_9_e rfl rfl (any_of HT_.out (by kernel_rfl)) (fun _ _ _ h => h) (Or.inl ⟨by rfl, ?_⟩) ?_ ?_
       rotate_left
       ·intro w'
        go_simp
        with_reducible rfl
       rotate_left
       ·simp only [Act.put, List.setIfInBounds_toArray, List.set_cons_zero, List.set_cons_succ, i64_w, i32_w]
        rfl
       refine take_ (i := 0) (N := some 14) (v := ?_) (a' := ?_) bactParseHandx10_9_f rfl rfl (take_ofW HT_.out HW_.out (by kernel_rfl)) (fun _ _ _ h => h) (Or.inl ⟨by rfl, ?_⟩) hHeld ?_ ?_
       rotate_left
       ·rintro w' ⟨s0, s1, s2, s3, s4, s5⟩
        go_simp
        with_reducible rfl
       rotate_left
       ·simp only [Act.put, List.setIfInBounds_toArray, List.set_cons_zero, List.set_cons_succ, i64_w, i32_w]
        rfl
       refine take_ (i := 4) (N := some 18) (v := ?_) (a' := ?_) bactParseHandx10_9_1f rfl rfl (take_ofW HT_.out HW_.out (by kernel_rfl)) (fun _ _ _ h => h) (Or.inl ⟨by rfl, ?_⟩) hHeld ?_ ?_
       rotate_left
       ·rintro w' ⟨s0, s1, s2, s3, s4, s5⟩
        go_simp
        with_reducible rfl
       rotate_left
       ·simp only [Act.put, List.setIfInBounds_toArray, List.set_cons_zero, List.set_cons_succ, i64_w, i32_w]
        rfl
       refine pure_ (i := 5) (N := some 19) (v := ?_) (a' := ?_) bactParseHandx10_9_3f rfl rfl (any_of HT_.out (by kernel_rfl)) (fun _ _ _ h => h) (Or.inl ⟨by rfl, ?_⟩) ?_ ?_
       rotate_left
       ·intro w'
        go_simp
        with_reducible rfl
       rotate_left
       ·simp only [Act.put, List.setIfInBounds_toArray, List.set_cons_zero, List.set_cons_succ, i64_w, i32_w]
        rfl
       refine pure_ (i := 6) (N := some 20) (v := ?_) (a' := ?_) bactParseHandx10_9_7f rfl rfl (any_of HT_.out (by kernel_rfl)) (fun _ _ _ h => h) (Or.inl ⟨by rfl, ?_⟩) ?_ ?_
       rotate_left
       ·intro w'
        go_simp
        with_reducible rfl
       rotate_left
       ·simp only [Act.put, List.setIfInBounds_toArray, List.set_cons_zero, List.set_cons_succ, i64_w, i32_w]
        rfl
       refine one_ (i := 7) (N := some 21) bactParseHandx10_9_ff rfl rfl (one_of HT_.out (by kernel_rfl)) (by decide) (fun K hK => ?_)
       refine goes_ Tryz.func38 (by kernel_rfl) rfl #[.agg #[.int .i64 x295000_1, .int .i64 x295001_1, .int .i64 x295002_1, .int .i64 x295003_1, .int .i64 x295004_1, .bool x295005_1], .int .i64 x11_1, .int .i64 (wrap64 ((wrap64 (bt a0 x11_1)) - 48))] (by rfl) rfl rfl aR_ ?_
       with_reducible refine (impl_Shape_with.calls x295000_1 x295001_1 x295002_1 x295003_1 x295004_1 x295005_1 x11_1 (wrap64 ((wrap64 (bt a0 x11_1)) - 48)) t295 t296 t297 t298 t299 t300 _ A10.out).mono ?_
       rintro e w12 ⟨rfl, hb⟩
       refine ⟨_, rfl, ?_⟩
       replace BK292 := aM_ (blk_below (g := gb292) (kR_ BK292) hb)
       replace BK294 := aM_ (blk_below (g := gb294) (kR_ BK294) hb)
       replace HB := aM_ (below_step hB_ hb)
       (try clear hb)
       (try clear hb2)
       (try clear hk)
       (try clear hi)
       refine hK.out _ _ ⟨(blk_cell BK294.out 0).trans rfl, (blk_cell BK294.out 1).trans rfl, (blk_cell BK294.out 2).trans rfl, (blk_cell BK294.out 3).trans rfl, (blk_cell BK294.out 4).trans rfl, (blk_cell BK294.out 5).trans rfl⟩ (fun hHeld => ?_)
       clear hK K
       refine norm_ (a' := ?_) ?_ ?_
       rotate_left
       ·show Act.put _ (some 21) _ = _
        simp only [Act.put, List.setIfInBounds_toArray, List.set_cons_zero, List.set_cons_succ, i64_w, i32_w]
        rfl
       refine last_ (i := 8) (N := none) bactParseHandx10_9_1ff rfl rfl (one_of HT_.out (by kernel_rfl)) (by decide) (fun K hK => ?_)
       have hs13 : w12.cell? ⟨gb294, 0, none⟩ = some (.int .i64 x295000_1) := (blk_cell BK294.out 0).trans rfl
       have hfs13 := blk_frozen BK294.out 0
       have hns13_0 := NB292_294.out
       have hms13_0 := NB294_292.out
       have hs14 : w12.cell? ⟨gb294, 1, none⟩ = some (.int .i64 x295001_1) := (blk_cell BK294.out 1).trans rfl
       have hfs14 := blk_frozen BK294.out 1
       have hns14_0 := NB292_294.out
       have hms14_0 := NB294_292.out
       have hs15 : w12.cell? ⟨gb294, 2, none⟩ = some (.int .i64 x295002_1) := (blk_cell BK294.out 2).trans rfl
       have hfs15 := blk_frozen BK294.out 2
       have hns15_0 := NB292_294.out
       have hms15_0 := NB294_292.out
       have hs16 : w12.cell? ⟨gb294, 3, none⟩ = some (.int .i64 x295003_1) := (blk_cell BK294.out 3).trans rfl
       have hfs16 := blk_frozen BK294.out 3
       have hns16_0 := NB292_294.out
       have hms16_0 := NB294_292.out
       have hs17 : w12.cell? ⟨gb294, 4, none⟩ = some (.int .i64 x295004_1) := (blk_cell BK294.out 4).trans rfl
       have hfs17 := blk_frozen BK294.out 4
       have hns17_0 := NB292_294.out
       have hms17_0 := NB294_292.out
       have hs18 : w12.cell? ⟨gb294, 5, none⟩ = some (.bool x295005_1) := (blk_cell BK294.out 5).trans rfl
       have hfs18 := blk_frozen BK294.out 5
       have hns18_0 := NB292_294.out
       have hms18_0 := NB294_292.out
       refine skip_ (w1 := ?_) (by rfl) rfl ?_ ?_
       rotate_left
       ·go_simp
        rfl
       refine hK.out _ _ ?_
       clear hK K
       refine done_ (done_of HT_.out (by kernel_rfl)) ?_
       try go_wp2
       go_roundg k1
       case measure => have := HK1.out; omega
       case rel => exact ⟨(wrap64 (x11_1 + 1)), (t295), (t296), (t297), (t298), (t299), (t300), yactParseHandx10_0_, H', ⟨by have := HK1.out; omega⟩, ⟨by (with_reducible repeat (first | apply kN_ | apply kD_ | apply kA_)); refine blk_far ?_ NB292_294.out _; (with_reducible repeat (first | apply kN_ | apply kD_ | apply kA_)); refine blk_far ?_ NB292_294.out _; (with_reducible repeat (first | apply kN_ | apply kD_ | apply kA_)); refine blk_far ?_ NB292_294.out _; (with_reducible repeat (first | apply kN_ | apply kD_ | apply kA_)); refine blk_far ?_ NB292_294.out _; (with_reducible repeat (first | apply kN_ | apply kD_ | apply kA_)); refine blk_far ?_ NB292_294.out _; (with_reducible repeat (first | apply kN_ | apply kD_ | apply kA_)); refine blk_far ?_ NB292_294.out _; (with_reducible repeat (first | apply kN_ | apply kD_ | apply kA_)); exact BK292.out⟩, ⟨by (with_reducible repeat (first | apply kN_ | apply kD_ | apply kA_)); refine blk_put (cs := #[.int .i64 t295, .int .i64 t296, .int .i64 t297, .int .i64 t298, .int .i64 t299, .bool x295005_1]) ?_ 5 _ rfl; (with_reducible repeat (first | apply kN_ | apply kD_ | apply kA_)); refine blk_put (cs := #[.int .i64 t295, .int .i64 t296, .int .i64 t297, .int .i64 t298, .int .i64 x295004_1, .bool x295005_1]) ?_ 4 _ rfl; (with_reducible repeat (first | apply kN_ | apply kD_ | apply kA_)); refine blk_put (cs := #[.int .i64 t295, .int .i64 t296, .int .i64 t297, .int .i64 x295003_1, .int .i64 x295004_1, .bool x295005_1]) ?_ 3 _ rfl; (with_reducible repeat (first | apply kN_ | apply kD_ | apply kA_)); refine blk_put (cs := #[.int .i64 t295, .int .i64 t296, .int .i64 x295002_1, .int .i64 x295003_1, .int .i64 x295004_1, .bool x295005_1]) ?_ 2 _ rfl; (with_reducible repeat (first | apply kN_ | apply kD_ | apply kA_)); refine blk_put (cs := #[.int .i64 t295, .int .i64 x295001_1, .int .i64 x295002_1, .int .i64 x295003_1, .int .i64 x295004_1, .bool x295005_1]) ?_ 1 _ rfl; (with_reducible repeat (first | apply kN_ | apply kD_ | apply kA_)); refine blk_put (cs := #[.int .i64 x295000_1, .int .i64 x295001_1, .int .i64 x295002_1, .int .i64 x295003_1, .int .i64 x295004_1, .bool x295005_1]) ?_ 0 _ rfl; (with_reducible repeat (first | apply kN_ | apply kD_ | apply kA_)); exact BK294.out⟩, ⟨hB_⟩⟩
      ·rw [if_neg c8] at H
       exact absurd H (by simp)
     ·rw [if_neg c7] at H
      exact absurd H (by simp)
    ·rw [if_neg c6] at H
     have c6b0 : decide (x11_1 < 5) = false := decide_eq_false c6
     clear c6
     replace H := Option.bind_eq_some_iff.mp H
     obtain ⟨t301, A190, H⟩ := H
     try dsimp only at H
     have A19 := Aside0.mk A190
     clear A190
     by_cases c20 : t301 = true
     ·subst c20
      replace H := ip_ H rfl
      replace H := Option.bind_eq_some_iff.mp H
      obtain ⟨t302, A210, H⟩ := H
      try dsimp only at H
      have A21 := Aside0.mk A210
      clear A210
      by_cases c22 : t302.toList = a0.toList
      ·rw [if_pos c22] at H
       have c22b0 : (t302.toList == a0.toList) = true := beq_iff_eq.mpr c22
       have c22b1 : (t302.toList != a0.toList) = false := bne_eq_false_iff_eq.mpr c22
       clear c22
       simp only [Option.some.injEq, Prod.mk.injEq] at H
       obtain ⟨rfl, rfl, rfl, rfl, rfl, rfl, rfl⟩ := H
       have hnb23 := NB294_292.out
       have hnc23 := NB292_294.out
       have hz24 := cf6_ BK294.out
       go_wp2_with (first | ((with_reducible refine gate_callee (f := 39) rfl ?_); refine goesM_ (some 28) Tryz.func39 #[.agg #[.int .i64 x295000_1, .int .i64 x295001_1, .int .i64 x295002_1, .int .i64 x295003_1, .int .i64 x295004_1, .bool ((a0.size : Int) == 6)]] ?_; (with_reducible refine (impl_IsShape.calls k1 x295000_1 x295001_1 x295002_1 x295003_1 x295004_1 ((a0.size : Int) == 6) true _ A19.out).mono ?_); rintro e w25 ⟨rfl, hb⟩; refine ⟨_, rfl, ?_⟩; replace BK292 := aM_ (blk_below (g := gb292) (kR_ BK292) hb); replace BK294 := aM_ (blk_below (g := gb294) (o := .cells #[.int .i64 x295000_1, .int .i64 x295001_1, .int .i64 x295002_1, .int .i64 x295003_1, .int .i64 x295004_1, .bool ((a0.size : Int) == 6)] 23 (0, 0)) yactParseHandx10_2_ hb); replace HB := aM_ (below_step hB_ hb); (try clear hb); (try clear hb2); (try clear hk); (try clear hi); have hz26 := cf6_ BK294.out) | (go_at_call 40; (with_reducible refine (impl_Shape_text.calls k1 x295000_1 x295001_1 x295002_1 x295003_1 x295004_1 ((a0.size : Int) == 6) t302 _ A21.out).mono ?_); rintro e w27 ⟨rfl, hb⟩; replace BK292 := aM_ (blk_below (g := gb292) (kR_ BK292) hb); replace BK294 := aM_ (blk_below (g := gb294) (kR_ BK294) hb); replace HB := aM_ (below_step hB_ hb); (try clear hb); (try clear hb2); (try clear hk); (try clear hi); have hz28 := cf6_ BK294.out; clear BK294; have hz29 := cf6_ BK292.out))
       refine bodyPost_ret (results_ct rfl _ _ gb292 23 #[.int .i64 x295000_1, .int .i64 x295001_1, .int .i64 x295002_1, .int .i64 x295003_1, .int .i64 x295004_1, .bool ((a0.size : Int) == 6)] (0, 0) _ rfl (by (with_reducible repeat (first | apply kN_ | apply kD_ | apply kA_)); refine blk_put (cs := #[.int .i64 x295000_1, .int .i64 x295001_1, .int .i64 x295002_1, .int .i64 x295003_1, .int .i64 x295004_1, .bool false]) ?_ 5 _ rfl; (with_reducible repeat (first | apply kN_ | apply kD_ | apply kA_)); refine blk_put (cs := #[.int .i64 x295000_1, .int .i64 x295001_1, .int .i64 x295002_1, .int .i64 x295003_1, .int .i64 0, .bool false]) ?_ 4 _ rfl; (with_reducible repeat (first | apply kN_ | apply kD_ | apply kA_)); refine blk_put (cs := #[.int .i64 x295000_1, .int .i64 x295001_1, .int .i64 x295002_1, .int .i64 0, .int .i64 0, .bool false]) ?_ 3 _ rfl; (with_reducible repeat (first | apply kN_ | apply kD_ | apply kA_)); refine blk_put (cs := #[.int .i64 x295000_1, .int .i64 x295001_1, .int .i64 0, .int .i64 0, .int .i64 0, .bool false]) ?_ 2 _ rfl; (with_reducible repeat (first | apply kN_ | apply kD_ | apply kA_)); refine blk_put (cs := #[.int .i64 x295000_1, .int .i64 0, .int .i64 0, .int .i64 0, .int .i64 0, .bool false]) ?_ 1 _ rfl; (with_reducible repeat (first | apply kN_ | apply kD_ | apply kA_)); refine blk_put (cs := #[.int .i64 0, .int .i64 0, .int .i64 0, .int .i64 0, .int .i64 0, .bool false]) ?_ 0 _ rfl; (with_reducible repeat (first | apply kN_ | apply kD_ | apply kA_)); exact BK292.out) Tryz.underlying23 rfl (by kernel_rfl)) rfl ?_
       exact ⟨rT_, hB_⟩
      ·rw [if_neg c22] at H
       have c22b0 : (t302.toList == a0.toList) = false := beq_eq_false_iff_ne.mpr c22
       have c22b1 : (t302.toList != a0.toList) = true := bne_iff_ne.mpr c22
       simp only [Option.some.injEq, Prod.mk.injEq] at H
       obtain ⟨rfl, rfl, rfl, rfl, rfl, rfl, rfl⟩ := H
       have hnb30 := NB294_292.out
       have hnc30 := NB292_294.out
       have hz31 := cf6_ BK294.out
       go_wp2_with (first | ((with_reducible refine gate_callee (f := 39) rfl ?_); refine goesM_ (some 28) Tryz.func39 #[.agg #[.int .i64 x295000_1, .int .i64 x295001_1, .int .i64 x295002_1, .int .i64 x295003_1, .int .i64 x295004_1, .bool ((a0.size : Int) == 6)]] ?_; (with_reducible refine (impl_IsShape.calls k1 x295000_1 x295001_1 x295002_1 x295003_1 x295004_1 ((a0.size : Int) == 6) true _ A19.out).mono ?_); rintro e w32 ⟨rfl, hb⟩; refine ⟨_, rfl, ?_⟩; replace BK292 := aM_ (blk_below (g := gb292) (kR_ BK292) hb); replace BK294 := aM_ (blk_below (g := gb294) (o := .cells #[.int .i64 x295000_1, .int .i64 x295001_1, .int .i64 x295002_1, .int .i64 x295003_1, .int .i64 x295004_1, .bool ((a0.size : Int) == 6)] 23 (0, 0)) yactParseHandx10_2_ hb); replace HB := aM_ (below_step hB_ hb); (try clear hb); (try clear hb2); (try clear hk); (try clear hi); have hz33 := cf6_ BK294.out; clear BK294) | (go_at_call 40; (with_reducible refine (impl_Shape_text.calls k1 x295000_1 x295001_1 x295002_1 x295003_1 x295004_1 ((a0.size : Int) == 6) t302 _ A21.out).mono ?_); rintro e w34 ⟨rfl, hb⟩; replace BK292 := aM_ (blk_below (g := gb292) (kR_ BK292) hb); replace HB := aM_ (below_step hB_ hb); (try clear hb); (try clear hb2); (try clear hk); (try clear hi); have hz35 := cf6_ BK292.out))
       refine bodyPost_ret (results_ct rfl _ _ gb292 23 #[.int .i64 0, .int .i64 0, .int .i64 0, .int .i64 0, .int .i64 0, .bool false] (0, 0) _ rfl yactParseHandx10_3_ Tryz.underlying23 rfl (by kernel_rfl)) rfl ?_
       exact ⟨rT_, hB_⟩
     ·replace c20 := Bool.eq_false_iff.mpr c20
      subst c20
      replace H := in_ H (show ¬ (false = true) by decide)
      simp only [Option.some.injEq, Prod.mk.injEq] at H
      obtain ⟨rfl, rfl, rfl, rfl, rfl, rfl, rfl⟩ := H
      have hnb36 := NB294_292.out
      have hnc36 := NB292_294.out
      have hz37 := cf6_ BK294.out
      go_wp2_with (first | ((with_reducible refine gate_callee (f := 39) rfl ?_); refine goesM_ (some 28) Tryz.func39 #[.agg #[.int .i64 x295000_1, .int .i64 x295001_1, .int .i64 x295002_1, .int .i64 x295003_1, .int .i64 x295004_1, .bool ((a0.size : Int) == 6)]] ?_; (with_reducible refine (impl_IsShape.calls k1 x295000_1 x295001_1 x295002_1 x295003_1 x295004_1 ((a0.size : Int) == 6) false _ A19.out).mono ?_); rintro e w38 ⟨rfl, hb⟩; refine ⟨_, rfl, ?_⟩; replace BK292 := aM_ (blk_below (g := gb292) (kR_ BK292) hb); replace BK294 := aM_ (blk_below (g := gb294) (o := .cells #[.int .i64 x295000_1, .int .i64 x295001_1, .int .i64 x295002_1, .int .i64 x295003_1, .int .i64 x295004_1, .bool ((a0.size : Int) == 6)] 23 (0, 0)) yactParseHandx10_2_ hb); replace HB := aM_ (below_step hB_ hb); (try clear hb); (try clear hb2); (try clear hk); (try clear hi); clear BK294; have hz39 := cf6_ BK292.out))
      refine bodyPost_ret (results_ct rfl _ _ gb292 23 #[.int .i64 0, .int .i64 0, .int .i64 0, .int .i64 0, .int .i64 0, .bool false] (0, 0) _ rfl yactParseHandx10_3_ Tryz.underlying23 rfl (by kernel_rfl)) rfl ?_
      exact ⟨rT_, hB_⟩
 ·replace c3 := Bool.eq_false_iff.mpr c3
  subst c3
  replace H := in_ H (show ¬ (false = true) by decide)
  simp only [Option.some.injEq, Prod.mk.injEq] at H
  obtain ⟨rfl, rfl, rfl, rfl, rfl, rfl, rfl⟩ := H
  go_enter Tryz.func22, Tryz.ntmps22
  go_wp2_with (first | ((with_reducible refine gate_dst (N := 2) rfl ?_); refine box_event ?hg (N := 2) ?hd (cs := #[.int .i64 0, .int .i64 0, .int .i64 0, .int .i64 0, .int .i64 0, .bool false]) (t := 23) ?hr ?_; (case hd => rfl); (case hg => rfl); (case hr => first | (go_simp; done) | (go_simp; rfl)); intro gb292 hg w40 hbox hb; have BK292 := aM_ (hbox); have GW292 := aM_ (gw_ w hg); have GE292 := aM_ (gw_ w hg); replace HB := aM_ (below_step hB_ hb); clear hb hbox hg) | ((with_reducible refine gate_callee (f := 37) rfl ?_); refine goesM_ (some 8) Tryz.func37 #[.int .i64 (a0.size : Int), .int .i64 5, .int .i64 6] ?_; (with_reducible refine (impl_within.calls (a0.size : Int) 5 6 false _ A2.out).mono ?_); rintro e w' ⟨rfl, ⟨nd, rfl⟩⟩; refine ⟨_, rfl, ?_⟩; (try (rw [drewN_self w40]; generalize hq_ : World.drewN w40 _ = w40; have n0_ : Aside0 (w40.heap[gb292]? = some (.cells #[.int .i64 0, .int .i64 0, .int .i64 0, .int .i64 0, .int .i64 0, .bool false] 23 (0, 0))) := ⟨by rw [← hq_]; exact (by (with_reducible repeat (first | apply kN_ | apply kD_ | apply kA_)); exact BK292.out)⟩; have n1_ : Aside0 (Below w.heap.size w w40) := ⟨by rw [← hq_]; exact hB_⟩; clear BK292 HB hq_; have BK292 := n0_; have HB := n1_; clear n0_ n1_)); have hz41 := cf6_ BK292.out))
  refine bodyPost_ret (results_ct rfl _ _ gb292 23 #[.int .i64 0, .int .i64 0, .int .i64 0, .int .i64 0, .int .i64 0, .bool false] (0, 0) _ rfl yactParseHandx10_3_ Tryz.underlying23 rfl (by kernel_rfl)) rfl ?_
  exact ⟨rT_, hB_⟩

/-! ### stringslite_IndexByte: function 58, by hand -/
set_option maxHeartbeats 1000000 in
set_option maxRecDepth 100000 in
theorem stringslite_IndexByte.calls (a0 : ByteArray) (a1 : Int) (r : Int) (w : World) (h : stringslite_IndexByte.f a0 a1 = some r) :
 Calls Tryz.prog 58 #[.string a0, .int .u8 a1] w fun e w' => e = .returned (.int .i64 r) ∧ Drawn0 w w' := by
 obtain rfl := Option.some.inj h
 go_enter Tryz.func58, Tryz.ntmps58
 go_wp2
 rw [run_callFunc_extern Tryz.func73 (by kernel_rfl) (by kernel_rfl) (by kernel_rfl) (e := Extern.BytealgIndexByte.indexByte) (by kernel_rfl), Lib.run_indexByteString]
 simp only [Result.andThen]
 rw [Oper.upon_value]
 go_wp2
 go_ret
 exact ⟨rfl, Drawn0.refl _⟩

/-! ### strings_IndexByte: function 41 -/
set_option maxHeartbeats 8000000 in
set_option maxRecDepth 100000 in
theorem strings_IndexByte.calls (a0 : ByteArray) (a1 : Int) (r : Int) (w : World) (h : strings_IndexByte.f a0 a1 = some r) :
 Calls Tryz.prog 41 #[.string a0, .int .u8 a1] w fun e w' => e = .returned (.int .i64 r) ∧ Drawn0 w w' := by
 have H : ((stringslite_IndexByte.f a0 a1).bind fun t303 => (some t303)) = some r := h
 clear h
 replace H := Option.bind_eq_some_iff.mp H
 obtain ⟨t303, A30, H⟩ := H
 try dsimp only at H
 have A3 := Aside0.mk A30
 clear A30
 obtain rfl := Option.some.inj H
 go_enter Tryz.func41, Tryz.ntmps41
 go_wp2_with (first | ((with_reducible refine gate_callee (f := 58) rfl ?_); refine goesM_ (some 7) Tryz.func58 #[.string a0, .int .u8 a1] ?_; (with_reducible refine (stringslite_IndexByte.calls a0 a1 t303 _ A3.out).mono ?_); rintro e w' ⟨rfl, ⟨nd, rfl⟩⟩; refine ⟨_, rfl, ?_⟩))
 go_ret
 exact ⟨yactParseHandx10_0_, by repeat (first | exact Drawn0.refl _ | apply Drawn0.step)⟩

/-! ### impl_IsOrient: function 42 -/
set_option maxHeartbeats 8000000 in
set_option maxRecDepth 100000 in
theorem impl_IsOrient.calls (a0_0 : Int) (a0_1 : Int) (r : Bool) (w : World) (h : impl_IsOrient.f a0_0 a0_1 = some r) :
 Calls Tryz.prog 42 #[.agg #[.int .i64 a0_0, .int .i64 a0_1]] w fun e w' => e = .returned (.bool r) ∧ Below w.heap.size w w' := by
 have hu25 := Tryz.underlying25
 have HB := Aside0.mk (Below.refl w.heap.size w)
 have H : ((impl_within.f a0_0 0 5).bind fun t305 => (if t305 = true then ((impl_within.f a0_1 0 5).bind fun t306 => (if t306 = true then (some ((wrap64 (Int.tdiv a0_0 2)) != (wrap64 (Int.tdiv a0_1 2)))) else (some false))) else (some false))) = some r := h
 clear h
 replace H := Option.bind_eq_some_iff.mp H
 obtain ⟨t305, A20, H⟩ := H
 try dsimp only at H
 have A2 := Aside0.mk A20
 clear A20
 by_cases c3 : t305 = true
 ·subst c3
  replace H := ip_ H rfl
  replace H := Option.bind_eq_some_iff.mp H
  obtain ⟨t306, A40, H⟩ := H
  try dsimp only at H
  have A4 := Aside0.mk A40
  clear A40
  by_cases c5 : t306 = true
  ·subst c5
   replace H := ip_ H rfl
   obtain rfl := Option.some.inj H
   go_enter Tryz.func42, Tryz.ntmps42
   go_wp2_with (first | ((with_reducible refine gate_dst (N := 1) rfl ?_); refine box_event ?hg (N := 1) ?hd (cs := #[.int .i64 a0_0, .int .i64 a0_1]) (t := 25) ?hr ?_; (case hd => rfl); (case hg => rfl); (case hr => first | (go_simp; done) | (go_simp; rfl)); intro gb304 hg w6 hbox hb; have BK304 := aM_ (hbox); have GW304 := aM_ (gw_ w hg); have GE304 := aM_ (gw_ w hg); replace HB := aM_ (below_step hB_ hb); clear hb hbox hg; have hz7 := cf2_ BK304.out) | ((with_reducible refine gate_callee (f := 37) rfl ?_); refine goesM_ (some 5) Tryz.func37 #[.int .i64 a0_0, .int .i64 0, .int .i64 5] ?_; (with_reducible refine (impl_within.calls a0_0 0 5 true _ A2.out).mono ?_); rintro e w' ⟨rfl, ⟨nd, rfl⟩⟩; refine ⟨_, rfl, ?_⟩) | (go_at_call 37; (with_reducible refine (impl_within.calls a0_1 0 5 true _ A4.out).mono ?_); rintro e w' ⟨rfl, ⟨nd, rfl⟩⟩))
   go_ret
   exact ⟨rT_, hB_⟩
  ·replace c5 := Bool.eq_false_iff.mpr c5
   subst c5
   replace H := in_ H (show ¬ (false = true) by decide)
   obtain rfl := Option.some.inj H
   go_enter Tryz.func42, Tryz.ntmps42
   go_wp2_with (first | ((with_reducible refine gate_dst (N := 1) rfl ?_); refine box_event ?hg (N := 1) ?hd (cs := #[.int .i64 a0_0, .int .i64 a0_1]) (t := 25) ?hr ?_; (case hd => rfl); (case hg => rfl); (case hr => first | (go_simp; done) | (go_simp; rfl)); intro gb304 hg w8 hbox hb; have BK304 := aM_ (hbox); have GW304 := aM_ (gw_ w hg); have GE304 := aM_ (gw_ w hg); replace HB := aM_ (below_step hB_ hb); clear hb hbox hg; have hz9 := cf2_ BK304.out) | ((with_reducible refine gate_callee (f := 37) rfl ?_); refine goesM_ (some 5) Tryz.func37 #[.int .i64 a0_0, .int .i64 0, .int .i64 5] ?_; (with_reducible refine (impl_within.calls a0_0 0 5 true _ A2.out).mono ?_); rintro e w' ⟨rfl, ⟨nd, rfl⟩⟩; refine ⟨_, rfl, ?_⟩; clear BK304) | (go_at_call 37; (with_reducible refine (impl_within.calls a0_1 0 5 false _ A4.out).mono ?_); rintro e w' ⟨rfl, ⟨nd, rfl⟩⟩))
   go_ret
   exact ⟨rT_, hB_⟩
 ·replace c3 := Bool.eq_false_iff.mpr c3
  subst c3
  replace H := in_ H (show ¬ (false = true) by decide)
  obtain rfl := Option.some.inj H
  go_enter Tryz.func42, Tryz.ntmps42
  go_wp2_with (first | ((with_reducible refine gate_dst (N := 1) rfl ?_); refine box_event ?hg (N := 1) ?hd (cs := #[.int .i64 a0_0, .int .i64 a0_1]) (t := 25) ?hr ?_; (case hd => rfl); (case hg => rfl); (case hr => first | (go_simp; done) | (go_simp; rfl)); intro gb304 hg w10 hbox hb; have BK304 := aM_ (hbox); have GW304 := aM_ (gw_ w hg); have GE304 := aM_ (gw_ w hg); replace HB := aM_ (below_step hB_ hb); clear hb hbox hg; have hz11 := cf2_ BK304.out; clear BK304) | ((with_reducible refine gate_callee (f := 37) rfl ?_); refine goesM_ (some 5) Tryz.func37 #[.int .i64 a0_0, .int .i64 0, .int .i64 5] ?_; (with_reducible refine (impl_within.calls a0_0 0 5 false _ A2.out).mono ?_); rintro e w' ⟨rfl, ⟨nd, rfl⟩⟩; refine ⟨_, rfl, ?_⟩))
  go_ret
  exact ⟨rT_, hB_⟩

end Go.Proofs.YtcapebhnioblbaaGreatDoor.PFnExactParseHand
