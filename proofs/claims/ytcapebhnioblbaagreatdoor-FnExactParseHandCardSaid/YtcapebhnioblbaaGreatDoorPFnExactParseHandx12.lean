/- Written by a program of this claim's author, out of the loaded program as Lean prints it: the functions as Lean functions, and that the calls answer so. -/
import Derived.Test.YtcapebhnioblbaaGreatDoorPFnExactParseHandx0
import Derived.Test.YtcapebhnioblbaaGreatDoorPFnExactParseHandx8
import Derived.Test.YtcapebhnioblbaaGreatDoorPFnExactParseHandx10
import Derived.Test.YtcapebhnioblbaaGreatDoorPFnExactParseHandx11
import Derived.Test.YtcapebhnioblbaaGreatDoorPFnExactParseHandxD0
namespace Go.Proofs.YtcapebhnioblbaaGreatDoor.PFnExactParseHand
open Go.RowKit Go.Proofs.YtcapebhnioblbaaGreatDoorW.PrintWords Go.Proofs.YtcapebhnioblbaaGreatDoorW.PrintLast Go.Proofs.YtcapebhnioblbaaGreatDoorW.PrintMore
attribute [local go_sem] max2_int min2_int max_two min_two max_three min_three max_four min_four isSome_setCell   -- for this text's walks alone
set_option linter.unusedVariables false
set_option linter.unusedSimpArgs false

theorem yactParseHandx12_0_ {p : Prop} (h : p := by first | rfl | (simp; done) | (simp [*]; done)) : p := h
theorem yactParseHandx12_1_ {p : Prop} (h : p := by (with_reducible repeat (first | apply kN_ | apply kD_ | apply kA_)); refine blk_put (cs := #[.int .i64 t320, .int .i64 t321, .bool false]) ?_ 2 _ rfl; (with_reducible repeat (first | apply kN_ | apply kD_ | apply kA_)); refine blk_put (cs := #[.int .i64 t320, .int .i64 0, .bool false]) ?_ 1 _ rfl; (with_reducible repeat (first | apply kN_ | apply kD_ | apply kA_)); refine blk_put (cs := #[.int .i64 0, .int .i64 0, .bool false]) ?_ 0 _ rfl; (with_reducible repeat (first | apply kN_ | apply kD_ | apply kA_)); exact BK324.out) : p := h
theorem yactParseHandx12_2_ {p : Prop} (h : p := by repeat (first | exact Drawn0.refl _ | apply Drawn0.step)) : p := h
theorem yactParseHandx12_3_ {p : Prop} (h : p := by first | (with_reducible assumption) | assumption) : p := h
/-! ### impl_ParsePlace: function 24 -/
set_option maxHeartbeats 8000000 in
set_option maxRecDepth 100000 in
theorem impl_ParsePlace.calls (k : Nat) (a0 : ByteArray) (r1 : Int) (r2 : Int) (r3 : Bool) (r4 : Bool) (w : World) (h : impl_ParsePlace.f k a0 = some (r1, r2, r3, r4)) :
 Calls Tryz.prog 24 #[.string a0] w fun e w' => e = .returned (.tuple #[.agg #[.int .i64 r1, .int .i64 r2, .bool r3], .bool r4]) ∧ Below w.heap.size w w' := by
 have hu27 := Tryz.underlying27
 have HB := Aside0.mk (Below.refl w.heap.size w)
 have H : (impl_ParsePlace.l0 k a0 0) = some (r1, r2, r3, r4) := h
 clear h
 have H' := Aside0.mk H
 clear H
 go_enter Tryz.func24, Tryz.ntmps24
 go_wp2_with (first | ((with_reducible refine gate_dst (N := 2) rfl ?_); refine box_event ?hg (N := 2) ?hd (cs := #[.int .i64 0, .int .i64 0, .bool false]) (t := 27) ?hr ?_; (case hd => rfl); (case hg => rfl); (case hr => first | (go_simp; done) | (go_simp; rfl)); intro gb319 hg w2 hbox hb; have BK319 := aM_ (hbox); have GW319 := aM_ (gw_ w hg); have GE319 := aM_ (gw_ w hg); replace HB := aM_ (below_step hB_ hb); clear hb hbox hg))
 try simp only [Act.put, List.setIfInBounds_toArray, List.set_cons_zero, List.set_cons_succ]
 go_loopg [7] k (fun kq v7 w' => ∃ (x7_1 : Int) (x320000_1 : Int) (x320001_1 : Int) (x320002_1 : Bool), v7 = .int .i64 x7_1 ∧ Aside0 (impl_ParsePlace.l0 kq a0 x7_1 = some (r1, r2, r3, r4)) ∧ Aside0 (kq ≤ k) ∧ Aside0 (w'.heap[gb319]? = some (.cells #[.int .i64 x320000_1, .int .i64 x320001_1, .bool x320002_1] 27 (0, 0))) ∧ Aside0 (Below w.heap.size w w'))
 case atStart => exact ⟨(0), (0), (0), (false), yactParseHandx12_0_, H', ⟨Nat.le_refl _⟩, ⟨kP_⟩, ⟨hB_⟩⟩
 case round =>
  clear H'
  obtain ⟨x7_1, x320000_1, x320001_1, x320002_1, rfl, HA, HK1, BK319, HB⟩ := hrel
  cases gk with
  | zero => exact absurd HA.out (by simp [impl_ParsePlace.l0])
  | succ k1 =>
   have H := HA.out
   clear HA
   simp only [impl_ParsePlace.l0] at H
   by_cases c3 : x7_1 < 60
   ·rw [if_pos c3] at H
    have c3b0 : decide (x7_1 < 60) = true := decide_eq_true c3
    clear c3
    replace H := Option.bind_eq_some_iff.mp H
    obtain ⟨⟨t320, t321, t322, t323⟩, A40, H⟩ := H
    try dsimp only at H
    have A4 := Aside0.mk A40
    clear A40
    by_cases c5 : t323 = true
    ·subst c5
     replace H := ip_ H rfl
     replace H := Option.bind_eq_some_iff.mp H
     obtain ⟨t325, A60, H⟩ := H
     try dsimp only at H
     have A6 := Aside0.mk A60
     clear A60
     by_cases c7 : t325.toList = a0.toList
     ·rw [if_pos c7] at H
      have c7b0 : (t325.toList == a0.toList) = true := beq_iff_eq.mpr c7
      have c7b1 : (t325.toList != a0.toList) = false := bne_eq_false_iff_eq.mpr c7
      clear c7
      simp only [Option.some.injEq, Prod.mk.injEq] at H
      obtain ⟨rfl, rfl, rfl, rfl⟩ := H
      go_wp2_with (first | ((with_reducible refine gate_callee (f := 43) rfl ?_); refine goesM_ (some 12) Tryz.func43 #[.int .i64 x7_1] ?_; (with_reducible refine (impl_PlaceOfCode.calls x7_1 t320 t321 t322 true _ A4.out).mono ?_); rintro e w8 ⟨rfl, hb⟩; refine ⟨_, rfl, ?_⟩; replace BK319 := aM_ (blk_below (g := gb319) (kR_ BK319) hb); replace HB := aM_ (below_step hB_ hb); (try clear hb); (try clear hb2); (try clear hk); (try clear hi)) | ((with_reducible refine gate_dst (N := 5) rfl ?_); refine box_event ?hg (N := 5) ?hd (cs := #[.int .i64 0, .int .i64 0, .bool false]) (t := 27) ?hr ?_; (case hd => rfl); (case hg => rfl); (case hr => first | (go_simp; done) | (go_simp; rfl)); intro gb324 hg w9 hbox hb; have BK324 := aM_ (hbox); have GW324 := aM_ (gw_ w hg); have GE324 := aM_ (gw_ w hg); have NB319_324 := aM_ (nR_ BK319 hg); have NB324_319 := aM_ (mR_ BK319 hg); replace BK319 := aM_ (blk_below (g := gb319) (kR_ BK319) hb); replace HB := aM_ (below_step hB_ hb); clear hb hbox hg; have hnb10 := NB324_319.out; have hnc10 := NB319_324.out; have hz11 := cf3_ BK324.out) | (go_at_call 44; (with_reducible refine (impl_Place_text.calls t320 t321 t322 t325 _ A6.out).mono ?_); rintro e w12 ⟨rfl, hb⟩; replace BK319 := aM_ (blk_below (g := gb319) (kR_ BK319) hb); replace BK324 := aM_ (blk_below (g := gb324) (o := .cells #[.int .i64 t320, .int .i64 t321, .bool t322] 27 (0, 0)) yactParseHandx12_1_ hb); replace HB := aM_ (below_step hB_ hb); (try clear hb); (try clear hb2); (try clear hk); (try clear hi); have hz13 := cf3_ BK324.out; clear BK324; have hz14 := cf3_ BK319.out))
      refine bodyPost_ret (results_ct rfl _ _ gb319 27 #[.int .i64 t320, .int .i64 t321, .bool t322] (0, 0) _ rfl (by (with_reducible repeat (first | apply kN_ | apply kD_ | apply kA_)); refine blk_put (cs := #[.int .i64 t320, .int .i64 t321, .bool x320002_1]) ?_ 2 _ rfl; (with_reducible repeat (first | apply kN_ | apply kD_ | apply kA_)); refine blk_put (cs := #[.int .i64 t320, .int .i64 x320001_1, .bool x320002_1]) ?_ 1 _ rfl; (with_reducible repeat (first | apply kN_ | apply kD_ | apply kA_)); refine blk_put (cs := #[.int .i64 x320000_1, .int .i64 x320001_1, .bool x320002_1]) ?_ 0 _ rfl; (with_reducible repeat (first | apply kN_ | apply kD_ | apply kA_)); exact BK319.out) Tryz.underlying27 rfl (by kernel_rfl)) rfl ?_
      exact ⟨rT_, hB_⟩
     ·rw [if_neg c7] at H
      have c7b0 : (t325.toList == a0.toList) = false := beq_eq_false_iff_ne.mpr c7
      have c7b1 : (t325.toList != a0.toList) = true := bne_iff_ne.mpr c7
      have H' := Aside0.mk H
      clear H
      go_wp2_with (first | ((with_reducible refine gate_callee (f := 43) rfl ?_); refine goesM_ (some 12) Tryz.func43 #[.int .i64 x7_1] ?_; (with_reducible refine (impl_PlaceOfCode.calls x7_1 t320 t321 t322 true _ A4.out).mono ?_); rintro e w15 ⟨rfl, hb⟩; refine ⟨_, rfl, ?_⟩; replace BK319 := aM_ (blk_below (g := gb319) (kR_ BK319) hb); replace HB := aM_ (below_step hB_ hb); (try clear hb); (try clear hb2); (try clear hk); (try clear hi)) | ((with_reducible refine gate_dst (N := 5) rfl ?_); refine box_event ?hg (N := 5) ?hd (cs := #[.int .i64 0, .int .i64 0, .bool false]) (t := 27) ?hr ?_; (case hd => rfl); (case hg => rfl); (case hr => first | (go_simp; done) | (go_simp; rfl)); intro gb324 hg w16 hbox hb; have BK324 := aM_ (hbox); have GW324 := aM_ (gw_ w hg); have GE324 := aM_ (gw_ w hg); have NB319_324 := aM_ (nR_ BK319 hg); have NB324_319 := aM_ (mR_ BK319 hg); replace BK319 := aM_ (blk_below (g := gb319) (kR_ BK319) hb); replace HB := aM_ (below_step hB_ hb); clear hb hbox hg; have hnb17 := NB324_319.out; have hnc17 := NB319_324.out; have hz18 := cf3_ BK324.out) | (go_at_call 44; (with_reducible refine (impl_Place_text.calls t320 t321 t322 t325 _ A6.out).mono ?_); rintro e w19 ⟨rfl, hb⟩; replace BK319 := aM_ (blk_below (g := gb319) (kR_ BK319) hb); replace BK324 := aM_ (blk_below (g := gb324) (o := .cells #[.int .i64 t320, .int .i64 t321, .bool t322] 27 (0, 0)) yactParseHandx12_1_ hb); replace HB := aM_ (below_step hB_ hb); (try clear hb); (try clear hb2); (try clear hk); (try clear hi)))
      go_roundg k1
      case measure => have := HK1.out; omega
      case rel => exact ⟨(wrap64 (x7_1 + 1)), (x320000_1), (x320001_1), (x320002_1), yactParseHandx12_0_, H', ⟨by have := HK1.out; omega⟩, ⟨kP_⟩, ⟨hB_⟩⟩
    ·replace c5 := Bool.eq_false_iff.mpr c5
     subst c5
     replace H := in_ H (show ¬ (false = true) by decide)
     have H' := Aside0.mk H
     clear H
     go_wp2_with (first | ((with_reducible refine gate_callee (f := 43) rfl ?_); refine goesM_ (some 12) Tryz.func43 #[.int .i64 x7_1] ?_; (with_reducible refine (impl_PlaceOfCode.calls x7_1 t320 t321 t322 false _ A4.out).mono ?_); rintro e w20 ⟨rfl, hb⟩; refine ⟨_, rfl, ?_⟩; replace BK319 := aM_ (blk_below (g := gb319) (kR_ BK319) hb); replace HB := aM_ (below_step hB_ hb); (try clear hb); (try clear hb2); (try clear hk); (try clear hi)) | ((with_reducible refine gate_dst (N := 5) rfl ?_); refine box_event ?hg (N := 5) ?hd (cs := #[.int .i64 0, .int .i64 0, .bool false]) (t := 27) ?hr ?_; (case hd => rfl); (case hg => rfl); (case hr => first | (go_simp; done) | (go_simp; rfl)); intro gb324 hg w21 hbox hb; have BK324 := aM_ (hbox); have GW324 := aM_ (gw_ w hg); have GE324 := aM_ (gw_ w hg); have NB319_324 := aM_ (nR_ BK319 hg); have NB324_319 := aM_ (mR_ BK319 hg); replace BK319 := aM_ (blk_below (g := gb319) (kR_ BK319) hb); replace HB := aM_ (below_step hB_ hb); clear hb hbox hg; have hnb22 := NB324_319.out; have hnc22 := NB319_324.out; have hz23 := cf3_ BK324.out))
     go_roundg k1
     case measure => have := HK1.out; omega
     case rel => exact ⟨(wrap64 (x7_1 + 1)), (x320000_1), (x320001_1), (x320002_1), yactParseHandx12_0_, H', ⟨by have := HK1.out; omega⟩, ⟨by (with_reducible repeat (first | apply kN_ | apply kD_ | apply kA_)); refine blk_far ?_ NB319_324.out _; (with_reducible repeat (first | apply kN_ | apply kD_ | apply kA_)); refine blk_far ?_ NB319_324.out _; (with_reducible repeat (first | apply kN_ | apply kD_ | apply kA_)); refine blk_far ?_ NB319_324.out _; (with_reducible repeat (first | apply kN_ | apply kD_ | apply kA_)); exact BK319.out⟩, ⟨hB_⟩⟩
   ·rw [if_neg c3] at H
    have c3b0 : decide (x7_1 < 60) = false := decide_eq_false c3
    clear c3
    simp only [Option.some.injEq, Prod.mk.injEq] at H
    obtain ⟨rfl, rfl, rfl, rfl⟩ := H
    have hz24 := cf3_ BK319.out
    go_wp2
    refine bodyPost_ret (results_ct rfl _ _ gb319 27 #[.int .i64 0, .int .i64 0, .bool false] (0, 0) _ rfl (by (with_reducible repeat (first | apply kN_ | apply kD_ | apply kA_)); refine blk_put (cs := #[.int .i64 0, .int .i64 0, .bool x320002_1]) ?_ 2 _ rfl; (with_reducible repeat (first | apply kN_ | apply kD_ | apply kA_)); refine blk_put (cs := #[.int .i64 0, .int .i64 x320001_1, .bool x320002_1]) ?_ 1 _ rfl; (with_reducible repeat (first | apply kN_ | apply kD_ | apply kA_)); refine blk_put (cs := #[.int .i64 x320000_1, .int .i64 x320001_1, .bool x320002_1]) ?_ 0 _ rfl; (with_reducible repeat (first | apply kN_ | apply kD_ | apply kA_)); exact BK319.out) Tryz.underlying27 rfl (by kernel_rfl)) rfl ?_
    exact ⟨rT_, hB_⟩

/-! ### stringslite_Cut: function 69 -/
set_option maxHeartbeats 8000000 in
set_option maxRecDepth 100000 in
theorem stringslite_Cut.calls (a0 : ByteArray) (a1 : ByteArray) (r1 : ByteArray) (r2 : ByteArray) (r3 : Bool) (w : World) (h : stringslite_Cut.f a0 a1 = some (r1, r2, r3)) :
 Calls Tryz.prog 69 #[.string a0, .string a1] w fun e w' => e = .returned (.tuple #[.string r1, .string r2, .bool r3]) ∧ Drawn0 w w' := by
 have H : ((stringslite_Index.f a0 a1).bind fun t326 => (if t326 ≥ 0 then (if 0 ≤ t326 then (if t326 ≤ (a0.size : Int) then (if 0 ≤ (wrap64 (t326 + (a1.size : Int))) then (if (wrap64 (t326 + (a1.size : Int))) ≤ (a0.size : Int) then (some (a0.extract 0 (t326 : Int).toNat, a0.extract ((wrap64 (t326 + (a1.size : Int))) : Int).toNat a0.size, true)) else (none)) else (none)) else (none)) else (none)) else (some (a0, (⟨#[]⟩ : ByteArray), false)))) = some (r1, r2, r3) := h
 clear h
 replace H := Option.bind_eq_some_iff.mp H
 obtain ⟨t326, A30, H⟩ := H
 try dsimp only at H
 have A3 := Aside0.mk A30
 clear A30
 by_cases c4 : t326 ≥ 0
 ·rw [if_pos c4] at H
  have c4b0 : decide (0 ≤ t326) = true := decide_eq_true c4
  clear c4
  by_cases c5 : 0 ≤ t326
  ·rw [if_pos c5] at H
   have c5b0 := eq_true c5
   have c5b1 : decide (0 ≤ t326) = true := decide_eq_true c5
   clear c5
   by_cases c6 : t326 ≤ (a0.size : Int)
   ·rw [if_pos c6] at H
    have c6b0 := eq_true c6
    have c6b1 : decide (t326 ≤ (a0.size : Int)) = true := decide_eq_true c6
    clear c6
    obtain ⟨ji7, hji7⟩ : ∃ j_ : Int, (wrap64 (t326 + (a1.size : Int))) = j_ := ⟨_, rfl⟩
    replace H : (if 0 ≤ (ji7) then (if (ji7) ≤ (a0.size : Int) then (some (a0.extract 0 (t326 : Int).toNat, a0.extract ((ji7) : Int).toNat a0.size, true)) else (none)) else (none)) = some (r1, r2, r3) := by first | (rw [hji7] at H; exact H) | (simp only [hji7] at H ⊢; exact H)
    (try rw [hji7] at A3)
    have hji7w : (IntKind.i64.wrap (t326 + (a1.size : Int))) = ji7 := (i64_w _).trans hji7
    by_cases c8 : 0 ≤ (ji7)
    ·rw [if_pos c8] at H
     have c8b0 := eq_true c8
     have c8b1 : decide (0 ≤ (ji7)) = true := decide_eq_true c8
     clear c8
     by_cases c9 : (ji7) ≤ (a0.size : Int)
     ·rw [if_pos c9] at H
      have c9b0 := eq_true c9
      have c9b1 : decide ((ji7) ≤ (a0.size : Int)) = true := decide_eq_true c9
      clear c9
      simp only [Option.some.injEq, Prod.mk.injEq] at H
      obtain ⟨rfl, rfl, rfl⟩ := H
      go_enter Tryz.func69, Tryz.ntmps69
      go_wp2_with (first | (go_at_call 35; (with_reducible refine (stringslite_Index.calls a0 a1 t326 _ A3.out).mono ?_); rintro e w' ⟨rfl, ⟨nd, rfl⟩⟩; (try first | exact ⟨rfl, _, World.drewN_drewN _ _ _⟩ | exact ⟨rfl, _, Eq.trans (World.drewN_drewN _ _ _) (congrArg (World.drewN _) (Nat.add_assoc _ _ _))⟩)) | (go_quiet (first | (go_at_call 35; (with_reducible refine (stringslite_Index.calls a0 a1 t326 _ A3.out).mono ?_); rintro e w' ⟨rfl, ⟨nd, rfl⟩⟩; (try first | exact ⟨rfl, _, World.drewN_drewN _ _ _⟩ | exact ⟨rfl, _, Eq.trans (World.drewN_drewN _ _ _) (congrArg (World.drewN _) (Nat.add_assoc _ _ _))⟩)))))
      go_ret3
      exact ⟨by first | rfl | (simp; done) | (simp only [← hji7] <;> (first | rfl | simp)) | (simp [*]; done), yactParseHandx12_2_⟩
     ·rw [if_neg c9] at H
      exact absurd H (by simp)
    ·rw [if_neg c8] at H
     exact absurd H (by simp)
   ·rw [if_neg c6] at H
    exact absurd H (by simp)
  ·rw [if_neg c5] at H
   exact absurd H (by simp)
 ·rw [if_neg c4] at H
  have c4b0 : decide (0 ≤ t326) = false := decide_eq_false c4
  clear c4
  simp only [Option.some.injEq, Prod.mk.injEq] at H
  obtain ⟨rfl, rfl, rfl⟩ := H
  go_enter Tryz.func69, Tryz.ntmps69
  go_wp2_with (first | (go_at_call 35; (with_reducible refine (stringslite_Index.calls a0 a1 t326 _ A3.out).mono ?_); rintro e w' ⟨rfl, ⟨nd, rfl⟩⟩; (try first | exact ⟨rfl, _, World.drewN_drewN _ _ _⟩ | exact ⟨rfl, _, Eq.trans (World.drewN_drewN _ _ _) (congrArg (World.drewN _) (Nat.add_assoc _ _ _))⟩)) | (go_quiet (first | (go_at_call 35; (with_reducible refine (stringslite_Index.calls a0 a1 t326 _ A3.out).mono ?_); rintro e w' ⟨rfl, ⟨nd, rfl⟩⟩; (try first | exact ⟨rfl, _, World.drewN_drewN _ _ _⟩ | exact ⟨rfl, _, Eq.trans (World.drewN_drewN _ _ _) (congrArg (World.drewN _) (Nat.add_assoc _ _ _))⟩)))))
  go_ret3
  exact ⟨yactParseHandx12_0_, yactParseHandx12_2_⟩

/-! ### strings_Cut: function 45 -/
set_option maxHeartbeats 8000000 in
set_option maxRecDepth 100000 in
theorem strings_Cut.calls (a0 : ByteArray) (a1 : ByteArray) (r1 : ByteArray) (r2 : ByteArray) (r3 : Bool) (w : World) (h : strings_Cut.f a0 a1 = some (r1, r2, r3)) :
 Calls Tryz.prog 45 #[.string a0, .string a1] w fun e w' => e = .returned (.tuple #[.string r1, .string r2, .bool r3]) ∧ Drawn0 w w' := by
 have H : ((stringslite_Cut.f a0 a1).bind fun bt327 => (some (bt327.1, bt327.2.1, bt327.2.2))) = some (r1, r2, r3) := h
 clear h
 replace H := Option.bind_eq_some_iff.mp H
 obtain ⟨⟨t327, t328, t329⟩, A30, H⟩ := H
 try dsimp only at H
 have A3 := Aside0.mk A30
 clear A30
 simp only [Option.some.injEq, Prod.mk.injEq] at H
 obtain ⟨rfl, rfl, rfl⟩ := H
 go_enter Tryz.func45, Tryz.ntmps45
 go_wp2_with (first | ((with_reducible refine gate_callee (f := 69) rfl ?_); refine goesM_ (some 9) Tryz.func69 #[.string a0, .string a1] ?_; (with_reducible refine (stringslite_Cut.calls a0 a1 t327 t328 t329 _ A3.out).mono ?_); rintro e w' ⟨rfl, ⟨nd, rfl⟩⟩; refine ⟨_, rfl, ?_⟩))
 go_ret3
 exact ⟨yactParseHandx12_0_, yactParseHandx12_2_⟩

/-! ### impl_decimal: function 46, by hand -/
open Go.Shelf Go.RowKit Go.Sort Go.Lib in
def laid_laysC172_ren : Go.Shelf.Ren := ⟨fun | 172 => 70 | 244 => 81 | 245 => 82 | 247 => 87 | 279 => 88 | 280 => 89 | 281 => 90 | 282 => 91 | 287 => 96 | 316 => 97 | 171 => 67 | 205 => 98 | 321 => 104 | 322 => 105 | 243 => 80 | 246 => 86 | 283 => 92 | 284 => 93 | 285 => 94 | 286 => 95 | 129 => 100 | 317 => 99 | 318 => 101 | 319 => 102 | 320 => 103 | 337 => 106 | 338 => 107 | n => n, fun | 9 => 9 | 3 => 3 | 75 => 91 | 76 => 92 | 4 => 4 | 5 => 5 | 167 => 104 | 37 => 94 | 0 => 0 | 85 => 105 | 2 => 2 | 168 => 107 | 53 => 115 | 175 => 120 | 46 => 84 | 210 => 124 | 127 => 131 | 145 => 134 | 143 => 132 | 21 => 21 | 171 => 114 | 173 => 118 | 212 => 127 | 51 => 95 | 20 => 20 | 213 => 128 | 232 => 136 | 233 => 137 | 80 => 69 | n => n, fun | 15 => 3 | 16 => 4 | 17 => 5 | 18 => 6 | 19 => 7 | n => n⟩
open Go.Shelf Go.RowKit Go.Sort Go.Lib in
theorem laid_laysC172 : Go.Proofs.LaysC.n172 Tryz.prog laid_laysC172_ren := {
 mixed := by kernel_rfl
 f129 := Tryz.func100.trans (congrArg some (by kernel_rfl))
 f171 := Tryz.func67.trans (congrArg some (by kernel_rfl))
 f172 := Tryz.func70.trans (congrArg some (by kernel_rfl))
 f205 := Tryz.func98.trans (congrArg some (by kernel_rfl))
 f243 := Tryz.func80.trans (congrArg some (by kernel_rfl))
 f244 := Tryz.func81.trans (congrArg some (by kernel_rfl))
 f245 := Tryz.func82.trans (congrArg some (by kernel_rfl))
 f246 := Tryz.func86.trans (congrArg some (by kernel_rfl))
 f247 := Tryz.func87.trans (congrArg some (by kernel_rfl))
 f279 := Tryz.func88.trans (congrArg some (by kernel_rfl))
 f280 := Tryz.func89.trans (congrArg some (by kernel_rfl))
 f281 := Tryz.func90.trans (congrArg some (by kernel_rfl))
 f282 := Tryz.func91.trans (congrArg some (by kernel_rfl))
 f283 := Tryz.func92.trans (congrArg some (by kernel_rfl))
 f284 := Tryz.func93.trans (congrArg some (by kernel_rfl))
 f285 := Tryz.func94.trans (congrArg some (by kernel_rfl))
 f286 := Tryz.func95.trans (congrArg some (by kernel_rfl))
 f287 := Tryz.func96.trans (congrArg some (by kernel_rfl))
 f316 := Tryz.func97.trans (congrArg some (by kernel_rfl))
 f317 := Tryz.func99.trans (congrArg some (by kernel_rfl))
 f318 := Tryz.func101.trans (congrArg some (by kernel_rfl))
 f319 := Tryz.func102.trans (congrArg some (by kernel_rfl))
 f320 := Tryz.func103.trans (congrArg some (by kernel_rfl))
 f321 := Tryz.func104.trans (congrArg some (by kernel_rfl))
 f322 := Tryz.func105.trans (congrArg some (by kernel_rfl))
 f337 := Tryz.func106.trans (congrArg some (by kernel_rfl))
 f338 := Tryz.func107.trans (congrArg some (by kernel_rfl))
 t0 := Tryz.underlying0
 a0 := Tryz.isAgg0
 z0 := Tryz.sizeOf0
 v0 := Tryz.zeroValue0
 t2 := Tryz.underlying2
 a2 := Tryz.isAgg2
 z2 := Tryz.sizeOf2
 v2 := Tryz.zeroValue2
 t3 := Tryz.underlying3
 a3 := Tryz.isAgg3
 z3 := Tryz.sizeOf3
 v3 := Tryz.zeroValue3
 t4 := Tryz.underlying4
 a4 := Tryz.isAgg4
 z4 := Tryz.sizeOf4
 v4 := Tryz.zeroValue4
 t5 := Tryz.underlying5
 a5 := Tryz.isAgg5
 z5 := Tryz.sizeOf5
 v5 := Tryz.zeroValue5
 t9 := Tryz.underlying9
 a9 := Tryz.isAgg9
 z9 := Tryz.sizeOf9
 v9 := Tryz.zeroValue9
 t20 := Tryz.underlying20
 a20 := Tryz.isAgg20
 z20 := Tryz.sizeOf20
 v20 := Tryz.zeroValue20
 t21 := Tryz.underlying21
 a21 := Tryz.isAgg21
 z21 := Tryz.sizeOf21
 v21 := Tryz.zeroValue21
 t37 := Tryz.underlying94
 a37 := Tryz.isAgg94
 z37 := Tryz.sizeOf94
 v37 := Tryz.zeroValue94
 t46 := Tryz.underlying84
 a46 := Tryz.isAgg84
 z46 := Tryz.sizeOf84
 v46 := Tryz.zeroValue84
 t51 := Tryz.underlying95
 a51 := Tryz.isAgg95
 z51 := Tryz.sizeOf95
 v51 := Tryz.zeroValue95
 t53 := Tryz.underlying115
 a53 := Tryz.isAgg115
 z53 := Tryz.sizeOf115
 v53 := Tryz.zeroValue115
 t75 := Tryz.underlying91
 a75 := Tryz.isAgg91
 z75 := Tryz.sizeOf91
 v75 := Tryz.zeroValue91
 t76 := Tryz.underlying92
 a76 := Tryz.isAgg92
 z76 := Tryz.sizeOf92
 v76 := Tryz.zeroValue92
 t85 := Tryz.underlying105
 a85 := Tryz.isAgg105
 z85 := Tryz.sizeOf105
 v85 := Tryz.zeroValue105
 t127 := Tryz.underlying131
 a127 := Tryz.isAgg131
 z127 := Tryz.sizeOf131
 v127 := Tryz.zeroValue131
 t143 := Tryz.underlying132
 a143 := Tryz.isAgg132
 z143 := Tryz.sizeOf132
 v143 := Tryz.zeroValue132
 t145 := Tryz.underlying134
 a145 := Tryz.isAgg134
 z145 := Tryz.sizeOf134
 v145 := Tryz.zeroValue134
 t167 := Tryz.underlying104
 a167 := Tryz.isAgg104
 z167 := Tryz.sizeOf104
 v167 := Tryz.zeroValue104
 t168 := Tryz.underlying107
 a168 := Tryz.isAgg107
 z168 := Tryz.sizeOf107
 v168 := Tryz.zeroValue107
 t171 := Tryz.underlying114
 a171 := Tryz.isAgg114
 z171 := Tryz.sizeOf114
 v171 := Tryz.zeroValue114
 t173 := Tryz.underlying118
 a173 := Tryz.isAgg118
 z173 := Tryz.sizeOf118
 v173 := Tryz.zeroValue118
 t175 := Tryz.underlying120
 a175 := Tryz.isAgg120
 z175 := Tryz.sizeOf120
 v175 := Tryz.zeroValue120
 t210 := Tryz.underlying124
 a210 := Tryz.isAgg124
 z210 := Tryz.sizeOf124
 v210 := Tryz.zeroValue124
 t212 := Tryz.underlying127
 a212 := Tryz.isAgg127
 z212 := Tryz.sizeOf127
 v212 := Tryz.zeroValue127
 t213 := Tryz.underlying128
 a213 := Tryz.isAgg128
 z213 := Tryz.sizeOf128
 t232 := Tryz.underlying136
 a232 := Tryz.isAgg136
 z232 := Tryz.sizeOf136
 v232 := Tryz.zeroValue136
 t233 := Tryz.underlying137
 a233 := Tryz.isAgg137
 z233 := Tryz.sizeOf137
 v233 := Tryz.zeroValue137
 g15 := by kernel_rfl
 g16 := by kernel_rfl
 g17 := by kernel_rfl
 g18 := by kernel_rfl
 g19 := by kernel_rfl
 t80 := Tryz.underlying69
 a80 := Tryz.isAgg69
 z80 := Tryz.sizeOf69
 v80 := Tryz.zeroValue69
 i0 := by kernel_rfl
 i2 := by kernel_rfl
 i3 := by kernel_rfl
 i4 := by kernel_rfl
 i5 := by kernel_rfl
 i9 := by kernel_rfl
 i20 := by kernel_rfl
 i21 := by kernel_rfl
 i37 := by kernel_rfl
 i46 := by kernel_rfl
 i51 := by kernel_rfl
 i53 := by kernel_rfl
 i75 := by kernel_rfl
 i76 := by kernel_rfl
 i80 := by kernel_rfl
 i85 := by kernel_rfl
 i127 := by kernel_rfl
 i143 := by kernel_rfl
 i145 := by kernel_rfl
 i167 := by kernel_rfl
 i168 := by kernel_rfl
 i171 := by kernel_rfl
 i173 := by kernel_rfl
 i175 := by kernel_rfl
 i210 := by kernel_rfl
 i212 := by kernel_rfl
 i232 := by kernel_rfl
 i233 := by kernel_rfl
 m15 := by kernel_rfl
 m16 := by kernel_rfl
 m17 := by kernel_rfl
 m18 := by kernel_rfl
 m19 := by kernel_rfl
 c0 := by kernel_rfl
 c2 := by kernel_rfl
 c3 := by kernel_rfl
 c4 := by kernel_rfl
 c5 := by kernel_rfl
 c9 := by kernel_rfl
 c20 := by kernel_rfl
 c21 := by kernel_rfl
 c37 := by kernel_rfl
 c46 := by kernel_rfl
 c51 := by kernel_rfl
 c53 := by kernel_rfl
 c75 := by kernel_rfl
 c76 := by kernel_rfl
 c80 := by kernel_rfl
 c85 := by kernel_rfl
 c127 := by kernel_rfl
 c143 := by kernel_rfl
 c145 := by kernel_rfl
 c167 := by kernel_rfl
 c168 := by kernel_rfl
 c171 := by kernel_rfl
 c173 := by kernel_rfl
 c175 := by kernel_rfl
 c210 := by kernel_rfl
 c212 := by kernel_rfl
 c213 := by kernel_rfl
 c232 := by kernel_rfl
 c233 := by kernel_rfl }
open Go.Shelf Go.RowKit Go.Sort Go.Lib in
def laid_laysM171_ren : Go.Shelf.Ren := ⟨fun | 171 => 67 | 243 => 80 | 246 => 86 | 283 => 92 | 284 => 93 | 285 => 94 | 286 => 95 | 129 => 100 | 317 => 99 | 318 => 101 | 319 => 102 | 320 => 103 | 337 => 106 | 338 => 107 | n => n, fun | 3 => 3 | 9 => 9 | 2 => 2 | 4 => 4 | 171 => 114 | 0 => 0 | 53 => 115 | 37 => 94 | 5 => 5 | 173 => 118 | 212 => 127 | 51 => 95 | 20 => 20 | 213 => 128 | 46 => 84 | 232 => 136 | 233 => 137 | n => n, fun | 17 => 5 | 18 => 6 | 19 => 7 | n => n⟩
open Go.Shelf Go.RowKit Go.Sort Go.Lib in
theorem laid_laysM171 : Go.Proofs.LaysM.n171 Tryz.prog laid_laysM171_ren := {
 mixed := by kernel_rfl
 f129 := Tryz.func100.trans (congrArg some (by kernel_rfl))
 f171 := Tryz.func67.trans (congrArg some (by kernel_rfl))
 f243 := Tryz.func80.trans (congrArg some (by kernel_rfl))
 f246 := Tryz.func86.trans (congrArg some (by kernel_rfl))
 f283 := Tryz.func92.trans (congrArg some (by kernel_rfl))
 f284 := Tryz.func93.trans (congrArg some (by kernel_rfl))
 f285 := Tryz.func94.trans (congrArg some (by kernel_rfl))
 f286 := Tryz.func95.trans (congrArg some (by kernel_rfl))
 f317 := Tryz.func99.trans (congrArg some (by kernel_rfl))
 f318 := Tryz.func101.trans (congrArg some (by kernel_rfl))
 f319 := Tryz.func102.trans (congrArg some (by kernel_rfl))
 f320 := Tryz.func103.trans (congrArg some (by kernel_rfl))
 f337 := Tryz.func106.trans (congrArg some (by kernel_rfl))
 f338 := Tryz.func107.trans (congrArg some (by kernel_rfl))
 t0 := Tryz.underlying0
 a0 := Tryz.isAgg0
 z0 := Tryz.sizeOf0
 v0 := Tryz.zeroValue0
 t2 := Tryz.underlying2
 a2 := Tryz.isAgg2
 z2 := Tryz.sizeOf2
 v2 := Tryz.zeroValue2
 t3 := Tryz.underlying3
 a3 := Tryz.isAgg3
 z3 := Tryz.sizeOf3
 v3 := Tryz.zeroValue3
 t4 := Tryz.underlying4
 a4 := Tryz.isAgg4
 z4 := Tryz.sizeOf4
 v4 := Tryz.zeroValue4
 t5 := Tryz.underlying5
 a5 := Tryz.isAgg5
 z5 := Tryz.sizeOf5
 v5 := Tryz.zeroValue5
 t9 := Tryz.underlying9
 a9 := Tryz.isAgg9
 z9 := Tryz.sizeOf9
 v9 := Tryz.zeroValue9
 t20 := Tryz.underlying20
 a20 := Tryz.isAgg20
 z20 := Tryz.sizeOf20
 v20 := Tryz.zeroValue20
 t37 := Tryz.underlying94
 a37 := Tryz.isAgg94
 z37 := Tryz.sizeOf94
 v37 := Tryz.zeroValue94
 t46 := Tryz.underlying84
 a46 := Tryz.isAgg84
 z46 := Tryz.sizeOf84
 v46 := Tryz.zeroValue84
 t51 := Tryz.underlying95
 a51 := Tryz.isAgg95
 z51 := Tryz.sizeOf95
 v51 := Tryz.zeroValue95
 t53 := Tryz.underlying115
 a53 := Tryz.isAgg115
 z53 := Tryz.sizeOf115
 v53 := Tryz.zeroValue115
 t171 := Tryz.underlying114
 a171 := Tryz.isAgg114
 z171 := Tryz.sizeOf114
 v171 := Tryz.zeroValue114
 t173 := Tryz.underlying118
 a173 := Tryz.isAgg118
 z173 := Tryz.sizeOf118
 v173 := Tryz.zeroValue118
 t212 := Tryz.underlying127
 a212 := Tryz.isAgg127
 z212 := Tryz.sizeOf127
 v212 := Tryz.zeroValue127
 t213 := Tryz.underlying128
 a213 := Tryz.isAgg128
 z213 := Tryz.sizeOf128
 t232 := Tryz.underlying136
 a232 := Tryz.isAgg136
 z232 := Tryz.sizeOf136
 v232 := Tryz.zeroValue136
 t233 := Tryz.underlying137
 a233 := Tryz.isAgg137
 z233 := Tryz.sizeOf137
 v233 := Tryz.zeroValue137
 g17 := by kernel_rfl
 g18 := by kernel_rfl
 g19 := by kernel_rfl
 i0 := by kernel_rfl
 i2 := by kernel_rfl
 i3 := by kernel_rfl
 i4 := by kernel_rfl
 i5 := by kernel_rfl
 i9 := by kernel_rfl
 i20 := by kernel_rfl
 i37 := by kernel_rfl
 i46 := by kernel_rfl
 i51 := by kernel_rfl
 i53 := by kernel_rfl
 i171 := by kernel_rfl
 i173 := by kernel_rfl
 i212 := by kernel_rfl
 i232 := by kernel_rfl
 i233 := by kernel_rfl
 m17 := by kernel_rfl
 m18 := by kernel_rfl
 m19 := by kernel_rfl }
set_option maxHeartbeats 1000000 in
set_option maxRecDepth 100000 in
theorem impl_decimal.calls (a0 : ByteArray) (r1 : Int) (r2 : Bool) (w : World) (hT_ : TabW Tryz.prog 1 w) (h : impl_decimal.f a0 = some (r1, r2)) :
 Calls Tryz.prog 46 #[.string a0] w fun e w' => e = .returned (.tuple #[.int .i64 r1, .bool r2]) ∧ Below w.heap.size w w' := by
 unfold impl_decimal.f at h
 split at h
 case isFalse => cases h
 case isTrue hl =>
  have h' := Option.some.inj h
  clear h
  have HT := Aside0.mk hT_
  clear hT_
  cases hA : Lib.atoiAll a0.data.toList with
  | ok v =>
   rw [hA] at h'
   have hv := Lib.atoiAll_bounds hA
   have C1 : ∀ W : World, Calls Tryz.prog 70 #[.string a0] W fun e w' => e = .returned (.tuple #[.int .i64 v, .nilIface]) ∧ Below W.heap.size W w' := fun W => (Any.strconv_Atoi_ok laid_laysC172 a0 (by omega) v hA W).mono fun _ _ ⟨he, hw⟩ => ⟨he, hw.elim (fun e => by subst e; exact Below.refl _ _) (fun ⟨t, e⟩ => by subst e; exact Lib.bytesWorld_below _ _ t)⟩
   have C2 : ∀ W : World, Below w.heap.size w W → Calls Tryz.prog 67 #[.int .i64 v] W fun e w' => e = .returned (.string ⟨(Lib.itoa v).toArray⟩) ∧ Below W.heap.size W w' := fun W hb => itoa_tab (fun ht => Any.strconv_Itoa laid_laysM171 v hv.1 hv.2 W ht) ((HT.out.weak (by decide : 0 ≤ 1)).below hb)
   have K1 := Aside0.mk C1
   have K2 := Aside0.mk C2
   have H := Aside0.mk h'
   clear C1 C2 h' hA
   go_enter Tryz.func46, Tryz.ntmps46
   go_wp2_with (first | (go_at_call 70; refine (K1.out _).mono ?_; rintro e w1 ⟨rfl, hb1⟩) | (go_at_call 67; refine (K2.out _ hb1).mono ?_; rintro e w2 ⟨rfl, hb2⟩))
   ·rename_i hc
    have hne : ¬ Lib.itoa v = a0.data.toList := by
     rw [ByteArray.toList_eq] at hc
     simpa using hc
    have h2 := H.out
    rw [if_neg hne] at h2
    simp only [Prod.mk.injEq] at h2
    obtain ⟨rfl, rfl⟩ := h2
    go_ret2
    exact ⟨rfl, below_then hb1 hb1.size hb2⟩
   ·rename_i hc
    have hne : Lib.itoa v = a0.data.toList := by
     rw [ByteArray.toList_eq] at hc
     simpa using hc
    have h2 := H.out
    rw [if_pos hne] at h2
    simp only [Prod.mk.injEq] at h2
    obtain ⟨rfl, rfl⟩ := h2
    go_ret2
    exact ⟨rfl, below_then hb1 hb1.size hb2⟩
  | «syntax» =>
   rw [hA] at h'
   simp only [Prod.mk.injEq] at h'
   obtain ⟨rfl, rfl⟩ := h'
   obtain ⟨tp, p, hv⟩ := HT.out.syn (by decide)
   have K1 := Aside0.mk ((Any.strconv_Atoi_syntax_var laid_laysC172 a0 hl hA tp p w hv).mono (R' := fun e w' => ∃ N, e = .returned (.tuple #[.int .i64 0, .iface 107 (.pointer (some ⟨N, 0, none⟩))]) ∧ Below w.heap.size w w') fun _ _ ⟨N, he, _, _, hb⟩ => ⟨N, he, hb⟩)
   clear hA hv
   go_enter Tryz.func46, Tryz.ntmps46
   go_wp2_with (go_at_call 70; refine K1.out.mono ?_; rintro e w1 ⟨N, rfl, hb1⟩)
   go_ret2
   exact ⟨rfl, hb1⟩
  | range =>
   rw [hA] at h'
   simp only [Prod.mk.injEq] at h'
   obtain ⟨rfl, rfl⟩ := h'
   obtain ⟨tp, p, hv⟩ := HT.out.rng (by decide)
   have K1 := Aside0.mk ((Any.strconv_Atoi_range_var laid_laysC172 a0 hl hA tp p w hv).mono (R' := fun e w' => ∃ N, e = .returned (.tuple #[.int .i64 (Lib.atoiSat a0.data.toList), .iface 107 (.pointer (some ⟨N, 0, none⟩))]) ∧ Below w.heap.size w w') fun _ _ ⟨N, he, _, _, hb⟩ => ⟨N, he, hb⟩)
   clear hA hv
   go_enter Tryz.func46, Tryz.ntmps46
   go_wp2_with (go_at_call 70; refine K1.out.mono ?_; rintro e w1 ⟨N, rfl, hb1⟩)
   go_ret2
   exact ⟨rfl, hb1⟩

/-! ### impl_hasOnly: function 71 -/
set_option maxHeartbeats 8000000 in
set_option maxRecDepth 100000 in
theorem impl_hasOnly.calls (k : Nat) (a0 : ByteArray) (a1 : ByteArray) (r : Bool) (w : World) (h : impl_hasOnly.f k a0 a1 = some r) :
 Calls Tryz.prog 71 #[.string a0, .string a1] w fun e w' => e = .returned (.bool r) ∧ Drawn0 w w' := by
 have H : (impl_hasOnly.l0 k a0 a1 (a0.size : Int) 0) = some r := h
 clear h
 have H' := Aside0.mk H
 clear H
 go_enter Tryz.func71, Tryz.ntmps71
 go_wp2
 go_loopg [8] k (fun kq v8 w' => ∃ (x8_1 : Int), v8 = .int .i64 x8_1 ∧ Aside0 (impl_hasOnly.l0 kq a0 a1 (a0.size : Int) x8_1 = some r) ∧ Aside0 (kq ≤ k) ∧ Drawn0 w w')
 case atStart => exact ⟨(0), yactParseHandx12_0_, H', ⟨Nat.le_refl _⟩, yactParseHandx12_2_⟩
 case round =>
  clear H'
  obtain ⟨x8_1, rfl, HA, HK1, ⟨m1, rfl⟩⟩ := hrel
  cases gk with
  | zero => exact absurd HA.out (by simp [impl_hasOnly.l0])
  | succ k1 =>
   have H := HA.out
   clear HA
   simp only [impl_hasOnly.l0] at H
   by_cases c3 : x8_1 < (a0.size : Int)
   ·rw [if_pos c3] at H
    have c3b0 : decide (x8_1 < (a0.size : Int)) = true := decide_eq_true c3
    clear c3
    by_cases c4 : 0 ≤ x8_1
    ·rw [if_pos c4] at H
     have c4b0 : decide (0 ≤ x8_1) = true := decide_eq_true c4
     clear c4
     by_cases c5 : x8_1 < (a0.size : Int)
     ·rw [if_pos c5] at H
      have c5b0 : decide (x8_1 < (a0.size : Int)) = true := decide_eq_true c5
      clear c5
      replace H := Option.bind_eq_some_iff.mp H
      obtain ⟨t330, A70, H⟩ := H
      try dsimp only at H
      have A7 := Aside0.mk A70
      clear A70
      by_cases c8 : t330 < 0
      ·rw [if_pos c8] at H
       have c8b0 : decide (t330 < 0) = true := decide_eq_true c8
       clear c8
       obtain rfl := Option.some.inj H
       have p6 : 0 ≤ (x8_1 : Int) := of_decide_eq_true yactParseHandx12_3_
       have q6 : x8_1 < (a0.size : Int) := of_decide_eq_true yactParseHandx12_3_
       have hx6 := bt_at a0 x8_1
       replace p6 := eq_true p6
       replace q6 := eq_true q6
       go_wp2_with (first | ((with_reducible refine gate_callee (f := 41) rfl ?_); refine goesM_ (some 15) Tryz.func41 #[.string a1, .int .u8 (bt a0 x8_1)] ?_; (with_reducible refine (strings_IndexByte.calls a1 (bt a0 x8_1) t330 _ A7.out).mono ?_); rintro e w' ⟨rfl, ⟨nd, rfl⟩⟩; refine ⟨_, rfl, ?_⟩))
       go_ret
       exact ⟨yactParseHandx12_0_, yactParseHandx12_2_⟩
      ·rw [if_neg c8] at H
       have c8b0 : decide (t330 < 0) = false := decide_eq_false c8
       clear c8
       have H' := Aside0.mk H
       clear H
       have p6 : 0 ≤ (x8_1 : Int) := of_decide_eq_true yactParseHandx12_3_
       have q6 : x8_1 < (a0.size : Int) := of_decide_eq_true yactParseHandx12_3_
       have hx6 := bt_at a0 x8_1
       replace p6 := eq_true p6
       replace q6 := eq_true q6
       go_wp2_with (first | ((with_reducible refine gate_callee (f := 41) rfl ?_); refine goesM_ (some 15) Tryz.func41 #[.string a1, .int .u8 (bt a0 x8_1)] ?_; (with_reducible refine (strings_IndexByte.calls a1 (bt a0 x8_1) t330 _ A7.out).mono ?_); rintro e w' ⟨rfl, ⟨nd, rfl⟩⟩; refine ⟨_, rfl, ?_⟩))
       go_roundg k1
       case measure => have := HK1.out; omega
       case rel => exact ⟨(wrap64 (x8_1 + 1)), yactParseHandx12_0_, H', ⟨by have := HK1.out; omega⟩, yactParseHandx12_2_⟩
     ·rw [if_neg c5] at H
      exact absurd H (by simp)
    ·rw [if_neg c4] at H
     exact absurd H (by simp)
   ·rw [if_neg c3] at H
    have c3b0 : decide (x8_1 < (a0.size : Int)) = false := decide_eq_false c3
    clear c3
    obtain rfl := Option.some.inj H
    go_wp2
    go_ret
    exact ⟨yactParseHandx12_0_, yactParseHandx12_2_⟩

/-! ### impl_IsMove: function 47 -/
set_option maxHeartbeats 8000000 in
set_option maxRecDepth 100000 in
theorem impl_IsMove.calls (k : Nat) (a0_0 : ByteArray) (a0_1 : Int) (r : Bool) (w : World) (h : impl_IsMove.f k a0_0 a0_1 = some r) :
 Calls Tryz.prog 47 #[.agg #[.string a0_0, .int .i64 a0_1]] w fun e w' => e = .returned (.bool r) ∧ Below w.heap.size w w' := by
 have hu29 := Tryz.underlying29
 have HB := Aside0.mk (Below.refl w.heap.size w)
 have H : (if (a0_0.size : Int) ≤ 6 then ((impl_hasOnly.f k a0_0 (⟨#[117, 100, 108, 114, 102, 98]⟩ : ByteArray)).bind fun t332 => (if t332 = true then ((impl_within.f a0_1 1 3).bind fun t333 => (if t333 = true then (if a0_0.toList = ([] : List UInt8) then (some (a0_1 == 1)) else (some true)) else (some false))) else (some false))) else (some false)) = some r := h
 clear h
 by_cases c2 : (a0_0.size : Int) ≤ 6
 ·rw [if_pos c2] at H
  have c2b0 : decide ((a0_0.size : Int) ≤ 6) = true := decide_eq_true c2
  have c2b1 : decide (a0_0.size ≤ 6) = true := decide_eq_true (by omega)
  clear c2
  replace H := Option.bind_eq_some_iff.mp H
  obtain ⟨t332, A30, H⟩ := H
  try dsimp only at H
  have A3 := Aside0.mk A30
  clear A30
  by_cases c4 : t332 = true
  ·subst c4
   replace H := ip_ H rfl
   replace H := Option.bind_eq_some_iff.mp H
   obtain ⟨t333, A50, H⟩ := H
   try dsimp only at H
   have A5 := Aside0.mk A50
   clear A50
   by_cases c6 : t333 = true
   ·subst c6
    replace H := ip_ H rfl
    by_cases c7 : a0_0.toList = ([] : List UInt8)
    ·rw [if_pos c7] at H
     have c7b0 : (a0_0.toList == ([] : List UInt8)) = true := beq_iff_eq.mpr c7
     have c7b1 : (a0_0.toList != ([] : List UInt8)) = false := bne_eq_false_iff_eq.mpr c7
     clear c7
     obtain rfl := Option.some.inj H
     go_enter Tryz.func47, Tryz.ntmps47
     go_wp2_with (first | ((with_reducible refine gate_dst (N := 1) rfl ?_); refine box_event ?hg (N := 1) ?hd (cs := #[.string a0_0, .int .i64 a0_1]) (t := 29) ?hr ?_; (case hd => rfl); (case hg => rfl); (case hr => first | (go_simp; done) | (go_simp; rfl)); intro gb331 hg w8 hbox hb; have BK331 := aM_ (hbox); have GW331 := aM_ (gw_ w hg); have GE331 := aM_ (gw_ w hg); replace HB := aM_ (below_step hB_ hb); clear hb hbox hg; have hz9 := cf2_ BK331.out) | (go_at_call 71; (with_reducible refine (impl_hasOnly.calls k a0_0 (⟨#[117, 100, 108, 114, 102, 98]⟩ : ByteArray) true _ A3.out).mono ?_); rintro e w' ⟨rfl, ⟨nd, rfl⟩⟩) | (go_at_call 37; (with_reducible refine (impl_within.calls a0_1 1 3 true _ A5.out).mono ?_); rintro e w' ⟨rfl, ⟨nd, rfl⟩⟩))
     go_ret
     exact ⟨rT_, hB_⟩
    ·rw [if_neg c7] at H
     have c7b0 : (a0_0.toList == ([] : List UInt8)) = false := beq_eq_false_iff_ne.mpr c7
     have c7b1 : (a0_0.toList != ([] : List UInt8)) = true := bne_iff_ne.mpr c7
     obtain rfl := Option.some.inj H
     go_enter Tryz.func47, Tryz.ntmps47
     go_wp2_with (first | ((with_reducible refine gate_dst (N := 1) rfl ?_); refine box_event ?hg (N := 1) ?hd (cs := #[.string a0_0, .int .i64 a0_1]) (t := 29) ?hr ?_; (case hd => rfl); (case hg => rfl); (case hr => first | (go_simp; done) | (go_simp; rfl)); intro gb331 hg w10 hbox hb; have BK331 := aM_ (hbox); have GW331 := aM_ (gw_ w hg); have GE331 := aM_ (gw_ w hg); replace HB := aM_ (below_step hB_ hb); clear hb hbox hg; have hz11 := cf2_ BK331.out) | (go_at_call 71; (with_reducible refine (impl_hasOnly.calls k a0_0 (⟨#[117, 100, 108, 114, 102, 98]⟩ : ByteArray) true _ A3.out).mono ?_); rintro e w' ⟨rfl, ⟨nd, rfl⟩⟩) | (go_at_call 37; (with_reducible refine (impl_within.calls a0_1 1 3 true _ A5.out).mono ?_); rintro e w' ⟨rfl, ⟨nd, rfl⟩⟩))
     go_ret
     exact ⟨rT_, hB_⟩
   ·replace c6 := Bool.eq_false_iff.mpr c6
    subst c6
    replace H := in_ H (show ¬ (false = true) by decide)
    obtain rfl := Option.some.inj H
    go_enter Tryz.func47, Tryz.ntmps47
    go_wp2_with (first | ((with_reducible refine gate_dst (N := 1) rfl ?_); refine box_event ?hg (N := 1) ?hd (cs := #[.string a0_0, .int .i64 a0_1]) (t := 29) ?hr ?_; (case hd => rfl); (case hg => rfl); (case hr => first | (go_simp; done) | (go_simp; rfl)); intro gb331 hg w12 hbox hb; have BK331 := aM_ (hbox); have GW331 := aM_ (gw_ w hg); have GE331 := aM_ (gw_ w hg); replace HB := aM_ (below_step hB_ hb); clear hb hbox hg; have hz13 := cf2_ BK331.out) | (go_at_call 71; (with_reducible refine (impl_hasOnly.calls k a0_0 (⟨#[117, 100, 108, 114, 102, 98]⟩ : ByteArray) true _ A3.out).mono ?_); rintro e w' ⟨rfl, ⟨nd, rfl⟩⟩; clear BK331) | (go_at_call 37; (with_reducible refine (impl_within.calls a0_1 1 3 false _ A5.out).mono ?_); rintro e w' ⟨rfl, ⟨nd, rfl⟩⟩))
    go_ret
    exact ⟨rT_, hB_⟩
  ·replace c4 := Bool.eq_false_iff.mpr c4
   subst c4
   replace H := in_ H (show ¬ (false = true) by decide)
   obtain rfl := Option.some.inj H
   go_enter Tryz.func47, Tryz.ntmps47
   go_wp2_with (first | ((with_reducible refine gate_dst (N := 1) rfl ?_); refine box_event ?hg (N := 1) ?hd (cs := #[.string a0_0, .int .i64 a0_1]) (t := 29) ?hr ?_; (case hd => rfl); (case hg => rfl); (case hr => first | (go_simp; done) | (go_simp; rfl)); intro gb331 hg w14 hbox hb; have BK331 := aM_ (hbox); have GW331 := aM_ (gw_ w hg); have GE331 := aM_ (gw_ w hg); replace HB := aM_ (below_step hB_ hb); clear hb hbox hg; have hz15 := cf2_ BK331.out; clear BK331) | (go_at_call 71; (with_reducible refine (impl_hasOnly.calls k a0_0 (⟨#[117, 100, 108, 114, 102, 98]⟩ : ByteArray) false _ A3.out).mono ?_); rintro e w' ⟨rfl, ⟨nd, rfl⟩⟩))
   go_ret
   exact ⟨rT_, hB_⟩
 ·rw [if_neg c2] at H
  have c2b0 : decide ((a0_0.size : Int) ≤ 6) = false := decide_eq_false c2
  have c2b1 : decide (a0_0.size ≤ 6) = false := decide_eq_false (by omega)
  clear c2
  obtain rfl := Option.some.inj H
  go_enter Tryz.func47, Tryz.ntmps47
  go_wp2_with (first | ((with_reducible refine gate_dst (N := 1) rfl ?_); refine box_event ?hg (N := 1) ?hd (cs := #[.string a0_0, .int .i64 a0_1]) (t := 29) ?hr ?_; (case hd => rfl); (case hg => rfl); (case hr => first | (go_simp; done) | (go_simp; rfl)); intro gb331 hg w16 hbox hb; have BK331 := aM_ (hbox); have GW331 := aM_ (gw_ w hg); have GE331 := aM_ (gw_ w hg); replace HB := aM_ (below_step hB_ hb); clear hb hbox hg; have hz17 := cf2_ BK331.out))
  go_ret
  exact ⟨rT_, hB_⟩

/-! ### impl_Move_text: function 48 -/
set_option maxHeartbeats 8000000 in
set_option maxRecDepth 100000 in
theorem impl_Move_text.calls (a0_0 : ByteArray) (a0_1 : Int) (r : ByteArray) (w : World) (h : impl_Move_text.f a0_0 a0_1 = some r) :
 Calls Tryz.prog 48 #[.agg #[.string a0_0, .int .i64 a0_1]] w fun e w' => e = .returned (.string r) ∧ Below w.heap.size w w' := by
 have hu29 := Tryz.underlying29
 have HB := Aside0.mk (Below.refl w.heap.size w)
 have H : (if a0_0.toList = ([] : List UInt8) then (some (⟨#[45]⟩ : ByteArray)) else (if a0_1 = 1 then (some a0_0) else (if a0_0.size + 1 ≤ 9223372036854775807 then ((strconv_Itoa.f a0_1).bind fun t335 => (if (a0_0 ++ (⟨#[42]⟩ : ByteArray)).size + t335.size ≤ 9223372036854775807 then (some ((a0_0 ++ (⟨#[42]⟩ : ByteArray)) ++ t335)) else (none))) else (none)))) = some r := h
 clear h
 by_cases c2 : a0_0.toList = ([] : List UInt8)
 ·rw [if_pos c2] at H
  have c2b0 : (a0_0.toList == ([] : List UInt8)) = true := beq_iff_eq.mpr c2
  have c2b1 : (a0_0.toList != ([] : List UInt8)) = false := bne_eq_false_iff_eq.mpr c2
  clear c2
  obtain rfl := Option.some.inj H
  go_enter Tryz.func48, Tryz.ntmps48
  go_wp2_with (first | ((with_reducible refine gate_dst (N := 1) rfl ?_); refine box_event ?hg (N := 1) ?hd (cs := #[.string a0_0, .int .i64 a0_1]) (t := 29) ?hr ?_; (case hd => rfl); (case hg => rfl); (case hr => first | (go_simp; done) | (go_simp; rfl)); intro gb334 hg w3 hbox hb; have BK334 := aM_ (hbox); have GW334 := aM_ (gw_ w hg); have GE334 := aM_ (gw_ w hg); replace HB := aM_ (below_step hB_ hb); clear hb hbox hg; have hz4 := cf2_ BK334.out) | (go_quiet (fail)))
  go_ret
  exact ⟨rT_, hB_⟩
 ·rw [if_neg c2] at H
  have c2b0 : (a0_0.toList == ([] : List UInt8)) = false := beq_eq_false_iff_ne.mpr c2
  have c2b1 : (a0_0.toList != ([] : List UInt8)) = true := bne_iff_ne.mpr c2
  by_cases c5 : a0_1 = 1
  ·rw [if_pos c5] at H
   have c5b0 : (a0_1 == 1) = true := beq_iff_eq.mpr c5
   have c5b1 : (a0_1 != 1) = false := bne_eq_false_iff_eq.mpr c5
   clear c5
   obtain rfl := Option.some.inj H
   go_enter Tryz.func48, Tryz.ntmps48
   go_wp2_with (first | ((with_reducible refine gate_dst (N := 1) rfl ?_); refine box_event ?hg (N := 1) ?hd (cs := #[.string a0_0, .int .i64 a0_1]) (t := 29) ?hr ?_; (case hd => rfl); (case hg => rfl); (case hr => first | (go_simp; done) | (go_simp; rfl)); intro gb334 hg w6 hbox hb; have BK334 := aM_ (hbox); have GW334 := aM_ (gw_ w hg); have GE334 := aM_ (gw_ w hg); replace HB := aM_ (below_step hB_ hb); clear hb hbox hg; have hz7 := cf2_ BK334.out) | (go_quiet (fail)))
   go_ret
   exact ⟨rT_, hB_⟩
  ·rw [if_neg c5] at H
   have c5b0 : (a0_1 == 1) = false := beq_eq_false_iff_ne.mpr c5
   have c5b1 : (a0_1 != 1) = true := bne_iff_ne.mpr c5
   by_cases c8 : a0_0.size + 1 ≤ 9223372036854775807
   ·rw [if_pos c8] at H
    have c8b0 := eq_true c8
    have c8b1 : decide (a0_0.size + 1 ≤ 9223372036854775807) = true := decide_eq_true c8
    try have c8b2 : (9223372036854775807 < a0_0.size + 1) = False := eq_false (Nat.not_lt.2 c8)
    replace H := Option.bind_eq_some_iff.mp H
    obtain ⟨t335, A90, H⟩ := H
    try dsimp only at H
    have A9 := Aside0.mk A90
    clear A90
    by_cases c10 : (a0_0 ++ (⟨#[42]⟩ : ByteArray)).size + t335.size ≤ 9223372036854775807
    ·rw [if_pos c10] at H
     have c10b0 := eq_true c10
     have c10b1 : decide ((a0_0 ++ (⟨#[42]⟩ : ByteArray)).size + t335.size ≤ 9223372036854775807) = true := decide_eq_true c10
     try have c10b2 : (9223372036854775807 < (a0_0 ++ (⟨#[42]⟩ : ByteArray)).size + t335.size) = False := eq_false (Nat.not_lt.2 c10)
     try (have c10b3 := c10b2; simp only [ByteArray.size_append', ByteArray.size_mk', List.size_toArray, List.length_cons, List.length_nil, Nat.zero_add, Nat.reduceAdd] at c10b3)
     obtain rfl := Option.some.inj H
     go_enter Tryz.func48, Tryz.ntmps48
     go_wp2_with (first | ((with_reducible refine gate_dst (N := 1) rfl ?_); refine box_event ?hg (N := 1) ?hd (cs := #[.string a0_0, .int .i64 a0_1]) (t := 29) ?hr ?_; (case hd => rfl); (case hg => rfl); (case hr => first | (go_simp; done) | (go_simp; rfl)); intro gb334 hg w11 hbox hb; have BK334 := aM_ (hbox); have GW334 := aM_ (gw_ w hg); have GE334 := aM_ (gw_ w hg); replace HB := aM_ (below_step hB_ hb); clear hb hbox hg; have hz12 := cf2_ BK334.out; clear BK334) | (go_at_call 67; (with_reducible refine (strconv_Itoa.calls a0_1 t335 _ A9.out).mono ?_); rintro e w' ⟨rfl, ⟨nd, rfl⟩⟩; (try first | exact ⟨rfl, _, World.drewN_drewN _ _ _⟩ | exact ⟨rfl, _, Eq.trans (World.drewN_drewN _ _ _) (congrArg (World.drewN _) (Nat.add_assoc _ _ _))⟩)) | (go_quiet (first | (go_at_call 67; (with_reducible refine (strconv_Itoa.calls a0_1 t335 _ A9.out).mono ?_); rintro e w' ⟨rfl, ⟨nd, rfl⟩⟩; (try first | exact ⟨rfl, _, World.drewN_drewN _ _ _⟩ | exact ⟨rfl, _, Eq.trans (World.drewN_drewN _ _ _) (congrArg (World.drewN _) (Nat.add_assoc _ _ _))⟩)))))
     go_ret
     exact ⟨rT_, hB_⟩
    ·rw [if_neg c10] at H
     exact absurd H (by simp)
   ·rw [if_neg c8] at H
    exact absurd H (by simp)

end Go.Proofs.YtcapebhnioblbaaGreatDoor.PFnExactParseHand
