/- Written by a program of this claim's author, out of the loaded program as Lean prints it: the functions as Lean functions, and that the calls answer so. -/
import Derived.Test.YtcapebhnioblbaaGreatDoorPFnExactParseHandx0
import Derived.Test.YtcapebhnioblbaaGreatDoorPFnExactParseHandx8
import Derived.Test.YtcapebhnioblbaaGreatDoorPFnExactParseHandx10
import Derived.Test.YtcapebhnioblbaaGreatDoorPFnExactParseHandxD0
namespace Go.Proofs.YtcapebhnioblbaaGreatDoor.PFnExactParseHand
open Go.RowKit Go.Proofs.YtcapebhnioblbaaGreatDoorW.PrintWords Go.Proofs.YtcapebhnioblbaaGreatDoorW.PrintLast Go.Proofs.YtcapebhnioblbaaGreatDoorW.PrintMore
attribute [local go_sem] max2_int min2_int max_two min_two max_three min_three max_four min_four isSome_setCell   -- for this text's walks alone
theorem yactParseHandx11_0_ {p : Prop} (h : p := by first | (with_reducible assumption) | assumption) : p := h
theorem yactParseHandx11_1_ {p : Prop} (h : p := by simp only [putAll, Act.put, List.setIfInBounds_toArray, List.set_cons_zero, List.set_cons_succ]) : p := h
theorem yactParseHandx11_2_ {p : Prop} (h : p := by (with_reducible repeat (first | apply kN_ | apply kD_ | apply kA_)); exact BK307.out) : p := h
theorem yactParseHandx11_3_ {p : Prop} (h : p := by (with_reducible repeat (first | apply kN_ | apply kD_ | apply kA_)); exact BK310.out) : p := h
theorem yactParseHandx11_4_ {p : Prop} (h : p := by (with_reducible repeat (first | apply kN_ | apply kD_ | apply kA_)); refine blk_put (cs := #[.int .i64 t308, .int .i64 0]) ?_ 1 _ rfl; (with_reducible repeat (first | apply kN_ | apply kD_ | apply kA_)); refine blk_put (cs := #[.int .i64 0, .int .i64 0]) ?_ 0 _ rfl; (with_reducible repeat (first | apply kN_ | apply kD_ | apply kA_)); exact BK310.out) : p := h
theorem yactParseHandx11_5_ {p : Prop} (h : p := by (with_reducible repeat (first | apply kN_ | apply kD_ | apply kA_)); refine blk_put (cs := #[.int .i64 0, .int .i64 0]) ?_ 1 _ rfl; (with_reducible repeat (first | apply kN_ | apply kD_ | apply kA_)); refine blk_put (cs := #[.int .i64 0, .int .i64 0]) ?_ 0 _ rfl; (with_reducible repeat (first | apply kN_ | apply kD_ | apply kA_)); exact BK307.out) : p := h
theorem yactParseHandx11_6_ {p : Prop} (h : p := by rw [← hq_]; exact (by (with_reducible repeat (first | apply kN_ | apply kD_ | apply kA_)); exact BK315.out)) : p := h
theorem yactParseHandx11_7_ {p : Prop} (h : p := by (with_reducible repeat (first | apply kN_ | apply kD_ | apply kA_)); refine blk_put (cs := #[.int .i64 (wrap64 (Int.tdiv a0 6)), .int .i64 (wrap64 ((wrap64 (Int.tdiv (Int.tmod a0 6) 2)) - 1)), .bool false]) ?_ 2 _ rfl; (with_reducible repeat (first | apply kN_ | apply kD_ | apply kA_)); refine blk_put (cs := #[.int .i64 (wrap64 (Int.tdiv a0 6)), .int .i64 0, .bool false]) ?_ 1 _ rfl; (with_reducible repeat (first | apply kN_ | apply kD_ | apply kA_)); refine blk_put (cs := #[.int .i64 0, .int .i64 0, .bool false]) ?_ 0 _ rfl; (with_reducible repeat (first | apply kN_ | apply kD_ | apply kA_)); exact BK317.out) : p := h
theorem yactParseHandx11_8_ {p : Prop} (h : p := by (with_reducible repeat (first | apply kN_ | apply kD_ | apply kA_)); refine blk_put (cs := #[.int .i64 0, .int .i64 0, .bool false]) ?_ 2 _ rfl; (with_reducible repeat (first | apply kN_ | apply kD_ | apply kA_)); refine blk_put (cs := #[.int .i64 0, .int .i64 0, .bool false]) ?_ 1 _ rfl; (with_reducible repeat (first | apply kN_ | apply kD_ | apply kA_)); refine blk_put (cs := #[.int .i64 0, .int .i64 0, .bool false]) ?_ 0 _ rfl; (with_reducible repeat (first | apply kN_ | apply kD_ | apply kA_)); exact BK315.out) : p := h
theorem yactParseHandx11_9_ {p : Prop} (h : p := by have h' := H.out; simp only [Bool.false_eq_true, if_false, if_true, Option.some.injEq] at h'; subst h'; rfl) : p := h
theorem yactParseHandx11_10_ {p : Prop} (h : p := by repeat (first | exact Below.refl _ _ | apply below_alloc | apply pw_below_drewN | apply below_drew1 | apply below_drew)) : p := h
abbrev bactParseHandx11_9_0 : Array Bool := #[false, false, false, false, false, false, false, false, false]
abbrev bactParseHandx11_9_1 : Array Bool := #[true, false, false, false, false, false, false, false, false]
abbrev bactParseHandx11_9_1b : Array Bool := #[true, true, false, true, true, false, false, false, false]
abbrev bactParseHandx11_9_1f : Array Bool := #[true, true, true, true, true, false, false, false, false]
abbrev bactParseHandx11_9_1ff : Array Bool := #[true, true, true, true, true, true, true, true, true]
abbrev bactParseHandx11_9_3f : Array Bool := #[true, true, true, true, true, true, false, false, false]
abbrev bactParseHandx11_9_7f : Array Bool := #[true, true, true, true, true, true, true, false, false]
abbrev bactParseHandx11_9_9 : Array Bool := #[true, false, false, true, false, false, false, false, false]
abbrev bactParseHandx11_9_9b : Array Bool := #[true, true, false, true, true, false, false, true, false]
abbrev bactParseHandx11_9_9f : Array Bool := #[true, true, true, true, true, false, false, true, false]
abbrev bactParseHandx11_9_b : Array Bool := #[true, true, false, true, false, false, false, false, false]
abbrev bactParseHandx11_9_bf : Array Bool := #[true, true, true, true, true, true, false, true, false]
abbrev bactParseHandx11_9_ff : Array Bool := #[true, true, true, true, true, true, true, true, false]
set_option linter.unusedVariables false
set_option linter.unusedSimpArgs false

/-! ### impl_ParseOrient: function 23 -/
def impl_ParseOrient.T3 : Bool × List (List Nat × List Nat) := (true, [([], []), ([0], [0]), ([1], [1]), ([], []), ([3], [3]), ([4, 2], [4]), ([2, 5], [2, 5]), ([], []), ([7, 6, 5, 0, 1, 2, 3, 4, 5, 6, 7], [6, 7])])
def impl_ParseOrient.B3 : List Nat := [0, 1, 3, 0, 8, 31, 63, 0, 255]
theorem impl_ParseOrient.tab3 : rtab .any (opsOf Tryz.f23 3) = impl_ParseOrient.T3 := by kernel_rfl
theorem impl_ParseOrient.bits3 : waitsOk impl_ParseOrient.T3.2 impl_ParseOrient.B3 = true := by kernel_rfl
set_option maxHeartbeats 8000000 in
set_option maxRecDepth 100000 in
theorem impl_ParseOrient.calls (a0 : ByteArray) (r1 : Int) (r2 : Int) (r3 : Bool) (w : World) (h : impl_ParseOrient.f a0 = some (r1, r2, r3)) :
 Calls Tryz.prog 23 #[.string a0] w fun e w' => e = .returned (.tuple #[.agg #[.int .i64 r1, .int .i64 r2], .bool r3]) ∧ Below w.heap.size w w' := by
 have hu25 := Tryz.underlying25
 have HB := Aside0.mk (Below.refl w.heap.size w)
 have H : (if (a0.size : Int) = 2 then (if 0 < (a0.size : Int) then ((strings_IndexByte.f (⟨#[117, 100, 108, 114, 102, 98]⟩ : ByteArray) (bt a0 0)).bind fun t308 => (if 1 < (a0.size : Int) then ((strings_IndexByte.f (⟨#[117, 100, 108, 114, 102, 98]⟩ : ByteArray) (bt a0 1)).bind fun t309 => ((impl_IsOrient.f t308 t309).bind fun t311 => (if t311 = true then (some (t308, t309, true)) else (some (0, 0, false))))) else (none))) else (none)) else (some (0, 0, false))) = some (r1, r2, r3) := h
 clear h
 by_cases c2 : (a0.size : Int) = 2
 ·rw [if_pos c2] at H
  have c2b0 : ((a0.size : Int) == 2) = true := beq_iff_eq.mpr c2
  have c2b1 : ((a0.size : Int) != 2) = false := bne_eq_false_iff_eq.mpr c2
  clear c2
  by_cases c3 : 0 < (a0.size : Int)
  ·rw [if_pos c3] at H
   have c3b0 : decide (0 < (a0.size : Int)) = true := decide_eq_true c3
   have c3b1 : decide (0 < a0.size) = true := decide_eq_true (by omega)
   clear c3
   replace H := Option.bind_eq_some_iff.mp H
   obtain ⟨t308, A50, H⟩ := H
   try dsimp only at H
   have A5 := Aside0.mk A50
   clear A50
   by_cases c6 : 1 < (a0.size : Int)
   ·rw [if_pos c6] at H
    have c6b0 : decide (1 < (a0.size : Int)) = true := decide_eq_true c6
    have c6b1 : decide (1 < a0.size) = true := decide_eq_true (by omega)
    clear c6
    replace H := Option.bind_eq_some_iff.mp H
    obtain ⟨t309, A80, H⟩ := H
    try dsimp only at H
    have A8 := Aside0.mk A80
    clear A80
    replace H := Option.bind_eq_some_iff.mp H
    obtain ⟨t311, A90, H⟩ := H
    try dsimp only at H
    have A9 := Aside0.mk A90
    clear A90
    by_cases c10 : t311 = true
    ·subst c10
     replace H := ip_ H rfl
     simp only [Option.some.injEq, Prod.mk.injEq] at H
     obtain ⟨rfl, rfl, rfl⟩ := H
     go_enter Tryz.func23, Tryz.ntmps23
     try go_wp2_with (first | ((with_reducible refine gate_dst (N := 2) rfl ?_); refine box_event ?hg (N := 2) ?hd (cs := #[.int .i64 0, .int .i64 0]) (t := 25) ?hr ?_; (case hd => rfl); (case hg => rfl); (case hr => first | (go_simp; done) | (go_simp; rfl)); intro gb307 hg w11 hbox hb; have BK307 := aM_ (hbox); have GW307 := aM_ (gw_ w hg); have GE307 := aM_ (gw_ w hg); replace HB := aM_ (below_step hB_ hb); clear hb hbox hg))
     replace BK307 := aM_ (blk_drew BK307.out)
     replace HB := aM_ (below_drew1 HB.out)
     have p4 : 0 ≤ (0 : Int) := (by omega)
     have q4 : 0 < a0.size := (by have : (0 : Int) < (a0.size : Int) := of_decide_eq_true yactParseHandx11_0_; omega)
     have hx4 : ∀ h : 0 < a0.size, ((a0[0]'h).toNat : Int) = bt a0 0 := bt_at a0 0
     clear p4
     have qi4 : (0 < (a0.size : Int)) = True := eq_true (of_decide_eq_true yactParseHandx11_0_)
     replace q4 := eq_true q4
     have p7 : 0 ≤ (1 : Int) := (by omega)
     have q7 : 1 < a0.size := (by have : (1 : Int) < (a0.size : Int) := of_decide_eq_true yactParseHandx11_0_; omega)
     have hx7 : ∀ h : 1 < a0.size, ((a0[1]'h).toNat : Int) = bt a0 1 := bt_at a0 1
     clear p7
     have qi7 : (1 < (a0.size : Int)) = True := eq_true (of_decide_eq_true yactParseHandx11_0_)
     replace q7 := eq_true q7
     refine start_ (n := 9) (S := fun w' => True) (ds := []) bactParseHandx11_9_0 (by kernel_rfl) rfl rfl trivial (fun hHeld => ?_); refine with_tabW impl_ParseOrient.tab3 impl_ParseOrient.bits3 (fun HT_ HW_ => ?_)
     generalize w11.drew = w12 at BK307 HB hHeld ⊢
     refine pure_ (i := 0) (N := some 9) (v := ?_) (a' := ?_) bactParseHandx11_9_1 rfl rfl (any_of HT_.out (by kernel_rfl)) (fun _ _ _ h => h) (Or.inl ⟨by rfl, ?_⟩) ?_ ?_
     rotate_left
     ·intro w'
      go_simp
      with_reducible rfl
     rotate_left
     ·simp only [Act.put, List.setIfInBounds_toArray, List.set_cons_zero, List.set_cons_succ, i64_w, i32_w]
      rfl
     refine pure_ (i := 3) (N := some 12) (v := ?_) (a' := ?_) bactParseHandx11_9_9 rfl rfl (any_of HT_.out (by kernel_rfl)) (fun _ _ _ h => h) (Or.inl ⟨by rfl, ?_⟩) ?_ ?_
     rotate_left
     ·intro w'
      go_simp
      with_reducible rfl
     rotate_left
     ·simp only [Act.put, List.setIfInBounds_toArray, List.set_cons_zero, List.set_cons_succ, i64_w, i32_w]
      rfl
     refine take_ (i := 1) (N := some 10) (v := ?_) (a' := ?_) bactParseHandx11_9_b rfl rfl (take_ofW HT_.out HW_.out (by kernel_rfl)) (fun _ _ _ h => h) (Or.inl ⟨by rfl, ?_⟩) hHeld ?_ ?_
     rotate_left
     ·intro w' _
      go_simp
      with_reducible rfl
     rotate_left
     ·simp only [Act.put, List.setIfInBounds_toArray, List.set_cons_zero, List.set_cons_succ, i64_w, i32_w]
      rfl
     refine take_ (i := 4) (N := some 13) (v := ?_) (a' := ?_) bactParseHandx11_9_1b rfl rfl (take_ofW HT_.out HW_.out (by kernel_rfl)) (fun _ _ _ h => h) (Or.inl ⟨by rfl, ?_⟩) hHeld ?_ ?_
     rotate_left
     ·intro w' _
      go_simp
      with_reducible rfl
     rotate_left
     ·simp only [Act.put, List.setIfInBounds_toArray, List.set_cons_zero, List.set_cons_succ, i64_w, i32_w]
      rfl
     refine join_ (σ := Nat) 1 bactParseHandx11_9_ff (fun s_ => [(11, .int .i64 t308), (14, .int .i64 t309), (4, .pointer (some ⟨s_, 0, none⟩)), (15, .agg #[.int .i64 t308, .int .i64 t309])]) (fun s_ w' => (w'.heap[gb307]? = some (.cells #[.int .i64 0, .int .i64 0] 25 (0, 0))) ∧ (w'.heap[s_]? = some (.cells #[.int .i64 0, .int .i64 0] 25 (0, 0))) ∧ (w.heap.size ≤ s_) ∧ (w.heap.size ≤ s_) ∧ (gb307 ≠ s_) ∧ (s_ ≠ gb307) ∧ (Below w.heap.size w w')) ?_ ?_
     rotate_left
     ·intro hCont
      refine two_ (i := 2) (j := 7) (Ni := some 11) (Nj := some 4) bactParseHandx11_9_1f bactParseHandx11_9_9b rfl rfl rfl rfl (two_of HT_.out (by kernel_rfl)) (by decide) (by decide) (fun K hK => ?_) (fun K hK => ?_)
      ·skip
       refine goes_ Tryz.func41 (by kernel_rfl) rfl #[.string (⟨#[117, 100, 108, 114, 102, 98]⟩ : ByteArray), .int .u8 (bt a0 0)] (by rfl) rfl rfl aR_ ?_
       with_reducible refine (strings_IndexByte.calls (⟨#[117, 100, 108, 114, 102, 98]⟩ : ByteArray) (bt a0 0) t308 _ A5.out).mono ?_
       rintro e w' ⟨rfl, ⟨nd, rfl⟩⟩
       refine ⟨_, rfl, ?_⟩
       refine hK.out _ _ trivial (fun hHeld => ?_)
       clear hK K
       refine norm_ (a' := ?_) ?_ ?_
       rotate_left
       ·show Act.put _ (some 11) _ = _
        simp only [Act.put, List.setIfInBounds_toArray, List.set_cons_zero, List.set_cons_succ, i64_w, i32_w]
        rfl
       refine two_ (i := 5) (j := 7) (Ni := some 14) (Nj := some 4) bactParseHandx11_9_3f bactParseHandx11_9_9f rfl rfl rfl rfl (two_of HT_.out (by kernel_rfl)) (by decide) (by decide) (fun K hK => ?_) (fun K hK => ?_)
       ·skip
        refine goes_ Tryz.func41 (by kernel_rfl) rfl #[.string (⟨#[117, 100, 108, 114, 102, 98]⟩ : ByteArray), .int .u8 (bt a0 1)] (by rfl) rfl rfl aR_ ?_
        with_reducible refine (strings_IndexByte.calls (⟨#[117, 100, 108, 114, 102, 98]⟩ : ByteArray) (bt a0 1) t309 _ A8.out).mono ?_
        rintro e w' ⟨rfl, ⟨nd, rfl⟩⟩
        refine ⟨_, rfl, ?_⟩
        refine hK.out _ _ trivial (fun hHeld => ?_)
        clear hK K
        refine norm_ (a' := ?_) ?_ ?_
        rotate_left
        ·show Act.put _ (some 14) _ = _
         simp only [Act.put, List.setIfInBounds_toArray, List.set_cons_zero, List.set_cons_succ, i64_w, i32_w]
         rfl
        refine pure_ (i := 6) (N := some 15) (v := ?_) (a' := ?_) bactParseHandx11_9_7f rfl rfl (any_of HT_.out (by kernel_rfl)) (fun _ _ _ h => h) (Or.inl ⟨by rfl, ?_⟩) ?_ ?_
        rotate_left
        ·intro w'
         go_simp
         with_reducible rfl
        rotate_left
        ·simp only [Act.put, List.setIfInBounds_toArray, List.set_cons_zero, List.set_cons_succ, i64_w, i32_w]
         rfl
        refine one_ (i := 7) (N := some 4) bactParseHandx11_9_ff rfl rfl (one_of HT_.out (by kernel_rfl)) (by decide) (fun K hK => ?_)
        refine box_step ?hg (N := 4) ?hd (cs := #[.int .i64 0, .int .i64 0]) (t := 25) ?hr ?_; (case hd => rfl); (case hg => rfl); (case hr => first | (go_simp; done) | (go_simp; rfl))
        intro gb310 hg w13 hbox hb
        have BK310 := aM_ (hbox)
        have GW310 := aM_ (gw_ w hg)
        have GE310 := aM_ (gw_ w hg)
        have NB307_310 := aM_ (nb_ gb307 hg)
        have NB310_307 := aM_ (nc_ gb307 hg)
        replace BK307 := aM_ (blk_below (g := gb307) (kR_ BK307) hb)
        replace HB := aM_ (below_step hB_ hb)
        clear hb hbox hg
        refine hK.out _ _ trivial (fun hHeld => ?_)
        clear hK K
        refine norm_ (a' := ?_) ?_ ?_
        rotate_left
        ·show Act.put _ (some 4) _ = _
         simp only [Act.put, List.setIfInBounds_toArray, List.set_cons_zero, List.set_cons_succ, i64_w, i32_w]
         rfl
        exact norm_ yactParseHandx11_1_ (hCont (gb310) _ ⟨yactParseHandx11_2_, yactParseHandx11_3_, GW310.out, GE310.out, NB307_310.out, NB310_307.out, hB_⟩)
       ·skip
        refine box_step ?hg (N := 4) ?hd (cs := #[.int .i64 0, .int .i64 0]) (t := 25) ?hr ?_; (case hd => rfl); (case hg => rfl); (case hr => first | (go_simp; done) | (go_simp; rfl))
        intro gb310 hg w13 hbox hb
        have BK310 := aM_ (hbox)
        have GW310 := aM_ (gw_ w hg)
        have GE310 := aM_ (gw_ w hg)
        have NB307_310 := aM_ (nb_ gb307 hg)
        have NB310_307 := aM_ (nc_ gb307 hg)
        replace BK307 := aM_ (blk_below (g := gb307) (kR_ BK307) hb)
        replace HB := aM_ (below_step hB_ hb)
        clear hb hbox hg
        refine hK.out _ _ trivial (fun hHeld => ?_)
        clear hK K
        refine norm_ (a' := ?_) ?_ ?_
        rotate_left
        ·show Act.put _ (some 4) _ = _
         simp only [Act.put, List.setIfInBounds_toArray, List.set_cons_zero, List.set_cons_succ, i64_w, i32_w]
         rfl
        refine one_ (i := 5) (N := some 14) bactParseHandx11_9_bf rfl rfl (one_of HT_.out (by kernel_rfl)) (by decide) (fun K hK => ?_)
        refine goes_ Tryz.func41 (by kernel_rfl) rfl #[.string (⟨#[117, 100, 108, 114, 102, 98]⟩ : ByteArray), .int .u8 (bt a0 1)] (by rfl) rfl rfl aR_ ?_
        with_reducible refine (strings_IndexByte.calls (⟨#[117, 100, 108, 114, 102, 98]⟩ : ByteArray) (bt a0 1) t309 _ A8.out).mono ?_
        rintro e w' ⟨rfl, ⟨nd, rfl⟩⟩
        refine ⟨_, rfl, ?_⟩
        refine hK.out _ _ trivial (fun hHeld => ?_)
        clear hK K
        refine norm_ (a' := ?_) ?_ ?_
        rotate_left
        ·show Act.put _ (some 14) _ = _
         simp only [Act.put, List.setIfInBounds_toArray, List.set_cons_zero, List.set_cons_succ, i64_w, i32_w]
         rfl
        refine pure_ (i := 6) (N := some 15) (v := ?_) (a' := ?_) bactParseHandx11_9_ff rfl rfl (any_of HT_.out (by kernel_rfl)) (fun _ _ _ h => h) (Or.inl ⟨by rfl, ?_⟩) ?_ ?_
        rotate_left
        ·intro w'
         go_simp
         with_reducible rfl
        rotate_left
        ·simp only [Act.put, List.setIfInBounds_toArray, List.set_cons_zero, List.set_cons_succ, i64_w, i32_w]
         rfl
        exact norm_ yactParseHandx11_1_ (hCont (gb310) _ ⟨yactParseHandx11_2_, yactParseHandx11_3_, GW310.out, GE310.out, NB307_310.out, NB310_307.out, hB_⟩)
      ·skip
       refine box_step ?hg (N := 4) ?hd (cs := #[.int .i64 0, .int .i64 0]) (t := 25) ?hr ?_; (case hd => rfl); (case hg => rfl); (case hr => first | (go_simp; done) | (go_simp; rfl))
       intro gb310 hg w13 hbox hb
       have BK310 := aM_ (hbox)
       have GW310 := aM_ (gw_ w hg)
       have GE310 := aM_ (gw_ w hg)
       have NB307_310 := aM_ (nb_ gb307 hg)
       have NB310_307 := aM_ (nc_ gb307 hg)
       replace BK307 := aM_ (blk_below (g := gb307) (kR_ BK307) hb)
       replace HB := aM_ (below_step hB_ hb)
       clear hb hbox hg
       refine hK.out _ _ trivial (fun hHeld => ?_)
       clear hK K
       refine norm_ (a' := ?_) ?_ ?_
       rotate_left
       ·show Act.put _ (some 4) _ = _
        simp only [Act.put, List.setIfInBounds_toArray, List.set_cons_zero, List.set_cons_succ, i64_w, i32_w]
        rfl
       refine one_ (i := 2) (N := some 11) bactParseHandx11_9_9f rfl rfl (one_of HT_.out (by kernel_rfl)) (by decide) (fun K hK => ?_)
       refine goes_ Tryz.func41 (by kernel_rfl) rfl #[.string (⟨#[117, 100, 108, 114, 102, 98]⟩ : ByteArray), .int .u8 (bt a0 0)] (by rfl) rfl rfl aR_ ?_
       with_reducible refine (strings_IndexByte.calls (⟨#[117, 100, 108, 114, 102, 98]⟩ : ByteArray) (bt a0 0) t308 _ A5.out).mono ?_
       rintro e w' ⟨rfl, ⟨nd, rfl⟩⟩
       refine ⟨_, rfl, ?_⟩
       refine hK.out _ _ trivial (fun hHeld => ?_)
       clear hK K
       refine norm_ (a' := ?_) ?_ ?_
       rotate_left
       ·show Act.put _ (some 11) _ = _
        simp only [Act.put, List.setIfInBounds_toArray, List.set_cons_zero, List.set_cons_succ, i64_w, i32_w]
        rfl
       refine one_ (i := 5) (N := some 14) bactParseHandx11_9_bf rfl rfl (one_of HT_.out (by kernel_rfl)) (by decide) (fun K hK => ?_)
       refine goes_ Tryz.func41 (by kernel_rfl) rfl #[.string (⟨#[117, 100, 108, 114, 102, 98]⟩ : ByteArray), .int .u8 (bt a0 1)] (by rfl) rfl rfl aR_ ?_
       with_reducible refine (strings_IndexByte.calls (⟨#[117, 100, 108, 114, 102, 98]⟩ : ByteArray) (bt a0 1) t309 _ A8.out).mono ?_
       rintro e w' ⟨rfl, ⟨nd, rfl⟩⟩
       refine ⟨_, rfl, ?_⟩
       refine hK.out _ _ trivial (fun hHeld => ?_)
       clear hK K
       refine norm_ (a' := ?_) ?_ ?_
       rotate_left
       ·show Act.put _ (some 14) _ = _
        simp only [Act.put, List.setIfInBounds_toArray, List.set_cons_zero, List.set_cons_succ, i64_w, i32_w]
        rfl
       refine pure_ (i := 6) (N := some 15) (v := ?_) (a' := ?_) bactParseHandx11_9_ff rfl rfl (any_of HT_.out (by kernel_rfl)) (fun _ _ _ h => h) (Or.inl ⟨by rfl, ?_⟩) ?_ ?_
       rotate_left
       ·intro w'
        go_simp
        with_reducible rfl
       rotate_left
       ·simp only [Act.put, List.setIfInBounds_toArray, List.set_cons_zero, List.set_cons_succ, i64_w, i32_w]
        rfl
       exact norm_ yactParseHandx11_1_ (hCont (gb310) _ ⟨yactParseHandx11_2_, yactParseHandx11_3_, GW310.out, GE310.out, NB307_310.out, NB310_307.out, hB_⟩)
     rintro gb310 w14 ⟨h0_, h1_, h2_, h3_, h4_, h5_, h6_⟩
     have n0_ : Aside0 (w14.heap[gb307]? = some (.cells #[.int .i64 0, .int .i64 0] 25 (0, 0))) := ⟨h0_⟩
     have n1_ : Aside0 (w14.heap[gb310]? = some (.cells #[.int .i64 0, .int .i64 0] 25 (0, 0))) := ⟨h1_⟩
     have n2_ : Aside0 (w.heap.size ≤ gb310) := ⟨h2_⟩
     have n3_ : Aside0 (w.heap.size ≤ gb310) := ⟨h3_⟩
     have n4_ : Aside0 (gb307 ≠ gb310) := ⟨h4_⟩
     have n5_ : Aside0 (gb310 ≠ gb307) := ⟨h5_⟩
     have n6_ : Aside0 (Below w.heap.size w w14) := ⟨h6_⟩
     clear BK307
     clear HB
     clear h0_ h1_ h2_ h3_ h4_ h5_ h6_
     have BK307 := n0_
     have BK310 := n1_
     have GW310 := n2_
     have GE310 := n3_
     have NB307_310 := n4_
     have NB310_307 := n5_
     have HB := n6_
     clear n0_ n1_ n2_ n3_ n4_ n5_ n6_
     have hHeld := trivial
     refine norm_ (a' := ?_) ?_ ?_
     rotate_left
     ·simp only [putAll, Act.put, List.setIfInBounds_toArray, List.set_cons_zero, List.set_cons_succ]
      rfl
     refine one_ (i := 8) (N := none) bactParseHandx11_9_1ff rfl rfl (one_of HT_.out (by kernel_rfl)) (by decide) (fun K hK => ?_)
     have hs15 : w14.cell? ⟨gb310, 0, none⟩ = some (.int .i64 0) := (blk_cell BK310.out 0).trans rfl
     have hfs15 := blk_frozen BK310.out 0
     have hns15_0 := NB307_310.out
     have hms15_0 := NB310_307.out
     have hs16 : w14.cell? ⟨gb310, 1, none⟩ = some (.int .i64 0) := (blk_cell BK310.out 1).trans rfl
     have hfs16 := blk_frozen BK310.out 1
     have hns16_0 := NB307_310.out
     have hms16_0 := NB310_307.out
     refine skip_ (w1 := ?_) (by rfl) rfl ?_ ?_
     rotate_left
     ·go_simp
      rfl
     refine hK.out _ _ trivial (fun hHeld => ?_)
     clear hK K
     refine done_ (done_of HT_.out (by kernel_rfl)) ?_
     have hnb17 := NB310_307.out
     have hnc17 := NB307_310.out
     have hz18 := cf2_ BK310.out
     try go_wp2_with (first | ((with_reducible refine gate_callee (f := 42) rfl ?_); refine goesM_ (some 17) Tryz.func42 #[.agg #[.int .i64 t308, .int .i64 t309]] ?_; (with_reducible refine (impl_IsOrient.calls t308 t309 true _ A9.out).mono ?_); rintro e w19 ⟨rfl, hb⟩; refine ⟨_, rfl, ?_⟩; replace BK307 := aM_ (blk_below (g := gb307) (kR_ BK307) hb); replace BK310 := aM_ (blk_below (g := gb310) (o := .cells #[.int .i64 t308, .int .i64 t309] 25 (0, 0)) yactParseHandx11_4_ hb); replace HB := aM_ (below_step hB_ hb); (try clear hb); (try clear hb2); (try clear hk); (try clear hi); have hz20 := cf2_ BK310.out; clear BK310; have hz21 := cf2_ BK307.out))
     refine bodyPost_ret (results_ct rfl _ _ gb307 25 #[.int .i64 t308, .int .i64 t309] (0, 0) _ rfl (by (with_reducible repeat (first | apply kN_ | apply kD_ | apply kA_)); refine blk_put (cs := #[.int .i64 t308, .int .i64 0]) ?_ 1 _ rfl; (with_reducible repeat (first | apply kN_ | apply kD_ | apply kA_)); refine blk_put (cs := #[.int .i64 0, .int .i64 0]) ?_ 0 _ rfl; (with_reducible repeat (first | apply kN_ | apply kD_ | apply kA_)); exact BK307.out) Tryz.underlying25 rfl (by kernel_rfl)) rfl ?_
     exact ⟨rT_, hB_⟩
    ·replace c10 := Bool.eq_false_iff.mpr c10
     subst c10
     replace H := in_ H (show ¬ (false = true) by decide)
     simp only [Option.some.injEq, Prod.mk.injEq] at H
     obtain ⟨rfl, rfl, rfl⟩ := H
     go_enter Tryz.func23, Tryz.ntmps23
     try go_wp2_with (first | ((with_reducible refine gate_dst (N := 2) rfl ?_); refine box_event ?hg (N := 2) ?hd (cs := #[.int .i64 0, .int .i64 0]) (t := 25) ?hr ?_; (case hd => rfl); (case hg => rfl); (case hr => first | (go_simp; done) | (go_simp; rfl)); intro gb307 hg w22 hbox hb; have BK307 := aM_ (hbox); have GW307 := aM_ (gw_ w hg); have GE307 := aM_ (gw_ w hg); replace HB := aM_ (below_step hB_ hb); clear hb hbox hg))
     replace BK307 := aM_ (blk_drew BK307.out)
     replace HB := aM_ (below_drew1 HB.out)
     have p4 : 0 ≤ (0 : Int) := (by omega)
     have q4 : 0 < a0.size := (by have : (0 : Int) < (a0.size : Int) := of_decide_eq_true yactParseHandx11_0_; omega)
     have hx4 : ∀ h : 0 < a0.size, ((a0[0]'h).toNat : Int) = bt a0 0 := bt_at a0 0
     clear p4
     have qi4 : (0 < (a0.size : Int)) = True := eq_true (of_decide_eq_true yactParseHandx11_0_)
     replace q4 := eq_true q4
     have p7 : 0 ≤ (1 : Int) := (by omega)
     have q7 : 1 < a0.size := (by have : (1 : Int) < (a0.size : Int) := of_decide_eq_true yactParseHandx11_0_; omega)
     have hx7 : ∀ h : 1 < a0.size, ((a0[1]'h).toNat : Int) = bt a0 1 := bt_at a0 1
     clear p7
     have qi7 : (1 < (a0.size : Int)) = True := eq_true (of_decide_eq_true yactParseHandx11_0_)
     replace q7 := eq_true q7
     refine start_ (n := 9) (S := fun w' => True) (ds := []) bactParseHandx11_9_0 (by kernel_rfl) rfl rfl trivial (fun hHeld => ?_); refine with_tabW impl_ParseOrient.tab3 impl_ParseOrient.bits3 (fun HT_ HW_ => ?_)
     generalize w22.drew = w23 at BK307 HB hHeld ⊢
     refine pure_ (i := 0) (N := some 9) (v := ?_) (a' := ?_) bactParseHandx11_9_1 rfl rfl (any_of HT_.out (by kernel_rfl)) (fun _ _ _ h => h) (Or.inl ⟨by rfl, ?_⟩) ?_ ?_
     rotate_left
     ·intro w'
      go_simp
      with_reducible rfl
     rotate_left
     ·simp only [Act.put, List.setIfInBounds_toArray, List.set_cons_zero, List.set_cons_succ, i64_w, i32_w]
      rfl
     refine pure_ (i := 3) (N := some 12) (v := ?_) (a' := ?_) bactParseHandx11_9_9 rfl rfl (any_of HT_.out (by kernel_rfl)) (fun _ _ _ h => h) (Or.inl ⟨by rfl, ?_⟩) ?_ ?_
     rotate_left
     ·intro w'
      go_simp
      with_reducible rfl
     rotate_left
     ·simp only [Act.put, List.setIfInBounds_toArray, List.set_cons_zero, List.set_cons_succ, i64_w, i32_w]
      rfl
     refine take_ (i := 1) (N := some 10) (v := ?_) (a' := ?_) bactParseHandx11_9_b rfl rfl (take_ofW HT_.out HW_.out (by kernel_rfl)) (fun _ _ _ h => h) (Or.inl ⟨by rfl, ?_⟩) hHeld ?_ ?_
     rotate_left
     ·intro w' _
      go_simp
      with_reducible rfl
     rotate_left
     ·simp only [Act.put, List.setIfInBounds_toArray, List.set_cons_zero, List.set_cons_succ, i64_w, i32_w]
      rfl
     refine take_ (i := 4) (N := some 13) (v := ?_) (a' := ?_) bactParseHandx11_9_1b rfl rfl (take_ofW HT_.out HW_.out (by kernel_rfl)) (fun _ _ _ h => h) (Or.inl ⟨by rfl, ?_⟩) hHeld ?_ ?_
     rotate_left
     ·intro w' _
      go_simp
      with_reducible rfl
     rotate_left
     ·simp only [Act.put, List.setIfInBounds_toArray, List.set_cons_zero, List.set_cons_succ, i64_w, i32_w]
      rfl
     refine join_ (σ := Nat) 1 bactParseHandx11_9_ff (fun s_ => [(11, .int .i64 t308), (14, .int .i64 t309), (4, .pointer (some ⟨s_, 0, none⟩)), (15, .agg #[.int .i64 t308, .int .i64 t309])]) (fun s_ w' => (w'.heap[gb307]? = some (.cells #[.int .i64 0, .int .i64 0] 25 (0, 0))) ∧ (w'.heap[s_]? = some (.cells #[.int .i64 0, .int .i64 0] 25 (0, 0))) ∧ (w.heap.size ≤ s_) ∧ (w.heap.size ≤ s_) ∧ (gb307 ≠ s_) ∧ (s_ ≠ gb307) ∧ (Below w.heap.size w w')) ?_ ?_
     rotate_left
     ·intro hCont
      refine two_ (i := 2) (j := 7) (Ni := some 11) (Nj := some 4) bactParseHandx11_9_1f bactParseHandx11_9_9b rfl rfl rfl rfl (two_of HT_.out (by kernel_rfl)) (by decide) (by decide) (fun K hK => ?_) (fun K hK => ?_)
      ·skip
       refine goes_ Tryz.func41 (by kernel_rfl) rfl #[.string (⟨#[117, 100, 108, 114, 102, 98]⟩ : ByteArray), .int .u8 (bt a0 0)] (by rfl) rfl rfl aR_ ?_
       with_reducible refine (strings_IndexByte.calls (⟨#[117, 100, 108, 114, 102, 98]⟩ : ByteArray) (bt a0 0) t308 _ A5.out).mono ?_
       rintro e w' ⟨rfl, ⟨nd, rfl⟩⟩
       refine ⟨_, rfl, ?_⟩
       refine hK.out _ _ trivial (fun hHeld => ?_)
       clear hK K
       refine norm_ (a' := ?_) ?_ ?_
       rotate_left
       ·show Act.put _ (some 11) _ = _
        simp only [Act.put, List.setIfInBounds_toArray, List.set_cons_zero, List.set_cons_succ, i64_w, i32_w]
        rfl
       refine two_ (i := 5) (j := 7) (Ni := some 14) (Nj := some 4) bactParseHandx11_9_3f bactParseHandx11_9_9f rfl rfl rfl rfl (two_of HT_.out (by kernel_rfl)) (by decide) (by decide) (fun K hK => ?_) (fun K hK => ?_)
       ·skip
        refine goes_ Tryz.func41 (by kernel_rfl) rfl #[.string (⟨#[117, 100, 108, 114, 102, 98]⟩ : ByteArray), .int .u8 (bt a0 1)] (by rfl) rfl rfl aR_ ?_
        with_reducible refine (strings_IndexByte.calls (⟨#[117, 100, 108, 114, 102, 98]⟩ : ByteArray) (bt a0 1) t309 _ A8.out).mono ?_
        rintro e w' ⟨rfl, ⟨nd, rfl⟩⟩
        refine ⟨_, rfl, ?_⟩
        refine hK.out _ _ trivial (fun hHeld => ?_)
        clear hK K
        refine norm_ (a' := ?_) ?_ ?_
        rotate_left
        ·show Act.put _ (some 14) _ = _
         simp only [Act.put, List.setIfInBounds_toArray, List.set_cons_zero, List.set_cons_succ, i64_w, i32_w]
         rfl
        refine pure_ (i := 6) (N := some 15) (v := ?_) (a' := ?_) bactParseHandx11_9_7f rfl rfl (any_of HT_.out (by kernel_rfl)) (fun _ _ _ h => h) (Or.inl ⟨by rfl, ?_⟩) ?_ ?_
        rotate_left
        ·intro w'
         go_simp
         with_reducible rfl
        rotate_left
        ·simp only [Act.put, List.setIfInBounds_toArray, List.set_cons_zero, List.set_cons_succ, i64_w, i32_w]
         rfl
        refine one_ (i := 7) (N := some 4) bactParseHandx11_9_ff rfl rfl (one_of HT_.out (by kernel_rfl)) (by decide) (fun K hK => ?_)
        refine box_step ?hg (N := 4) ?hd (cs := #[.int .i64 0, .int .i64 0]) (t := 25) ?hr ?_; (case hd => rfl); (case hg => rfl); (case hr => first | (go_simp; done) | (go_simp; rfl))
        intro gb310 hg w24 hbox hb
        have BK310 := aM_ (hbox)
        have GW310 := aM_ (gw_ w hg)
        have GE310 := aM_ (gw_ w hg)
        have NB307_310 := aM_ (nb_ gb307 hg)
        have NB310_307 := aM_ (nc_ gb307 hg)
        replace BK307 := aM_ (blk_below (g := gb307) (kR_ BK307) hb)
        replace HB := aM_ (below_step hB_ hb)
        clear hb hbox hg
        refine hK.out _ _ trivial (fun hHeld => ?_)
        clear hK K
        refine norm_ (a' := ?_) ?_ ?_
        rotate_left
        ·show Act.put _ (some 4) _ = _
         simp only [Act.put, List.setIfInBounds_toArray, List.set_cons_zero, List.set_cons_succ, i64_w, i32_w]
         rfl
        exact norm_ yactParseHandx11_1_ (hCont (gb310) _ ⟨yactParseHandx11_2_, yactParseHandx11_3_, GW310.out, GE310.out, NB307_310.out, NB310_307.out, hB_⟩)
       ·skip
        refine box_step ?hg (N := 4) ?hd (cs := #[.int .i64 0, .int .i64 0]) (t := 25) ?hr ?_; (case hd => rfl); (case hg => rfl); (case hr => first | (go_simp; done) | (go_simp; rfl))
        intro gb310 hg w24 hbox hb
        have BK310 := aM_ (hbox)
        have GW310 := aM_ (gw_ w hg)
        have GE310 := aM_ (gw_ w hg)
        have NB307_310 := aM_ (nb_ gb307 hg)
        have NB310_307 := aM_ (nc_ gb307 hg)
        replace BK307 := aM_ (blk_below (g := gb307) (kR_ BK307) hb)
        replace HB := aM_ (below_step hB_ hb)
        clear hb hbox hg
        refine hK.out _ _ trivial (fun hHeld => ?_)
        clear hK K
        refine norm_ (a' := ?_) ?_ ?_
        rotate_left
        ·show Act.put _ (some 4) _ = _
         simp only [Act.put, List.setIfInBounds_toArray, List.set_cons_zero, List.set_cons_succ, i64_w, i32_w]
         rfl
        refine one_ (i := 5) (N := some 14) bactParseHandx11_9_bf rfl rfl (one_of HT_.out (by kernel_rfl)) (by decide) (fun K hK => ?_)
        refine goes_ Tryz.func41 (by kernel_rfl) rfl #[.string (⟨#[117, 100, 108, 114, 102, 98]⟩ : ByteArray), .int .u8 (bt a0 1)] (by rfl) rfl rfl aR_ ?_
        with_reducible refine (strings_IndexByte.calls (⟨#[117, 100, 108, 114, 102, 98]⟩ : ByteArray) (bt a0 1) t309 _ A8.out).mono ?_
        rintro e w' ⟨rfl, ⟨nd, rfl⟩⟩
        refine ⟨_, rfl, ?_⟩
        refine hK.out _ _ trivial (fun hHeld => ?_)
        clear hK K
        refine norm_ (a' := ?_) ?_ ?_
        rotate_left
        ·show Act.put _ (some 14) _ = _
         simp only [Act.put, List.setIfInBounds_toArray, List.set_cons_zero, List.set_cons_succ, i64_w, i32_w]
         rfl
        refine pure_ (i := 6) (N := some 15) (v := ?_) (a' := ?_) bactParseHandx11_9_ff rfl rfl (any_of HT_.out (by kernel_rfl)) (fun _ _ _ h => h) (Or.inl ⟨by rfl, ?_⟩) ?_ ?_
        rotate_left
        ·intro w'
         go_simp
         with_reducible rfl
        rotate_left
        ·simp only [Act.put, List.setIfInBounds_toArray, List.set_cons_zero, List.set_cons_succ, i64_w, i32_w]
         rfl
        exact norm_ yactParseHandx11_1_ (hCont (gb310) _ ⟨yactParseHandx11_2_, yactParseHandx11_3_, GW310.out, GE310.out, NB307_310.out, NB310_307.out, hB_⟩)
      ·skip
       refine box_step ?hg (N := 4) ?hd (cs := #[.int .i64 0, .int .i64 0]) (t := 25) ?hr ?_; (case hd => rfl); (case hg => rfl); (case hr => first | (go_simp; done) | (go_simp; rfl))
       intro gb310 hg w24 hbox hb
       have BK310 := aM_ (hbox)
       have GW310 := aM_ (gw_ w hg)
       have GE310 := aM_ (gw_ w hg)
       have NB307_310 := aM_ (nb_ gb307 hg)
       have NB310_307 := aM_ (nc_ gb307 hg)
       replace BK307 := aM_ (blk_below (g := gb307) (kR_ BK307) hb)
       replace HB := aM_ (below_step hB_ hb)
       clear hb hbox hg
       refine hK.out _ _ trivial (fun hHeld => ?_)
       clear hK K
       refine norm_ (a' := ?_) ?_ ?_
       rotate_left
       ·show Act.put _ (some 4) _ = _
        simp only [Act.put, List.setIfInBounds_toArray, List.set_cons_zero, List.set_cons_succ, i64_w, i32_w]
        rfl
       refine one_ (i := 2) (N := some 11) bactParseHandx11_9_9f rfl rfl (one_of HT_.out (by kernel_rfl)) (by decide) (fun K hK => ?_)
       refine goes_ Tryz.func41 (by kernel_rfl) rfl #[.string (⟨#[117, 100, 108, 114, 102, 98]⟩ : ByteArray), .int .u8 (bt a0 0)] (by rfl) rfl rfl aR_ ?_
       with_reducible refine (strings_IndexByte.calls (⟨#[117, 100, 108, 114, 102, 98]⟩ : ByteArray) (bt a0 0) t308 _ A5.out).mono ?_
       rintro e w' ⟨rfl, ⟨nd, rfl⟩⟩
       refine ⟨_, rfl, ?_⟩
       refine hK.out _ _ trivial (fun hHeld => ?_)
       clear hK K
       refine norm_ (a' := ?_) ?_ ?_
       rotate_left
       ·show Act.put _ (some 11) _ = _
        simp only [Act.put, List.setIfInBounds_toArray, List.set_cons_zero, List.set_cons_succ, i64_w, i32_w]
        rfl
       refine one_ (i := 5) (N := some 14) bactParseHandx11_9_bf rfl rfl (one_of HT_.out (by kernel_rfl)) (by decide) (fun K hK => ?_)
       refine goes_ Tryz.func41 (by kernel_rfl) rfl #[.string (⟨#[117, 100, 108, 114, 102, 98]⟩ : ByteArray), .int .u8 (bt a0 1)] (by rfl) rfl rfl aR_ ?_
       with_reducible refine (strings_IndexByte.calls (⟨#[117, 100, 108, 114, 102, 98]⟩ : ByteArray) (bt a0 1) t309 _ A8.out).mono ?_
       rintro e w' ⟨rfl, ⟨nd, rfl⟩⟩
       refine ⟨_, rfl, ?_⟩
       refine hK.out _ _ trivial (fun hHeld => ?_)
       clear hK K
       refine norm_ (a' := ?_) ?_ ?_
       rotate_left
       ·show Act.put _ (some 14) _ = _
        simp only [Act.put, List.setIfInBounds_toArray, List.set_cons_zero, List.set_cons_succ, i64_w, i32_w]
        rfl
       refine pure_ (i := 6) (N := some 15) (v := ?_) (a' := ?_) bactParseHandx11_9_ff rfl rfl (any_of HT_.out (by kernel_rfl)) (fun _ _ _ h => h) (Or.inl ⟨by rfl, ?_⟩) ?_ ?_
       rotate_left
       ·intro w'
        go_simp
        with_reducible rfl
       rotate_left
       ·simp only [Act.put, List.setIfInBounds_toArray, List.set_cons_zero, List.set_cons_succ, i64_w, i32_w]
        rfl
       exact norm_ yactParseHandx11_1_ (hCont (gb310) _ ⟨yactParseHandx11_2_, yactParseHandx11_3_, GW310.out, GE310.out, NB307_310.out, NB310_307.out, hB_⟩)
     rintro gb310 w25 ⟨h0_, h1_, h2_, h3_, h4_, h5_, h6_⟩
     have n0_ : Aside0 (w25.heap[gb307]? = some (.cells #[.int .i64 0, .int .i64 0] 25 (0, 0))) := ⟨h0_⟩
     have n1_ : Aside0 (w25.heap[gb310]? = some (.cells #[.int .i64 0, .int .i64 0] 25 (0, 0))) := ⟨h1_⟩
     have n2_ : Aside0 (w.heap.size ≤ gb310) := ⟨h2_⟩
     have n3_ : Aside0 (w.heap.size ≤ gb310) := ⟨h3_⟩
     have n4_ : Aside0 (gb307 ≠ gb310) := ⟨h4_⟩
     have n5_ : Aside0 (gb310 ≠ gb307) := ⟨h5_⟩
     have n6_ : Aside0 (Below w.heap.size w w25) := ⟨h6_⟩
     clear BK307
     clear HB
     clear h0_ h1_ h2_ h3_ h4_ h5_ h6_
     have BK307 := n0_
     have BK310 := n1_
     have GW310 := n2_
     have GE310 := n3_
     have NB307_310 := n4_
     have NB310_307 := n5_
     have HB := n6_
     clear n0_ n1_ n2_ n3_ n4_ n5_ n6_
     have hHeld := trivial
     refine norm_ (a' := ?_) ?_ ?_
     rotate_left
     ·simp only [putAll, Act.put, List.setIfInBounds_toArray, List.set_cons_zero, List.set_cons_succ]
      rfl
     refine one_ (i := 8) (N := none) bactParseHandx11_9_1ff rfl rfl (one_of HT_.out (by kernel_rfl)) (by decide) (fun K hK => ?_)
     have hs26 : w25.cell? ⟨gb310, 0, none⟩ = some (.int .i64 0) := (blk_cell BK310.out 0).trans rfl
     have hfs26 := blk_frozen BK310.out 0
     have hns26_0 := NB307_310.out
     have hms26_0 := NB310_307.out
     have hs27 : w25.cell? ⟨gb310, 1, none⟩ = some (.int .i64 0) := (blk_cell BK310.out 1).trans rfl
     have hfs27 := blk_frozen BK310.out 1
     have hns27_0 := NB307_310.out
     have hms27_0 := NB310_307.out
     refine skip_ (w1 := ?_) (by rfl) rfl ?_ ?_
     rotate_left
     ·go_simp
      rfl
     refine hK.out _ _ trivial (fun hHeld => ?_)
     clear hK K
     refine done_ (done_of HT_.out (by kernel_rfl)) ?_
     have hnb28 := NB310_307.out
     have hnc28 := NB307_310.out
     have hz29 := cf2_ BK310.out
     try go_wp2_with (first | ((with_reducible refine gate_callee (f := 42) rfl ?_); refine goesM_ (some 17) Tryz.func42 #[.agg #[.int .i64 t308, .int .i64 t309]] ?_; (with_reducible refine (impl_IsOrient.calls t308 t309 false _ A9.out).mono ?_); rintro e w30 ⟨rfl, hb⟩; refine ⟨_, rfl, ?_⟩; replace BK307 := aM_ (blk_below (g := gb307) (kR_ BK307) hb); replace BK310 := aM_ (blk_below (g := gb310) (o := .cells #[.int .i64 t308, .int .i64 t309] 25 (0, 0)) yactParseHandx11_4_ hb); replace HB := aM_ (below_step hB_ hb); (try clear hb); (try clear hb2); (try clear hk); (try clear hi); clear BK310; have hz31 := cf2_ BK307.out))
     refine bodyPost_ret (results_ct rfl _ _ gb307 25 #[.int .i64 0, .int .i64 0] (0, 0) _ rfl yactParseHandx11_5_ Tryz.underlying25 rfl (by kernel_rfl)) rfl ?_
     exact ⟨rT_, hB_⟩
   ·rw [if_neg c6] at H
    exact absurd H (by simp)
  ·rw [if_neg c3] at H
   exact absurd H (by simp)
 ·rw [if_neg c2] at H
  have c2b0 : ((a0.size : Int) == 2) = false := beq_eq_false_iff_ne.mpr c2
  have c2b1 : ((a0.size : Int) != 2) = true := bne_iff_ne.mpr c2
  simp only [Option.some.injEq, Prod.mk.injEq] at H
  obtain ⟨rfl, rfl, rfl⟩ := H
  go_enter Tryz.func23, Tryz.ntmps23
  go_wp2_with (first | ((with_reducible refine gate_dst (N := 2) rfl ?_); refine box_event ?hg (N := 2) ?hd (cs := #[.int .i64 0, .int .i64 0]) (t := 25) ?hr ?_; (case hd => rfl); (case hg => rfl); (case hr => first | (go_simp; done) | (go_simp; rfl)); intro gb307 hg w32 hbox hb; have BK307 := aM_ (hbox); have GW307 := aM_ (gw_ w hg); have GE307 := aM_ (gw_ w hg); replace HB := aM_ (below_step hB_ hb); clear hb hbox hg; have hz33 := cf2_ BK307.out))
  refine bodyPost_ret (results_ct rfl _ _ gb307 25 #[.int .i64 0, .int .i64 0] (0, 0) _ rfl yactParseHandx11_5_ Tryz.underlying25 rfl (by kernel_rfl)) rfl ?_
  exact ⟨rT_, hB_⟩

/-! ### impl_IsPlace: function 68 -/
set_option maxHeartbeats 8000000 in
set_option maxRecDepth 100000 in
theorem impl_IsPlace.calls (a0_0 : Int) (a0_1 : Int) (a0_2 : Bool) (r : Bool) (w : World) (h : impl_IsPlace.f a0_0 a0_1 a0_2 = some r) :
 Calls Tryz.prog 68 #[.agg #[.int .i64 a0_0, .int .i64 a0_1, .bool a0_2]] w fun e w' => e = .returned (.bool r) ∧ Below w.heap.size w w' := by
 have hu27 := Tryz.underlying27
 have HB := Aside0.mk (Below.refl w.heap.size w)
 have H : ((impl_within.f a0_0 0 9).bind fun t313 => (if t313 = true then ((impl_within.f a0_1 (-1) 1).bind fun t314 => (if t314 = true then (if a0_2 = true then (some (!(a0_0 == 0))) else (some (!false))) else (some false))) else (some false))) = some r := h
 clear h
 replace H := Option.bind_eq_some_iff.mp H
 obtain ⟨t313, A20, H⟩ := H
 try dsimp only at H
 have A2 := Aside0.mk A20
 clear A20
 by_cases c3 : t313 = true
 ·subst c3
  replace H := ip_ H rfl
  replace H := Option.bind_eq_some_iff.mp H
  obtain ⟨t314, A40, H⟩ := H
  try dsimp only at H
  have A4 := Aside0.mk A40
  clear A40
  by_cases c5 : t314 = true
  ·subst c5
   replace H := ip_ H rfl
   by_cases c6 : a0_2 = true
   ·subst c6
    replace H := ip_ H rfl
    obtain rfl := Option.some.inj H
    go_enter Tryz.func68, Tryz.ntmps68
    go_wp2_with (first | ((with_reducible refine gate_dst (N := 1) rfl ?_); refine box_event ?hg (N := 1) ?hd (cs := #[.int .i64 a0_0, .int .i64 a0_1, .bool true]) (t := 27) ?hr ?_; (case hd => rfl); (case hg => rfl); (case hr => first | (go_simp; done) | (go_simp; rfl)); intro gb312 hg w7 hbox hb; have BK312 := aM_ (hbox); have GW312 := aM_ (gw_ w hg); have GE312 := aM_ (gw_ w hg); replace HB := aM_ (below_step hB_ hb); clear hb hbox hg; have hz8 := cf3_ BK312.out) | ((with_reducible refine gate_callee (f := 37) rfl ?_); refine goesM_ (some 5) Tryz.func37 #[.int .i64 a0_0, .int .i64 0, .int .i64 9] ?_; (with_reducible refine (impl_within.calls a0_0 0 9 true _ A2.out).mono ?_); rintro e w' ⟨rfl, ⟨nd, rfl⟩⟩; refine ⟨_, rfl, ?_⟩) | (go_at_call 37; (with_reducible refine (impl_within.calls a0_1 (-1) 1 true _ A4.out).mono ?_); rintro e w' ⟨rfl, ⟨nd, rfl⟩⟩))
    go_ret
    exact ⟨rT_, hB_⟩
   ·replace c6 := Bool.eq_false_iff.mpr c6
    subst c6
    replace H := in_ H (show ¬ (false = true) by decide)
    obtain rfl := Option.some.inj H
    go_enter Tryz.func68, Tryz.ntmps68
    go_wp2_with (first | ((with_reducible refine gate_dst (N := 1) rfl ?_); refine box_event ?hg (N := 1) ?hd (cs := #[.int .i64 a0_0, .int .i64 a0_1, .bool false]) (t := 27) ?hr ?_; (case hd => rfl); (case hg => rfl); (case hr => first | (go_simp; done) | (go_simp; rfl)); intro gb312 hg w9 hbox hb; have BK312 := aM_ (hbox); have GW312 := aM_ (gw_ w hg); have GE312 := aM_ (gw_ w hg); replace HB := aM_ (below_step hB_ hb); clear hb hbox hg; have hz10 := cf3_ BK312.out) | ((with_reducible refine gate_callee (f := 37) rfl ?_); refine goesM_ (some 5) Tryz.func37 #[.int .i64 a0_0, .int .i64 0, .int .i64 9] ?_; (with_reducible refine (impl_within.calls a0_0 0 9 true _ A2.out).mono ?_); rintro e w' ⟨rfl, ⟨nd, rfl⟩⟩; refine ⟨_, rfl, ?_⟩) | (go_at_call 37; (with_reducible refine (impl_within.calls a0_1 (-1) 1 true _ A4.out).mono ?_); rintro e w' ⟨rfl, ⟨nd, rfl⟩⟩))
    go_ret
    exact ⟨rT_, hB_⟩
  ·replace c5 := Bool.eq_false_iff.mpr c5
   subst c5
   replace H := in_ H (show ¬ (false = true) by decide)
   obtain rfl := Option.some.inj H
   go_enter Tryz.func68, Tryz.ntmps68
   go_wp2_with (first | ((with_reducible refine gate_dst (N := 1) rfl ?_); refine box_event ?hg (N := 1) ?hd (cs := #[.int .i64 a0_0, .int .i64 a0_1, .bool a0_2]) (t := 27) ?hr ?_; (case hd => rfl); (case hg => rfl); (case hr => first | (go_simp; done) | (go_simp; rfl)); intro gb312 hg w11 hbox hb; have BK312 := aM_ (hbox); have GW312 := aM_ (gw_ w hg); have GE312 := aM_ (gw_ w hg); replace HB := aM_ (below_step hB_ hb); clear hb hbox hg; have hz12 := cf3_ BK312.out) | ((with_reducible refine gate_callee (f := 37) rfl ?_); refine goesM_ (some 5) Tryz.func37 #[.int .i64 a0_0, .int .i64 0, .int .i64 9] ?_; (with_reducible refine (impl_within.calls a0_0 0 9 true _ A2.out).mono ?_); rintro e w' ⟨rfl, ⟨nd, rfl⟩⟩; refine ⟨_, rfl, ?_⟩; clear BK312) | (go_at_call 37; (with_reducible refine (impl_within.calls a0_1 (-1) 1 false _ A4.out).mono ?_); rintro e w' ⟨rfl, ⟨nd, rfl⟩⟩))
   go_ret
   exact ⟨rT_, hB_⟩
 ·replace c3 := Bool.eq_false_iff.mpr c3
  subst c3
  replace H := in_ H (show ¬ (false = true) by decide)
  obtain rfl := Option.some.inj H
  go_enter Tryz.func68, Tryz.ntmps68
  go_wp2_with (first | ((with_reducible refine gate_dst (N := 1) rfl ?_); refine box_event ?hg (N := 1) ?hd (cs := #[.int .i64 a0_0, .int .i64 a0_1, .bool a0_2]) (t := 27) ?hr ?_; (case hd => rfl); (case hg => rfl); (case hr => first | (go_simp; done) | (go_simp; rfl)); intro gb312 hg w13 hbox hb; have BK312 := aM_ (hbox); have GW312 := aM_ (gw_ w hg); have GE312 := aM_ (gw_ w hg); replace HB := aM_ (below_step hB_ hb); clear hb hbox hg; have hz14 := cf3_ BK312.out; clear BK312) | ((with_reducible refine gate_callee (f := 37) rfl ?_); refine goesM_ (some 5) Tryz.func37 #[.int .i64 a0_0, .int .i64 0, .int .i64 9] ?_; (with_reducible refine (impl_within.calls a0_0 0 9 false _ A2.out).mono ?_); rintro e w' ⟨rfl, ⟨nd, rfl⟩⟩; refine ⟨_, rfl, ?_⟩))
  go_ret
  exact ⟨rT_, hB_⟩

/-! ### impl_PlaceOfCode: function 43 -/
set_option maxHeartbeats 8000000 in
set_option maxRecDepth 100000 in
theorem impl_PlaceOfCode.calls (a0 : Int) (r1 : Int) (r2 : Int) (r3 : Bool) (r4 : Bool) (w : World) (h : impl_PlaceOfCode.f a0 = some (r1, r2, r3, r4)) :
 Calls Tryz.prog 43 #[.int .i64 a0] w fun e w' => e = .returned (.tuple #[.agg #[.int .i64 r1, .int .i64 r2, .bool r3], .bool r4]) ∧ Below w.heap.size w w' := by
 have hu27 := Tryz.underlying27
 have HB := Aside0.mk (Below.refl w.heap.size w)
 have H : ((impl_within.f a0 0 59).bind fun t316 => (if t316 = true then ((impl_IsPlace.f (wrap64 (Int.tdiv a0 6)) (wrap64 ((wrap64 (Int.tdiv (Int.tmod a0 6) 2)) - 1)) ((Int.tmod a0 2) == 1)).bind fun t318 => (if t318 = true then (some (wrap64 (Int.tdiv a0 6), wrap64 ((wrap64 (Int.tdiv (Int.tmod a0 6) 2)) - 1), ((Int.tmod a0 2) == 1), true)) else (some (0, 0, false, false)))) else (some (0, 0, false, false)))) = some (r1, r2, r3, r4) := h
 clear h
 replace H := Option.bind_eq_some_iff.mp H
 obtain ⟨t316, A20, H⟩ := H
 try dsimp only at H
 have A2 := Aside0.mk A20
 clear A20
 by_cases c3 : t316 = true
 ·subst c3
  replace H := ip_ H rfl
  replace H := Option.bind_eq_some_iff.mp H
  obtain ⟨t318, A40, H⟩ := H
  try dsimp only at H
  have A4 := Aside0.mk A40
  clear A40
  by_cases c5 : t318 = true
  ·subst c5
   replace H := ip_ H rfl
   simp only [Option.some.injEq, Prod.mk.injEq] at H
   obtain ⟨rfl, rfl, rfl, rfl⟩ := H
   go_enter Tryz.func43, Tryz.ntmps43
   go_wp2_with (first | ((with_reducible refine gate_dst (N := 2) rfl ?_); refine box_event ?hg (N := 2) ?hd (cs := #[.int .i64 0, .int .i64 0, .bool false]) (t := 27) ?hr ?_; (case hd => rfl); (case hg => rfl); (case hr => first | (go_simp; done) | (go_simp; rfl)); intro gb315 hg w6 hbox hb; have BK315 := aM_ (hbox); have GW315 := aM_ (gw_ w hg); have GE315 := aM_ (gw_ w hg); replace HB := aM_ (below_step hB_ hb); clear hb hbox hg) | ((with_reducible refine gate_callee (f := 37) rfl ?_); refine goesM_ (some 6) Tryz.func37 #[.int .i64 a0, .int .i64 0, .int .i64 59] ?_; (with_reducible refine (impl_within.calls a0 0 59 true _ A2.out).mono ?_); rintro e w' ⟨rfl, ⟨nd, rfl⟩⟩; refine ⟨_, rfl, ?_⟩; (try (rw [drewN_self w6]; generalize hq_ : World.drewN w6 _ = w6; have n0_ : Aside0 (w6.heap[gb315]? = some (.cells #[.int .i64 0, .int .i64 0, .bool false] 27 (0, 0))) := ⟨yactParseHandx11_6_⟩; have n1_ : Aside0 (Below w.heap.size w w6) := ⟨by rw [← hq_]; exact hB_⟩; clear BK315 HB hq_; have BK315 := n0_; have HB := n1_; clear n0_ n1_))) | ((with_reducible refine gate_dst (N := 4) rfl ?_); refine box_event ?hg (N := 4) ?hd (cs := #[.int .i64 0, .int .i64 0, .bool false]) (t := 27) ?hr ?_; (case hd => rfl); (case hg => rfl); (case hr => first | (go_simp; done) | (go_simp; rfl)); intro gb317 hg w7 hbox hb; have BK317 := aM_ (hbox); have GW317 := aM_ (gw_ w hg); have GE317 := aM_ (gw_ w hg); have NB315_317 := aM_ (nR_ BK315 hg); have NB317_315 := aM_ (mR_ BK315 hg); replace BK315 := aM_ (blk_below (g := gb315) (kR_ BK315) hb); replace HB := aM_ (below_step hB_ hb); clear hb hbox hg; have hnb8 := NB317_315.out; have hnc8 := NB315_317.out; have hz9 := cf3_ BK317.out) | ((with_reducible refine gate_callee (f := 68) rfl ?_); refine goesM_ (some 20) Tryz.func68 #[.agg #[.int .i64 (wrap64 (Int.tdiv a0 6)), .int .i64 (wrap64 ((wrap64 (Int.tdiv (Int.tmod a0 6) 2)) - 1)), .bool ((Int.tmod a0 2) == 1)]] ?_; (with_reducible refine (impl_IsPlace.calls (wrap64 (Int.tdiv a0 6)) (wrap64 ((wrap64 (Int.tdiv (Int.tmod a0 6) 2)) - 1)) ((Int.tmod a0 2) == 1) true _ A4.out).mono ?_); rintro e w10 ⟨rfl, hb⟩; refine ⟨_, rfl, ?_⟩; replace BK315 := aM_ (blk_below (g := gb315) (kR_ BK315) hb); replace BK317 := aM_ (blk_below (g := gb317) (o := .cells #[.int .i64 (wrap64 (Int.tdiv a0 6)), .int .i64 (wrap64 ((wrap64 (Int.tdiv (Int.tmod a0 6) 2)) - 1)), .bool ((Int.tmod a0 2) == 1)] 27 (0, 0)) yactParseHandx11_7_ hb); replace HB := aM_ (below_step hB_ hb); (try clear hb); (try clear hb2); (try clear hk); (try clear hi); have hz11 := cf3_ BK317.out; clear BK317; have hz12 := cf3_ BK315.out))
   refine bodyPost_ret (results_ct rfl _ _ gb315 27 #[.int .i64 (wrap64 (Int.tdiv a0 6)), .int .i64 (wrap64 ((wrap64 (Int.tdiv (Int.tmod a0 6) 2)) - 1)), .bool ((Int.tmod a0 2) == 1)] (0, 0) _ rfl (by (with_reducible repeat (first | apply kN_ | apply kD_ | apply kA_)); refine blk_put (cs := #[.int .i64 (wrap64 (Int.tdiv a0 6)), .int .i64 (wrap64 ((wrap64 (Int.tdiv (Int.tmod a0 6) 2)) - 1)), .bool false]) ?_ 2 _ rfl; (with_reducible repeat (first | apply kN_ | apply kD_ | apply kA_)); refine blk_put (cs := #[.int .i64 (wrap64 (Int.tdiv a0 6)), .int .i64 0, .bool false]) ?_ 1 _ rfl; (with_reducible repeat (first | apply kN_ | apply kD_ | apply kA_)); refine blk_put (cs := #[.int .i64 0, .int .i64 0, .bool false]) ?_ 0 _ rfl; (with_reducible repeat (first | apply kN_ | apply kD_ | apply kA_)); exact BK315.out) Tryz.underlying27 rfl (by kernel_rfl)) rfl ?_
   exact ⟨rT_, hB_⟩
  ·replace c5 := Bool.eq_false_iff.mpr c5
   subst c5
   replace H := in_ H (show ¬ (false = true) by decide)
   simp only [Option.some.injEq, Prod.mk.injEq] at H
   obtain ⟨rfl, rfl, rfl, rfl⟩ := H
   go_enter Tryz.func43, Tryz.ntmps43
   go_wp2_with (first | ((with_reducible refine gate_dst (N := 2) rfl ?_); refine box_event ?hg (N := 2) ?hd (cs := #[.int .i64 0, .int .i64 0, .bool false]) (t := 27) ?hr ?_; (case hd => rfl); (case hg => rfl); (case hr => first | (go_simp; done) | (go_simp; rfl)); intro gb315 hg w13 hbox hb; have BK315 := aM_ (hbox); have GW315 := aM_ (gw_ w hg); have GE315 := aM_ (gw_ w hg); replace HB := aM_ (below_step hB_ hb); clear hb hbox hg) | ((with_reducible refine gate_callee (f := 37) rfl ?_); refine goesM_ (some 6) Tryz.func37 #[.int .i64 a0, .int .i64 0, .int .i64 59] ?_; (with_reducible refine (impl_within.calls a0 0 59 true _ A2.out).mono ?_); rintro e w' ⟨rfl, ⟨nd, rfl⟩⟩; refine ⟨_, rfl, ?_⟩; (try (rw [drewN_self w13]; generalize hq_ : World.drewN w13 _ = w13; have n0_ : Aside0 (w13.heap[gb315]? = some (.cells #[.int .i64 0, .int .i64 0, .bool false] 27 (0, 0))) := ⟨yactParseHandx11_6_⟩; have n1_ : Aside0 (Below w.heap.size w w13) := ⟨by rw [← hq_]; exact hB_⟩; clear BK315 HB hq_; have BK315 := n0_; have HB := n1_; clear n0_ n1_))) | ((with_reducible refine gate_dst (N := 4) rfl ?_); refine box_event ?hg (N := 4) ?hd (cs := #[.int .i64 0, .int .i64 0, .bool false]) (t := 27) ?hr ?_; (case hd => rfl); (case hg => rfl); (case hr => first | (go_simp; done) | (go_simp; rfl)); intro gb317 hg w14 hbox hb; have BK317 := aM_ (hbox); have GW317 := aM_ (gw_ w hg); have GE317 := aM_ (gw_ w hg); have NB315_317 := aM_ (nR_ BK315 hg); have NB317_315 := aM_ (mR_ BK315 hg); replace BK315 := aM_ (blk_below (g := gb315) (kR_ BK315) hb); replace HB := aM_ (below_step hB_ hb); clear hb hbox hg; have hnb15 := NB317_315.out; have hnc15 := NB315_317.out; have hz16 := cf3_ BK317.out) | ((with_reducible refine gate_callee (f := 68) rfl ?_); refine goesM_ (some 20) Tryz.func68 #[.agg #[.int .i64 (wrap64 (Int.tdiv a0 6)), .int .i64 (wrap64 ((wrap64 (Int.tdiv (Int.tmod a0 6) 2)) - 1)), .bool ((Int.tmod a0 2) == 1)]] ?_; (with_reducible refine (impl_IsPlace.calls (wrap64 (Int.tdiv a0 6)) (wrap64 ((wrap64 (Int.tdiv (Int.tmod a0 6) 2)) - 1)) ((Int.tmod a0 2) == 1) false _ A4.out).mono ?_); rintro e w17 ⟨rfl, hb⟩; refine ⟨_, rfl, ?_⟩; replace BK315 := aM_ (blk_below (g := gb315) (kR_ BK315) hb); replace BK317 := aM_ (blk_below (g := gb317) (o := .cells #[.int .i64 (wrap64 (Int.tdiv a0 6)), .int .i64 (wrap64 ((wrap64 (Int.tdiv (Int.tmod a0 6) 2)) - 1)), .bool ((Int.tmod a0 2) == 1)] 27 (0, 0)) yactParseHandx11_7_ hb); replace HB := aM_ (below_step hB_ hb); (try clear hb); (try clear hb2); (try clear hk); (try clear hi); clear BK317; have hz18 := cf3_ BK315.out))
   refine bodyPost_ret (results_ct rfl _ _ gb315 27 #[.int .i64 0, .int .i64 0, .bool false] (0, 0) _ rfl yactParseHandx11_8_ Tryz.underlying27 rfl (by kernel_rfl)) rfl ?_
   exact ⟨rT_, hB_⟩
 ·replace c3 := Bool.eq_false_iff.mpr c3
  subst c3
  replace H := in_ H (show ¬ (false = true) by decide)
  simp only [Option.some.injEq, Prod.mk.injEq] at H
  obtain ⟨rfl, rfl, rfl, rfl⟩ := H
  go_enter Tryz.func43, Tryz.ntmps43
  go_wp2_with (first | ((with_reducible refine gate_dst (N := 2) rfl ?_); refine box_event ?hg (N := 2) ?hd (cs := #[.int .i64 0, .int .i64 0, .bool false]) (t := 27) ?hr ?_; (case hd => rfl); (case hg => rfl); (case hr => first | (go_simp; done) | (go_simp; rfl)); intro gb315 hg w19 hbox hb; have BK315 := aM_ (hbox); have GW315 := aM_ (gw_ w hg); have GE315 := aM_ (gw_ w hg); replace HB := aM_ (below_step hB_ hb); clear hb hbox hg) | ((with_reducible refine gate_callee (f := 37) rfl ?_); refine goesM_ (some 6) Tryz.func37 #[.int .i64 a0, .int .i64 0, .int .i64 59] ?_; (with_reducible refine (impl_within.calls a0 0 59 false _ A2.out).mono ?_); rintro e w' ⟨rfl, ⟨nd, rfl⟩⟩; refine ⟨_, rfl, ?_⟩; (try (rw [drewN_self w19]; generalize hq_ : World.drewN w19 _ = w19; have n0_ : Aside0 (w19.heap[gb315]? = some (.cells #[.int .i64 0, .int .i64 0, .bool false] 27 (0, 0))) := ⟨yactParseHandx11_6_⟩; have n1_ : Aside0 (Below w.heap.size w w19) := ⟨by rw [← hq_]; exact hB_⟩; clear BK315 HB hq_; have BK315 := n0_; have HB := n1_; clear n0_ n1_)); have hz20 := cf3_ BK315.out))
  refine bodyPost_ret (results_ct rfl _ _ gb315 27 #[.int .i64 0, .int .i64 0, .bool false] (0, 0) _ rfl yactParseHandx11_8_ Tryz.underlying27 rfl (by kernel_rfl)) rfl ?_
  exact ⟨rT_, hB_⟩

/-! ### impl_Place_text: function 44, by hand -/
theorem impl_Place_text.ix0 (W : World) : Sem.run Tryz.prog (Instr.index 89 (Value.agg #[Value.string { data := #[60] }, Value.string { data := #[] }, Value.string { data := #[62] }]) (Value.int IntKind.i64 0)) W = .ok (Value.string { data := #[60] }) W := by kernel_rfl
theorem impl_Place_text.ix1 (W : World) : Sem.run Tryz.prog (Instr.index 89 (Value.agg #[Value.string { data := #[60] }, Value.string { data := #[] }, Value.string { data := #[62] }]) (Value.int IntKind.i64 1)) W = .ok (Value.string { data := #[] }) W := by kernel_rfl
theorem impl_Place_text.ix2 (W : World) : Sem.run Tryz.prog (Instr.index 89 (Value.agg #[Value.string { data := #[60] }, Value.string { data := #[] }, Value.string { data := #[62] }]) (Value.int IntKind.i64 2)) W = .ok (Value.string { data := #[62] }) W := by kernel_rfl
theorem impl_Place_text.cell (n : Nat) (h : n < 10) : [Value.string { data := #[115, 112, 97, 99, 101] }, Value.string { data := #[104, 101, 97, 100] }, Value.string { data := #[101, 121, 101] }, Value.string { data := #[99, 104, 101, 101, 107] }, Value.string { data := #[109, 111, 117, 116, 104] }, Value.string { data := #[99, 104, 105, 110] }, Value.string { data := #[110, 101, 99, 107] }, Value.string { data := #[99, 104, 101, 115, 116] }, Value.string { data := #[119, 97, 105, 115, 116] }, Value.string { data := #[104, 105, 112] }][n]? = some (Value.string (impl_Place_text.nm n)) := by
 have : n = 0 ∨ n = 1 ∨ n = 2 ∨ n = 3 ∨ n = 4 ∨ n = 5 ∨ n = 6 ∨ n = 7 ∨ n = 8 ∨ n = 9 := by omega
 rcases this with rfl | rfl | rfl | rfl | rfl | rfl | rfl | rfl | rfl | rfl <;> rfl
theorem impl_Place_text.cell2 (n : Nat) (h : n < 10) : ∀ hh, [Value.string { data := #[115, 112, 97, 99, 101] }, Value.string { data := #[104, 101, 97, 100] }, Value.string { data := #[101, 121, 101] }, Value.string { data := #[99, 104, 101, 101, 107] }, Value.string { data := #[109, 111, 117, 116, 104] }, Value.string { data := #[99, 104, 105, 110] }, Value.string { data := #[110, 101, 99, 107] }, Value.string { data := #[99, 104, 101, 115, 116] }, Value.string { data := #[119, 97, 105, 115, 116] }, Value.string { data := #[104, 105, 112] }][n]'hh = Value.string (impl_Place_text.nm n) := by
 intro hh
 have := impl_Place_text.cell n h
 rw [List.getElem?_eq_getElem hh] at this
 exact Option.some.inj this
theorem impl_Place_text.nm_size (n : Nat) : (impl_Place_text.nm n).size ≤ 5 := by
 by_cases h : n < 10
 ·have : n = 0 ∨ n = 1 ∨ n = 2 ∨ n = 3 ∨ n = 4 ∨ n = 5 ∨ n = 6 ∨ n = 7 ∨ n = 8 ∨ n = 9 := by omega
  rcases this with rfl | rfl | rfl | rfl | rfl | rfl | rfl | rfl | rfl | rfl <;> decide
 ·unfold impl_Place_text.nm
  rw [List.getD_eq_getElem?_getD, List.getElem?_eq_none (by simpa using h)]
  decide
set_option maxHeartbeats 4000000 in
set_option maxRecDepth 100000 in
theorem impl_Place_text.calls (a0_0 : Int) (a0_1 : Int) (a0_2 : Bool) (r : ByteArray) (w : World) (h : impl_Place_text.f a0_0 a0_1 a0_2 = some r) :
 Calls Tryz.prog 44 #[.agg #[.int .i64 a0_0, .int .i64 a0_1, .bool a0_2]] w fun e w' => e = .returned (.string r) ∧ Below w.heap.size w w' := by
 unfold impl_Place_text.f at h
 by_cases hr : 0 ≤ a0_0 ∧ a0_0 ≤ 9
 case neg => rw [if_neg hr] at h; cases h
 rw [if_pos hr] at h
 obtain ⟨n, rfl⟩ := Int.eq_ofNat_of_zero_le hr.1
 have hn : n < 10 := by omega
 clear hr
 rw [Int.toNat_natCast] at h
 have hu1 := Tryz.underlying27
 have hu2 := Tryz.underlying88
 have hu3 := Tryz.underlying89
 have i0 := impl_Place_text.ix0
 have i1 := impl_Place_text.ix1
 have i2 := impl_Place_text.ix2
 have wr0 : IntKind.i64.wrap 0 = 0 := by decide
 have wr1 : IntKind.i64.wrap 1 = 1 := by decide
 have wr2 : IntKind.i64.wrap 2 = 2 := by decide
 have hc := impl_Place_text.cell n hn
 have hc2 := impl_Place_text.cell2 n hn
 have hz := impl_Place_text.nm_size n
 have s0 : ¬ 9223372036854775807 < (impl_Place_text.nm n).size := by omega
 have s1 : ¬ 9223372036854775807 < (impl_Place_text.nm n).size + 1 := by omega
 have s2 : ¬ 9223372036854775807 < (impl_Place_text.nm n).size + 1 + 1 := by omega
 have h0 : 0 ≤ (n : Int) := by omega
 have h9 : (n : Int) < 10 := by omega
 by_cases e0 : a0_1 = -1
 ·subst e0
  rw [if_pos rfl] at h
  cases a0_2
  all_goals
   have H := Aside0.mk h
   clear h
   go_enter Tryz.func44, Tryz.ntmps44
   go_wp2
   go_region
   go_wp2
   go_ret
   exact ⟨yactParseHandx11_9_, yactParseHandx11_10_⟩
 rw [if_neg e0] at h
 by_cases e1 : a0_1 = 0
 ·subst e1
  clear e0
  rw [if_pos rfl] at h
  cases a0_2
  all_goals
   have H := Aside0.mk h
   clear h
   go_enter Tryz.func44, Tryz.ntmps44
   go_wp2
   go_region
   go_wp2
   go_ret
   exact ⟨by have h' := H.out; simp only [Bool.false_eq_true, if_false, if_true, Option.some.injEq] at h'; subst h'; first | rfl | (exact congrArg (fun s : ByteArray => Ending.returned (Value.string s)) (by simp)), yactParseHandx11_10_⟩
 rw [if_neg e1] at h
 by_cases e2 : a0_1 = 1
 case neg => rw [if_neg e2] at h; cases h
 subst e2
 clear e0 e1
 rw [if_pos rfl] at h
 cases a0_2
 all_goals
  have H := Aside0.mk h
  clear h
  go_enter Tryz.func44, Tryz.ntmps44
  go_wp2
  go_region
  go_wp2
  go_ret
  exact ⟨yactParseHandx11_9_, yactParseHandx11_10_⟩

end Go.Proofs.YtcapebhnioblbaaGreatDoor.PFnExactParseHand
