/- Written by a program of this claim's author, out of the loaded program as Lean prints it: the functions as Lean functions, and that the calls answer so. -/
import Derived.Test.YtmongpocangocaaPFnExactTeachOrderx0
import Derived.Test.YtmongpocangocaaPFnExactTeachOrderx5
import Derived.Test.YtmongpocangocaaPFnExactTeachOrderx6
import Derived.Test.YtmongpocangocaaPFnExactTeachOrderxD0
namespace Go.Proofs.Ytmongpocangocaa.PFnExactTeachOrder
open Go.RowKit Go.Proofs.YtmongpocangocaaW.PrintWords Go.Proofs.YtmongpocangocaaW.PrintLast Go.Proofs.YtmongpocangocaaW.PrintMore
attribute [local go_sem] max2_int min2_int max_two min_two max_three min_three max_four min_four isSome_setCell   -- for this text's walks alone
theorem yactTeachOrderx7_0_ {p : Prop} (h : p := by first | rfl | (simp; done) | (simp [*]; done)) : p := h
theorem yactTeachOrderx7_1_ {p : Prop} (h : p := by first | (with_reducible assumption) | assumption) : p := h
theorem yactTeachOrderx7_2_ {p : Prop} (h : p := by (with_reducible repeat (first | apply kN_ | apply kD_ | apply kA_)); refine blk_put (cs := #[.string ((rd_T43 l0 x7_1).f0), .slice A212_1 ((rd_T43 l0 x7_1).f1).length c212_1, .int .i64 0]) ?_ 2 _ rfl; (with_reducible repeat (first | apply kN_ | apply kD_ | apply kA_)); refine blk_put (cs := #[.string ((rd_T43 l0 x7_1).f0), .slice none 0 0, .int .i64 0]) ?_ 1 _ rfl; (with_reducible repeat (first | apply kN_ | apply kD_ | apply kA_)); refine blk_put (cs := #[.string (⟨#[]⟩ : ByteArray), .slice none 0 0, .int .i64 0]) ?_ 0 _ rfl; (with_reducible repeat (first | apply kN_ | apply kD_ | apply kA_)); exact BK213.out) : p := h
theorem yactTeachOrderx7_3_ {p : Prop} (h : p := by have := HK1.out; first | omega | exact Nat.le_refl _) : p := h
abbrev bactTeachOrderx7_14_0 : Array Bool := #[false, false, false, false, false, false, false, false, false, false, false, false, false, false]
abbrev bactTeachOrderx7_14_1 : Array Bool := #[true, false, false, false, false, false, false, false, false, false, false, false, false, false]
abbrev bactTeachOrderx7_14_11 : Array Bool := #[true, false, false, false, true, false, false, false, false, false, false, false, false, false]
abbrev bactTeachOrderx7_14_13 : Array Bool := #[true, true, false, false, true, false, false, false, false, false, false, false, false, false]
abbrev bactTeachOrderx7_14_1ff : Array Bool := #[true, true, true, true, true, true, true, true, true, false, false, false, false, false]
abbrev bactTeachOrderx7_14_1fff : Array Bool := #[true, true, true, true, true, true, true, true, true, true, true, true, true, false]
abbrev bactTeachOrderx7_14_33 : Array Bool := #[true, true, false, false, true, true, false, false, false, false, false, false, false, false]
abbrev bactTeachOrderx7_14_3ff : Array Bool := #[true, true, true, true, true, true, true, true, true, true, false, false, false, false]
abbrev bactTeachOrderx7_14_3fff : Array Bool := #[true, true, true, true, true, true, true, true, true, true, true, true, true, true]
abbrev bactTeachOrderx7_14_73 : Array Bool := #[true, true, false, false, true, true, true, false, false, false, false, false, false, false]
abbrev bactTeachOrderx7_14_77 : Array Bool := #[true, true, true, false, true, true, true, false, false, false, false, false, false, false]
abbrev bactTeachOrderx7_14_7f : Array Bool := #[true, true, true, true, true, true, true, false, false, false, false, false, false, false]
abbrev bactTeachOrderx7_14_7ff : Array Bool := #[true, true, true, true, true, true, true, true, true, true, true, false, false, false]
abbrev bactTeachOrderx7_14_ff : Array Bool := #[true, true, true, true, true, true, true, true, false, false, false, false, false, false]
abbrev bactTeachOrderx7_14_fff : Array Bool := #[true, true, true, true, true, true, true, true, true, true, true, true, false, false]
set_option linter.unusedVariables false
set_option linter.unusedSimpArgs false

/-! ### impl_AreWords: function 22 -/
def impl_AreWords.T6 : Bool × List (List Nat × List Nat) := (true, [([], []), ([0], [0]), ([1], [1]), ([2], [2]), ([], []), ([4], [4]), ([5], [5]), ([3, 6], [3, 6]), ([7, 2], [7]), ([8], [8]), ([9, 8], [8, 9]), ([10, 8, 8], [8, 10]), ([11, 8], [8, 11]), ([8, 12], [8, 12])])
def impl_AreWords.B6 : List Nat := [0, 1, 3, 7, 0, 16, 48, 127, 255, 511, 1023, 2047, 4095, 8191]
theorem impl_AreWords.tab6 : rtab .any (opsOf Try.f22 6) = impl_AreWords.T6 := by kernel_rfl
theorem impl_AreWords.bits6 : waitsOk impl_AreWords.T6.2 impl_AreWords.B6 = true := by kernel_rfl
set_option maxHeartbeats 8000000 in
set_option maxRecDepth 100000 in
theorem impl_AreWords.calls (k : Nat) (A0 : Option Addr) (c0 : Nat) (l0 : List (S43)) (r : Bool) (w : World) (hr0 : Kd.C k43 w A0 l0.length l0) (hc0 : l0.length ≤ c0) (h : impl_AreWords.f k l0 = some r) :
 Calls Try.prog 22 #[.slice A0 l0.length c0] w fun e w' => e = .returned (.bool r) ∧ Below w.heap.size w w' := by
 have hu43 := Try.underlying43
 have HR0 := Aside0.mk hr0
 have HC0 := Aside0.mk hc0
 clear hr0 hc0
 have HB := Aside0.mk (Below.refl w.heap.size w)
 have H : (impl_AreWords.l0 k l0 l0 (l0.length : Int) 0) = some r := h
 clear h
 have H' := Aside0.mk H
 clear H
 go_enter Try.func22, Try.ntmps22
 go_wp2
 go_loopg [7] k (fun kq v7 w' => ∃ (x7_1 : Int), v7 = .int .i64 x7_1 ∧ Aside0 (impl_AreWords.l0 kq l0 l0 (l0.length : Int) x7_1 = some r) ∧ Aside0 (kq ≤ k) ∧ Aside0 (Below w.heap.size w w'))
 case atStart => exact ⟨(0), yactTeachOrderx7_0_, H', ⟨Nat.le_refl _⟩, ⟨hB_⟩⟩
 case round =>
  clear H'
  obtain ⟨x7_1, rfl, HA, HK1, HB⟩ := hrel
  cases gk with
  | zero => exact absurd HA.out (by simp [impl_AreWords.l0])
  | succ k1 =>
   have H := HA.out
   clear HA
   simp only [impl_AreWords.l0] at H
   by_cases c2 : x7_1 < (l0.length : Int)
   ·rw [if_pos c2] at H
    have c2b0 : decide (x7_1 < (l0.length : Int)) = true := decide_eq_true c2
    clear c2
    by_cases c3 : 0 ≤ x7_1
    ·rw [if_pos c3] at H
     have c3b0 : decide (0 ≤ x7_1) = true := decide_eq_true c3
     clear c3
     by_cases c4 : x7_1 < (l0.length : Int)
     ·rw [if_pos c4] at H
      have c4b0 : decide (x7_1 < (l0.length : Int)) = true := decide_eq_true c4
      clear c4
      have HC5 := Aside0.mk H
      clear H
      have p212 : 0 ≤ (x7_1 : Int) := of_decide_eq_true yactTeachOrderx7_1_
      have q212 : x7_1 < (l0.length : Int) := of_decide_eq_true yactTeachOrderx7_1_
      obtain ⟨ad212, A212_1, c212_1, e212, hx212_0, hx212_1, hx212_2, hl212_1, hi212_1⟩ := at_T43 HR0.out x7_1 p212 q212
      cases e212
      replace hx212_0 := (HB.out.cell (World.block_lt_of_cell? w _ hx212_0)).trans hx212_0
      replace hx212_1 := (HB.out.cell (World.block_lt_of_cell? w _ hx212_1)).trans hx212_1
      replace hx212_2 := (HB.out.cell (World.block_lt_of_cell? w _ hx212_2)).trans hx212_2
      have HR212_1 := Aside0.mk hi212_1
      have HC212_1 := Aside0.mk hl212_1
      clear hi212_1 hl212_1
      replace p212 := eq_true p212
      replace q212 := eq_true q212
      go_upto_region 4 with (first | ((with_reducible refine gate_dst (N := 4) rfl ?_); (try (refine gate_guard (by rfl) ?_; dsimp only)); refine box_event ?hg (N := 4) ?hd (cs := #[.string (⟨#[]⟩ : ByteArray), .slice none 0 0, .int .i64 0]) (t := 43) ?hr ?_; (case hd => rfl); (case hg => rfl); (case hr => first | (go_simp; done) | (go_simp; rfl)); intro gb213 hg w6 hbox hb; have BK213 := aM_ (hbox); have GW213 := aM_ (gw_ w hg); have GE213 := aM_ (gw_ w hg); replace HB := aM_ (below_step hB_ hb); clear hb hbox hg; have hz7 := cf3_ BK213.out))
      (try simp only [Act.put, List.setIfInBounds_toArray, List.set_cons_zero, List.set_cons_succ])
      go_cut [36] (fun v36 wc => ∃ (kq : Nat) (x36_4 : Bool), v36 = .bool x36_4 ∧ Aside0 (impl_AreWords.j1 kq l0 x7_1 l0 (l0.length : Int) x7_1 x36_4 ((rd_T43 l0 x7_1).f0) ((rd_T43 l0 x7_1).f1) ((rd_T43 l0 x7_1).f2) = some r) ∧ Aside0 (kq ≤ k1) ∧ Aside0 (wc.heap[gb213]? = some (.cells #[.string ((rd_T43 l0 x7_1).f0), (.slice A212_1 ((rd_T43 l0 x7_1).f1).length c212_1), .int .i64 ((rd_T43 l0 x7_1).f2)] 43 (0, 0))) ∧ Aside0 (Below w.heap.size w wc))
      case first =>
       have H := HC5.out
       clear HC5
       replace H := Option.bind_eq_some_iff.mp H
       obtain ⟨t214, A80, H⟩ := H
       try dsimp only at H
       have A8 := Aside0.mk A80
       clear A80
       by_cases c9 : t214 = true
       ·subst c9
        replace H := ip_ H rfl
        replace H := Option.bind_eq_some_iff.mp H
        obtain ⟨t215, A100, H⟩ := H
        try dsimp only at H
        have A10 := Aside0.mk A100
        clear A100
        by_cases c11 : t215 = true
        ·subst c11
         replace H := ip_ H rfl
         replace H := Option.bind_eq_some_iff.mp H
         obtain ⟨t216, A120, H⟩ := H
         try dsimp only at H
         have A12 := Aside0.mk A120
         clear A120
         by_cases c13 : t216 = true
         ·subst c13
          replace H := ip_ H rfl
          replace H := Option.bind_eq_some_iff.mp H
          obtain ⟨t217, A140, H⟩ := H
          try dsimp only at H
          have A14 := Aside0.mk A140
          clear A140
          have H' := Aside0.mk H
          clear H
          have hz15 := cf3_ BK213.out
          go_wp2_with (first | ((with_reducible refine gate_callee (f := 38) rfl ?_); refine goesM_ (some 14) Try.func38 #[.string ((rd_T43 l0 x7_1).f0)] ?_; (with_reducible refine (impl_IsGloss.calls k1 ((rd_T43 l0 x7_1).f0) true _ A8.out).mono ?_); rintro e w' ⟨rfl, ⟨nd, rfl⟩⟩; refine ⟨_, rfl, ?_⟩) | (go_at_call 23; (with_reducible refine (impl_within.calls ((rd_T43 l0 x7_1).f2) 0 99999 true _ A10.out).mono ?_); rintro e w' ⟨rfl, ⟨nd, rfl⟩⟩) | (go_at_call 39; (with_reducible refine (impl_allWithin.calls k1 _ _ ((rd_T43 l0 x7_1).f1) 0 (wrap64 ((l0.length : Int) - 1)) true _ ?side1 ?side2 A12.out).mono ?_); (case side1 => exact Kd.C_below HR212_1.out hB_); (case side2 => exact HC212_1.out); rintro e w16 ⟨rfl, hb⟩; replace BK213 := aM_ (blk_below (g := gb213) (o := .cells #[.string ((rd_T43 l0 x7_1).f0), .slice A212_1 ((rd_T43 l0 x7_1).f1).length c212_1, .int .i64 ((rd_T43 l0 x7_1).f2)] 43 (0, 0)) yactTeachOrderx7_2_ hb); replace HB := aM_ (below_step hB_ hb); (try clear hb); (try clear hb2); (try clear hk); (try clear hi); have hz17 := cf3_ BK213.out) | (go_at_call 25; (with_reducible refine (slices_Contains_int.calls k1 _ _ ((rd_T43 l0 x7_1).f1) x7_1 t217 _ ?side1 ?side2 A14.out).mono ?_); (case side1 => repeat (first | exact (Kd.C_below HR212_1.out HB.out) | (with_reducible refine Kd.C_alloc ?_ _) | (with_reducible refine Kd.C_drewN ?_ _) | (with_reducible refine Kd.C_drew ?_))); (case side2 => exact HC212_1.out); rintro e w' ⟨rfl, ⟨nd, rfl⟩⟩))
          go_meet
          case rel => exact ⟨_, (t217), yactTeachOrderx7_0_, H', ⟨yactTeachOrderx7_3_⟩, ⟨kP_⟩, ⟨hB_⟩⟩
         ·replace c13 := Bool.eq_false_iff.mpr c13
          subst c13
          replace H := in_ H (show ¬ (false = true) by decide)
          have H' := Aside0.mk H
          clear H
          have hz18 := cf3_ BK213.out
          go_wp2_with (first | ((with_reducible refine gate_callee (f := 38) rfl ?_); refine goesM_ (some 14) Try.func38 #[.string ((rd_T43 l0 x7_1).f0)] ?_; (with_reducible refine (impl_IsGloss.calls k1 ((rd_T43 l0 x7_1).f0) true _ A8.out).mono ?_); rintro e w' ⟨rfl, ⟨nd, rfl⟩⟩; refine ⟨_, rfl, ?_⟩) | (go_at_call 23; (with_reducible refine (impl_within.calls ((rd_T43 l0 x7_1).f2) 0 99999 true _ A10.out).mono ?_); rintro e w' ⟨rfl, ⟨nd, rfl⟩⟩) | (go_at_call 39; (with_reducible refine (impl_allWithin.calls k1 _ _ ((rd_T43 l0 x7_1).f1) 0 (wrap64 ((l0.length : Int) - 1)) false _ ?side1 ?side2 A12.out).mono ?_); (case side1 => exact Kd.C_below HR212_1.out hB_); (case side2 => exact HC212_1.out); rintro e w19 ⟨rfl, hb⟩; replace BK213 := aM_ (blk_below (g := gb213) (o := .cells #[.string ((rd_T43 l0 x7_1).f0), .slice A212_1 ((rd_T43 l0 x7_1).f1).length c212_1, .int .i64 ((rd_T43 l0 x7_1).f2)] 43 (0, 0)) yactTeachOrderx7_2_ hb); replace HB := aM_ (below_step hB_ hb); (try clear hb); (try clear hb2); (try clear hk); (try clear hi)))
          go_meet
          case rel => exact ⟨_, (true), yactTeachOrderx7_0_, H', ⟨yactTeachOrderx7_3_⟩, ⟨kP_⟩, ⟨hB_⟩⟩
        ·replace c11 := Bool.eq_false_iff.mpr c11
         subst c11
         replace H := in_ H (show ¬ (false = true) by decide)
         have H' := Aside0.mk H
         clear H
         have hz20 := cf3_ BK213.out
         go_wp2_with (first | ((with_reducible refine gate_callee (f := 38) rfl ?_); refine goesM_ (some 14) Try.func38 #[.string ((rd_T43 l0 x7_1).f0)] ?_; (with_reducible refine (impl_IsGloss.calls k1 ((rd_T43 l0 x7_1).f0) true _ A8.out).mono ?_); rintro e w' ⟨rfl, ⟨nd, rfl⟩⟩; refine ⟨_, rfl, ?_⟩) | (go_at_call 23; (with_reducible refine (impl_within.calls ((rd_T43 l0 x7_1).f2) 0 99999 false _ A10.out).mono ?_); rintro e w' ⟨rfl, ⟨nd, rfl⟩⟩))
         go_meet
         case rel => exact ⟨_, (true), yactTeachOrderx7_0_, H', ⟨yactTeachOrderx7_3_⟩, ⟨yactTeachOrderx7_2_⟩, ⟨hB_⟩⟩
       ·replace c9 := Bool.eq_false_iff.mpr c9
        subst c9
        replace H := in_ H (show ¬ (false = true) by decide)
        have H' := Aside0.mk H
        clear H
        have hz21 := cf3_ BK213.out
        go_wp2_with (first | ((with_reducible refine gate_callee (f := 38) rfl ?_); refine goesM_ (some 14) Try.func38 #[.string ((rd_T43 l0 x7_1).f0)] ?_; (with_reducible refine (impl_IsGloss.calls k1 ((rd_T43 l0 x7_1).f0) false _ A8.out).mono ?_); rintro e w' ⟨rfl, ⟨nd, rfl⟩⟩; refine ⟨_, rfl, ?_⟩))
        go_meet
        case rel => exact ⟨_, (true), yactTeachOrderx7_0_, H', ⟨yactTeachOrderx7_3_⟩, ⟨yactTeachOrderx7_2_⟩, ⟨hB_⟩⟩
      case rest =>
       clear HC5
       (try clear c2);(try clear c2b0);(try clear c3);(try clear c3b0);(try clear c4);(try clear c4b0);(try clear hcz7_0);(try clear hcz7_1);(try clear hcz7_2);(try clear hfz7_0);(try clear hfz7_1);(try clear hfz7_2);(try clear hx212_0);(try clear hx212_1);(try clear hx212_2);(try clear p212);(try clear q212)
       obtain ⟨kq, x36_4, rfl, HA, HJ4, BK213, HB⟩ := hcut
       cases kq with
       | zero => exact absurd HA.out (by simp [impl_AreWords.j1])
       | succ kj4 =>
        have H := HA.out
        clear HA
        simp only [impl_AreWords.j1] at H
        by_cases c22 : x36_4 = true
        ·subst c22
         replace H := ip_ H rfl
         obtain rfl := Option.some.inj H
         go_wp2
         go_ret
         exact ⟨rT_, hB_⟩
        ·replace c22 := Bool.eq_false_iff.mpr c22
         subst c22
         replace H := in_ H (show ¬ (false = true) by decide)
         have HC23 := Aside0.mk H
         clear H
         go_upto_region 6 with (fail)
         go_cut [50] (fun v50 wc => ∃ (kq : Nat) (x50_22 : Bool), v50 = .bool x50_22 ∧ Aside0 (impl_AreWords.j2 kq l0 x7_1 l0 (l0.length : Int) x7_1 x50_22 ((rd_T43 l0 x7_1).f0) ((rd_T43 l0 x7_1).f1) ((rd_T43 l0 x7_1).f2) = some r) ∧ Aside0 (kq ≤ kj4) ∧ Aside0 (wc.heap[gb213]? = some (.cells #[.string ((rd_T43 l0 x7_1).f0), (.slice A212_1 ((rd_T43 l0 x7_1).f1).length c212_1), .int .i64 ((rd_T43 l0 x7_1).f2)] 43 (0, 0))) ∧ Aside0 (Below w.heap.size w wc))
         case first =>
          have H := HC23.out
          clear HC23
          replace H := Option.bind_eq_some_iff.mp H
          obtain ⟨t218, A240, H⟩ := H
          try dsimp only at H
          have A24 := Aside0.mk A240
          clear A240
          by_cases c25 : (t218.length : Int) = (((rd_T43 l0 x7_1).f1).length : Int)
          ·rw [if_pos c25] at H
           have c25b0 : ((t218.length : Int) == (((rd_T43 l0 x7_1).f1).length : Int)) = true := beq_iff_eq.mpr c25
           have c25b1 : ((t218.length : Int) != (((rd_T43 l0 x7_1).f1).length : Int)) = false := bne_eq_false_iff_eq.mpr c25
           have c25b2 : (t218.length == ((rd_T43 l0 x7_1).f1).length) = true := by first | simpa using c25 | (simp at c25 ⊢; omega)
           clear c25
           (first | rw [c25b0] | (simp only [i64_w, i32_w]; rw [c25b0]) | skip)
           replace H := Option.bind_eq_some_iff.mp H
           obtain ⟨t221, A260, H⟩ := H
           try dsimp only at H
           have A26 := Aside0.mk A260
           clear A260
           have H' := Aside0.mk H
           clear H
           try go_wp2
           replace BK213 := aM_ (blk_drew BK213.out)
           replace HB := aM_ (below_drew1 HB.out)
           refine start_ (n := 14) (S := fun w' => w'.cell? ⟨gb213, 0, none⟩ = some (.string ((rd_T43 l0 x7_1).f0)) ∧ w'.cell? ⟨gb213, 1, none⟩ = some (.slice A212_1 ((rd_T43 l0 x7_1).f1).length c212_1) ∧ w'.cell? ⟨gb213, 2, none⟩ = some (.int .i64 ((rd_T43 l0 x7_1).f2))) (ds := []) bactTeachOrderx7_14_0 (by kernel_rfl) rfl rfl ⟨(blk_cell BK213.out 0).trans rfl, (blk_cell BK213.out 1).trans rfl, (blk_cell BK213.out 2).trans rfl⟩ (fun hHeld => ?_); refine with_tabW impl_AreWords.tab6 impl_AreWords.bits6 (fun HT_ HW_ => ?_)
           generalize wc.drew = w27 at BK213 HB hHeld ⊢
           refine pure_ (i := 0) (N := some 37) (v := ?_) (a' := ?_) bactTeachOrderx7_14_1 rfl rfl (any_of HT_.out (by kernel_rfl)) (fun _ _ _ h => h) (Or.inl ⟨by rfl, ?_⟩) ?_ ?_
           rotate_left
           ·intro w'
            go_simp
            with_reducible rfl
           rotate_left
           ·simp only [Act.put, List.setIfInBounds_toArray, List.set_cons_zero, List.set_cons_succ, i64_w, i32_w]
            rfl
           refine pure_ (i := 4) (N := some 41) (v := ?_) (a' := ?_) bactTeachOrderx7_14_11 rfl rfl (any_of HT_.out (by kernel_rfl)) (fun _ _ _ h => h) (Or.inl ⟨by rfl, ?_⟩) ?_ ?_
           rotate_left
           ·intro w'
            go_simp
            with_reducible rfl
           rotate_left
           ·simp only [Act.put, List.setIfInBounds_toArray, List.set_cons_zero, List.set_cons_succ, i64_w, i32_w]
            rfl
           refine take_ (i := 1) (N := some 38) (v := ?_) (a' := ?_) bactTeachOrderx7_14_13 rfl rfl (take_ofW HT_.out HW_.out (by kernel_rfl)) (fun _ _ _ h => h) (Or.inl ⟨by rfl, ?_⟩) hHeld ?_ ?_
           rotate_left
           ·rintro w' ⟨s0, s1, s2⟩
            go_simp
            with_reducible rfl
           rotate_left
           ·simp only [Act.put, List.setIfInBounds_toArray, List.set_cons_zero, List.set_cons_succ, i64_w, i32_w]
            rfl
           refine take_ (i := 5) (N := some 42) (v := ?_) (a' := ?_) bactTeachOrderx7_14_33 rfl rfl (take_ofW HT_.out HW_.out (by kernel_rfl)) (fun _ _ _ h => h) (Or.inl ⟨by rfl, ?_⟩) hHeld ?_ ?_
           rotate_left
           ·rintro w' ⟨s0, s1, s2⟩
            go_simp
            with_reducible rfl
           rotate_left
           ·simp only [Act.put, List.setIfInBounds_toArray, List.set_cons_zero, List.set_cons_succ, i64_w, i32_w]
            rfl
           refine pure_ (i := 6) (N := some 43) (v := ?_) (a' := ?_) bactTeachOrderx7_14_73 rfl rfl (any_of HT_.out (by kernel_rfl)) (fun _ _ _ h => h) (Or.inl ⟨by rfl, ?_⟩) ?_ ?_
           rotate_left
           ·intro w'
            go_simp
            with_reducible rfl
           rotate_left
           ·simp only [Act.put, List.setIfInBounds_toArray, List.set_cons_zero, List.set_cons_succ, i64_w, i32_w]
            rfl
           refine one_ (i := 2) (N := some 39) bactTeachOrderx7_14_77 rfl rfl (one_of HT_.out (by kernel_rfl)) (by decide) (fun K hK => ?_)
           refine goes_ Try.func40 (by kernel_rfl) rfl #[.slice A212_1 ((rd_T43 l0 x7_1).f1).length c212_1] (by rfl) rfl rfl aR_ ?_
           with_reducible refine (impl_distinct_int.calls _ _ ((rd_T43 l0 x7_1).f1) t218 _ ?side1 ?side2 A24.out).mono ?_
           (case side1 => repeat (first | exact (Kd.C_below HR212_1.out HB.out) | (with_reducible refine Kd.C_alloc ?_ _) | (with_reducible refine Kd.C_drewN ?_ _) | (with_reducible refine Kd.C_drew ?_)))
           (case side2 => exact HC212_1.out)
           rintro e w28 ⟨v219, rfl, ho0, hb⟩
           refine ⟨_, rfl, ?_⟩
           have HO220 := aM_ (Kd.R_lower ho0 (below_size hB_))
           replace BK213 := aM_ (blk_below (g := gb213) (kR_ BK213) hb)
           replace HB := aM_ (below_step hB_ hb)
           (try clear hb)
           (try clear hb2)
           (try clear hk)
           (try clear hi)
           (try clear ho0)
           obtain ⟨Ao29, co29, eo29⟩ := Kd.R_slice HO220.out
           (first | subst eo29 | (injection eo29 with f1_ f2_ f3_; have f4_ := f1_.symm; have f5_ := f3_.symm; clear f1_ f2_ f3_; subst f4_; subst f5_))
           refine hK.out _ _ ⟨(blk_cell BK213.out 0).trans rfl, (blk_cell BK213.out 1).trans rfl, (blk_cell BK213.out 2).trans rfl⟩ (fun hHeld => ?_)
           clear hK K
           refine norm_ (a' := ?_) ?_ ?_
           rotate_left
           ·show Act.put _ (some 39) _ = _
            simp only [Act.put, List.setIfInBounds_toArray, List.set_cons_zero, List.set_cons_succ, i64_w, i32_w]
            rfl
           refine pure_ (i := 3) (N := some 40) (v := ?_) (a' := ?_) bactTeachOrderx7_14_7f rfl rfl (any_of HT_.out (by kernel_rfl)) (fun _ _ _ h => h) (Or.inl ⟨by rfl, ?_⟩) ?_ ?_
           rotate_left
           ·intro w'
            go_simp
            with_reducible rfl
           rotate_left
           ·simp only [Act.put, List.setIfInBounds_toArray, List.set_cons_zero, List.set_cons_succ, i64_w, i32_w]
            rfl
           refine pure_ (i := 7) (N := some 44) (v := ?_) (a' := ?_) bactTeachOrderx7_14_ff rfl rfl (any_of HT_.out (by kernel_rfl)) (fun _ _ _ h => h) (Or.inl ⟨by rfl, ?_⟩) ?_ ?_
           rotate_left
           ·intro w'
            go_simp
            with_reducible rfl
           rotate_left
           ·simp only [Act.put, List.setIfInBounds_toArray, List.set_cons_zero, List.set_cons_succ, i64_w, i32_w]
            rfl
           refine pure_ (i := 8) (N := some 45) (v := ?_) (a' := ?_) bactTeachOrderx7_14_1ff rfl rfl (any_of HT_.out (by kernel_rfl)) (fun _ _ _ h => h) (Or.inl ⟨by rfl, ?_⟩) ?_ ?_
           rotate_left
           ·intro w'
            go_simp
            with_reducible rfl
           rotate_left
           ·simp only [Act.put, List.setIfInBounds_toArray, List.set_cons_zero, List.set_cons_succ, i64_w, i32_w]
            rfl
           refine pure_ (i := 9) (N := some 46) (v := ?_) (a' := ?_) bactTeachOrderx7_14_3ff rfl rfl (any_of HT_.out (by kernel_rfl)) (fun _ _ _ h => h) (Or.inl ⟨by rfl, ?_⟩) ?_ ?_
           rotate_left
           ·intro w'
            go_simp
            with_reducible rfl
           rotate_left
           ·simp only [Act.put, List.setIfInBounds_toArray, List.set_cons_zero, List.set_cons_succ, i64_w, i32_w]
            rfl
           refine take_ (i := 10) (N := some 47) (v := ?_) (a' := ?_) bactTeachOrderx7_14_7ff rfl rfl (take_ofW HT_.out HW_.out (by kernel_rfl)) (fun _ _ _ h => h) (Or.inl ⟨by rfl, ?_⟩) hHeld ?_ ?_
           rotate_left
           ·rintro w' ⟨s0, s1, s2⟩
            go_simp
            with_reducible rfl
           rotate_left
           ·simp only [Act.put, List.setIfInBounds_toArray, List.set_cons_zero, List.set_cons_succ, i64_w, i32_w]
            rfl
           refine one_ (i := 11) (N := some 48) bactTeachOrderx7_14_fff rfl rfl (one_of HT_.out (by kernel_rfl)) (by decide) (fun K hK => ?_)
           refine goes_ Try.func41 (by kernel_rfl) rfl #[.slice A212_1 ((rd_T43 l0 x7_1).f1).length c212_1] (by rfl) rfl rfl aR_ ?_
           with_reducible refine (slices_IsSorted_int.calls kj4 _ _ ((rd_T43 l0 x7_1).f1) t221 _ ?side1 ?side2 A26.out).mono ?_
           (case side1 => repeat (first | exact (Kd.C_below HR212_1.out HB.out) | (with_reducible refine Kd.C_alloc ?_ _) | (with_reducible refine Kd.C_drewN ?_ _) | (with_reducible refine Kd.C_drew ?_)))
           (case side2 => exact HC212_1.out)
           rintro e w' ⟨rfl, ⟨nd, rfl⟩⟩
           refine ⟨_, rfl, ?_⟩
           refine hK.out _ _ ⟨(blk_cell BK213.out 0).trans rfl, (blk_cell BK213.out 1).trans rfl, (blk_cell BK213.out 2).trans rfl⟩ (fun hHeld => ?_)
           clear hK K
           refine norm_ (a' := ?_) ?_ ?_
           rotate_left
           ·show Act.put _ (some 48) _ = _
            simp only [Act.put, List.setIfInBounds_toArray, List.set_cons_zero, List.set_cons_succ, i64_w, i32_w]
            rfl
           refine pure_ (i := 12) (N := some 49) (v := ?_) (a' := ?_) bactTeachOrderx7_14_1fff rfl rfl (any_of HT_.out (by kernel_rfl)) (fun _ _ _ h => h) (Or.inl ⟨by rfl, ?_⟩) ?_ ?_
           rotate_left
           ·intro w'
            go_simp
            with_reducible rfl
           rotate_left
           ·simp only [Act.put, List.setIfInBounds_toArray, List.set_cons_zero, List.set_cons_succ, i64_w, i32_w]
            rfl
           refine pure_ (i := 13) (N := some 50) (v := ?_) (a' := ?_) bactTeachOrderx7_14_3fff rfl rfl (any_of HT_.out (by kernel_rfl)) (fun _ _ _ h => h) (Or.inl ⟨by rfl, ?_⟩) ?_ ?_
           rotate_left
           ·intro w'
            go_simp
            with_reducible rfl
           rotate_left
           ·simp only [Act.put, List.setIfInBounds_toArray, List.set_cons_zero, List.set_cons_succ, i64_w, i32_w]
            rfl
           refine done_ (done_of HT_.out (by kernel_rfl)) ?_
           try go_wp2
           go_meet
           case rel => exact ⟨_, (!t221), yactTeachOrderx7_0_, H', ⟨by have := HK1.out; have := HJ4.out; first | omega | exact Nat.le_refl _⟩, ⟨kP_⟩, ⟨hB_⟩⟩
          ·rw [if_neg c25] at H
           have c25b0 : ((t218.length : Int) == (((rd_T43 l0 x7_1).f1).length : Int)) = false := beq_eq_false_iff_ne.mpr c25
           have c25b1 : ((t218.length : Int) != (((rd_T43 l0 x7_1).f1).length : Int)) = true := bne_iff_ne.mpr c25
           have c25b2 : (t218.length == ((rd_T43 l0 x7_1).f1).length) = false := by first | simpa using c25 | (simp at c25 ⊢; omega)
           (first | rw [c25b0] | (simp only [i64_w, i32_w]; rw [c25b0]) | skip)
           have H' := Aside0.mk H
           clear H
           try go_wp2
           replace BK213 := aM_ (blk_drew BK213.out)
           replace HB := aM_ (below_drew1 HB.out)
           refine start_ (n := 14) (S := fun w' => w'.cell? ⟨gb213, 0, none⟩ = some (.string ((rd_T43 l0 x7_1).f0)) ∧ w'.cell? ⟨gb213, 1, none⟩ = some (.slice A212_1 ((rd_T43 l0 x7_1).f1).length c212_1) ∧ w'.cell? ⟨gb213, 2, none⟩ = some (.int .i64 ((rd_T43 l0 x7_1).f2))) (ds := []) bactTeachOrderx7_14_0 (by kernel_rfl) rfl rfl ⟨(blk_cell BK213.out 0).trans rfl, (blk_cell BK213.out 1).trans rfl, (blk_cell BK213.out 2).trans rfl⟩ (fun hHeld => ?_); refine with_tabW impl_AreWords.tab6 impl_AreWords.bits6 (fun HT_ HW_ => ?_)
           generalize wc.drew = w30 at BK213 HB hHeld ⊢
           refine pure_ (i := 0) (N := some 37) (v := ?_) (a' := ?_) bactTeachOrderx7_14_1 rfl rfl (any_of HT_.out (by kernel_rfl)) (fun _ _ _ h => h) (Or.inl ⟨by rfl, ?_⟩) ?_ ?_
           rotate_left
           ·intro w'
            go_simp
            with_reducible rfl
           rotate_left
           ·simp only [Act.put, List.setIfInBounds_toArray, List.set_cons_zero, List.set_cons_succ, i64_w, i32_w]
            rfl
           refine pure_ (i := 4) (N := some 41) (v := ?_) (a' := ?_) bactTeachOrderx7_14_11 rfl rfl (any_of HT_.out (by kernel_rfl)) (fun _ _ _ h => h) (Or.inl ⟨by rfl, ?_⟩) ?_ ?_
           rotate_left
           ·intro w'
            go_simp
            with_reducible rfl
           rotate_left
           ·simp only [Act.put, List.setIfInBounds_toArray, List.set_cons_zero, List.set_cons_succ, i64_w, i32_w]
            rfl
           refine take_ (i := 1) (N := some 38) (v := ?_) (a' := ?_) bactTeachOrderx7_14_13 rfl rfl (take_ofW HT_.out HW_.out (by kernel_rfl)) (fun _ _ _ h => h) (Or.inl ⟨by rfl, ?_⟩) hHeld ?_ ?_
           rotate_left
           ·rintro w' ⟨s0, s1, s2⟩
            go_simp
            with_reducible rfl
           rotate_left
           ·simp only [Act.put, List.setIfInBounds_toArray, List.set_cons_zero, List.set_cons_succ, i64_w, i32_w]
            rfl
           refine take_ (i := 5) (N := some 42) (v := ?_) (a' := ?_) bactTeachOrderx7_14_33 rfl rfl (take_ofW HT_.out HW_.out (by kernel_rfl)) (fun _ _ _ h => h) (Or.inl ⟨by rfl, ?_⟩) hHeld ?_ ?_
           rotate_left
           ·rintro w' ⟨s0, s1, s2⟩
            go_simp
            with_reducible rfl
           rotate_left
           ·simp only [Act.put, List.setIfInBounds_toArray, List.set_cons_zero, List.set_cons_succ, i64_w, i32_w]
            rfl
           refine pure_ (i := 6) (N := some 43) (v := ?_) (a' := ?_) bactTeachOrderx7_14_73 rfl rfl (any_of HT_.out (by kernel_rfl)) (fun _ _ _ h => h) (Or.inl ⟨by rfl, ?_⟩) ?_ ?_
           rotate_left
           ·intro w'
            go_simp
            with_reducible rfl
           rotate_left
           ·simp only [Act.put, List.setIfInBounds_toArray, List.set_cons_zero, List.set_cons_succ, i64_w, i32_w]
            rfl
           refine one_ (i := 2) (N := some 39) bactTeachOrderx7_14_77 rfl rfl (one_of HT_.out (by kernel_rfl)) (by decide) (fun K hK => ?_)
           refine goes_ Try.func40 (by kernel_rfl) rfl #[.slice A212_1 ((rd_T43 l0 x7_1).f1).length c212_1] (by rfl) rfl rfl aR_ ?_
           with_reducible refine (impl_distinct_int.calls _ _ ((rd_T43 l0 x7_1).f1) t218 _ ?side1 ?side2 A24.out).mono ?_
           (case side1 => repeat (first | exact (Kd.C_below HR212_1.out HB.out) | (with_reducible refine Kd.C_alloc ?_ _) | (with_reducible refine Kd.C_drewN ?_ _) | (with_reducible refine Kd.C_drew ?_)))
           (case side2 => exact HC212_1.out)
           rintro e w31 ⟨v219, rfl, ho0, hb⟩
           refine ⟨_, rfl, ?_⟩
           have HO220 := aM_ (Kd.R_lower ho0 (below_size hB_))
           replace BK213 := aM_ (blk_below (g := gb213) (kR_ BK213) hb)
           replace HB := aM_ (below_step hB_ hb)
           (try clear hb)
           (try clear hb2)
           (try clear hk)
           (try clear hi)
           (try clear ho0)
           obtain ⟨Ao32, co32, eo32⟩ := Kd.R_slice HO220.out
           (first | subst eo32 | (injection eo32 with f1_ f2_ f3_; have f4_ := f1_.symm; have f5_ := f3_.symm; clear f1_ f2_ f3_; subst f4_; subst f5_))
           refine hK.out _ _ ⟨(blk_cell BK213.out 0).trans rfl, (blk_cell BK213.out 1).trans rfl, (blk_cell BK213.out 2).trans rfl⟩ (fun hHeld => ?_)
           clear hK K
           refine norm_ (a' := ?_) ?_ ?_
           rotate_left
           ·show Act.put _ (some 39) _ = _
            simp only [Act.put, List.setIfInBounds_toArray, List.set_cons_zero, List.set_cons_succ, i64_w, i32_w]
            rfl
           refine pure_ (i := 3) (N := some 40) (v := ?_) (a' := ?_) bactTeachOrderx7_14_7f rfl rfl (any_of HT_.out (by kernel_rfl)) (fun _ _ _ h => h) (Or.inl ⟨by rfl, ?_⟩) ?_ ?_
           rotate_left
           ·intro w'
            go_simp
            with_reducible rfl
           rotate_left
           ·simp only [Act.put, List.setIfInBounds_toArray, List.set_cons_zero, List.set_cons_succ, i64_w, i32_w]
            rfl
           refine pure_ (i := 7) (N := some 44) (v := ?_) (a' := ?_) bactTeachOrderx7_14_ff rfl rfl (any_of HT_.out (by kernel_rfl)) (fun _ _ _ h => h) (Or.inl ⟨by rfl, ?_⟩) ?_ ?_
           rotate_left
           ·intro w'
            go_simp
            with_reducible rfl
           rotate_left
           ·simp only [Act.put, List.setIfInBounds_toArray, List.set_cons_zero, List.set_cons_succ, i64_w, i32_w]
            rfl
           refine pure_ (i := 8) (N := some 45) (v := ?_) (a' := ?_) bactTeachOrderx7_14_1ff rfl rfl (any_of HT_.out (by kernel_rfl)) (fun _ _ _ h => h) (Or.inl ⟨by rfl, ?_⟩) ?_ ?_
           rotate_left
           ·intro w'
            go_simp
            with_reducible rfl
           rotate_left
           ·simp only [Act.put, List.setIfInBounds_toArray, List.set_cons_zero, List.set_cons_succ, i64_w, i32_w]
            rfl
           refine pure_ (i := 9) (N := some 46) (v := undef) (a' := ?_) bactTeachOrderx7_14_3ff rfl rfl (any_of HT_.out (by kernel_rfl)) (fun _ _ _ h => h) (Or.inr ⟨by rfl, rfl⟩) ?_ ?_
           rotate_left
           ·simp only [Act.put, List.setIfInBounds_toArray, List.set_cons_zero, List.set_cons_succ, i64_w, i32_w]
            rfl
           refine pure_ (i := 10) (N := some 47) (v := undef) (a' := ?_) bactTeachOrderx7_14_7ff rfl rfl (any_of HT_.out (by kernel_rfl)) (fun _ _ _ h => h) (Or.inr ⟨by rfl, rfl⟩) ?_ ?_
           rotate_left
           ·simp only [Act.put, List.setIfInBounds_toArray, List.set_cons_zero, List.set_cons_succ, i64_w, i32_w]
            rfl
           refine pure_ (i := 11) (N := some 48) (v := undef) (a' := ?_) bactTeachOrderx7_14_fff rfl rfl (any_of HT_.out (by kernel_rfl)) (fun _ _ _ h => h) (Or.inr ⟨by rfl, rfl⟩) ?_ ?_
           rotate_left
           ·simp only [Act.put, List.setIfInBounds_toArray, List.set_cons_zero, List.set_cons_succ, i64_w, i32_w]
            rfl
           refine pure_ (i := 12) (N := some 49) (v := undef) (a' := ?_) bactTeachOrderx7_14_1fff rfl rfl (any_of HT_.out (by kernel_rfl)) (fun _ _ _ h => h) (Or.inr ⟨by rfl, rfl⟩) ?_ ?_
           rotate_left
           ·simp only [Act.put, List.setIfInBounds_toArray, List.set_cons_zero, List.set_cons_succ, i64_w, i32_w]
            rfl
           refine pure_ (i := 13) (N := some 50) (v := ?_) (a' := ?_) bactTeachOrderx7_14_3fff rfl rfl (any_of HT_.out (by kernel_rfl)) (fun _ _ _ h => h) (Or.inl ⟨by rfl, ?_⟩) ?_ ?_
           rotate_left
           ·intro w'
            go_simp
            with_reducible rfl
           rotate_left
           ·simp only [Act.put, List.setIfInBounds_toArray, List.set_cons_zero, List.set_cons_succ, i64_w, i32_w]
            rfl
           refine done_ (done_of HT_.out (by kernel_rfl)) ?_
           try go_wp2
           go_meet
           case rel => exact ⟨_, (true), yactTeachOrderx7_0_, H', ⟨by have := HK1.out; have := HJ4.out; first | omega | exact Nat.le_refl _⟩, ⟨kP_⟩, ⟨hB_⟩⟩
         case rest =>
          clear HC23
          (try clear c2);(try clear c2b0);(try clear c3);(try clear c3b0);(try clear c4);(try clear c4b0);(try clear c22);(try clear hcz7_0);(try clear hcz7_1);(try clear hcz7_2);(try clear hfz7_0);(try clear hfz7_1);(try clear hfz7_2);(try clear hx212_0);(try clear hx212_1);(try clear hx212_2);(try clear p212);(try clear q212)
          obtain ⟨kq, x50_22, rfl, HA, HJ22, BK213, HB⟩ := hcut
          cases kq with
          | zero => exact absurd HA.out (by simp [impl_AreWords.j2])
          | succ kj22 =>
           have H := HA.out
           clear HA
           simp only [impl_AreWords.j2] at H
           by_cases c33 : x50_22 = true
           ·subst c33
            replace H := ip_ H rfl
            obtain rfl := Option.some.inj H
            go_wp2
            go_ret
            exact ⟨rT_, hB_⟩
           ·replace c33 := Bool.eq_false_iff.mpr c33
            subst c33
            replace H := in_ H (show ¬ (false = true) by decide)
            by_cases c34 : 0 ≤ x7_1
            ·rw [if_pos c34] at H
             have c34b0 := eq_true c34
             have c34b1 : decide (0 ≤ x7_1) = true := decide_eq_true c34
             clear c34
             by_cases c35 : x7_1 ≤ (l0.length : Int)
             ·rw [if_pos c35] at H
              have c35b0 := eq_true c35
              have c35b1 : decide (x7_1 ≤ (l0.length : Int)) = true := decide_eq_true c35
              clear c35
              obtain ⟨y222, hy222⟩ : ∃ y_ : List (S43), y_ = (l0.take (x7_1 : Int).toNat) := ⟨_, rfl⟩
              replace H : ((slices_ContainsFunc_Word_impl_AreWords_1.f kj22 y222 ((rd_T43 l0 x7_1).f0) ((rd_T43 l0 x7_1).f1) ((rd_T43 l0 x7_1).f2)).bind fun t226 => (if t226 = true then (some false) else (impl_AreWords.l0 kj22 l0 l0 (l0.length : Int) (wrap64 (x7_1 + 1))))) = some r := by first | (rw [hy222]; with_reducible exact H) | (have H2_ := (Option.bind_some _ _).symm.trans H; rw [hy222]; with_reducible exact H2_) | (have H2_ := (Option.bind_some _ _).symm.trans H; with_reducible exact H2_) | with_reducible exact H | (rw [hy222]; exact H) | exact H
              have Ny222 := Aside0.mk hy222
              clear hy222
              replace H := Option.bind_eq_some_iff.mp H
              obtain ⟨t226, A360, H⟩ := H
              try dsimp only at H
              have A36 := Aside0.mk A360
              clear A360
              by_cases c37 : t226 = true
              ·subst c37
               replace H := ip_ H rfl
               obtain rfl := Option.some.inj H
               have q38 : (x7_1 : Int) ≤ ((l0.length : Int) : Int) := of_decide_eq_true yactTeachOrderx7_1_
               obtain ⟨i038, hi038, _, hsz38, _⟩ := info_parts info43
               have hroom38 : l0.length ≤ c0 := HC0.out
               have hC38 : Kd.C k43 _ (some ad212) l0.length l0 := HR0.out
               have hcut38 := cut_to (P := Try.prog) 27 43 .i64 Try.underlying27 hi038 (some ad212) l0.length c0 x7_1 (of_decide_eq_true yactTeachOrderx7_1_) q38 hroom38
               have hr38 := Kd.C_take (m := (x7_1 : Int).toNat) hC38 (by omega)
               have hy38 : y222.length = (x7_1 : Int).toNat := (by rw [Ny222.out, List.length_take]; omega)
               rw [← Ny222.out] at hr38
               rw [← hy38] at hcut38
               have HR225 := Aside0.mk hr38
               have HC225 := Aside0.mk (show y222.length ≤ c0 from by omega)
               clear hr38 hC38 hroom38 hi038 hsz38
               have KY38 := Aside0.mk hy38
               clear hy38
               replace q38 := eq_true q38
               go_wp2_with (first | ((with_reducible refine gate_callee (f := 42) rfl ?_); refine goesM_ (some 55) Try.func42 #[.slice (some ad212) y222.length c0, .func (.func 43) #[] #[.pointer (some ⟨gb213, 0, none⟩)]] ?_; (with_reducible refine (slices_ContainsFunc_Word_impl_AreWords_1.calls kj22 _ _ y222 gb213 ((rd_T43 l0 x7_1).f0) A212_1 c212_1 ((rd_T43 l0 x7_1).f1) ((rd_T43 l0 x7_1).f2) true _ ?side1 ?side2 ?side3 ?side4 ?side5 A36.out).mono ?_); (case side1 => repeat (first | exact (Kd.C_below HR225.out HB.out) | (with_reducible refine Kd.C_alloc ?_ _) | (with_reducible refine Kd.C_drewN ?_ _) | (with_reducible refine Kd.C_drew ?_))); (case side2 => exact HC225.out); (case side3 => repeat (first | exact (Kd.C_below HR212_1.out HB.out) | (with_reducible refine Kd.C_alloc ?_ _) | (with_reducible refine Kd.C_drewN ?_ _) | (with_reducible refine Kd.C_drew ?_))); (case side4 => exact HC212_1.out); (case side5 => (with_reducible repeat (first | apply kN_ | apply kD_ | apply kA_)); exact BK213.out); rintro e w39 ⟨rfl, hb⟩; refine ⟨_, rfl, ?_⟩; replace BK213 := aM_ (blk_below (g := gb213) (kR_ BK213) hb); replace HB := aM_ (below_step hB_ hb); (try clear hb); (try clear hb2); (try clear hk); (try clear hi)))
               go_ret
               exact ⟨rT_, hB_⟩
              ·replace c37 := Bool.eq_false_iff.mpr c37
               subst c37
               replace H := in_ H (show ¬ (false = true) by decide)
               have H' := Aside0.mk H
               clear H
               have q40 : (x7_1 : Int) ≤ ((l0.length : Int) : Int) := of_decide_eq_true yactTeachOrderx7_1_
               obtain ⟨i040, hi040, _, hsz40, _⟩ := info_parts info43
               have hroom40 : l0.length ≤ c0 := HC0.out
               have hC40 : Kd.C k43 _ (some ad212) l0.length l0 := HR0.out
               have hcut40 := cut_to (P := Try.prog) 27 43 .i64 Try.underlying27 hi040 (some ad212) l0.length c0 x7_1 (of_decide_eq_true yactTeachOrderx7_1_) q40 hroom40
               have hr40 := Kd.C_take (m := (x7_1 : Int).toNat) hC40 (by omega)
               have hy40 : y222.length = (x7_1 : Int).toNat := (by rw [Ny222.out, List.length_take]; omega)
               rw [← Ny222.out] at hr40
               rw [← hy40] at hcut40
               have HR225 := Aside0.mk hr40
               have HC225 := Aside0.mk (show y222.length ≤ c0 from by omega)
               clear hr40 hC40 hroom40 hi040 hsz40
               have KY40 := Aside0.mk hy40
               clear hy40
               replace q40 := eq_true q40
               go_wp2_with (first | ((with_reducible refine gate_callee (f := 42) rfl ?_); refine goesM_ (some 55) Try.func42 #[.slice (some ad212) y222.length c0, .func (.func 43) #[] #[.pointer (some ⟨gb213, 0, none⟩)]] ?_; (with_reducible refine (slices_ContainsFunc_Word_impl_AreWords_1.calls kj22 _ _ y222 gb213 ((rd_T43 l0 x7_1).f0) A212_1 c212_1 ((rd_T43 l0 x7_1).f1) ((rd_T43 l0 x7_1).f2) false _ ?side1 ?side2 ?side3 ?side4 ?side5 A36.out).mono ?_); (case side1 => repeat (first | exact (Kd.C_below HR225.out HB.out) | (with_reducible refine Kd.C_alloc ?_ _) | (with_reducible refine Kd.C_drewN ?_ _) | (with_reducible refine Kd.C_drew ?_))); (case side2 => exact HC225.out); (case side3 => repeat (first | exact (Kd.C_below HR212_1.out HB.out) | (with_reducible refine Kd.C_alloc ?_ _) | (with_reducible refine Kd.C_drewN ?_ _) | (with_reducible refine Kd.C_drew ?_))); (case side4 => exact HC212_1.out); (case side5 => (with_reducible repeat (first | apply kN_ | apply kD_ | apply kA_)); exact BK213.out); rintro e w41 ⟨rfl, hb⟩; refine ⟨_, rfl, ?_⟩; replace BK213 := aM_ (blk_below (g := gb213) (kR_ BK213) hb); replace HB := aM_ (below_step hB_ hb); (try clear hb); (try clear hb2); (try clear hk); (try clear hi)))
               go_roundg kj22
               case measure => have := HK1.out; have := HJ4.out; have := HJ22.out; omega
               case rel => exact ⟨(wrap64 (x7_1 + 1)), yactTeachOrderx7_0_, H', ⟨by have := HK1.out; have := HJ4.out; have := HJ22.out; omega⟩, ⟨hB_⟩⟩
             ·rw [if_neg c35] at H
              exact absurd H (by simp)
            ·rw [if_neg c34] at H
             exact absurd H (by simp)
     ·rw [if_neg c4] at H
      exact absurd H (by simp)
    ·rw [if_neg c3] at H
     exact absurd H (by simp)
   ·rw [if_neg c2] at H
    have c2b0 : decide (x7_1 < (l0.length : Int)) = false := decide_eq_false c2
    clear c2
    obtain rfl := Option.some.inj H
    go_wp2
    go_ret
    exact ⟨rT_, hB_⟩

/-! ### impl_hasNeeds_1: function 108 -/
set_option maxHeartbeats 8000000 in
set_option maxRecDepth 100000 in
theorem impl_hasNeeds_1.calls (k : Nat) (a0 : Int) (g1_0 : Nat) (A1_0 : Option Addr) (c1_0 : Nat) (l1_0 : List Int) (r : Bool) (w : World) (hr1_0 : Kd.C (Kd.int .i64) w A1_0 l1_0.length l1_0) (hc1_0 : l1_0.length ≤ c1_0) (hb1_0 : w.heap[g1_0]? = some (.cells #[.slice A1_0 l1_0.length c1_0] 24 (0, 0))) (h : impl_hasNeeds_1.f k a0 l1_0 = some r) :
 Calls Try.prog 49 #[.int .i64 a0, .pointer (some ⟨g1_0, 0, none⟩)] w fun e w' => e = .returned (.bool r) ∧ Below w.heap.size w w' := by
 have HR1_0 := Aside0.mk hr1_0
 have HC1_0 := Aside0.mk hc1_0
 clear hr1_0 hc1_0
 have BK38 := Aside0.mk hb1_0
 clear hb1_0
 have HB := Aside0.mk (Below.refl w.heap.size w)
 have H : ((slices_Contains_int.f k l1_0 a0).bind fun t227 => (some t227)) = some r := h
 clear h
 replace H := Option.bind_eq_some_iff.mp H
 obtain ⟨t227, A30, H⟩ := H
 try dsimp only at H
 have A3 := Aside0.mk A30
 clear A30
 obtain rfl := Option.some.inj H
 have hz4 := cf1_ BK38.out
 clear BK38
 go_enter Try.func49, Try.ntmps49
 go_wp2_with (first | ((with_reducible refine gate_callee (f := 25) rfl ?_); refine goesM_ (some 6) Try.func25 #[.slice A1_0 l1_0.length c1_0, .int .i64 a0] ?_; (with_reducible refine (slices_Contains_int.calls k _ _ l1_0 a0 t227 _ ?side1 ?side2 A3.out).mono ?_); (case side1 => repeat (first | exact HR1_0.out | (with_reducible refine Kd.C_alloc ?_ _) | (with_reducible refine Kd.C_drewN ?_ _) | (with_reducible refine Kd.C_drew ?_))); (case side2 => exact HC1_0.out); rintro e w' ⟨rfl, ⟨nd, rfl⟩⟩; refine ⟨_, rfl, ?_⟩))
 go_ret
 exact ⟨rT_, hB_⟩

/-! ### impl_allOf_int_1_impl_hasNeeds_1: function 107 -/
set_option maxHeartbeats 8000000 in
set_option maxRecDepth 100000 in
theorem impl_allOf_int_1_impl_hasNeeds_1.calls (k : Nat) (a0 : Int) (g1_0 : Nat) (g1_1 : Nat) (A1_0 : Option Addr) (c1_0 : Nat) (l1_0 : List Int) (r : Bool) (w : World) (hr1_0 : Kd.C (Kd.int .i64) w A1_0 l1_0.length l1_0) (hc1_0 : l1_0.length ≤ c1_0) (hb1_0 : w.heap[g1_0]? = some (.cells #[.func (.func 49) #[] #[.pointer (some ⟨g1_1, 0, none⟩)]] 50 (0, 0))) (hb1_1 : w.heap[g1_1]? = some (.cells #[.slice A1_0 l1_0.length c1_0] 24 (0, 0))) (h : impl_allOf_int_1_impl_hasNeeds_1.f k a0 l1_0 = some r) :
 Calls Try.prog 59 #[.int .i64 a0, .pointer (some ⟨g1_0, 0, none⟩)] w fun e w' => e = .returned (.bool r) ∧ Below w.heap.size w w' := by
 have HR1_0 := Aside0.mk hr1_0
 have HC1_0 := Aside0.mk hc1_0
 clear hr1_0 hc1_0
 have BK38 := Aside0.mk hb1_0
 clear hb1_0
 have BK39 := Aside0.mk hb1_1
 clear hb1_1
 have HB := Aside0.mk (Below.refl w.heap.size w)
 have H : ((impl_hasNeeds_1.f k a0 l1_0).bind fun t228 => (some (!t228))) = some r := h
 clear h
 replace H := Option.bind_eq_some_iff.mp H
 obtain ⟨t228, A30, H⟩ := H
 try dsimp only at H
 have A3 := Aside0.mk A30
 clear A30
 obtain rfl := Option.some.inj H
 have hz5 := cf1_ BK38.out
 clear BK38
 go_enter Try.func59, Try.ntmps59
 go_wp2_with (first | ((with_reducible refine gate_via (t := 4) rfl ?_); refine goesV_ (some 6) rfl rfl Try.func49 (by kernel_rfl) rfl #[.int .i64 a0, .pointer (some ⟨g1_1, 0, none⟩)] rfl rfl (by (try simp only [List.map_toArray, List.map_cons, List.map_nil]); first | done | rfl | simp | (simp; rfl)) ?_; (with_reducible refine (impl_hasNeeds_1.calls k a0 g1_1 A1_0 c1_0 l1_0 t228 _ ?side1 ?side2 ?side3 A3.out).mono ?_); (case side1 => repeat (first | exact HR1_0.out | (with_reducible refine Kd.C_alloc ?_ _) | (with_reducible refine Kd.C_drewN ?_ _) | (with_reducible refine Kd.C_drew ?_))); (case side2 => exact HC1_0.out); (case side3 => (with_reducible repeat (first | apply kN_ | apply kD_ | apply kA_)); exact BK39.out); rintro e w6 ⟨rfl, hb⟩; refine ⟨_, rfl, ?_⟩; replace BK39 := aM_ (blk_below (g := g1_1) (kR_ BK39) hb); replace HB := aM_ (below_step hB_ hb); (try clear hb); (try clear hb2); (try clear hk); (try clear hi)))
 go_ret
 exact ⟨rT_, hB_⟩

end Go.Proofs.Ytmongpocangocaa.PFnExactTeachOrder
