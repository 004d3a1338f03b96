/- Written by a program of this claim's author, out of the loaded program as Lean prints it: the functions as Lean functions, and that the calls answer so. -/
import Derived.Test.YtmongpocangocaaPFnExactNeededForx0
import Derived.Test.YtmongpocangocaaPFnExactNeededForx3
import Derived.Test.YtmongpocangocaaPFnExactNeededForx4
import Derived.Test.YtmongpocangocaaPFnExactNeededForxD0
namespace Go.Proofs.Ytmongpocangocaa.PFnExactNeededFor
open Go.RowKit Go.Proofs.YtmongpocangocaaW.PrintWords Go.Proofs.YtmongpocangocaaW.PrintLast Go.Proofs.YtmongpocangocaaW.PrintMore
attribute [local go_sem] max2_int min2_int max_two min_two max_three min_three max_four min_four isSome_setCell   -- for this text's walks alone
theorem yactNeededForx5_0_ {p : Prop} (h : p := by first | rfl | (simp; done) | (simp [*]; done)) : p := h
theorem yactNeededForx5_1_ {p : Prop} (h : p := by first | (with_reducible assumption) | assumption) : p := h
theorem yactNeededForx5_2_ {p : Prop} (h : p := by (with_reducible repeat (first | apply kN_ | apply kD_ | apply kA_)); refine blk_put (cs := #[.string ((rd_T43 l0 x7_1).f0), .slice A252_1 ((rd_T43 l0 x7_1).f1).length c252_1, .int .i64 0]) ?_ 2 _ rfl; (with_reducible repeat (first | apply kN_ | apply kD_ | apply kA_)); refine blk_put (cs := #[.string ((rd_T43 l0 x7_1).f0), .slice none 0 0, .int .i64 0]) ?_ 1 _ rfl; (with_reducible repeat (first | apply kN_ | apply kD_ | apply kA_)); refine blk_put (cs := #[.string (⟨#[]⟩ : ByteArray), .slice none 0 0, .int .i64 0]) ?_ 0 _ rfl; (with_reducible repeat (first | apply kN_ | apply kD_ | apply kA_)); exact BK253.out) : p := h
theorem yactNeededForx5_3_ {p : Prop} (h : p := by have := HK1.out; first | omega | exact Nat.le_refl _) : p := h
abbrev bactNeededForx5_14_0 : Array Bool := #[false, false, false, false, false, false, false, false, false, false, false, false, false, false]
abbrev bactNeededForx5_14_1 : Array Bool := #[true, false, false, false, false, false, false, false, false, false, false, false, false, false]
abbrev bactNeededForx5_14_11 : Array Bool := #[true, false, false, false, true, false, false, false, false, false, false, false, false, false]
abbrev bactNeededForx5_14_13 : Array Bool := #[true, true, false, false, true, false, false, false, false, false, false, false, false, false]
abbrev bactNeededForx5_14_1ff : Array Bool := #[true, true, true, true, true, true, true, true, true, false, false, false, false, false]
abbrev bactNeededForx5_14_1fff : Array Bool := #[true, true, true, true, true, true, true, true, true, true, true, true, true, false]
abbrev bactNeededForx5_14_33 : Array Bool := #[true, true, false, false, true, true, false, false, false, false, false, false, false, false]
abbrev bactNeededForx5_14_3ff : Array Bool := #[true, true, true, true, true, true, true, true, true, true, false, false, false, false]
abbrev bactNeededForx5_14_3fff : Array Bool := #[true, true, true, true, true, true, true, true, true, true, true, true, true, true]
abbrev bactNeededForx5_14_73 : Array Bool := #[true, true, false, false, true, true, true, false, false, false, false, false, false, false]
abbrev bactNeededForx5_14_77 : Array Bool := #[true, true, true, false, true, true, true, false, false, false, false, false, false, false]
abbrev bactNeededForx5_14_7f : Array Bool := #[true, true, true, true, true, true, true, false, false, false, false, false, false, false]
abbrev bactNeededForx5_14_7ff : Array Bool := #[true, true, true, true, true, true, true, true, true, true, true, false, false, false]
abbrev bactNeededForx5_14_ff : Array Bool := #[true, true, true, true, true, true, true, true, false, false, false, false, false, false]
abbrev bactNeededForx5_14_fff : Array Bool := #[true, true, true, true, true, true, true, true, true, true, true, true, false, false]
set_option linter.unusedVariables false
set_option linter.unusedSimpArgs false

/-! ### impl_AreWords: function 22 -/
def impl_AreWords.T6 : Bool × List (List Nat × List Nat) := (true, [([], []), ([0], [0]), ([1], [1]), ([2], [2]), ([], []), ([4], [4]), ([5], [5]), ([3, 6], [3, 6]), ([7, 2], [7]), ([8], [8]), ([9, 8], [8, 9]), ([10, 8, 8], [8, 10]), ([11, 8], [8, 11]), ([8, 12], [8, 12])])
def impl_AreWords.B6 : List Nat := [0, 1, 3, 7, 0, 16, 48, 127, 255, 511, 1023, 2047, 4095, 8191]
theorem impl_AreWords.tab6 : rtab .any (opsOf Try.f22 6) = impl_AreWords.T6 := by kernel_rfl
theorem impl_AreWords.bits6 : waitsOk impl_AreWords.T6.2 impl_AreWords.B6 = true := by kernel_rfl
set_option maxHeartbeats 8000000 in
set_option maxRecDepth 100000 in
theorem impl_AreWords.calls (k : Nat) (A0 : Option Addr) (c0 : Nat) (l0 : List (S43)) (r : Bool) (w : World) (hr0 : Kd.C k43 w A0 l0.length l0) (hc0 : l0.length ≤ c0) (h : impl_AreWords.f k l0 = some r) :
 Calls Try.prog 22 #[.slice A0 l0.length c0] w fun e w' => e = .returned (.bool r) ∧ Below w.heap.size w w' := by
 have hu43 := Try.underlying43
 have HR0 := Aside0.mk hr0
 have HC0 := Aside0.mk hc0
 clear hr0 hc0
 have HB := Aside0.mk (Below.refl w.heap.size w)
 have H : (impl_AreWords.l0 k l0 l0 (l0.length : Int) 0) = some r := h
 clear h
 have H' := Aside0.mk H
 clear H
 go_enter Try.func22, Try.ntmps22
 go_wp2
 go_loopg [7] k (fun kq v7 w' => ∃ (x7_1 : Int), v7 = .int .i64 x7_1 ∧ Aside0 (impl_AreWords.l0 kq l0 l0 (l0.length : Int) x7_1 = some r) ∧ Aside0 (kq ≤ k) ∧ Aside0 (Below w.heap.size w w'))
 case atStart => exact ⟨(0), yactNeededForx5_0_, H', ⟨Nat.le_refl _⟩, ⟨hB_⟩⟩
 case round =>
  clear H'
  obtain ⟨x7_1, rfl, HA, HK1, HB⟩ := hrel
  cases gk with
  | zero => exact absurd HA.out (by simp [impl_AreWords.l0])
  | succ k1 =>
   have H := HA.out
   clear HA
   simp only [impl_AreWords.l0] at H
   by_cases c2 : x7_1 < (l0.length : Int)
   ·rw [if_pos c2] at H
    have c2b0 : decide (x7_1 < (l0.length : Int)) = true := decide_eq_true c2
    clear c2
    by_cases c3 : 0 ≤ x7_1
    ·rw [if_pos c3] at H
     have c3b0 : decide (0 ≤ x7_1) = true := decide_eq_true c3
     clear c3
     by_cases c4 : x7_1 < (l0.length : Int)
     ·rw [if_pos c4] at H
      have c4b0 : decide (x7_1 < (l0.length : Int)) = true := decide_eq_true c4
      clear c4
      have HC5 := Aside0.mk H
      clear H
      have p252 : 0 ≤ (x7_1 : Int) := of_decide_eq_true yactNeededForx5_1_
      have q252 : x7_1 < (l0.length : Int) := of_decide_eq_true yactNeededForx5_1_
      obtain ⟨ad252, A252_1, c252_1, e252, hx252_0, hx252_1, hx252_2, hl252_1, hi252_1⟩ := at_T43 HR0.out x7_1 p252 q252
      cases e252
      replace hx252_0 := (HB.out.cell (World.block_lt_of_cell? w _ hx252_0)).trans hx252_0
      replace hx252_1 := (HB.out.cell (World.block_lt_of_cell? w _ hx252_1)).trans hx252_1
      replace hx252_2 := (HB.out.cell (World.block_lt_of_cell? w _ hx252_2)).trans hx252_2
      have HR252_1 := Aside0.mk hi252_1
      have HC252_1 := Aside0.mk hl252_1
      clear hi252_1 hl252_1
      replace p252 := eq_true p252
      replace q252 := eq_true q252
      go_upto_region 4 with (first | ((with_reducible refine gate_dst (N := 4) rfl ?_); (try (refine gate_guard (by rfl) ?_; dsimp only)); refine box_event ?hg (N := 4) ?hd (cs := #[.string (⟨#[]⟩ : ByteArray), .slice none 0 0, .int .i64 0]) (t := 43) ?hr ?_; (case hd => rfl); (case hg => rfl); (case hr => first | (go_simp; done) | (go_simp; rfl)); intro gb253 hg w6 hbox hb; have BK253 := aM_ (hbox); have GW253 := aM_ (gw_ w hg); have GE253 := aM_ (gw_ w hg); replace HB := aM_ (below_step hB_ hb); clear hb hbox hg; have hz7 := cf3_ BK253.out))
      (try simp only [Act.put, List.setIfInBounds_toArray, List.set_cons_zero, List.set_cons_succ])
      go_cut [36] (fun v36 wc => ∃ (kq : Nat) (x36_4 : Bool), v36 = .bool x36_4 ∧ Aside0 (impl_AreWords.j1 kq l0 x7_1 l0 (l0.length : Int) x7_1 x36_4 ((rd_T43 l0 x7_1).f0) ((rd_T43 l0 x7_1).f1) ((rd_T43 l0 x7_1).f2) = some r) ∧ Aside0 (kq ≤ k1) ∧ Aside0 (wc.heap[gb253]? = some (.cells #[.string ((rd_T43 l0 x7_1).f0), (.slice A252_1 ((rd_T43 l0 x7_1).f1).length c252_1), .int .i64 ((rd_T43 l0 x7_1).f2)] 43 (0, 0))) ∧ Aside0 (Below w.heap.size w wc))
      case first =>
       have H := HC5.out
       clear HC5
       replace H := Option.bind_eq_some_iff.mp H
       obtain ⟨t254, A80, H⟩ := H
       try dsimp only at H
       have A8 := Aside0.mk A80
       clear A80
       by_cases c9 : t254 = true
       ·subst c9
        replace H := ip_ H rfl
        replace H := Option.bind_eq_some_iff.mp H
        obtain ⟨t255, A100, H⟩ := H
        try dsimp only at H
        have A10 := Aside0.mk A100
        clear A100
        by_cases c11 : t255 = true
        ·subst c11
         replace H := ip_ H rfl
         replace H := Option.bind_eq_some_iff.mp H
         obtain ⟨t256, A120, H⟩ := H
         try dsimp only at H
         have A12 := Aside0.mk A120
         clear A120
         by_cases c13 : t256 = true
         ·subst c13
          replace H := ip_ H rfl
          replace H := Option.bind_eq_some_iff.mp H
          obtain ⟨t257, A140, H⟩ := H
          try dsimp only at H
          have A14 := Aside0.mk A140
          clear A140
          have H' := Aside0.mk H
          clear H
          have hz15 := cf3_ BK253.out
          go_wp2_with (first | ((with_reducible refine gate_callee (f := 38) rfl ?_); refine goesM_ (some 14) Try.func38 #[.string ((rd_T43 l0 x7_1).f0)] ?_; (with_reducible refine (impl_IsGloss.calls k1 ((rd_T43 l0 x7_1).f0) true _ A8.out).mono ?_); rintro e w' ⟨rfl, ⟨nd, rfl⟩⟩; refine ⟨_, rfl, ?_⟩) | (go_at_call 23; (with_reducible refine (impl_within.calls ((rd_T43 l0 x7_1).f2) 0 99999 true _ A10.out).mono ?_); rintro e w' ⟨rfl, ⟨nd, rfl⟩⟩) | (go_at_call 39; (with_reducible refine (impl_allWithin.calls k1 _ _ ((rd_T43 l0 x7_1).f1) 0 (wrap64 ((l0.length : Int) - 1)) true _ ?side1 ?side2 A12.out).mono ?_); (case side1 => exact Kd.C_below HR252_1.out hB_); (case side2 => exact HC252_1.out); rintro e w16 ⟨rfl, hb⟩; replace BK253 := aM_ (blk_below (g := gb253) (o := .cells #[.string ((rd_T43 l0 x7_1).f0), .slice A252_1 ((rd_T43 l0 x7_1).f1).length c252_1, .int .i64 ((rd_T43 l0 x7_1).f2)] 43 (0, 0)) yactNeededForx5_2_ hb); replace HB := aM_ (below_step hB_ hb); (try clear hb); (try clear hb2); (try clear hk); (try clear hi); have hz17 := cf3_ BK253.out) | (go_at_call 25; (with_reducible refine (slices_Contains_int.calls k1 _ _ ((rd_T43 l0 x7_1).f1) x7_1 t257 _ ?side1 ?side2 A14.out).mono ?_); (case side1 => repeat (first | exact (Kd.C_below HR252_1.out HB.out) | (with_reducible refine Kd.C_alloc ?_ _) | (with_reducible refine Kd.C_drewN ?_ _) | (with_reducible refine Kd.C_drew ?_))); (case side2 => exact HC252_1.out); rintro e w' ⟨rfl, ⟨nd, rfl⟩⟩))
          go_meet
          case rel => exact ⟨_, (t257), yactNeededForx5_0_, H', ⟨yactNeededForx5_3_⟩, ⟨kP_⟩, ⟨hB_⟩⟩
         ·replace c13 := Bool.eq_false_iff.mpr c13
          subst c13
          replace H := in_ H (show ¬ (false = true) by decide)
          have H' := Aside0.mk H
          clear H
          have hz18 := cf3_ BK253.out
          go_wp2_with (first | ((with_reducible refine gate_callee (f := 38) rfl ?_); refine goesM_ (some 14) Try.func38 #[.string ((rd_T43 l0 x7_1).f0)] ?_; (with_reducible refine (impl_IsGloss.calls k1 ((rd_T43 l0 x7_1).f0) true _ A8.out).mono ?_); rintro e w' ⟨rfl, ⟨nd, rfl⟩⟩; refine ⟨_, rfl, ?_⟩) | (go_at_call 23; (with_reducible refine (impl_within.calls ((rd_T43 l0 x7_1).f2) 0 99999 true _ A10.out).mono ?_); rintro e w' ⟨rfl, ⟨nd, rfl⟩⟩) | (go_at_call 39; (with_reducible refine (impl_allWithin.calls k1 _ _ ((rd_T43 l0 x7_1).f1) 0 (wrap64 ((l0.length : Int) - 1)) false _ ?side1 ?side2 A12.out).mono ?_); (case side1 => exact Kd.C_below HR252_1.out hB_); (case side2 => exact HC252_1.out); rintro e w19 ⟨rfl, hb⟩; replace BK253 := aM_ (blk_below (g := gb253) (o := .cells #[.string ((rd_T43 l0 x7_1).f0), .slice A252_1 ((rd_T43 l0 x7_1).f1).length c252_1, .int .i64 ((rd_T43 l0 x7_1).f2)] 43 (0, 0)) yactNeededForx5_2_ hb); replace HB := aM_ (below_step hB_ hb); (try clear hb); (try clear hb2); (try clear hk); (try clear hi)))
          go_meet
          case rel => exact ⟨_, (true), yactNeededForx5_0_, H', ⟨yactNeededForx5_3_⟩, ⟨kP_⟩, ⟨hB_⟩⟩
        ·replace c11 := Bool.eq_false_iff.mpr c11
         subst c11
         replace H := in_ H (show ¬ (false = true) by decide)
         have H' := Aside0.mk H
         clear H
         have hz20 := cf3_ BK253.out
         go_wp2_with (first | ((with_reducible refine gate_callee (f := 38) rfl ?_); refine goesM_ (some 14) Try.func38 #[.string ((rd_T43 l0 x7_1).f0)] ?_; (with_reducible refine (impl_IsGloss.calls k1 ((rd_T43 l0 x7_1).f0) true _ A8.out).mono ?_); rintro e w' ⟨rfl, ⟨nd, rfl⟩⟩; refine ⟨_, rfl, ?_⟩) | (go_at_call 23; (with_reducible refine (impl_within.calls ((rd_T43 l0 x7_1).f2) 0 99999 false _ A10.out).mono ?_); rintro e w' ⟨rfl, ⟨nd, rfl⟩⟩))
         go_meet
         case rel => exact ⟨_, (true), yactNeededForx5_0_, H', ⟨yactNeededForx5_3_⟩, ⟨yactNeededForx5_2_⟩, ⟨hB_⟩⟩
       ·replace c9 := Bool.eq_false_iff.mpr c9
        subst c9
        replace H := in_ H (show ¬ (false = true) by decide)
        have H' := Aside0.mk H
        clear H
        have hz21 := cf3_ BK253.out
        go_wp2_with (first | ((with_reducible refine gate_callee (f := 38) rfl ?_); refine goesM_ (some 14) Try.func38 #[.string ((rd_T43 l0 x7_1).f0)] ?_; (with_reducible refine (impl_IsGloss.calls k1 ((rd_T43 l0 x7_1).f0) false _ A8.out).mono ?_); rintro e w' ⟨rfl, ⟨nd, rfl⟩⟩; refine ⟨_, rfl, ?_⟩))
        go_meet
        case rel => exact ⟨_, (true), yactNeededForx5_0_, H', ⟨yactNeededForx5_3_⟩, ⟨yactNeededForx5_2_⟩, ⟨hB_⟩⟩
      case rest =>
       clear HC5
       (try clear c2);(try clear c2b0);(try clear c3);(try clear c3b0);(try clear c4);(try clear c4b0);(try clear hcz7_0);(try clear hcz7_1);(try clear hcz7_2);(try clear hfz7_0);(try clear hfz7_1);(try clear hfz7_2);(try clear hx252_0);(try clear hx252_1);(try clear hx252_2);(try clear p252);(try clear q252)
       obtain ⟨kq, x36_4, rfl, HA, HJ4, BK253, HB⟩ := hcut
       cases kq with
       | zero => exact absurd HA.out (by simp [impl_AreWords.j1])
       | succ kj4 =>
        have H := HA.out
        clear HA
        simp only [impl_AreWords.j1] at H
        by_cases c22 : x36_4 = true
        ·subst c22
         replace H := ip_ H rfl
         obtain rfl := Option.some.inj H
         go_wp2
         go_ret
         exact ⟨rT_, hB_⟩
        ·replace c22 := Bool.eq_false_iff.mpr c22
         subst c22
         replace H := in_ H (show ¬ (false = true) by decide)
         have HC23 := Aside0.mk H
         clear H
         go_upto_region 6 with (fail)
         go_cut [50] (fun v50 wc => ∃ (kq : Nat) (x50_22 : Bool), v50 = .bool x50_22 ∧ Aside0 (impl_AreWords.j2 kq l0 x7_1 l0 (l0.length : Int) x7_1 x50_22 ((rd_T43 l0 x7_1).f0) ((rd_T43 l0 x7_1).f1) ((rd_T43 l0 x7_1).f2) = some r) ∧ Aside0 (kq ≤ kj4) ∧ Aside0 (wc.heap[gb253]? = some (.cells #[.string ((rd_T43 l0 x7_1).f0), (.slice A252_1 ((rd_T43 l0 x7_1).f1).length c252_1), .int .i64 ((rd_T43 l0 x7_1).f2)] 43 (0, 0))) ∧ Aside0 (Below w.heap.size w wc))
         case first =>
          have H := HC23.out
          clear HC23
          replace H := Option.bind_eq_some_iff.mp H
          obtain ⟨t258, A240, H⟩ := H
          try dsimp only at H
          have A24 := Aside0.mk A240
          clear A240
          by_cases c25 : (t258.length : Int) = (((rd_T43 l0 x7_1).f1).length : Int)
          ·rw [if_pos c25] at H
           have c25b0 : ((t258.length : Int) == (((rd_T43 l0 x7_1).f1).length : Int)) = true := beq_iff_eq.mpr c25
           have c25b1 : ((t258.length : Int) != (((rd_T43 l0 x7_1).f1).length : Int)) = false := bne_eq_false_iff_eq.mpr c25
           have c25b2 : (t258.length == ((rd_T43 l0 x7_1).f1).length) = true := by first | simpa using c25 | (simp at c25 ⊢; omega)
           clear c25
           (first | rw [c25b0] | (simp only [i64_w, i32_w]; rw [c25b0]) | skip)
           replace H := Option.bind_eq_some_iff.mp H
           obtain ⟨t261, A260, H⟩ := H
           try dsimp only at H
           have A26 := Aside0.mk A260
           clear A260
           have H' := Aside0.mk H
           clear H
           try go_wp2
           replace BK253 := aM_ (blk_drew BK253.out)
           replace HB := aM_ (below_drew1 HB.out)
           refine start_ (n := 14) (S := fun w' => w'.cell? ⟨gb253, 0, none⟩ = some (.string ((rd_T43 l0 x7_1).f0)) ∧ w'.cell? ⟨gb253, 1, none⟩ = some (.slice A252_1 ((rd_T43 l0 x7_1).f1).length c252_1) ∧ w'.cell? ⟨gb253, 2, none⟩ = some (.int .i64 ((rd_T43 l0 x7_1).f2))) (ds := []) bactNeededForx5_14_0 (by kernel_rfl) rfl rfl ⟨(blk_cell BK253.out 0).trans rfl, (blk_cell BK253.out 1).trans rfl, (blk_cell BK253.out 2).trans rfl⟩ (fun hHeld => ?_); refine with_tabW impl_AreWords.tab6 impl_AreWords.bits6 (fun HT_ HW_ => ?_)
           generalize wc.drew = w27 at BK253 HB hHeld ⊢
           refine pure_ (i := 0) (N := some 37) (v := ?_) (a' := ?_) bactNeededForx5_14_1 rfl rfl (any_of HT_.out (by kernel_rfl)) (fun _ _ _ h => h) (Or.inl ⟨by rfl, ?_⟩) ?_ ?_
           rotate_left
           ·intro w'
            go_simp
            with_reducible rfl
           rotate_left
           ·simp only [Act.put, List.setIfInBounds_toArray, List.set_cons_zero, List.set_cons_succ, i64_w, i32_w]
            rfl
           refine pure_ (i := 4) (N := some 41) (v := ?_) (a' := ?_) bactNeededForx5_14_11 rfl rfl (any_of HT_.out (by kernel_rfl)) (fun _ _ _ h => h) (Or.inl ⟨by rfl, ?_⟩) ?_ ?_
           rotate_left
           ·intro w'
            go_simp
            with_reducible rfl
           rotate_left
           ·simp only [Act.put, List.setIfInBounds_toArray, List.set_cons_zero, List.set_cons_succ, i64_w, i32_w]
            rfl
           refine take_ (i := 1) (N := some 38) (v := ?_) (a' := ?_) bactNeededForx5_14_13 rfl rfl (take_ofW HT_.out HW_.out (by kernel_rfl)) (fun _ _ _ h => h) (Or.inl ⟨by rfl, ?_⟩) hHeld ?_ ?_
           rotate_left
           ·rintro w' ⟨s0, s1, s2⟩
            go_simp
            with_reducible rfl
           rotate_left
           ·simp only [Act.put, List.setIfInBounds_toArray, List.set_cons_zero, List.set_cons_succ, i64_w, i32_w]
            rfl
           refine take_ (i := 5) (N := some 42) (v := ?_) (a' := ?_) bactNeededForx5_14_33 rfl rfl (take_ofW HT_.out HW_.out (by kernel_rfl)) (fun _ _ _ h => h) (Or.inl ⟨by rfl, ?_⟩) hHeld ?_ ?_
           rotate_left
           ·rintro w' ⟨s0, s1, s2⟩
            go_simp
            with_reducible rfl
           rotate_left
           ·simp only [Act.put, List.setIfInBounds_toArray, List.set_cons_zero, List.set_cons_succ, i64_w, i32_w]
            rfl
           refine pure_ (i := 6) (N := some 43) (v := ?_) (a' := ?_) bactNeededForx5_14_73 rfl rfl (any_of HT_.out (by kernel_rfl)) (fun _ _ _ h => h) (Or.inl ⟨by rfl, ?_⟩) ?_ ?_
           rotate_left
           ·intro w'
            go_simp
            with_reducible rfl
           rotate_left
           ·simp only [Act.put, List.setIfInBounds_toArray, List.set_cons_zero, List.set_cons_succ, i64_w, i32_w]
            rfl
           refine one_ (i := 2) (N := some 39) bactNeededForx5_14_77 rfl rfl (one_of HT_.out (by kernel_rfl)) (by decide) (fun K hK => ?_)
           refine goes_ Try.func40 (by kernel_rfl) rfl #[.slice A252_1 ((rd_T43 l0 x7_1).f1).length c252_1] (by rfl) rfl rfl aR_ ?_
           with_reducible refine (impl_distinct_int.calls _ _ ((rd_T43 l0 x7_1).f1) t258 _ ?side1 ?side2 A24.out).mono ?_
           (case side1 => repeat (first | exact (Kd.C_below HR252_1.out HB.out) | (with_reducible refine Kd.C_alloc ?_ _) | (with_reducible refine Kd.C_drewN ?_ _) | (with_reducible refine Kd.C_drew ?_)))
           (case side2 => exact HC252_1.out)
           rintro e w28 ⟨v259, rfl, ho0, hb⟩
           refine ⟨_, rfl, ?_⟩
           have HO260 := aM_ (Kd.R_lower ho0 (below_size hB_))
           replace BK253 := aM_ (blk_below (g := gb253) (kR_ BK253) hb)
           replace HB := aM_ (below_step hB_ hb)
           (try clear hb)
           (try clear hb2)
           (try clear hk)
           (try clear hi)
           (try clear ho0)
           obtain ⟨Ao29, co29, eo29⟩ := Kd.R_slice HO260.out
           (first | subst eo29 | (injection eo29 with f1_ f2_ f3_; have f4_ := f1_.symm; have f5_ := f3_.symm; clear f1_ f2_ f3_; subst f4_; subst f5_))
           refine hK.out _ _ ⟨(blk_cell BK253.out 0).trans rfl, (blk_cell BK253.out 1).trans rfl, (blk_cell BK253.out 2).trans rfl⟩ (fun hHeld => ?_)
           clear hK K
           refine norm_ (a' := ?_) ?_ ?_
           rotate_left
           ·show Act.put _ (some 39) _ = _
            simp only [Act.put, List.setIfInBounds_toArray, List.set_cons_zero, List.set_cons_succ, i64_w, i32_w]
            rfl
           refine pure_ (i := 3) (N := some 40) (v := ?_) (a' := ?_) bactNeededForx5_14_7f rfl rfl (any_of HT_.out (by kernel_rfl)) (fun _ _ _ h => h) (Or.inl ⟨by rfl, ?_⟩) ?_ ?_
           rotate_left
           ·intro w'
            go_simp
            with_reducible rfl
           rotate_left
           ·simp only [Act.put, List.setIfInBounds_toArray, List.set_cons_zero, List.set_cons_succ, i64_w, i32_w]
            rfl
           refine pure_ (i := 7) (N := some 44) (v := ?_) (a' := ?_) bactNeededForx5_14_ff rfl rfl (any_of HT_.out (by kernel_rfl)) (fun _ _ _ h => h) (Or.inl ⟨by rfl, ?_⟩) ?_ ?_
           rotate_left
           ·intro w'
            go_simp
            with_reducible rfl
           rotate_left
           ·simp only [Act.put, List.setIfInBounds_toArray, List.set_cons_zero, List.set_cons_succ, i64_w, i32_w]
            rfl
           refine pure_ (i := 8) (N := some 45) (v := ?_) (a' := ?_) bactNeededForx5_14_1ff rfl rfl (any_of HT_.out (by kernel_rfl)) (fun _ _ _ h => h) (Or.inl ⟨by rfl, ?_⟩) ?_ ?_
           rotate_left
           ·intro w'
            go_simp
            with_reducible rfl
           rotate_left
           ·simp only [Act.put, List.setIfInBounds_toArray, List.set_cons_zero, List.set_cons_succ, i64_w, i32_w]
            rfl
           refine pure_ (i := 9) (N := some 46) (v := ?_) (a' := ?_) bactNeededForx5_14_3ff rfl rfl (any_of HT_.out (by kernel_rfl)) (fun _ _ _ h => h) (Or.inl ⟨by rfl, ?_⟩) ?_ ?_
           rotate_left
           ·intro w'
            go_simp
            with_reducible rfl
           rotate_left
           ·simp only [Act.put, List.setIfInBounds_toArray, List.set_cons_zero, List.set_cons_succ, i64_w, i32_w]
            rfl
           refine take_ (i := 10) (N := some 47) (v := ?_) (a' := ?_) bactNeededForx5_14_7ff rfl rfl (take_ofW HT_.out HW_.out (by kernel_rfl)) (fun _ _ _ h => h) (Or.inl ⟨by rfl, ?_⟩) hHeld ?_ ?_
           rotate_left
           ·rintro w' ⟨s0, s1, s2⟩
            go_simp
            with_reducible rfl
           rotate_left
           ·simp only [Act.put, List.setIfInBounds_toArray, List.set_cons_zero, List.set_cons_succ, i64_w, i32_w]
            rfl
           refine one_ (i := 11) (N := some 48) bactNeededForx5_14_fff rfl rfl (one_of HT_.out (by kernel_rfl)) (by decide) (fun K hK => ?_)
           refine goes_ Try.func41 (by kernel_rfl) rfl #[.slice A252_1 ((rd_T43 l0 x7_1).f1).length c252_1] (by rfl) rfl rfl aR_ ?_
           with_reducible refine (slices_IsSorted_int.calls kj4 _ _ ((rd_T43 l0 x7_1).f1) t261 _ ?side1 ?side2 A26.out).mono ?_
           (case side1 => repeat (first | exact (Kd.C_below HR252_1.out HB.out) | (with_reducible refine Kd.C_alloc ?_ _) | (with_reducible refine Kd.C_drewN ?_ _) | (with_reducible refine Kd.C_drew ?_)))
           (case side2 => exact HC252_1.out)
           rintro e w' ⟨rfl, ⟨nd, rfl⟩⟩
           refine ⟨_, rfl, ?_⟩
           refine hK.out _ _ ⟨(blk_cell BK253.out 0).trans rfl, (blk_cell BK253.out 1).trans rfl, (blk_cell BK253.out 2).trans rfl⟩ (fun hHeld => ?_)
           clear hK K
           refine norm_ (a' := ?_) ?_ ?_
           rotate_left
           ·show Act.put _ (some 48) _ = _
            simp only [Act.put, List.setIfInBounds_toArray, List.set_cons_zero, List.set_cons_succ, i64_w, i32_w]
            rfl
           refine pure_ (i := 12) (N := some 49) (v := ?_) (a' := ?_) bactNeededForx5_14_1fff rfl rfl (any_of HT_.out (by kernel_rfl)) (fun _ _ _ h => h) (Or.inl ⟨by rfl, ?_⟩) ?_ ?_
           rotate_left
           ·intro w'
            go_simp
            with_reducible rfl
           rotate_left
           ·simp only [Act.put, List.setIfInBounds_toArray, List.set_cons_zero, List.set_cons_succ, i64_w, i32_w]
            rfl
           refine pure_ (i := 13) (N := some 50) (v := ?_) (a' := ?_) bactNeededForx5_14_3fff rfl rfl (any_of HT_.out (by kernel_rfl)) (fun _ _ _ h => h) (Or.inl ⟨by rfl, ?_⟩) ?_ ?_
           rotate_left
           ·intro w'
            go_simp
            with_reducible rfl
           rotate_left
           ·simp only [Act.put, List.setIfInBounds_toArray, List.set_cons_zero, List.set_cons_succ, i64_w, i32_w]
            rfl
           refine done_ (done_of HT_.out (by kernel_rfl)) ?_
           try go_wp2
           go_meet
           case rel => exact ⟨_, (!t261), yactNeededForx5_0_, H', ⟨by have := HK1.out; have := HJ4.out; first | omega | exact Nat.le_refl _⟩, ⟨kP_⟩, ⟨hB_⟩⟩
          ·rw [if_neg c25] at H
           have c25b0 : ((t258.length : Int) == (((rd_T43 l0 x7_1).f1).length : Int)) = false := beq_eq_false_iff_ne.mpr c25
           have c25b1 : ((t258.length : Int) != (((rd_T43 l0 x7_1).f1).length : Int)) = true := bne_iff_ne.mpr c25
           have c25b2 : (t258.length == ((rd_T43 l0 x7_1).f1).length) = false := by first | simpa using c25 | (simp at c25 ⊢; omega)
           (first | rw [c25b0] | (simp only [i64_w, i32_w]; rw [c25b0]) | skip)
           have H' := Aside0.mk H
           clear H
           try go_wp2
           replace BK253 := aM_ (blk_drew BK253.out)
           replace HB := aM_ (below_drew1 HB.out)
           refine start_ (n := 14) (S := fun w' => w'.cell? ⟨gb253, 0, none⟩ = some (.string ((rd_T43 l0 x7_1).f0)) ∧ w'.cell? ⟨gb253, 1, none⟩ = some (.slice A252_1 ((rd_T43 l0 x7_1).f1).length c252_1) ∧ w'.cell? ⟨gb253, 2, none⟩ = some (.int .i64 ((rd_T43 l0 x7_1).f2))) (ds := []) bactNeededForx5_14_0 (by kernel_rfl) rfl rfl ⟨(blk_cell BK253.out 0).trans rfl, (blk_cell BK253.out 1).trans rfl, (blk_cell BK253.out 2).trans rfl⟩ (fun hHeld => ?_); refine with_tabW impl_AreWords.tab6 impl_AreWords.bits6 (fun HT_ HW_ => ?_)
           generalize wc.drew = w30 at BK253 HB hHeld ⊢
           refine pure_ (i := 0) (N := some 37) (v := ?_) (a' := ?_) bactNeededForx5_14_1 rfl rfl (any_of HT_.out (by kernel_rfl)) (fun _ _ _ h => h) (Or.inl ⟨by rfl, ?_⟩) ?_ ?_
           rotate_left
           ·intro w'
            go_simp
            with_reducible rfl
           rotate_left
           ·simp only [Act.put, List.setIfInBounds_toArray, List.set_cons_zero, List.set_cons_succ, i64_w, i32_w]
            rfl
           refine pure_ (i := 4) (N := some 41) (v := ?_) (a' := ?_) bactNeededForx5_14_11 rfl rfl (any_of HT_.out (by kernel_rfl)) (fun _ _ _ h => h) (Or.inl ⟨by rfl, ?_⟩) ?_ ?_
           rotate_left
           ·intro w'
            go_simp
            with_reducible rfl
           rotate_left
           ·simp only [Act.put, List.setIfInBounds_toArray, List.set_cons_zero, List.set_cons_succ, i64_w, i32_w]
            rfl
           refine take_ (i := 1) (N := some 38) (v := ?_) (a' := ?_) bactNeededForx5_14_13 rfl rfl (take_ofW HT_.out HW_.out (by kernel_rfl)) (fun _ _ _ h => h) (Or.inl ⟨by rfl, ?_⟩) hHeld ?_ ?_
           rotate_left
           ·rintro w' ⟨s0, s1, s2⟩
            go_simp
            with_reducible rfl
           rotate_left
           ·simp only [Act.put, List.setIfInBounds_toArray, List.set_cons_zero, List.set_cons_succ, i64_w, i32_w]
            rfl
           refine take_ (i := 5) (N := some 42) (v := ?_) (a' := ?_) bactNeededForx5_14_33 rfl rfl (take_ofW HT_.out HW_.out (by kernel_rfl)) (fun _ _ _ h => h) (Or.inl ⟨by rfl, ?_⟩) hHeld ?_ ?_
           rotate_left
           ·rintro w' ⟨s0, s1, s2⟩
            go_simp
            with_reducible rfl
           rotate_left
           ·simp only [Act.put, List.setIfInBounds_toArray, List.set_cons_zero, List.set_cons_succ, i64_w, i32_w]
            rfl
           refine pure_ (i := 6) (N := some 43) (v := ?_) (a' := ?_) bactNeededForx5_14_73 rfl rfl (any_of HT_.out (by kernel_rfl)) (fun _ _ _ h => h) (Or.inl ⟨by rfl, ?_⟩) ?_ ?_
           rotate_left
           ·intro w'
            go_simp
            with_reducible rfl
           rotate_left
           ·simp only [Act.put, List.setIfInBounds_toArray, List.set_cons_zero, List.set_cons_succ, i64_w, i32_w]
            rfl
           refine one_ (i := 2) (N := some 39) bactNeededForx5_14_77 rfl rfl (one_of HT_.out (by kernel_rfl)) (by decide) (fun K hK => ?_)
           refine goes_ Try.func40 (by kernel_rfl) rfl #[.slice A252_1 ((rd_T43 l0 x7_1).f1).length c252_1] (by rfl) rfl rfl aR_ ?_
           with_reducible refine (impl_distinct_int.calls _ _ ((rd_T43 l0 x7_1).f1) t258 _ ?side1 ?side2 A24.out).mono ?_
           (case side1 => repeat (first | exact (Kd.C_below HR252_1.out HB.out) | (with_reducible refine Kd.C_alloc ?_ _) | (with_reducible refine Kd.C_drewN ?_ _) | (with_reducible refine Kd.C_drew ?_)))
           (case side2 => exact HC252_1.out)
           rintro e w31 ⟨v259, rfl, ho0, hb⟩
           refine ⟨_, rfl, ?_⟩
           have HO260 := aM_ (Kd.R_lower ho0 (below_size hB_))
           replace BK253 := aM_ (blk_below (g := gb253) (kR_ BK253) hb)
           replace HB := aM_ (below_step hB_ hb)
           (try clear hb)
           (try clear hb2)
           (try clear hk)
           (try clear hi)
           (try clear ho0)
           obtain ⟨Ao32, co32, eo32⟩ := Kd.R_slice HO260.out
           (first | subst eo32 | (injection eo32 with f1_ f2_ f3_; have f4_ := f1_.symm; have f5_ := f3_.symm; clear f1_ f2_ f3_; subst f4_; subst f5_))
           refine hK.out _ _ ⟨(blk_cell BK253.out 0).trans rfl, (blk_cell BK253.out 1).trans rfl, (blk_cell BK253.out 2).trans rfl⟩ (fun hHeld => ?_)
           clear hK K
           refine norm_ (a' := ?_) ?_ ?_
           rotate_left
           ·show Act.put _ (some 39) _ = _
            simp only [Act.put, List.setIfInBounds_toArray, List.set_cons_zero, List.set_cons_succ, i64_w, i32_w]
            rfl
           refine pure_ (i := 3) (N := some 40) (v := ?_) (a' := ?_) bactNeededForx5_14_7f rfl rfl (any_of HT_.out (by kernel_rfl)) (fun _ _ _ h => h) (Or.inl ⟨by rfl, ?_⟩) ?_ ?_
           rotate_left
           ·intro w'
            go_simp
            with_reducible rfl
           rotate_left
           ·simp only [Act.put, List.setIfInBounds_toArray, List.set_cons_zero, List.set_cons_succ, i64_w, i32_w]
            rfl
           refine pure_ (i := 7) (N := some 44) (v := ?_) (a' := ?_) bactNeededForx5_14_ff rfl rfl (any_of HT_.out (by kernel_rfl)) (fun _ _ _ h => h) (Or.inl ⟨by rfl, ?_⟩) ?_ ?_
           rotate_left
           ·intro w'
            go_simp
            with_reducible rfl
           rotate_left
           ·simp only [Act.put, List.setIfInBounds_toArray, List.set_cons_zero, List.set_cons_succ, i64_w, i32_w]
            rfl
           refine pure_ (i := 8) (N := some 45) (v := ?_) (a' := ?_) bactNeededForx5_14_1ff rfl rfl (any_of HT_.out (by kernel_rfl)) (fun _ _ _ h => h) (Or.inl ⟨by rfl, ?_⟩) ?_ ?_
           rotate_left
           ·intro w'
            go_simp
            with_reducible rfl
           rotate_left
           ·simp only [Act.put, List.setIfInBounds_toArray, List.set_cons_zero, List.set_cons_succ, i64_w, i32_w]
            rfl
           refine pure_ (i := 9) (N := some 46) (v := undef) (a' := ?_) bactNeededForx5_14_3ff rfl rfl (any_of HT_.out (by kernel_rfl)) (fun _ _ _ h => h) (Or.inr ⟨by rfl, rfl⟩) ?_ ?_
           rotate_left
           ·simp only [Act.put, List.setIfInBounds_toArray, List.set_cons_zero, List.set_cons_succ, i64_w, i32_w]
            rfl
           refine pure_ (i := 10) (N := some 47) (v := undef) (a' := ?_) bactNeededForx5_14_7ff rfl rfl (any_of HT_.out (by kernel_rfl)) (fun _ _ _ h => h) (Or.inr ⟨by rfl, rfl⟩) ?_ ?_
           rotate_left
           ·simp only [Act.put, List.setIfInBounds_toArray, List.set_cons_zero, List.set_cons_succ, i64_w, i32_w]
            rfl
           refine pure_ (i := 11) (N := some 48) (v := undef) (a' := ?_) bactNeededForx5_14_fff rfl rfl (any_of HT_.out (by kernel_rfl)) (fun _ _ _ h => h) (Or.inr ⟨by rfl, rfl⟩) ?_ ?_
           rotate_left
           ·simp only [Act.put, List.setIfInBounds_toArray, List.set_cons_zero, List.set_cons_succ, i64_w, i32_w]
            rfl
           refine pure_ (i := 12) (N := some 49) (v := undef) (a' := ?_) bactNeededForx5_14_1fff rfl rfl (any_of HT_.out (by kernel_rfl)) (fun _ _ _ h => h) (Or.inr ⟨by rfl, rfl⟩) ?_ ?_
           rotate_left
           ·simp only [Act.put, List.setIfInBounds_toArray, List.set_cons_zero, List.set_cons_succ, i64_w, i32_w]
            rfl
           refine pure_ (i := 13) (N := some 50) (v := ?_) (a' := ?_) bactNeededForx5_14_3fff rfl rfl (any_of HT_.out (by kernel_rfl)) (fun _ _ _ h => h) (Or.inl ⟨by rfl, ?_⟩) ?_ ?_
           rotate_left
           ·intro w'
            go_simp
            with_reducible rfl
           rotate_left
           ·simp only [Act.put, List.setIfInBounds_toArray, List.set_cons_zero, List.set_cons_succ, i64_w, i32_w]
            rfl
           refine done_ (done_of HT_.out (by kernel_rfl)) ?_
           try go_wp2
           go_meet
           case rel => exact ⟨_, (true), yactNeededForx5_0_, H', ⟨by have := HK1.out; have := HJ4.out; first | omega | exact Nat.le_refl _⟩, ⟨kP_⟩, ⟨hB_⟩⟩
         case rest =>
          clear HC23
          (try clear c2);(try clear c2b0);(try clear c3);(try clear c3b0);(try clear c4);(try clear c4b0);(try clear c22);(try clear hcz7_0);(try clear hcz7_1);(try clear hcz7_2);(try clear hfz7_0);(try clear hfz7_1);(try clear hfz7_2);(try clear hx252_0);(try clear hx252_1);(try clear hx252_2);(try clear p252);(try clear q252)
          obtain ⟨kq, x50_22, rfl, HA, HJ22, BK253, HB⟩ := hcut
          cases kq with
          | zero => exact absurd HA.out (by simp [impl_AreWords.j2])
          | succ kj22 =>
           have H := HA.out
           clear HA
           simp only [impl_AreWords.j2] at H
           by_cases c33 : x50_22 = true
           ·subst c33
            replace H := ip_ H rfl
            obtain rfl := Option.some.inj H
            go_wp2
            go_ret
            exact ⟨rT_, hB_⟩
           ·replace c33 := Bool.eq_false_iff.mpr c33
            subst c33
            replace H := in_ H (show ¬ (false = true) by decide)
            by_cases c34 : 0 ≤ x7_1
            ·rw [if_pos c34] at H
             have c34b0 := eq_true c34
             have c34b1 : decide (0 ≤ x7_1) = true := decide_eq_true c34
             clear c34
             by_cases c35 : x7_1 ≤ (l0.length : Int)
             ·rw [if_pos c35] at H
              have c35b0 := eq_true c35
              have c35b1 : decide (x7_1 ≤ (l0.length : Int)) = true := decide_eq_true c35
              clear c35
              obtain ⟨y262, hy262⟩ : ∃ y_ : List (S43), y_ = (l0.take (x7_1 : Int).toNat) := ⟨_, rfl⟩
              replace H : ((slices_ContainsFunc_Word_impl_AreWords_1.f kj22 y262 ((rd_T43 l0 x7_1).f0) ((rd_T43 l0 x7_1).f1) ((rd_T43 l0 x7_1).f2)).bind fun t266 => (if t266 = true then (some false) else (impl_AreWords.l0 kj22 l0 l0 (l0.length : Int) (wrap64 (x7_1 + 1))))) = some r := by first | (rw [hy262]; with_reducible exact H) | (have H2_ := (Option.bind_some _ _).symm.trans H; rw [hy262]; with_reducible exact H2_) | (have H2_ := (Option.bind_some _ _).symm.trans H; with_reducible exact H2_) | with_reducible exact H | (rw [hy262]; exact H) | exact H
              have Ny262 := Aside0.mk hy262
              clear hy262
              replace H := Option.bind_eq_some_iff.mp H
              obtain ⟨t266, A360, H⟩ := H
              try dsimp only at H
              have A36 := Aside0.mk A360
              clear A360
              by_cases c37 : t266 = true
              ·subst c37
               replace H := ip_ H rfl
               obtain rfl := Option.some.inj H
               have q38 : (x7_1 : Int) ≤ ((l0.length : Int) : Int) := of_decide_eq_true yactNeededForx5_1_
               obtain ⟨i038, hi038, _, hsz38, _⟩ := info_parts info43
               have hroom38 : l0.length ≤ c0 := HC0.out
               have hC38 : Kd.C k43 _ (some ad252) l0.length l0 := HR0.out
               have hcut38 := cut_to (P := Try.prog) 27 43 .i64 Try.underlying27 hi038 (some ad252) l0.length c0 x7_1 (of_decide_eq_true yactNeededForx5_1_) q38 hroom38
               have hr38 := Kd.C_take (m := (x7_1 : Int).toNat) hC38 (by omega)
               have hy38 : y262.length = (x7_1 : Int).toNat := (by rw [Ny262.out, List.length_take]; omega)
               rw [← Ny262.out] at hr38
               rw [← hy38] at hcut38
               have HR265 := Aside0.mk hr38
               have HC265 := Aside0.mk (show y262.length ≤ c0 from by omega)
               clear hr38 hC38 hroom38 hi038 hsz38
               have KY38 := Aside0.mk hy38
               clear hy38
               replace q38 := eq_true q38
               go_wp2_with (first | ((with_reducible refine gate_callee (f := 42) rfl ?_); refine goesM_ (some 55) Try.func42 #[.slice (some ad252) y262.length c0, .func (.func 43) #[] #[.pointer (some ⟨gb253, 0, none⟩)]] ?_; (with_reducible refine (slices_ContainsFunc_Word_impl_AreWords_1.calls kj22 _ _ y262 gb253 ((rd_T43 l0 x7_1).f0) A252_1 c252_1 ((rd_T43 l0 x7_1).f1) ((rd_T43 l0 x7_1).f2) true _ ?side1 ?side2 ?side3 ?side4 ?side5 A36.out).mono ?_); (case side1 => repeat (first | exact (Kd.C_below HR265.out HB.out) | (with_reducible refine Kd.C_alloc ?_ _) | (with_reducible refine Kd.C_drewN ?_ _) | (with_reducible refine Kd.C_drew ?_))); (case side2 => exact HC265.out); (case side3 => repeat (first | exact (Kd.C_below HR252_1.out HB.out) | (with_reducible refine Kd.C_alloc ?_ _) | (with_reducible refine Kd.C_drewN ?_ _) | (with_reducible refine Kd.C_drew ?_))); (case side4 => exact HC252_1.out); (case side5 => (with_reducible repeat (first | apply kN_ | apply kD_ | apply kA_)); exact BK253.out); rintro e w39 ⟨rfl, hb⟩; refine ⟨_, rfl, ?_⟩; replace BK253 := aM_ (blk_below (g := gb253) (kR_ BK253) hb); replace HB := aM_ (below_step hB_ hb); (try clear hb); (try clear hb2); (try clear hk); (try clear hi)))
               go_ret
               exact ⟨rT_, hB_⟩
              ·replace c37 := Bool.eq_false_iff.mpr c37
               subst c37
               replace H := in_ H (show ¬ (false = true) by decide)
               have H' := Aside0.mk H
               clear H
               have q40 : (x7_1 : Int) ≤ ((l0.length : Int) : Int) := of_decide_eq_true yactNeededForx5_1_
               obtain ⟨i040, hi040, _, hsz40, _⟩ := info_parts info43
               have hroom40 : l0.length ≤ c0 := HC0.out
               have hC40 : Kd.C k43 _ (some ad252) l0.length l0 := HR0.out
               have hcut40 := cut_to (P := Try.prog) 27 43 .i64 Try.underlying27 hi040 (some ad252) l0.length c0 x7_1 (of_decide_eq_true yactNeededForx5_1_) q40 hroom40
               have hr40 := Kd.C_take (m := (x7_1 : Int).toNat) hC40 (by omega)
               have hy40 : y262.length = (x7_1 : Int).toNat := (by rw [Ny262.out, List.length_take]; omega)
               rw [← Ny262.out] at hr40
               rw [← hy40] at hcut40
               have HR265 := Aside0.mk hr40
               have HC265 := Aside0.mk (show y262.length ≤ c0 from by omega)
               clear hr40 hC40 hroom40 hi040 hsz40
               have KY40 := Aside0.mk hy40
               clear hy40
               replace q40 := eq_true q40
               go_wp2_with (first | ((with_reducible refine gate_callee (f := 42) rfl ?_); refine goesM_ (some 55) Try.func42 #[.slice (some ad252) y262.length c0, .func (.func 43) #[] #[.pointer (some ⟨gb253, 0, none⟩)]] ?_; (with_reducible refine (slices_ContainsFunc_Word_impl_AreWords_1.calls kj22 _ _ y262 gb253 ((rd_T43 l0 x7_1).f0) A252_1 c252_1 ((rd_T43 l0 x7_1).f1) ((rd_T43 l0 x7_1).f2) false _ ?side1 ?side2 ?side3 ?side4 ?side5 A36.out).mono ?_); (case side1 => repeat (first | exact (Kd.C_below HR265.out HB.out) | (with_reducible refine Kd.C_alloc ?_ _) | (with_reducible refine Kd.C_drewN ?_ _) | (with_reducible refine Kd.C_drew ?_))); (case side2 => exact HC265.out); (case side3 => repeat (first | exact (Kd.C_below HR252_1.out HB.out) | (with_reducible refine Kd.C_alloc ?_ _) | (with_reducible refine Kd.C_drewN ?_ _) | (with_reducible refine Kd.C_drew ?_))); (case side4 => exact HC252_1.out); (case side5 => (with_reducible repeat (first | apply kN_ | apply kD_ | apply kA_)); exact BK253.out); rintro e w41 ⟨rfl, hb⟩; refine ⟨_, rfl, ?_⟩; replace BK253 := aM_ (blk_below (g := gb253) (kR_ BK253) hb); replace HB := aM_ (below_step hB_ hb); (try clear hb); (try clear hb2); (try clear hk); (try clear hi)))
               go_roundg kj22
               case measure => have := HK1.out; have := HJ4.out; have := HJ22.out; omega
               case rel => exact ⟨(wrap64 (x7_1 + 1)), yactNeededForx5_0_, H', ⟨by have := HK1.out; have := HJ4.out; have := HJ22.out; omega⟩, ⟨hB_⟩⟩
             ·rw [if_neg c35] at H
              exact absurd H (by simp)
            ·rw [if_neg c34] at H
             exact absurd H (by simp)
     ·rw [if_neg c4] at H
      exact absurd H (by simp)
    ·rw [if_neg c3] at H
     exact absurd H (by simp)
   ·rw [if_neg c2] at H
    have c2b0 : decide (x7_1 < (l0.length : Int)) = false := decide_eq_false c2
    clear c2
    obtain rfl := Option.some.inj H
    go_wp2
    go_ret
    exact ⟨rT_, hB_⟩

end Go.Proofs.Ytmongpocangocaa.PFnExactNeededFor
