/- Written by a program of this claim's author, out of the loaded program as Lean prints it: the functions as Lean functions, and that the calls answer so. -/
import Derived.Test.YtmlpogmedglncaaPFnExactFewestLessonsx0
import Derived.Test.YtmlpogmedglncaaPFnExactFewestLessonsx5
import Derived.Test.YtmlpogmedglncaaPFnExactFewestLessonsx6
import Derived.Test.YtmlpogmedglncaaPFnExactFewestLessonsxD0
namespace Go.Proofs.Ytmlpogmedglncaa.PFnExactFewestLessons
open Go.RowKit Go.Proofs.YtmlpogmedglncaaW.PrintWords Go.Proofs.YtmlpogmedglncaaW.PrintLast Go.Proofs.YtmlpogmedglncaaW.PrintMore
attribute [local go_sem] max2_int min2_int max_two min_two max_three min_three max_four min_four isSome_setCell   -- for this text's walks alone
abbrev bactFewestLessonsx7_14_0 : Array Bool := #[false, false, false, false, false, false, false, false, false, false, false, false, false, false]
abbrev bactFewestLessonsx7_14_1 : Array Bool := #[true, false, false, false, false, false, false, false, false, false, false, false, false, false]
abbrev bactFewestLessonsx7_14_11 : Array Bool := #[true, false, false, false, true, false, false, false, false, false, false, false, false, false]
abbrev bactFewestLessonsx7_14_13 : Array Bool := #[true, true, false, false, true, false, false, false, false, false, false, false, false, false]
abbrev bactFewestLessonsx7_14_1ff : Array Bool := #[true, true, true, true, true, true, true, true, true, false, false, false, false, false]
abbrev bactFewestLessonsx7_14_1fff : Array Bool := #[true, true, true, true, true, true, true, true, true, true, true, true, true, false]
abbrev bactFewestLessonsx7_14_33 : Array Bool := #[true, true, false, false, true, true, false, false, false, false, false, false, false, false]
abbrev bactFewestLessonsx7_14_3ff : Array Bool := #[true, true, true, true, true, true, true, true, true, true, false, false, false, false]
abbrev bactFewestLessonsx7_14_3fff : Array Bool := #[true, true, true, true, true, true, true, true, true, true, true, true, true, true]
abbrev bactFewestLessonsx7_14_73 : Array Bool := #[true, true, false, false, true, true, true, false, false, false, false, false, false, false]
abbrev bactFewestLessonsx7_14_77 : Array Bool := #[true, true, true, false, true, true, true, false, false, false, false, false, false, false]
abbrev bactFewestLessonsx7_14_7f : Array Bool := #[true, true, true, true, true, true, true, false, false, false, false, false, false, false]
abbrev bactFewestLessonsx7_14_7ff : Array Bool := #[true, true, true, true, true, true, true, true, true, true, true, false, false, false]
abbrev bactFewestLessonsx7_14_ff : Array Bool := #[true, true, true, true, true, true, true, true, false, false, false, false, false, false]
abbrev bactFewestLessonsx7_14_fff : Array Bool := #[true, true, true, true, true, true, true, true, true, true, true, true, false, false]
set_option linter.unusedVariables false
set_option linter.unusedSimpArgs false

/-! ### impl_AreWords: function 48 -/
def impl_AreWords.T6 : Bool × List (List Nat × List Nat) := (true, [([], []), ([0], [0]), ([1], [1]), ([2], [2]), ([], []), ([4], [4]), ([5], [5]), ([3, 6], [3, 6]), ([7, 2], [7]), ([8], [8]), ([9, 8], [8, 9]), ([10, 8, 8], [8, 10]), ([11, 8], [8, 11]), ([8, 12], [8, 12])])
def impl_AreWords.B6 : List Nat := [0, 1, 3, 7, 0, 16, 48, 127, 255, 511, 1023, 2047, 4095, 8191]
theorem impl_AreWords.tab6 : rtab .any (opsOf Try.f48 6) = impl_AreWords.T6 := by kernel_rfl
theorem impl_AreWords.bits6 : waitsOk impl_AreWords.T6.2 impl_AreWords.B6 = true := by kernel_rfl
set_option maxHeartbeats 8000000 in
set_option maxRecDepth 100000 in
theorem impl_AreWords.calls (k : Nat) (A0 : Option Addr) (c0 : Nat) (l0 : List (S96)) (r : Bool) (w : World) (hr0 : Kd.C k96 w A0 l0.length l0) (hc0 : l0.length ≤ c0) (h : impl_AreWords.f k l0 = some r) :
 Calls Try.prog 48 #[.slice A0 l0.length c0] w fun e w' => e = .returned (.bool r) ∧ Below w.heap.size w w' := by
 have hu96 := Try.underlying96
 have HR0 := Aside0.mk hr0
 have HC0 := Aside0.mk hc0
 clear hr0 hc0
 have HB := Aside0.mk (Below.refl w.heap.size w)
 have H : (impl_AreWords.l0 k l0 l0 (l0.length : Int) 0) = some r := h
 clear h
 have H' := Aside0.mk H
 clear H
 go_enter Try.func48, Try.ntmps48
 go_wp2
 go_loopg [7] k (fun kq v7 w' => ∃ (x7_1 : Int), v7 = .int .i64 x7_1 ∧ Aside0 (impl_AreWords.l0 kq l0 l0 (l0.length : Int) x7_1 = some r) ∧ Aside0 (kq ≤ k) ∧ Aside0 (Below w.heap.size w w'))
 case atStart => exact ⟨(0), (by first | rfl | (simp; done) | (simp [*]; done)), H', ⟨Nat.le_refl _⟩, ⟨by repeat (first | (with_reducible first | exact HB.out | apply below_alloc | apply pw_below_drewN | apply below_drew1) | exact HB.out)⟩⟩
 case round =>
  clear H'
  obtain ⟨x7_1, rfl, HA, HK1, HB⟩ := hrel
  cases gk with
  | zero => exact absurd HA.out (by simp [impl_AreWords.l0])
  | succ k1 =>
   have H := HA.out
   clear HA
   simp only [impl_AreWords.l0] at H
   by_cases c2 : x7_1 < (l0.length : Int)
   ·rw [if_pos c2] at H
    have c2b0 : decide (x7_1 < (l0.length : Int)) = true := decide_eq_true c2
    clear c2
    by_cases c3 : 0 ≤ x7_1
    ·rw [if_pos c3] at H
     have c3b0 : decide (0 ≤ x7_1) = true := decide_eq_true c3
     clear c3
     by_cases c4 : x7_1 < (l0.length : Int)
     ·rw [if_pos c4] at H
      have c4b0 : decide (x7_1 < (l0.length : Int)) = true := decide_eq_true c4
      clear c4
      have HC5 := Aside0.mk H
      clear H
      have p265 : 0 ≤ (x7_1 : Int) := of_decide_eq_true (by first | (with_reducible assumption) | assumption)
      have q265 : x7_1 < (l0.length : Int) := of_decide_eq_true (by first | (with_reducible assumption) | assumption)
      obtain ⟨ad265, A265_1, c265_1, e265, hx265_0, hx265_1, hx265_2, hl265_1, hi265_1⟩ := at_T96 HR0.out x7_1 p265 q265
      cases e265
      replace hx265_0 := (HB.out.cell (World.block_lt_of_cell? w _ hx265_0)).trans hx265_0
      replace hx265_1 := (HB.out.cell (World.block_lt_of_cell? w _ hx265_1)).trans hx265_1
      replace hx265_2 := (HB.out.cell (World.block_lt_of_cell? w _ hx265_2)).trans hx265_2
      have HR265_1 := Aside0.mk hi265_1
      have HC265_1 := Aside0.mk hl265_1
      clear hi265_1 hl265_1
      replace p265 := eq_true p265
      replace q265 := eq_true q265
      go_upto_region 4 with (first | ((with_reducible refine gate_dst (N := 4) rfl ?_); (try (refine gate_guard (by rfl) ?_; dsimp only)); refine box_event ?hg (N := 4) ?hd (cs := #[.string (⟨#[]⟩ : ByteArray), .slice none 0 0, .int .i64 0]) (t := 96) ?hr ?_; (case hd => rfl); (case hg => rfl); (case hr => first | (go_simp; done) | (go_simp; rfl)); intro gb266 hg w6 hbox hb; have n0_ := Aside0.mk (below_step (by repeat (first | (with_reducible first | exact HB.out | apply below_alloc | apply pw_below_drewN | apply below_drew1) | exact HB.out)) hb); have n1_ := Aside0.mk (hbox); have n2_ := Aside0.mk ((by rw [hg]; exact (below_size (by repeat (first | (with_reducible first | exact HB.out | apply below_alloc | apply pw_below_drewN | apply below_drew1) | exact HB.out))) : w.heap.size ≤ gb266)); have n3_ := Aside0.mk ((by rw [hg]; exact (below_size (by repeat (first | (with_reducible first | exact HB.out | apply below_alloc | apply pw_below_drewN | apply below_drew1) | exact HB.out))) : w.heap.size ≤ gb266)); clear HB; have HB := n0_; have BK266 := n1_; have GW266 := n2_; have GE266 := n3_; clear n0_ n1_ n2_ n3_; clear hb hbox hg; have hcz7_0 : w6.cell? ⟨gb266, 0, none⟩ = some (.string (⟨#[]⟩ : ByteArray)) := (blk_cell BK266.out 0).trans rfl; have hcz7_1 : w6.cell? ⟨gb266, 1, none⟩ = some (.slice none 0 0) := (blk_cell BK266.out 1).trans rfl; have hcz7_2 : w6.cell? ⟨gb266, 2, none⟩ = some (.int .i64 0) := (blk_cell BK266.out 2).trans rfl; have hfz7_0 := blk_frozen BK266.out 0; have hfz7_1 := blk_frozen BK266.out 1; have hfz7_2 := blk_frozen BK266.out 2))
      (try simp only [Act.put, List.setIfInBounds_toArray, List.set_cons_zero, List.set_cons_succ])
      go_cut [36] (fun v36 wc => ∃ (kq : Nat) (x36_4 : Bool), v36 = .bool x36_4 ∧ Aside0 (impl_AreWords.j1 kq l0 x7_1 l0 (l0.length : Int) x7_1 x36_4 ((rd_T96 l0 x7_1).f0) ((rd_T96 l0 x7_1).f1) ((rd_T96 l0 x7_1).f2) = some r) ∧ Aside0 (kq ≤ k1) ∧ Aside0 (wc.heap[gb266]? = some (.cells #[.string ((rd_T96 l0 x7_1).f0), (.slice A265_1 ((rd_T96 l0 x7_1).f1).length c265_1), .int .i64 ((rd_T96 l0 x7_1).f2)] 96 (0, 0))) ∧ Aside0 (Below w.heap.size w wc))
      case first =>
       have H := HC5.out
       clear HC5
       replace H := Option.bind_eq_some_iff.mp H
       obtain ⟨t267, A80, H⟩ := H
       replace H : (if t267 = true then ((impl_within.f ((rd_T96 l0 x7_1).f2) 0 99999).bind fun t268 => (if t268 = true then ((impl_allWithin.f k1 ((rd_T96 l0 x7_1).f1) 0 (wrap64 ((l0.length : Int) - 1))).bind fun t269 => (if t269 = true then ((slices_Contains_int.f k1 ((rd_T96 l0 x7_1).f1) x7_1).bind fun t270 => (impl_AreWords.j1 k1 l0 x7_1 l0 (l0.length : Int) x7_1 t270 ((rd_T96 l0 x7_1).f0) ((rd_T96 l0 x7_1).f1) ((rd_T96 l0 x7_1).f2))) else (impl_AreWords.j1 k1 l0 x7_1 l0 (l0.length : Int) x7_1 true ((rd_T96 l0 x7_1).f0) ((rd_T96 l0 x7_1).f1) ((rd_T96 l0 x7_1).f2)))) else (impl_AreWords.j1 k1 l0 x7_1 l0 (l0.length : Int) x7_1 true ((rd_T96 l0 x7_1).f0) ((rd_T96 l0 x7_1).f1) ((rd_T96 l0 x7_1).f2)))) else (impl_AreWords.j1 k1 l0 x7_1 l0 (l0.length : Int) x7_1 true ((rd_T96 l0 x7_1).f0) ((rd_T96 l0 x7_1).f1) ((rd_T96 l0 x7_1).f2))) = some r := H
       have A8 := Aside0.mk A80
       clear A80
       by_cases c9 : t267 = true
       ·subst c9
        have H1 : ((impl_within.f ((rd_T96 l0 x7_1).f2) 0 99999).bind fun t268 => (if t268 = true then ((impl_allWithin.f k1 ((rd_T96 l0 x7_1).f1) 0 (wrap64 ((l0.length : Int) - 1))).bind fun t269 => (if t269 = true then ((slices_Contains_int.f k1 ((rd_T96 l0 x7_1).f1) x7_1).bind fun t270 => (impl_AreWords.j1 k1 l0 x7_1 l0 (l0.length : Int) x7_1 t270 ((rd_T96 l0 x7_1).f0) ((rd_T96 l0 x7_1).f1) ((rd_T96 l0 x7_1).f2))) else (impl_AreWords.j1 k1 l0 x7_1 l0 (l0.length : Int) x7_1 true ((rd_T96 l0 x7_1).f0) ((rd_T96 l0 x7_1).f1) ((rd_T96 l0 x7_1).f2)))) else (impl_AreWords.j1 k1 l0 x7_1 l0 (l0.length : Int) x7_1 true ((rd_T96 l0 x7_1).f0) ((rd_T96 l0 x7_1).f1) ((rd_T96 l0 x7_1).f2)))) = some r := by rw [if_pos rfl] at H; exact H
        clear H
        have H := H1
        clear H1
        replace H := Option.bind_eq_some_iff.mp H
        obtain ⟨t268, A100, H⟩ := H
        replace H : (if t268 = true then ((impl_allWithin.f k1 ((rd_T96 l0 x7_1).f1) 0 (wrap64 ((l0.length : Int) - 1))).bind fun t269 => (if t269 = true then ((slices_Contains_int.f k1 ((rd_T96 l0 x7_1).f1) x7_1).bind fun t270 => (impl_AreWords.j1 k1 l0 x7_1 l0 (l0.length : Int) x7_1 t270 ((rd_T96 l0 x7_1).f0) ((rd_T96 l0 x7_1).f1) ((rd_T96 l0 x7_1).f2))) else (impl_AreWords.j1 k1 l0 x7_1 l0 (l0.length : Int) x7_1 true ((rd_T96 l0 x7_1).f0) ((rd_T96 l0 x7_1).f1) ((rd_T96 l0 x7_1).f2)))) else (impl_AreWords.j1 k1 l0 x7_1 l0 (l0.length : Int) x7_1 true ((rd_T96 l0 x7_1).f0) ((rd_T96 l0 x7_1).f1) ((rd_T96 l0 x7_1).f2))) = some r := H
        have A10 := Aside0.mk A100
        clear A100
        by_cases c11 : t268 = true
        ·subst c11
         have H1 : ((impl_allWithin.f k1 ((rd_T96 l0 x7_1).f1) 0 (wrap64 ((l0.length : Int) - 1))).bind fun t269 => (if t269 = true then ((slices_Contains_int.f k1 ((rd_T96 l0 x7_1).f1) x7_1).bind fun t270 => (impl_AreWords.j1 k1 l0 x7_1 l0 (l0.length : Int) x7_1 t270 ((rd_T96 l0 x7_1).f0) ((rd_T96 l0 x7_1).f1) ((rd_T96 l0 x7_1).f2))) else (impl_AreWords.j1 k1 l0 x7_1 l0 (l0.length : Int) x7_1 true ((rd_T96 l0 x7_1).f0) ((rd_T96 l0 x7_1).f1) ((rd_T96 l0 x7_1).f2)))) = some r := by rw [if_pos rfl] at H; exact H
         clear H
         have H := H1
         clear H1
         replace H := Option.bind_eq_some_iff.mp H
         obtain ⟨t269, A120, H⟩ := H
         replace H : (if t269 = true then ((slices_Contains_int.f k1 ((rd_T96 l0 x7_1).f1) x7_1).bind fun t270 => (impl_AreWords.j1 k1 l0 x7_1 l0 (l0.length : Int) x7_1 t270 ((rd_T96 l0 x7_1).f0) ((rd_T96 l0 x7_1).f1) ((rd_T96 l0 x7_1).f2))) else (impl_AreWords.j1 k1 l0 x7_1 l0 (l0.length : Int) x7_1 true ((rd_T96 l0 x7_1).f0) ((rd_T96 l0 x7_1).f1) ((rd_T96 l0 x7_1).f2))) = some r := H
         have A12 := Aside0.mk A120
         clear A120
         by_cases c13 : t269 = true
         ·subst c13
          have H1 : ((slices_Contains_int.f k1 ((rd_T96 l0 x7_1).f1) x7_1).bind fun t270 => (impl_AreWords.j1 k1 l0 x7_1 l0 (l0.length : Int) x7_1 t270 ((rd_T96 l0 x7_1).f0) ((rd_T96 l0 x7_1).f1) ((rd_T96 l0 x7_1).f2))) = some r := by rw [if_pos rfl] at H; exact H
          clear H
          have H := H1
          clear H1
          replace H := Option.bind_eq_some_iff.mp H
          obtain ⟨t270, A140, H⟩ := H
          replace H : (impl_AreWords.j1 k1 l0 x7_1 l0 (l0.length : Int) x7_1 t270 ((rd_T96 l0 x7_1).f0) ((rd_T96 l0 x7_1).f1) ((rd_T96 l0 x7_1).f2)) = some r := H
          have A14 := Aside0.mk A140
          clear A140
          have H' := Aside0.mk H
          clear H
          have hcz15_0 : w6.cell? ⟨gb266, 0, none⟩ = some (.string (⟨#[]⟩ : ByteArray)) := (blk_cell BK266.out 0).trans rfl
          have hcz15_1 : w6.cell? ⟨gb266, 1, none⟩ = some (.slice none 0 0) := (blk_cell BK266.out 1).trans rfl
          have hcz15_2 : w6.cell? ⟨gb266, 2, none⟩ = some (.int .i64 0) := (blk_cell BK266.out 2).trans rfl
          have hfz15_0 := blk_frozen BK266.out 0
          have hfz15_1 := blk_frozen BK266.out 1
          have hfz15_2 := blk_frozen BK266.out 2
          go_wp2_with (first | ((with_reducible refine gate_callee (f := 93) rfl ?_); refine goesL_ (some 14) rfl rfl Try.func93 (by kernel_rfl) rfl #[.string ((rd_T96 l0 x7_1).f0)] rfl (by (try simp only [List.map_toArray, List.map_cons, List.map_nil]); first | done | rfl | (simp only [List.length_drop, List.length_take]; rfl)) ?_; (with_reducible refine (impl_IsGloss.calls k1 ((rd_T96 l0 x7_1).f0) true _ A8.out).mono ?_); rintro e w' ⟨rfl, ⟨nd, rfl⟩⟩; refine ⟨_, rfl, ?_⟩) | (go_at_call 69; (with_reducible refine (impl_within.calls ((rd_T96 l0 x7_1).f2) 0 99999 true _ A10.out).mono ?_); rintro e w' ⟨rfl, ⟨nd, rfl⟩⟩) | (go_at_call 94; (with_reducible refine (impl_allWithin.calls k1 _ _ ((rd_T96 l0 x7_1).f1) 0 (wrap64 ((l0.length : Int) - 1)) true _ ?side1 ?side2 A12.out).mono ?_); (case side1 => exact Kd.C_below HR265_1.out (by repeat (first | (with_reducible first | exact HB.out | apply below_alloc | apply pw_below_drewN | apply below_drew1 | refine below_set ?_ GE266.out) | exact HB.out))); (case side2 => exact HC265_1.out); rintro e w16 ⟨rfl, hb⟩; have n0_ := Aside0.mk (blk_below (g := gb266) (o := .cells #[.string ((rd_T96 l0 x7_1).f0), .slice A265_1 ((rd_T96 l0 x7_1).f1).length c265_1, .int .i64 ((rd_T96 l0 x7_1).f2)] 96 (0, 0)) (by (with_reducible repeat (first | refine blk_drewN ?_ _ | refine blk_drew ?_ | refine blk_alloc ?_ _)); refine blk_put (cs := #[.string ((rd_T96 l0 x7_1).f0), .slice A265_1 ((rd_T96 l0 x7_1).f1).length c265_1, .int .i64 0]) ?_ 2 _ rfl; (with_reducible repeat (first | refine blk_drewN ?_ _ | refine blk_drew ?_ | refine blk_alloc ?_ _)); refine blk_put (cs := #[.string ((rd_T96 l0 x7_1).f0), .slice none 0 0, .int .i64 0]) ?_ 1 _ rfl; (with_reducible repeat (first | refine blk_drewN ?_ _ | refine blk_drew ?_ | refine blk_alloc ?_ _)); refine blk_put (cs := #[.string (⟨#[]⟩ : ByteArray), .slice none 0 0, .int .i64 0]) ?_ 0 _ rfl; (with_reducible repeat (first | refine blk_drewN ?_ _ | refine blk_drew ?_ | refine blk_alloc ?_ _)); exact BK266.out) hb); have n1_ := Aside0.mk (below_step (by repeat (first | (with_reducible first | exact HB.out | apply below_alloc | apply pw_below_drewN | apply below_drew1 | refine below_set ?_ GE266.out) | exact HB.out)) hb); clear BK266; clear HB; have BK266 := n0_; have HB := n1_; clear n0_ n1_; (try clear hb); (try clear hb2); (try clear hk); (try clear hi); have hcz17_0 : w16.cell? ⟨gb266, 0, none⟩ = some (.string ((rd_T96 l0 x7_1).f0)) := (blk_cell BK266.out 0).trans rfl; have hcz17_1 : w16.cell? ⟨gb266, 1, none⟩ = some (.slice A265_1 ((rd_T96 l0 x7_1).f1).length c265_1) := (blk_cell BK266.out 1).trans rfl; have hcz17_2 : w16.cell? ⟨gb266, 2, none⟩ = some (.int .i64 ((rd_T96 l0 x7_1).f2)) := (blk_cell BK266.out 2).trans rfl; have hfz17_0 := blk_frozen BK266.out 0; have hfz17_1 := blk_frozen BK266.out 1; have hfz17_2 := blk_frozen BK266.out 2) | (go_at_call 95; (with_reducible refine (slices_Contains_int.calls k1 _ _ ((rd_T96 l0 x7_1).f1) x7_1 t270 _ ?side1 ?side2 A14.out).mono ?_); (case side1 => repeat (first | exact (Kd.C_below HR265_1.out HB.out) | (with_reducible refine Kd.C_alloc ?_ _) | (with_reducible refine Kd.C_drewN ?_ _) | (with_reducible refine Kd.C_drew ?_))); (case side2 => exact HC265_1.out); rintro e w' ⟨rfl, ⟨nd, rfl⟩⟩))
          go_meet
          case rel => exact ⟨_, (t270), (by first | rfl | (simp; done) | (simp [*]; done)), H', ⟨by have := HK1.out; first | omega | exact Nat.le_refl _⟩, ⟨by (with_reducible repeat (first | refine blk_drewN ?_ _ | refine blk_drew ?_ | refine blk_alloc ?_ _)); exact BK266.out⟩, ⟨by repeat (first | (with_reducible first | exact HB.out | apply below_alloc | apply pw_below_drewN | apply below_drew1 | refine below_set ?_ GE266.out) | exact HB.out)⟩⟩
         ·replace c13 := Bool.eq_false_iff.mpr c13
          subst c13
          have H1 : (impl_AreWords.j1 k1 l0 x7_1 l0 (l0.length : Int) x7_1 true ((rd_T96 l0 x7_1).f0) ((rd_T96 l0 x7_1).f1) ((rd_T96 l0 x7_1).f2)) = some r := by rw [if_neg (show ¬ (false = true) by decide)] at H; exact H
          clear H
          have H := H1
          clear H1
          have H' := Aside0.mk H
          clear H
          have hcz18_0 : w6.cell? ⟨gb266, 0, none⟩ = some (.string (⟨#[]⟩ : ByteArray)) := (blk_cell BK266.out 0).trans rfl
          have hcz18_1 : w6.cell? ⟨gb266, 1, none⟩ = some (.slice none 0 0) := (blk_cell BK266.out 1).trans rfl
          have hcz18_2 : w6.cell? ⟨gb266, 2, none⟩ = some (.int .i64 0) := (blk_cell BK266.out 2).trans rfl
          have hfz18_0 := blk_frozen BK266.out 0
          have hfz18_1 := blk_frozen BK266.out 1
          have hfz18_2 := blk_frozen BK266.out 2
          go_wp2_with (first | ((with_reducible refine gate_callee (f := 93) rfl ?_); refine goesL_ (some 14) rfl rfl Try.func93 (by kernel_rfl) rfl #[.string ((rd_T96 l0 x7_1).f0)] rfl (by (try simp only [List.map_toArray, List.map_cons, List.map_nil]); first | done | rfl | (simp only [List.length_drop, List.length_take]; rfl)) ?_; (with_reducible refine (impl_IsGloss.calls k1 ((rd_T96 l0 x7_1).f0) true _ A8.out).mono ?_); rintro e w' ⟨rfl, ⟨nd, rfl⟩⟩; refine ⟨_, rfl, ?_⟩) | (go_at_call 69; (with_reducible refine (impl_within.calls ((rd_T96 l0 x7_1).f2) 0 99999 true _ A10.out).mono ?_); rintro e w' ⟨rfl, ⟨nd, rfl⟩⟩) | (go_at_call 94; (with_reducible refine (impl_allWithin.calls k1 _ _ ((rd_T96 l0 x7_1).f1) 0 (wrap64 ((l0.length : Int) - 1)) false _ ?side1 ?side2 A12.out).mono ?_); (case side1 => exact Kd.C_below HR265_1.out (by repeat (first | (with_reducible first | exact HB.out | apply below_alloc | apply pw_below_drewN | apply below_drew1 | refine below_set ?_ GE266.out) | exact HB.out))); (case side2 => exact HC265_1.out); rintro e w19 ⟨rfl, hb⟩; have n0_ := Aside0.mk (blk_below (g := gb266) (o := .cells #[.string ((rd_T96 l0 x7_1).f0), .slice A265_1 ((rd_T96 l0 x7_1).f1).length c265_1, .int .i64 ((rd_T96 l0 x7_1).f2)] 96 (0, 0)) (by (with_reducible repeat (first | refine blk_drewN ?_ _ | refine blk_drew ?_ | refine blk_alloc ?_ _)); refine blk_put (cs := #[.string ((rd_T96 l0 x7_1).f0), .slice A265_1 ((rd_T96 l0 x7_1).f1).length c265_1, .int .i64 0]) ?_ 2 _ rfl; (with_reducible repeat (first | refine blk_drewN ?_ _ | refine blk_drew ?_ | refine blk_alloc ?_ _)); refine blk_put (cs := #[.string ((rd_T96 l0 x7_1).f0), .slice none 0 0, .int .i64 0]) ?_ 1 _ rfl; (with_reducible repeat (first | refine blk_drewN ?_ _ | refine blk_drew ?_ | refine blk_alloc ?_ _)); refine blk_put (cs := #[.string (⟨#[]⟩ : ByteArray), .slice none 0 0, .int .i64 0]) ?_ 0 _ rfl; (with_reducible repeat (first | refine blk_drewN ?_ _ | refine blk_drew ?_ | refine blk_alloc ?_ _)); exact BK266.out) hb); have n1_ := Aside0.mk (below_step (by repeat (first | (with_reducible first | exact HB.out | apply below_alloc | apply pw_below_drewN | apply below_drew1 | refine below_set ?_ GE266.out) | exact HB.out)) hb); clear BK266; clear HB; have BK266 := n0_; have HB := n1_; clear n0_ n1_; (try clear hb); (try clear hb2); (try clear hk); (try clear hi)))
          go_meet
          case rel => exact ⟨_, (true), (by first | rfl | (simp; done) | (simp [*]; done)), H', ⟨by have := HK1.out; first | omega | exact Nat.le_refl _⟩, ⟨by (with_reducible repeat (first | refine blk_drewN ?_ _ | refine blk_drew ?_ | refine blk_alloc ?_ _)); exact BK266.out⟩, ⟨by repeat (first | (with_reducible first | exact HB.out | apply below_alloc | apply pw_below_drewN | apply below_drew1 | refine below_set ?_ GE266.out) | exact HB.out)⟩⟩
        ·replace c11 := Bool.eq_false_iff.mpr c11
         subst c11
         have H1 : (impl_AreWords.j1 k1 l0 x7_1 l0 (l0.length : Int) x7_1 true ((rd_T96 l0 x7_1).f0) ((rd_T96 l0 x7_1).f1) ((rd_T96 l0 x7_1).f2)) = some r := by rw [if_neg (show ¬ (false = true) by decide)] at H; exact H
         clear H
         have H := H1
         clear H1
         have H' := Aside0.mk H
         clear H
         have hcz20_0 : w6.cell? ⟨gb266, 0, none⟩ = some (.string (⟨#[]⟩ : ByteArray)) := (blk_cell BK266.out 0).trans rfl
         have hcz20_1 : w6.cell? ⟨gb266, 1, none⟩ = some (.slice none 0 0) := (blk_cell BK266.out 1).trans rfl
         have hcz20_2 : w6.cell? ⟨gb266, 2, none⟩ = some (.int .i64 0) := (blk_cell BK266.out 2).trans rfl
         have hfz20_0 := blk_frozen BK266.out 0
         have hfz20_1 := blk_frozen BK266.out 1
         have hfz20_2 := blk_frozen BK266.out 2
         go_wp2_with (first | ((with_reducible refine gate_callee (f := 93) rfl ?_); refine goesL_ (some 14) rfl rfl Try.func93 (by kernel_rfl) rfl #[.string ((rd_T96 l0 x7_1).f0)] rfl (by (try simp only [List.map_toArray, List.map_cons, List.map_nil]); first | done | rfl | (simp only [List.length_drop, List.length_take]; rfl)) ?_; (with_reducible refine (impl_IsGloss.calls k1 ((rd_T96 l0 x7_1).f0) true _ A8.out).mono ?_); rintro e w' ⟨rfl, ⟨nd, rfl⟩⟩; refine ⟨_, rfl, ?_⟩) | (go_at_call 69; (with_reducible refine (impl_within.calls ((rd_T96 l0 x7_1).f2) 0 99999 false _ A10.out).mono ?_); rintro e w' ⟨rfl, ⟨nd, rfl⟩⟩))
         go_meet
         case rel => exact ⟨_, (true), (by first | rfl | (simp; done) | (simp [*]; done)), H', ⟨by have := HK1.out; first | omega | exact Nat.le_refl _⟩, ⟨by (with_reducible repeat (first | refine blk_drewN ?_ _ | refine blk_drew ?_ | refine blk_alloc ?_ _)); refine blk_put (cs := #[.string ((rd_T96 l0 x7_1).f0), .slice A265_1 ((rd_T96 l0 x7_1).f1).length c265_1, .int .i64 0]) ?_ 2 _ rfl; (with_reducible repeat (first | refine blk_drewN ?_ _ | refine blk_drew ?_ | refine blk_alloc ?_ _)); refine blk_put (cs := #[.string ((rd_T96 l0 x7_1).f0), .slice none 0 0, .int .i64 0]) ?_ 1 _ rfl; (with_reducible repeat (first | refine blk_drewN ?_ _ | refine blk_drew ?_ | refine blk_alloc ?_ _)); refine blk_put (cs := #[.string (⟨#[]⟩ : ByteArray), .slice none 0 0, .int .i64 0]) ?_ 0 _ rfl; (with_reducible repeat (first | refine blk_drewN ?_ _ | refine blk_drew ?_ | refine blk_alloc ?_ _)); exact BK266.out⟩, ⟨by repeat (first | (with_reducible first | exact HB.out | apply below_alloc | apply pw_below_drewN | apply below_drew1 | refine below_set ?_ GE266.out) | exact HB.out)⟩⟩
       ·replace c9 := Bool.eq_false_iff.mpr c9
        subst c9
        have H1 : (impl_AreWords.j1 k1 l0 x7_1 l0 (l0.length : Int) x7_1 true ((rd_T96 l0 x7_1).f0) ((rd_T96 l0 x7_1).f1) ((rd_T96 l0 x7_1).f2)) = some r := by rw [if_neg (show ¬ (false = true) by decide)] at H; exact H
        clear H
        have H := H1
        clear H1
        have H' := Aside0.mk H
        clear H
        have hcz21_0 : w6.cell? ⟨gb266, 0, none⟩ = some (.string (⟨#[]⟩ : ByteArray)) := (blk_cell BK266.out 0).trans rfl
        have hcz21_1 : w6.cell? ⟨gb266, 1, none⟩ = some (.slice none 0 0) := (blk_cell BK266.out 1).trans rfl
        have hcz21_2 : w6.cell? ⟨gb266, 2, none⟩ = some (.int .i64 0) := (blk_cell BK266.out 2).trans rfl
        have hfz21_0 := blk_frozen BK266.out 0
        have hfz21_1 := blk_frozen BK266.out 1
        have hfz21_2 := blk_frozen BK266.out 2
        go_wp2_with (first | ((with_reducible refine gate_callee (f := 93) rfl ?_); refine goesL_ (some 14) rfl rfl Try.func93 (by kernel_rfl) rfl #[.string ((rd_T96 l0 x7_1).f0)] rfl (by (try simp only [List.map_toArray, List.map_cons, List.map_nil]); first | done | rfl | (simp only [List.length_drop, List.length_take]; rfl)) ?_; (with_reducible refine (impl_IsGloss.calls k1 ((rd_T96 l0 x7_1).f0) false _ A8.out).mono ?_); rintro e w' ⟨rfl, ⟨nd, rfl⟩⟩; refine ⟨_, rfl, ?_⟩))
        go_meet
        case rel => exact ⟨_, (true), (by first | rfl | (simp; done) | (simp [*]; done)), H', ⟨by have := HK1.out; first | omega | exact Nat.le_refl _⟩, ⟨by (with_reducible repeat (first | refine blk_drewN ?_ _ | refine blk_drew ?_ | refine blk_alloc ?_ _)); refine blk_put (cs := #[.string ((rd_T96 l0 x7_1).f0), .slice A265_1 ((rd_T96 l0 x7_1).f1).length c265_1, .int .i64 0]) ?_ 2 _ rfl; (with_reducible repeat (first | refine blk_drewN ?_ _ | refine blk_drew ?_ | refine blk_alloc ?_ _)); refine blk_put (cs := #[.string ((rd_T96 l0 x7_1).f0), .slice none 0 0, .int .i64 0]) ?_ 1 _ rfl; (with_reducible repeat (first | refine blk_drewN ?_ _ | refine blk_drew ?_ | refine blk_alloc ?_ _)); refine blk_put (cs := #[.string (⟨#[]⟩ : ByteArray), .slice none 0 0, .int .i64 0]) ?_ 0 _ rfl; (with_reducible repeat (first | refine blk_drewN ?_ _ | refine blk_drew ?_ | refine blk_alloc ?_ _)); exact BK266.out⟩, ⟨by repeat (first | (with_reducible first | exact HB.out | apply below_alloc | apply pw_below_drewN | apply below_drew1 | refine below_set ?_ GE266.out) | exact HB.out)⟩⟩
      case rest =>
       clear HC5
       try clear c1
       try clear c2
       try clear c2b0
       try clear p2
       try clear q2
       try clear hx2
       try clear c3
       try clear c3b0
       try clear c4
       try clear c4b0
       try clear p6
       try clear c9
       try clear c11
       try clear c13
       try clear hcz15_0
       try clear hcz15_1
       try clear hcz15_2
       try clear hcz17_0
       try clear hcz17_1
       try clear hcz17_2
       try clear hcz18_0
       try clear hcz18_1
       try clear hcz18_2
       try clear hcz20_0
       try clear hcz20_1
       try clear hcz20_2
       try clear hcz21_0
       try clear hcz21_1
       try clear hcz21_2
       try clear hcz7_0
       try clear hcz7_1
       try clear hcz7_2
       try clear hfz15_0
       try clear hfz15_1
       try clear hfz15_2
       try clear hfz17_0
       try clear hfz17_1
       try clear hfz17_2
       try clear hfz18_0
       try clear hfz18_1
       try clear hfz18_2
       try clear hfz20_0
       try clear hfz20_1
       try clear hfz20_2
       try clear hfz21_0
       try clear hfz21_1
       try clear hfz21_2
       try clear hfz7_0
       try clear hfz7_1
       try clear hfz7_2
       try clear hx265_0
       try clear hx265_1
       try clear hx265_2
       try clear p265
       try clear q265
       obtain ⟨kq, x36_4, rfl, HA, HJ4, BK266, HB⟩ := hcut
       cases kq with
       | zero => exact absurd HA.out (by simp [impl_AreWords.j1])
       | succ kj4 =>
        have H := HA.out
        clear HA
        simp only [impl_AreWords.j1] at H
        by_cases c22 : x36_4 = true
        ·subst c22
         have H1 : (some false) = some r := by rw [if_pos rfl] at H; exact H
         clear H
         have H := H1
         clear H1
         obtain rfl := Option.some.inj H
         go_wp2
         go_ret
         exact ⟨by first | rfl | (simp [errW_none, errW_some] <;> rfl) | (simp [*, errW_none, errW_some] <;> rfl) | (simp [errW_none, errW_some, show ∀ l_ : List UInt8, (l_ != []) = !l_.isEmpty from fun l_ => by cases l_ <;> rfl]; done), by repeat (first | (with_reducible first | exact HB.out | apply below_alloc | apply pw_below_drewN | apply below_drew1 | refine below_set ?_ GE266.out) | exact HB.out)⟩
        ·replace c22 := Bool.eq_false_iff.mpr c22
         subst c22
         have H1 : ((impl_distinct_int.f ((rd_T96 l0 x7_1).f1)).bind fun t271 => (if (t271.length : Int) = (((rd_T96 l0 x7_1).f1).length : Int) then ((slices_IsSorted_int.f kj4 ((rd_T96 l0 x7_1).f1)).bind fun t274 => (impl_AreWords.j2 kj4 l0 x7_1 l0 (l0.length : Int) x7_1 (!t274) ((rd_T96 l0 x7_1).f0) ((rd_T96 l0 x7_1).f1) ((rd_T96 l0 x7_1).f2))) else (impl_AreWords.j2 kj4 l0 x7_1 l0 (l0.length : Int) x7_1 true ((rd_T96 l0 x7_1).f0) ((rd_T96 l0 x7_1).f1) ((rd_T96 l0 x7_1).f2)))) = some r := by rw [if_neg (show ¬ (false = true) by decide)] at H; exact H
         clear H
         have H := H1
         clear H1
         have HC23 := Aside0.mk H
         clear H
         go_upto_region 6 with (fail)
         go_cut [50] (fun v50 wc => ∃ (kq : Nat) (x50_22 : Bool), v50 = .bool x50_22 ∧ Aside0 (impl_AreWords.j2 kq l0 x7_1 l0 (l0.length : Int) x7_1 x50_22 ((rd_T96 l0 x7_1).f0) ((rd_T96 l0 x7_1).f1) ((rd_T96 l0 x7_1).f2) = some r) ∧ Aside0 (kq ≤ kj4) ∧ Aside0 (wc.heap[gb266]? = some (.cells #[.string ((rd_T96 l0 x7_1).f0), (.slice A265_1 ((rd_T96 l0 x7_1).f1).length c265_1), .int .i64 ((rd_T96 l0 x7_1).f2)] 96 (0, 0))) ∧ Aside0 (Below w.heap.size w wc))
         case first =>
          have H := HC23.out
          clear HC23
          replace H := Option.bind_eq_some_iff.mp H
          obtain ⟨t271, A240, H⟩ := H
          replace H : (if (t271.length : Int) = (((rd_T96 l0 x7_1).f1).length : Int) then ((slices_IsSorted_int.f kj4 ((rd_T96 l0 x7_1).f1)).bind fun t274 => (impl_AreWords.j2 kj4 l0 x7_1 l0 (l0.length : Int) x7_1 (!t274) ((rd_T96 l0 x7_1).f0) ((rd_T96 l0 x7_1).f1) ((rd_T96 l0 x7_1).f2))) else (impl_AreWords.j2 kj4 l0 x7_1 l0 (l0.length : Int) x7_1 true ((rd_T96 l0 x7_1).f0) ((rd_T96 l0 x7_1).f1) ((rd_T96 l0 x7_1).f2))) = some r := H
          have A24 := Aside0.mk A240
          clear A240
          by_cases c25 : (t271.length : Int) = (((rd_T96 l0 x7_1).f1).length : Int)
          ·rw [if_pos c25] at H
           have c25b0 : ((t271.length : Int) == (((rd_T96 l0 x7_1).f1).length : Int)) = true := beq_iff_eq.mpr c25
           have c25b1 : ((t271.length : Int) != (((rd_T96 l0 x7_1).f1).length : Int)) = false := bne_eq_false_iff_eq.mpr c25
           have c25b2 : (t271.length == ((rd_T96 l0 x7_1).f1).length) = true := by first | simpa using c25 | (simp at c25 ⊢; omega)
           clear c25
           (first | rw [c25b0] | (simp only [i64_w, i32_w]; rw [c25b0]) | skip)
           replace H := Option.bind_eq_some_iff.mp H
           obtain ⟨t274, A260, H⟩ := H
           replace H : (impl_AreWords.j2 kj4 l0 x7_1 l0 (l0.length : Int) x7_1 (!t274) ((rd_T96 l0 x7_1).f0) ((rd_T96 l0 x7_1).f1) ((rd_T96 l0 x7_1).f2)) = some r := H
           have A26 := Aside0.mk A260
           clear A260
           have H' := Aside0.mk H
           clear H
           try go_wp2
           have n0_ := Aside0.mk (blk_drew BK266.out)
           have n1_ := Aside0.mk (below_drew1 HB.out)
           clear BK266
           clear HB
           have BK266 := n0_
           have HB := n1_
           clear n0_ n1_
           refine start_ (n := 14) (S := fun w' => w'.cell? ⟨gb266, 0, none⟩ = some (.string ((rd_T96 l0 x7_1).f0)) ∧ w'.cell? ⟨gb266, 1, none⟩ = some (.slice A265_1 ((rd_T96 l0 x7_1).f1).length c265_1) ∧ w'.cell? ⟨gb266, 2, none⟩ = some (.int .i64 ((rd_T96 l0 x7_1).f2))) (ds := []) bactFewestLessonsx7_14_0 (by kernel_rfl) rfl rfl ⟨(blk_cell BK266.out 0).trans rfl, (blk_cell BK266.out 1).trans rfl, (blk_cell BK266.out 2).trans rfl⟩ (fun hHeld => ?_); refine with_tabW impl_AreWords.tab6 impl_AreWords.bits6 (fun HT_ HW_ => ?_)
           generalize wc.drew = w27 at BK266 HB hHeld ⊢
           refine pure_ (i := 0) (N := some 37) (v := ?_) (a' := ?_) bactFewestLessonsx7_14_1 rfl rfl (any_of HT_.out (by kernel_rfl)) (fun _ _ _ h => h) (Or.inl ⟨by rfl, ?_⟩) ?_ ?_
           rotate_left
           ·intro w'
            go_simp
            with_reducible rfl
           rotate_left
           ·simp only [Act.put, List.setIfInBounds_toArray, List.set_cons_zero, List.set_cons_succ, i64_w, i32_w]
            rfl
           refine pure_ (i := 4) (N := some 41) (v := ?_) (a' := ?_) bactFewestLessonsx7_14_11 rfl rfl (any_of HT_.out (by kernel_rfl)) (fun _ _ _ h => h) (Or.inl ⟨by rfl, ?_⟩) ?_ ?_
           rotate_left
           ·intro w'
            go_simp
            with_reducible rfl
           rotate_left
           ·simp only [Act.put, List.setIfInBounds_toArray, List.set_cons_zero, List.set_cons_succ, i64_w, i32_w]
            rfl
           refine take_ (i := 1) (N := some 38) (v := ?_) (a' := ?_) bactFewestLessonsx7_14_13 rfl rfl (take_ofW HT_.out HW_.out (by kernel_rfl)) (fun _ _ _ h => h) (Or.inl ⟨by rfl, ?_⟩) hHeld ?_ ?_
           rotate_left
           ·rintro w' ⟨s0, s1, s2⟩
            go_simp
            with_reducible rfl
           rotate_left
           ·simp only [Act.put, List.setIfInBounds_toArray, List.set_cons_zero, List.set_cons_succ, i64_w, i32_w]
            rfl
           refine take_ (i := 5) (N := some 42) (v := ?_) (a' := ?_) bactFewestLessonsx7_14_33 rfl rfl (take_ofW HT_.out HW_.out (by kernel_rfl)) (fun _ _ _ h => h) (Or.inl ⟨by rfl, ?_⟩) hHeld ?_ ?_
           rotate_left
           ·rintro w' ⟨s0, s1, s2⟩
            go_simp
            with_reducible rfl
           rotate_left
           ·simp only [Act.put, List.setIfInBounds_toArray, List.set_cons_zero, List.set_cons_succ, i64_w, i32_w]
            rfl
           refine pure_ (i := 6) (N := some 43) (v := ?_) (a' := ?_) bactFewestLessonsx7_14_73 rfl rfl (any_of HT_.out (by kernel_rfl)) (fun _ _ _ h => h) (Or.inl ⟨by rfl, ?_⟩) ?_ ?_
           rotate_left
           ·intro w'
            go_simp
            with_reducible rfl
           rotate_left
           ·simp only [Act.put, List.setIfInBounds_toArray, List.set_cons_zero, List.set_cons_succ, i64_w, i32_w]
            rfl
           refine one_ (i := 2) (N := some 39) bactFewestLessonsx7_14_77 rfl rfl (one_of HT_.out (by kernel_rfl)) (by decide) (fun K hK => ?_)
           refine goes_ Try.func96 (by kernel_rfl) rfl #[.slice A265_1 ((rd_T96 l0 x7_1).f1).length c265_1] (by rfl) rfl rfl (by (try simp only [List.map_toArray, List.map_cons, List.map_nil]); first | done | rfl | (simp only [List.length_drop, List.length_take]; rfl)) ?_
           with_reducible refine (impl_distinct_int.calls _ _ ((rd_T96 l0 x7_1).f1) t271 _ ?side1 ?side2 A24.out).mono ?_
           (case side1 => repeat (first | exact (Kd.C_below HR265_1.out HB.out) | (with_reducible refine Kd.C_alloc ?_ _) | (with_reducible refine Kd.C_drewN ?_ _) | (with_reducible refine Kd.C_drew ?_)))
           (case side2 => exact HC265_1.out)
           rintro e w28 ⟨v272, rfl, ho0, hb⟩
           refine ⟨_, rfl, ?_⟩
           have n0_ := Aside0.mk (Kd.R_lower ho0 (below_size (by repeat (first | (with_reducible first | exact HB.out | apply below_alloc | apply pw_below_drewN | apply below_drew1 | refine below_set ?_ GE266.out) | exact HB.out))))
           have n1_ := Aside0.mk (blk_below (g := gb266) (o := .cells #[.string ((rd_T96 l0 x7_1).f0), .slice A265_1 ((rd_T96 l0 x7_1).f1).length c265_1, .int .i64 ((rd_T96 l0 x7_1).f2)] 96 (0, 0)) (by (with_reducible repeat (first | refine blk_drewN ?_ _ | refine blk_drew ?_ | refine blk_alloc ?_ _)); exact BK266.out) hb)
           have n2_ := Aside0.mk (below_step (by repeat (first | (with_reducible first | exact HB.out | apply below_alloc | apply pw_below_drewN | apply below_drew1 | refine below_set ?_ GE266.out) | exact HB.out)) hb)
           clear BK266
           clear HB
           have HO273 := n0_
           have BK266 := n1_
           have HB := n2_
           clear n0_ n1_ n2_
           (try clear hb)
           (try clear hb2)
           (try clear hk)
           (try clear hi)
           (try clear ho0)
           obtain ⟨Ao29, co29, eo29⟩ := Kd.R_slice HO273.out
           (first | subst eo29 | (injection eo29 with f1_ f2_ f3_; have f4_ := f1_.symm; have f5_ := f3_.symm; clear f1_ f2_ f3_; subst f4_; subst f5_))
           refine hK.out _ _ ⟨(blk_cell BK266.out 0).trans rfl, (blk_cell BK266.out 1).trans rfl, (blk_cell BK266.out 2).trans rfl⟩ (fun hHeld => ?_)
           clear hK K
           refine norm_ (a' := ?_) ?_ ?_
           rotate_left
           ·show Act.put _ (some 39) _ = _
            simp only [Act.put, List.setIfInBounds_toArray, List.set_cons_zero, List.set_cons_succ, i64_w, i32_w]
            rfl
           refine pure_ (i := 3) (N := some 40) (v := ?_) (a' := ?_) bactFewestLessonsx7_14_7f rfl rfl (any_of HT_.out (by kernel_rfl)) (fun _ _ _ h => h) (Or.inl ⟨by rfl, ?_⟩) ?_ ?_
           rotate_left
           ·intro w'
            go_simp
            with_reducible rfl
           rotate_left
           ·simp only [Act.put, List.setIfInBounds_toArray, List.set_cons_zero, List.set_cons_succ, i64_w, i32_w]
            rfl
           refine pure_ (i := 7) (N := some 44) (v := ?_) (a' := ?_) bactFewestLessonsx7_14_ff rfl rfl (any_of HT_.out (by kernel_rfl)) (fun _ _ _ h => h) (Or.inl ⟨by rfl, ?_⟩) ?_ ?_
           rotate_left
           ·intro w'
            go_simp
            with_reducible rfl
           rotate_left
           ·simp only [Act.put, List.setIfInBounds_toArray, List.set_cons_zero, List.set_cons_succ, i64_w, i32_w]
            rfl
           refine pure_ (i := 8) (N := some 45) (v := ?_) (a' := ?_) bactFewestLessonsx7_14_1ff rfl rfl (any_of HT_.out (by kernel_rfl)) (fun _ _ _ h => h) (Or.inl ⟨by rfl, ?_⟩) ?_ ?_
           rotate_left
           ·intro w'
            go_simp
            with_reducible rfl
           rotate_left
           ·simp only [Act.put, List.setIfInBounds_toArray, List.set_cons_zero, List.set_cons_succ, i64_w, i32_w]
            rfl
           refine pure_ (i := 9) (N := some 46) (v := ?_) (a' := ?_) bactFewestLessonsx7_14_3ff rfl rfl (any_of HT_.out (by kernel_rfl)) (fun _ _ _ h => h) (Or.inl ⟨by rfl, ?_⟩) ?_ ?_
           rotate_left
           ·intro w'
            go_simp
            with_reducible rfl
           rotate_left
           ·simp only [Act.put, List.setIfInBounds_toArray, List.set_cons_zero, List.set_cons_succ, i64_w, i32_w]
            rfl
           refine take_ (i := 10) (N := some 47) (v := ?_) (a' := ?_) bactFewestLessonsx7_14_7ff rfl rfl (take_ofW HT_.out HW_.out (by kernel_rfl)) (fun _ _ _ h => h) (Or.inl ⟨by rfl, ?_⟩) hHeld ?_ ?_
           rotate_left
           ·rintro w' ⟨s0, s1, s2⟩
            go_simp
            with_reducible rfl
           rotate_left
           ·simp only [Act.put, List.setIfInBounds_toArray, List.set_cons_zero, List.set_cons_succ, i64_w, i32_w]
            rfl
           refine one_ (i := 11) (N := some 48) bactFewestLessonsx7_14_fff rfl rfl (one_of HT_.out (by kernel_rfl)) (by decide) (fun K hK => ?_)
           refine goes_ Try.func97 (by kernel_rfl) rfl #[.slice A265_1 ((rd_T96 l0 x7_1).f1).length c265_1] (by rfl) rfl rfl (by (try simp only [List.map_toArray, List.map_cons, List.map_nil]); first | done | rfl | (simp only [List.length_drop, List.length_take]; rfl)) ?_
           with_reducible refine (slices_IsSorted_int.calls kj4 _ _ ((rd_T96 l0 x7_1).f1) t274 _ ?side1 ?side2 A26.out).mono ?_
           (case side1 => repeat (first | exact (Kd.C_below HR265_1.out HB.out) | (with_reducible refine Kd.C_alloc ?_ _) | (with_reducible refine Kd.C_drewN ?_ _) | (with_reducible refine Kd.C_drew ?_)))
           (case side2 => exact HC265_1.out)
           rintro e w' ⟨rfl, ⟨nd, rfl⟩⟩
           refine ⟨_, rfl, ?_⟩
           refine hK.out _ _ ⟨(blk_cell BK266.out 0).trans rfl, (blk_cell BK266.out 1).trans rfl, (blk_cell BK266.out 2).trans rfl⟩ (fun hHeld => ?_)
           clear hK K
           refine norm_ (a' := ?_) ?_ ?_
           rotate_left
           ·show Act.put _ (some 48) _ = _
            simp only [Act.put, List.setIfInBounds_toArray, List.set_cons_zero, List.set_cons_succ, i64_w, i32_w]
            rfl
           refine pure_ (i := 12) (N := some 49) (v := ?_) (a' := ?_) bactFewestLessonsx7_14_1fff rfl rfl (any_of HT_.out (by kernel_rfl)) (fun _ _ _ h => h) (Or.inl ⟨by rfl, ?_⟩) ?_ ?_
           rotate_left
           ·intro w'
            go_simp
            with_reducible rfl
           rotate_left
           ·simp only [Act.put, List.setIfInBounds_toArray, List.set_cons_zero, List.set_cons_succ, i64_w, i32_w]
            rfl
           refine pure_ (i := 13) (N := some 50) (v := ?_) (a' := ?_) bactFewestLessonsx7_14_3fff rfl rfl (any_of HT_.out (by kernel_rfl)) (fun _ _ _ h => h) (Or.inl ⟨by rfl, ?_⟩) ?_ ?_
           rotate_left
           ·intro w'
            go_simp
            with_reducible rfl
           rotate_left
           ·simp only [Act.put, List.setIfInBounds_toArray, List.set_cons_zero, List.set_cons_succ, i64_w, i32_w]
            rfl
           refine done_ (done_of HT_.out (by kernel_rfl)) ?_
           try go_wp2
           go_meet
           case rel => exact ⟨_, (!t274), (by first | rfl | (simp; done) | (simp [*]; done)), H', ⟨by have := HK1.out; have := HJ4.out; first | omega | exact Nat.le_refl _⟩, ⟨by (with_reducible repeat (first | refine blk_drewN ?_ _ | refine blk_drew ?_ | refine blk_alloc ?_ _)); exact BK266.out⟩, ⟨by repeat (first | (with_reducible first | exact HB.out | apply below_alloc | apply pw_below_drewN | apply below_drew1 | refine below_set ?_ GE266.out) | exact HB.out)⟩⟩
          ·rw [if_neg c25] at H
           have c25b0 : ((t271.length : Int) == (((rd_T96 l0 x7_1).f1).length : Int)) = false := beq_eq_false_iff_ne.mpr c25
           have c25b1 : ((t271.length : Int) != (((rd_T96 l0 x7_1).f1).length : Int)) = true := bne_iff_ne.mpr c25
           have c25b2 : (t271.length == ((rd_T96 l0 x7_1).f1).length) = false := by first | simpa using c25 | (simp at c25 ⊢; omega)
           (first | rw [c25b0] | (simp only [i64_w, i32_w]; rw [c25b0]) | skip)
           have H' := Aside0.mk H
           clear H
           try go_wp2
           have n0_ := Aside0.mk (blk_drew BK266.out)
           have n1_ := Aside0.mk (below_drew1 HB.out)
           clear BK266
           clear HB
           have BK266 := n0_
           have HB := n1_
           clear n0_ n1_
           refine start_ (n := 14) (S := fun w' => w'.cell? ⟨gb266, 0, none⟩ = some (.string ((rd_T96 l0 x7_1).f0)) ∧ w'.cell? ⟨gb266, 1, none⟩ = some (.slice A265_1 ((rd_T96 l0 x7_1).f1).length c265_1) ∧ w'.cell? ⟨gb266, 2, none⟩ = some (.int .i64 ((rd_T96 l0 x7_1).f2))) (ds := []) bactFewestLessonsx7_14_0 (by kernel_rfl) rfl rfl ⟨(blk_cell BK266.out 0).trans rfl, (blk_cell BK266.out 1).trans rfl, (blk_cell BK266.out 2).trans rfl⟩ (fun hHeld => ?_); refine with_tabW impl_AreWords.tab6 impl_AreWords.bits6 (fun HT_ HW_ => ?_)
           generalize wc.drew = w30 at BK266 HB hHeld ⊢
           refine pure_ (i := 0) (N := some 37) (v := ?_) (a' := ?_) bactFewestLessonsx7_14_1 rfl rfl (any_of HT_.out (by kernel_rfl)) (fun _ _ _ h => h) (Or.inl ⟨by rfl, ?_⟩) ?_ ?_
           rotate_left
           ·intro w'
            go_simp
            with_reducible rfl
           rotate_left
           ·simp only [Act.put, List.setIfInBounds_toArray, List.set_cons_zero, List.set_cons_succ, i64_w, i32_w]
            rfl
           refine pure_ (i := 4) (N := some 41) (v := ?_) (a' := ?_) bactFewestLessonsx7_14_11 rfl rfl (any_of HT_.out (by kernel_rfl)) (fun _ _ _ h => h) (Or.inl ⟨by rfl, ?_⟩) ?_ ?_
           rotate_left
           ·intro w'
            go_simp
            with_reducible rfl
           rotate_left
           ·simp only [Act.put, List.setIfInBounds_toArray, List.set_cons_zero, List.set_cons_succ, i64_w, i32_w]
            rfl
           refine take_ (i := 1) (N := some 38) (v := ?_) (a' := ?_) bactFewestLessonsx7_14_13 rfl rfl (take_ofW HT_.out HW_.out (by kernel_rfl)) (fun _ _ _ h => h) (Or.inl ⟨by rfl, ?_⟩) hHeld ?_ ?_
           rotate_left
           ·rintro w' ⟨s0, s1, s2⟩
            go_simp
            with_reducible rfl
           rotate_left
           ·simp only [Act.put, List.setIfInBounds_toArray, List.set_cons_zero, List.set_cons_succ, i64_w, i32_w]
            rfl
           refine take_ (i := 5) (N := some 42) (v := ?_) (a' := ?_) bactFewestLessonsx7_14_33 rfl rfl (take_ofW HT_.out HW_.out (by kernel_rfl)) (fun _ _ _ h => h) (Or.inl ⟨by rfl, ?_⟩) hHeld ?_ ?_
           rotate_left
           ·rintro w' ⟨s0, s1, s2⟩
            go_simp
            with_reducible rfl
           rotate_left
           ·simp only [Act.put, List.setIfInBounds_toArray, List.set_cons_zero, List.set_cons_succ, i64_w, i32_w]
            rfl
           refine pure_ (i := 6) (N := some 43) (v := ?_) (a' := ?_) bactFewestLessonsx7_14_73 rfl rfl (any_of HT_.out (by kernel_rfl)) (fun _ _ _ h => h) (Or.inl ⟨by rfl, ?_⟩) ?_ ?_
           rotate_left
           ·intro w'
            go_simp
            with_reducible rfl
           rotate_left
           ·simp only [Act.put, List.setIfInBounds_toArray, List.set_cons_zero, List.set_cons_succ, i64_w, i32_w]
            rfl
           refine one_ (i := 2) (N := some 39) bactFewestLessonsx7_14_77 rfl rfl (one_of HT_.out (by kernel_rfl)) (by decide) (fun K hK => ?_)
           refine goes_ Try.func96 (by kernel_rfl) rfl #[.slice A265_1 ((rd_T96 l0 x7_1).f1).length c265_1] (by rfl) rfl rfl (by (try simp only [List.map_toArray, List.map_cons, List.map_nil]); first | done | rfl | (simp only [List.length_drop, List.length_take]; rfl)) ?_
           with_reducible refine (impl_distinct_int.calls _ _ ((rd_T96 l0 x7_1).f1) t271 _ ?side1 ?side2 A24.out).mono ?_
           (case side1 => repeat (first | exact (Kd.C_below HR265_1.out HB.out) | (with_reducible refine Kd.C_alloc ?_ _) | (with_reducible refine Kd.C_drewN ?_ _) | (with_reducible refine Kd.C_drew ?_)))
           (case side2 => exact HC265_1.out)
           rintro e w31 ⟨v272, rfl, ho0, hb⟩
           refine ⟨_, rfl, ?_⟩
           have n0_ := Aside0.mk (Kd.R_lower ho0 (below_size (by repeat (first | (with_reducible first | exact HB.out | apply below_alloc | apply pw_below_drewN | apply below_drew1 | refine below_set ?_ GE266.out) | exact HB.out))))
           have n1_ := Aside0.mk (blk_below (g := gb266) (o := .cells #[.string ((rd_T96 l0 x7_1).f0), .slice A265_1 ((rd_T96 l0 x7_1).f1).length c265_1, .int .i64 ((rd_T96 l0 x7_1).f2)] 96 (0, 0)) (by (with_reducible repeat (first | refine blk_drewN ?_ _ | refine blk_drew ?_ | refine blk_alloc ?_ _)); exact BK266.out) hb)
           have n2_ := Aside0.mk (below_step (by repeat (first | (with_reducible first | exact HB.out | apply below_alloc | apply pw_below_drewN | apply below_drew1 | refine below_set ?_ GE266.out) | exact HB.out)) hb)
           clear BK266
           clear HB
           have HO273 := n0_
           have BK266 := n1_
           have HB := n2_
           clear n0_ n1_ n2_
           (try clear hb)
           (try clear hb2)
           (try clear hk)
           (try clear hi)
           (try clear ho0)
           obtain ⟨Ao32, co32, eo32⟩ := Kd.R_slice HO273.out
           (first | subst eo32 | (injection eo32 with f1_ f2_ f3_; have f4_ := f1_.symm; have f5_ := f3_.symm; clear f1_ f2_ f3_; subst f4_; subst f5_))
           refine hK.out _ _ ⟨(blk_cell BK266.out 0).trans rfl, (blk_cell BK266.out 1).trans rfl, (blk_cell BK266.out 2).trans rfl⟩ (fun hHeld => ?_)
           clear hK K
           refine norm_ (a' := ?_) ?_ ?_
           rotate_left
           ·show Act.put _ (some 39) _ = _
            simp only [Act.put, List.setIfInBounds_toArray, List.set_cons_zero, List.set_cons_succ, i64_w, i32_w]
            rfl
           refine pure_ (i := 3) (N := some 40) (v := ?_) (a' := ?_) bactFewestLessonsx7_14_7f rfl rfl (any_of HT_.out (by kernel_rfl)) (fun _ _ _ h => h) (Or.inl ⟨by rfl, ?_⟩) ?_ ?_
           rotate_left
           ·intro w'
            go_simp
            with_reducible rfl
           rotate_left
           ·simp only [Act.put, List.setIfInBounds_toArray, List.set_cons_zero, List.set_cons_succ, i64_w, i32_w]
            rfl
           refine pure_ (i := 7) (N := some 44) (v := ?_) (a' := ?_) bactFewestLessonsx7_14_ff rfl rfl (any_of HT_.out (by kernel_rfl)) (fun _ _ _ h => h) (Or.inl ⟨by rfl, ?_⟩) ?_ ?_
           rotate_left
           ·intro w'
            go_simp
            with_reducible rfl
           rotate_left
           ·simp only [Act.put, List.setIfInBounds_toArray, List.set_cons_zero, List.set_cons_succ, i64_w, i32_w]
            rfl
           refine pure_ (i := 8) (N := some 45) (v := ?_) (a' := ?_) bactFewestLessonsx7_14_1ff rfl rfl (any_of HT_.out (by kernel_rfl)) (fun _ _ _ h => h) (Or.inl ⟨by rfl, ?_⟩) ?_ ?_
           rotate_left
           ·intro w'
            go_simp
            with_reducible rfl
           rotate_left
           ·simp only [Act.put, List.setIfInBounds_toArray, List.set_cons_zero, List.set_cons_succ, i64_w, i32_w]
            rfl
           refine pure_ (i := 9) (N := some 46) (v := undef) (a' := ?_) bactFewestLessonsx7_14_3ff rfl rfl (any_of HT_.out (by kernel_rfl)) (fun _ _ _ h => h) (Or.inr ⟨by rfl, rfl⟩) ?_ ?_
           rotate_left
           ·simp only [Act.put, List.setIfInBounds_toArray, List.set_cons_zero, List.set_cons_succ, i64_w, i32_w]
            rfl
           refine pure_ (i := 10) (N := some 47) (v := undef) (a' := ?_) bactFewestLessonsx7_14_7ff rfl rfl (any_of HT_.out (by kernel_rfl)) (fun _ _ _ h => h) (Or.inr ⟨by rfl, rfl⟩) ?_ ?_
           rotate_left
           ·simp only [Act.put, List.setIfInBounds_toArray, List.set_cons_zero, List.set_cons_succ, i64_w, i32_w]
            rfl
           refine pure_ (i := 11) (N := some 48) (v := undef) (a' := ?_) bactFewestLessonsx7_14_fff rfl rfl (any_of HT_.out (by kernel_rfl)) (fun _ _ _ h => h) (Or.inr ⟨by rfl, rfl⟩) ?_ ?_
           rotate_left
           ·simp only [Act.put, List.setIfInBounds_toArray, List.set_cons_zero, List.set_cons_succ, i64_w, i32_w]
            rfl
           refine pure_ (i := 12) (N := some 49) (v := undef) (a' := ?_) bactFewestLessonsx7_14_1fff rfl rfl (any_of HT_.out (by kernel_rfl)) (fun _ _ _ h => h) (Or.inr ⟨by rfl, rfl⟩) ?_ ?_
           rotate_left
           ·simp only [Act.put, List.setIfInBounds_toArray, List.set_cons_zero, List.set_cons_succ, i64_w, i32_w]
            rfl
           refine pure_ (i := 13) (N := some 50) (v := ?_) (a' := ?_) bactFewestLessonsx7_14_3fff rfl rfl (any_of HT_.out (by kernel_rfl)) (fun _ _ _ h => h) (Or.inl ⟨by rfl, ?_⟩) ?_ ?_
           rotate_left
           ·intro w'
            go_simp
            with_reducible rfl
           rotate_left
           ·simp only [Act.put, List.setIfInBounds_toArray, List.set_cons_zero, List.set_cons_succ, i64_w, i32_w]
            rfl
           refine done_ (done_of HT_.out (by kernel_rfl)) ?_
           try go_wp2
           go_meet
           case rel => exact ⟨_, (true), (by first | rfl | (simp; done) | (simp [*]; done)), H', ⟨by have := HK1.out; have := HJ4.out; first | omega | exact Nat.le_refl _⟩, ⟨by (with_reducible repeat (first | refine blk_drewN ?_ _ | refine blk_drew ?_ | refine blk_alloc ?_ _)); exact BK266.out⟩, ⟨by repeat (first | (with_reducible first | exact HB.out | apply below_alloc | apply pw_below_drewN | apply below_drew1 | refine below_set ?_ GE266.out) | exact HB.out)⟩⟩
         case rest =>
          clear HC23
          try clear c1
          try clear c2
          try clear c2b0
          try clear p2
          try clear q2
          try clear hx2
          try clear c3
          try clear c3b0
          try clear c4
          try clear c4b0
          try clear p6
          try clear c9
          try clear c11
          try clear c13
          try clear c22
          try clear c25
          try clear c25b0
          try clear c25b1
          try clear c25b2
          try clear c26
          try clear p26
          try clear q26
          try clear hx26
          try clear hcz15_0
          try clear hcz15_1
          try clear hcz15_2
          try clear hcz17_0
          try clear hcz17_1
          try clear hcz17_2
          try clear hcz18_0
          try clear hcz18_1
          try clear hcz18_2
          try clear hcz20_0
          try clear hcz20_1
          try clear hcz20_2
          try clear hcz21_0
          try clear hcz21_1
          try clear hcz21_2
          try clear hcz7_0
          try clear hcz7_1
          try clear hcz7_2
          try clear hfz15_0
          try clear hfz15_1
          try clear hfz15_2
          try clear hfz17_0
          try clear hfz17_1
          try clear hfz17_2
          try clear hfz18_0
          try clear hfz18_1
          try clear hfz18_2
          try clear hfz20_0
          try clear hfz20_1
          try clear hfz20_2
          try clear hfz21_0
          try clear hfz21_1
          try clear hfz21_2
          try clear hfz7_0
          try clear hfz7_1
          try clear hfz7_2
          try clear hx265_0
          try clear hx265_1
          try clear hx265_2
          try clear p2
          try clear p265
          try clear p6
          try clear q2
          try clear q265
          obtain ⟨kq, x50_22, rfl, HA, HJ22, BK266, HB⟩ := hcut
          cases kq with
          | zero => exact absurd HA.out (by simp [impl_AreWords.j2])
          | succ kj22 =>
           have H := HA.out
           clear HA
           simp only [impl_AreWords.j2] at H
           by_cases c33 : x50_22 = true
           ·subst c33
            have H1 : (some false) = some r := by rw [if_pos rfl] at H; exact H
            clear H
            have H := H1
            clear H1
            obtain rfl := Option.some.inj H
            go_wp2
            go_ret
            exact ⟨by first | rfl | (simp [errW_none, errW_some] <;> rfl) | (simp [*, errW_none, errW_some] <;> rfl) | (simp [errW_none, errW_some, show ∀ l_ : List UInt8, (l_ != []) = !l_.isEmpty from fun l_ => by cases l_ <;> rfl]; done), by repeat (first | (with_reducible first | exact HB.out | apply below_alloc | apply pw_below_drewN | apply below_drew1 | refine below_set ?_ GE266.out) | exact HB.out)⟩
           ·replace c33 := Bool.eq_false_iff.mpr c33
            subst c33
            have H1 : (if 0 ≤ x7_1 then (if x7_1 ≤ (l0.length : Int) then ((slices_ContainsFunc_Word_impl_AreWords_1.f kj22 (l0.take (x7_1 : Int).toNat) ((rd_T96 l0 x7_1).f0) ((rd_T96 l0 x7_1).f1) ((rd_T96 l0 x7_1).f2)).bind fun t279 => (if t279 = true then (some false) else (impl_AreWords.l0 kj22 l0 l0 (l0.length : Int) (wrap64 (x7_1 + 1))))) else (none)) else (none)) = some r := by rw [if_neg (show ¬ (false = true) by decide)] at H; exact H
            clear H
            have H := H1
            clear H1
            by_cases c34 : 0 ≤ x7_1
            ·rw [if_pos c34] at H
             have c34b0 := eq_true c34
             have c34b1 : decide (0 ≤ x7_1) = true := decide_eq_true c34
             clear c34
             by_cases c35 : x7_1 ≤ (l0.length : Int)
             ·rw [if_pos c35] at H
              have c35b0 := eq_true c35
              have c35b1 : decide (x7_1 ≤ (l0.length : Int)) = true := decide_eq_true c35
              clear c35
              obtain ⟨y275, hy275⟩ : ∃ y_ : List (S96), y_ = (l0.take (x7_1 : Int).toNat) := ⟨_, rfl⟩
              replace H : ((slices_ContainsFunc_Word_impl_AreWords_1.f kj22 y275 ((rd_T96 l0 x7_1).f0) ((rd_T96 l0 x7_1).f1) ((rd_T96 l0 x7_1).f2)).bind fun t279 => (if t279 = true then (some false) else (impl_AreWords.l0 kj22 l0 l0 (l0.length : Int) (wrap64 (x7_1 + 1))))) = some r := by first | (rw [hy275]; with_reducible exact H) | (have H2_ := (Option.bind_some _ _).symm.trans H; rw [hy275]; with_reducible exact H2_) | (have H2_ := (Option.bind_some _ _).symm.trans H; with_reducible exact H2_) | with_reducible exact H | (rw [hy275]; exact H) | exact H
              have Ny275 := Aside0.mk hy275
              clear hy275
              replace H := Option.bind_eq_some_iff.mp H
              obtain ⟨t279, A360, H⟩ := H
              replace H : (if t279 = true then (some false) else (impl_AreWords.l0 kj22 l0 l0 (l0.length : Int) (wrap64 (x7_1 + 1)))) = some r := H
              have A36 := Aside0.mk A360
              clear A360
              by_cases c37 : t279 = true
              ·subst c37
               have H1 : (some false) = some r := by rw [if_pos rfl] at H; exact H
               clear H
               have H := H1
               clear H1
               obtain rfl := Option.some.inj H
               have q38 : (x7_1 : Int) ≤ ((l0.length : Int) : Int) := of_decide_eq_true (by first | (with_reducible assumption) | assumption)
               obtain ⟨i038, hi038, _, hsz38, _⟩ := info_parts info96
               have hroom38 : l0.length ≤ c0 := HC0.out
               have hC38 : Kd.C k96 _ (some ad265) l0.length l0 := HR0.out
               have hcut38 := cut_to (P := Try.prog) 57 96 .i64 Try.underlying57 hi038 (some ad265) l0.length c0 x7_1 (of_decide_eq_true (by first | (with_reducible assumption) | assumption)) q38 hroom38
               have hr38 := Kd.C_take (m := (x7_1 : Int).toNat) hC38 (by omega)
               have hy38 : y275.length = (x7_1 : Int).toNat := (by rw [Ny275.out, List.length_take]; omega)
               rw [← Ny275.out] at hr38
               rw [← hy38] at hcut38
               have HR278 := Aside0.mk hr38
               have HC278 := Aside0.mk (show y275.length ≤ c0 from by omega)
               clear hr38 hC38 hroom38 hi038 hsz38
               have KY38 := Aside0.mk hy38
               clear hy38
               replace q38 := eq_true q38
               go_wp2_with (first | ((with_reducible refine gate_callee (f := 98) rfl ?_); refine goesL_ (some 55) rfl rfl Try.func98 (by kernel_rfl) rfl #[.slice (some ad265) y275.length c0, .func (.func 99) #[] #[.pointer (some ⟨gb266, 0, none⟩)]] rfl (by (try simp only [List.map_toArray, List.map_cons, List.map_nil]); first | done | rfl | (simp only [List.length_drop, List.length_take]; rfl)) ?_; (with_reducible refine (slices_ContainsFunc_Word_impl_AreWords_1.calls kj22 _ _ y275 gb266 ((rd_T96 l0 x7_1).f0) A265_1 c265_1 ((rd_T96 l0 x7_1).f1) ((rd_T96 l0 x7_1).f2) true _ ?side1 ?side2 ?side3 ?side4 ?side5 A36.out).mono ?_); (case side1 => repeat (first | exact (Kd.C_below HR278.out HB.out) | (with_reducible refine Kd.C_alloc ?_ _) | (with_reducible refine Kd.C_drewN ?_ _) | (with_reducible refine Kd.C_drew ?_))); (case side2 => exact HC278.out); (case side3 => repeat (first | exact (Kd.C_below HR265_1.out HB.out) | (with_reducible refine Kd.C_alloc ?_ _) | (with_reducible refine Kd.C_drewN ?_ _) | (with_reducible refine Kd.C_drew ?_))); (case side4 => exact HC265_1.out); (case side5 => (with_reducible repeat (first | refine blk_drewN ?_ _ | refine blk_drew ?_ | refine blk_alloc ?_ _)); exact BK266.out); rintro e w39 ⟨rfl, hb⟩; refine ⟨_, rfl, ?_⟩; have n0_ := Aside0.mk (blk_below (g := gb266) (o := .cells #[.string ((rd_T96 l0 x7_1).f0), .slice A265_1 ((rd_T96 l0 x7_1).f1).length c265_1, .int .i64 ((rd_T96 l0 x7_1).f2)] 96 (0, 0)) (by (with_reducible repeat (first | refine blk_drewN ?_ _ | refine blk_drew ?_ | refine blk_alloc ?_ _)); exact BK266.out) hb); have n1_ := Aside0.mk (below_step (by repeat (first | (with_reducible first | exact HB.out | apply below_alloc | apply pw_below_drewN | apply below_drew1 | refine below_set ?_ GE266.out) | exact HB.out)) hb); clear BK266; clear HB; have BK266 := n0_; have HB := n1_; clear n0_ n1_; (try clear hb); (try clear hb2); (try clear hk); (try clear hi)))
               go_ret
               exact ⟨by first | rfl | (simp [errW_none, errW_some] <;> rfl) | (simp [*, errW_none, errW_some] <;> rfl) | (simp [errW_none, errW_some, show ∀ l_ : List UInt8, (l_ != []) = !l_.isEmpty from fun l_ => by cases l_ <;> rfl]; done), by repeat (first | (with_reducible first | exact HB.out | apply below_alloc | apply pw_below_drewN | apply below_drew1 | refine below_set ?_ GE266.out) | exact HB.out)⟩
              ·replace c37 := Bool.eq_false_iff.mpr c37
               subst c37
               have H1 : (impl_AreWords.l0 kj22 l0 l0 (l0.length : Int) (wrap64 (x7_1 + 1))) = some r := by rw [if_neg (show ¬ (false = true) by decide)] at H; exact H
               clear H
               have H := H1
               clear H1
               have H' := Aside0.mk H
               clear H
               have q40 : (x7_1 : Int) ≤ ((l0.length : Int) : Int) := of_decide_eq_true (by first | (with_reducible assumption) | assumption)
               obtain ⟨i040, hi040, _, hsz40, _⟩ := info_parts info96
               have hroom40 : l0.length ≤ c0 := HC0.out
               have hC40 : Kd.C k96 _ (some ad265) l0.length l0 := HR0.out
               have hcut40 := cut_to (P := Try.prog) 57 96 .i64 Try.underlying57 hi040 (some ad265) l0.length c0 x7_1 (of_decide_eq_true (by first | (with_reducible assumption) | assumption)) q40 hroom40
               have hr40 := Kd.C_take (m := (x7_1 : Int).toNat) hC40 (by omega)
               have hy40 : y275.length = (x7_1 : Int).toNat := (by rw [Ny275.out, List.length_take]; omega)
               rw [← Ny275.out] at hr40
               rw [← hy40] at hcut40
               have HR278 := Aside0.mk hr40
               have HC278 := Aside0.mk (show y275.length ≤ c0 from by omega)
               clear hr40 hC40 hroom40 hi040 hsz40
               have KY40 := Aside0.mk hy40
               clear hy40
               replace q40 := eq_true q40
               go_wp2_with (first | ((with_reducible refine gate_callee (f := 98) rfl ?_); refine goesL_ (some 55) rfl rfl Try.func98 (by kernel_rfl) rfl #[.slice (some ad265) y275.length c0, .func (.func 99) #[] #[.pointer (some ⟨gb266, 0, none⟩)]] rfl (by (try simp only [List.map_toArray, List.map_cons, List.map_nil]); first | done | rfl | (simp only [List.length_drop, List.length_take]; rfl)) ?_; (with_reducible refine (slices_ContainsFunc_Word_impl_AreWords_1.calls kj22 _ _ y275 gb266 ((rd_T96 l0 x7_1).f0) A265_1 c265_1 ((rd_T96 l0 x7_1).f1) ((rd_T96 l0 x7_1).f2) false _ ?side1 ?side2 ?side3 ?side4 ?side5 A36.out).mono ?_); (case side1 => repeat (first | exact (Kd.C_below HR278.out HB.out) | (with_reducible refine Kd.C_alloc ?_ _) | (with_reducible refine Kd.C_drewN ?_ _) | (with_reducible refine Kd.C_drew ?_))); (case side2 => exact HC278.out); (case side3 => repeat (first | exact (Kd.C_below HR265_1.out HB.out) | (with_reducible refine Kd.C_alloc ?_ _) | (with_reducible refine Kd.C_drewN ?_ _) | (with_reducible refine Kd.C_drew ?_))); (case side4 => exact HC265_1.out); (case side5 => (with_reducible repeat (first | refine blk_drewN ?_ _ | refine blk_drew ?_ | refine blk_alloc ?_ _)); exact BK266.out); rintro e w41 ⟨rfl, hb⟩; refine ⟨_, rfl, ?_⟩; have n0_ := Aside0.mk (blk_below (g := gb266) (o := .cells #[.string ((rd_T96 l0 x7_1).f0), .slice A265_1 ((rd_T96 l0 x7_1).f1).length c265_1, .int .i64 ((rd_T96 l0 x7_1).f2)] 96 (0, 0)) (by (with_reducible repeat (first | refine blk_drewN ?_ _ | refine blk_drew ?_ | refine blk_alloc ?_ _)); exact BK266.out) hb); have n1_ := Aside0.mk (below_step (by repeat (first | (with_reducible first | exact HB.out | apply below_alloc | apply pw_below_drewN | apply below_drew1 | refine below_set ?_ GE266.out) | exact HB.out)) hb); clear BK266; clear HB; have BK266 := n0_; have HB := n1_; clear n0_ n1_; (try clear hb); (try clear hb2); (try clear hk); (try clear hi)))
               go_roundg kj22
               case measure => have := HK1.out; have := HJ4.out; have := HJ22.out; omega
               case rel => exact ⟨(wrap64 (x7_1 + 1)), (by first | rfl | (simp; done) | (simp [*]; done)), H', ⟨by have := HK1.out; have := HJ4.out; have := HJ22.out; omega⟩, ⟨by repeat (first | (with_reducible first | exact HB.out | apply below_alloc | apply pw_below_drewN | apply below_drew1 | refine below_set ?_ GE266.out) | exact HB.out)⟩⟩
             ·rw [if_neg c35] at H
              exact absurd H (by simp)
            ·rw [if_neg c34] at H
             exact absurd H (by simp)
     ·rw [if_neg c4] at H
      exact absurd H (by simp)
    ·rw [if_neg c3] at H
     exact absurd H (by simp)
   ·rw [if_neg c2] at H
    have c2b0 : decide (x7_1 < (l0.length : Int)) = false := decide_eq_false c2
    clear c2
    obtain rfl := Option.some.inj H
    go_wp2
    go_ret
    exact ⟨by first | rfl | (simp [errW_none, errW_some] <;> rfl) | (simp [*, errW_none, errW_some] <;> rfl) | (simp [errW_none, errW_some, show ∀ l_ : List UInt8, (l_ != []) = !l_.isEmpty from fun l_ => by cases l_ <;> rfl]; done), by repeat (first | (with_reducible first | exact HB.out | apply below_alloc | apply pw_below_drewN | apply below_drew1) | exact HB.out)⟩

/-! ### impl_hasNeeds_1: function 190 -/
set_option maxHeartbeats 8000000 in
set_option maxRecDepth 100000 in
theorem impl_hasNeeds_1.calls (k : Nat) (a0 : Int) (g1_0 : Nat) (A1_0 : Option Addr) (c1_0 : Nat) (l1_0 : List Int) (r : Bool) (w : World) (hr1_0 : Kd.C (Kd.int .i64) w A1_0 l1_0.length l1_0) (hc1_0 : l1_0.length ≤ c1_0) (hb1_0 : w.heap[g1_0]? = some (.cells #[.slice A1_0 l1_0.length c1_0] 61 (0, 0))) (h : impl_hasNeeds_1.f k a0 l1_0 = some r) :
 Calls Try.prog 136 #[.int .i64 a0, .pointer (some ⟨g1_0, 0, none⟩)] w fun e w' => e = .returned (.bool r) ∧ Below w.heap.size w w' := by
 have HR1_0 := Aside0.mk hr1_0
 have HC1_0 := Aside0.mk hc1_0
 clear hr1_0 hc1_0
 have BK38 := Aside0.mk hb1_0
 clear hb1_0
 have HB := Aside0.mk (Below.refl w.heap.size w)
 have H : ((slices_Contains_int.f k l1_0 a0).bind fun t280 => (some t280)) = some r := h
 clear h
 replace H := Option.bind_eq_some_iff.mp H
 obtain ⟨t280, A30, H⟩ := H
 replace H : (some t280) = some r := H
 have A3 := Aside0.mk A30
 clear A30
 obtain rfl := Option.some.inj H
 have hcz4_0 : w.cell? ⟨g1_0, 0, none⟩ = some (.slice A1_0 l1_0.length c1_0) := (blk_cell BK38.out 0).trans rfl
 have hfz4_0 := blk_frozen BK38.out 0
 go_enter Try.func136, Try.ntmps136
 go_wp2_with (first | ((with_reducible refine gate_callee (f := 95) rfl ?_); refine goesL_ (some 6) rfl rfl Try.func95 (by kernel_rfl) rfl #[.slice A1_0 l1_0.length c1_0, .int .i64 a0] rfl (by (try simp only [List.map_toArray, List.map_cons, List.map_nil]); first | done | rfl | (simp only [List.length_drop, List.length_take]; rfl)) ?_; (with_reducible refine (slices_Contains_int.calls k _ _ l1_0 a0 t280 _ ?side1 ?side2 A3.out).mono ?_); (case side1 => repeat (first | exact HR1_0.out | (with_reducible refine Kd.C_alloc ?_ _) | (with_reducible refine Kd.C_drewN ?_ _) | (with_reducible refine Kd.C_drew ?_))); (case side2 => exact HC1_0.out); rintro e w' ⟨rfl, ⟨nd, rfl⟩⟩; refine ⟨_, rfl, ?_⟩))
 go_ret
 exact ⟨by first | rfl | (simp [errW_none, errW_some] <;> rfl) | (simp [*, errW_none, errW_some] <;> rfl) | (simp [errW_none, errW_some, show ∀ l_ : List UInt8, (l_ != []) = !l_.isEmpty from fun l_ => by cases l_ <;> rfl]; done), by repeat (first | (with_reducible first | exact HB.out | apply below_alloc | apply pw_below_drewN | apply below_drew1 | refine below_set ?_ GE38.out) | exact HB.out)⟩

/-! ### impl_allOf_int_1_impl_hasNeeds_1: function 189 -/
set_option maxHeartbeats 8000000 in
set_option maxRecDepth 100000 in
theorem impl_allOf_int_1_impl_hasNeeds_1.calls (k : Nat) (a0 : Int) (g1_0 : Nat) (g1_1 : Nat) (A1_0 : Option Addr) (c1_0 : Nat) (l1_0 : List Int) (r : Bool) (w : World) (hr1_0 : Kd.C (Kd.int .i64) w A1_0 l1_0.length l1_0) (hc1_0 : l1_0.length ≤ c1_0) (hb1_0 : w.heap[g1_0]? = some (.cells #[.func (.func 136) #[] #[.pointer (some ⟨g1_1, 0, none⟩)]] 90 (0, 0))) (hb1_1 : w.heap[g1_1]? = some (.cells #[.slice A1_0 l1_0.length c1_0] 61 (0, 0))) (h : impl_allOf_int_1_impl_hasNeeds_1.f k a0 l1_0 = some r) :
 Calls Try.prog 146 #[.int .i64 a0, .pointer (some ⟨g1_0, 0, none⟩)] w fun e w' => e = .returned (.bool r) ∧ Below w.heap.size w w' := by
 have HR1_0 := Aside0.mk hr1_0
 have HC1_0 := Aside0.mk hc1_0
 clear hr1_0 hc1_0
 have BK38 := Aside0.mk hb1_0
 clear hb1_0
 have BK39 := Aside0.mk hb1_1
 clear hb1_1
 have HB := Aside0.mk (Below.refl w.heap.size w)
 have H : ((impl_hasNeeds_1.f k a0 l1_0).bind fun t281 => (some (!t281))) = some r := h
 clear h
 replace H := Option.bind_eq_some_iff.mp H
 obtain ⟨t281, A30, H⟩ := H
 replace H : (some (!t281)) = some r := H
 have A3 := Aside0.mk A30
 clear A30
 obtain rfl := Option.some.inj H
 have hcz5_0 : w.cell? ⟨g1_0, 0, none⟩ = some (.func (.func 136) #[] #[.pointer (some ⟨g1_1, 0, none⟩)]) := (blk_cell BK38.out 0).trans rfl
 have hfz5_0 := blk_frozen BK38.out 0
 go_enter Try.func146, Try.ntmps146
 go_wp2_with (first | ((with_reducible refine gate_via (t := 4) rfl ?_); refine goesV_ (some 6) rfl rfl Try.func136 (by kernel_rfl) rfl #[.int .i64 a0, .pointer (some ⟨g1_1, 0, none⟩)] rfl rfl (by (try simp only [List.map_toArray, List.map_cons, List.map_nil]); first | done | rfl | simp | (simp; rfl)) ?_; (with_reducible refine (impl_hasNeeds_1.calls k a0 g1_1 A1_0 c1_0 l1_0 t281 _ ?side1 ?side2 ?side3 A3.out).mono ?_); (case side1 => repeat (first | exact HR1_0.out | (with_reducible refine Kd.C_alloc ?_ _) | (with_reducible refine Kd.C_drewN ?_ _) | (with_reducible refine Kd.C_drew ?_))); (case side2 => exact HC1_0.out); (case side3 => (with_reducible repeat (first | refine blk_drewN ?_ _ | refine blk_drew ?_ | refine blk_alloc ?_ _)); exact BK39.out); rintro e w6 ⟨rfl, hb⟩; refine ⟨_, rfl, ?_⟩; have n0_ := Aside0.mk (blk_below (g := g1_0) (o := .cells #[.func (.func 136) #[] #[.pointer (some ⟨g1_1, 0, none⟩)]] 90 (0, 0)) (by (with_reducible repeat (first | refine blk_drewN ?_ _ | refine blk_drew ?_ | refine blk_alloc ?_ _)); exact BK38.out) hb); have n1_ := Aside0.mk (blk_below (g := g1_1) (o := .cells #[.slice A1_0 l1_0.length c1_0] 61 (0, 0)) (by (with_reducible repeat (first | refine blk_drewN ?_ _ | refine blk_drew ?_ | refine blk_alloc ?_ _)); exact BK39.out) hb); have n2_ := Aside0.mk (below_step (by repeat (first | (with_reducible first | exact HB.out | apply below_alloc | apply pw_below_drewN | apply below_drew1 | refine below_set ?_ GE38.out | refine below_set ?_ GE39.out) | exact HB.out)) hb); clear BK38; clear BK39; clear HB; have BK38 := n0_; have BK39 := n1_; have HB := n2_; clear n0_ n1_ n2_; (try clear hb); (try clear hb2); (try clear hk); (try clear hi)))
 go_ret
 exact ⟨by first | rfl | (simp [errW_none, errW_some] <;> rfl) | (simp [*, errW_none, errW_some] <;> rfl) | (simp [errW_none, errW_some, show ∀ l_ : List UInt8, (l_ != []) = !l_.isEmpty from fun l_ => by cases l_ <;> rfl]; done), by repeat (first | (with_reducible first | exact HB.out | apply below_alloc | apply pw_below_drewN | apply below_drew1 | refine below_set ?_ GE38.out | refine below_set ?_ GE39.out) | exact HB.out)⟩

/-! ### slices_IndexFunc_int_impl_allOf_int_1_impl_hasNeeds_1: function 188 -/
set_option maxHeartbeats 8000000 in
set_option maxRecDepth 100000 in
theorem slices_IndexFunc_int_impl_allOf_int_1_impl_hasNeeds_1.calls (k : Nat) (A0 : Option Addr) (c0 : Nat) (l0 : List Int) (g1_0 : Nat) (g1_1 : Nat) (A1_0 : Option Addr) (c1_0 : Nat) (l1_0 : List Int) (r : Int) (w : World) (hr0 : Kd.C (Kd.int .i64) w A0 l0.length l0) (hc0 : l0.length ≤ c0) (hr1_0 : Kd.C (Kd.int .i64) w A1_0 l1_0.length l1_0) (hc1_0 : l1_0.length ≤ c1_0) (hb1_0 : w.heap[g1_0]? = some (.cells #[.func (.func 136) #[] #[.pointer (some ⟨g1_1, 0, none⟩)]] 90 (0, 0))) (hb1_1 : w.heap[g1_1]? = some (.cells #[.slice A1_0 l1_0.length c1_0] 61 (0, 0))) (h : slices_IndexFunc_int_impl_allOf_int_1_impl_hasNeeds_1.f k l0 l1_0 = some r) :
 Calls Try.prog 141 #[.slice A0 l0.length c0, .func (.func 146) #[] #[.pointer (some ⟨g1_0, 0, none⟩)]] w fun e w' => e = .returned (.int .i64 r) ∧ Below w.heap.size w w' := by
 have HR0 := Aside0.mk hr0
 have HC0 := Aside0.mk hc0
 clear hr0 hc0
 have HR1_0 := Aside0.mk hr1_0
 have HC1_0 := Aside0.mk hc1_0
 clear hr1_0 hc1_0
 have BK38 := Aside0.mk hb1_0
 clear hb1_0
 have BK39 := Aside0.mk hb1_1
 clear hb1_1
 have HB := Aside0.mk (Below.refl w.heap.size w)
 have H : (slices_IndexFunc_int_impl_allOf_int_1_impl_hasNeeds_1.l0 k l0 (l0.length : Int) 0 l1_0) = some r := h
 clear h
 have H' := Aside0.mk H
 clear H
 go_enter Try.func141, Try.ntmps141
 go_wp2
 go_loopg [8] k (fun kq v8 w' => ∃ (x8_1 : Int), v8 = .int .i64 x8_1 ∧ Aside0 (slices_IndexFunc_int_impl_allOf_int_1_impl_hasNeeds_1.l0 kq l0 (l0.length : Int) x8_1 l1_0 = some r) ∧ Aside0 (kq ≤ k) ∧ Aside0 (w'.heap[g1_0]? = some (.cells #[(.func (.func 136) #[] #[.pointer (some ⟨g1_1, 0, none⟩)])] 90 (0, 0))) ∧ Aside0 (w'.heap[g1_1]? = some (.cells #[(.slice A1_0 l1_0.length c1_0)] 61 (0, 0))) ∧ Aside0 (Below w.heap.size w w'))
 case atStart => exact ⟨(0), (by first | rfl | (simp; done) | (simp [*]; done)), H', ⟨Nat.le_refl _⟩, ⟨by (with_reducible repeat (first | refine blk_drewN ?_ _ | refine blk_drew ?_ | refine blk_alloc ?_ _)); exact BK38.out⟩, ⟨by (with_reducible repeat (first | refine blk_drewN ?_ _ | refine blk_drew ?_ | refine blk_alloc ?_ _)); exact BK39.out⟩, ⟨by repeat (first | (with_reducible first | exact HB.out | apply below_alloc | apply pw_below_drewN | apply below_drew1 | refine below_set ?_ GE38.out | refine below_set ?_ GE39.out) | exact HB.out)⟩⟩
 case round =>
  clear H'
  try clear c1
  try clear p2
  obtain ⟨x8_1, rfl, HA, HK1, BK38, BK39, HB⟩ := hrel
  cases gk with
  | zero => exact absurd HA.out (by simp [slices_IndexFunc_int_impl_allOf_int_1_impl_hasNeeds_1.l0])
  | succ k1 =>
   have H := HA.out
   clear HA
   simp only [slices_IndexFunc_int_impl_allOf_int_1_impl_hasNeeds_1.l0] at H
   by_cases c3 : x8_1 < (l0.length : Int)
   ·rw [if_pos c3] at H
    have c3b0 : decide (x8_1 < (l0.length : Int)) = true := decide_eq_true c3
    clear c3
    by_cases c4 : 0 ≤ x8_1
    ·rw [if_pos c4] at H
     have c4b0 : decide (0 ≤ x8_1) = true := decide_eq_true c4
     clear c4
     by_cases c5 : x8_1 < (l0.length : Int)
     ·rw [if_pos c5] at H
      have c5b0 : decide (x8_1 < (l0.length : Int)) = true := decide_eq_true c5
      clear c5
      replace H := Option.bind_eq_some_iff.mp H
      obtain ⟨t283, A60, H⟩ := H
      replace H : (if t283 = true then (some x8_1) else (slices_IndexFunc_int_impl_allOf_int_1_impl_hasNeeds_1.l0 k1 l0 (l0.length : Int) (wrap64 (x8_1 + 1)) l1_0)) = some r := H
      have A6 := Aside0.mk A60
      clear A60
      by_cases c7 : t283 = true
      ·subst c7
       have H1 : (some x8_1) = some r := by rw [if_pos rfl] at H; exact H
       clear H
       have H := H1
       clear H1
       obtain rfl := Option.some.inj H
       have p282 : 0 ≤ (x8_1 : Int) := of_decide_eq_true (by first | (with_reducible assumption) | assumption)
       have q282 : x8_1 < (l0.length : Int) := of_decide_eq_true (by first | (with_reducible assumption) | assumption)
       obtain ⟨ad282, e282, hx282_0⟩ := Kd.at_int HR0.out x8_1 p282 q282
       cases e282
       replace hx282_0 := (HB.out.cell (World.block_lt_of_cell? w _ hx282_0)).trans hx282_0
       replace p282 := eq_true p282
       replace q282 := eq_true q282
       go_wp2_with (first | ((with_reducible refine gate_via (t := 11) rfl ?_); refine goesV_ (some 16) rfl rfl Try.func146 (by kernel_rfl) rfl #[.int .i64 (rd l0 x8_1), .pointer (some ⟨g1_0, 0, none⟩)] rfl rfl (by (try simp only [List.map_toArray, List.map_cons, List.map_nil]); first | done | rfl | simp | (simp; rfl)) ?_; (with_reducible refine (impl_allOf_int_1_impl_hasNeeds_1.calls k1 (rd l0 x8_1) g1_0 g1_1 A1_0 c1_0 l1_0 true _ ?side1 ?side2 ?side3 ?side4 A6.out).mono ?_); (case side1 => repeat (first | exact (Kd.C_below HR1_0.out HB.out) | (with_reducible refine Kd.C_alloc ?_ _) | (with_reducible refine Kd.C_drewN ?_ _) | (with_reducible refine Kd.C_drew ?_))); (case side2 => exact HC1_0.out); (case side3 => (with_reducible repeat (first | refine blk_drewN ?_ _ | refine blk_drew ?_ | refine blk_alloc ?_ _)); exact BK38.out); (case side4 => (with_reducible repeat (first | refine blk_drewN ?_ _ | refine blk_drew ?_ | refine blk_alloc ?_ _)); exact BK39.out); rintro e w8 ⟨rfl, hb⟩; refine ⟨_, rfl, ?_⟩; have n0_ := Aside0.mk (blk_below (g := g1_0) (o := .cells #[.func (.func 136) #[] #[.pointer (some ⟨g1_1, 0, none⟩)]] 90 (0, 0)) (by (with_reducible repeat (first | refine blk_drewN ?_ _ | refine blk_drew ?_ | refine blk_alloc ?_ _)); exact BK38.out) hb); have n1_ := Aside0.mk (blk_below (g := g1_1) (o := .cells #[.slice A1_0 l1_0.length c1_0] 61 (0, 0)) (by (with_reducible repeat (first | refine blk_drewN ?_ _ | refine blk_drew ?_ | refine blk_alloc ?_ _)); exact BK39.out) hb); have n2_ := Aside0.mk (below_step (by repeat (first | (with_reducible first | exact HB.out | apply below_alloc | apply pw_below_drewN | apply below_drew1 | refine below_set ?_ GE38.out | refine below_set ?_ GE39.out) | exact HB.out)) hb); clear BK38; clear BK39; clear HB; have BK38 := n0_; have BK39 := n1_; have HB := n2_; clear n0_ n1_ n2_; (try clear hb); (try clear hb2); (try clear hk); (try clear hi)))
       go_ret
       exact ⟨by first | rfl | (simp [errW_none, errW_some] <;> rfl) | (simp [*, errW_none, errW_some] <;> rfl) | (simp [errW_none, errW_some, show ∀ l_ : List UInt8, (l_ != []) = !l_.isEmpty from fun l_ => by cases l_ <;> rfl]; done), by repeat (first | (with_reducible first | exact HB.out | apply below_alloc | apply pw_below_drewN | apply below_drew1 | refine below_set ?_ GE38.out | refine below_set ?_ GE39.out) | exact HB.out)⟩
      ·replace c7 := Bool.eq_false_iff.mpr c7
       subst c7
       have H1 : (slices_IndexFunc_int_impl_allOf_int_1_impl_hasNeeds_1.l0 k1 l0 (l0.length : Int) (wrap64 (x8_1 + 1)) l1_0) = some r := by rw [if_neg (show ¬ (false = true) by decide)] at H; exact H
       clear H
       have H := H1
       clear H1
       have H' := Aside0.mk H
       clear H
       have p282 : 0 ≤ (x8_1 : Int) := of_decide_eq_true (by first | (with_reducible assumption) | assumption)
       have q282 : x8_1 < (l0.length : Int) := of_decide_eq_true (by first | (with_reducible assumption) | assumption)
       obtain ⟨ad282, e282, hx282_0⟩ := Kd.at_int HR0.out x8_1 p282 q282
       cases e282
       replace hx282_0 := (HB.out.cell (World.block_lt_of_cell? w _ hx282_0)).trans hx282_0
       replace p282 := eq_true p282
       replace q282 := eq_true q282
       go_wp2_with (first | ((with_reducible refine gate_via (t := 11) rfl ?_); refine goesV_ (some 16) rfl rfl Try.func146 (by kernel_rfl) rfl #[.int .i64 (rd l0 x8_1), .pointer (some ⟨g1_0, 0, none⟩)] rfl rfl (by (try simp only [List.map_toArray, List.map_cons, List.map_nil]); first | done | rfl | simp | (simp; rfl)) ?_; (with_reducible refine (impl_allOf_int_1_impl_hasNeeds_1.calls k1 (rd l0 x8_1) g1_0 g1_1 A1_0 c1_0 l1_0 false _ ?side1 ?side2 ?side3 ?side4 A6.out).mono ?_); (case side1 => repeat (first | exact (Kd.C_below HR1_0.out HB.out) | (with_reducible refine Kd.C_alloc ?_ _) | (with_reducible refine Kd.C_drewN ?_ _) | (with_reducible refine Kd.C_drew ?_))); (case side2 => exact HC1_0.out); (case side3 => (with_reducible repeat (first | refine blk_drewN ?_ _ | refine blk_drew ?_ | refine blk_alloc ?_ _)); exact BK38.out); (case side4 => (with_reducible repeat (first | refine blk_drewN ?_ _ | refine blk_drew ?_ | refine blk_alloc ?_ _)); exact BK39.out); rintro e w9 ⟨rfl, hb⟩; refine ⟨_, rfl, ?_⟩; have n0_ := Aside0.mk (blk_below (g := g1_0) (o := .cells #[.func (.func 136) #[] #[.pointer (some ⟨g1_1, 0, none⟩)]] 90 (0, 0)) (by (with_reducible repeat (first | refine blk_drewN ?_ _ | refine blk_drew ?_ | refine blk_alloc ?_ _)); exact BK38.out) hb); have n1_ := Aside0.mk (blk_below (g := g1_1) (o := .cells #[.slice A1_0 l1_0.length c1_0] 61 (0, 0)) (by (with_reducible repeat (first | refine blk_drewN ?_ _ | refine blk_drew ?_ | refine blk_alloc ?_ _)); exact BK39.out) hb); have n2_ := Aside0.mk (below_step (by repeat (first | (with_reducible first | exact HB.out | apply below_alloc | apply pw_below_drewN | apply below_drew1 | refine below_set ?_ GE38.out | refine below_set ?_ GE39.out) | exact HB.out)) hb); clear BK38; clear BK39; clear HB; have BK38 := n0_; have BK39 := n1_; have HB := n2_; clear n0_ n1_ n2_; (try clear hb); (try clear hb2); (try clear hk); (try clear hi)))
       go_roundg k1
       case measure => have := HK1.out; omega
       case rel => exact ⟨(wrap64 (x8_1 + 1)), (by first | rfl | (simp; done) | (simp [*]; done)), H', ⟨by have := HK1.out; omega⟩, ⟨by (with_reducible repeat (first | refine blk_drewN ?_ _ | refine blk_drew ?_ | refine blk_alloc ?_ _)); exact BK38.out⟩, ⟨by (with_reducible repeat (first | refine blk_drewN ?_ _ | refine blk_drew ?_ | refine blk_alloc ?_ _)); exact BK39.out⟩, ⟨by repeat (first | (with_reducible first | exact HB.out | apply below_alloc | apply pw_below_drewN | apply below_drew1 | refine below_set ?_ GE38.out | refine below_set ?_ GE39.out) | exact HB.out)⟩⟩
     ·rw [if_neg c5] at H
      exact absurd H (by simp)
    ·rw [if_neg c4] at H
     exact absurd H (by simp)
   ·rw [if_neg c3] at H
    have c3b0 : decide (x8_1 < (l0.length : Int)) = false := decide_eq_false c3
    clear c3
    obtain rfl := Option.some.inj H
    go_wp2
    go_ret
    exact ⟨by first | rfl | (simp [errW_none, errW_some] <;> rfl) | (simp [*, errW_none, errW_some] <;> rfl) | (simp [errW_none, errW_some, show ∀ l_ : List UInt8, (l_ != []) = !l_.isEmpty from fun l_ => by cases l_ <;> rfl]; done), by repeat (first | (with_reducible first | exact HB.out | apply below_alloc | apply pw_below_drewN | apply below_drew1 | refine below_set ?_ GE38.out | refine below_set ?_ GE39.out) | exact HB.out)⟩

end Go.Proofs.Ytmlpogmedglncaa.PFnExactFewestLessons
