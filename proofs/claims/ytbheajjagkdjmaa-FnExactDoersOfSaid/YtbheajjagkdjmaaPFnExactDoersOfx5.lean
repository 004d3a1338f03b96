/- Written by a program of this claim's author, out of the loaded program as Lean prints it: the functions as Lean functions, and that the calls answer so. -/
import Derived.Test.YtbheajjagkdjmaaPFnExactDoersOfx0
import Derived.Test.YtbheajjagkdjmaaPFnExactDoersOfx4
import Derived.Test.YtbheajjagkdjmaaPFnExactDoersOfxD0
namespace Go.Proofs.Ytbheajjagkdjmaa.PFnExactDoersOf
open Go.RowKit Go.Proofs.YtbheajjagkdjmaaW.PrintWords Go.Proofs.YtbheajjagkdjmaaW.PrintLast Go.Proofs.YtbheajjagkdjmaaW.PrintMore
attribute [local go_sem] max2_int min2_int max_two min_two max_three min_three max_four min_four isSome_setCell   -- for this text's walks alone
abbrev bactDoersOfx5_13_0 : Array Bool := #[false, false, false, false, false, false, false, false, false, false, false, false, false]
abbrev bactDoersOfx5_13_12e : Array Bool := #[false, true, true, true, false, true, false, false, true, false, false, false, false]
abbrev bactDoersOfx5_13_1fff : Array Bool := #[true, true, true, true, true, true, true, true, true, true, true, true, true]
abbrev bactDoersOfx5_13_2 : Array Bool := #[false, true, false, false, false, false, false, false, false, false, false, false, false]
abbrev bactDoersOfx5_13_2e : Array Bool := #[false, true, true, true, false, true, false, false, false, false, false, false, false]
abbrev bactDoersOfx5_13_32e : Array Bool := #[false, true, true, true, false, true, false, false, true, true, false, false, false]
abbrev bactDoersOfx5_13_6 : Array Bool := #[false, true, true, false, false, false, false, false, false, false, false, false, false]
abbrev bactDoersOfx5_13_72e : Array Bool := #[false, true, true, true, false, true, false, false, true, true, true, false, false]
abbrev bactDoersOfx5_13_72f : Array Bool := #[true, true, true, true, false, true, false, false, true, true, true, false, false]
abbrev bactDoersOfx5_13_73f : Array Bool := #[true, true, true, true, true, true, false, false, true, true, true, false, false]
abbrev bactDoersOfx5_13_76e : Array Bool := #[false, true, true, true, false, true, true, false, true, true, true, false, false]
abbrev bactDoersOfx5_13_76f : Array Bool := #[true, true, true, true, false, true, true, false, true, true, true, false, false]
abbrev bactDoersOfx5_13_77f : Array Bool := #[true, true, true, true, true, true, true, false, true, true, true, false, false]
abbrev bactDoersOfx5_13_7ff : Array Bool := #[true, true, true, true, true, true, true, true, true, true, true, false, false]
abbrev bactDoersOfx5_13_e : Array Bool := #[false, true, true, true, false, false, false, false, false, false, false, false, false]
abbrev bactDoersOfx5_13_fff : Array Bool := #[true, true, true, true, true, true, true, true, true, true, true, true, false]
set_option linter.unusedVariables false
set_option linter.unusedSimpArgs false

/-! ### spec_DoersOf: function 17 -/
def spec_DoersOf.T13 : Bool × List (List Nat × List Nat) := (true, [([], []), ([], []), ([], []), ([1, 2], [1, 2]), ([0, 3], [0, 3]), ([], []), ([5], [5]), ([4, 6, 4], [4, 6]), ([], []), ([], []), ([8, 9], [8, 9]), ([7, 10, 7], [7, 10]), ([11, 11, 0, 1, 2, 3, 4, 5, 6, 7, 8, 9, 10, 11], [1, 8, 11])])
def spec_DoersOf.B13 : List Nat := [0, 0, 0, 6, 15, 0, 32, 127, 0, 0, 768, 2047, 4095]
theorem spec_DoersOf.tab13 : rtab .any (opsOf Try.f17 13) = spec_DoersOf.T13 := by kernel_rfl
theorem spec_DoersOf.bits13 : waitsOk spec_DoersOf.T13.2 spec_DoersOf.B13 = true := by kernel_rfl
set_option maxHeartbeats 8000000 in
set_option maxRecDepth 100000 in
theorem spec_DoersOf.calls (k : Nat) (A0 : Option Addr) (c0 : Nat) (l0 : List (S55)) (A1 : Option Addr) (c1 : Nat) (l1 : List (S78)) (a2 : ByteArray) (r1 : List ByteArray) (r2 : Bool) (w : World) (hr0 : Kd.C k55 w A0 l0.length l0) (hc0 : l0.length ≤ c0) (hr1 : Kd.C k78 w A1 l1.length l1) (hc1 : l1.length ≤ c1) (h : spec_DoersOf.f k l0 l1 a2 = some (r1, r2)) :
 Calls Try.prog 17 #[.slice A0 l0.length c0, .slice A1 l1.length c1, .string a2] w fun e w' => ∃ v0_ : Value, e = .returned (.tuple #[v0_, .bool r2]) ∧ Kd.R Kd.string 9 w' w.heap.size (fun _ => True) v0_ r1 ∧ Below w.heap.size w w' := by
 have hu78 := Try.underlying78
 have HR0 := Aside0.mk hr0
 have HC0 := Aside0.mk hc0
 clear hr0 hc0
 have HR1 := Aside0.mk hr1
 have HC1 := Aside0.mk hc1
 clear hr1 hc1
 have HB := Aside0.mk (Below.refl w.heap.size w)
 have H : ((spec_veGood.f k l0 l1).bind fun t170 => (if t170 = true then ((spec_fsWord.f k a2).bind fun t171 => (spec_DoersOf.j0 k l0 l1 a2 (!t171))) else (spec_DoersOf.j0 k l0 l1 a2 true))) = some (r1, r2) := h
 clear h
 have HC4 := Aside0.mk H
 clear H
 go_enter Try.func17, Try.ntmps17
 go_upto_region 1 with (fail)
 go_cut [23] (fun v23 wc => ∃ (kq : Nat) (x23_3 : Bool), v23 = .bool x23_3 ∧ Aside0 (spec_DoersOf.j0 kq l0 l1 a2 x23_3 = some (r1, r2)) ∧ Aside0 (kq ≤ k) ∧ Aside0 (Below w.heap.size w wc))
 case first =>
  have H := HC4.out
  clear HC4
  replace H := Option.bind_eq_some_iff.mp H
  obtain ⟨t170, A50, H⟩ := H
  replace H : (if t170 = true then ((spec_fsWord.f k a2).bind fun t171 => (spec_DoersOf.j0 k l0 l1 a2 (!t171))) else (spec_DoersOf.j0 k l0 l1 a2 true)) = some (r1, r2) := H
  have A5 := Aside0.mk A50
  clear A50
  by_cases c6 : t170 = true
  ·subst c6
   have H1 : ((spec_fsWord.f k a2).bind fun t171 => (spec_DoersOf.j0 k l0 l1 a2 (!t171))) = some (r1, r2) := by rw [if_pos rfl] at H; exact H
   clear H
   have H := H1
   clear H1
   replace H := Option.bind_eq_some_iff.mp H
   obtain ⟨t171, A70, H⟩ := H
   replace H : (spec_DoersOf.j0 k l0 l1 a2 (!t171)) = some (r1, r2) := H
   have A7 := Aside0.mk A70
   clear A70
   have H' := Aside0.mk H
   clear H
   go_wp2_with (first | ((with_reducible refine gate_callee (f := 58) rfl ?_); refine goesL_ (some 17) rfl rfl Try.func58 (by kernel_rfl) rfl #[.slice A0 l0.length c0, .slice A1 l1.length c1] rfl (by (try simp only [List.map_toArray, List.map_cons, List.map_nil]); first | done | rfl | (simp only [List.length_drop, List.length_take]; rfl)) ?_; (with_reducible refine (spec_veGood.calls k _ _ l0 _ _ l1 true _ ?side1 ?side2 ?side3 ?side4 A5.out).mono ?_); (case side1 => repeat (first | exact (Kd.C_below HR0.out HB.out) | (with_reducible refine Kd.C_alloc ?_ _) | (with_reducible refine Kd.C_drewN ?_ _) | (with_reducible refine Kd.C_drew ?_))); (case side2 => exact HC0.out); (case side3 => repeat (first | exact (Kd.C_below HR1.out HB.out) | (with_reducible refine Kd.C_alloc ?_ _) | (with_reducible refine Kd.C_drewN ?_ _) | (with_reducible refine Kd.C_drew ?_))); (case side4 => exact HC1.out); rintro e w8 ⟨rfl, hb⟩; refine ⟨_, rfl, ?_⟩; have n0_ := Aside0.mk (below_step (by repeat (first | (with_reducible first | exact HB.out | apply below_alloc | apply pw_below_drewN | apply below_drew1) | exact HB.out)) hb); clear HB; have HB := n0_; clear n0_; (try clear hb); (try clear hb2); (try clear hk); (try clear hi)) | (go_at_call 59; (with_reducible refine (spec_fsWord.calls k a2 t171 _ A7.out).mono ?_); rintro e w' ⟨rfl, ⟨nd, rfl⟩⟩))
   go_meet
   case rel => exact ⟨_, (!t171), (by first | rfl | (simp; done) | (simp [*]; done)), H', ⟨by first | omega | exact Nat.le_refl _⟩, ⟨by repeat (first | (with_reducible first | exact HB.out | apply below_alloc | apply pw_below_drewN | apply below_drew1) | exact HB.out)⟩⟩
  ·replace c6 := Bool.eq_false_iff.mpr c6
   subst c6
   have H1 : (spec_DoersOf.j0 k l0 l1 a2 true) = some (r1, r2) := by rw [if_neg (show ¬ (false = true) by decide)] at H; exact H
   clear H
   have H := H1
   clear H1
   have H' := Aside0.mk H
   clear H
   go_wp2_with (first | ((with_reducible refine gate_callee (f := 58) rfl ?_); refine goesL_ (some 17) rfl rfl Try.func58 (by kernel_rfl) rfl #[.slice A0 l0.length c0, .slice A1 l1.length c1] rfl (by (try simp only [List.map_toArray, List.map_cons, List.map_nil]); first | done | rfl | (simp only [List.length_drop, List.length_take]; rfl)) ?_; (with_reducible refine (spec_veGood.calls k _ _ l0 _ _ l1 false _ ?side1 ?side2 ?side3 ?side4 A5.out).mono ?_); (case side1 => repeat (first | exact (Kd.C_below HR0.out HB.out) | (with_reducible refine Kd.C_alloc ?_ _) | (with_reducible refine Kd.C_drewN ?_ _) | (with_reducible refine Kd.C_drew ?_))); (case side2 => exact HC0.out); (case side3 => repeat (first | exact (Kd.C_below HR1.out HB.out) | (with_reducible refine Kd.C_alloc ?_ _) | (with_reducible refine Kd.C_drewN ?_ _) | (with_reducible refine Kd.C_drew ?_))); (case side4 => exact HC1.out); rintro e w9 ⟨rfl, hb⟩; refine ⟨_, rfl, ?_⟩; have n0_ := Aside0.mk (below_step (by repeat (first | (with_reducible first | exact HB.out | apply below_alloc | apply pw_below_drewN | apply below_drew1) | exact HB.out)) hb); clear HB; have HB := n0_; clear n0_; (try clear hb); (try clear hb2); (try clear hk); (try clear hi)))
   go_meet
   case rel => exact ⟨_, (true), (by first | rfl | (simp; done) | (simp [*]; done)), H', ⟨by first | omega | exact Nat.le_refl _⟩, ⟨by repeat (first | (with_reducible first | exact HB.out | apply below_alloc | apply pw_below_drewN | apply below_drew1) | exact HB.out)⟩⟩
 case rest =>
  clear HC4
  try clear c1
  try clear p2
  try clear c5
  try clear c6
  obtain ⟨kq, x23_3, rfl, HA, HJ3, HB⟩ := hcut
  cases kq with
  | zero => exact absurd HA.out (by simp [spec_DoersOf.j0])
  | succ kj3 =>
   have H := HA.out
   clear HA
   simp only [spec_DoersOf.j0] at H
   by_cases c10 : x23_3 = true
   ·subst c10
    have H1 : (some (([] : List ByteArray), false)) = some (r1, r2) := by rw [if_pos rfl] at H; exact H
    clear H
    have H := H1
    clear H1
    simp only [Option.some.injEq, Prod.mk.injEq] at H
    obtain ⟨rfl, rfl⟩ := H
    go_wp2
    go_ret2
    exact ⟨_, by first | rfl | (simp [errW_none, errW_some] <;> rfl) | (simp [*, errW_none, errW_some] <;> rfl) | (simp [errW_none, errW_some, show ∀ l_ : List UInt8, (l_ != []) = !l_.isEmpty from fun l_ => by cases l_ <;> rfl]; done), by first | exact Kd.R_nil _ _ _ _ _ | exact Kd.N_nil _ _ _ _ _ | exact Kd.V_nil _ _ _ _ _ | exact Kd.Q_nil _ _ _ _ _ | exact Kd.S_nil _ _ _ _ _, by repeat (first | (with_reducible first | exact HB.out | apply below_alloc | apply pw_below_drewN | apply below_drew1) | exact HB.out)⟩
   ·replace c10 := Bool.eq_false_iff.mpr c10
    subst c10
    have H1 : (spec_DoersOf.l0 kj3 l0 a2 ([] : List ByteArray) l1 (l1.length : Int) 0) = some (r1, r2) := by rw [if_neg (show ¬ (false = true) by decide)] at H; exact H
    clear H
    have H := H1
    clear H1
    have H' := Aside0.mk H
    clear H
    go_wp2
    go_loopg [8, 26] kj3 (fun kq v8 v26 w' => ∃ (x8_2 : List ByteArray) (x26_2 : Int), v26 = .int .i64 x26_2 ∧ Aside0 (spec_DoersOf.l0 kq l0 a2 x8_2 l1 (l1.length : Int) x26_2 = some (r1, r2)) ∧ Aside0 (kq ≤ kj3) ∧ Aside0 (Kd.R Kd.string 9 w' w.heap.size (fun _ => True) v8 x8_2) ∧ Aside0 (Below w.heap.size w w'))
    case atStart => exact ⟨(([] : List ByteArray)), (0), (by first | rfl | (simp; done) | (simp [*]; done)), H', ⟨Nat.le_refl _⟩, ⟨by first | exact Kd.R_nil _ _ _ _ _ | exact Kd.N_nil _ _ _ _ _ | exact Kd.V_nil _ _ _ _ _ | exact Kd.Q_nil _ _ _ _ _ | exact Kd.S_nil _ _ _ _ _⟩, ⟨by repeat (first | (with_reducible first | exact HB.out | apply below_alloc | apply pw_below_drewN | apply below_drew1) | exact HB.out)⟩⟩
    case round =>
     clear H'
     try clear c1
     try clear p2
     try clear c5
     try clear c6
     try clear c10
     try clear p2
     obtain ⟨x8_2, x26_2, rfl, HA, HK2, HO_8, HB⟩ := hrel
     cases gk with
     | zero => exact absurd HA.out (by simp [spec_DoersOf.l0])
     | succ k2 =>
      have H := HA.out
      clear HA
      simp only [spec_DoersOf.l0] at H
      by_cases c11 : x26_2 < (l1.length : Int)
      ·rw [if_pos c11] at H
       have c11b0 : decide (x26_2 < (l1.length : Int)) = true := decide_eq_true c11
       clear c11
       by_cases c12 : 0 ≤ x26_2
       ·rw [if_pos c12] at H
        have c12b0 : decide (0 ≤ x26_2) = true := decide_eq_true c12
        clear c12
        by_cases c13 : x26_2 < (l1.length : Int)
        ·rw [if_pos c13] at H
         have c13b0 : decide (x26_2 < (l1.length : Int)) = true := decide_eq_true c13
         clear c13
         replace H := Option.bind_eq_some_iff.mp H
         obtain ⟨⟨t174, t175, t176⟩, A140, H⟩ := H
         replace H : (if t176 = true then (spec_DoersOf.j2 k2 l0 a2 x8_2 t174 l1 (l1.length : Int) x26_2 (((rd_T78 l1 x26_2).f0).toList != a2.toList)) else (spec_DoersOf.j2 k2 l0 a2 x8_2 t174 l1 (l1.length : Int) x26_2 true)) = some (r1, r2) := H
         have A14 := Aside0.mk A140
         clear A140
         have HC15 := Aside0.mk H
         clear H
         have p172 : 0 ≤ (x26_2 : Int) := of_decide_eq_true (by first | (with_reducible assumption) | assumption)
         have q172 : x26_2 < (l1.length : Int) := of_decide_eq_true (by first | (with_reducible assumption) | assumption)
         obtain ⟨ad172, e172, hx172_0, hx172_1, hx172_2⟩ := at_T78 HR1.out x26_2 p172 q172
         cases e172
         replace hx172_0 := (HB.out.cell (World.block_lt_of_cell? w _ hx172_0)).trans hx172_0
         replace hx172_1 := (HB.out.cell (World.block_lt_of_cell? w _ hx172_1)).trans hx172_1
         replace hx172_2 := (HB.out.cell (World.block_lt_of_cell? w _ hx172_2)).trans hx172_2
         replace p172 := eq_true p172
         replace q172 := eq_true q172
         go_upto_region 8 with (first | ((with_reducible refine gate_dst (N := 10) rfl ?_); refine box_event ?hg (N := 10) ?hd (cs := #[.string (⟨#[]⟩ : ByteArray), .int .i64 0, .int .i64 0]) (t := 78) ?hr ?_; (case hd => rfl); (case hg => rfl); (case hr => first | (go_simp; done) | (go_simp; rfl)); intro gb173 hg w16 hbox hb; have n0_ := Aside0.mk (Kd.R_below (by (with_reducible repeat (first | apply Kd.R_alloc | apply Kd.R_drewN | apply Kd.R_drew)); exact HO_8.out) hb); have n1_ := Aside0.mk (below_step (by repeat (first | (with_reducible first | exact HB.out | apply below_alloc | apply pw_below_drewN | apply below_drew1) | exact HB.out)) hb); have n2_ := Aside0.mk (hbox); have n3_ := Aside0.mk ((by rw [hg]; exact (below_size (by repeat (first | (with_reducible first | exact HB.out | apply below_alloc | apply pw_below_drewN | apply below_drew1) | exact HB.out))) : w.heap.size ≤ gb173)); have n4_ := Aside0.mk ((by rw [hg]; exact (below_size (by repeat (first | (with_reducible first | exact HB.out | apply below_alloc | apply pw_below_drewN | apply below_drew1) | exact HB.out))) : w.heap.size ≤ gb173)); clear HO_8; clear HB; have HO_8 := n0_; have HB := n1_; have BK173 := n2_; have GW173 := n3_; have GE173 := n4_; clear n0_ n1_ n2_ n3_ n4_; clear hb hbox hg; have hcz17_0 : w16.cell? ⟨gb173, 0, none⟩ = some (.string (⟨#[]⟩ : ByteArray)) := (blk_cell BK173.out 0).trans rfl; have hcz17_1 : w16.cell? ⟨gb173, 1, none⟩ = some (.int .i64 0) := (blk_cell BK173.out 1).trans rfl; have hcz17_2 : w16.cell? ⟨gb173, 2, none⟩ = some (.int .i64 0) := (blk_cell BK173.out 2).trans rfl; have hfz17_0 := blk_frozen BK173.out 0; have hfz17_1 := blk_frozen BK173.out 1; have hfz17_2 := blk_frozen BK173.out 2) | ((with_reducible refine gate_callee (f := 60) rfl ?_); refine goesL_ (some 33) rfl rfl Try.func60 (by kernel_rfl) rfl #[.slice A0 l0.length c0, .agg #[.string ((rd_T78 l1 x26_2).f0), .int .i64 ((rd_T78 l1 x26_2).f1), .int .i64 ((rd_T78 l1 x26_2).f2)]] rfl (by (try simp only [List.map_toArray, List.map_cons, List.map_nil]); first | done | rfl | (simp only [List.length_drop, List.length_take]; rfl)) ?_; (with_reducible refine (spec_veMeans.calls k2 _ _ l0 ((rd_T78 l1 x26_2).f0) ((rd_T78 l1 x26_2).f1) ((rd_T78 l1 x26_2).f2) t174 t175 t176 _ ?side1 ?side2 A14.out).mono ?_); (case side1 => exact Kd.C_below HR0.out (by repeat (first | (with_reducible first | exact HB.out | apply below_alloc | apply pw_below_drewN | apply below_drew1 | refine below_set ?_ GE173.out) | exact HB.out))); (case side2 => exact HC0.out); rintro e w18 ⟨rfl, hb⟩; refine ⟨_, rfl, ?_⟩; have n0_ := Aside0.mk (Kd.R_below (by (with_reducible repeat (first | apply Kd.R_alloc | apply Kd.R_drewN | apply Kd.R_drew)); exact (Kd.R_mono (Kd.R_far (p := ⟨gb173, 2, none⟩) (Kd.R_far (p := ⟨gb173, 1, none⟩) (Kd.R_far (p := ⟨gb173, 0, none⟩) (Kd.R_types HO_8.out BK173.out (by decide)) (fun _ hk => hk.2) (.string ((rd_T78 l1 x26_2).f0))) (fun _ hk => hk.2) (.int .i64 ((rd_T78 l1 x26_2).f1))) (fun _ hk => hk.2) (.int .i64 ((rd_T78 l1 x26_2).f2))) (fun _ h_ => h_.1))) hb); have n1_ := Aside0.mk (blk_below (g := gb173) (o := .cells #[.string ((rd_T78 l1 x26_2).f0), .int .i64 ((rd_T78 l1 x26_2).f1), .int .i64 ((rd_T78 l1 x26_2).f2)] 78 (0, 0)) (by (with_reducible repeat (first | refine blk_drewN ?_ _ | refine blk_drew ?_ | refine blk_alloc ?_ _)); refine blk_put (cs := #[.string ((rd_T78 l1 x26_2).f0), .int .i64 ((rd_T78 l1 x26_2).f1), .int .i64 0]) ?_ 2 _ rfl; (with_reducible repeat (first | refine blk_drewN ?_ _ | refine blk_drew ?_ | refine blk_alloc ?_ _)); refine blk_put (cs := #[.string ((rd_T78 l1 x26_2).f0), .int .i64 0, .int .i64 0]) ?_ 1 _ rfl; (with_reducible repeat (first | refine blk_drewN ?_ _ | refine blk_drew ?_ | refine blk_alloc ?_ _)); refine blk_put (cs := #[.string (⟨#[]⟩ : ByteArray), .int .i64 0, .int .i64 0]) ?_ 0 _ rfl; (with_reducible repeat (first | refine blk_drewN ?_ _ | refine blk_drew ?_ | refine blk_alloc ?_ _)); exact BK173.out) hb); have n2_ := Aside0.mk (below_step (by repeat (first | (with_reducible first | exact HB.out | apply below_alloc | apply pw_below_drewN | apply below_drew1 | refine below_set ?_ GE173.out) | exact HB.out)) hb); clear HO_8; clear BK173; clear HB; have HO_8 := n0_; have BK173 := n1_; have HB := n2_; clear n0_ n1_ n2_; (try clear hb); (try clear hb2); (try clear hk); (try clear hi)))
         (try simp only [Act.put, List.setIfInBounds_toArray, List.set_cons_zero, List.set_cons_succ])
         go_cut [44] (fun v44 wc => ∃ (kq : Nat) (x44_14 : Bool), v44 = .bool x44_14 ∧ Aside0 (spec_DoersOf.j2 kq l0 a2 x8_2 t174 l1 (l1.length : Int) x26_2 x44_14 = some (r1, r2)) ∧ Aside0 (kq ≤ k2) ∧ Aside0 (Kd.R Kd.string 9 wc w.heap.size (fun _ => True) u8 x8_2) ∧ Aside0 (wc.heap[gb173]? = some (.cells #[.string ((rd_T78 l1 x26_2).f0), .int .i64 ((rd_T78 l1 x26_2).f1), .int .i64 ((rd_T78 l1 x26_2).f2)] 78 (0, 0))) ∧ Aside0 (Below w.heap.size w wc))
         case first =>
          have H := HC15.out
          clear HC15
          by_cases c19 : t176 = true
          ·subst c19
           have H1 : (spec_DoersOf.j2 k2 l0 a2 x8_2 t174 l1 (l1.length : Int) x26_2 (((rd_T78 l1 x26_2).f0).toList != a2.toList)) = some (r1, r2) := by rw [if_pos rfl] at H; exact H
           clear H
           have H := H1
           clear H1
           have H' := Aside0.mk H
           clear H
           have hcz20_0 : w18.cell? ⟨gb173, 0, none⟩ = some (.string ((rd_T78 l1 x26_2).f0)) := (blk_cell BK173.out 0).trans rfl
           have hcz20_1 : w18.cell? ⟨gb173, 1, none⟩ = some (.int .i64 ((rd_T78 l1 x26_2).f1)) := (blk_cell BK173.out 1).trans rfl
           have hcz20_2 : w18.cell? ⟨gb173, 2, none⟩ = some (.int .i64 ((rd_T78 l1 x26_2).f2)) := (blk_cell BK173.out 2).trans rfl
           have hfz20_0 := blk_frozen BK173.out 0
           have hfz20_1 := blk_frozen BK173.out 1
           have hfz20_2 := blk_frozen BK173.out 2
           go_wp2
           go_meet
           case rel => exact ⟨_, ((((rd_T78 l1 x26_2).f0).toList != a2.toList)), (by first | rfl | (simp; done) | (simp [*]; done)), H', ⟨by have := HJ3.out; have := HK2.out; first | omega | exact Nat.le_refl _⟩, ⟨by (with_reducible repeat (first | apply Kd.R_alloc | apply Kd.R_drewN | apply Kd.R_drew)); exact HO_8.out⟩, ⟨by (with_reducible repeat (first | refine blk_drewN ?_ _ | refine blk_drew ?_ | refine blk_alloc ?_ _)); exact BK173.out⟩, ⟨by repeat (first | (with_reducible first | exact HB.out | apply below_alloc | apply pw_below_drewN | apply below_drew1 | refine below_set ?_ GE173.out) | exact HB.out)⟩⟩
          ·replace c19 := Bool.eq_false_iff.mpr c19
           subst c19
           have H1 : (spec_DoersOf.j2 k2 l0 a2 x8_2 t174 l1 (l1.length : Int) x26_2 true) = some (r1, r2) := by rw [if_neg (show ¬ (false = true) by decide)] at H; exact H
           clear H
           have H := H1
           clear H1
           have H' := Aside0.mk H
           clear H
           go_wp2
           go_meet
           case rel => exact ⟨_, (true), (by first | rfl | (simp; done) | (simp [*]; done)), H', ⟨by have := HJ3.out; have := HK2.out; first | omega | exact Nat.le_refl _⟩, ⟨by (with_reducible repeat (first | apply Kd.R_alloc | apply Kd.R_drewN | apply Kd.R_drew)); exact HO_8.out⟩, ⟨by (with_reducible repeat (first | refine blk_drewN ?_ _ | refine blk_drew ?_ | refine blk_alloc ?_ _)); exact BK173.out⟩, ⟨by repeat (first | (with_reducible first | exact HB.out | apply below_alloc | apply pw_below_drewN | apply below_drew1 | refine below_set ?_ GE173.out) | exact HB.out)⟩⟩
         case rest =>
          clear HC15
          try clear c1
          try clear p1
          try clear q1
          try clear hx1
          try clear p2
          try clear c5
          try clear c6
          try clear c10
          try clear c11
          try clear c11b0
          try clear c12
          try clear c12b0
          try clear c13
          try clear c13b0
          try clear c17
          try clear p17
          try clear q17
          try clear hx17
          try clear c19
          try clear hcz17_0
          try clear hcz17_1
          try clear hcz17_2
          try clear hcz20_0
          try clear hcz20_1
          try clear hcz20_2
          try clear hfz17_0
          try clear hfz17_1
          try clear hfz17_2
          try clear hfz20_0
          try clear hfz20_1
          try clear hfz20_2
          try clear hx172_0
          try clear hx172_1
          try clear hx172_2
          try clear p172
          try clear p2
          try clear q172
          obtain ⟨kq, x44_14, rfl, HA, HJ14, HO_8, BK173, HB⟩ := hcut
          cases kq with
          | zero => exact absurd HA.out (by simp [spec_DoersOf.j2])
          | succ kj14 =>
           have H := HA.out
           clear HA
           simp only [spec_DoersOf.j2] at H
           by_cases c21 : x44_14 = true
           ·subst c21
            have H1 : (spec_DoersOf.l0 kj14 l0 a2 x8_2 l1 (l1.length : Int) (wrap64 (x26_2 + 1))) = some (r1, r2) := by rw [if_pos rfl] at H; exact H
            clear H
            have H := H1
            clear H1
            have H' := Aside0.mk H
            clear H
            go_wp2
            go_roundg kj14
            case measure => have := HJ3.out; have := HK2.out; have := HJ14.out; omega
            case rel => exact ⟨(x8_2), (wrap64 (x26_2 + 1)), (by first | rfl | (simp; done) | (simp [*]; done)), H', ⟨by have := HJ3.out; have := HK2.out; have := HJ14.out; omega⟩, ⟨by (with_reducible repeat (first | apply Kd.R_alloc | apply Kd.R_drewN | apply Kd.R_drew)); exact HO_8.out⟩, ⟨by repeat (first | (with_reducible first | exact HB.out | apply below_alloc | apply pw_below_drewN | apply below_drew1 | refine below_set ?_ GE173.out) | exact HB.out)⟩⟩
           ·replace c21 := Bool.eq_false_iff.mpr c21
            subst c21
            have H1 : (spec_DoersOf.l1 kj14 l0 a2 x8_2 t174 0 l1 (l1.length : Int) x26_2) = some (r1, r2) := by rw [if_neg (show ¬ (false = true) by decide)] at H; exact H
            clear H
            have H := H1
            clear H1
            have H' := Aside0.mk H
            clear H
            go_wp2
            go_loopg [14] kj14 (fun kq v14 w' => ∃ (x14_4 : Int), v14 = .int .i64 x14_4 ∧ Aside0 (spec_DoersOf.l1 kq l0 a2 x8_2 t174 x14_4 l1 (l1.length : Int) x26_2 = some (r1, r2)) ∧ Aside0 (kq ≤ kj14) ∧ Aside0 (Kd.R Kd.string 9 w' w.heap.size (fun _ => True) u8 x8_2) ∧ Aside0 (w'.heap[gb173]? = some (.cells #[.string ((rd_T78 l1 x26_2).f0), .int .i64 ((rd_T78 l1 x26_2).f1), .int .i64 ((rd_T78 l1 x26_2).f2)] 78 (0, 0))) ∧ Aside0 (Below w.heap.size w w'))
            case atStart => exact ⟨(0), (by first | rfl | (simp; done) | (simp [*]; done)), H', ⟨Nat.le_refl _⟩, ⟨by (with_reducible repeat (first | apply Kd.R_alloc | apply Kd.R_drewN | apply Kd.R_drew)); exact HO_8.out⟩, ⟨by (with_reducible repeat (first | refine blk_drewN ?_ _ | refine blk_drew ?_ | refine blk_alloc ?_ _)); exact BK173.out⟩, ⟨by repeat (first | (with_reducible first | exact HB.out | apply below_alloc | apply pw_below_drewN | apply below_drew1 | refine below_set ?_ GE173.out) | exact HB.out)⟩⟩
            case round =>
             clear H'
             try clear c1
             try clear p1
             try clear q1
             try clear hx1
             try clear c2
             try clear p2
             try clear c5
             try clear c6
             try clear p6
             try clear c10
             try clear c11
             try clear c11b0
             try clear c12
             try clear c12b0
             try clear c13
             try clear c13b0
             try clear c17
             try clear p17
             try clear q17
             try clear hx17
             try clear c19
             try clear c21
             try clear hcz17_0
             try clear hcz17_1
             try clear hcz17_2
             try clear hcz20_0
             try clear hcz20_1
             try clear hcz20_2
             try clear hfz17_0
             try clear hfz17_1
             try clear hfz17_2
             try clear hfz20_0
             try clear hfz20_1
             try clear hfz20_2
             try clear hx172_0
             try clear hx172_1
             try clear hx172_2
             try clear p1
             try clear p17
             try clear p172
             try clear p2
             try clear q1
             try clear q17
             try clear q172
             obtain ⟨x14_4, rfl, HA, HK4, HO_8, BK173, HB⟩ := hrel
             cases gk with
             | zero => exact absurd HA.out (by simp [spec_DoersOf.l1])
             | succ k4 =>
              have H := HA.out
              clear HA
              simp only [spec_DoersOf.l1] at H
              have HC22 := Aside0.mk H
              clear H
              go_upto_region 10 with (fail)
              go_cut [56] (fun v56 wc => ∃ (kq : Nat) (x56_21 : Bool), v56 = .bool x56_21 ∧ Aside0 (spec_DoersOf.j4 kq l0 a2 x8_2 t174 x14_4 l1 (l1.length : Int) x26_2 x56_21 = some (r1, r2)) ∧ Aside0 (kq ≤ k4) ∧ Aside0 (Kd.R Kd.string 9 wc w.heap.size (fun _ => True) u8 x8_2) ∧ Aside0 (wc.heap[gb173]? = some (.cells #[.string ((rd_T78 l1 x26_2).f0), .int .i64 ((rd_T78 l1 x26_2).f1), .int .i64 ((rd_T78 l1 x26_2).f2)] 78 (0, 0))) ∧ Aside0 (Below w.heap.size w wc))
              case first =>
               have H := HC22.out
               clear HC22
               by_cases c23 : x14_4 < (x8_2.length : Int)
               ·rw [if_pos c23] at H
                have c23b0 : decide (x14_4 < (x8_2.length : Int)) = true := decide_eq_true c23
                clear c23
                (first | rw [c23b0] | (simp only [i64_w, i32_w]; rw [c23b0]) | skip)
                by_cases c24 : 0 ≤ x14_4
                ·rw [if_pos c24] at H
                 have c24b0 : decide (0 ≤ x14_4) = true := decide_eq_true c24
                 clear c24
                 have H' := Aside0.mk H
                 clear H
                 obtain ⟨Ao25, co25, eo25⟩ := Kd.R_slice HO_8.out
                 subst eo25
                 have p177 : 0 ≤ (x14_4 : Int) := of_decide_eq_true (by first | (with_reducible assumption) | assumption)
                 have q177 : x14_4 < (x8_2.length : Int) := of_decide_eq_true (by first | (with_reducible assumption) | assumption)
                 obtain ⟨ad177, e177, hx177_0⟩ := Kd.at_string (Kd.R_reads' HO_8.out).2.2 x14_4 p177 q177
                 cases e177
                 replace p177 := eq_true p177
                 replace q177 := eq_true q177
                 go_wp2
                 go_meet
                 case rel => exact ⟨_, ((Op.bytesLess ((rdOf ByteArray.empty x8_2 x14_4).toList) t174.toList)), (by first | rfl | (simp; done) | (simp [*]; done)), H', ⟨by have := HJ3.out; have := HK2.out; have := HJ14.out; have := HK4.out; first | omega | exact Nat.le_refl _⟩, ⟨by (with_reducible repeat (first | apply Kd.R_alloc | apply Kd.R_drewN | apply Kd.R_drew)); exact HO_8.out⟩, ⟨by (with_reducible repeat (first | refine blk_drewN ?_ _ | refine blk_drew ?_ | refine blk_alloc ?_ _)); exact BK173.out⟩, ⟨by repeat (first | (with_reducible first | exact HB.out | apply below_alloc | apply pw_below_drewN | apply below_drew1 | refine below_set ?_ GE173.out) | exact HB.out)⟩⟩
                ·rw [if_neg c24] at H
                 exact absurd H (by simp)
               ·rw [if_neg c23] at H
                have c23b0 : decide (x14_4 < (x8_2.length : Int)) = false := decide_eq_false c23
                clear c23
                (first | rw [c23b0] | (simp only [i64_w, i32_w]; rw [c23b0]) | skip)
                have H' := Aside0.mk H
                clear H
                obtain ⟨Ao26, co26, eo26⟩ := Kd.R_slice HO_8.out
                subst eo26
                go_wp2
                go_meet
                case rel => exact ⟨_, (false), (by first | rfl | (simp; done) | (simp [*]; done)), H', ⟨by have := HJ3.out; have := HK2.out; have := HJ14.out; have := HK4.out; first | omega | exact Nat.le_refl _⟩, ⟨by (with_reducible repeat (first | apply Kd.R_alloc | apply Kd.R_drewN | apply Kd.R_drew)); exact HO_8.out⟩, ⟨by (with_reducible repeat (first | refine blk_drewN ?_ _ | refine blk_drew ?_ | refine blk_alloc ?_ _)); exact BK173.out⟩, ⟨by repeat (first | (with_reducible first | exact HB.out | apply below_alloc | apply pw_below_drewN | apply below_drew1 | refine below_set ?_ GE173.out) | exact HB.out)⟩⟩
              case rest =>
               clear HC22
               try clear c1
               try clear p1
               try clear q1
               try clear hx1
               try clear c2
               try clear p2
               try clear c5
               try clear c6
               try clear p6
               try clear c10
               try clear c11
               try clear c11b0
               try clear c12
               try clear c12b0
               try clear c13
               try clear c13b0
               try clear c17
               try clear p17
               try clear q17
               try clear hx17
               try clear c19
               try clear c21
               try clear c23
               try clear c23b0
               try clear c24
               try clear c24b0
               try clear hcz17_0
               try clear hcz17_1
               try clear hcz17_2
               try clear hcz20_0
               try clear hcz20_1
               try clear hcz20_2
               try clear hfz17_0
               try clear hfz17_1
               try clear hfz17_2
               try clear hfz20_0
               try clear hfz20_1
               try clear hfz20_2
               try clear hx172_0
               try clear hx172_1
               try clear hx172_2
               try clear hx177_0
               try clear p1
               try clear p17
               try clear p172
               try clear p177
               try clear p2
               try clear p6
               try clear q1
               try clear q17
               try clear q172
               try clear q177
               obtain ⟨kq, x56_21, rfl, HA, HJ21, HO_8, BK173, HB⟩ := hcut
               cases kq with
               | zero => exact absurd HA.out (by simp [spec_DoersOf.j4])
               | succ kj21 =>
                have H := HA.out
                clear HA
                simp only [spec_DoersOf.j4] at H
                by_cases c27 : x56_21 = true
                ·subst c27
                 have H1 : (spec_DoersOf.l1 kj21 l0 a2 x8_2 t174 (wrap64 (x14_4 + 1)) l1 (l1.length : Int) x26_2) = some (r1, r2) := by rw [if_pos rfl] at H; exact H
                 clear H
                 have H := H1
                 clear H1
                 have H' := Aside0.mk H
                 clear H
                 go_wp2
                 go_roundg kj21
                 case measure => have := HJ3.out; have := HK2.out; have := HJ14.out; have := HK4.out; have := HJ21.out; omega
                 case rel => exact ⟨(wrap64 (x14_4 + 1)), (by first | rfl | (simp; done) | (simp [*]; done)), H', ⟨by have := HJ3.out; have := HK2.out; have := HJ14.out; have := HK4.out; have := HJ21.out; omega⟩, ⟨by (with_reducible repeat (first | apply Kd.R_alloc | apply Kd.R_drewN | apply Kd.R_drew)); exact HO_8.out⟩, ⟨by (with_reducible repeat (first | refine blk_drewN ?_ _ | refine blk_drew ?_ | refine blk_alloc ?_ _)); exact BK173.out⟩, ⟨by repeat (first | (with_reducible first | exact HB.out | apply below_alloc | apply pw_below_drewN | apply below_drew1 | refine below_set ?_ GE173.out) | exact HB.out)⟩⟩
                ·replace c27 := Bool.eq_false_iff.mpr c27
                 subst c27
                 have H1 : (if x14_4 = (x8_2.length : Int) then (spec_DoersOf.j5 kj21 l0 a2 x8_2 t174 x14_4 l1 (l1.length : Int) x26_2 true) else (if 0 ≤ x14_4 then (if x14_4 < (x8_2.length : Int) then (spec_DoersOf.j5 kj21 l0 a2 x8_2 t174 x14_4 l1 (l1.length : Int) x26_2 ((rdOf ByteArray.empty x8_2 x14_4).toList != t174.toList)) else (none)) else (none))) = some (r1, r2) := by rw [if_neg (show ¬ (false = true) by decide)] at H; exact H
                 clear H
                 have H := H1
                 clear H1
                 have HC28 := Aside0.mk H
                 clear H
                 go_upto_region 12 with (fail)
                 go_cut [70] (fun v70 wc => ∃ (kq : Nat) (x70_27 : Bool), v70 = .bool x70_27 ∧ Aside0 (spec_DoersOf.j5 kq l0 a2 x8_2 t174 x14_4 l1 (l1.length : Int) x26_2 x70_27 = some (r1, r2)) ∧ Aside0 (kq ≤ kj21) ∧ Aside0 (Kd.R Kd.string 9 wc w.heap.size (fun _ => True) u8 x8_2) ∧ Aside0 (wc.heap[gb173]? = some (.cells #[.string ((rd_T78 l1 x26_2).f0), .int .i64 ((rd_T78 l1 x26_2).f1), .int .i64 ((rd_T78 l1 x26_2).f2)] 78 (0, 0))) ∧ Aside0 (Below w.heap.size w wc))
                 case first =>
                  have H := HC28.out
                  clear HC28
                  by_cases c29 : x14_4 = (x8_2.length : Int)
                  ·rw [if_pos c29] at H
                   have c29b0 : (x14_4 == (x8_2.length : Int)) = true := beq_iff_eq.mpr c29
                   have c29b1 : (x14_4 != (x8_2.length : Int)) = false := bne_eq_false_iff_eq.mpr c29
                   clear c29
                   (first | rw [c29b0] | (simp only [i64_w, i32_w]; rw [c29b0]) | skip)
                   have H' := Aside0.mk H
                   clear H
                   obtain ⟨Ao30, co30, eo30⟩ := Kd.R_slice HO_8.out
                   subst eo30
                   go_wp2
                   go_meet
                   case rel => exact ⟨_, (true), (by first | rfl | (simp; done) | (simp [*]; done)), H', ⟨by have := HJ3.out; have := HK2.out; have := HJ14.out; have := HK4.out; have := HJ21.out; first | omega | exact Nat.le_refl _⟩, ⟨by (with_reducible repeat (first | apply Kd.R_alloc | apply Kd.R_drewN | apply Kd.R_drew)); exact HO_8.out⟩, ⟨by (with_reducible repeat (first | refine blk_drewN ?_ _ | refine blk_drew ?_ | refine blk_alloc ?_ _)); exact BK173.out⟩, ⟨by repeat (first | (with_reducible first | exact HB.out | apply below_alloc | apply pw_below_drewN | apply below_drew1 | refine below_set ?_ GE173.out) | exact HB.out)⟩⟩
                  ·rw [if_neg c29] at H
                   have c29b0 : (x14_4 == (x8_2.length : Int)) = false := beq_eq_false_iff_ne.mpr c29
                   have c29b1 : (x14_4 != (x8_2.length : Int)) = true := bne_iff_ne.mpr c29
                   (first | rw [c29b0] | (simp only [i64_w, i32_w]; rw [c29b0]) | skip)
                   by_cases c31 : 0 ≤ x14_4
                   ·rw [if_pos c31] at H
                    have c31b0 : decide (0 ≤ x14_4) = true := decide_eq_true c31
                    clear c31
                    by_cases c32 : x14_4 < (x8_2.length : Int)
                    ·rw [if_pos c32] at H
                     have c32b0 : decide (x14_4 < (x8_2.length : Int)) = true := decide_eq_true c32
                     clear c32
                     have H' := Aside0.mk H
                     clear H
                     obtain ⟨Ao33, co33, eo33⟩ := Kd.R_slice HO_8.out
                     subst eo33
                     have p178 : 0 ≤ (x14_4 : Int) := of_decide_eq_true (by first | (with_reducible assumption) | assumption)
                     have q178 : x14_4 < (x8_2.length : Int) := of_decide_eq_true (by first | (with_reducible assumption) | assumption)
                     obtain ⟨ad178, e178, hx178_0⟩ := Kd.at_string (Kd.R_reads' HO_8.out).2.2 x14_4 p178 q178
                     cases e178
                     replace p178 := eq_true p178
                     replace q178 := eq_true q178
                     go_wp2
                     go_meet
                     case rel => exact ⟨_, (((rdOf ByteArray.empty x8_2 x14_4).toList != t174.toList)), (by first | rfl | (simp; done) | (simp [*]; done)), H', ⟨by have := HJ3.out; have := HK2.out; have := HJ14.out; have := HK4.out; have := HJ21.out; first | omega | exact Nat.le_refl _⟩, ⟨by (with_reducible repeat (first | apply Kd.R_alloc | apply Kd.R_drewN | apply Kd.R_drew)); exact HO_8.out⟩, ⟨by (with_reducible repeat (first | refine blk_drewN ?_ _ | refine blk_drew ?_ | refine blk_alloc ?_ _)); exact BK173.out⟩, ⟨by repeat (first | (with_reducible first | exact HB.out | apply below_alloc | apply pw_below_drewN | apply below_drew1 | refine below_set ?_ GE173.out) | exact HB.out)⟩⟩
                    ·rw [if_neg c32] at H
                     exact absurd H (by simp)
                   ·rw [if_neg c31] at H
                    exact absurd H (by simp)
                 case rest =>
                  clear HC28
                  try clear c1
                  try clear p1
                  try clear q1
                  try clear hx1
                  try clear c2
                  try clear p2
                  try clear c3
                  try clear c5
                  try clear c6
                  try clear p6
                  try clear c10
                  try clear c11
                  try clear c11b0
                  try clear c12
                  try clear c12b0
                  try clear c13
                  try clear c13b0
                  try clear c17
                  try clear p17
                  try clear q17
                  try clear hx17
                  try clear c19
                  try clear c21
                  try clear c23
                  try clear c23b0
                  try clear c24
                  try clear c24b0
                  try clear c27
                  try clear c29
                  try clear c29b0
                  try clear c29b1
                  try clear c31
                  try clear c31b0
                  try clear c32
                  try clear c32b0
                  try clear hcz17_0
                  try clear hcz17_1
                  try clear hcz17_2
                  try clear hcz20_0
                  try clear hcz20_1
                  try clear hcz20_2
                  try clear hfz17_0
                  try clear hfz17_1
                  try clear hfz17_2
                  try clear hfz20_0
                  try clear hfz20_1
                  try clear hfz20_2
                  try clear hx172_0
                  try clear hx172_1
                  try clear hx172_2
                  try clear hx177_0
                  try clear hx178_0
                  try clear p1
                  try clear p17
                  try clear p172
                  try clear p177
                  try clear p178
                  try clear p2
                  try clear p6
                  try clear q1
                  try clear q17
                  try clear q172
                  try clear q177
                  try clear q178
                  obtain ⟨kq, x70_27, rfl, HA, HJ27, HO_8, BK173, HB⟩ := hcut
                  cases kq with
                  | zero => exact absurd HA.out (by simp [spec_DoersOf.j5])
                  | succ kj27 =>
                   have H := HA.out
                   clear HA
                   simp only [spec_DoersOf.j5] at H
                   by_cases c34 : x70_27 = true
                   ·subst c34
                    have H1 : ((some (([] : List ByteArray) : List ByteArray)).bind fun y179 => (if 0 ≤ x14_4 then (if x14_4 ≤ (x8_2.length : Int) then ((some (x8_2.take (x14_4 : Int).toNat : List ByteArray)).bind fun y182 => (if y179.length + y182.length < 8796093022208 then ((some (y179 ++ y182 : List ByteArray)).bind fun y186 => ((some (([t174] : List ByteArray) : List ByteArray)).bind fun y189 => (if y186.length + y189.length < 8796093022208 then ((some (y186 ++ y189 : List ByteArray)).bind fun y192 => ((some (x8_2.drop (x14_4 : Int).toNat : List ByteArray)).bind fun y195 => (if y192.length + y195.length < 8796093022208 then (spec_DoersOf.l0 kj27 l0 a2 (y192 ++ y195) l1 (l1.length : Int) (wrap64 (x26_2 + 1))) else (none)))) else (none)))) else (none))) else (none)) else (none))) = some (r1, r2) := by rw [if_pos rfl] at H; exact H
                    clear H
                    have H := H1
                    clear H1
                    obtain ⟨y179, hy179⟩ : ∃ y_ : List ByteArray, y_ = (([] : List ByteArray)) := ⟨_, rfl⟩
                    replace H : (if 0 ≤ x14_4 then (if x14_4 ≤ (x8_2.length : Int) then ((some (x8_2.take (x14_4 : Int).toNat : List ByteArray)).bind fun y182 => (if y179.length + y182.length < 8796093022208 then ((some (y179 ++ y182 : List ByteArray)).bind fun y186 => ((some (([t174] : List ByteArray) : List ByteArray)).bind fun y189 => (if y186.length + y189.length < 8796093022208 then ((some (y186 ++ y189 : List ByteArray)).bind fun y192 => ((some (x8_2.drop (x14_4 : Int).toNat : List ByteArray)).bind fun y195 => (if y192.length + y195.length < 8796093022208 then (spec_DoersOf.l0 kj27 l0 a2 (y192 ++ y195) l1 (l1.length : Int) (wrap64 (x26_2 + 1))) else (none)))) else (none)))) else (none))) else (none)) else (none)) = some (r1, r2) := by first | (rw [hy179]; with_reducible exact H) | (have H2_ := (Option.bind_some _ _).symm.trans H; rw [hy179]; with_reducible exact H2_) | (have H2_ := (Option.bind_some _ _).symm.trans H; with_reducible exact H2_) | with_reducible exact H | (rw [hy179]; exact H) | exact H
                    have Ny179 := Aside0.mk hy179
                    clear hy179
                    by_cases c35 : 0 ≤ x14_4
                    ·rw [if_pos c35] at H
                     have c35b0 := eq_true c35
                     have c35b1 : decide (0 ≤ x14_4) = true := decide_eq_true c35
                     clear c35
                     by_cases c36 : x14_4 ≤ (x8_2.length : Int)
                     ·rw [if_pos c36] at H
                      have c36b0 := eq_true c36
                      have c36b1 : decide (x14_4 ≤ (x8_2.length : Int)) = true := decide_eq_true c36
                      clear c36
                      obtain ⟨y182, hy182⟩ : ∃ y_ : List ByteArray, y_ = (x8_2.take (x14_4 : Int).toNat) := ⟨_, rfl⟩
                      replace H : (if y179.length + y182.length < 8796093022208 then ((some (y179 ++ y182 : List ByteArray)).bind fun y186 => ((some (([t174] : List ByteArray) : List ByteArray)).bind fun y189 => (if y186.length + y189.length < 8796093022208 then ((some (y186 ++ y189 : List ByteArray)).bind fun y192 => ((some (x8_2.drop (x14_4 : Int).toNat : List ByteArray)).bind fun y195 => (if y192.length + y195.length < 8796093022208 then (spec_DoersOf.l0 kj27 l0 a2 (y192 ++ y195) l1 (l1.length : Int) (wrap64 (x26_2 + 1))) else (none)))) else (none)))) else (none)) = some (r1, r2) := by first | (rw [hy182]; with_reducible exact H) | (have H2_ := (Option.bind_some _ _).symm.trans H; rw [hy182]; with_reducible exact H2_) | (have H2_ := (Option.bind_some _ _).symm.trans H; with_reducible exact H2_) | with_reducible exact H | (rw [hy182]; exact H) | exact H
                      have Ny182 := Aside0.mk hy182
                      clear hy182
                      by_cases c37 : y179.length + y182.length < 8796093022208
                      ·rw [if_pos c37] at H
                       have LMc37 := Aside0.mk c37
                       clear c37
                       obtain ⟨y186, hy186⟩ : ∃ y_ : List ByteArray, y_ = (y179 ++ y182) := ⟨_, rfl⟩
                       replace H : ((some (([t174] : List ByteArray) : List ByteArray)).bind fun y189 => (if y186.length + y189.length < 8796093022208 then ((some (y186 ++ y189 : List ByteArray)).bind fun y192 => ((some (x8_2.drop (x14_4 : Int).toNat : List ByteArray)).bind fun y195 => (if y192.length + y195.length < 8796093022208 then (spec_DoersOf.l0 kj27 l0 a2 (y192 ++ y195) l1 (l1.length : Int) (wrap64 (x26_2 + 1))) else (none)))) else (none))) = some (r1, r2) := by first | (rw [hy186]; with_reducible exact H) | (have H2_ := (Option.bind_some _ _).symm.trans H; rw [hy186]; with_reducible exact H2_) | (have H2_ := (Option.bind_some _ _).symm.trans H; with_reducible exact H2_) | with_reducible exact H | (rw [hy186]; exact H) | exact H
                       have Ny186 := Aside0.mk hy186
                       clear hy186
                       obtain ⟨y189, hy189⟩ : ∃ y_ : List ByteArray, y_ = (([t174] : List ByteArray)) := ⟨_, rfl⟩
                       replace H : (if y186.length + y189.length < 8796093022208 then ((some (y186 ++ y189 : List ByteArray)).bind fun y192 => ((some (x8_2.drop (x14_4 : Int).toNat : List ByteArray)).bind fun y195 => (if y192.length + y195.length < 8796093022208 then (spec_DoersOf.l0 kj27 l0 a2 (y192 ++ y195) l1 (l1.length : Int) (wrap64 (x26_2 + 1))) else (none)))) else (none)) = some (r1, r2) := by first | (rw [hy189]; with_reducible exact H) | (have H2_ := (Option.bind_some _ _).symm.trans H; rw [hy189]; with_reducible exact H2_) | (have H2_ := (Option.bind_some _ _).symm.trans H; with_reducible exact H2_) | with_reducible exact H | (rw [hy189]; exact H) | exact H
                       have Ny189 := Aside0.mk hy189
                       clear hy189
                       by_cases c38 : y186.length + y189.length < 8796093022208
                       ·rw [if_pos c38] at H
                        have LMc38 := Aside0.mk c38
                        clear c38
                        obtain ⟨y192, hy192⟩ : ∃ y_ : List ByteArray, y_ = (y186 ++ y189) := ⟨_, rfl⟩
                        replace H : ((some (x8_2.drop (x14_4 : Int).toNat : List ByteArray)).bind fun y195 => (if y192.length + y195.length < 8796093022208 then (spec_DoersOf.l0 kj27 l0 a2 (y192 ++ y195) l1 (l1.length : Int) (wrap64 (x26_2 + 1))) else (none))) = some (r1, r2) := by first | (rw [hy192]; with_reducible exact H) | (have H2_ := (Option.bind_some _ _).symm.trans H; rw [hy192]; with_reducible exact H2_) | (have H2_ := (Option.bind_some _ _).symm.trans H; with_reducible exact H2_) | with_reducible exact H | (rw [hy192]; exact H) | exact H
                        have Ny192 := Aside0.mk hy192
                        clear hy192
                        have c39b0 := eq_true (of_decide_eq_true (by first | (with_reducible assumption) | assumption) : 0 ≤ x14_4)
                        have c40b0 := eq_true (of_decide_eq_true (by first | (with_reducible assumption) | assumption) : x14_4 ≤ (x8_2.length : Int))
                        obtain ⟨y195, hy195⟩ : ∃ y_ : List ByteArray, y_ = (x8_2.drop (x14_4 : Int).toNat) := ⟨_, rfl⟩
                        replace H : (if y192.length + y195.length < 8796093022208 then (spec_DoersOf.l0 kj27 l0 a2 (y192 ++ y195) l1 (l1.length : Int) (wrap64 (x26_2 + 1))) else (none)) = some (r1, r2) := by first | (rw [hy195]; with_reducible exact H) | (have H2_ := (Option.bind_some _ _).symm.trans H; rw [hy195]; with_reducible exact H2_) | (have H2_ := (Option.bind_some _ _).symm.trans H; with_reducible exact H2_) | with_reducible exact H | (rw [hy195]; exact H) | exact H
                        have Ny195 := Aside0.mk hy195
                        clear hy195
                        by_cases c41 : y192.length + y195.length < 8796093022208
                        ·rw [if_pos c41] at H
                         have LMc41 := Aside0.mk c41
                         clear c41
                         obtain ⟨y199, hy199⟩ : ∃ y_ : List ByteArray, y_ = (y192 ++ y195) := ⟨_, rfl⟩
                         replace H : (spec_DoersOf.l0 kj27 l0 a2 y199 l1 (l1.length : Int) (wrap64 (x26_2 + 1))) = some (r1, r2) := by first | (rw [hy199]; with_reducible exact H) | (have H2_ := (Option.bind_some _ _).symm.trans H; rw [hy199]; with_reducible exact H2_) | (have H2_ := (Option.bind_some _ _).symm.trans H; with_reducible exact H2_) | with_reducible exact H | (rw [hy199]; exact H) | exact H
                         have Ny199 := Aside0.mk hy199
                         clear hy199
                         have H' := Aside0.mk H
                         clear H
                         try go_wp2
                         have n0_ := Aside0.mk (Kd.R_drew HO_8.out)
                         have n1_ := Aside0.mk (blk_drew BK173.out)
                         have n2_ := Aside0.mk (below_drew1 HB.out)
                         clear HO_8
                         clear BK173
                         clear HB
                         have HO_8 := n0_
                         have BK173 := n1_
                         have HB := n2_
                         clear n0_ n1_ n2_
                         obtain ⟨Ao44, co44, eo44⟩ := Kd.R_slice HO_8.out
                         (first | subst eo44 | (injection eo44 with f1_ f2_ f3_; have f4_ := f1_.symm; have f5_ := f3_.symm; clear f1_ f2_ f3_; subst f4_; subst f5_))
                         have q43 : (x14_4 : Int) ≤ ((x8_2.length : Int) : Int) := of_decide_eq_true (by first | (with_reducible assumption) | assumption)
                         obtain ⟨i043, hi043, _, hsz43, _⟩ := info_parts info9
                         have hroom43 : x8_2.length ≤ co44 := (Kd.R_reads' HO_8.out).2.1
                         have hC43 : Kd.C Kd.string _ Ao44 x8_2.length x8_2 := (Kd.R_reads' HO_8.out).2.2
                         have hcut43 := cut_to (P := Try.prog) 35 9 .i64 Try.underlying35 hi043 Ao44 x8_2.length co44 x14_4 (of_decide_eq_true (by first | (with_reducible assumption) | assumption)) q43 hroom43
                         have hr43 := Kd.C_take (m := (x14_4 : Int).toNat) hC43 (by omega)
                         have hy43 : y182.length = (x14_4 : Int).toNat := (by rw [Ny182.out, List.length_take]; omega)
                         rw [← Ny182.out] at hr43
                         rw [← hy43] at hcut43
                         have HR185 := Aside0.mk hr43
                         have HC185 := Aside0.mk (show y182.length ≤ co44 from by omega)
                         clear hr43 hC43 hroom43 hi043 hsz43
                         have KY43 := Aside0.mk hy43
                         clear hy43
                         have KL43 := Aside0.mk (show (x14_4 : Int).toNat ≤ x8_2.length from by omega)
                         replace q43 := eq_true q43
                         have q45 : (x14_4 : Int) ≤ ((x8_2.length : Int) : Int) := of_decide_eq_true (by first | (with_reducible assumption) | assumption)
                         obtain ⟨i045, hi045, _, hsz45, _⟩ := info_parts info9
                         have hroom45 : x8_2.length ≤ co44 := (Kd.R_reads' HO_8.out).2.1
                         have hC45 : Kd.C Kd.string _ Ao44 x8_2.length x8_2 := (Kd.R_reads' HO_8.out).2.2
                         have q045 : (0 : Int) ≤ (x14_4 : Int) := of_decide_eq_true (by first | (with_reducible assumption) | assumption)
                         have hcut45 := cut_from (P := Try.prog) 35 9 .i64 Try.underlying35 hi045 1 hsz45 Ao44 x8_2.length co44 x14_4 q045 q45
                         have hr45 := Kd.C_drop (m := (x14_4 : Int).toNat) (c := co44) hC45 (by omega) hroom45
                         obtain ⟨A45, hA45⟩ : ∃ Ab_, Ab_ = (if co44 = (x14_4 : Int).toNat then Ao44 else (Ao44 : Option Addr).map (·.add ((x14_4 : Int).toNat * 1))) := ⟨_, rfl⟩
                         obtain ⟨c45, hc45⟩ : ∃ cb_, cb_ = co44 - (x14_4 : Int).toNat := ⟨_, rfl⟩
                         have hy45 : y195.length = x8_2.length - (x14_4 : Int).toNat := (by rw [Ny195.out, List.length_drop] <;> omega)
                         rw [show (x8_2).drop (x14_4 : Int).toNat = y195 from Ny195.out.symm] at hr45
                         replace hr45 : Kd.C Kd.string _ A45 y195.length y195 := (by rw [hA45]; exact hr45)
                         rw [← hy45, ← hA45, ← hc45] at hcut45
                         have HR198 := Aside0.mk hr45
                         have HC198 := Aside0.mk (show y195.length ≤ c45 from by rw [hy45, hc45]; exact Nat.sub_le_sub_right hroom45 _)
                         clear hr45 hC45 hroom45 hi045 hsz45 hc45
                         have KY45 := Aside0.mk hy45
                         have KA45 := Aside0.mk hA45
                         clear hy45 hA45
                         have KL45 := Aside0.mk (show (x14_4 : Int).toNat ≤ x8_2.length from by omega)
                         replace q45 := eq_true q45
                         refine start_ (n := 13) (S := fun w' => True) (ds := []) bactDoersOfx5_13_0 (by kernel_rfl) rfl rfl trivial (fun hHeld => ?_); refine with_tabW spec_DoersOf.tab13 spec_DoersOf.bits13 (fun HT_ HW_ => ?_)
                         generalize wc.drew = w42 at HO_8 BK173 HB HR185 HR198 hHeld ⊢
                         refine pure_ (i := 1) (N := some 72) (v := ?_) (a' := ?_) bactDoersOfx5_13_2 rfl rfl (any_of HT_.out (by kernel_rfl)) (fun _ _ _ h => h) (Or.inl ⟨by rfl, ?_⟩) ?_ ?_
                         rotate_left
                         ·intro w'
                          go_simp
                          with_reducible rfl
                         rotate_left
                         ·simp only [Act.put, List.setIfInBounds_toArray, List.set_cons_zero, List.set_cons_succ, i64_w, i32_w]
                          rfl
                         refine pure_ (i := 2) (N := some 73) (v := ?_) (a' := ?_) bactDoersOfx5_13_6 rfl rfl (any_of HT_.out (by kernel_rfl)) (fun _ _ _ h => h) (Or.inl ⟨by rfl, ?_⟩) ?_ ?_
                         rotate_left
                         ·intro w'
                          go_simp
                          with_reducible rfl
                         rotate_left
                         ·simp only [Act.put, List.setIfInBounds_toArray, List.set_cons_zero, List.set_cons_succ, i64_w, i32_w]
                          rfl
                         refine pure_ (i := 3) (N := some 74) (v := ?_) (a' := ?_) bactDoersOfx5_13_e rfl rfl (any_of HT_.out (by kernel_rfl)) (fun _ _ _ h => h) (Or.inl ⟨by rfl, ?_⟩) ?_ ?_
                         rotate_left
                         ·intro w'
                          go_simp
                          with_reducible rfl
                         rotate_left
                         ·simp only [Act.put, List.setIfInBounds_toArray, List.set_cons_zero, List.set_cons_succ, i64_w, i32_w]
                          rfl
                         refine pure_ (i := 5) (N := some 76) (v := ?_) (a' := ?_) bactDoersOfx5_13_2e rfl rfl (any_of HT_.out (by kernel_rfl)) (fun _ _ _ h => h) (Or.inl ⟨by rfl, ?_⟩) ?_ ?_
                         rotate_left
                         ·intro w'
                          go_simp
                          with_reducible rfl
                         rotate_left
                         ·simp only [Act.put, List.setIfInBounds_toArray, List.set_cons_zero, List.set_cons_succ, i64_w, i32_w]
                          rfl
                         refine pure_ (i := 8) (N := some 79) (v := ?_) (a' := ?_) bactDoersOfx5_13_12e rfl rfl (any_of HT_.out (by kernel_rfl)) (fun _ _ _ h => h) (Or.inl ⟨by rfl, ?_⟩) ?_ ?_
                         rotate_left
                         ·intro w'
                          go_simp
                          with_reducible rfl
                         rotate_left
                         ·simp only [Act.put, List.setIfInBounds_toArray, List.set_cons_zero, List.set_cons_succ, i64_w, i32_w]
                          rfl
                         refine pure_ (i := 9) (N := some 80) (v := ?_) (a' := ?_) bactDoersOfx5_13_32e rfl rfl (any_of HT_.out (by kernel_rfl)) (fun _ _ _ h => h) (Or.inl ⟨by rfl, ?_⟩) ?_ ?_
                         rotate_left
                         ·intro w'
                          go_simp
                          with_reducible rfl
                         rotate_left
                         ·simp only [Act.put, List.setIfInBounds_toArray, List.set_cons_zero, List.set_cons_succ, i64_w, i32_w]
                          rfl
                         refine pure_ (i := 10) (N := some 81) (v := ?_) (a' := ?_) bactDoersOfx5_13_72e rfl rfl (any_of HT_.out (by kernel_rfl)) (fun _ _ _ h => h) (Or.inl ⟨by rfl, ?_⟩) ?_ ?_
                         rotate_left
                         ·intro w'
                          go_simp
                          with_reducible rfl
                         rotate_left
                         ·simp only [Act.put, List.setIfInBounds_toArray, List.set_cons_zero, List.set_cons_succ, i64_w, i32_w]
                          rfl
                         refine join_ (σ := Value × Value × Value) 3 bactDoersOfx5_13_77f (fun s_ => [(71, s_.1), (75, s_.2.1), (77, s_.2.2)]) (fun s_ w' => (Kd.R Kd.string 9 w' w.heap.size (fun k_ => some k_ ≠ (s_.2.2 : Value).ownBlock ∧ some k_ ≠ (.slice Ao44 x8_2.length co44 : Value).ownBlock) s_.2.1 y186) ∧ (Kd.R Kd.string 9 w' w.heap.size (fun k_ => some k_ ≠ (s_.2.1 : Value).ownBlock ∧ some k_ ≠ (.slice Ao44 x8_2.length co44 : Value).ownBlock) s_.2.2 y189) ∧ (Kd.R Kd.string 9 w' w.heap.size (fun k_ => some k_ ≠ (s_.2.1 : Value).ownBlock ∧ some k_ ≠ (s_.2.2 : Value).ownBlock) (.slice Ao44 x8_2.length co44) x8_2) ∧ (w'.heap[gb173]? = some (.cells #[.string ((rd_T78 l1 x26_2).f0), .int .i64 ((rd_T78 l1 x26_2).f1), .int .i64 ((rd_T78 l1 x26_2).f2)] 78 (0, 0))) ∧ (Below w.heap.size w w') ∧ (Kd.C Kd.string w' Ao44 y182.length y182) ∧ (Kd.C Kd.string w' A45 y195.length y195)) ?_ ?_
                         rotate_left
                         ·intro hCont
                          refine two_ (i := 0) (j := 6) (Ni := some 71) (Nj := some 77) bactDoersOfx5_13_72f bactDoersOfx5_13_76e rfl rfl rfl rfl (two_of HT_.out (by kernel_rfl)) (by decide) (by decide) (fun K hK => ?_) (fun K hK => ?_)
                          ·skip
                           refine Kd.R_lit_step Kd.string _ 9 ?hg (N := 71) ?hd (xs := ([] : List ByteArray)) (inner := []) (ok := fun _ => True) (okp := fun _ => True) ?hr ?hp (fun _ hk => hk) trivial (Below.refl _ _) (Nat.le_refl _) (by simp) ?_; (case hd => rfl); (case hg => rfl); (case hr => first | (go_simp; done) | (go_simp; rfl)); (case hp => exact (Reps.none _ _))
                           intro v180 w46 ho47 hb hg_ hnew_
                           clear hg_ hnew_
                           (first | rw [← Ny179.out] at ho47 | (simp only [Int.reduceToNat] at ho47; rw [← Ny179.out] at ho47))
                           have n0_ := Aside0.mk (Kd.R_elder' (by (with_reducible repeat (first | apply Kd.R_alloc | apply Kd.R_drewN | apply Kd.R_drew)); exact HO_8.out) (Kd.R_base ho47) hb)
                           have n1_ := Aside0.mk (Kd.R_lower (Kd.R_new' ho47 (Kd.R_lt (by (with_reducible repeat (first | apply Kd.R_alloc | apply Kd.R_drewN | apply Kd.R_drew)); exact HO_8.out))) (below_size (by repeat (first | (with_reducible first | exact HB.out | apply below_alloc | apply pw_below_drewN | apply below_drew1 | refine below_set ?_ GE173.out) | exact HB.out))))
                           have n2_ := Aside0.mk (blk_below (g := gb173) (o := .cells #[.string ((rd_T78 l1 x26_2).f0), .int .i64 ((rd_T78 l1 x26_2).f1), .int .i64 ((rd_T78 l1 x26_2).f2)] 78 (0, 0)) (by (with_reducible repeat (first | refine blk_drewN ?_ _ | refine blk_drew ?_ | refine blk_alloc ?_ _)); exact BK173.out) hb)
                           have n3_ := Aside0.mk (Kd.C_below (by repeat (first | (with_reducible exact HR185.out) | (with_reducible refine Kd.C_alloc ?_ _) | (with_reducible refine Kd.C_drewN ?_ _) | (with_reducible refine Kd.C_drew ?_) | exact HR185.out)) hb)
                           have n4_ := Aside0.mk (Kd.C_below (by repeat (first | (with_reducible exact HR198.out) | (with_reducible refine Kd.C_alloc ?_ _) | (with_reducible refine Kd.C_drewN ?_ _) | (with_reducible refine Kd.C_drew ?_) | exact HR198.out)) hb)
                           have n5_ := Aside0.mk (below_step (by repeat (first | (with_reducible first | exact HB.out | apply below_alloc | apply pw_below_drewN | apply below_drew1 | refine below_set ?_ GE173.out) | exact HB.out)) hb)
                           clear HO_8
                           clear BK173
                           clear HR185
                           clear HR198
                           clear HB
                           have HO_8 := n0_
                           have HO181 := n1_
                           have BK173 := n2_
                           have HR185 := n3_
                           have HR198 := n4_
                           have HB := n5_
                           clear n0_ n1_ n2_ n3_ n4_ n5_
                           clear hb ho47
                           refine hK.out _ _ trivial (fun hHeld => ?_)
                           clear hK K
                           refine norm_ (a' := ?_) ?_ ?_
                           rotate_left
                           ·show Act.put _ (some 71) _ = _
                            simp only [Act.put, List.setIfInBounds_toArray, List.set_cons_zero, List.set_cons_succ, i64_w, i32_w]
                            rfl
                           refine two_ (i := 4) (j := 6) (Ni := some 75) (Nj := some 77) bactDoersOfx5_13_73f bactDoersOfx5_13_76f rfl rfl rfl rfl (two_of HT_.out (by kernel_rfl)) (by decide) (by decide) (fun K hK => ?_) (fun K hK => ?_)
                           ·skip
                            refine Kd.R_append_rows_step Kd.string (w0 := w) w.heap.size (by rfl) (.tmp 71) (.tmp 74) 35 9 (.string ⟨#[]⟩) 16 rfl Try.underlying35 info9 rfl (by decide) (by omega) v180 y179 y182 _ _ _ (fun k_ => some k_ ≠ (.slice Ao44 x8_2.length co44 : Value).ownBlock) (fun _ => False) rfl rfl ?aO ?aR (fun _ _ h => h) (fun _ h => h.elim) ?aF ?aB ?aS ?aL ?_
                            (case aR => repeat (first | exact (by repeat (first | (with_reducible exact HR185.out) | (with_reducible refine Kd.C_alloc ?_ _) | (with_reducible refine Kd.C_drewN ?_ _) | (with_reducible refine Kd.C_drew ?_) | exact HR185.out)) | (with_reducible refine Kd.C_alloc ?_ _) | (with_reducible refine Kd.C_drewN ?_ _) | (with_reducible refine Kd.C_drew ?_)))
                            (case aB => exact (by repeat (first | (with_reducible first | exact HB.out | apply below_alloc | apply pw_below_drewN | apply below_drew1 | refine below_set ?_ GE173.out) | exact HB.out)))
                            (case aF => exact (fun k_ hk => Kd.fresh' (Kd.R_lt (by (with_reducible repeat (first | apply Kd.R_alloc | apply Kd.R_drewN | apply Kd.R_drew)); exact HO_8.out)) k_ hk))
                            (case aO => exact (by (with_reducible repeat (first | apply Kd.R_alloc | apply Kd.R_drewN | apply Kd.R_drew)); exact Kd.R_mono HO181.out (fun _ hk => hk.2)))
                            (case aS => exact (below_size (by repeat (first | (with_reducible first | exact HB.out | apply below_alloc | apply pw_below_drewN | apply below_drew1 | refine below_set ?_ GE173.out) | exact HB.out))))
                            (case aL => have := LMc37.out; omega)
                            intro v187 w48 ho hb hg hat
                            rw [← Ny186.out] at ho
                            have n0_ := Aside0.mk (Kd.R_after (ok := (fun _ => True)) (by (with_reducible repeat (first | apply Kd.R_alloc | apply Kd.R_drewN | apply Kd.R_drew)); exact HO_8.out) hg hat)
                            have n1_ := Aside0.mk (blk_grown (g := gb173) (o := .cells #[.string ((rd_T78 l1 x26_2).f0), .int .i64 ((rd_T78 l1 x26_2).f1), .int .i64 ((rd_T78 l1 x26_2).f2)] 78 (0, 0)) (by (with_reducible repeat (first | refine blk_drewN ?_ _ | refine blk_drew ?_ | refine blk_alloc ?_ _)); exact BK173.out) hg (Kd.R_ne HO181.out BK173.out (by decide)))
                            have n2_ := Aside0.mk (hb)
                            have n3_ := Aside0.mk ((show Kd.C Kd.string w48 Ao44 y182.length y182 from by rw [Ny182.out]; exact Kd.C_take (m := (x14_4 : Int).toNat) ((Kd.R_reads' (Kd.R_after (ok := (fun _ => True)) (by (with_reducible repeat (first | apply Kd.R_alloc | apply Kd.R_drewN | apply Kd.R_drew)); exact HO_8.out) hg hat)).2.2) KL43.out))
                            have n4_ := Aside0.mk ((show Kd.C Kd.string w48 A45 y195.length y195 from by rw [Ny195.out, KA45.out]; exact Kd.C_drop (m := (x14_4 : Int).toNat) (c := co44) ((Kd.R_reads' (Kd.R_after (ok := (fun _ => True)) (by (with_reducible repeat (first | apply Kd.R_alloc | apply Kd.R_drewN | apply Kd.R_drew)); exact HO_8.out) hg hat)).2.2) KL45.out ((Kd.R_reads' (Kd.R_after (ok := (fun _ => True)) (by (with_reducible repeat (first | apply Kd.R_alloc | apply Kd.R_drewN | apply Kd.R_drew)); exact HO_8.out) hg hat)).2.1)))
                            have n5_ := Aside0.mk (ho)
                            clear HO_8
                            clear BK173
                            clear HB
                            clear HR185
                            clear HR198
                            clear HO181
                            have HO_8 := n0_
                            have BK173 := n1_
                            have HB := n2_
                            have HR185 := n3_
                            have HR198 := n4_
                            have HO188 := n5_
                            clear n0_ n1_ n2_ n3_ n4_ n5_
                            clear ho hb hg hat
                            refine hK.out _ _ trivial (fun hHeld => ?_)
                            clear hK K
                            refine norm_ (a' := ?_) ?_ ?_
                            rotate_left
                            ·show Act.put _ (some 75) _ = _
                             simp only [Act.put, List.setIfInBounds_toArray, List.set_cons_zero, List.set_cons_succ, i64_w, i32_w]
                             rfl
                            refine one_ (i := 6) (N := some 77) bactDoersOfx5_13_77f rfl rfl (one_of HT_.out (by kernel_rfl)) (by decide) (fun K hK => ?_)
                            refine Kd.R_lit_step Kd.string _ 9 ?hg (N := 77) ?hd (xs := ([t174] : List ByteArray)) (inner := [.string t174]) (ok := fun _ => True) (okp := fun _ => True) ?hr ?hp (fun _ hk => hk) trivial (Below.refl _ _) (Nat.le_refl _) (by simp) ?_; (case hd => rfl); (case hg => rfl); (case hr => first | (go_simp; done) | (go_simp; rfl)); (case hp => exact (Reps.one (show Kd.M Kd.string _ _ _ t174 [.string t174] from rfl) (Reps.none _ _)))
                            intro v190 w49 ho50 hb hg_ hnew_
                            clear hg_ hnew_
                            (first | rw [← Ny189.out] at ho50 | (simp only [Int.reduceToNat] at ho50; rw [← Ny189.out] at ho50))
                            have n0_ := Aside0.mk (Kd.R_elder' (by (with_reducible repeat (first | apply Kd.R_alloc | apply Kd.R_drewN | apply Kd.R_drew)); exact HO_8.out) (Kd.R_base ho50) hb)
                            have n1_ := Aside0.mk (Kd.R_elder' (by (with_reducible repeat (first | apply Kd.R_alloc | apply Kd.R_drewN | apply Kd.R_drew)); exact HO188.out) (Kd.R_base ho50) hb)
                            have n2_ := Aside0.mk (Kd.R_lower (Kd.R_new' (Kd.R_new' ho50 (Kd.R_lt (by (with_reducible repeat (first | apply Kd.R_alloc | apply Kd.R_drewN | apply Kd.R_drew)); exact HO_8.out))) (Kd.R_lt (by (with_reducible repeat (first | apply Kd.R_alloc | apply Kd.R_drewN | apply Kd.R_drew)); exact HO188.out))) (below_size (by repeat (first | (with_reducible first | exact HB.out | apply below_alloc | apply pw_below_drewN | apply below_drew1 | refine below_set ?_ GE173.out) | exact HB.out))))
                            have n3_ := Aside0.mk (blk_below (g := gb173) (o := .cells #[.string ((rd_T78 l1 x26_2).f0), .int .i64 ((rd_T78 l1 x26_2).f1), .int .i64 ((rd_T78 l1 x26_2).f2)] 78 (0, 0)) (by (with_reducible repeat (first | refine blk_drewN ?_ _ | refine blk_drew ?_ | refine blk_alloc ?_ _)); exact BK173.out) hb)
                            have n4_ := Aside0.mk (Kd.C_below (by repeat (first | (with_reducible exact HR185.out) | (with_reducible refine Kd.C_alloc ?_ _) | (with_reducible refine Kd.C_drewN ?_ _) | (with_reducible refine Kd.C_drew ?_) | exact HR185.out)) hb)
                            have n5_ := Aside0.mk (Kd.C_below (by repeat (first | (with_reducible exact HR198.out) | (with_reducible refine Kd.C_alloc ?_ _) | (with_reducible refine Kd.C_drewN ?_ _) | (with_reducible refine Kd.C_drew ?_) | exact HR198.out)) hb)
                            have n6_ := Aside0.mk (below_step (by repeat (first | (with_reducible first | exact HB.out | apply below_alloc | apply pw_below_drewN | apply below_drew1 | refine below_set ?_ GE173.out) | exact HB.out)) hb)
                            clear HO_8
                            clear HO188
                            clear BK173
                            clear HR185
                            clear HR198
                            clear HB
                            have HO_8 := n0_
                            have HO188 := n1_
                            have HO191 := n2_
                            have BK173 := n3_
                            have HR185 := n4_
                            have HR198 := n5_
                            have HB := n6_
                            clear n0_ n1_ n2_ n3_ n4_ n5_ n6_
                            clear hb ho50
                            refine hK.out _ _ trivial (fun hHeld => ?_)
                            clear hK K
                            refine norm_ (a' := ?_) ?_ ?_
                            rotate_left
                            ·show Act.put _ (some 77) _ = _
                             simp only [Act.put, List.setIfInBounds_toArray, List.set_cons_zero, List.set_cons_succ, i64_w, i32_w]
                             rfl
                            exact norm_ (by simp only [putAll, Act.put, List.setIfInBounds_toArray, List.set_cons_zero, List.set_cons_succ]) (hCont (v180, v187, v190) _ ⟨(by (with_reducible repeat (first | apply Kd.R_alloc | apply Kd.R_drewN | apply Kd.R_drew)); exact Kd.R_mono HO188.out (fun _ hk => ⟨hk.2, hk.1⟩)), (by (with_reducible repeat (first | apply Kd.R_alloc | apply Kd.R_drewN | apply Kd.R_drew)); exact Kd.R_mono HO191.out (fun _ hk => ⟨hk.2, hk.1.2⟩)), (by (with_reducible repeat (first | apply Kd.R_alloc | apply Kd.R_drewN | apply Kd.R_drew)); exact Kd.R_mono HO_8.out (fun _ hk => ⟨hk.1.2, hk.2⟩)), (by (with_reducible repeat (first | refine blk_drewN ?_ _ | refine blk_drew ?_ | refine blk_alloc ?_ _)); exact BK173.out), (by repeat (first | (with_reducible first | exact HB.out | apply below_alloc | apply pw_below_drewN | apply below_drew1 | refine below_set ?_ GE173.out) | exact HB.out)), (by repeat (first | (with_reducible exact HR185.out) | (with_reducible refine Kd.C_alloc ?_ _) | (with_reducible refine Kd.C_drewN ?_ _) | (with_reducible refine Kd.C_drew ?_) | exact HR185.out)), (by repeat (first | (with_reducible exact HR198.out) | (with_reducible refine Kd.C_alloc ?_ _) | (with_reducible refine Kd.C_drewN ?_ _) | (with_reducible refine Kd.C_drew ?_) | exact HR198.out))⟩)
                           ·skip
                            refine Kd.R_lit_step Kd.string _ 9 ?hg (N := 77) ?hd (xs := ([t174] : List ByteArray)) (inner := [.string t174]) (ok := fun _ => True) (okp := fun _ => True) ?hr ?hp (fun _ hk => hk) trivial (Below.refl _ _) (Nat.le_refl _) (by simp) ?_; (case hd => rfl); (case hg => rfl); (case hr => first | (go_simp; done) | (go_simp; rfl)); (case hp => exact (Reps.one (show Kd.M Kd.string _ _ _ t174 [.string t174] from rfl) (Reps.none _ _)))
                            intro v190 w48 ho49 hb hg_ hnew_
                            clear hg_ hnew_
                            (first | rw [← Ny189.out] at ho49 | (simp only [Int.reduceToNat] at ho49; rw [← Ny189.out] at ho49))
                            have n0_ := Aside0.mk (Kd.R_elder' (by (with_reducible repeat (first | apply Kd.R_alloc | apply Kd.R_drewN | apply Kd.R_drew)); exact HO_8.out) (Kd.R_base ho49) hb)
                            have n1_ := Aside0.mk (Kd.R_elder' (by (with_reducible repeat (first | apply Kd.R_alloc | apply Kd.R_drewN | apply Kd.R_drew)); exact HO181.out) (Kd.R_base ho49) hb)
                            have n2_ := Aside0.mk (Kd.R_lower (Kd.R_new' (Kd.R_new' ho49 (Kd.R_lt (by (with_reducible repeat (first | apply Kd.R_alloc | apply Kd.R_drewN | apply Kd.R_drew)); exact HO_8.out))) (Kd.R_lt (by (with_reducible repeat (first | apply Kd.R_alloc | apply Kd.R_drewN | apply Kd.R_drew)); exact HO181.out))) (below_size (by repeat (first | (with_reducible first | exact HB.out | apply below_alloc | apply pw_below_drewN | apply below_drew1 | refine below_set ?_ GE173.out) | exact HB.out))))
                            have n3_ := Aside0.mk (blk_below (g := gb173) (o := .cells #[.string ((rd_T78 l1 x26_2).f0), .int .i64 ((rd_T78 l1 x26_2).f1), .int .i64 ((rd_T78 l1 x26_2).f2)] 78 (0, 0)) (by (with_reducible repeat (first | refine blk_drewN ?_ _ | refine blk_drew ?_ | refine blk_alloc ?_ _)); exact BK173.out) hb)
                            have n4_ := Aside0.mk (Kd.C_below (by repeat (first | (with_reducible exact HR185.out) | (with_reducible refine Kd.C_alloc ?_ _) | (with_reducible refine Kd.C_drewN ?_ _) | (with_reducible refine Kd.C_drew ?_) | exact HR185.out)) hb)
                            have n5_ := Aside0.mk (Kd.C_below (by repeat (first | (with_reducible exact HR198.out) | (with_reducible refine Kd.C_alloc ?_ _) | (with_reducible refine Kd.C_drewN ?_ _) | (with_reducible refine Kd.C_drew ?_) | exact HR198.out)) hb)
                            have n6_ := Aside0.mk (below_step (by repeat (first | (with_reducible first | exact HB.out | apply below_alloc | apply pw_below_drewN | apply below_drew1 | refine below_set ?_ GE173.out) | exact HB.out)) hb)
                            clear HO_8
                            clear HO181
                            clear BK173
                            clear HR185
                            clear HR198
                            clear HB
                            have HO_8 := n0_
                            have HO181 := n1_
                            have HO191 := n2_
                            have BK173 := n3_
                            have HR185 := n4_
                            have HR198 := n5_
                            have HB := n6_
                            clear n0_ n1_ n2_ n3_ n4_ n5_ n6_
                            clear hb ho49
                            refine hK.out _ _ trivial (fun hHeld => ?_)
                            clear hK K
                            refine norm_ (a' := ?_) ?_ ?_
                            rotate_left
                            ·show Act.put _ (some 77) _ = _
                             simp only [Act.put, List.setIfInBounds_toArray, List.set_cons_zero, List.set_cons_succ, i64_w, i32_w]
                             rfl
                            refine one_ (i := 4) (N := some 75) bactDoersOfx5_13_77f rfl rfl (one_of HT_.out (by kernel_rfl)) (by decide) (fun K hK => ?_)
                            refine Kd.R_append_rows_step Kd.string (w0 := w) w.heap.size (by rfl) (.tmp 71) (.tmp 74) 35 9 (.string ⟨#[]⟩) 16 rfl Try.underlying35 info9 rfl (by decide) (by omega) v180 y179 y182 _ _ _ (fun k_ => some k_ ≠ (.slice Ao44 x8_2.length co44 : Value).ownBlock ∧ some k_ ≠ (v190 : Value).ownBlock) (fun _ => False) rfl rfl ?aO ?aR (fun _ _ h => h) (fun _ h => h.elim) ?aF ?aB ?aS ?aL ?_
                            (case aR => repeat (first | exact (by repeat (first | (with_reducible exact HR185.out) | (with_reducible refine Kd.C_alloc ?_ _) | (with_reducible refine Kd.C_drewN ?_ _) | (with_reducible refine Kd.C_drew ?_) | exact HR185.out)) | (with_reducible refine Kd.C_alloc ?_ _) | (with_reducible refine Kd.C_drewN ?_ _) | (with_reducible refine Kd.C_drew ?_)))
                            (case aB => exact (by repeat (first | (with_reducible first | exact HB.out | apply below_alloc | apply pw_below_drewN | apply below_drew1 | refine below_set ?_ GE173.out) | exact HB.out)))
                            (case aF => exact (fun k_ hk => ⟨Kd.fresh' (Kd.R_lt (by (with_reducible repeat (first | apply Kd.R_alloc | apply Kd.R_drewN | apply Kd.R_drew)); exact HO_8.out)) k_ hk, Kd.fresh' (Kd.R_lt (by (with_reducible repeat (first | apply Kd.R_alloc | apply Kd.R_drewN | apply Kd.R_drew)); exact HO191.out)) k_ hk⟩))
                            (case aO => exact (by (with_reducible repeat (first | apply Kd.R_alloc | apply Kd.R_drewN | apply Kd.R_drew)); exact Kd.R_mono HO181.out (fun _ hk => ⟨hk.1.2, hk.2⟩)))
                            (case aS => exact (below_size (by repeat (first | (with_reducible first | exact HB.out | apply below_alloc | apply pw_below_drewN | apply below_drew1 | refine below_set ?_ GE173.out) | exact HB.out))))
                            (case aL => have := LMc37.out; omega)
                            intro v187 w50 ho hb hg hat
                            rw [← Ny186.out] at ho
                            have n0_ := Aside0.mk (Kd.R_after (ok := (fun k_ => some k_ ≠ (v190 : Value).ownBlock)) (by (with_reducible repeat (first | apply Kd.R_alloc | apply Kd.R_drewN | apply Kd.R_drew)); exact Kd.R_mono HO_8.out (fun _ hk => ⟨hk.2, hk.1.2⟩)) hg hat)
                            have n1_ := Aside0.mk (blk_grown (g := gb173) (o := .cells #[.string ((rd_T78 l1 x26_2).f0), .int .i64 ((rd_T78 l1 x26_2).f1), .int .i64 ((rd_T78 l1 x26_2).f2)] 78 (0, 0)) (by (with_reducible repeat (first | refine blk_drewN ?_ _ | refine blk_drew ?_ | refine blk_alloc ?_ _)); exact BK173.out) hg (Kd.R_ne HO181.out BK173.out (by decide)))
                            have n2_ := Aside0.mk (Kd.R_after (ok := (fun k_ => some k_ ≠ (.slice Ao44 x8_2.length co44 : Value).ownBlock)) (by (with_reducible repeat (first | apply Kd.R_alloc | apply Kd.R_drewN | apply Kd.R_drew)); exact Kd.R_mono HO191.out (fun _ hk => ⟨hk.1.2, hk.2⟩)) hg hat)
                            have n3_ := Aside0.mk (hb)
                            have n4_ := Aside0.mk ((show Kd.C Kd.string w50 Ao44 y182.length y182 from by rw [Ny182.out]; exact Kd.C_take (m := (x14_4 : Int).toNat) ((Kd.R_reads' (Kd.R_after (ok := (fun k_ => some k_ ≠ (v190 : Value).ownBlock)) (by (with_reducible repeat (first | apply Kd.R_alloc | apply Kd.R_drewN | apply Kd.R_drew)); exact Kd.R_mono HO_8.out (fun _ hk => ⟨hk.2, hk.1.2⟩)) hg hat)).2.2) KL43.out))
                            have n5_ := Aside0.mk ((show Kd.C Kd.string w50 A45 y195.length y195 from by rw [Ny195.out, KA45.out]; exact Kd.C_drop (m := (x14_4 : Int).toNat) (c := co44) ((Kd.R_reads' (Kd.R_after (ok := (fun k_ => some k_ ≠ (v190 : Value).ownBlock)) (by (with_reducible repeat (first | apply Kd.R_alloc | apply Kd.R_drewN | apply Kd.R_drew)); exact Kd.R_mono HO_8.out (fun _ hk => ⟨hk.2, hk.1.2⟩)) hg hat)).2.2) KL45.out ((Kd.R_reads' (Kd.R_after (ok := (fun k_ => some k_ ≠ (v190 : Value).ownBlock)) (by (with_reducible repeat (first | apply Kd.R_alloc | apply Kd.R_drewN | apply Kd.R_drew)); exact Kd.R_mono HO_8.out (fun _ hk => ⟨hk.2, hk.1.2⟩)) hg hat)).2.1)))
                            have n6_ := Aside0.mk (ho)
                            clear HO_8
                            clear BK173
                            clear HO191
                            clear HB
                            clear HR185
                            clear HR198
                            clear HO181
                            have HO_8 := n0_
                            have BK173 := n1_
                            have HO191 := n2_
                            have HB := n3_
                            have HR185 := n4_
                            have HR198 := n5_
                            have HO188 := n6_
                            clear n0_ n1_ n2_ n3_ n4_ n5_ n6_
                            clear ho hb hg hat
                            refine hK.out _ _ trivial (fun hHeld => ?_)
                            clear hK K
                            refine norm_ (a' := ?_) ?_ ?_
                            rotate_left
                            ·show Act.put _ (some 75) _ = _
                             simp only [Act.put, List.setIfInBounds_toArray, List.set_cons_zero, List.set_cons_succ, i64_w, i32_w]
                             rfl
                            exact norm_ (by simp only [putAll, Act.put, List.setIfInBounds_toArray, List.set_cons_zero, List.set_cons_succ]) (hCont (v180, v187, v190) _ ⟨(by (with_reducible repeat (first | apply Kd.R_alloc | apply Kd.R_drewN | apply Kd.R_drew)); exact Kd.R_mono HO188.out (fun _ hk => ⟨hk.2, hk.1⟩)), (by (with_reducible repeat (first | apply Kd.R_alloc | apply Kd.R_drewN | apply Kd.R_drew)); exact Kd.R_mono HO191.out (fun _ hk => ⟨hk.2, hk.1⟩)), (by (with_reducible repeat (first | apply Kd.R_alloc | apply Kd.R_drewN | apply Kd.R_drew)); exact Kd.R_mono HO_8.out (fun _ hk => ⟨hk.2, hk.1⟩)), (by (with_reducible repeat (first | refine blk_drewN ?_ _ | refine blk_drew ?_ | refine blk_alloc ?_ _)); exact BK173.out), (by repeat (first | (with_reducible first | exact HB.out | apply below_alloc | apply pw_below_drewN | apply below_drew1 | refine below_set ?_ GE173.out) | exact HB.out)), (by repeat (first | (with_reducible exact HR185.out) | (with_reducible refine Kd.C_alloc ?_ _) | (with_reducible refine Kd.C_drewN ?_ _) | (with_reducible refine Kd.C_drew ?_) | exact HR185.out)), (by repeat (first | (with_reducible exact HR198.out) | (with_reducible refine Kd.C_alloc ?_ _) | (with_reducible refine Kd.C_drewN ?_ _) | (with_reducible refine Kd.C_drew ?_) | exact HR198.out))⟩)
                          ·skip
                           refine Kd.R_lit_step Kd.string _ 9 ?hg (N := 77) ?hd (xs := ([t174] : List ByteArray)) (inner := [.string t174]) (ok := fun _ => True) (okp := fun _ => True) ?hr ?hp (fun _ hk => hk) trivial (Below.refl _ _) (Nat.le_refl _) (by simp) ?_; (case hd => rfl); (case hg => rfl); (case hr => first | (go_simp; done) | (go_simp; rfl)); (case hp => exact (Reps.one (show Kd.M Kd.string _ _ _ t174 [.string t174] from rfl) (Reps.none _ _)))
                           intro v190 w46 ho47 hb hg_ hnew_
                           clear hg_ hnew_
                           (first | rw [← Ny189.out] at ho47 | (simp only [Int.reduceToNat] at ho47; rw [← Ny189.out] at ho47))
                           have n0_ := Aside0.mk (Kd.R_elder' (by (with_reducible repeat (first | apply Kd.R_alloc | apply Kd.R_drewN | apply Kd.R_drew)); exact HO_8.out) (Kd.R_base ho47) hb)
                           have n1_ := Aside0.mk (Kd.R_lower (Kd.R_new' ho47 (Kd.R_lt (by (with_reducible repeat (first | apply Kd.R_alloc | apply Kd.R_drewN | apply Kd.R_drew)); exact HO_8.out))) (below_size (by repeat (first | (with_reducible first | exact HB.out | apply below_alloc | apply pw_below_drewN | apply below_drew1 | refine below_set ?_ GE173.out) | exact HB.out))))
                           have n2_ := Aside0.mk (blk_below (g := gb173) (o := .cells #[.string ((rd_T78 l1 x26_2).f0), .int .i64 ((rd_T78 l1 x26_2).f1), .int .i64 ((rd_T78 l1 x26_2).f2)] 78 (0, 0)) (by (with_reducible repeat (first | refine blk_drewN ?_ _ | refine blk_drew ?_ | refine blk_alloc ?_ _)); exact BK173.out) hb)
                           have n3_ := Aside0.mk (Kd.C_below (by repeat (first | (with_reducible exact HR185.out) | (with_reducible refine Kd.C_alloc ?_ _) | (with_reducible refine Kd.C_drewN ?_ _) | (with_reducible refine Kd.C_drew ?_) | exact HR185.out)) hb)
                           have n4_ := Aside0.mk (Kd.C_below (by repeat (first | (with_reducible exact HR198.out) | (with_reducible refine Kd.C_alloc ?_ _) | (with_reducible refine Kd.C_drewN ?_ _) | (with_reducible refine Kd.C_drew ?_) | exact HR198.out)) hb)
                           have n5_ := Aside0.mk (below_step (by repeat (first | (with_reducible first | exact HB.out | apply below_alloc | apply pw_below_drewN | apply below_drew1 | refine below_set ?_ GE173.out) | exact HB.out)) hb)
                           clear HO_8
                           clear BK173
                           clear HR185
                           clear HR198
                           clear HB
                           have HO_8 := n0_
                           have HO191 := n1_
                           have BK173 := n2_
                           have HR185 := n3_
                           have HR198 := n4_
                           have HB := n5_
                           clear n0_ n1_ n2_ n3_ n4_ n5_
                           clear hb ho47
                           refine hK.out _ _ trivial (fun hHeld => ?_)
                           clear hK K
                           refine norm_ (a' := ?_) ?_ ?_
                           rotate_left
                           ·show Act.put _ (some 77) _ = _
                            simp only [Act.put, List.setIfInBounds_toArray, List.set_cons_zero, List.set_cons_succ, i64_w, i32_w]
                            rfl
                           refine one_ (i := 0) (N := some 71) bactDoersOfx5_13_76f rfl rfl (one_of HT_.out (by kernel_rfl)) (by decide) (fun K hK => ?_)
                           refine Kd.R_lit_step Kd.string _ 9 ?hg (N := 71) ?hd (xs := ([] : List ByteArray)) (inner := []) (ok := fun _ => True) (okp := fun _ => True) ?hr ?hp (fun _ hk => hk) trivial (Below.refl _ _) (Nat.le_refl _) (by simp) ?_; (case hd => rfl); (case hg => rfl); (case hr => first | (go_simp; done) | (go_simp; rfl)); (case hp => exact (Reps.none _ _))
                           intro v180 w48 ho49 hb hg_ hnew_
                           clear hg_ hnew_
                           (first | rw [← Ny179.out] at ho49 | (simp only [Int.reduceToNat] at ho49; rw [← Ny179.out] at ho49))
                           have n0_ := Aside0.mk (Kd.R_elder' (by (with_reducible repeat (first | apply Kd.R_alloc | apply Kd.R_drewN | apply Kd.R_drew)); exact HO_8.out) (Kd.R_base ho49) hb)
                           have n1_ := Aside0.mk (Kd.R_elder' (by (with_reducible repeat (first | apply Kd.R_alloc | apply Kd.R_drewN | apply Kd.R_drew)); exact HO191.out) (Kd.R_base ho49) hb)
                           have n2_ := Aside0.mk (Kd.R_lower (Kd.R_new' (Kd.R_new' ho49 (Kd.R_lt (by (with_reducible repeat (first | apply Kd.R_alloc | apply Kd.R_drewN | apply Kd.R_drew)); exact HO_8.out))) (Kd.R_lt (by (with_reducible repeat (first | apply Kd.R_alloc | apply Kd.R_drewN | apply Kd.R_drew)); exact HO191.out))) (below_size (by repeat (first | (with_reducible first | exact HB.out | apply below_alloc | apply pw_below_drewN | apply below_drew1 | refine below_set ?_ GE173.out) | exact HB.out))))
                           have n3_ := Aside0.mk (blk_below (g := gb173) (o := .cells #[.string ((rd_T78 l1 x26_2).f0), .int .i64 ((rd_T78 l1 x26_2).f1), .int .i64 ((rd_T78 l1 x26_2).f2)] 78 (0, 0)) (by (with_reducible repeat (first | refine blk_drewN ?_ _ | refine blk_drew ?_ | refine blk_alloc ?_ _)); exact BK173.out) hb)
                           have n4_ := Aside0.mk (Kd.C_below (by repeat (first | (with_reducible exact HR185.out) | (with_reducible refine Kd.C_alloc ?_ _) | (with_reducible refine Kd.C_drewN ?_ _) | (with_reducible refine Kd.C_drew ?_) | exact HR185.out)) hb)
                           have n5_ := Aside0.mk (Kd.C_below (by repeat (first | (with_reducible exact HR198.out) | (with_reducible refine Kd.C_alloc ?_ _) | (with_reducible refine Kd.C_drewN ?_ _) | (with_reducible refine Kd.C_drew ?_) | exact HR198.out)) hb)
                           have n6_ := Aside0.mk (below_step (by repeat (first | (with_reducible first | exact HB.out | apply below_alloc | apply pw_below_drewN | apply below_drew1 | refine below_set ?_ GE173.out) | exact HB.out)) hb)
                           clear HO_8
                           clear HO191
                           clear BK173
                           clear HR185
                           clear HR198
                           clear HB
                           have HO_8 := n0_
                           have HO191 := n1_
                           have HO181 := n2_
                           have BK173 := n3_
                           have HR185 := n4_
                           have HR198 := n5_
                           have HB := n6_
                           clear n0_ n1_ n2_ n3_ n4_ n5_ n6_
                           clear hb ho49
                           refine hK.out _ _ trivial (fun hHeld => ?_)
                           clear hK K
                           refine norm_ (a' := ?_) ?_ ?_
                           rotate_left
                           ·show Act.put _ (some 71) _ = _
                            simp only [Act.put, List.setIfInBounds_toArray, List.set_cons_zero, List.set_cons_succ, i64_w, i32_w]
                            rfl
                           refine one_ (i := 4) (N := some 75) bactDoersOfx5_13_77f rfl rfl (one_of HT_.out (by kernel_rfl)) (by decide) (fun K hK => ?_)
                           refine Kd.R_append_rows_step Kd.string (w0 := w) w.heap.size (by rfl) (.tmp 71) (.tmp 74) 35 9 (.string ⟨#[]⟩) 16 rfl Try.underlying35 info9 rfl (by decide) (by omega) v180 y179 y182 _ _ _ (fun k_ => some k_ ≠ (.slice Ao44 x8_2.length co44 : Value).ownBlock ∧ some k_ ≠ (v190 : Value).ownBlock) (fun _ => False) rfl rfl ?aO ?aR (fun _ _ h => h) (fun _ h => h.elim) ?aF ?aB ?aS ?aL ?_
                           (case aR => repeat (first | exact (by repeat (first | (with_reducible exact HR185.out) | (with_reducible refine Kd.C_alloc ?_ _) | (with_reducible refine Kd.C_drewN ?_ _) | (with_reducible refine Kd.C_drew ?_) | exact HR185.out)) | (with_reducible refine Kd.C_alloc ?_ _) | (with_reducible refine Kd.C_drewN ?_ _) | (with_reducible refine Kd.C_drew ?_)))
                           (case aB => exact (by repeat (first | (with_reducible first | exact HB.out | apply below_alloc | apply pw_below_drewN | apply below_drew1 | refine below_set ?_ GE173.out) | exact HB.out)))
                           (case aF => exact (fun k_ hk => ⟨Kd.fresh' (Kd.R_lt (by (with_reducible repeat (first | apply Kd.R_alloc | apply Kd.R_drewN | apply Kd.R_drew)); exact HO_8.out)) k_ hk, Kd.fresh' (Kd.R_lt (by (with_reducible repeat (first | apply Kd.R_alloc | apply Kd.R_drewN | apply Kd.R_drew)); exact HO191.out)) k_ hk⟩))
                           (case aO => exact (by (with_reducible repeat (first | apply Kd.R_alloc | apply Kd.R_drewN | apply Kd.R_drew)); exact Kd.R_mono HO181.out (fun _ hk => ⟨hk.1.2, hk.2⟩)))
                           (case aS => exact (below_size (by repeat (first | (with_reducible first | exact HB.out | apply below_alloc | apply pw_below_drewN | apply below_drew1 | refine below_set ?_ GE173.out) | exact HB.out))))
                           (case aL => have := LMc37.out; omega)
                           intro v187 w50 ho hb hg hat
                           rw [← Ny186.out] at ho
                           have n0_ := Aside0.mk (Kd.R_after (ok := (fun k_ => some k_ ≠ (v190 : Value).ownBlock)) (by (with_reducible repeat (first | apply Kd.R_alloc | apply Kd.R_drewN | apply Kd.R_drew)); exact Kd.R_mono HO_8.out (fun _ hk => ⟨hk.1.2, hk.2⟩)) hg hat)
                           have n1_ := Aside0.mk (blk_grown (g := gb173) (o := .cells #[.string ((rd_T78 l1 x26_2).f0), .int .i64 ((rd_T78 l1 x26_2).f1), .int .i64 ((rd_T78 l1 x26_2).f2)] 78 (0, 0)) (by (with_reducible repeat (first | refine blk_drewN ?_ _ | refine blk_drew ?_ | refine blk_alloc ?_ _)); exact BK173.out) hg (Kd.R_ne HO181.out BK173.out (by decide)))
                           have n2_ := Aside0.mk (Kd.R_after (ok := (fun k_ => some k_ ≠ (.slice Ao44 x8_2.length co44 : Value).ownBlock)) (by (with_reducible repeat (first | apply Kd.R_alloc | apply Kd.R_drewN | apply Kd.R_drew)); exact Kd.R_mono HO191.out (fun _ hk => ⟨hk.1.2, hk.2⟩)) hg hat)
                           have n3_ := Aside0.mk (hb)
                           have n4_ := Aside0.mk ((show Kd.C Kd.string w50 Ao44 y182.length y182 from by rw [Ny182.out]; exact Kd.C_take (m := (x14_4 : Int).toNat) ((Kd.R_reads' (Kd.R_after (ok := (fun k_ => some k_ ≠ (v190 : Value).ownBlock)) (by (with_reducible repeat (first | apply Kd.R_alloc | apply Kd.R_drewN | apply Kd.R_drew)); exact Kd.R_mono HO_8.out (fun _ hk => ⟨hk.1.2, hk.2⟩)) hg hat)).2.2) KL43.out))
                           have n5_ := Aside0.mk ((show Kd.C Kd.string w50 A45 y195.length y195 from by rw [Ny195.out, KA45.out]; exact Kd.C_drop (m := (x14_4 : Int).toNat) (c := co44) ((Kd.R_reads' (Kd.R_after (ok := (fun k_ => some k_ ≠ (v190 : Value).ownBlock)) (by (with_reducible repeat (first | apply Kd.R_alloc | apply Kd.R_drewN | apply Kd.R_drew)); exact Kd.R_mono HO_8.out (fun _ hk => ⟨hk.1.2, hk.2⟩)) hg hat)).2.2) KL45.out ((Kd.R_reads' (Kd.R_after (ok := (fun k_ => some k_ ≠ (v190 : Value).ownBlock)) (by (with_reducible repeat (first | apply Kd.R_alloc | apply Kd.R_drewN | apply Kd.R_drew)); exact Kd.R_mono HO_8.out (fun _ hk => ⟨hk.1.2, hk.2⟩)) hg hat)).2.1)))
                           have n6_ := Aside0.mk (ho)
                           clear HO_8
                           clear BK173
                           clear HO191
                           clear HB
                           clear HR185
                           clear HR198
                           clear HO181
                           have HO_8 := n0_
                           have BK173 := n1_
                           have HO191 := n2_
                           have HB := n3_
                           have HR185 := n4_
                           have HR198 := n5_
                           have HO188 := n6_
                           clear n0_ n1_ n2_ n3_ n4_ n5_ n6_
                           clear ho hb hg hat
                           refine hK.out _ _ trivial (fun hHeld => ?_)
                           clear hK K
                           refine norm_ (a' := ?_) ?_ ?_
                           rotate_left
                           ·show Act.put _ (some 75) _ = _
                            simp only [Act.put, List.setIfInBounds_toArray, List.set_cons_zero, List.set_cons_succ, i64_w, i32_w]
                            rfl
                           exact norm_ (by simp only [putAll, Act.put, List.setIfInBounds_toArray, List.set_cons_zero, List.set_cons_succ]) (hCont (v180, v187, v190) _ ⟨(by (with_reducible repeat (first | apply Kd.R_alloc | apply Kd.R_drewN | apply Kd.R_drew)); exact Kd.R_mono HO188.out (fun _ hk => ⟨hk.2, hk.1⟩)), (by (with_reducible repeat (first | apply Kd.R_alloc | apply Kd.R_drewN | apply Kd.R_drew)); exact Kd.R_mono HO191.out (fun _ hk => ⟨hk.2, hk.1⟩)), (by (with_reducible repeat (first | apply Kd.R_alloc | apply Kd.R_drewN | apply Kd.R_drew)); exact Kd.R_mono HO_8.out (fun _ hk => ⟨hk.2, hk.1⟩)), (by (with_reducible repeat (first | refine blk_drewN ?_ _ | refine blk_drew ?_ | refine blk_alloc ?_ _)); exact BK173.out), (by repeat (first | (with_reducible first | exact HB.out | apply below_alloc | apply pw_below_drewN | apply below_drew1 | refine below_set ?_ GE173.out) | exact HB.out)), (by repeat (first | (with_reducible exact HR185.out) | (with_reducible refine Kd.C_alloc ?_ _) | (with_reducible refine Kd.C_drewN ?_ _) | (with_reducible refine Kd.C_drew ?_) | exact HR185.out)), (by repeat (first | (with_reducible exact HR198.out) | (with_reducible refine Kd.C_alloc ?_ _) | (with_reducible refine Kd.C_drewN ?_ _) | (with_reducible refine Kd.C_drew ?_) | exact HR198.out))⟩)
                         rintro ⟨v180, v187, v190⟩ w51 ⟨h0_, h1_, h2_, h3_, h4_, h5_, h6_⟩
                         have n0_ : Aside0 (Kd.R Kd.string 9 w51 w.heap.size (fun k_ => some k_ ≠ (v190 : Value).ownBlock ∧ some k_ ≠ (.slice Ao44 x8_2.length co44 : Value).ownBlock) v187 y186) := ⟨h0_⟩
                         have n1_ : Aside0 (Kd.R Kd.string 9 w51 w.heap.size (fun k_ => some k_ ≠ (v187 : Value).ownBlock ∧ some k_ ≠ (.slice Ao44 x8_2.length co44 : Value).ownBlock) v190 y189) := ⟨h1_⟩
                         have n2_ : Aside0 (Kd.R Kd.string 9 w51 w.heap.size (fun k_ => some k_ ≠ (v187 : Value).ownBlock ∧ some k_ ≠ (v190 : Value).ownBlock) (.slice Ao44 x8_2.length co44) x8_2) := ⟨h2_⟩
                         have n3_ : Aside0 (w51.heap[gb173]? = some (.cells #[.string ((rd_T78 l1 x26_2).f0), .int .i64 ((rd_T78 l1 x26_2).f1), .int .i64 ((rd_T78 l1 x26_2).f2)] 78 (0, 0))) := ⟨h3_⟩
                         have n4_ : Aside0 (Below w.heap.size w w51) := ⟨h4_⟩
                         have n5_ : Aside0 (Kd.C Kd.string w51 Ao44 y182.length y182) := ⟨h5_⟩
                         have n6_ : Aside0 (Kd.C Kd.string w51 A45 y195.length y195) := ⟨h6_⟩
                         clear HO_8
                         clear BK173
                         clear HB
                         clear h0_ h1_ h2_ h3_ h4_ h5_ h6_
                         have HO188 := n0_
                         have HO191 := n1_
                         have HO_8 := n2_
                         have BK173 := n3_
                         have HB := n4_
                         have HR185 := n5_
                         have HR198 := n6_
                         clear n0_ n1_ n2_ n3_ n4_ n5_ n6_
                         have hHeld := trivial
                         obtain ⟨Ao53, co53, eo53⟩ := Kd.R_slice HO191.out
                         (first | subst eo53 | (injection eo53 with f1_ f2_ f3_; have f4_ := f1_.symm; have f5_ := f3_.symm; clear f1_ f2_ f3_; subst f4_; subst f5_))
                         refine norm_ (a' := ?_) ?_ ?_
                         rotate_left
                         ·simp only [putAll, Act.put, List.setIfInBounds_toArray, List.set_cons_zero, List.set_cons_succ]
                          rfl
                         refine one_ (i := 7) (N := some 78) bactDoersOfx5_13_7ff rfl rfl (one_of HT_.out (by kernel_rfl)) (by decide) (fun K hK => ?_)
                         refine Kd.R_append_rows_step Kd.string (w0 := w) w.heap.size (by rfl) (.tmp 75) (.tmp 77) 35 9 (.string ⟨#[]⟩) 16 rfl Try.underlying35 info9 rfl (by decide) (by omega) v187 y186 y189 _ _ _ (fun k_ => some k_ ≠ (.slice Ao44 x8_2.length co44 : Value).ownBlock ∧ some k_ ≠ (.slice Ao53 y189.length co53 : Value).ownBlock) (fun _ => False) rfl rfl ?aO ?aR (fun _ _ h => h) (fun _ h => h.elim) ?aF ?aB ?aS ?aL ?_
                         (case aR => repeat (first | exact (Kd.R_reads' HO191.out).2.2 | (with_reducible refine Kd.C_alloc ?_ _) | (with_reducible refine Kd.C_drewN ?_ _) | (with_reducible refine Kd.C_drew ?_)))
                         (case aB => exact (by repeat (first | (with_reducible first | exact HB.out | apply below_alloc | apply pw_below_drewN | apply below_drew1 | refine below_set ?_ GE173.out) | exact HB.out)))
                         (case aF => exact (fun k_ hk => ⟨Kd.fresh' (Kd.R_lt (by (with_reducible repeat (first | apply Kd.R_alloc | apply Kd.R_drewN | apply Kd.R_drew)); exact HO_8.out)) k_ hk, Kd.fresh' (Kd.R_lt (by (with_reducible repeat (first | apply Kd.R_alloc | apply Kd.R_drewN | apply Kd.R_drew)); exact HO191.out)) k_ hk⟩))
                         (case aO => exact (by (with_reducible repeat (first | apply Kd.R_alloc | apply Kd.R_drewN | apply Kd.R_drew)); exact Kd.R_mono HO188.out (fun _ hk => ⟨hk.2, hk.1⟩)))
                         (case aS => exact (below_size (by repeat (first | (with_reducible first | exact HB.out | apply below_alloc | apply pw_below_drewN | apply below_drew1 | refine below_set ?_ GE173.out) | exact HB.out))))
                         (case aL => have := LMc38.out; omega)
                         intro v193 w52 ho hb hg hat
                         rw [← Ny192.out] at ho
                         have n0_ := Aside0.mk (Kd.R_after (ok := (fun k_ => some k_ ≠ (.slice Ao53 y189.length co53 : Value).ownBlock)) (by (with_reducible repeat (first | apply Kd.R_alloc | apply Kd.R_drewN | apply Kd.R_drew)); exact Kd.R_mono HO_8.out (fun _ hk => ⟨hk.2, hk.1⟩)) hg hat)
                         have n1_ := Aside0.mk (blk_grown (g := gb173) (o := .cells #[.string ((rd_T78 l1 x26_2).f0), .int .i64 ((rd_T78 l1 x26_2).f1), .int .i64 ((rd_T78 l1 x26_2).f2)] 78 (0, 0)) (by (with_reducible repeat (first | refine blk_drewN ?_ _ | refine blk_drew ?_ | refine blk_alloc ?_ _)); exact BK173.out) hg (Kd.R_ne HO188.out BK173.out (by decide)))
                         have n2_ := Aside0.mk (Kd.R_after (ok := (fun k_ => some k_ ≠ (.slice Ao44 x8_2.length co44 : Value).ownBlock)) (by (with_reducible repeat (first | apply Kd.R_alloc | apply Kd.R_drewN | apply Kd.R_drew)); exact Kd.R_mono HO191.out (fun _ hk => ⟨hk.2, hk.1⟩)) hg hat)
                         have n3_ := Aside0.mk (hb)
                         have n4_ := Aside0.mk ((show Kd.C Kd.string w52 Ao44 y182.length y182 from by rw [Ny182.out]; exact Kd.C_take (m := (x14_4 : Int).toNat) ((Kd.R_reads' (Kd.R_after (ok := (fun k_ => some k_ ≠ (.slice Ao53 y189.length co53 : Value).ownBlock)) (by (with_reducible repeat (first | apply Kd.R_alloc | apply Kd.R_drewN | apply Kd.R_drew)); exact Kd.R_mono HO_8.out (fun _ hk => ⟨hk.2, hk.1⟩)) hg hat)).2.2) KL43.out))
                         have n5_ := Aside0.mk ((show Kd.C Kd.string w52 A45 y195.length y195 from by rw [Ny195.out, KA45.out]; exact Kd.C_drop (m := (x14_4 : Int).toNat) (c := co44) ((Kd.R_reads' (Kd.R_after (ok := (fun k_ => some k_ ≠ (.slice Ao53 y189.length co53 : Value).ownBlock)) (by (with_reducible repeat (first | apply Kd.R_alloc | apply Kd.R_drewN | apply Kd.R_drew)); exact Kd.R_mono HO_8.out (fun _ hk => ⟨hk.2, hk.1⟩)) hg hat)).2.2) KL45.out ((Kd.R_reads' (Kd.R_after (ok := (fun k_ => some k_ ≠ (.slice Ao53 y189.length co53 : Value).ownBlock)) (by (with_reducible repeat (first | apply Kd.R_alloc | apply Kd.R_drewN | apply Kd.R_drew)); exact Kd.R_mono HO_8.out (fun _ hk => ⟨hk.2, hk.1⟩)) hg hat)).2.1)))
                         have n6_ := Aside0.mk (ho)
                         clear HO_8
                         clear BK173
                         clear HO191
                         clear HB
                         clear HR185
                         clear HR198
                         clear HO188
                         have HO_8 := n0_
                         have BK173 := n1_
                         have HO191 := n2_
                         have HB := n3_
                         have HR185 := n4_
                         have HR198 := n5_
                         have HO194 := n6_
                         clear n0_ n1_ n2_ n3_ n4_ n5_ n6_
                         clear ho hb hg hat
                         refine hK.out _ _ trivial (fun hHeld => ?_)
                         clear hK K
                         refine norm_ (a' := ?_) ?_ ?_
                         rotate_left
                         ·show Act.put _ (some 78) _ = _
                          simp only [Act.put, List.setIfInBounds_toArray, List.set_cons_zero, List.set_cons_succ, i64_w, i32_w]
                          rfl
                         refine one_ (i := 11) (N := some 82) bactDoersOfx5_13_fff rfl rfl (one_of HT_.out (by kernel_rfl)) (by decide) (fun K hK => ?_)
                         refine Kd.R_append_rows_step Kd.string (w0 := w) w.heap.size (by rfl) (.tmp 78) (.tmp 81) 35 9 (.string ⟨#[]⟩) 16 rfl Try.underlying35 info9 rfl (by decide) (by omega) v193 y192 y195 _ _ _ (fun k_ => some k_ ≠ (.slice Ao44 x8_2.length co44 : Value).ownBlock ∧ some k_ ≠ (.slice Ao53 y189.length co53 : Value).ownBlock) (fun _ => False) rfl rfl ?aO ?aR (fun _ _ h => h) (fun _ h => h.elim) ?aF ?aB ?aS ?aL ?_
                         (case aR => repeat (first | exact (by repeat (first | (with_reducible exact HR198.out) | (with_reducible refine Kd.C_alloc ?_ _) | (with_reducible refine Kd.C_drewN ?_ _) | (with_reducible refine Kd.C_drew ?_) | exact HR198.out)) | (with_reducible refine Kd.C_alloc ?_ _) | (with_reducible refine Kd.C_drewN ?_ _) | (with_reducible refine Kd.C_drew ?_)))
                         (case aB => exact (by repeat (first | (with_reducible first | exact HB.out | apply below_alloc | apply pw_below_drewN | apply below_drew1 | refine below_set ?_ GE173.out) | exact HB.out)))
                         (case aF => exact (fun k_ hk => ⟨Kd.fresh' (Kd.R_lt (by (with_reducible repeat (first | apply Kd.R_alloc | apply Kd.R_drewN | apply Kd.R_drew)); exact HO_8.out)) k_ hk, Kd.fresh' (Kd.R_lt (by (with_reducible repeat (first | apply Kd.R_alloc | apply Kd.R_drewN | apply Kd.R_drew)); exact HO191.out)) k_ hk⟩))
                         (case aO => exact (by (with_reducible repeat (first | apply Kd.R_alloc | apply Kd.R_drewN | apply Kd.R_drew)); exact HO194.out))
                         (case aS => exact (below_size (by repeat (first | (with_reducible first | exact HB.out | apply below_alloc | apply pw_below_drewN | apply below_drew1 | refine below_set ?_ GE173.out) | exact HB.out))))
                         (case aL => have := LMc41.out; omega)
                         intro v200 w54 ho hb hg hat
                         rw [← Ny199.out] at ho
                         have n0_ := Aside0.mk (Kd.R_after (ok := (fun k_ => some k_ ≠ (.slice Ao53 y189.length co53 : Value).ownBlock)) (by (with_reducible repeat (first | apply Kd.R_alloc | apply Kd.R_drewN | apply Kd.R_drew)); exact HO_8.out) hg hat)
                         have n1_ := Aside0.mk (blk_grown (g := gb173) (o := .cells #[.string ((rd_T78 l1 x26_2).f0), .int .i64 ((rd_T78 l1 x26_2).f1), .int .i64 ((rd_T78 l1 x26_2).f2)] 78 (0, 0)) (by (with_reducible repeat (first | refine blk_drewN ?_ _ | refine blk_drew ?_ | refine blk_alloc ?_ _)); exact BK173.out) hg (Kd.R_ne HO194.out BK173.out (by decide)))
                         have n2_ := Aside0.mk (Kd.R_after (ok := (fun k_ => some k_ ≠ (.slice Ao44 x8_2.length co44 : Value).ownBlock)) (by (with_reducible repeat (first | apply Kd.R_alloc | apply Kd.R_drewN | apply Kd.R_drew)); exact HO191.out) hg hat)
                         have n3_ := Aside0.mk (hb)
                         have n4_ := Aside0.mk ((show Kd.C Kd.string w54 Ao44 y182.length y182 from by rw [Ny182.out]; exact Kd.C_take (m := (x14_4 : Int).toNat) ((Kd.R_reads' (Kd.R_after (ok := (fun k_ => some k_ ≠ (.slice Ao53 y189.length co53 : Value).ownBlock)) (by (with_reducible repeat (first | apply Kd.R_alloc | apply Kd.R_drewN | apply Kd.R_drew)); exact HO_8.out) hg hat)).2.2) KL43.out))
                         have n5_ := Aside0.mk ((show Kd.C Kd.string w54 A45 y195.length y195 from by rw [Ny195.out, KA45.out]; exact Kd.C_drop (m := (x14_4 : Int).toNat) (c := co44) ((Kd.R_reads' (Kd.R_after (ok := (fun k_ => some k_ ≠ (.slice Ao53 y189.length co53 : Value).ownBlock)) (by (with_reducible repeat (first | apply Kd.R_alloc | apply Kd.R_drewN | apply Kd.R_drew)); exact HO_8.out) hg hat)).2.2) KL45.out ((Kd.R_reads' (Kd.R_after (ok := (fun k_ => some k_ ≠ (.slice Ao53 y189.length co53 : Value).ownBlock)) (by (with_reducible repeat (first | apply Kd.R_alloc | apply Kd.R_drewN | apply Kd.R_drew)); exact HO_8.out) hg hat)).2.1)))
                         have n6_ := Aside0.mk (ho)
                         clear HO_8
                         clear BK173
                         clear HO191
                         clear HB
                         clear HR185
                         clear HR198
                         clear HO194
                         have HO_8 := n0_
                         have BK173 := n1_
                         have HO191 := n2_
                         have HB := n3_
                         have HR185 := n4_
                         have HR198 := n5_
                         have HO201 := n6_
                         clear n0_ n1_ n2_ n3_ n4_ n5_ n6_
                         clear ho hb hg hat
                         refine hK.out _ _ trivial (fun hHeld => ?_)
                         clear hK K
                         refine norm_ (a' := ?_) ?_ ?_
                         rotate_left
                         ·show Act.put _ (some 82) _ = _
                          simp only [Act.put, List.setIfInBounds_toArray, List.set_cons_zero, List.set_cons_succ, i64_w, i32_w]
                          rfl
                         refine pure_ (i := 12) (N := some 8) (v := ?_) (a' := ?_) bactDoersOfx5_13_1fff rfl rfl (any_of HT_.out (by kernel_rfl)) (fun _ _ _ h => h) (Or.inl ⟨by rfl, ?_⟩) ?_ ?_
                         rotate_left
                         ·intro w'
                          go_simp
                          with_reducible rfl
                         rotate_left
                         ·simp only [Act.put, List.setIfInBounds_toArray, List.set_cons_zero, List.set_cons_succ, i64_w, i32_w]
                          rfl
                         refine done_ (done_of HT_.out (by kernel_rfl)) ?_
                         try go_wp2
                         go_roundg kj27
                         case measure => have := HJ3.out; have := HK2.out; have := HJ14.out; have := HK4.out; have := HJ21.out; have := HJ27.out; omega
                         case rel => exact ⟨(y199), (wrap64 (x26_2 + 1)), (by first | rfl | (simp; done) | (simp [*]; done)), H', ⟨by have := HJ3.out; have := HK2.out; have := HJ14.out; have := HK4.out; have := HJ21.out; have := HJ27.out; omega⟩, ⟨by (with_reducible repeat (first | apply Kd.R_alloc | apply Kd.R_drewN | apply Kd.R_drew)); exact Kd.R_mono HO201.out (fun _ hk => trivial)⟩, ⟨by repeat (first | (with_reducible first | exact HB.out | apply below_alloc | apply pw_below_drewN | apply below_drew1 | refine below_set ?_ GE173.out) | exact HB.out)⟩⟩
                        ·rw [if_neg c41] at H
                         exact absurd H (by simp)
                       ·rw [if_neg c38] at H
                        exact absurd H (by simp)
                      ·rw [if_neg c37] at H
                       exact absurd H (by simp)
                     ·rw [if_neg c36] at H
                      exact absurd H (by simp)
                    ·rw [if_neg c35] at H
                     exact absurd H (by simp)
                   ·replace c34 := Bool.eq_false_iff.mpr c34
                    subst c34
                    have H1 : (spec_DoersOf.l0 kj27 l0 a2 x8_2 l1 (l1.length : Int) (wrap64 (x26_2 + 1))) = some (r1, r2) := by rw [if_neg (show ¬ (false = true) by decide)] at H; exact H
                    clear H
                    have H := H1
                    clear H1
                    have H' := Aside0.mk H
                    clear H
                    go_wp2
                    go_roundg kj27
                    case measure => have := HJ3.out; have := HK2.out; have := HJ14.out; have := HK4.out; have := HJ21.out; have := HJ27.out; omega
                    case rel => exact ⟨(x8_2), (wrap64 (x26_2 + 1)), (by first | rfl | (simp; done) | (simp [*]; done)), H', ⟨by have := HJ3.out; have := HK2.out; have := HJ14.out; have := HK4.out; have := HJ21.out; have := HJ27.out; omega⟩, ⟨by (with_reducible repeat (first | apply Kd.R_alloc | apply Kd.R_drewN | apply Kd.R_drew)); exact HO_8.out⟩, ⟨by repeat (first | (with_reducible first | exact HB.out | apply below_alloc | apply pw_below_drewN | apply below_drew1 | refine below_set ?_ GE173.out) | exact HB.out)⟩⟩
        ·rw [if_neg c13] at H
         exact absurd H (by simp)
       ·rw [if_neg c12] at H
        exact absurd H (by simp)
      ·rw [if_neg c11] at H
       have c11b0 : decide (x26_2 < (l1.length : Int)) = false := decide_eq_false c11
       clear c11
       simp only [Option.some.injEq, Prod.mk.injEq] at H
       obtain ⟨rfl, rfl⟩ := H
       go_wp2
       go_ret2
       exact ⟨_, by first | rfl | (simp [errW_none, errW_some] <;> rfl) | (simp [*, errW_none, errW_some] <;> rfl) | (simp [errW_none, errW_some, show ∀ l_ : List UInt8, (l_ != []) = !l_.isEmpty from fun l_ => by cases l_ <;> rfl]; done), by (with_reducible repeat (first | apply Kd.R_alloc | apply Kd.R_drewN | apply Kd.R_drew)); exact HO_8.out, by repeat (first | (with_reducible first | exact HB.out | apply below_alloc | apply pw_below_drewN | apply below_drew1) | exact HB.out)⟩

end Go.Proofs.Ytbheajjagkdjmaa.PFnExactDoersOf
