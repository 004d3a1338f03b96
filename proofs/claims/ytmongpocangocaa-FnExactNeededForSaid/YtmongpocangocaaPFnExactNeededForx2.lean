/- Written by a program of this claim's author, out of the loaded program as Lean prints it: the functions as Lean functions, and that the calls answer so. -/
import Derived.Test.YtmongpocangocaaPFnExactNeededForx0
import Derived.Test.YtmongpocangocaaPFnExactNeededForx1
import Derived.Test.YtmongpocangocaaPFnExactNeededForxD0
namespace Go.Proofs.Ytmongpocangocaa.PFnExactNeededFor
open Go.RowKit Go.Proofs.YtmongpocangocaaW.PrintWords Go.Proofs.YtmongpocangocaaW.PrintLast Go.Proofs.YtmongpocangocaaW.PrintMore
attribute [local go_sem] max2_int min2_int max_two min_two max_three min_three max_four min_four isSome_setCell   -- for this text's walks alone
set_option linter.unusedVariables false
set_option linter.unusedSimpArgs false

theorem yactNeededForx2_0_ {p : Prop} (h : p := by first | rfl | (simp; done) | (simp [*]; done)) : p := h
theorem yactNeededForx2_1_ {p : Prop} (h : p := by first | (with_reducible assumption) | assumption) : p := h
theorem yactNeededForx2_2_ {p : Prop} (h : p := by have := HK1.out; first | omega | exact Nat.le_refl _) : p := h
theorem yactNeededForx2_3_ {p : Prop} (h : p := by (with_reducible repeat (first | apply kN_ | apply kD_ | apply kA_)); refine blk_put (cs := #[.string ((rd_T43 l0 x9_1).f0), .slice A110_1 ((rd_T43 l0 x9_1).f1).length c110_1, .int .i64 0]) ?_ 2 _ rfl; (with_reducible repeat (first | apply kN_ | apply kD_ | apply kA_)); refine blk_put (cs := #[.string ((rd_T43 l0 x9_1).f0), .slice none 0 0, .int .i64 0]) ?_ 1 _ rfl; (with_reducible repeat (first | apply kN_ | apply kD_ | apply kA_)); refine blk_put (cs := #[.string (⟨#[]⟩ : ByteArray), .slice none 0 0, .int .i64 0]) ?_ 0 _ rfl; (with_reducible repeat (first | apply kN_ | apply kD_ | apply kA_)); exact BK111.out) : p := h
theorem yactNeededForx2_4_ {p : Prop} (h : p := by repeat (first | (with_reducible first | exact HK.out | apply Kept.alloc | apply Kept.drewN | apply Kept.drew) | exact HK.out)) : p := h
theorem yactNeededForx2_5_ {p : Prop} (h : p := by (with_reducible repeat (first | apply Kd.R_alloc | apply Kd.R_drewN | apply Kd.R_drew)); exact HO_0.out) : p := h
theorem yactNeededForx2_6_ {p : Prop} (h : p := by first | exact HK.out.1 | exact (show Kept w _ (fun k_ => P0_ k_) from by repeat (first | (with_reducible first | exact HK.out | apply Kept.alloc | apply Kept.drewN | apply Kept.drew) | exact HK.out)).1) : p := h
/-! ### spec_leGood: function 17 -/
set_option maxHeartbeats 8000000 in
set_option maxRecDepth 100000 in
theorem spec_leGood.calls (k : Nat) (A0 : Option Addr) (c0 : Nat) (l0 : List (S43)) (r : Bool) (w : World) (hr0 : Kd.C k43 w A0 l0.length l0) (hc0 : l0.length ≤ c0) (h : spec_leGood.f k l0 = some r) :
 Calls Try.prog 17 #[.slice A0 l0.length c0] w fun e w' => e = .returned (.bool r) ∧ Below w.heap.size w w' := by
 have hu43 := Try.underlying43
 have HR0 := Aside0.mk hr0
 have HC0 := Aside0.mk hc0
 clear hr0 hc0
 have HB := Aside0.mk (Below.refl w.heap.size w)
 have H : (spec_leGood.l0 k l0 l0 (l0.length : Int) 0) = some r := h
 clear h
 have H' := Aside0.mk H
 clear H
 go_enter Try.func17, Try.ntmps17
 go_wp2
 go_loopg [9] k (fun kq v9 w' => ∃ (x9_1 : Int), v9 = .int .i64 x9_1 ∧ Aside0 (spec_leGood.l0 kq l0 l0 (l0.length : Int) x9_1 = some r) ∧ Aside0 (kq ≤ k) ∧ Aside0 (Below w.heap.size w w'))
 case atStart => exact ⟨(0), yactNeededForx2_0_, H', ⟨Nat.le_refl _⟩, ⟨hB_⟩⟩
 case round =>
  clear H'
  obtain ⟨x9_1, rfl, HA, HK1, HB⟩ := hrel
  cases gk with
  | zero => exact absurd HA.out (by simp [spec_leGood.l0])
  | succ k1 =>
   have H := HA.out
   clear HA
   simp only [spec_leGood.l0] at H
   by_cases c2 : x9_1 < (l0.length : Int)
   ·rw [if_pos c2] at H
    have c2b0 : decide (x9_1 < (l0.length : Int)) = true := decide_eq_true c2
    clear c2
    by_cases c3 : 0 ≤ x9_1
    ·rw [if_pos c3] at H
     have c3b0 : decide (0 ≤ x9_1) = true := decide_eq_true c3
     clear c3
     by_cases c4 : x9_1 < (l0.length : Int)
     ·rw [if_pos c4] at H
      have c4b0 : decide (x9_1 < (l0.length : Int)) = true := decide_eq_true c4
      clear c4
      have HC5 := Aside0.mk H
      clear H
      have p110 : 0 ≤ (x9_1 : Int) := of_decide_eq_true yactNeededForx2_1_
      have q110 : x9_1 < (l0.length : Int) := of_decide_eq_true yactNeededForx2_1_
      obtain ⟨ad110, A110_1, c110_1, e110, hx110_0, hx110_1, hx110_2, hl110_1, hi110_1⟩ := at_T43 HR0.out x9_1 p110 q110
      cases e110
      replace hx110_0 := (HB.out.cell (World.block_lt_of_cell? w _ hx110_0)).trans hx110_0
      replace hx110_1 := (HB.out.cell (World.block_lt_of_cell? w _ hx110_1)).trans hx110_1
      replace hx110_2 := (HB.out.cell (World.block_lt_of_cell? w _ hx110_2)).trans hx110_2
      have HR110_1 := Aside0.mk hi110_1
      have HC110_1 := Aside0.mk hl110_1
      clear hi110_1 hl110_1
      replace p110 := eq_true p110
      replace q110 := eq_true q110
      go_upto_region 4 with (first | ((with_reducible refine gate_dst (N := 4) rfl ?_); (try (refine gate_guard (by rfl) ?_; dsimp only)); refine box_event ?hg (N := 4) ?hd (cs := #[.string (⟨#[]⟩ : ByteArray), .slice none 0 0, .int .i64 0]) (t := 43) ?hr ?_; (case hd => rfl); (case hg => rfl); (case hr => first | (go_simp; done) | (go_simp; rfl)); intro gb111 hg w6 hbox hb; have BK111 := aM_ (hbox); have GW111 := aM_ (gw_ w hg); have GE111 := aM_ (gw_ w hg); replace HB := aM_ (below_step hB_ hb); clear hb hbox hg; have hz7 := cf3_ BK111.out))
      (try simp only [Act.put, List.setIfInBounds_toArray, List.set_cons_zero, List.set_cons_succ])
      go_cut [38] (fun v38 wc => ∃ (kq : Nat) (x38_4 : Bool), v38 = .bool x38_4 ∧ Aside0 (spec_leGood.j1 kq l0 x9_1 l0 (l0.length : Int) x9_1 x38_4 ((rd_T43 l0 x9_1).f0) ((rd_T43 l0 x9_1).f1) ((rd_T43 l0 x9_1).f2) = some r) ∧ Aside0 (kq ≤ k1) ∧ Aside0 (wc.heap[gb111]? = some (.cells #[.string ((rd_T43 l0 x9_1).f0), (.slice A110_1 ((rd_T43 l0 x9_1).f1).length c110_1), .int .i64 ((rd_T43 l0 x9_1).f2)] 43 (0, 0))) ∧ Aside0 (Below w.heap.size w wc))
      case first =>
       have H := HC5.out
       clear HC5
       replace H := Option.bind_eq_some_iff.mp H
       obtain ⟨t112, A80, H⟩ := H
       try dsimp only at H
       have A8 := Aside0.mk A80
       clear A80
       by_cases c9 : t112 = true
       ·subst c9
        replace H := ip_ H rfl
        replace H := Option.bind_eq_some_iff.mp H
        obtain ⟨t113, A100, H⟩ := H
        try dsimp only at H
        have A10 := Aside0.mk A100
        clear A100
        by_cases c11 : t113 = true
        ·subst c11
         replace H := ip_ H rfl
         replace H := Option.bind_eq_some_iff.mp H
         obtain ⟨t114, A120, H⟩ := H
         try dsimp only at H
         have A12 := Aside0.mk A120
         clear A120
         by_cases c13 : t114 = true
         ·subst c13
          replace H := ip_ H rfl
          have H' := Aside0.mk H
          clear H
          have hz14 := cf3_ BK111.out
          go_wp2_with (first | ((with_reducible refine gate_callee (f := 33) rfl ?_); refine goesM_ (some 16) Try.func33 #[.string ((rd_T43 l0 x9_1).f0)] ?_; (with_reducible refine (spec_enGloss.calls k1 ((rd_T43 l0 x9_1).f0) true _ A8.out).mono ?_); rintro e w' ⟨rfl, ⟨nd, rfl⟩⟩; refine ⟨_, rfl, ?_⟩) | (go_at_call 34; (with_reducible refine (spec_l1Rising.calls k1 _ _ ((rd_T43 l0 x9_1).f1) 0 (wrap64 ((l0.length : Int) - 1)) true _ ?side1 ?side2 A10.out).mono ?_); (case side1 => exact Kd.C_below HR110_1.out hB_); (case side2 => exact HC110_1.out); rintro e w' ⟨rfl, ⟨nd, rfl⟩⟩) | (go_at_call 19; (with_reducible refine (spec_l1Has.calls k1 _ _ ((rd_T43 l0 x9_1).f1) x9_1 true _ ?side1 ?side2 A12.out).mono ?_); (case side1 => exact Kd.C_below HR110_1.out hB_); (case side2 => exact HC110_1.out); rintro e w' ⟨rfl, ⟨nd, rfl⟩⟩))
          go_meet
          case rel => exact ⟨_, (true), yactNeededForx2_0_, H', ⟨yactNeededForx2_2_⟩, ⟨yactNeededForx2_3_⟩, ⟨hB_⟩⟩
         ·replace c13 := Bool.eq_false_iff.mpr c13
          subst c13
          replace H := in_ H (show ¬ (false = true) by decide)
          replace H := Option.bind_eq_some_iff.mp H
          obtain ⟨t115, A150, H⟩ := H
          try dsimp only at H
          have A15 := Aside0.mk A150
          clear A150
          have H' := Aside0.mk H
          clear H
          have hz16 := cf3_ BK111.out
          go_wp2_with (first | ((with_reducible refine gate_callee (f := 33) rfl ?_); refine goesM_ (some 16) Try.func33 #[.string ((rd_T43 l0 x9_1).f0)] ?_; (with_reducible refine (spec_enGloss.calls k1 ((rd_T43 l0 x9_1).f0) true _ A8.out).mono ?_); rintro e w' ⟨rfl, ⟨nd, rfl⟩⟩; refine ⟨_, rfl, ?_⟩) | (go_at_call 34; (with_reducible refine (spec_l1Rising.calls k1 _ _ ((rd_T43 l0 x9_1).f1) 0 (wrap64 ((l0.length : Int) - 1)) true _ ?side1 ?side2 A10.out).mono ?_); (case side1 => exact Kd.C_below HR110_1.out hB_); (case side2 => exact HC110_1.out); rintro e w' ⟨rfl, ⟨nd, rfl⟩⟩) | (go_at_call 19; (with_reducible refine (spec_l1Has.calls k1 _ _ ((rd_T43 l0 x9_1).f1) x9_1 false _ ?side1 ?side2 A12.out).mono ?_); (case side1 => exact Kd.C_below HR110_1.out hB_); (case side2 => exact HC110_1.out); rintro e w' ⟨rfl, ⟨nd, rfl⟩⟩) | (go_at_call 18; (with_reducible refine (spec_l1In.calls ((rd_T43 l0 x9_1).f2) 0 99999 t115 _ A15.out).mono ?_); rintro e w' ⟨rfl, ⟨nd, rfl⟩⟩))
          go_meet
          case rel => exact ⟨_, (!t115), yactNeededForx2_0_, H', ⟨yactNeededForx2_2_⟩, ⟨yactNeededForx2_3_⟩, ⟨hB_⟩⟩
        ·replace c11 := Bool.eq_false_iff.mpr c11
         subst c11
         replace H := in_ H (show ¬ (false = true) by decide)
         have H' := Aside0.mk H
         clear H
         have hz17 := cf3_ BK111.out
         go_wp2_with (first | ((with_reducible refine gate_callee (f := 33) rfl ?_); refine goesM_ (some 16) Try.func33 #[.string ((rd_T43 l0 x9_1).f0)] ?_; (with_reducible refine (spec_enGloss.calls k1 ((rd_T43 l0 x9_1).f0) true _ A8.out).mono ?_); rintro e w' ⟨rfl, ⟨nd, rfl⟩⟩; refine ⟨_, rfl, ?_⟩) | (go_at_call 34; (with_reducible refine (spec_l1Rising.calls k1 _ _ ((rd_T43 l0 x9_1).f1) 0 (wrap64 ((l0.length : Int) - 1)) false _ ?side1 ?side2 A10.out).mono ?_); (case side1 => exact Kd.C_below HR110_1.out hB_); (case side2 => exact HC110_1.out); rintro e w' ⟨rfl, ⟨nd, rfl⟩⟩))
         go_meet
         case rel => exact ⟨_, (true), yactNeededForx2_0_, H', ⟨yactNeededForx2_2_⟩, ⟨yactNeededForx2_3_⟩, ⟨hB_⟩⟩
       ·replace c9 := Bool.eq_false_iff.mpr c9
        subst c9
        replace H := in_ H (show ¬ (false = true) by decide)
        have H' := Aside0.mk H
        clear H
        have hz18 := cf3_ BK111.out
        go_wp2_with (first | ((with_reducible refine gate_callee (f := 33) rfl ?_); refine goesM_ (some 16) Try.func33 #[.string ((rd_T43 l0 x9_1).f0)] ?_; (with_reducible refine (spec_enGloss.calls k1 ((rd_T43 l0 x9_1).f0) false _ A8.out).mono ?_); rintro e w' ⟨rfl, ⟨nd, rfl⟩⟩; refine ⟨_, rfl, ?_⟩))
        go_meet
        case rel => exact ⟨_, (true), yactNeededForx2_0_, H', ⟨yactNeededForx2_2_⟩, ⟨yactNeededForx2_3_⟩, ⟨hB_⟩⟩
      case rest =>
       clear HC5
       (try clear c2);(try clear c2b0);(try clear c3);(try clear c3b0);(try clear c4);(try clear c4b0);(try clear hcz7_0);(try clear hcz7_1);(try clear hcz7_2);(try clear hfz7_0);(try clear hfz7_1);(try clear hfz7_2);(try clear hx110_0);(try clear hx110_1);(try clear hx110_2);(try clear p110);(try clear q110)
       obtain ⟨kq, x38_4, rfl, HA, HJ4, BK111, HB⟩ := hcut
       cases kq with
       | zero => exact absurd HA.out (by simp [spec_leGood.j1])
       | succ kj4 =>
        have H := HA.out
        clear HA
        simp only [spec_leGood.j1] at H
        by_cases c19 : x38_4 = true
        ·subst c19
         replace H := ip_ H rfl
         obtain rfl := Option.some.inj H
         go_wp2
         go_ret
         exact ⟨rT_, hB_⟩
        ·replace c19 := Bool.eq_false_iff.mpr c19
         subst c19
         replace H := in_ H (show ¬ (false = true) by decide)
         by_cases c20 : 0 ≤ x9_1
         ·rw [if_pos c20] at H
          have c20b0 := eq_true c20
          have c20b1 : decide (0 ≤ x9_1) = true := decide_eq_true c20
          clear c20
          by_cases c21 : x9_1 ≤ (l0.length : Int)
          ·rw [if_pos c21] at H
           have c21b0 := eq_true c21
           have c21b1 : decide (x9_1 ≤ (l0.length : Int)) = true := decide_eq_true c21
           clear c21
           obtain ⟨y116, hy116⟩ : ∃ y_ : List (S43), y_ = (l0.take (x9_1 : Int).toNat) := ⟨_, rfl⟩
           replace H : (spec_leGood.l1 kj4 l0 l0 (l0.length : Int) x9_1 y116 (y116.length : Int) 0 ((rd_T43 l0 x9_1).f0) ((rd_T43 l0 x9_1).f1) ((rd_T43 l0 x9_1).f2)) = some r := by first | (rw [hy116]; with_reducible exact H) | (have H2_ := (Option.bind_some _ _).symm.trans H; rw [hy116]; with_reducible exact H2_) | (have H2_ := (Option.bind_some _ _).symm.trans H; with_reducible exact H2_) | with_reducible exact H | (rw [hy116]; exact H) | exact H
           have Ny116 := Aside0.mk hy116
           clear hy116
           have H' := Aside0.mk H
           clear H
           have q22 : (x9_1 : Int) ≤ ((l0.length : Int) : Int) := of_decide_eq_true yactNeededForx2_1_
           obtain ⟨i022, hi022, _, hsz22, _⟩ := info_parts info43
           have hroom22 : l0.length ≤ c0 := HC0.out
           have hC22 : Kd.C k43 _ (some ad110) l0.length l0 := HR0.out
           have hcut22 := cut_to (P := Try.prog) 27 43 .i64 Try.underlying27 hi022 (some ad110) l0.length c0 x9_1 (of_decide_eq_true yactNeededForx2_1_) q22 hroom22
           have hr22 := Kd.C_take (m := (x9_1 : Int).toNat) hC22 (by omega)
           have hy22 : y116.length = (x9_1 : Int).toNat := (by rw [Ny116.out, List.length_take]; omega)
           rw [← Ny116.out] at hr22
           rw [← hy22] at hcut22
           have HR119 := Aside0.mk hr22
           have HC119 := Aside0.mk (show y116.length ≤ c0 from by omega)
           clear hr22 hC22 hroom22 hi022 hsz22
           have KY22 := Aside0.mk hy22
           clear hy22
           replace q22 := eq_true q22
           go_wp2
           go_loopg [43] kj4 (fun kq v43 w' => ∃ (x43_3 : Int), v43 = .int .i64 x43_3 ∧ Aside0 (spec_leGood.l1 kq l0 l0 (l0.length : Int) x9_1 y116 (y116.length : Int) x43_3 ((rd_T43 l0 x9_1).f0) ((rd_T43 l0 x9_1).f1) ((rd_T43 l0 x9_1).f2) = some r) ∧ Aside0 (kq ≤ kj4) ∧ Aside0 (w'.heap[gb111]? = some (.cells #[.string ((rd_T43 l0 x9_1).f0), (.slice A110_1 ((rd_T43 l0 x9_1).f1).length c110_1), .int .i64 ((rd_T43 l0 x9_1).f2)] 43 (0, 0))) ∧ Aside0 (Below w.heap.size w w'))
           case atStart => exact ⟨(0), yactNeededForx2_0_, H', ⟨Nat.le_refl _⟩, ⟨kP_⟩, ⟨hB_⟩⟩
           case round =>
            clear H'
            (try clear c2);(try clear c2b0);(try clear c3);(try clear c3b0);(try clear c4);(try clear c4b0);(try clear c19);(try clear c20);(try clear c20b0);(try clear c20b1);(try clear c21);(try clear c21b0);(try clear c21b1);(try clear q22);(try clear hcz7_0);(try clear hcz7_1);(try clear hcz7_2);(try clear hfz7_0);(try clear hfz7_1);(try clear hfz7_2);(try clear hx110_0);(try clear hx110_1);(try clear hx110_2);(try clear p110);(try clear q110);(try clear q22)
            obtain ⟨x43_3, rfl, HA, HK3, BK111, HB⟩ := hrel
            cases gk with
            | zero => exact absurd HA.out (by simp [spec_leGood.l1])
            | succ k3 =>
             have H := HA.out
             clear HA
             simp only [spec_leGood.l1] at H
             by_cases c23 : x43_3 < (y116.length : Int)
             ·rw [if_pos c23] at H
              have c23b0 : decide (x43_3 < (y116.length : Int)) = true := decide_eq_true c23
              clear c23
              by_cases c24 : 0 ≤ x43_3
              ·rw [if_pos c24] at H
               have c24b0 : decide (0 ≤ x43_3) = true := decide_eq_true c24
               clear c24
               by_cases c25 : x43_3 < (y116.length : Int)
               ·rw [if_pos c25] at H
                have c25b0 : decide (x43_3 < (y116.length : Int)) = true := decide_eq_true c25
                clear c25
                by_cases c26 : ((rd_T43 y116 x43_3).f0).toList = ((rd_T43 l0 x9_1).f0).toList
                ·rw [if_pos c26] at H
                 have c26b0 : (((rd_T43 y116 x43_3).f0).toList == ((rd_T43 l0 x9_1).f0).toList) = true := beq_iff_eq.mpr c26
                 have c26b1 : (((rd_T43 y116 x43_3).f0).toList != ((rd_T43 l0 x9_1).f0).toList) = false := bne_eq_false_iff_eq.mpr c26
                 clear c26
                 obtain rfl := Option.some.inj H
                 have p120 : 0 ≤ (x43_3 : Int) := of_decide_eq_true yactNeededForx2_1_
                 have q120 : x43_3 < (y116.length : Int) := of_decide_eq_true yactNeededForx2_1_
                 obtain ⟨ad120, A120_1, c120_1, e120, hx120_0, hx120_1, hx120_2, hl120_1, hi120_1⟩ := at_T43 HR119.out x43_3 p120 q120
                 obtain rfl : ad110 = ad120 := (by injection e120)
                 replace hx120_0 := (HB.out.cell (World.block_lt_of_cell? w _ hx120_0)).trans hx120_0
                 replace hx120_1 := (HB.out.cell (World.block_lt_of_cell? w _ hx120_1)).trans hx120_1
                 replace hx120_2 := (HB.out.cell (World.block_lt_of_cell? w _ hx120_2)).trans hx120_2
                 have HR120_1 := Aside0.mk hi120_1
                 have HC120_1 := Aside0.mk hl120_1
                 clear hi120_1 hl120_1
                 replace p120 := eq_true p120
                 replace q120 := eq_true q120
                 go_wp2_with (first | ((with_reducible refine gate_dst (N := 6) rfl ?_); (try (refine gate_guard (by rfl) ?_; dsimp only)); refine box_event ?hg (N := 6) ?hd (cs := #[.string (⟨#[]⟩ : ByteArray), .slice none 0 0, .int .i64 0]) (t := 43) ?hr ?_; (case hd => rfl); (case hg => rfl); (case hr => first | (go_simp; done) | (go_simp; rfl)); intro gb121 hg w27 hbox hb; have BK121 := aM_ (hbox); have GW121 := aM_ (gw_ w hg); have GE121 := aM_ (gw_ w hg); have NB111_121 := aM_ (nR_ BK111 hg); have NB121_111 := aM_ (mR_ BK111 hg); replace BK111 := aM_ (blk_below (g := gb111) (kR_ BK111) hb); replace HB := aM_ (below_step hB_ hb); clear hb hbox hg; have hnb28 := NB121_111.out; have hnc28 := NB111_121.out; have hz29 := cf3_ BK121.out; have hz30 := cf3_ BK111.out))
                 go_ret
                 exact ⟨rT_, hB_⟩
                ·rw [if_neg c26] at H
                 have c26b0 : (((rd_T43 y116 x43_3).f0).toList == ((rd_T43 l0 x9_1).f0).toList) = false := beq_eq_false_iff_ne.mpr c26
                 have c26b1 : (((rd_T43 y116 x43_3).f0).toList != ((rd_T43 l0 x9_1).f0).toList) = true := bne_iff_ne.mpr c26
                 have H' := Aside0.mk H
                 clear H
                 have p120 : 0 ≤ (x43_3 : Int) := of_decide_eq_true yactNeededForx2_1_
                 have q120 : x43_3 < (y116.length : Int) := of_decide_eq_true yactNeededForx2_1_
                 obtain ⟨ad120, A120_1, c120_1, e120, hx120_0, hx120_1, hx120_2, hl120_1, hi120_1⟩ := at_T43 HR119.out x43_3 p120 q120
                 obtain rfl : ad110 = ad120 := (by injection e120)
                 replace hx120_0 := (HB.out.cell (World.block_lt_of_cell? w _ hx120_0)).trans hx120_0
                 replace hx120_1 := (HB.out.cell (World.block_lt_of_cell? w _ hx120_1)).trans hx120_1
                 replace hx120_2 := (HB.out.cell (World.block_lt_of_cell? w _ hx120_2)).trans hx120_2
                 have HR120_1 := Aside0.mk hi120_1
                 have HC120_1 := Aside0.mk hl120_1
                 clear hi120_1 hl120_1
                 replace p120 := eq_true p120
                 replace q120 := eq_true q120
                 go_wp2_with (first | ((with_reducible refine gate_dst (N := 6) rfl ?_); (try (refine gate_guard (by rfl) ?_; dsimp only)); refine box_event ?hg (N := 6) ?hd (cs := #[.string (⟨#[]⟩ : ByteArray), .slice none 0 0, .int .i64 0]) (t := 43) ?hr ?_; (case hd => rfl); (case hg => rfl); (case hr => first | (go_simp; done) | (go_simp; rfl)); intro gb121 hg w31 hbox hb; have BK121 := aM_ (hbox); have GW121 := aM_ (gw_ w hg); have GE121 := aM_ (gw_ w hg); have NB111_121 := aM_ (nR_ BK111 hg); have NB121_111 := aM_ (mR_ BK111 hg); replace BK111 := aM_ (blk_below (g := gb111) (kR_ BK111) hb); replace HB := aM_ (below_step hB_ hb); clear hb hbox hg; have hnb32 := NB121_111.out; have hnc32 := NB111_121.out; have hz33 := cf3_ BK121.out; have hz34 := cf3_ BK111.out))
                 go_roundg k3
                 case measure => have := HK1.out; have := HJ4.out; have := HK3.out; omega
                 case rel => exact ⟨(wrap64 (x43_3 + 1)), yactNeededForx2_0_, H', ⟨by have := HK1.out; have := HJ4.out; have := HK3.out; omega⟩, ⟨by (with_reducible repeat (first | apply kN_ | apply kD_ | apply kA_)); refine blk_far ?_ NB111_121.out _; (with_reducible repeat (first | apply kN_ | apply kD_ | apply kA_)); refine blk_far ?_ NB111_121.out _; (with_reducible repeat (first | apply kN_ | apply kD_ | apply kA_)); refine blk_far ?_ NB111_121.out _; (with_reducible repeat (first | apply kN_ | apply kD_ | apply kA_)); exact BK111.out⟩, ⟨hB_⟩⟩
               ·rw [if_neg c25] at H
                exact absurd H (by simp)
              ·rw [if_neg c24] at H
               exact absurd H (by simp)
             ·rw [if_neg c23] at H
              have c23b0 : decide (x43_3 < (y116.length : Int)) = false := decide_eq_false c23
              clear c23
              have H' := Aside0.mk H
              clear H
              go_wp2
              go_roundg k3
              case measure => have := HK1.out; have := HJ4.out; have := HK3.out; omega
              case rel => exact ⟨(wrap64 (x9_1 + 1)), yactNeededForx2_0_, H', ⟨by have := HK1.out; have := HJ4.out; have := HK3.out; omega⟩, ⟨hB_⟩⟩
          ·rw [if_neg c21] at H
           exact absurd H (by simp)
         ·rw [if_neg c20] at H
          exact absurd H (by simp)
     ·rw [if_neg c4] at H
      exact absurd H (by simp)
    ·rw [if_neg c3] at H
     exact absurd H (by simp)
   ·rw [if_neg c2] at H
    have c2b0 : decide (x9_1 < (l0.length : Int)) = false := decide_eq_false c2
    clear c2
    obtain rfl := Option.some.inj H
    go_wp2
    go_ret
    exact ⟨rT_, hB_⟩

/-! ### spec_l1Own: function 35 -/
set_option maxHeartbeats 8000000 in
set_option maxRecDepth 100000 in
theorem spec_l1Own.calls (A0 : Option Addr) (c0 : Nat) (l0 : List Int) (r : List Int) (w : World) (hr0 : Kd.C (Kd.int .i64) w A0 l0.length l0) (hc0 : l0.length ≤ c0) (h : spec_l1Own.f l0 = some r) :
 Calls Try.prog 35 #[.slice A0 l0.length c0] w fun e w' => ∃ v0_ : Value, e = .returned (v0_) ∧ Kd.R (Kd.int .i64) 3 w' w.heap.size (fun _ => True) v0_ r ∧ Below w.heap.size w w' := by
 have HR0 := Aside0.mk hr0
 have HC0 := Aside0.mk hc0
 clear hr0 hc0
 have HB := Aside0.mk (Below.refl w.heap.size w)
 have H : ((some (([] : List Int) : List Int)).bind fun y122 => (if y122.length + l0.length < 17592186044416 then (some (y122 ++ l0)) else (none))) = some r := h
 clear h
 obtain ⟨y122, hy122⟩ : ∃ y_ : List Int, y_ = (([] : List Int)) := ⟨_, rfl⟩
 replace H : (if y122.length + l0.length < 17592186044416 then (some (y122 ++ l0)) else (none)) = some r := by first | (rw [hy122]; with_reducible exact H) | (have H2_ := (Option.bind_some _ _).symm.trans H; rw [hy122]; with_reducible exact H2_) | (have H2_ := (Option.bind_some _ _).symm.trans H; with_reducible exact H2_) | with_reducible exact H | (rw [hy122]; exact H) | exact H
 have Ny122 := Aside0.mk hy122
 clear hy122
 by_cases c2 : y122.length + l0.length < 17592186044416
 ·rw [if_pos c2] at H
  have LMc2 := Aside0.mk c2
  clear c2
  obtain ⟨y125, hy125⟩ : ∃ y_ : List Int, y_ = (y122 ++ l0) := ⟨_, rfl⟩
  replace H : (some y125) = some r := by first | (rw [hy125]; with_reducible exact H) | (have H2_ := (Option.bind_some _ _).symm.trans H; rw [hy125]; with_reducible exact H2_) | (have H2_ := (Option.bind_some _ _).symm.trans H; with_reducible exact H2_) | with_reducible exact H | (rw [hy125]; exact H) | exact H
  have Ny125 := Aside0.mk hy125
  clear hy125
  obtain rfl := Option.some.inj H
  go_enter Try.func35, Try.ntmps35
  go_wp2_with (first | ((with_reducible refine gate_dst (N := 3) rfl ?_); refine Kd.R_lit (Kd.int .i64) _ 3 ?hg (N := 3) ?hd (xs := ([] : List Int)) (inner := []) (ok := fun _ => True) (okp := fun _ => True) ?hr ?hp (fun _ hk => hk) trivial (Below.refl _ _) (Nat.le_refl _) (by simp) ?_; (case hd => rfl); (case hg => rfl); (case hr => first | (go_simp; done) | (go_simp; rfl)); (case hp => exact (Reps.none _ _)); intro v123 w3 ho4 hb hg_ hnew_; clear hg_ hnew_; (first | rw [← Ny122.out] at ho4 | (simp only [Int.reduceToNat] at ho4; rw [← Ny122.out] at ho4)); have HO124 := aM_ (Kd.R_lower ho4 (below_size hB_)); replace HB := aM_ (below_step hB_ hb); clear hb ho4) | ((with_reducible refine gate_builtin (b := .append) (xs := #[.tmp 3, .tmp 4]) rfl ?_); at_builtin; refine Kd.R_append_rows (Kd.int .i64) (w0 := w) w.heap.size rfl (.tmp 3) (.tmp 4) 24 3 (.int .i64 0) 8 rfl Try.underlying24 info3 rfl (by decide) (by omega) v123 y122 l0 _ _ _ (fun _ => True) (fun _ => False) rfl rfl ?aO ?aR (fun _ _ h => h) (fun _ h => h.elim) ?aF ?aB ?aS ?aL ?_; (case aR => repeat (first | exact (Kd.C_below HR0.out HB.out) | (with_reducible refine Kd.C_alloc ?_ _) | (with_reducible refine Kd.C_drewN ?_ _) | (with_reducible refine Kd.C_drew ?_))); (case aB => exact hB_); (case aF => exact (fun _ _ => trivial)); (case aO => exact (by (with_reducible repeat (first | apply Kd.R_alloc | apply Kd.R_drewN | apply Kd.R_drew)); exact HO124.out)); (case aS => exact (below_size hB_)); (case aL => have := LMc2.out; omega); intro v126 w5 ho hb hg hat; rw [← Ny125.out] at ho; have HO127 := aM_ (ho); replace HB := aM_ (hb); clear HO124; clear ho hb hg hat))
  go_ret
  exact ⟨_, rT_, by (with_reducible repeat (first | apply Kd.R_alloc | apply Kd.R_drewN | apply Kd.R_drew)); exact HO127.out, hB_⟩
 ·rw [if_neg c2] at H
  exact absurd H (by simp)

/-! ### spec_l1Put: function 36 -/
set_option maxHeartbeats 8000000 in
set_option maxRecDepth 100000 in
theorem spec_l1Put.calls (k : Nat) (P0_ : Nat → Prop) (u9000_ : Value) (l0 : List Int) (a1 : Int) (r : List Int) (w0 w : World) (hB : Below w0.heap.size w0 w) (ho0 : Kd.R (Kd.int .i64) 3 w w0.heap.size P0_ u9000_ l0) (h : spec_l1Put.f k l0 a1 = some r) :
 Calls Try.prog 36 #[u9000_, .int .i64 a1] w fun e w' => ∃ v0_ : Value, e = .returned (v0_) ∧ Kd.R (Kd.int .i64) 3 w' w0.heap.size (fun k_ => (P0_ k_ ∨ w.heap.size ≤ k_)) v0_ r ∧ Below w0.heap.size w0 w' ∧ Kept w w' (fun k_ => P0_ k_) := by
 have HO0 := Aside0.mk (show Kd.R (Kd.int .i64) 3 w w0.heap.size (fun k_ => (P0_ k_ ∨ w.heap.size ≤ k_)) u9000_ l0 from Kd.R_mono ho0 (fun k_ hk => (.inl hk)))
 have HK := Aside0.mk (Kept.refl w (fun k_ => P0_ k_))
 have HW0 := Aside0.mk hB.size
 have HB := Aside0.mk hB
 clear hB
 have H : (spec_l1Put.l0 k l0 a1 0) = some r := h
 clear h
 have H' := Aside0.mk H
 clear H
 go_enter Try.func36, Try.ntmps36
 go_wp2
 go_loopg [5] k (fun kq v5 w' => ∃ (x5_1 : Int), v5 = .int .i64 x5_1 ∧ Aside0 (spec_l1Put.l0 kq l0 a1 x5_1 = some r) ∧ Aside0 (kq ≤ k) ∧ Aside0 (Kd.R (Kd.int .i64) 3 w' w0.heap.size (fun k_ => (P0_ k_ ∨ w.heap.size ≤ k_)) u9000_ l0) ∧ Aside0 (Kept w w' (fun k_ => P0_ k_)) ∧ Aside0 (Below w0.heap.size w0 w'))
 case atStart => exact ⟨(0), yactNeededForx2_0_, H', ⟨Nat.le_refl _⟩, ⟨by (with_reducible repeat (first | apply Kd.R_alloc | apply Kd.R_drewN | apply Kd.R_drew)); exact HO0.out⟩, ⟨yactNeededForx2_4_⟩, ⟨hB_⟩⟩
 case round =>
  clear H'
  obtain ⟨x5_1, rfl, HA, HK1, HO_0, HK, HB⟩ := hrel
  cases gk with
  | zero => exact absurd HA.out (by simp [spec_l1Put.l0])
  | succ k1 =>
   have H := HA.out
   clear HA
   simp only [spec_l1Put.l0] at H
   by_cases c3 : x5_1 < (l0.length : Int)
   ·rw [if_pos c3] at H
    have c3b0 : decide (x5_1 < (l0.length : Int)) = true := decide_eq_true c3
    clear c3
    by_cases c4 : 0 ≤ x5_1
    ·rw [if_pos c4] at H
     have c4b0 : decide (0 ≤ x5_1) = true := decide_eq_true c4
     clear c4
     by_cases c5 : (rd l0 x5_1) < a1
     ·rw [if_pos c5] at H
      have c5b0 : decide ((rd l0 x5_1) < a1) = true := decide_eq_true c5
      clear c5
      have H' := Aside0.mk H
      clear H
      obtain ⟨Ao6, co6, eo6⟩ := Kd.R_slice HO_0.out
      subst eo6
      have p128 : 0 ≤ (x5_1 : Int) := of_decide_eq_true yactNeededForx2_1_
      have q128 : x5_1 < (l0.length : Int) := of_decide_eq_true yactNeededForx2_1_
      obtain ⟨ad128, e128, hx128_0⟩ := Kd.at_int (Kd.R_reads' HO_0.out).2.2 x5_1 p128 q128
      cases e128
      replace p128 := eq_true p128
      replace q128 := eq_true q128
      go_wp2
      go_roundg k1
      case measure => have := HK1.out; omega
      case rel => exact ⟨(wrap64 (x5_1 + 1)), yactNeededForx2_0_, H', ⟨by have := HK1.out; omega⟩, ⟨yactNeededForx2_5_⟩, ⟨yactNeededForx2_4_⟩, ⟨hB_⟩⟩
     ·rw [if_neg c5] at H
      have c5b0 : decide ((rd l0 x5_1) < a1) = false := decide_eq_false c5
      clear c5
      by_cases c7 : (rd l0 x5_1) = a1
      ·rw [if_pos c7] at H
       have c7b0 : ((rd l0 x5_1) == a1) = true := beq_iff_eq.mpr c7
       have c7b1 : ((rd l0 x5_1) != a1) = false := bne_eq_false_iff_eq.mpr c7
       clear c7
       obtain rfl := Option.some.inj H
       obtain ⟨Ao8, co8, eo8⟩ := Kd.R_slice HO_0.out
       subst eo8
       have p128 : 0 ≤ (x5_1 : Int) := of_decide_eq_true yactNeededForx2_1_
       have q128 : x5_1 < (l0.length : Int) := of_decide_eq_true yactNeededForx2_1_
       obtain ⟨ad128, e128, hx128_0⟩ := Kd.at_int (Kd.R_reads' HO_0.out).2.2 x5_1 p128 q128
       cases e128
       replace p128 := eq_true p128
       replace q128 := eq_true q128
       have p129 : 0 ≤ (x5_1 : Int) := of_decide_eq_true yactNeededForx2_1_
       have q129 : x5_1 < (l0.length : Int) := of_decide_eq_true yactNeededForx2_1_
       obtain ⟨ad129, e129, hx129_0⟩ := Kd.at_int (Kd.R_reads' HO_0.out).2.2 x5_1 p129 q129
       obtain rfl : ad128 = ad129 := (by injection e129)
       replace p129 := eq_true p129
       replace q129 := eq_true q129
       go_wp2
       go_ret
       exact ⟨_, rT_, yactNeededForx2_5_, hB_, yactNeededForx2_4_⟩
      ·rw [if_neg c7] at H
       have c7b0 : ((rd l0 x5_1) == a1) = false := beq_eq_false_iff_ne.mpr c7
       have c7b1 : ((rd l0 x5_1) != a1) = true := bne_iff_ne.mpr c7
       obtain ⟨y130, hy130⟩ : ∃ y_ : List Int, y_ = (([] : List Int)) := ⟨_, rfl⟩
       replace H : (if x5_1 ≤ (l0.length : Int) then ((some (l0.take (x5_1 : Int).toNat : List Int)).bind fun y133 => (if y130.length + y133.length < 17592186044416 then ((some (y130 ++ y133 : List Int)).bind fun y137 => (if y137.length < 17592186044416 then ((some (y137 ++ [a1] : List Int)).bind fun y140 => ((some (l0.drop (x5_1 : Int).toNat : List Int)).bind fun y143 => (if y140.length + y143.length < 17592186044416 then (some (y140 ++ y143)) else (none)))) else (none))) else (none))) else (none)) = some r := by first | (rw [hy130]; with_reducible exact H) | (have H2_ := (Option.bind_some _ _).symm.trans H; rw [hy130]; with_reducible exact H2_) | (have H2_ := (Option.bind_some _ _).symm.trans H; with_reducible exact H2_) | with_reducible exact H | (rw [hy130]; exact H) | exact H
       have Ny130 := Aside0.mk hy130
       clear hy130
       have c9b0 := eq_true (of_decide_eq_true yactNeededForx2_1_ : 0 ≤ x5_1)
       by_cases c10 : x5_1 ≤ (l0.length : Int)
       ·rw [if_pos c10] at H
        have c10b0 := eq_true c10
        have c10b1 : decide (x5_1 ≤ (l0.length : Int)) = true := decide_eq_true c10
        clear c10
        obtain ⟨y133, hy133⟩ : ∃ y_ : List Int, y_ = (l0.take (x5_1 : Int).toNat) := ⟨_, rfl⟩
        replace H : (if y130.length + y133.length < 17592186044416 then ((some (y130 ++ y133 : List Int)).bind fun y137 => (if y137.length < 17592186044416 then ((some (y137 ++ [a1] : List Int)).bind fun y140 => ((some (l0.drop (x5_1 : Int).toNat : List Int)).bind fun y143 => (if y140.length + y143.length < 17592186044416 then (some (y140 ++ y143)) else (none)))) else (none))) else (none)) = some r := by first | (rw [hy133]; with_reducible exact H) | (have H2_ := (Option.bind_some _ _).symm.trans H; rw [hy133]; with_reducible exact H2_) | (have H2_ := (Option.bind_some _ _).symm.trans H; with_reducible exact H2_) | with_reducible exact H | (rw [hy133]; exact H) | exact H
        have Ny133 := Aside0.mk hy133
        clear hy133
        by_cases c11 : y130.length + y133.length < 17592186044416
        ·rw [if_pos c11] at H
         have LMc11 := Aside0.mk c11
         clear c11
         obtain ⟨y137, hy137⟩ : ∃ y_ : List Int, y_ = (y130 ++ y133) := ⟨_, rfl⟩
         replace H : (if y137.length < 17592186044416 then ((some (y137 ++ [a1] : List Int)).bind fun y140 => ((some (l0.drop (x5_1 : Int).toNat : List Int)).bind fun y143 => (if y140.length + y143.length < 17592186044416 then (some (y140 ++ y143)) else (none)))) else (none)) = some r := by first | (rw [hy137]; with_reducible exact H) | (have H2_ := (Option.bind_some _ _).symm.trans H; rw [hy137]; with_reducible exact H2_) | (have H2_ := (Option.bind_some _ _).symm.trans H; with_reducible exact H2_) | with_reducible exact H | (rw [hy137]; exact H) | exact H
         have Ny137 := Aside0.mk hy137
         clear hy137
         by_cases c12 : y137.length < 17592186044416
         ·rw [if_pos c12] at H
          have LMc12 := Aside0.mk c12
          clear c12
          obtain ⟨y140, hy140⟩ : ∃ y_ : List Int, y_ = (y137 ++ [a1]) := ⟨_, rfl⟩
          replace H : ((some (l0.drop (x5_1 : Int).toNat : List Int)).bind fun y143 => (if y140.length + y143.length < 17592186044416 then (some (y140 ++ y143)) else (none))) = some r := by first | (rw [hy140]; with_reducible exact H) | (have H2_ := (Option.bind_some _ _).symm.trans H; rw [hy140]; with_reducible exact H2_) | (have H2_ := (Option.bind_some _ _).symm.trans H; with_reducible exact H2_) | with_reducible exact H | (rw [hy140]; exact H) | exact H
          have Ny140 := Aside0.mk hy140
          clear hy140
          have c13b0 := eq_true (of_decide_eq_true yactNeededForx2_1_ : 0 ≤ x5_1)
          have c14b0 := eq_true (of_decide_eq_true yactNeededForx2_1_ : x5_1 ≤ (l0.length : Int))
          obtain ⟨y143, hy143⟩ : ∃ y_ : List Int, y_ = (l0.drop (x5_1 : Int).toNat) := ⟨_, rfl⟩
          replace H : (if y140.length + y143.length < 17592186044416 then (some (y140 ++ y143)) else (none)) = some r := by first | (rw [hy143]; with_reducible exact H) | (have H2_ := (Option.bind_some _ _).symm.trans H; rw [hy143]; with_reducible exact H2_) | (have H2_ := (Option.bind_some _ _).symm.trans H; with_reducible exact H2_) | with_reducible exact H | (rw [hy143]; exact H) | exact H
          have Ny143 := Aside0.mk hy143
          clear hy143
          by_cases c15 : y140.length + y143.length < 17592186044416
          ·rw [if_pos c15] at H
           have LMc15 := Aside0.mk c15
           clear c15
           obtain ⟨y147, hy147⟩ : ∃ y_ : List Int, y_ = (y140 ++ y143) := ⟨_, rfl⟩
           replace H : (some y147) = some r := by first | (rw [hy147]; with_reducible exact H) | (have H2_ := (Option.bind_some _ _).symm.trans H; rw [hy147]; with_reducible exact H2_) | (have H2_ := (Option.bind_some _ _).symm.trans H; with_reducible exact H2_) | with_reducible exact H | (rw [hy147]; exact H) | exact H
           have Ny147 := Aside0.mk hy147
           clear hy147
           obtain rfl := Option.some.inj H
           obtain ⟨Ao16, co16, eo16⟩ := Kd.R_slice HO_0.out
           subst eo16
           have p128 : 0 ≤ (x5_1 : Int) := of_decide_eq_true yactNeededForx2_1_
           have q128 : x5_1 < (l0.length : Int) := of_decide_eq_true yactNeededForx2_1_
           obtain ⟨ad128, e128, hx128_0⟩ := Kd.at_int (Kd.R_reads' HO_0.out).2.2 x5_1 p128 q128
           cases e128
           replace p128 := eq_true p128
           replace q128 := eq_true q128
           have p129 : 0 ≤ (x5_1 : Int) := of_decide_eq_true yactNeededForx2_1_
           have q129 : x5_1 < (l0.length : Int) := of_decide_eq_true yactNeededForx2_1_
           obtain ⟨ad129, e129, hx129_0⟩ := Kd.at_int (Kd.R_reads' HO_0.out).2.2 x5_1 p129 q129
           obtain rfl : ad128 = ad129 := (by injection e129)
           replace p129 := eq_true p129
           replace q129 := eq_true q129
           go_wp2_with (first | ((with_reducible refine gate_dst (N := 34) rfl ?_); refine Kd.R_lit (Kd.int .i64) _ 3 ?hg (N := 34) ?hd (xs := ([] : List Int)) (inner := []) (ok := fun _ => True) (okp := fun _ => True) ?hr ?hp (fun _ hk => hk) trivial (Below.refl _ _) (Nat.le_refl _) (by simp) ?_; (case hd => rfl); (case hg => rfl); (case hr => first | (go_simp; done) | (go_simp; rfl)); (case hp => exact (Reps.none _ _)); intro v131 w17 ho18 hb hg_ hnew_; clear hg_ hnew_; (first | rw [← Ny130.out] at ho18 | (simp only [Int.reduceToNat] at ho18; rw [← Ny130.out] at ho18)); have HO132 := aM_ (Kd.R_lower (Kd.R_new' (Kd.R_newM (M := fun k_ => (P0_ k_ ∨ w.heap.size ≤ k_)) ho18 yactNeededForx2_6_ (fun k_ h_ => .inr h_)) (Kd.R_lt yactNeededForx2_5_)) (below_size hB_)); replace HO_0 := aM_ (Kd.R_elder' yactNeededForx2_5_ (Kd.R_base ho18) hb); replace HK := aM_ (Kept.below (S := (fun k_ => P0_ k_)) yactNeededForx2_4_ hb); replace HB := aM_ (below_step hB_ hb); clear hb ho18; have q19 : (x5_1 : Int) ≤ ((l0.length : Int) : Int) := of_decide_eq_true yactNeededForx2_1_; obtain ⟨i019, hi019, _, hsz19, _⟩ := info_parts info3; have hroom19 : l0.length ≤ co16 := (Kd.R_reads' HO_0.out).2.1; have hC19 : Kd.C (Kd.int .i64) _ (some ad128) l0.length l0 := (Kd.R_reads' HO_0.out).2.2; have hcut19 := cut_to (P := Try.prog) 24 3 .i64 Try.underlying24 hi019 (some ad128) l0.length co16 x5_1 (of_decide_eq_true yactNeededForx2_1_) q19 hroom19; have hr19 := Kd.C_take (m := (x5_1 : Int).toNat) hC19 (by omega); have hy19 : y133.length = (x5_1 : Int).toNat := (by rw [Ny133.out, List.length_take]; omega); rw [← Ny133.out] at hr19; rw [← hy19] at hcut19; have HR136 := Aside0.mk hr19; have HC136 := Aside0.mk (show y133.length ≤ co16 from by omega); clear hr19 hC19 hroom19 hi019 hsz19; have KY19 := Aside0.mk hy19; clear hy19; have KL19 := Aside0.mk (show (x5_1 : Int).toNat ≤ l0.length from by omega); replace q19 := eq_true q19) | ((with_reducible refine gate_builtin (b := .append) (xs := #[.tmp 34, .tmp 37]) rfl ?_); at_builtin; refine Kd.R_append_rows (Kd.int .i64) (w0 := w0) w0.heap.size rfl (.tmp 34) (.tmp 37) 24 3 (.int .i64 0) 8 rfl Try.underlying24 info3 rfl (by decide) (by omega) v131 y130 y133 _ _ _ (fun k_ => (P0_ k_ ∨ w.heap.size ≤ k_) ∧ some k_ ≠ (.slice (some ad128) l0.length co16 : Value).ownBlock) (fun _ => False) rfl rfl ?aO ?aR (fun _ _ h => h) (fun _ h => h.elim) ?aF ?aB ?aS ?aL ?_; (case aR => repeat (first | exact (by repeat (first | (with_reducible exact HR136.out) | (with_reducible refine Kd.C_alloc ?_ _) | (with_reducible refine Kd.C_drewN ?_ _) | (with_reducible refine Kd.C_drew ?_) | exact HR136.out)) | (with_reducible refine Kd.C_alloc ?_ _) | (with_reducible refine Kd.C_drewN ?_ _) | (with_reducible refine Kd.C_drew ?_))); (case aB => exact hB_); (case aF => exact (fun k_ hk => ⟨(.inr (Nat.le_trans yactNeededForx2_6_ hk)), Kd.fresh' (Kd.R_lt yactNeededForx2_5_) k_ hk⟩)); (case aO => exact (by (with_reducible repeat (first | apply Kd.R_alloc | apply Kd.R_drewN | apply Kd.R_drew)); exact Kd.R_mono HO132.out (fun _ hk => ⟨hk.1.1, hk.2⟩))); (case aS => exact (below_size hB_)); (case aL => have := LMc11.out; omega); intro v138 w20 ho hb hg hat; rw [← Ny137.out] at ho; have HO139 := aM_ (ho); replace HB := aM_ (hb); replace HK := aM_ (Kept.of_grown (S := (fun k_ => P0_ k_)) hg yactNeededForx2_4_ (fun k_ e_ => (HO132.out.1 k_ e_).1.1)); replace HR136 := aM_ ((show Kd.C (Kd.int .i64) w20 (some ad128) y133.length y133 from by rw [Ny133.out]; exact Kd.C_take (m := (x5_1 : Int).toNat) ((Kd.R_reads' (Kd.R_after (ok := (fun k_ => (P0_ k_ ∨ w.heap.size ≤ k_))) yactNeededForx2_5_ hg hat)).2.2) KL19.out)); replace HO_0 := aM_ (Kd.R_after (ok := (fun k_ => (P0_ k_ ∨ w.heap.size ≤ k_))) yactNeededForx2_5_ hg hat); clear HO132; clear ho hb hg hat) | ((with_reducible refine gate_builtin (b := .append) (xs := #[.tmp 39, .tmp 41]) rfl ?_); at_builtin; refine Kd.R_append (Kd.int .i64) (w0 := w0) w0.heap.size rfl (.tmp 39) (.tmp 41) 24 3 (.int .i64 0) 8 rfl Try.underlying24 info3 rfl (by decide) (by omega) v138 y137 a1 [.int .i64 a1] (fun k_ => (P0_ k_ ∨ w.heap.size ≤ k_) ∧ some k_ ≠ (.slice (some ad128) l0.length co16 : Value).ownBlock) (fun _ => False) rfl rfl ?aP (fun _ hk => hk.elim) ?aF ?aO ?aB ?aS ?aL ?_; (case aP => exact rfl); (case aB => exact hB_); (case aF => exact (fun k_ hk => ⟨(.inr (Nat.le_trans yactNeededForx2_6_ hk)), Kd.fresh' (Kd.R_lt yactNeededForx2_5_) k_ hk⟩)); (case aO => exact (by (with_reducible repeat (first | apply Kd.R_alloc | apply Kd.R_drewN | apply Kd.R_drew)); exact HO139.out)); (case aS => exact (below_size hB_)); (case aL => have := LMc12.out; omega); intro v141 w21 ho hb hg hat; rw [← Ny140.out] at ho; have HO142 := aM_ (ho); replace HB := aM_ (hb); replace HK := aM_ (Kept.of_grown (S := (fun k_ => P0_ k_)) hg yactNeededForx2_4_ (fun k_ e_ => (HO139.out.1 k_ e_).1)); replace HR136 := aM_ ((show Kd.C (Kd.int .i64) w21 (some ad128) y133.length y133 from by rw [Ny133.out]; exact Kd.C_take (m := (x5_1 : Int).toNat) ((Kd.R_reads' (Kd.R_after (ok := (fun k_ => (P0_ k_ ∨ w.heap.size ≤ k_))) yactNeededForx2_5_ hg hat)).2.2) KL19.out)); replace HO_0 := aM_ (Kd.R_after (ok := (fun k_ => (P0_ k_ ∨ w.heap.size ≤ k_))) yactNeededForx2_5_ hg hat); clear HO139; clear ho hb hg hat; have q22 : (x5_1 : Int) ≤ ((l0.length : Int) : Int) := of_decide_eq_true yactNeededForx2_1_; obtain ⟨i022, hi022, _, hsz22, _⟩ := info_parts info3; have hroom22 : l0.length ≤ co16 := (Kd.R_reads' HO_0.out).2.1; have hC22 : Kd.C (Kd.int .i64) _ (some ad128) l0.length l0 := (Kd.R_reads' HO_0.out).2.2; have q022 : (0 : Int) ≤ (x5_1 : Int) := of_decide_eq_true yactNeededForx2_1_; have hcut22 := cut_from (P := Try.prog) 24 3 .i64 Try.underlying24 hi022 1 hsz22 (some ad128) l0.length co16 x5_1 q022 q22; have hr22 := Kd.C_drop (m := (x5_1 : Int).toNat) (c := co16) hC22 (by omega) hroom22; obtain ⟨A22, hA22⟩ : ∃ Ab_, Ab_ = (if co16 = (x5_1 : Int).toNat then (some ad128) else ((some ad128) : Option Addr).map (·.add ((x5_1 : Int).toNat * 1))) := ⟨_, rfl⟩; obtain ⟨c22, hc22⟩ : ∃ cb_, cb_ = co16 - (x5_1 : Int).toNat := ⟨_, rfl⟩; have hy22 : y143.length = l0.length - (x5_1 : Int).toNat := (by rw [Ny143.out, List.length_drop] <;> omega); rw [show (l0).drop (x5_1 : Int).toNat = y143 from Ny143.out.symm] at hr22; replace hr22 : Kd.C (Kd.int .i64) _ A22 y143.length y143 := (by rw [hA22]; exact hr22); rw [← hy22, ← hA22, ← hc22] at hcut22; have HR146 := Aside0.mk hr22; have HC146 := Aside0.mk (show y143.length ≤ c22 from by rw [hy22, hc22]; exact Nat.sub_le_sub_right hroom22 _); clear hr22 hC22 hroom22 hi022 hsz22 hc22; have KY22 := Aside0.mk hy22; have KA22 := Aside0.mk hA22; clear hy22 hA22; have KL22 := Aside0.mk (show (x5_1 : Int).toNat ≤ l0.length from by omega); replace q22 := eq_true q22) | ((with_reducible refine gate_builtin (b := .append) (xs := #[.tmp 43, .tmp 46]) rfl ?_); at_builtin; refine Kd.R_append_rows (Kd.int .i64) (w0 := w0) w0.heap.size rfl (.tmp 43) (.tmp 46) 24 3 (.int .i64 0) 8 rfl Try.underlying24 info3 rfl (by decide) (by omega) v141 y140 y143 _ _ _ (fun k_ => (P0_ k_ ∨ w.heap.size ≤ k_) ∧ some k_ ≠ (.slice (some ad128) l0.length co16 : Value).ownBlock) (fun _ => False) rfl rfl ?aO ?aR (fun _ _ h => h) (fun _ h => h.elim) ?aF ?aB ?aS ?aL ?_; (case aR => repeat (first | exact (by repeat (first | (with_reducible exact HR146.out) | (with_reducible refine Kd.C_alloc ?_ _) | (with_reducible refine Kd.C_drewN ?_ _) | (with_reducible refine Kd.C_drew ?_) | exact HR146.out)) | (with_reducible refine Kd.C_alloc ?_ _) | (with_reducible refine Kd.C_drewN ?_ _) | (with_reducible refine Kd.C_drew ?_))); (case aB => exact hB_); (case aF => exact (fun k_ hk => ⟨(.inr (Nat.le_trans yactNeededForx2_6_ hk)), Kd.fresh' (Kd.R_lt yactNeededForx2_5_) k_ hk⟩)); (case aO => exact (by (with_reducible repeat (first | apply Kd.R_alloc | apply Kd.R_drewN | apply Kd.R_drew)); exact HO142.out)); (case aS => exact (below_size hB_)); (case aL => have := LMc15.out; omega); intro v148 w23 ho hb hg hat; rw [← Ny147.out] at ho; have HO149 := aM_ (ho); replace HB := aM_ (hb); replace HK := aM_ (Kept.of_grown (S := (fun k_ => P0_ k_)) hg yactNeededForx2_4_ (fun k_ e_ => (HO142.out.1 k_ e_).1)); replace HR136 := aM_ ((show Kd.C (Kd.int .i64) w23 (some ad128) y133.length y133 from by rw [Ny133.out]; exact Kd.C_take (m := (x5_1 : Int).toNat) ((Kd.R_reads' (Kd.R_after (ok := (fun k_ => (P0_ k_ ∨ w.heap.size ≤ k_))) yactNeededForx2_5_ hg hat)).2.2) KL19.out)); replace HR146 := aM_ ((show Kd.C (Kd.int .i64) w23 A22 y143.length y143 from by rw [Ny143.out, KA22.out]; exact Kd.C_drop (m := (x5_1 : Int).toNat) (c := co16) ((Kd.R_reads' (Kd.R_after (ok := (fun k_ => (P0_ k_ ∨ w.heap.size ≤ k_))) yactNeededForx2_5_ hg hat)).2.2) KL22.out ((Kd.R_reads' (Kd.R_after (ok := (fun k_ => (P0_ k_ ∨ w.heap.size ≤ k_))) yactNeededForx2_5_ hg hat)).2.1))); replace HO_0 := aM_ (Kd.R_after (ok := (fun k_ => (P0_ k_ ∨ w.heap.size ≤ k_))) yactNeededForx2_5_ hg hat); clear HO142; clear ho hb hg hat))
           go_ret
           exact ⟨_, rT_, by (with_reducible repeat (first | apply Kd.R_alloc | apply Kd.R_drewN | apply Kd.R_drew)); exact Kd.R_mono HO149.out (fun _ hk => hk.1), hB_, yactNeededForx2_4_⟩
          ·rw [if_neg c15] at H
           exact absurd H (by simp)
         ·rw [if_neg c12] at H
          exact absurd H (by simp)
        ·rw [if_neg c11] at H
         exact absurd H (by simp)
       ·rw [if_neg c10] at H
        exact absurd H (by simp)
    ·rw [if_neg c4] at H
     exact absurd H (by simp)
   ·rw [if_neg c3] at H
    have c3b0 : decide (x5_1 < (l0.length : Int)) = false := decide_eq_false c3
    clear c3
    obtain ⟨y150, hy150⟩ : ∃ y_ : List Int, y_ = (([] : List Int)) := ⟨_, rfl⟩
    replace H : (if 0 ≤ x5_1 then (if x5_1 ≤ (l0.length : Int) then ((some (l0.take (x5_1 : Int).toNat : List Int)).bind fun y153 => (if y150.length + y153.length < 17592186044416 then ((some (y150 ++ y153 : List Int)).bind fun y157 => (if y157.length < 17592186044416 then ((some (y157 ++ [a1] : List Int)).bind fun y160 => ((some (l0.drop (x5_1 : Int).toNat : List Int)).bind fun y163 => (if y160.length + y163.length < 17592186044416 then (some (y160 ++ y163)) else (none)))) else (none))) else (none))) else (none)) else (none)) = some r := by first | (rw [hy150]; with_reducible exact H) | (have H2_ := (Option.bind_some _ _).symm.trans H; rw [hy150]; with_reducible exact H2_) | (have H2_ := (Option.bind_some _ _).symm.trans H; with_reducible exact H2_) | with_reducible exact H | (rw [hy150]; exact H) | exact H
    have Ny150 := Aside0.mk hy150
    clear hy150
    by_cases c24 : 0 ≤ x5_1
    ·rw [if_pos c24] at H
     have c24b0 := eq_true c24
     have c24b1 : decide (0 ≤ x5_1) = true := decide_eq_true c24
     clear c24
     by_cases c25 : x5_1 ≤ (l0.length : Int)
     ·rw [if_pos c25] at H
      have c25b0 := eq_true c25
      have c25b1 : decide (x5_1 ≤ (l0.length : Int)) = true := decide_eq_true c25
      clear c25
      obtain ⟨y153, hy153⟩ : ∃ y_ : List Int, y_ = (l0.take (x5_1 : Int).toNat) := ⟨_, rfl⟩
      replace H : (if y150.length + y153.length < 17592186044416 then ((some (y150 ++ y153 : List Int)).bind fun y157 => (if y157.length < 17592186044416 then ((some (y157 ++ [a1] : List Int)).bind fun y160 => ((some (l0.drop (x5_1 : Int).toNat : List Int)).bind fun y163 => (if y160.length + y163.length < 17592186044416 then (some (y160 ++ y163)) else (none)))) else (none))) else (none)) = some r := by first | (rw [hy153]; with_reducible exact H) | (have H2_ := (Option.bind_some _ _).symm.trans H; rw [hy153]; with_reducible exact H2_) | (have H2_ := (Option.bind_some _ _).symm.trans H; with_reducible exact H2_) | with_reducible exact H | (rw [hy153]; exact H) | exact H
      have Ny153 := Aside0.mk hy153
      clear hy153
      by_cases c26 : y150.length + y153.length < 17592186044416
      ·rw [if_pos c26] at H
       have LMc26 := Aside0.mk c26
       clear c26
       obtain ⟨y157, hy157⟩ : ∃ y_ : List Int, y_ = (y150 ++ y153) := ⟨_, rfl⟩
       replace H : (if y157.length < 17592186044416 then ((some (y157 ++ [a1] : List Int)).bind fun y160 => ((some (l0.drop (x5_1 : Int).toNat : List Int)).bind fun y163 => (if y160.length + y163.length < 17592186044416 then (some (y160 ++ y163)) else (none)))) else (none)) = some r := by first | (rw [hy157]; with_reducible exact H) | (have H2_ := (Option.bind_some _ _).symm.trans H; rw [hy157]; with_reducible exact H2_) | (have H2_ := (Option.bind_some _ _).symm.trans H; with_reducible exact H2_) | with_reducible exact H | (rw [hy157]; exact H) | exact H
       have Ny157 := Aside0.mk hy157
       clear hy157
       by_cases c27 : y157.length < 17592186044416
       ·rw [if_pos c27] at H
        have LMc27 := Aside0.mk c27
        clear c27
        obtain ⟨y160, hy160⟩ : ∃ y_ : List Int, y_ = (y157 ++ [a1]) := ⟨_, rfl⟩
        replace H : ((some (l0.drop (x5_1 : Int).toNat : List Int)).bind fun y163 => (if y160.length + y163.length < 17592186044416 then (some (y160 ++ y163)) else (none))) = some r := by first | (rw [hy160]; with_reducible exact H) | (have H2_ := (Option.bind_some _ _).symm.trans H; rw [hy160]; with_reducible exact H2_) | (have H2_ := (Option.bind_some _ _).symm.trans H; with_reducible exact H2_) | with_reducible exact H | (rw [hy160]; exact H) | exact H
        have Ny160 := Aside0.mk hy160
        clear hy160
        have c28b0 := eq_true (of_decide_eq_true yactNeededForx2_1_ : 0 ≤ x5_1)
        have c29b0 := eq_true (of_decide_eq_true yactNeededForx2_1_ : x5_1 ≤ (l0.length : Int))
        obtain ⟨y163, hy163⟩ : ∃ y_ : List Int, y_ = (l0.drop (x5_1 : Int).toNat) := ⟨_, rfl⟩
        replace H : (if y160.length + y163.length < 17592186044416 then (some (y160 ++ y163)) else (none)) = some r := by first | (rw [hy163]; with_reducible exact H) | (have H2_ := (Option.bind_some _ _).symm.trans H; rw [hy163]; with_reducible exact H2_) | (have H2_ := (Option.bind_some _ _).symm.trans H; with_reducible exact H2_) | with_reducible exact H | (rw [hy163]; exact H) | exact H
        have Ny163 := Aside0.mk hy163
        clear hy163
        by_cases c30 : y160.length + y163.length < 17592186044416
        ·rw [if_pos c30] at H
         have LMc30 := Aside0.mk c30
         clear c30
         obtain ⟨y167, hy167⟩ : ∃ y_ : List Int, y_ = (y160 ++ y163) := ⟨_, rfl⟩
         replace H : (some y167) = some r := by first | (rw [hy167]; with_reducible exact H) | (have H2_ := (Option.bind_some _ _).symm.trans H; rw [hy167]; with_reducible exact H2_) | (have H2_ := (Option.bind_some _ _).symm.trans H; with_reducible exact H2_) | with_reducible exact H | (rw [hy167]; exact H) | exact H
         have Ny167 := Aside0.mk hy167
         clear hy167
         obtain rfl := Option.some.inj H
         obtain ⟨Ao31, co31, eo31⟩ := Kd.R_slice HO_0.out
         subst eo31
         go_wp2_with (first | ((with_reducible refine gate_dst (N := 34) rfl ?_); refine Kd.R_lit (Kd.int .i64) _ 3 ?hg (N := 34) ?hd (xs := ([] : List Int)) (inner := []) (ok := fun _ => True) (okp := fun _ => True) ?hr ?hp (fun _ hk => hk) trivial (Below.refl _ _) (Nat.le_refl _) (by simp) ?_; (case hd => rfl); (case hg => rfl); (case hr => first | (go_simp; done) | (go_simp; rfl)); (case hp => exact (Reps.none _ _)); intro v151 w32 ho33 hb hg_ hnew_; clear hg_ hnew_; (first | rw [← Ny150.out] at ho33 | (simp only [Int.reduceToNat] at ho33; rw [← Ny150.out] at ho33)); have HO152 := aM_ (Kd.R_lower (Kd.R_new' (Kd.R_newM (M := fun k_ => (P0_ k_ ∨ w.heap.size ≤ k_)) ho33 yactNeededForx2_6_ (fun k_ h_ => .inr h_)) (Kd.R_lt yactNeededForx2_5_)) (below_size hB_)); replace HO_0 := aM_ (Kd.R_elder' yactNeededForx2_5_ (Kd.R_base ho33) hb); replace HK := aM_ (Kept.below (S := (fun k_ => P0_ k_)) yactNeededForx2_4_ hb); replace HB := aM_ (below_step hB_ hb); clear hb ho33; have q34 : (x5_1 : Int) ≤ ((l0.length : Int) : Int) := of_decide_eq_true yactNeededForx2_1_; obtain ⟨i034, hi034, _, hsz34, _⟩ := info_parts info3; have hroom34 : l0.length ≤ co31 := (Kd.R_reads' HO_0.out).2.1; have hC34 : Kd.C (Kd.int .i64) _ Ao31 l0.length l0 := (Kd.R_reads' HO_0.out).2.2; have hcut34 := cut_to (P := Try.prog) 24 3 .i64 Try.underlying24 hi034 Ao31 l0.length co31 x5_1 (of_decide_eq_true yactNeededForx2_1_) q34 hroom34; have hr34 := Kd.C_take (m := (x5_1 : Int).toNat) hC34 (by omega); have hy34 : y153.length = (x5_1 : Int).toNat := (by rw [Ny153.out, List.length_take]; omega); rw [← Ny153.out] at hr34; rw [← hy34] at hcut34; have HR156 := Aside0.mk hr34; have HC156 := Aside0.mk (show y153.length ≤ co31 from by omega); clear hr34 hC34 hroom34 hi034 hsz34; have KY34 := Aside0.mk hy34; clear hy34; have KL34 := Aside0.mk (show (x5_1 : Int).toNat ≤ l0.length from by omega); replace q34 := eq_true q34) | ((with_reducible refine gate_builtin (b := .append) (xs := #[.tmp 34, .tmp 37]) rfl ?_); at_builtin; refine Kd.R_append_rows (Kd.int .i64) (w0 := w0) w0.heap.size rfl (.tmp 34) (.tmp 37) 24 3 (.int .i64 0) 8 rfl Try.underlying24 info3 rfl (by decide) (by omega) v151 y150 y153 _ _ _ (fun k_ => (P0_ k_ ∨ w.heap.size ≤ k_) ∧ some k_ ≠ (.slice Ao31 l0.length co31 : Value).ownBlock) (fun _ => False) rfl rfl ?aO ?aR (fun _ _ h => h) (fun _ h => h.elim) ?aF ?aB ?aS ?aL ?_; (case aR => repeat (first | exact (by repeat (first | (with_reducible exact HR156.out) | (with_reducible refine Kd.C_alloc ?_ _) | (with_reducible refine Kd.C_drewN ?_ _) | (with_reducible refine Kd.C_drew ?_) | exact HR156.out)) | (with_reducible refine Kd.C_alloc ?_ _) | (with_reducible refine Kd.C_drewN ?_ _) | (with_reducible refine Kd.C_drew ?_))); (case aB => exact hB_); (case aF => exact (fun k_ hk => ⟨(.inr (Nat.le_trans yactNeededForx2_6_ hk)), Kd.fresh' (Kd.R_lt yactNeededForx2_5_) k_ hk⟩)); (case aO => exact (by (with_reducible repeat (first | apply Kd.R_alloc | apply Kd.R_drewN | apply Kd.R_drew)); exact Kd.R_mono HO152.out (fun _ hk => ⟨hk.1.1, hk.2⟩))); (case aS => exact (below_size hB_)); (case aL => have := LMc26.out; omega); intro v158 w35 ho hb hg hat; rw [← Ny157.out] at ho; have HO159 := aM_ (ho); replace HB := aM_ (hb); replace HK := aM_ (Kept.of_grown (S := (fun k_ => P0_ k_)) hg yactNeededForx2_4_ (fun k_ e_ => (HO152.out.1 k_ e_).1.1)); replace HR156 := aM_ ((show Kd.C (Kd.int .i64) w35 Ao31 y153.length y153 from by rw [Ny153.out]; exact Kd.C_take (m := (x5_1 : Int).toNat) ((Kd.R_reads' (Kd.R_after (ok := (fun k_ => (P0_ k_ ∨ w.heap.size ≤ k_))) yactNeededForx2_5_ hg hat)).2.2) KL34.out)); replace HO_0 := aM_ (Kd.R_after (ok := (fun k_ => (P0_ k_ ∨ w.heap.size ≤ k_))) yactNeededForx2_5_ hg hat); clear HO152; clear ho hb hg hat) | ((with_reducible refine gate_builtin (b := .append) (xs := #[.tmp 39, .tmp 41]) rfl ?_); at_builtin; refine Kd.R_append (Kd.int .i64) (w0 := w0) w0.heap.size rfl (.tmp 39) (.tmp 41) 24 3 (.int .i64 0) 8 rfl Try.underlying24 info3 rfl (by decide) (by omega) v158 y157 a1 [.int .i64 a1] (fun k_ => (P0_ k_ ∨ w.heap.size ≤ k_) ∧ some k_ ≠ (.slice Ao31 l0.length co31 : Value).ownBlock) (fun _ => False) rfl rfl ?aP (fun _ hk => hk.elim) ?aF ?aO ?aB ?aS ?aL ?_; (case aP => exact rfl); (case aB => exact hB_); (case aF => exact (fun k_ hk => ⟨(.inr (Nat.le_trans yactNeededForx2_6_ hk)), Kd.fresh' (Kd.R_lt yactNeededForx2_5_) k_ hk⟩)); (case aO => exact (by (with_reducible repeat (first | apply Kd.R_alloc | apply Kd.R_drewN | apply Kd.R_drew)); exact HO159.out)); (case aS => exact (below_size hB_)); (case aL => have := LMc27.out; omega); intro v161 w36 ho hb hg hat; rw [← Ny160.out] at ho; have HO162 := aM_ (ho); replace HB := aM_ (hb); replace HK := aM_ (Kept.of_grown (S := (fun k_ => P0_ k_)) hg yactNeededForx2_4_ (fun k_ e_ => (HO159.out.1 k_ e_).1)); replace HR156 := aM_ ((show Kd.C (Kd.int .i64) w36 Ao31 y153.length y153 from by rw [Ny153.out]; exact Kd.C_take (m := (x5_1 : Int).toNat) ((Kd.R_reads' (Kd.R_after (ok := (fun k_ => (P0_ k_ ∨ w.heap.size ≤ k_))) yactNeededForx2_5_ hg hat)).2.2) KL34.out)); replace HO_0 := aM_ (Kd.R_after (ok := (fun k_ => (P0_ k_ ∨ w.heap.size ≤ k_))) yactNeededForx2_5_ hg hat); clear HO159; clear ho hb hg hat; have q37 : (x5_1 : Int) ≤ ((l0.length : Int) : Int) := of_decide_eq_true yactNeededForx2_1_; obtain ⟨i037, hi037, _, hsz37, _⟩ := info_parts info3; have hroom37 : l0.length ≤ co31 := (Kd.R_reads' HO_0.out).2.1; have hC37 : Kd.C (Kd.int .i64) _ Ao31 l0.length l0 := (Kd.R_reads' HO_0.out).2.2; have q037 : (0 : Int) ≤ (x5_1 : Int) := of_decide_eq_true yactNeededForx2_1_; have hcut37 := cut_from (P := Try.prog) 24 3 .i64 Try.underlying24 hi037 1 hsz37 Ao31 l0.length co31 x5_1 q037 q37; have hr37 := Kd.C_drop (m := (x5_1 : Int).toNat) (c := co31) hC37 (by omega) hroom37; obtain ⟨A37, hA37⟩ : ∃ Ab_, Ab_ = (if co31 = (x5_1 : Int).toNat then Ao31 else (Ao31 : Option Addr).map (·.add ((x5_1 : Int).toNat * 1))) := ⟨_, rfl⟩; obtain ⟨c37, hc37⟩ : ∃ cb_, cb_ = co31 - (x5_1 : Int).toNat := ⟨_, rfl⟩; have hy37 : y163.length = l0.length - (x5_1 : Int).toNat := (by rw [Ny163.out, List.length_drop] <;> omega); rw [show (l0).drop (x5_1 : Int).toNat = y163 from Ny163.out.symm] at hr37; replace hr37 : Kd.C (Kd.int .i64) _ A37 y163.length y163 := (by rw [hA37]; exact hr37); rw [← hy37, ← hA37, ← hc37] at hcut37; have HR166 := Aside0.mk hr37; have HC166 := Aside0.mk (show y163.length ≤ c37 from by rw [hy37, hc37]; exact Nat.sub_le_sub_right hroom37 _); clear hr37 hC37 hroom37 hi037 hsz37 hc37; have KY37 := Aside0.mk hy37; have KA37 := Aside0.mk hA37; clear hy37 hA37; have KL37 := Aside0.mk (show (x5_1 : Int).toNat ≤ l0.length from by omega); replace q37 := eq_true q37) | ((with_reducible refine gate_builtin (b := .append) (xs := #[.tmp 43, .tmp 46]) rfl ?_); at_builtin; refine Kd.R_append_rows (Kd.int .i64) (w0 := w0) w0.heap.size rfl (.tmp 43) (.tmp 46) 24 3 (.int .i64 0) 8 rfl Try.underlying24 info3 rfl (by decide) (by omega) v161 y160 y163 _ _ _ (fun k_ => (P0_ k_ ∨ w.heap.size ≤ k_) ∧ some k_ ≠ (.slice Ao31 l0.length co31 : Value).ownBlock) (fun _ => False) rfl rfl ?aO ?aR (fun _ _ h => h) (fun _ h => h.elim) ?aF ?aB ?aS ?aL ?_; (case aR => repeat (first | exact (by repeat (first | (with_reducible exact HR166.out) | (with_reducible refine Kd.C_alloc ?_ _) | (with_reducible refine Kd.C_drewN ?_ _) | (with_reducible refine Kd.C_drew ?_) | exact HR166.out)) | (with_reducible refine Kd.C_alloc ?_ _) | (with_reducible refine Kd.C_drewN ?_ _) | (with_reducible refine Kd.C_drew ?_))); (case aB => exact hB_); (case aF => exact (fun k_ hk => ⟨(.inr (Nat.le_trans yactNeededForx2_6_ hk)), Kd.fresh' (Kd.R_lt yactNeededForx2_5_) k_ hk⟩)); (case aO => exact (by (with_reducible repeat (first | apply Kd.R_alloc | apply Kd.R_drewN | apply Kd.R_drew)); exact HO162.out)); (case aS => exact (below_size hB_)); (case aL => have := LMc30.out; omega); intro v168 w38 ho hb hg hat; rw [← Ny167.out] at ho; have HO169 := aM_ (ho); replace HB := aM_ (hb); replace HK := aM_ (Kept.of_grown (S := (fun k_ => P0_ k_)) hg yactNeededForx2_4_ (fun k_ e_ => (HO162.out.1 k_ e_).1)); replace HR156 := aM_ ((show Kd.C (Kd.int .i64) w38 Ao31 y153.length y153 from by rw [Ny153.out]; exact Kd.C_take (m := (x5_1 : Int).toNat) ((Kd.R_reads' (Kd.R_after (ok := (fun k_ => (P0_ k_ ∨ w.heap.size ≤ k_))) yactNeededForx2_5_ hg hat)).2.2) KL34.out)); replace HR166 := aM_ ((show Kd.C (Kd.int .i64) w38 A37 y163.length y163 from by rw [Ny163.out, KA37.out]; exact Kd.C_drop (m := (x5_1 : Int).toNat) (c := co31) ((Kd.R_reads' (Kd.R_after (ok := (fun k_ => (P0_ k_ ∨ w.heap.size ≤ k_))) yactNeededForx2_5_ hg hat)).2.2) KL37.out ((Kd.R_reads' (Kd.R_after (ok := (fun k_ => (P0_ k_ ∨ w.heap.size ≤ k_))) yactNeededForx2_5_ hg hat)).2.1))); replace HO_0 := aM_ (Kd.R_after (ok := (fun k_ => (P0_ k_ ∨ w.heap.size ≤ k_))) yactNeededForx2_5_ hg hat); clear HO162; clear ho hb hg hat))
         go_ret
         exact ⟨_, rT_, by (with_reducible repeat (first | apply Kd.R_alloc | apply Kd.R_drewN | apply Kd.R_drew)); exact Kd.R_mono HO169.out (fun _ hk => hk.1), hB_, yactNeededForx2_4_⟩
        ·rw [if_neg c30] at H
         exact absurd H (by simp)
       ·rw [if_neg c27] at H
        exact absurd H (by simp)
      ·rw [if_neg c26] at H
       exact absurd H (by simp)
     ·rw [if_neg c25] at H
      exact absurd H (by simp)
    ·rw [if_neg c24] at H
     exact absurd H (by simp)

end Go.Proofs.Ytmongpocangocaa.PFnExactNeededFor
