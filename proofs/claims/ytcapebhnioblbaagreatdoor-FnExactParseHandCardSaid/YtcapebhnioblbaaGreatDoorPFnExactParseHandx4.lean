/- Written by a program of this claim's author, out of the loaded program as Lean prints it: the functions as Lean functions, and that the calls answer so. -/
import Derived.Test.YtcapebhnioblbaaGreatDoorPFnExactParseHandx0
import Derived.Test.YtcapebhnioblbaaGreatDoorPFnExactParseHandx3
import Derived.Test.YtcapebhnioblbaaGreatDoorPFnExactParseHandxD0
namespace Go.Proofs.YtcapebhnioblbaaGreatDoor.PFnExactParseHand
open Go.RowKit Go.Proofs.YtcapebhnioblbaaGreatDoorW.PrintWords Go.Proofs.YtcapebhnioblbaaGreatDoorW.PrintLast Go.Proofs.YtcapebhnioblbaaGreatDoorW.PrintMore
attribute [local go_sem] max2_int min2_int max_two min_two max_three min_three max_four min_four isSome_setCell   -- for this text's walks alone
set_option linter.unusedVariables false
theorem yactParseHandx4_0_ {p : Prop} (h : p := by first | rfl | (simp; done) | (simp [*]; done)) : p := h
theorem yactParseHandx4_1_ {p : Prop} (h : p := by (with_reducible repeat (first | apply Kd.R_alloc | apply Kd.R_drewN | apply Kd.R_drew)); exact HO_1.out) : p := h
theorem yactParseHandx4_2_ {p : Prop} (h : p := by first | (with_reducible assumption) | assumption) : p := h
theorem yactParseHandx4_3_ {p : Prop} (h : p := by (with_reducible repeat (first | apply Kd.R_alloc | apply Kd.R_drewN | apply Kd.R_drew)); exact HO_15.out) : p := h
theorem yactParseHandx4_4_ {p : Prop} (h : p := by (with_reducible repeat (first | apply Kd.R_alloc | apply Kd.R_drewN | apply Kd.R_drew)); exact (Kd.R_mono (Kd.R_far (p := ⟨gb155, 2, none⟩) (Kd.R_far (p := ⟨gb155, 1, none⟩) (Kd.R_far (p := ⟨gb155, 0, none⟩) (Kd.R_mono HO_1.out (fun k_ hk => (⟨hk, hk.2⟩ : _ ∧ k_ ≠ gb155))) (fun _ hk => hk.2) (.int .i64 x2_1)) (fun _ hk => hk.2) (.int .i64 x3_2)) (fun _ hk => hk.2) (.bool (rdOf false y151 x17_3))) (fun _ h_ => h_.1))) : p := h
theorem yactParseHandx4_5_ {p : Prop} (h : p := by (with_reducible repeat (first | apply kN_ | apply kD_ | apply kA_)); refine blk_put (cs := #[.int .i64 x2_1, .int .i64 x3_2, .bool false]) ?_ 2 _ rfl; (with_reducible repeat (first | apply kN_ | apply kD_ | apply kA_)); refine blk_put (cs := #[.int .i64 x2_1, .int .i64 0, .bool false]) ?_ 1 _ rfl; (with_reducible repeat (first | apply kN_ | apply kD_ | apply kA_)); refine blk_put (cs := #[.int .i64 0, .int .i64 0, .bool false]) ?_ 0 _ rfl; (with_reducible repeat (first | apply kN_ | apply kD_ | apply kA_)); exact BK155.out) : p := h
theorem yactParseHandx4_6_ {p : Prop} (h : p := by have := HK1.out; have := HK2.out; have := HK3.out; omega) : p := h
theorem more_ {P : Program} {ops : Array Oper} {Q : Exit → Act → World → Prop} {md : Region.Mode} {S : World → Prop} (S' : World → Prop) (hw : ∀ w, S' w → S w) : ∀ {n : Nat} {l : Array Bool} {a : Act} {w : World}, S' w → (S' w → wpAnyLast P md ops Q S' [] n l a w) → wpAnyLast P md ops Q S [] n l a w := by
  have key : ∀ (n : Nat) (l : Array Bool) (a : Act) (w : World), S' w → wpAnyLast P md ops Q S' [] n l a w → wpAnyLast P md ops Q S [] n l a w := by
    intro n
    induction n with
    | zero => exact fun _ _ _ _ h => h
    | succ n ih => exact fun l a w hS h => ⟨h.1, fun j hj => wpOp_mono (fun a' w' h3 => ⟨fun _ _ => hw _ (h3.1 (by simp) hS), ih _ _ _ (h3.1 (by simp) hS) h3.2⟩) (h.2 j hj)⟩
  intro n l a w hS h
  exact key n l a w hS (h hS)
set_option linter.unusedSimpArgs false

/-! ### spec_plAll: function 30 -/
set_option maxHeartbeats 8000000 in
set_option maxRecDepth 100000 in
theorem spec_plAll.calls (k : Nat)  (r : List (S27)) (w : World) (h : spec_plAll.f k  = some r) :
 Calls Tryz.prog 30 #[] w fun e w' => ∃ v0_ : Value, e = .returned (v0_) ∧ Kd.R k27 27 w' w.heap.size (fun _ => True) v0_ r ∧ Below w.heap.size w w' := by
 have hu27 := Tryz.underlying27
 have HB := Aside0.mk (Below.refl w.heap.size w)
 have H : (spec_plAll.l0 k ([] : List (S27)) 0) = some r := h
 clear h
 have H' := Aside0.mk H
 clear H
 go_enter Tryz.func30, Tryz.ntmps30
 go_wp2
 go_loopg [1, 2] k (fun kq v1 v2 w' => ∃ (x1_1 : List (S27)) (x2_1 : Int), v2 = .int .i64 x2_1 ∧ Aside0 (spec_plAll.l0 kq x1_1 x2_1 = some r) ∧ Aside0 (kq ≤ k) ∧ Aside0 (Kd.R k27 27 w' w.heap.size (fun _ => True) v1 x1_1) ∧ Aside0 (Below w.heap.size w w'))
 case atStart => exact ⟨(([] : List (S27))), (0), yactParseHandx4_0_, H', ⟨Nat.le_refl _⟩, ⟨by first | exact Kd.R_nil _ _ _ _ _ | exact Kd.N_nil _ _ _ _ _ | exact Kd.V_nil _ _ _ _ _ | exact Kd.Q_nil _ _ _ _ _ | exact Kd.S_nil _ _ _ _ _⟩, ⟨hB_⟩⟩
 case round =>
  clear H'
  obtain ⟨x1_1, x2_1, rfl, HA, HK1, HO_1, HB⟩ := hrel
  cases gk with
  | zero => exact absurd HA.out (by simp [spec_plAll.l0])
  | succ k1 =>
   have H := HA.out
   clear HA
   simp only [spec_plAll.l0] at H
   by_cases c1 : x2_1 < 10
   ·rw [if_pos c1] at H
    have c1b0 : decide (x2_1 < 10) = true := decide_eq_true c1
    clear c1
    have H' := Aside0.mk H
    clear H
    go_wp2
    go_loopg [1, 3] k1 (fun kq v1 v3 w' => ∃ (x1_2 : List (S27)) (x3_2 : Int), v3 = .int .i64 x3_2 ∧ Aside0 (spec_plAll.l1 kq x1_2 x2_1 x3_2 = some r) ∧ Aside0 (kq ≤ k1) ∧ Aside0 (Kd.R k27 27 w' w.heap.size (fun _ => True) v1 x1_2) ∧ Aside0 (Below w.heap.size w w'))
    case atStart => exact ⟨(x1_1), ((-1)), yactParseHandx4_0_, H', ⟨Nat.le_refl _⟩, ⟨yactParseHandx4_1_⟩, ⟨hB_⟩⟩
    case round =>
     clear H'
     (try clear c1);(try clear c1b0)
     obtain ⟨x1_2, x3_2, rfl, HA, HK2, HO_1, HB⟩ := hrel
     cases gk with
     | zero => exact absurd HA.out (by simp [spec_plAll.l1])
     | succ k2 =>
      have H := HA.out
      clear HA
      simp only [spec_plAll.l1] at H
      by_cases c2 : x3_2 ≤ 1
      ·rw [if_pos c2] at H
       have c2b0 : decide (x3_2 ≤ 1) = true := decide_eq_true c2
       clear c2
       obtain ⟨y151, hy151⟩ : ∃ y_ : List Bool, y_ = (([false, true] : List Bool)) := ⟨_, rfl⟩
       replace H : (spec_plAll.l2 k2 x1_2 x2_1 x3_2 y151 (y151.length : Int) 0) = some r := by first | (rw [hy151]; with_reducible exact H) | (have H2_ := (Option.bind_some _ _).symm.trans H; rw [hy151]; with_reducible exact H2_) | (have H2_ := (Option.bind_some _ _).symm.trans H; with_reducible exact H2_) | with_reducible exact H | (rw [hy151]; exact H) | exact H
       have Ny151 := Aside0.mk hy151
       clear hy151
       have H' := Aside0.mk H
       clear H
       go_wp2_with (first | ((with_reducible refine gate_dst (N := 15) rfl ?_); refine Kd.R_lit Kd.bool _ 4 ?hg (N := 15) ?hd (xs := ([false, true] : List Bool)) (inner := [.bool false, .bool true]) (ok := fun _ => True) (okp := fun _ => True) ?hr ?hp (fun _ hk => hk) trivial (Below.refl _ _) (Nat.le_refl _) (by simp) ?_; (case hd => rfl); (case hg => rfl); (case hr => first | (go_simp; done) | (go_simp; rfl)); (case hp => exact (Reps.one (show Kd.M Kd.bool _ _ _ false [.bool false] from rfl) (Reps.one (show Kd.M Kd.bool _ _ _ true [.bool true] from rfl) (Reps.none _ _)))); intro v152 w3 ho4 hb hg_ hnew_; clear hg_ hnew_; (first | rw [← Ny151.out] at ho4 | (simp only [Int.reduceToNat] at ho4; rw [← Ny151.out] at ho4)); have HO153 := aM_ (Kd.R_lower ho4 (below_size hB_)); replace HO_1 := aM_ (Kd.R_below yactParseHandx4_1_ hb); replace HB := aM_ (below_step hB_ hb); clear hb ho4; obtain ⟨Ao5, co5, eo5⟩ := Kd.R_slice HO153.out; subst eo5))
       go_loopg [1, 17] k2 (fun kq v1 v17 w' => ∃ (x1_3 : List (S27)) (x17_3 : Int), v17 = .int .i64 x17_3 ∧ Aside0 (spec_plAll.l2 kq x1_3 x2_1 x3_2 y151 (y151.length : Int) x17_3 = some r) ∧ Aside0 (kq ≤ k2) ∧ Aside0 (Kd.R k27 27 w' w.heap.size (fun _ => True) v1 x1_3) ∧ Aside0 (Kd.R Kd.bool 4 w' w.heap.size (fun _ => True) (.slice Ao5 y151.length co5) y151) ∧ Aside0 (Below w.heap.size w w'))
       case atStart => exact ⟨(x1_2), (0), yactParseHandx4_0_, H', ⟨Nat.le_refl _⟩, ⟨yactParseHandx4_1_⟩, ⟨by (with_reducible repeat (first | apply Kd.R_alloc | apply Kd.R_drewN | apply Kd.R_drew)); exact HO153.out⟩, ⟨hB_⟩⟩
       case round =>
        clear H'
        (try clear c1);(try clear c1b0);(try clear c2);(try clear c2b0)
        obtain ⟨x1_3, x17_3, rfl, HA, HK3, HO_1, HO_15, HB⟩ := hrel
        cases gk with
        | zero => exact absurd HA.out (by simp [spec_plAll.l2])
        | succ k3 =>
         have H := HA.out
         clear HA
         simp only [spec_plAll.l2] at H
         by_cases c6 : x17_3 < (y151.length : Int)
         ·rw [if_pos c6] at H
          have c6b0 : decide (x17_3 < (y151.length : Int)) = true := decide_eq_true c6
          clear c6
          by_cases c7 : 0 ≤ x17_3
          ·rw [if_pos c7] at H
           have c7b0 : decide (0 ≤ x17_3) = true := decide_eq_true c7
           clear c7
           by_cases c8 : x17_3 < (y151.length : Int)
           ·rw [if_pos c8] at H
            have c8b0 : decide (x17_3 < (y151.length : Int)) = true := decide_eq_true c8
            clear c8
            replace H := Option.bind_eq_some_iff.mp H
            obtain ⟨t156, A90, H⟩ := H
            try dsimp only at H
            have A9 := Aside0.mk A90
            clear A90
            by_cases c10 : t156 = true
            ·subst c10
             replace H := ip_ H rfl
             by_cases c11 : x1_3.length < 5864062014805
             ·rw [if_pos c11] at H
              have LMc11 := Aside0.mk c11
              clear c11
              obtain ⟨y157, hy157⟩ : ∃ y_ : List (S27), y_ = (x1_3 ++ [(⟨x2_1, x3_2, rdOf false y151 x17_3⟩ : S27)]) := ⟨_, rfl⟩
              replace H : (spec_plAll.l2 k3 y157 x2_1 x3_2 y151 (y151.length : Int) (wrap64 (x17_3 + 1))) = some r := by first | (rw [hy157]; with_reducible exact H) | (have H2_ := (Option.bind_some _ _).symm.trans H; rw [hy157]; with_reducible exact H2_) | (have H2_ := (Option.bind_some _ _).symm.trans H; with_reducible exact H2_) | with_reducible exact H | (rw [hy157]; exact H) | exact H
              have Ny157 := Aside0.mk hy157
              clear hy157
              have H' := Aside0.mk H
              clear H
              have p154 : 0 ≤ (x17_3 : Int) := of_decide_eq_true yactParseHandx4_2_
              have q154 : x17_3 < (y151.length : Int) := of_decide_eq_true yactParseHandx4_2_
              obtain ⟨ad154, e154, hx154_0⟩ := Kd.at_bool (Kd.R_reads' HO_15.out).2.2 x17_3 p154 q154
              cases e154
              replace p154 := eq_true p154
              replace q154 := eq_true q154
              go_wp2_with (first | ((with_reducible refine gate_dst (N := 6) rfl ?_); refine box_event ?hg (N := 6) ?hd (cs := #[.int .i64 0, .int .i64 0, .bool false]) (t := 27) ?hr ?_; (case hd => rfl); (case hg => rfl); (case hr => first | (go_simp; done) | (go_simp; rfl)); intro gb155 hg w12 hbox hb; have BK155 := aM_ (hbox); have GW155 := aM_ (gw_ w hg); have GE155 := aM_ (gw_ w hg); replace HO_1 := aM_ (Kd.R_below (Kd.R_elderB yactParseHandx4_1_ gb155 (Nat.le_of_eq hg.symm)) hb); replace HO_15 := aM_ (Kd.R_below yactParseHandx4_3_ hb); replace HB := aM_ (below_step hB_ hb); clear hb hbox hg; have hz13 := cf3_ BK155.out) | ((with_reducible refine gate_callee (f := 54) rfl ?_); refine goesM_ (some 26) Tryz.func54 #[.agg #[.int .i64 x2_1, .int .i64 x3_2, .bool (rdOf false y151 x17_3)]] ?_; (with_reducible refine (spec_plGood.calls x2_1 x3_2 (rdOf false y151 x17_3) true _ A9.out).mono ?_); rintro e w14 ⟨rfl, hb⟩; refine ⟨_, rfl, ?_⟩; replace HO_1 := aM_ (Kd.R_below yactParseHandx4_4_ hb); replace HO_15 := aM_ (Kd.R_below (by (with_reducible repeat (first | apply Kd.R_alloc | apply Kd.R_drewN | apply Kd.R_drew)); exact (Kd.R_mono (Kd.R_far (p := ⟨gb155, 2, none⟩) (Kd.R_far (p := ⟨gb155, 1, none⟩) (Kd.R_far (p := ⟨gb155, 0, none⟩) (Kd.R_types HO_15.out BK155.out (by decide)) (fun _ hk => hk.2) (.int .i64 x2_1)) (fun _ hk => hk.2) (.int .i64 x3_2)) (fun _ hk => hk.2) (.bool (rdOf false y151 x17_3))) (fun _ h_ => h_.1))) hb); replace BK155 := aM_ (blk_below (g := gb155) (o := .cells #[.int .i64 x2_1, .int .i64 x3_2, .bool (rdOf false y151 x17_3)] 27 (0, 0)) yactParseHandx4_5_ hb); replace HB := aM_ (below_step hB_ hb); (try clear hb); (try clear hb2); (try clear hk); (try clear hi); have hz15 := cf3_ BK155.out) | ((with_reducible refine gate_builtin (b := .append) (xs := #[.tmp 27, .tmp 29]) rfl ?_); at_builtin; refine Kd.R_append k27 (w0 := w) w.heap.size rfl (.tmp 27) (.tmp 29) 61 27 (.agg #[(.int .i64 0), (.int .i64 0), (.bool false)]) 24 rfl Tryz.underlying61 info27 rfl (by decide) (by omega) u1 x1_3 (⟨x2_1, x3_2, rdOf false y151 x17_3⟩ : S27) [.int .i64 x2_1, .int .i64 x3_2, .bool (rdOf false y151 x17_3)] (fun k_ => k_ ≠ gb155) (fun _ => False) rfl rfl ?aP (fun _ hk => hk.elim) ?aF ?aO ?aB ?aS ?aL ?_; (case aP => exact k27_mkM _ _ _ (⟨x2_1, x3_2, rdOf false y151 x17_3⟩ : S27)); (case aB => exact hB_); (case aF => exact (fun k_ hk => Kd.freshB (g := gb155) kP_ k_ hk)); (case aO => exact (by (with_reducible repeat (first | apply Kd.R_alloc | apply Kd.R_drewN | apply Kd.R_drew)); exact Kd.R_mono HO_1.out (fun _ hk => hk.2))); (case aS => exact (below_size hB_)); (case aL => have := LMc11.out; omega); intro v158 w16 ho hb hg hat; rw [← Ny157.out] at ho; have HO159 := aM_ (ho); replace HO_15 := aM_ (Kd.R_over' yactParseHandx4_3_ (Kd.R_typed yactParseHandx4_1_) (by decide) hg); replace BK155 := aM_ (blk_grown (g := gb155) (kR_ BK155) hg (Kd.R_away HO_1.out (fun _ hk => hk.2))); replace HB := aM_ (hb); clear HO_1; clear ho hb hg hat))
              go_roundg k3
              case measure => have := HK1.out; have := HK2.out; have := HK3.out; omega
              case rel => exact ⟨(y157), (wrap64 (x17_3 + 1)), yactParseHandx4_0_, H', ⟨yactParseHandx4_6_⟩, ⟨by (with_reducible repeat (first | apply Kd.R_alloc | apply Kd.R_drewN | apply Kd.R_drew)); exact Kd.R_mono HO159.out (fun _ hk => trivial)⟩, ⟨yactParseHandx4_3_⟩, ⟨hB_⟩⟩
             ·rw [if_neg c11] at H
              exact absurd H (by simp)
            ·replace c10 := Bool.eq_false_iff.mpr c10
             subst c10
             replace H := in_ H (show ¬ (false = true) by decide)
             have H' := Aside0.mk H
             clear H
             have p154 : 0 ≤ (x17_3 : Int) := of_decide_eq_true yactParseHandx4_2_
             have q154 : x17_3 < (y151.length : Int) := of_decide_eq_true yactParseHandx4_2_
             obtain ⟨ad154, e154, hx154_0⟩ := Kd.at_bool (Kd.R_reads' HO_15.out).2.2 x17_3 p154 q154
             cases e154
             replace p154 := eq_true p154
             replace q154 := eq_true q154
             go_wp2_with (first | ((with_reducible refine gate_dst (N := 6) rfl ?_); refine box_event ?hg (N := 6) ?hd (cs := #[.int .i64 0, .int .i64 0, .bool false]) (t := 27) ?hr ?_; (case hd => rfl); (case hg => rfl); (case hr => first | (go_simp; done) | (go_simp; rfl)); intro gb155 hg w17 hbox hb; have BK155 := aM_ (hbox); have GW155 := aM_ (gw_ w hg); have GE155 := aM_ (gw_ w hg); replace HO_1 := aM_ (Kd.R_below (Kd.R_elderB yactParseHandx4_1_ gb155 (Nat.le_of_eq hg.symm)) hb); replace HO_15 := aM_ (Kd.R_below yactParseHandx4_3_ hb); replace HB := aM_ (below_step hB_ hb); clear hb hbox hg; have hz18 := cf3_ BK155.out) | ((with_reducible refine gate_callee (f := 54) rfl ?_); refine goesM_ (some 26) Tryz.func54 #[.agg #[.int .i64 x2_1, .int .i64 x3_2, .bool (rdOf false y151 x17_3)]] ?_; (with_reducible refine (spec_plGood.calls x2_1 x3_2 (rdOf false y151 x17_3) false _ A9.out).mono ?_); rintro e w19 ⟨rfl, hb⟩; refine ⟨_, rfl, ?_⟩; replace HO_1 := aM_ (Kd.R_below yactParseHandx4_4_ hb); replace HO_15 := aM_ (Kd.R_below (by (with_reducible repeat (first | apply Kd.R_alloc | apply Kd.R_drewN | apply Kd.R_drew)); exact (Kd.R_mono (Kd.R_far (p := ⟨gb155, 2, none⟩) (Kd.R_far (p := ⟨gb155, 1, none⟩) (Kd.R_far (p := ⟨gb155, 0, none⟩) (Kd.R_types HO_15.out BK155.out (by decide)) (fun _ hk => hk.2) (.int .i64 x2_1)) (fun _ hk => hk.2) (.int .i64 x3_2)) (fun _ hk => hk.2) (.bool (rdOf false y151 x17_3))) (fun _ h_ => h_.1))) hb); replace BK155 := aM_ (blk_below (g := gb155) (o := .cells #[.int .i64 x2_1, .int .i64 x3_2, .bool (rdOf false y151 x17_3)] 27 (0, 0)) yactParseHandx4_5_ hb); replace HB := aM_ (below_step hB_ hb); (try clear hb); (try clear hb2); (try clear hk); (try clear hi)))
             go_roundg k3
             case measure => have := HK1.out; have := HK2.out; have := HK3.out; omega
             case rel => exact ⟨(x1_3), (wrap64 (x17_3 + 1)), yactParseHandx4_0_, H', ⟨yactParseHandx4_6_⟩, ⟨by (with_reducible repeat (first | apply Kd.R_alloc | apply Kd.R_drewN | apply Kd.R_drew)); exact Kd.R_mono HO_1.out (fun _ hk => trivial)⟩, ⟨yactParseHandx4_3_⟩, ⟨hB_⟩⟩
           ·rw [if_neg c8] at H
            exact absurd H (by simp)
          ·rw [if_neg c7] at H
           exact absurd H (by simp)
         ·rw [if_neg c6] at H
          have c6b0 : decide (x17_3 < (y151.length : Int)) = false := decide_eq_false c6
          clear c6
          have H' := Aside0.mk H
          clear H
          go_wp2
          go_roundg k3
          case measure => have := HK1.out; have := HK2.out; have := HK3.out; omega
          case rel => exact ⟨(x1_3), (wrap64 (x3_2 + 1)), yactParseHandx4_0_, H', ⟨yactParseHandx4_6_⟩, ⟨yactParseHandx4_1_⟩, ⟨hB_⟩⟩
      ·rw [if_neg c2] at H
       have c2b0 : decide (x3_2 ≤ 1) = false := decide_eq_false c2
       clear c2
       have H' := Aside0.mk H
       clear H
       go_wp2
       go_roundg k2
       case measure => have := HK1.out; have := HK2.out; omega
       case rel => exact ⟨(x1_2), (wrap64 (x2_1 + 1)), yactParseHandx4_0_, H', ⟨by have := HK1.out; have := HK2.out; omega⟩, ⟨yactParseHandx4_1_⟩, ⟨hB_⟩⟩
   ·rw [if_neg c1] at H
    have c1b0 : decide (x2_1 < 10) = false := decide_eq_false c1
    clear c1
    obtain rfl := Option.some.inj H
    go_wp2
    go_ret
    exact ⟨_, rT_, yactParseHandx4_1_, hB_⟩

/-! ### spec_plNames: function 55 -/
set_option maxHeartbeats 8000000 in
set_option maxRecDepth 100000 in
theorem spec_plNames.calls  (r : List ByteArray) (w : World) (h : spec_plNames.f  = some r) :
 Calls Tryz.prog 55 #[] w fun e w' => ∃ v0_ : Value, e = .returned (v0_) ∧ Kd.R Kd.string 9 w' w.heap.size (fun _ => True) v0_ r ∧ Below w.heap.size w w' := by
 have HB := Aside0.mk (Below.refl w.heap.size w)
 have H : (some (([(⟨#[115, 112, 97, 99, 101]⟩ : ByteArray), (⟨#[104, 101, 97, 100]⟩ : ByteArray), (⟨#[101, 121, 101]⟩ : ByteArray), (⟨#[99, 104, 101, 101, 107]⟩ : ByteArray), (⟨#[109, 111, 117, 116, 104]⟩ : ByteArray), (⟨#[99, 104, 105, 110]⟩ : ByteArray), (⟨#[110, 101, 99, 107]⟩ : ByteArray), (⟨#[99, 104, 101, 115, 116]⟩ : ByteArray), (⟨#[119, 97, 105, 115, 116]⟩ : ByteArray), (⟨#[104, 105, 112]⟩ : ByteArray)] : List ByteArray))) = some r := h
 clear h
 obtain ⟨y160, hy160⟩ : ∃ y_ : List ByteArray, y_ = (([(⟨#[115, 112, 97, 99, 101]⟩ : ByteArray), (⟨#[104, 101, 97, 100]⟩ : ByteArray), (⟨#[101, 121, 101]⟩ : ByteArray), (⟨#[99, 104, 101, 101, 107]⟩ : ByteArray), (⟨#[109, 111, 117, 116, 104]⟩ : ByteArray), (⟨#[99, 104, 105, 110]⟩ : ByteArray), (⟨#[110, 101, 99, 107]⟩ : ByteArray), (⟨#[99, 104, 101, 115, 116]⟩ : ByteArray), (⟨#[119, 97, 105, 115, 116]⟩ : ByteArray), (⟨#[104, 105, 112]⟩ : ByteArray)] : List ByteArray)) := ⟨_, rfl⟩
 replace H : (some y160) = some r := by first | (rw [hy160]; with_reducible exact H) | (have H2_ := (Option.bind_some _ _).symm.trans H; rw [hy160]; with_reducible exact H2_) | (have H2_ := (Option.bind_some _ _).symm.trans H; with_reducible exact H2_) | with_reducible exact H | (rw [hy160]; exact H) | exact H
 have Ny160 := Aside0.mk hy160
 clear hy160
 obtain rfl := Option.some.inj H
 go_enter Tryz.func55, Tryz.ntmps55
 go_wp2_with (first | ((with_reducible refine gate_dst (N := 1) rfl ?_); refine Kd.R_lit Kd.string _ 9 ?hg (N := 1) ?hd (xs := ([(⟨#[115, 112, 97, 99, 101]⟩ : ByteArray), (⟨#[104, 101, 97, 100]⟩ : ByteArray), (⟨#[101, 121, 101]⟩ : ByteArray), (⟨#[99, 104, 101, 101, 107]⟩ : ByteArray), (⟨#[109, 111, 117, 116, 104]⟩ : ByteArray), (⟨#[99, 104, 105, 110]⟩ : ByteArray), (⟨#[110, 101, 99, 107]⟩ : ByteArray), (⟨#[99, 104, 101, 115, 116]⟩ : ByteArray), (⟨#[119, 97, 105, 115, 116]⟩ : ByteArray), (⟨#[104, 105, 112]⟩ : ByteArray)] : List ByteArray)) (inner := [.string (⟨#[115, 112, 97, 99, 101]⟩ : ByteArray), .string (⟨#[104, 101, 97, 100]⟩ : ByteArray), .string (⟨#[101, 121, 101]⟩ : ByteArray), .string (⟨#[99, 104, 101, 101, 107]⟩ : ByteArray), .string (⟨#[109, 111, 117, 116, 104]⟩ : ByteArray), .string (⟨#[99, 104, 105, 110]⟩ : ByteArray), .string (⟨#[110, 101, 99, 107]⟩ : ByteArray), .string (⟨#[99, 104, 101, 115, 116]⟩ : ByteArray), .string (⟨#[119, 97, 105, 115, 116]⟩ : ByteArray), .string (⟨#[104, 105, 112]⟩ : ByteArray)]) (ok := fun _ => True) (okp := fun _ => True) ?hr ?hp (fun _ hk => hk) trivial (Below.refl _ _) (Nat.le_refl _) (by simp) ?_; (case hd => rfl); (case hg => rfl); (case hr => first | (go_simp; done) | (go_simp; rfl)); (case hp => exact (Reps.one (show Kd.M Kd.string _ _ _ (⟨#[115, 112, 97, 99, 101]⟩ : ByteArray) [.string (⟨#[115, 112, 97, 99, 101]⟩ : ByteArray)] from rfl) (Reps.one (show Kd.M Kd.string _ _ _ (⟨#[104, 101, 97, 100]⟩ : ByteArray) [.string (⟨#[104, 101, 97, 100]⟩ : ByteArray)] from rfl) (Reps.one (show Kd.M Kd.string _ _ _ (⟨#[101, 121, 101]⟩ : ByteArray) [.string (⟨#[101, 121, 101]⟩ : ByteArray)] from rfl) (Reps.one (show Kd.M Kd.string _ _ _ (⟨#[99, 104, 101, 101, 107]⟩ : ByteArray) [.string (⟨#[99, 104, 101, 101, 107]⟩ : ByteArray)] from rfl) (Reps.one (show Kd.M Kd.string _ _ _ (⟨#[109, 111, 117, 116, 104]⟩ : ByteArray) [.string (⟨#[109, 111, 117, 116, 104]⟩ : ByteArray)] from rfl) (Reps.one (show Kd.M Kd.string _ _ _ (⟨#[99, 104, 105, 110]⟩ : ByteArray) [.string (⟨#[99, 104, 105, 110]⟩ : ByteArray)] from rfl) (Reps.one (show Kd.M Kd.string _ _ _ (⟨#[110, 101, 99, 107]⟩ : ByteArray) [.string (⟨#[110, 101, 99, 107]⟩ : ByteArray)] from rfl) (Reps.one (show Kd.M Kd.string _ _ _ (⟨#[99, 104, 101, 115, 116]⟩ : ByteArray) [.string (⟨#[99, 104, 101, 115, 116]⟩ : ByteArray)] from rfl) (Reps.one (show Kd.M Kd.string _ _ _ (⟨#[119, 97, 105, 115, 116]⟩ : ByteArray) [.string (⟨#[119, 97, 105, 115, 116]⟩ : ByteArray)] from rfl) (Reps.one (show Kd.M Kd.string _ _ _ (⟨#[104, 105, 112]⟩ : ByteArray) [.string (⟨#[104, 105, 112]⟩ : ByteArray)] from rfl) (Reps.none _ _)))))))))))); intro v161 w1 ho2 hb hg_ hnew_; clear hg_ hnew_; (first | rw [← Ny160.out] at ho2 | (simp only [Int.reduceToNat] at ho2; rw [← Ny160.out] at ho2)); have HO162 := aM_ (Kd.R_lower ho2 (below_size hB_)); replace HB := aM_ (below_step hB_ hb); clear hb ho2))
 go_ret
 exact ⟨_, rT_, by (with_reducible repeat (first | apply Kd.R_alloc | apply Kd.R_drewN | apply Kd.R_drew)); exact HO162.out, hB_⟩

/-! ### spec_plText: function 31 -/
set_option maxHeartbeats 8000000 in
set_option maxRecDepth 100000 in
theorem spec_plText.calls (a0_0 : Int) (a0_1 : Int) (a0_2 : Bool) (r : ByteArray) (w : World) (h : spec_plText.f a0_0 a0_1 a0_2 = some r) :
 Calls Tryz.prog 31 #[.agg #[.int .i64 a0_0, .int .i64 a0_1, .bool a0_2]] w fun e w' => e = .returned (.string r) ∧ Below w.heap.size w w' := by
 have hu27 := Tryz.underlying27
 have HB := Aside0.mk (Below.refl w.heap.size w)
 have H : ((spec_plNames.f).bind fun t164 => (if 0 ≤ a0_0 then (if a0_0 < (t164.length : Int) then (if a0_1 = (-1) then (if (rdOf ByteArray.empty t164 a0_0).size + 1 ≤ 9223372036854775807 then (if a0_2 = true then (if ((rdOf ByteArray.empty t164 a0_0) ++ (⟨#[60]⟩ : ByteArray)).size + 1 ≤ 9223372036854775807 then (some (((rdOf ByteArray.empty t164 a0_0) ++ (⟨#[60]⟩ : ByteArray)) ++ (⟨#[42]⟩ : ByteArray))) else (none)) else (some ((rdOf ByteArray.empty t164 a0_0) ++ (⟨#[60]⟩ : ByteArray)))) else (none)) else (if a0_1 = 1 then (if (rdOf ByteArray.empty t164 a0_0).size + 1 ≤ 9223372036854775807 then (if a0_2 = true then (if ((rdOf ByteArray.empty t164 a0_0) ++ (⟨#[62]⟩ : ByteArray)).size + 1 ≤ 9223372036854775807 then (some (((rdOf ByteArray.empty t164 a0_0) ++ (⟨#[62]⟩ : ByteArray)) ++ (⟨#[42]⟩ : ByteArray))) else (none)) else (some ((rdOf ByteArray.empty t164 a0_0) ++ (⟨#[62]⟩ : ByteArray)))) else (none)) else (if a0_2 = true then (if (rdOf ByteArray.empty t164 a0_0).size + 1 ≤ 9223372036854775807 then (some ((rdOf ByteArray.empty t164 a0_0) ++ (⟨#[42]⟩ : ByteArray))) else (none)) else (some (rdOf ByteArray.empty t164 a0_0))))) else (none)) else (none))) = some r := h
 clear h
 replace H := Option.bind_eq_some_iff.mp H
 obtain ⟨t164, A20, H⟩ := H
 try dsimp only at H
 have A2 := Aside0.mk A20
 clear A20
 by_cases c3 : 0 ≤ a0_0
 ·rw [if_pos c3] at H
  have c3b0 : decide (0 ≤ a0_0) = true := decide_eq_true c3
  clear c3
  by_cases c4 : a0_0 < (t164.length : Int)
  ·rw [if_pos c4] at H
   have c4b0 : decide (a0_0 < (t164.length : Int)) = true := decide_eq_true c4
   clear c4
   by_cases c5 : a0_1 = (-1)
   ·rw [if_pos c5] at H
    have c5b0 : (a0_1 == (-1)) = true := beq_iff_eq.mpr c5
    have c5b1 : (a0_1 != (-1)) = false := bne_eq_false_iff_eq.mpr c5
    clear c5
    by_cases c6 : (rdOf ByteArray.empty t164 a0_0).size + 1 ≤ 9223372036854775807
    ·rw [if_pos c6] at H
     have c6b0 := eq_true c6
     have c6b1 : decide ((rdOf ByteArray.empty t164 a0_0).size + 1 ≤ 9223372036854775807) = true := decide_eq_true c6
     try have c6b2 : (9223372036854775807 < (rdOf ByteArray.empty t164 a0_0).size + 1) = False := eq_false (Nat.not_lt.2 c6)
     by_cases c7 : a0_2 = true
     ·subst c7
      replace H := ip_ H rfl
      by_cases c8 : ((rdOf ByteArray.empty t164 a0_0) ++ (⟨#[60]⟩ : ByteArray)).size + 1 ≤ 9223372036854775807
      ·rw [if_pos c8] at H
       have c8b0 := eq_true c8
       have c8b1 : decide (((rdOf ByteArray.empty t164 a0_0) ++ (⟨#[60]⟩ : ByteArray)).size + 1 ≤ 9223372036854775807) = true := decide_eq_true c8
       try have c8b2 : (9223372036854775807 < ((rdOf ByteArray.empty t164 a0_0) ++ (⟨#[60]⟩ : ByteArray)).size + 1) = False := eq_false (Nat.not_lt.2 c8)
       try (have c8b3 := c8b2; simp only [ByteArray.size_append', ByteArray.size_mk', List.size_toArray, List.length_cons, List.length_nil, Nat.zero_add, Nat.reduceAdd] at c8b3)
       obtain rfl := Option.some.inj H
       go_enter Tryz.func31, Tryz.ntmps31
       try go_wp2_with (first | ((with_reducible refine gate_dst (N := 1) rfl ?_); refine box_event ?hg (N := 1) ?hd (cs := #[.int .i64 a0_0, .int .i64 a0_1, .bool true]) (t := 27) ?hr ?_; (case hd => rfl); (case hg => rfl); (case hr => first | (go_simp; done) | (go_simp; rfl)); intro gb163 hg w9 hbox hb; have BK163 := aM_ (hbox); have GW163 := aM_ (gw_ w hg); have GE163 := aM_ (gw_ w hg); replace HB := aM_ (below_step hB_ hb); clear hb hbox hg))
       replace BK163 := aM_ (blk_drew BK163.out)
       replace HB := aM_ (below_drew1 HB.out)
       refine start_ (n := 6) (S := fun w' => w'.cell? ⟨gb163, 0, none⟩ = some (.int .i64 a0_0) ∧ w'.cell? ⟨gb163, 1, none⟩ = some (.int .i64 a0_1) ∧ w'.cell? ⟨gb163, 2, none⟩ = some (.bool true)) (ds := []) #[false, false, false, false, false, false] (by kernel_rfl) rfl rfl ⟨(blk_cell BK163.out 0).trans rfl, (blk_cell BK163.out 1).trans rfl, (blk_cell BK163.out 2).trans rfl⟩ (fun hHeld => ?_)
       generalize w9.drew = w10 at BK163 HB hHeld ⊢
       refine pure_ (i := 1) (N := some 5) (v := ?_) (a' := ?_) #[false, true, false, false, false, false] rfl rfl (by kernel_rfl) (fun _ _ _ h => h) (Or.inl ⟨by rfl, ?_⟩) ?_ ?_
       rotate_left
       ·intro w'
        go_simp
        with_reducible rfl
       rotate_left
       ·simp only [Act.put, List.setIfInBounds_toArray, List.set_cons_zero, List.set_cons_succ, i64_w, i32_w]
        rfl
       refine take_ (i := 2) (N := some 6) (v := ?_) (a' := ?_) #[false, true, true, false, false, false] rfl rfl (by kernel_rfl) (fun _ _ _ h => h) (Or.inl ⟨by rfl, ?_⟩) hHeld ?_ ?_
       rotate_left
       ·rintro w' ⟨s0, s1, s2⟩
        go_simp
        with_reducible rfl
       rotate_left
       ·simp only [Act.put, List.setIfInBounds_toArray, List.set_cons_zero, List.set_cons_succ, i64_w, i32_w]
        rfl
       refine one_ (i := 0) (N := some 4) #[true, true, true, false, false, false] rfl rfl (by kernel_rfl) (by decide) (fun K hK => ?_)
       refine goes_ Tryz.func55 (by kernel_rfl) rfl #[] (by rfl) rfl rfl aR_ ?_
       with_reducible refine (spec_plNames.calls  t164 _ A2.out).mono ?_
       rintro e w11 ⟨v165, rfl, ho0, hb⟩
       refine ⟨_, rfl, ?_⟩
       have HO166 := aM_ (Kd.R_lower ho0 (below_size hB_))
       replace BK163 := aM_ (blk_below (g := gb163) (kR_ BK163) hb)
       replace HB := aM_ (below_step hB_ hb)
       (try clear hb)
       (try clear hb2)
       (try clear hk)
       (try clear hi)
       (try clear ho0)
       obtain ⟨Ao12, co12, eo12⟩ := Kd.R_slice HO166.out
       (first | subst eo12 | (injection eo12 with f1_ f2_ f3_; have f4_ := f1_.symm; have f5_ := f3_.symm; clear f1_ f2_ f3_; subst f4_; subst f5_))
       have p167 : 0 ≤ (a0_0 : Int) := of_decide_eq_true yactParseHandx4_2_
       have q167 : a0_0 < (t164.length : Int) := of_decide_eq_true yactParseHandx4_2_
       obtain ⟨ad167, e167, hx167_0⟩ := Kd.at_string (Kd.R_reads' HO166.out).2.2 a0_0 p167 q167
       cases e167
       replace p167 := eq_true p167
       replace q167 := eq_true q167
       refine hK.out _ _ ⟨(blk_cell BK163.out 0).trans rfl, (blk_cell BK163.out 1).trans rfl, (blk_cell BK163.out 2).trans rfl⟩ (fun hHeld => ?_)
       clear hK K
       refine more_ (fun w' => w'.cell? ⟨gb163, 0, none⟩ = some (.int .i64 a0_0) ∧ w'.cell? ⟨gb163, 1, none⟩ = some (.int .i64 a0_1) ∧ w'.cell? ⟨gb163, 2, none⟩ = some (.bool true) ∧ w'.cell? (ad167.add (a0_0).toNat) = some (.string (rdOf ByteArray.empty t164 a0_0))) (fun _ h_ => ⟨h_.1, h_.2.1, h_.2.2.1⟩) ⟨hHeld.1, hHeld.2.1, hHeld.2.2, hx167_0⟩ (fun hHeld => ?_)
       refine norm_ (a' := ?_) ?_ ?_
       rotate_left
       ·show Act.put _ (some 4) _ = _
        simp only [Act.put, List.setIfInBounds_toArray, List.set_cons_zero, List.set_cons_succ, i64_w, i32_w]
        rfl
       refine pure_ (i := 3) (N := some 7) (v := ?_) (a' := ?_) #[true, true, true, true, false, false] rfl rfl (by kernel_rfl) (fun _ _ _ h => h) (Or.inl ⟨by rfl, ?_⟩) ?_ ?_
       rotate_left
       ·intro w'
        go_simp
        with_reducible rfl
       rotate_left
       ·simp only [Act.put, List.setIfInBounds_toArray, List.set_cons_zero, List.set_cons_succ, i64_w, i32_w]
        rfl
       refine take_ (i := 4) (N := some 8) (v := ?_) (a' := ?_) #[true, true, true, true, true, false] rfl rfl (by kernel_rfl) (fun _ _ _ h => h) (Or.inl ⟨by rfl, ?_⟩) hHeld ?_ ?_
       rotate_left
       ·rintro w' ⟨s0, s1, s2, s3⟩
        go_simp
        with_reducible rfl
       rotate_left
       ·simp only [Act.put, List.setIfInBounds_toArray, List.set_cons_zero, List.set_cons_succ, i64_w, i32_w]
        rfl
       refine pure_ (i := 5) (N := some 3) (v := ?_) (a' := ?_) #[true, true, true, true, true, true] rfl rfl (by kernel_rfl) (fun _ _ _ h => h) (Or.inl ⟨by rfl, ?_⟩) ?_ ?_
       rotate_left
       ·intro w'
        go_simp
        with_reducible rfl
       rotate_left
       ·simp only [Act.put, List.setIfInBounds_toArray, List.set_cons_zero, List.set_cons_succ, i64_w, i32_w]
        rfl
       refine done_ (by kernel_rfl) ?_
       have hz13 := cf3_ BK163.out
       try go_wp2
       go_ret
       exact ⟨rT_, hB_⟩
      ·rw [if_neg c8] at H
       exact absurd H (by simp)
     ·replace c7 := Bool.eq_false_iff.mpr c7
      subst c7
      replace H := in_ H (show ¬ (false = true) by decide)
      obtain rfl := Option.some.inj H
      go_enter Tryz.func31, Tryz.ntmps31
      try go_wp2_with (first | ((with_reducible refine gate_dst (N := 1) rfl ?_); refine box_event ?hg (N := 1) ?hd (cs := #[.int .i64 a0_0, .int .i64 a0_1, .bool false]) (t := 27) ?hr ?_; (case hd => rfl); (case hg => rfl); (case hr => first | (go_simp; done) | (go_simp; rfl)); intro gb163 hg w14 hbox hb; have BK163 := aM_ (hbox); have GW163 := aM_ (gw_ w hg); have GE163 := aM_ (gw_ w hg); replace HB := aM_ (below_step hB_ hb); clear hb hbox hg))
      replace BK163 := aM_ (blk_drew BK163.out)
      replace HB := aM_ (below_drew1 HB.out)
      refine start_ (n := 6) (S := fun w' => w'.cell? ⟨gb163, 0, none⟩ = some (.int .i64 a0_0) ∧ w'.cell? ⟨gb163, 1, none⟩ = some (.int .i64 a0_1) ∧ w'.cell? ⟨gb163, 2, none⟩ = some (.bool false)) (ds := []) #[false, false, false, false, false, false] (by kernel_rfl) rfl rfl ⟨(blk_cell BK163.out 0).trans rfl, (blk_cell BK163.out 1).trans rfl, (blk_cell BK163.out 2).trans rfl⟩ (fun hHeld => ?_)
      generalize w14.drew = w15 at BK163 HB hHeld ⊢
      refine pure_ (i := 1) (N := some 5) (v := ?_) (a' := ?_) #[false, true, false, false, false, false] rfl rfl (by kernel_rfl) (fun _ _ _ h => h) (Or.inl ⟨by rfl, ?_⟩) ?_ ?_
      rotate_left
      ·intro w'
       go_simp
       with_reducible rfl
      rotate_left
      ·simp only [Act.put, List.setIfInBounds_toArray, List.set_cons_zero, List.set_cons_succ, i64_w, i32_w]
       rfl
      refine take_ (i := 2) (N := some 6) (v := ?_) (a' := ?_) #[false, true, true, false, false, false] rfl rfl (by kernel_rfl) (fun _ _ _ h => h) (Or.inl ⟨by rfl, ?_⟩) hHeld ?_ ?_
      rotate_left
      ·rintro w' ⟨s0, s1, s2⟩
       go_simp
       with_reducible rfl
      rotate_left
      ·simp only [Act.put, List.setIfInBounds_toArray, List.set_cons_zero, List.set_cons_succ, i64_w, i32_w]
       rfl
      refine one_ (i := 0) (N := some 4) #[true, true, true, false, false, false] rfl rfl (by kernel_rfl) (by decide) (fun K hK => ?_)
      refine goes_ Tryz.func55 (by kernel_rfl) rfl #[] (by rfl) rfl rfl aR_ ?_
      with_reducible refine (spec_plNames.calls  t164 _ A2.out).mono ?_
      rintro e w16 ⟨v165, rfl, ho0, hb⟩
      refine ⟨_, rfl, ?_⟩
      have HO166 := aM_ (Kd.R_lower ho0 (below_size hB_))
      replace BK163 := aM_ (blk_below (g := gb163) (kR_ BK163) hb)
      replace HB := aM_ (below_step hB_ hb)
      (try clear hb)
      (try clear hb2)
      (try clear hk)
      (try clear hi)
      (try clear ho0)
      obtain ⟨Ao17, co17, eo17⟩ := Kd.R_slice HO166.out
      (first | subst eo17 | (injection eo17 with f1_ f2_ f3_; have f4_ := f1_.symm; have f5_ := f3_.symm; clear f1_ f2_ f3_; subst f4_; subst f5_))
      have p167 : 0 ≤ (a0_0 : Int) := of_decide_eq_true yactParseHandx4_2_
      have q167 : a0_0 < (t164.length : Int) := of_decide_eq_true yactParseHandx4_2_
      obtain ⟨ad167, e167, hx167_0⟩ := Kd.at_string (Kd.R_reads' HO166.out).2.2 a0_0 p167 q167
      cases e167
      replace p167 := eq_true p167
      replace q167 := eq_true q167
      refine hK.out _ _ ⟨(blk_cell BK163.out 0).trans rfl, (blk_cell BK163.out 1).trans rfl, (blk_cell BK163.out 2).trans rfl⟩ (fun hHeld => ?_)
      clear hK K
      refine more_ (fun w' => w'.cell? ⟨gb163, 0, none⟩ = some (.int .i64 a0_0) ∧ w'.cell? ⟨gb163, 1, none⟩ = some (.int .i64 a0_1) ∧ w'.cell? ⟨gb163, 2, none⟩ = some (.bool false) ∧ w'.cell? (ad167.add (a0_0).toNat) = some (.string (rdOf ByteArray.empty t164 a0_0))) (fun _ h_ => ⟨h_.1, h_.2.1, h_.2.2.1⟩) ⟨hHeld.1, hHeld.2.1, hHeld.2.2, hx167_0⟩ (fun hHeld => ?_)
      refine norm_ (a' := ?_) ?_ ?_
      rotate_left
      ·show Act.put _ (some 4) _ = _
       simp only [Act.put, List.setIfInBounds_toArray, List.set_cons_zero, List.set_cons_succ, i64_w, i32_w]
       rfl
      refine pure_ (i := 3) (N := some 7) (v := ?_) (a' := ?_) #[true, true, true, true, false, false] rfl rfl (by kernel_rfl) (fun _ _ _ h => h) (Or.inl ⟨by rfl, ?_⟩) ?_ ?_
      rotate_left
      ·intro w'
       go_simp
       with_reducible rfl
      rotate_left
      ·simp only [Act.put, List.setIfInBounds_toArray, List.set_cons_zero, List.set_cons_succ, i64_w, i32_w]
       rfl
      refine take_ (i := 4) (N := some 8) (v := ?_) (a' := ?_) #[true, true, true, true, true, false] rfl rfl (by kernel_rfl) (fun _ _ _ h => h) (Or.inl ⟨by rfl, ?_⟩) hHeld ?_ ?_
      rotate_left
      ·rintro w' ⟨s0, s1, s2, s3⟩
       go_simp
       with_reducible rfl
      rotate_left
      ·simp only [Act.put, List.setIfInBounds_toArray, List.set_cons_zero, List.set_cons_succ, i64_w, i32_w]
       rfl
      refine pure_ (i := 5) (N := some 3) (v := ?_) (a' := ?_) #[true, true, true, true, true, true] rfl rfl (by kernel_rfl) (fun _ _ _ h => h) (Or.inl ⟨by rfl, ?_⟩) ?_ ?_
      rotate_left
      ·intro w'
       go_simp
       with_reducible rfl
      rotate_left
      ·simp only [Act.put, List.setIfInBounds_toArray, List.set_cons_zero, List.set_cons_succ, i64_w, i32_w]
       rfl
      refine done_ (by kernel_rfl) ?_
      have hz18 := cf3_ BK163.out
      try go_wp2
      go_ret
      exact ⟨rT_, hB_⟩
    ·rw [if_neg c6] at H
     exact absurd H (by simp)
   ·rw [if_neg c5] at H
    have c5b0 : (a0_1 == (-1)) = false := beq_eq_false_iff_ne.mpr c5
    have c5b1 : (a0_1 != (-1)) = true := bne_iff_ne.mpr c5
    by_cases c19 : a0_1 = 1
    ·rw [if_pos c19] at H
     have c19b0 : (a0_1 == 1) = true := beq_iff_eq.mpr c19
     have c19b1 : (a0_1 != 1) = false := bne_eq_false_iff_eq.mpr c19
     clear c19
     by_cases c20 : (rdOf ByteArray.empty t164 a0_0).size + 1 ≤ 9223372036854775807
     ·rw [if_pos c20] at H
      have c20b0 := eq_true c20
      have c20b1 : decide ((rdOf ByteArray.empty t164 a0_0).size + 1 ≤ 9223372036854775807) = true := decide_eq_true c20
      try have c20b2 : (9223372036854775807 < (rdOf ByteArray.empty t164 a0_0).size + 1) = False := eq_false (Nat.not_lt.2 c20)
      by_cases c21 : a0_2 = true
      ·subst c21
       replace H := ip_ H rfl
       by_cases c22 : ((rdOf ByteArray.empty t164 a0_0) ++ (⟨#[62]⟩ : ByteArray)).size + 1 ≤ 9223372036854775807
       ·rw [if_pos c22] at H
        have c22b0 := eq_true c22
        have c22b1 : decide (((rdOf ByteArray.empty t164 a0_0) ++ (⟨#[62]⟩ : ByteArray)).size + 1 ≤ 9223372036854775807) = true := decide_eq_true c22
        try have c22b2 : (9223372036854775807 < ((rdOf ByteArray.empty t164 a0_0) ++ (⟨#[62]⟩ : ByteArray)).size + 1) = False := eq_false (Nat.not_lt.2 c22)
        try (have c22b3 := c22b2; simp only [ByteArray.size_append', ByteArray.size_mk', List.size_toArray, List.length_cons, List.length_nil, Nat.zero_add, Nat.reduceAdd] at c22b3)
        obtain rfl := Option.some.inj H
        go_enter Tryz.func31, Tryz.ntmps31
        try go_wp2_with (first | ((with_reducible refine gate_dst (N := 1) rfl ?_); refine box_event ?hg (N := 1) ?hd (cs := #[.int .i64 a0_0, .int .i64 a0_1, .bool true]) (t := 27) ?hr ?_; (case hd => rfl); (case hg => rfl); (case hr => first | (go_simp; done) | (go_simp; rfl)); intro gb163 hg w23 hbox hb; have BK163 := aM_ (hbox); have GW163 := aM_ (gw_ w hg); have GE163 := aM_ (gw_ w hg); replace HB := aM_ (below_step hB_ hb); clear hb hbox hg))
        replace BK163 := aM_ (blk_drew BK163.out)
        replace HB := aM_ (below_drew1 HB.out)
        refine start_ (n := 6) (S := fun w' => w'.cell? ⟨gb163, 0, none⟩ = some (.int .i64 a0_0) ∧ w'.cell? ⟨gb163, 1, none⟩ = some (.int .i64 a0_1) ∧ w'.cell? ⟨gb163, 2, none⟩ = some (.bool true)) (ds := []) #[false, false, false, false, false, false] (by kernel_rfl) rfl rfl ⟨(blk_cell BK163.out 0).trans rfl, (blk_cell BK163.out 1).trans rfl, (blk_cell BK163.out 2).trans rfl⟩ (fun hHeld => ?_)
        generalize w23.drew = w24 at BK163 HB hHeld ⊢
        refine pure_ (i := 1) (N := some 5) (v := ?_) (a' := ?_) #[false, true, false, false, false, false] rfl rfl (by kernel_rfl) (fun _ _ _ h => h) (Or.inl ⟨by rfl, ?_⟩) ?_ ?_
        rotate_left
        ·intro w'
         go_simp
         with_reducible rfl
        rotate_left
        ·simp only [Act.put, List.setIfInBounds_toArray, List.set_cons_zero, List.set_cons_succ, i64_w, i32_w]
         rfl
        refine take_ (i := 2) (N := some 6) (v := ?_) (a' := ?_) #[false, true, true, false, false, false] rfl rfl (by kernel_rfl) (fun _ _ _ h => h) (Or.inl ⟨by rfl, ?_⟩) hHeld ?_ ?_
        rotate_left
        ·rintro w' ⟨s0, s1, s2⟩
         go_simp
         with_reducible rfl
        rotate_left
        ·simp only [Act.put, List.setIfInBounds_toArray, List.set_cons_zero, List.set_cons_succ, i64_w, i32_w]
         rfl
        refine one_ (i := 0) (N := some 4) #[true, true, true, false, false, false] rfl rfl (by kernel_rfl) (by decide) (fun K hK => ?_)
        refine goes_ Tryz.func55 (by kernel_rfl) rfl #[] (by rfl) rfl rfl aR_ ?_
        with_reducible refine (spec_plNames.calls  t164 _ A2.out).mono ?_
        rintro e w25 ⟨v165, rfl, ho0, hb⟩
        refine ⟨_, rfl, ?_⟩
        have HO166 := aM_ (Kd.R_lower ho0 (below_size hB_))
        replace BK163 := aM_ (blk_below (g := gb163) (kR_ BK163) hb)
        replace HB := aM_ (below_step hB_ hb)
        (try clear hb)
        (try clear hb2)
        (try clear hk)
        (try clear hi)
        (try clear ho0)
        obtain ⟨Ao26, co26, eo26⟩ := Kd.R_slice HO166.out
        (first | subst eo26 | (injection eo26 with f1_ f2_ f3_; have f4_ := f1_.symm; have f5_ := f3_.symm; clear f1_ f2_ f3_; subst f4_; subst f5_))
        have p167 : 0 ≤ (a0_0 : Int) := of_decide_eq_true yactParseHandx4_2_
        have q167 : a0_0 < (t164.length : Int) := of_decide_eq_true yactParseHandx4_2_
        obtain ⟨ad167, e167, hx167_0⟩ := Kd.at_string (Kd.R_reads' HO166.out).2.2 a0_0 p167 q167
        cases e167
        replace p167 := eq_true p167
        replace q167 := eq_true q167
        refine hK.out _ _ ⟨(blk_cell BK163.out 0).trans rfl, (blk_cell BK163.out 1).trans rfl, (blk_cell BK163.out 2).trans rfl⟩ (fun hHeld => ?_)
        clear hK K
        refine more_ (fun w' => w'.cell? ⟨gb163, 0, none⟩ = some (.int .i64 a0_0) ∧ w'.cell? ⟨gb163, 1, none⟩ = some (.int .i64 a0_1) ∧ w'.cell? ⟨gb163, 2, none⟩ = some (.bool true) ∧ w'.cell? (ad167.add (a0_0).toNat) = some (.string (rdOf ByteArray.empty t164 a0_0))) (fun _ h_ => ⟨h_.1, h_.2.1, h_.2.2.1⟩) ⟨hHeld.1, hHeld.2.1, hHeld.2.2, hx167_0⟩ (fun hHeld => ?_)
        refine norm_ (a' := ?_) ?_ ?_
        rotate_left
        ·show Act.put _ (some 4) _ = _
         simp only [Act.put, List.setIfInBounds_toArray, List.set_cons_zero, List.set_cons_succ, i64_w, i32_w]
         rfl
        refine pure_ (i := 3) (N := some 7) (v := ?_) (a' := ?_) #[true, true, true, true, false, false] rfl rfl (by kernel_rfl) (fun _ _ _ h => h) (Or.inl ⟨by rfl, ?_⟩) ?_ ?_
        rotate_left
        ·intro w'
         go_simp
         with_reducible rfl
        rotate_left
        ·simp only [Act.put, List.setIfInBounds_toArray, List.set_cons_zero, List.set_cons_succ, i64_w, i32_w]
         rfl
        refine take_ (i := 4) (N := some 8) (v := ?_) (a' := ?_) #[true, true, true, true, true, false] rfl rfl (by kernel_rfl) (fun _ _ _ h => h) (Or.inl ⟨by rfl, ?_⟩) hHeld ?_ ?_
        rotate_left
        ·rintro w' ⟨s0, s1, s2, s3⟩
         go_simp
         with_reducible rfl
        rotate_left
        ·simp only [Act.put, List.setIfInBounds_toArray, List.set_cons_zero, List.set_cons_succ, i64_w, i32_w]
         rfl
        refine pure_ (i := 5) (N := some 3) (v := ?_) (a' := ?_) #[true, true, true, true, true, true] rfl rfl (by kernel_rfl) (fun _ _ _ h => h) (Or.inl ⟨by rfl, ?_⟩) ?_ ?_
        rotate_left
        ·intro w'
         go_simp
         with_reducible rfl
        rotate_left
        ·simp only [Act.put, List.setIfInBounds_toArray, List.set_cons_zero, List.set_cons_succ, i64_w, i32_w]
         rfl
        refine done_ (by kernel_rfl) ?_
        have hz27 := cf3_ BK163.out
        try go_wp2
        go_ret
        exact ⟨rT_, hB_⟩
       ·rw [if_neg c22] at H
        exact absurd H (by simp)
      ·replace c21 := Bool.eq_false_iff.mpr c21
       subst c21
       replace H := in_ H (show ¬ (false = true) by decide)
       obtain rfl := Option.some.inj H
       go_enter Tryz.func31, Tryz.ntmps31
       try go_wp2_with (first | ((with_reducible refine gate_dst (N := 1) rfl ?_); refine box_event ?hg (N := 1) ?hd (cs := #[.int .i64 a0_0, .int .i64 a0_1, .bool false]) (t := 27) ?hr ?_; (case hd => rfl); (case hg => rfl); (case hr => first | (go_simp; done) | (go_simp; rfl)); intro gb163 hg w28 hbox hb; have BK163 := aM_ (hbox); have GW163 := aM_ (gw_ w hg); have GE163 := aM_ (gw_ w hg); replace HB := aM_ (below_step hB_ hb); clear hb hbox hg))
       replace BK163 := aM_ (blk_drew BK163.out)
       replace HB := aM_ (below_drew1 HB.out)
       refine start_ (n := 6) (S := fun w' => w'.cell? ⟨gb163, 0, none⟩ = some (.int .i64 a0_0) ∧ w'.cell? ⟨gb163, 1, none⟩ = some (.int .i64 a0_1) ∧ w'.cell? ⟨gb163, 2, none⟩ = some (.bool false)) (ds := []) #[false, false, false, false, false, false] (by kernel_rfl) rfl rfl ⟨(blk_cell BK163.out 0).trans rfl, (blk_cell BK163.out 1).trans rfl, (blk_cell BK163.out 2).trans rfl⟩ (fun hHeld => ?_)
       generalize w28.drew = w29 at BK163 HB hHeld ⊢
       refine pure_ (i := 1) (N := some 5) (v := ?_) (a' := ?_) #[false, true, false, false, false, false] rfl rfl (by kernel_rfl) (fun _ _ _ h => h) (Or.inl ⟨by rfl, ?_⟩) ?_ ?_
       rotate_left
       ·intro w'
        go_simp
        with_reducible rfl
       rotate_left
       ·simp only [Act.put, List.setIfInBounds_toArray, List.set_cons_zero, List.set_cons_succ, i64_w, i32_w]
        rfl
       refine take_ (i := 2) (N := some 6) (v := ?_) (a' := ?_) #[false, true, true, false, false, false] rfl rfl (by kernel_rfl) (fun _ _ _ h => h) (Or.inl ⟨by rfl, ?_⟩) hHeld ?_ ?_
       rotate_left
       ·rintro w' ⟨s0, s1, s2⟩
        go_simp
        with_reducible rfl
       rotate_left
       ·simp only [Act.put, List.setIfInBounds_toArray, List.set_cons_zero, List.set_cons_succ, i64_w, i32_w]
        rfl
       refine one_ (i := 0) (N := some 4) #[true, true, true, false, false, false] rfl rfl (by kernel_rfl) (by decide) (fun K hK => ?_)
       refine goes_ Tryz.func55 (by kernel_rfl) rfl #[] (by rfl) rfl rfl aR_ ?_
       with_reducible refine (spec_plNames.calls  t164 _ A2.out).mono ?_
       rintro e w30 ⟨v165, rfl, ho0, hb⟩
       refine ⟨_, rfl, ?_⟩
       have HO166 := aM_ (Kd.R_lower ho0 (below_size hB_))
       replace BK163 := aM_ (blk_below (g := gb163) (kR_ BK163) hb)
       replace HB := aM_ (below_step hB_ hb)
       (try clear hb)
       (try clear hb2)
       (try clear hk)
       (try clear hi)
       (try clear ho0)
       obtain ⟨Ao31, co31, eo31⟩ := Kd.R_slice HO166.out
       (first | subst eo31 | (injection eo31 with f1_ f2_ f3_; have f4_ := f1_.symm; have f5_ := f3_.symm; clear f1_ f2_ f3_; subst f4_; subst f5_))
       have p167 : 0 ≤ (a0_0 : Int) := of_decide_eq_true yactParseHandx4_2_
       have q167 : a0_0 < (t164.length : Int) := of_decide_eq_true yactParseHandx4_2_
       obtain ⟨ad167, e167, hx167_0⟩ := Kd.at_string (Kd.R_reads' HO166.out).2.2 a0_0 p167 q167
       cases e167
       replace p167 := eq_true p167
       replace q167 := eq_true q167
       refine hK.out _ _ ⟨(blk_cell BK163.out 0).trans rfl, (blk_cell BK163.out 1).trans rfl, (blk_cell BK163.out 2).trans rfl⟩ (fun hHeld => ?_)
       clear hK K
       refine more_ (fun w' => w'.cell? ⟨gb163, 0, none⟩ = some (.int .i64 a0_0) ∧ w'.cell? ⟨gb163, 1, none⟩ = some (.int .i64 a0_1) ∧ w'.cell? ⟨gb163, 2, none⟩ = some (.bool false) ∧ w'.cell? (ad167.add (a0_0).toNat) = some (.string (rdOf ByteArray.empty t164 a0_0))) (fun _ h_ => ⟨h_.1, h_.2.1, h_.2.2.1⟩) ⟨hHeld.1, hHeld.2.1, hHeld.2.2, hx167_0⟩ (fun hHeld => ?_)
       refine norm_ (a' := ?_) ?_ ?_
       rotate_left
       ·show Act.put _ (some 4) _ = _
        simp only [Act.put, List.setIfInBounds_toArray, List.set_cons_zero, List.set_cons_succ, i64_w, i32_w]
        rfl
       refine pure_ (i := 3) (N := some 7) (v := ?_) (a' := ?_) #[true, true, true, true, false, false] rfl rfl (by kernel_rfl) (fun _ _ _ h => h) (Or.inl ⟨by rfl, ?_⟩) ?_ ?_
       rotate_left
       ·intro w'
        go_simp
        with_reducible rfl
       rotate_left
       ·simp only [Act.put, List.setIfInBounds_toArray, List.set_cons_zero, List.set_cons_succ, i64_w, i32_w]
        rfl
       refine take_ (i := 4) (N := some 8) (v := ?_) (a' := ?_) #[true, true, true, true, true, false] rfl rfl (by kernel_rfl) (fun _ _ _ h => h) (Or.inl ⟨by rfl, ?_⟩) hHeld ?_ ?_
       rotate_left
       ·rintro w' ⟨s0, s1, s2, s3⟩
        go_simp
        with_reducible rfl
       rotate_left
       ·simp only [Act.put, List.setIfInBounds_toArray, List.set_cons_zero, List.set_cons_succ, i64_w, i32_w]
        rfl
       refine pure_ (i := 5) (N := some 3) (v := ?_) (a' := ?_) #[true, true, true, true, true, true] rfl rfl (by kernel_rfl) (fun _ _ _ h => h) (Or.inl ⟨by rfl, ?_⟩) ?_ ?_
       rotate_left
       ·intro w'
        go_simp
        with_reducible rfl
       rotate_left
       ·simp only [Act.put, List.setIfInBounds_toArray, List.set_cons_zero, List.set_cons_succ, i64_w, i32_w]
        rfl
       refine done_ (by kernel_rfl) ?_
       have hz32 := cf3_ BK163.out
       try go_wp2
       go_ret
       exact ⟨rT_, hB_⟩
     ·rw [if_neg c20] at H
      exact absurd H (by simp)
    ·rw [if_neg c19] at H
     have c19b0 : (a0_1 == 1) = false := beq_eq_false_iff_ne.mpr c19
     have c19b1 : (a0_1 != 1) = true := bne_iff_ne.mpr c19
     by_cases c33 : a0_2 = true
     ·subst c33
      replace H := ip_ H rfl
      by_cases c34 : (rdOf ByteArray.empty t164 a0_0).size + 1 ≤ 9223372036854775807
      ·rw [if_pos c34] at H
       have c34b0 := eq_true c34
       have c34b1 : decide ((rdOf ByteArray.empty t164 a0_0).size + 1 ≤ 9223372036854775807) = true := decide_eq_true c34
       try have c34b2 : (9223372036854775807 < (rdOf ByteArray.empty t164 a0_0).size + 1) = False := eq_false (Nat.not_lt.2 c34)
       obtain rfl := Option.some.inj H
       go_enter Tryz.func31, Tryz.ntmps31
       try go_wp2_with (first | ((with_reducible refine gate_dst (N := 1) rfl ?_); refine box_event ?hg (N := 1) ?hd (cs := #[.int .i64 a0_0, .int .i64 a0_1, .bool true]) (t := 27) ?hr ?_; (case hd => rfl); (case hg => rfl); (case hr => first | (go_simp; done) | (go_simp; rfl)); intro gb163 hg w35 hbox hb; have BK163 := aM_ (hbox); have GW163 := aM_ (gw_ w hg); have GE163 := aM_ (gw_ w hg); replace HB := aM_ (below_step hB_ hb); clear hb hbox hg))
       replace BK163 := aM_ (blk_drew BK163.out)
       replace HB := aM_ (below_drew1 HB.out)
       refine start_ (n := 6) (S := fun w' => w'.cell? ⟨gb163, 0, none⟩ = some (.int .i64 a0_0) ∧ w'.cell? ⟨gb163, 1, none⟩ = some (.int .i64 a0_1) ∧ w'.cell? ⟨gb163, 2, none⟩ = some (.bool true)) (ds := []) #[false, false, false, false, false, false] (by kernel_rfl) rfl rfl ⟨(blk_cell BK163.out 0).trans rfl, (blk_cell BK163.out 1).trans rfl, (blk_cell BK163.out 2).trans rfl⟩ (fun hHeld => ?_)
       generalize w35.drew = w36 at BK163 HB hHeld ⊢
       refine pure_ (i := 1) (N := some 5) (v := ?_) (a' := ?_) #[false, true, false, false, false, false] rfl rfl (by kernel_rfl) (fun _ _ _ h => h) (Or.inl ⟨by rfl, ?_⟩) ?_ ?_
       rotate_left
       ·intro w'
        go_simp
        with_reducible rfl
       rotate_left
       ·simp only [Act.put, List.setIfInBounds_toArray, List.set_cons_zero, List.set_cons_succ, i64_w, i32_w]
        rfl
       refine take_ (i := 2) (N := some 6) (v := ?_) (a' := ?_) #[false, true, true, false, false, false] rfl rfl (by kernel_rfl) (fun _ _ _ h => h) (Or.inl ⟨by rfl, ?_⟩) hHeld ?_ ?_
       rotate_left
       ·rintro w' ⟨s0, s1, s2⟩
        go_simp
        with_reducible rfl
       rotate_left
       ·simp only [Act.put, List.setIfInBounds_toArray, List.set_cons_zero, List.set_cons_succ, i64_w, i32_w]
        rfl
       refine one_ (i := 0) (N := some 4) #[true, true, true, false, false, false] rfl rfl (by kernel_rfl) (by decide) (fun K hK => ?_)
       refine goes_ Tryz.func55 (by kernel_rfl) rfl #[] (by rfl) rfl rfl aR_ ?_
       with_reducible refine (spec_plNames.calls  t164 _ A2.out).mono ?_
       rintro e w37 ⟨v165, rfl, ho0, hb⟩
       refine ⟨_, rfl, ?_⟩
       have HO166 := aM_ (Kd.R_lower ho0 (below_size hB_))
       replace BK163 := aM_ (blk_below (g := gb163) (kR_ BK163) hb)
       replace HB := aM_ (below_step hB_ hb)
       (try clear hb)
       (try clear hb2)
       (try clear hk)
       (try clear hi)
       (try clear ho0)
       obtain ⟨Ao38, co38, eo38⟩ := Kd.R_slice HO166.out
       (first | subst eo38 | (injection eo38 with f1_ f2_ f3_; have f4_ := f1_.symm; have f5_ := f3_.symm; clear f1_ f2_ f3_; subst f4_; subst f5_))
       have p167 : 0 ≤ (a0_0 : Int) := of_decide_eq_true yactParseHandx4_2_
       have q167 : a0_0 < (t164.length : Int) := of_decide_eq_true yactParseHandx4_2_
       obtain ⟨ad167, e167, hx167_0⟩ := Kd.at_string (Kd.R_reads' HO166.out).2.2 a0_0 p167 q167
       cases e167
       replace p167 := eq_true p167
       replace q167 := eq_true q167
       refine hK.out _ _ ⟨(blk_cell BK163.out 0).trans rfl, (blk_cell BK163.out 1).trans rfl, (blk_cell BK163.out 2).trans rfl⟩ (fun hHeld => ?_)
       clear hK K
       refine more_ (fun w' => w'.cell? ⟨gb163, 0, none⟩ = some (.int .i64 a0_0) ∧ w'.cell? ⟨gb163, 1, none⟩ = some (.int .i64 a0_1) ∧ w'.cell? ⟨gb163, 2, none⟩ = some (.bool true) ∧ w'.cell? (ad167.add (a0_0).toNat) = some (.string (rdOf ByteArray.empty t164 a0_0))) (fun _ h_ => ⟨h_.1, h_.2.1, h_.2.2.1⟩) ⟨hHeld.1, hHeld.2.1, hHeld.2.2, hx167_0⟩ (fun hHeld => ?_)
       refine norm_ (a' := ?_) ?_ ?_
       rotate_left
       ·show Act.put _ (some 4) _ = _
        simp only [Act.put, List.setIfInBounds_toArray, List.set_cons_zero, List.set_cons_succ, i64_w, i32_w]
        rfl
       refine pure_ (i := 3) (N := some 7) (v := ?_) (a' := ?_) #[true, true, true, true, false, false] rfl rfl (by kernel_rfl) (fun _ _ _ h => h) (Or.inl ⟨by rfl, ?_⟩) ?_ ?_
       rotate_left
       ·intro w'
        go_simp
        with_reducible rfl
       rotate_left
       ·simp only [Act.put, List.setIfInBounds_toArray, List.set_cons_zero, List.set_cons_succ, i64_w, i32_w]
        rfl
       refine take_ (i := 4) (N := some 8) (v := ?_) (a' := ?_) #[true, true, true, true, true, false] rfl rfl (by kernel_rfl) (fun _ _ _ h => h) (Or.inl ⟨by rfl, ?_⟩) hHeld ?_ ?_
       rotate_left
       ·rintro w' ⟨s0, s1, s2, s3⟩
        go_simp
        with_reducible rfl
       rotate_left
       ·simp only [Act.put, List.setIfInBounds_toArray, List.set_cons_zero, List.set_cons_succ, i64_w, i32_w]
        rfl
       refine pure_ (i := 5) (N := some 3) (v := ?_) (a' := ?_) #[true, true, true, true, true, true] rfl rfl (by kernel_rfl) (fun _ _ _ h => h) (Or.inl ⟨by rfl, ?_⟩) ?_ ?_
       rotate_left
       ·intro w'
        go_simp
        with_reducible rfl
       rotate_left
       ·simp only [Act.put, List.setIfInBounds_toArray, List.set_cons_zero, List.set_cons_succ, i64_w, i32_w]
        rfl
       refine done_ (by kernel_rfl) ?_
       have hz39 := cf3_ BK163.out
       try go_wp2
       go_ret
       exact ⟨rT_, hB_⟩
      ·rw [if_neg c34] at H
       exact absurd H (by simp)
     ·replace c33 := Bool.eq_false_iff.mpr c33
      subst c33
      replace H := in_ H (show ¬ (false = true) by decide)
      obtain rfl := Option.some.inj H
      go_enter Tryz.func31, Tryz.ntmps31
      try go_wp2_with (first | ((with_reducible refine gate_dst (N := 1) rfl ?_); refine box_event ?hg (N := 1) ?hd (cs := #[.int .i64 a0_0, .int .i64 a0_1, .bool false]) (t := 27) ?hr ?_; (case hd => rfl); (case hg => rfl); (case hr => first | (go_simp; done) | (go_simp; rfl)); intro gb163 hg w40 hbox hb; have BK163 := aM_ (hbox); have GW163 := aM_ (gw_ w hg); have GE163 := aM_ (gw_ w hg); replace HB := aM_ (below_step hB_ hb); clear hb hbox hg))
      replace BK163 := aM_ (blk_drew BK163.out)
      replace HB := aM_ (below_drew1 HB.out)
      refine start_ (n := 6) (S := fun w' => w'.cell? ⟨gb163, 0, none⟩ = some (.int .i64 a0_0) ∧ w'.cell? ⟨gb163, 1, none⟩ = some (.int .i64 a0_1) ∧ w'.cell? ⟨gb163, 2, none⟩ = some (.bool false)) (ds := []) #[false, false, false, false, false, false] (by kernel_rfl) rfl rfl ⟨(blk_cell BK163.out 0).trans rfl, (blk_cell BK163.out 1).trans rfl, (blk_cell BK163.out 2).trans rfl⟩ (fun hHeld => ?_)
      generalize w40.drew = w41 at BK163 HB hHeld ⊢
      refine pure_ (i := 1) (N := some 5) (v := ?_) (a' := ?_) #[false, true, false, false, false, false] rfl rfl (by kernel_rfl) (fun _ _ _ h => h) (Or.inl ⟨by rfl, ?_⟩) ?_ ?_
      rotate_left
      ·intro w'
       go_simp
       with_reducible rfl
      rotate_left
      ·simp only [Act.put, List.setIfInBounds_toArray, List.set_cons_zero, List.set_cons_succ, i64_w, i32_w]
       rfl
      refine take_ (i := 2) (N := some 6) (v := ?_) (a' := ?_) #[false, true, true, false, false, false] rfl rfl (by kernel_rfl) (fun _ _ _ h => h) (Or.inl ⟨by rfl, ?_⟩) hHeld ?_ ?_
      rotate_left
      ·rintro w' ⟨s0, s1, s2⟩
       go_simp
       with_reducible rfl
      rotate_left
      ·simp only [Act.put, List.setIfInBounds_toArray, List.set_cons_zero, List.set_cons_succ, i64_w, i32_w]
       rfl
      refine one_ (i := 0) (N := some 4) #[true, true, true, false, false, false] rfl rfl (by kernel_rfl) (by decide) (fun K hK => ?_)
      refine goes_ Tryz.func55 (by kernel_rfl) rfl #[] (by rfl) rfl rfl aR_ ?_
      with_reducible refine (spec_plNames.calls  t164 _ A2.out).mono ?_
      rintro e w42 ⟨v165, rfl, ho0, hb⟩
      refine ⟨_, rfl, ?_⟩
      have HO166 := aM_ (Kd.R_lower ho0 (below_size hB_))
      replace BK163 := aM_ (blk_below (g := gb163) (kR_ BK163) hb)
      replace HB := aM_ (below_step hB_ hb)
      (try clear hb)
      (try clear hb2)
      (try clear hk)
      (try clear hi)
      (try clear ho0)
      obtain ⟨Ao43, co43, eo43⟩ := Kd.R_slice HO166.out
      (first | subst eo43 | (injection eo43 with f1_ f2_ f3_; have f4_ := f1_.symm; have f5_ := f3_.symm; clear f1_ f2_ f3_; subst f4_; subst f5_))
      have p167 : 0 ≤ (a0_0 : Int) := of_decide_eq_true yactParseHandx4_2_
      have q167 : a0_0 < (t164.length : Int) := of_decide_eq_true yactParseHandx4_2_
      obtain ⟨ad167, e167, hx167_0⟩ := Kd.at_string (Kd.R_reads' HO166.out).2.2 a0_0 p167 q167
      cases e167
      replace p167 := eq_true p167
      replace q167 := eq_true q167
      refine hK.out _ _ ⟨(blk_cell BK163.out 0).trans rfl, (blk_cell BK163.out 1).trans rfl, (blk_cell BK163.out 2).trans rfl⟩ (fun hHeld => ?_)
      clear hK K
      refine more_ (fun w' => w'.cell? ⟨gb163, 0, none⟩ = some (.int .i64 a0_0) ∧ w'.cell? ⟨gb163, 1, none⟩ = some (.int .i64 a0_1) ∧ w'.cell? ⟨gb163, 2, none⟩ = some (.bool false) ∧ w'.cell? (ad167.add (a0_0).toNat) = some (.string (rdOf ByteArray.empty t164 a0_0))) (fun _ h_ => ⟨h_.1, h_.2.1, h_.2.2.1⟩) ⟨hHeld.1, hHeld.2.1, hHeld.2.2, hx167_0⟩ (fun hHeld => ?_)
      refine norm_ (a' := ?_) ?_ ?_
      rotate_left
      ·show Act.put _ (some 4) _ = _
       simp only [Act.put, List.setIfInBounds_toArray, List.set_cons_zero, List.set_cons_succ, i64_w, i32_w]
       rfl
      refine pure_ (i := 3) (N := some 7) (v := ?_) (a' := ?_) #[true, true, true, true, false, false] rfl rfl (by kernel_rfl) (fun _ _ _ h => h) (Or.inl ⟨by rfl, ?_⟩) ?_ ?_
      rotate_left
      ·intro w'
       go_simp
       with_reducible rfl
      rotate_left
      ·simp only [Act.put, List.setIfInBounds_toArray, List.set_cons_zero, List.set_cons_succ, i64_w, i32_w]
       rfl
      refine take_ (i := 4) (N := some 8) (v := ?_) (a' := ?_) #[true, true, true, true, true, false] rfl rfl (by kernel_rfl) (fun _ _ _ h => h) (Or.inl ⟨by rfl, ?_⟩) hHeld ?_ ?_
      rotate_left
      ·rintro w' ⟨s0, s1, s2, s3⟩
       go_simp
       with_reducible rfl
      rotate_left
      ·simp only [Act.put, List.setIfInBounds_toArray, List.set_cons_zero, List.set_cons_succ, i64_w, i32_w]
       rfl
      refine pure_ (i := 5) (N := some 3) (v := ?_) (a' := ?_) #[true, true, true, true, true, true] rfl rfl (by kernel_rfl) (fun _ _ _ h => h) (Or.inl ⟨by rfl, ?_⟩) ?_ ?_
      rotate_left
      ·intro w'
       go_simp
       with_reducible rfl
      rotate_left
      ·simp only [Act.put, List.setIfInBounds_toArray, List.set_cons_zero, List.set_cons_succ, i64_w, i32_w]
       rfl
      refine done_ (by kernel_rfl) ?_
      have hz44 := cf3_ BK163.out
      try go_wp2
      go_ret
      exact ⟨rT_, hB_⟩
  ·rw [if_neg c4] at H
   exact absurd H (by simp)
 ·rw [if_neg c3] at H
  exact absurd H (by simp)

end Go.Proofs.YtcapebhnioblbaaGreatDoor.PFnExactParseHand
