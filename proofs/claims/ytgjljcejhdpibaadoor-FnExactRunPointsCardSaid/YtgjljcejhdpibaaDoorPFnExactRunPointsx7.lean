/- Written by a program of this claim's author, out of the loaded program as Lean prints it: the functions as Lean functions, and that the calls answer so. -/
import Derived.Test.YtgjljcejhdpibaaDoorPFnExactRunPointsx0
import Derived.Test.YtgjljcejhdpibaaDoorPFnExactRunPointsx1
import Derived.Test.YtgjljcejhdpibaaDoorPFnExactRunPointsx5
import Derived.Test.YtgjljcejhdpibaaDoorPFnExactRunPointsx6
import Derived.Test.YtgjljcejhdpibaaDoorPFnExactRunPointsxD0
namespace Go.Proofs.YtgjljcejhdpibaaDoor.PFnExactRunPoints
open Go.RowKit Go.Proofs.YtgjljcejhdpibaaDoorW.PrintWords Go.Proofs.YtgjljcejhdpibaaDoorW.PrintLast Go.Proofs.YtgjljcejhdpibaaDoorW.PrintMore
attribute [local go_sem] max2_int min2_int max_two min_two max_three min_three max_four min_four isSome_setCell   -- for this text's walks alone
set_option linter.unusedVariables false
set_option linter.unusedSimpArgs false

theorem yactRunPointsx7_0_ {p : Prop} (h : p := by first | rfl | (simp; done) | (simp [*]; done)) : p := h
theorem yactRunPointsx7_1_ {p : Prop} (h : p := by first | (with_reducible assumption) | assumption) : p := h
theorem yactRunPointsx7_2_ {p : Prop} (h : p := by (with_reducible repeat (first | apply Kd.R_alloc | apply Kd.R_drewN | apply Kd.R_drew)); exact HO_7.out) : p := h
theorem yactRunPointsx7_3_ {p : Prop} (h : p := by (with_reducible repeat (first | apply kN_ | apply kD_ | apply kA_)); refine blk_put (cs := #[.string ((rd_T40 l0 x13_1).f0), .int .i64 0]) ?_ 1 _ rfl; (with_reducible repeat (first | apply kN_ | apply kD_ | apply kA_)); refine blk_put (cs := #[.string (⟨#[]⟩ : ByteArray), .int .i64 0]) ?_ 0 _ rfl; (with_reducible repeat (first | apply kN_ | apply kD_ | apply kA_)); exact BK214.out) : p := h
theorem yactRunPointsx7_4_ {p : Prop} (h : p := by have := HK1.out; omega) : p := h
theorem yactRunPointsx7_5_ {p : Prop} (h : p := by repeat (first | exact Drawn0.refl _ | apply Drawn0.step)) : p := h
theorem yactRunPointsx7_6_ {p : Prop} (h : p := by rw [List.length_append, List.length_singleton]; omega) : p := h
theorem yactRunPointsx7_7_ {p : Prop} (h : p := by show w.heap.size ≤ w.heap.size + 1; omega) : p := h
theorem yactRunPointsx7_8_ {p : Prop} (h : p := by show w.heap.size ≤ w.heap.size + 1 + 1; omega) : p := h
theorem yactRunPointsx7_9_ {p : Prop} (h : p := by repeat (first | (with_reducible first | exact HK.out | apply Kept.alloc | apply Kept.drewN | apply Kept.drew) | exact HK.out)) : p := h
theorem yactRunPointsx7_10_ {p : Prop} (h : p := by (with_reducible repeat (first | apply Kd.R_alloc | apply Kd.R_drewN | apply Kd.R_drew)); exact HO_0.out) : p := h
/-! ### impl_distance: function 65 -/
set_option maxHeartbeats 8000000 in
set_option maxRecDepth 100000 in
theorem impl_distance.calls (a0 : Int) (a1 : Int) (r : Int) (w : World) (h : impl_distance.f a0 a1 = some r) :
 Calls Tryd.prog 65 #[.int .i64 a0, .int .i64 a1] w fun e w' => e = .returned (.int .i64 r) ∧ Below w.heap.size w w' := by
 have HB := Aside0.mk (Below.refl w.heap.size w)
 have H : (some (mx (wrap64 (a0 - a1)) (wrap64 (a1 - a0)))) = some r := h
 clear h
 obtain ⟨ji3, hji3⟩ : ∃ j_ : Int, (mx (wrap64 (a0 - a1)) (wrap64 (a1 - a0))) = j_ := ⟨_, rfl⟩
 replace H : (some ji3) = some r := by first | (rw [hji3] at H; exact H) | (simp only [hji3] at H ⊢; exact H)
 have hji3_ : (if (wrap64 (a0 - a1)) < (wrap64 (a1 - a0)) then (wrap64 (a1 - a0)) else (wrap64 (a0 - a1))) = ji3 := hji3
 obtain rfl := Option.some.inj H
 go_enter Tryd.func65, Tryd.ntmps65
 go_wp2
 go_ret
 exact ⟨by first | rfl | (simp [errW_none, errW_some] <;> rfl) | (simp only [← hji3]; first | rfl | (simp [errW_none, errW_some] <;> rfl)) | (simp [*, errW_none, errW_some] <;> rfl), hB_⟩

/-! ### impl_nearestLoci: function 51 -/
set_option maxHeartbeats 8000000 in
set_option maxRecDepth 100000 in
theorem impl_nearestLoci.calls (k : Nat) (A0 : Option Addr) (c0 : Nat) (l0 : List (S40)) (a1 : Int) (r1 : Int) (r2 : List ByteArray) (w : World) (hr0 : Kd.C k40 w A0 l0.length l0) (hc0 : l0.length ≤ c0) (h : impl_nearestLoci.f k l0 a1 = some (r1, r2)) :
 Calls Tryd.prog 51 #[.slice A0 l0.length c0, .int .i64 a1] w fun e w' => ∃ v1_ : Value, e = .returned (.tuple #[.int .i64 r1, v1_]) ∧ Kd.R Kd.string 9 w' w.heap.size (fun _ => True) v1_ r2 ∧ Below w.heap.size w w' := by
 have hu40 := Tryd.underlying40
 have HR0 := Aside0.mk hr0
 have HC0 := Aside0.mk hc0
 clear hr0 hc0
 have HB := Aside0.mk (Below.refl w.heap.size w)
 have H : (impl_nearestLoci.l0 k a1 181 ([] : List ByteArray) l0 (l0.length : Int) 0) = some (r1, r2) := h
 clear h
 have H' := Aside0.mk H
 clear H
 go_enter Tryd.func51, Tryd.ntmps51
 go_wp2
 go_loopg [6, 7, 13] k (fun kq v6 v7 v13 w' => ∃ (x6_1 : Int) (x7_1 : List ByteArray) (x13_1 : Int), v6 = .int .i64 x6_1 ∧ v13 = .int .i64 x13_1 ∧ Aside0 (impl_nearestLoci.l0 kq a1 x6_1 x7_1 l0 (l0.length : Int) x13_1 = some (r1, r2)) ∧ Aside0 (kq ≤ k) ∧ Aside0 (Kd.R Kd.string 9 w' w.heap.size (fun _ => True) v7 x7_1) ∧ Aside0 (Below w.heap.size w w'))
 case atStart => exact ⟨(181), (([] : List ByteArray)), (0), yactRunPointsx7_0_, yactRunPointsx7_0_, H', ⟨Nat.le_refl _⟩, ⟨by first | exact Kd.R_nil _ _ _ _ _ | exact Kd.N_nil _ _ _ _ _ | exact Kd.V_nil _ _ _ _ _ | exact Kd.Q_nil _ _ _ _ _ | exact Kd.S_nil _ _ _ _ _⟩, ⟨hB_⟩⟩
 case round =>
  clear H'
  obtain ⟨x6_1, x7_1, x13_1, rfl, rfl, HA, HK1, HO_7, HB⟩ := hrel
  cases gk with
  | zero => exact absurd HA.out (by simp [impl_nearestLoci.l0])
  | succ k1 =>
   have H := HA.out
   clear HA
   simp only [impl_nearestLoci.l0] at H
   by_cases c3 : x13_1 < (l0.length : Int)
   ·rw [if_pos c3] at H
    have c3b0 : decide (x13_1 < (l0.length : Int)) = true := decide_eq_true c3
    clear c3
    by_cases c4 : 0 ≤ x13_1
    ·rw [if_pos c4] at H
     have c4b0 : decide (0 ≤ x13_1) = true := decide_eq_true c4
     clear c4
     by_cases c5 : x13_1 < (l0.length : Int)
     ·rw [if_pos c5] at H
      have c5b0 : decide (x13_1 < (l0.length : Int)) = true := decide_eq_true c5
      clear c5
      replace H := Option.bind_eq_some_iff.mp H
      obtain ⟨t215, A60, H⟩ := H
      replace H : (if t215 < x6_1 then (if t215 = t215 then (if ([] : List ByteArray).length < 8796093022208 then (impl_nearestLoci.l0 k1 a1 t215 (([] : List ByteArray) ++ [(rd_T40 l0 x13_1).f0]) l0 (l0.length : Int) (wrap64 (x13_1 + 1))) else (none)) else (impl_nearestLoci.l0 k1 a1 t215 ([] : List ByteArray) l0 (l0.length : Int) (wrap64 (x13_1 + 1)))) else (if t215 = x6_1 then (if x7_1.length < 8796093022208 then (impl_nearestLoci.l0 k1 a1 x6_1 (x7_1 ++ [(rd_T40 l0 x13_1).f0]) l0 (l0.length : Int) (wrap64 (x13_1 + 1))) else (none)) else (impl_nearestLoci.l0 k1 a1 x6_1 x7_1 l0 (l0.length : Int) (wrap64 (x13_1 + 1))))) = some (r1, r2) := by first | exact H | simpa only [eq_self] using H
      have A6 := Aside0.mk A60
      clear A60
      by_cases c7 : t215 < x6_1
      ·rw [if_pos c7] at H
       have c7b0 : decide (t215 < x6_1) = true := decide_eq_true c7
       clear c7
       by_cases c8 : t215 = t215
       ·rw [if_pos c8] at H
        have c8b0 : (t215 == t215) = true := beq_iff_eq.mpr c8
        have c8b1 : (t215 != t215) = false := bne_eq_false_iff_eq.mpr c8
        clear c8
        by_cases c9 : ([] : List ByteArray).length < 8796093022208
        ·rw [if_pos c9] at H
         have LMc9 := Aside0.mk c9
         clear c9
         obtain ⟨y216, hy216⟩ : ∃ y_ : List ByteArray, y_ = (([] : List ByteArray) ++ [(rd_T40 l0 x13_1).f0]) := ⟨_, rfl⟩
         replace H : (impl_nearestLoci.l0 k1 a1 t215 y216 l0 (l0.length : Int) (wrap64 (x13_1 + 1))) = some (r1, r2) := by first | (rw [hy216]; with_reducible exact H) | (have H2_ := (Option.bind_some _ _).symm.trans H; rw [hy216]; with_reducible exact H2_) | (have H2_ := (Option.bind_some _ _).symm.trans H; with_reducible exact H2_) | with_reducible exact H | (rw [hy216]; exact H) | exact H
         have Ny216 := Aside0.mk hy216
         clear hy216
         have H' := Aside0.mk H
         clear H
         have p213 : 0 ≤ (x13_1 : Int) := of_decide_eq_true yactRunPointsx7_1_
         have q213 : x13_1 < (l0.length : Int) := of_decide_eq_true yactRunPointsx7_1_
         obtain ⟨ad213, e213, hx213_0, hx213_1⟩ := at_T40 HR0.out x13_1 p213 q213
         cases e213
         replace hx213_0 := (HB.out.cell (World.block_lt_of_cell? w _ hx213_0)).trans hx213_0
         replace hx213_1 := (HB.out.cell (World.block_lt_of_cell? w _ hx213_1)).trans hx213_1
         replace p213 := eq_true p213
         replace q213 := eq_true q213
         go_wp2_with (first | ((with_reducible refine gate_dst (N := 9) rfl ?_); refine box_event ?hg (N := 9) ?hd (cs := #[.string (⟨#[]⟩ : ByteArray), .int .i64 0]) (t := 40) ?hr ?_; (case hd => rfl); (case hg => rfl); (case hr => first | (go_simp; done) | (go_simp; rfl)); intro gb214 hg w10 hbox hb; have BK214 := aM_ (hbox); have GW214 := aM_ (gw_ w hg); have GE214 := aM_ (gw_ w hg); replace HO_7 := aM_ (Kd.R_below yactRunPointsx7_2_ hb); replace HB := aM_ (below_step hB_ hb); clear hb hbox hg; have hz11 := cf2_ BK214.out) | ((with_reducible refine gate_callee (f := 65) rfl ?_); refine goesM_ (some 20) Tryd.func65 #[.int .i64 ((rd_T40 l0 x13_1).f1), .int .i64 a1] ?_; (with_reducible refine (impl_distance.calls ((rd_T40 l0 x13_1).f1) a1 t215 _ A6.out).mono ?_); rintro e w12 ⟨rfl, hb⟩; refine ⟨_, rfl, ?_⟩; replace HO_7 := aM_ (Kd.R_below (by (with_reducible repeat (first | apply Kd.R_alloc | apply Kd.R_drewN | apply Kd.R_drew)); exact (Kd.R_mono (Kd.R_far (p := ⟨gb214, 1, none⟩) (Kd.R_far (p := ⟨gb214, 0, none⟩) (Kd.R_types HO_7.out BK214.out (by decide)) (fun _ hk => hk.2) (.string ((rd_T40 l0 x13_1).f0))) (fun _ hk => hk.2) (.int .i64 ((rd_T40 l0 x13_1).f1))) (fun _ h_ => h_.1))) hb); replace BK214 := aM_ (blk_below (g := gb214) (o := .cells #[.string ((rd_T40 l0 x13_1).f0), .int .i64 ((rd_T40 l0 x13_1).f1)] 40 (0, 0)) yactRunPointsx7_3_ hb); replace HB := aM_ (below_step hB_ hb); (try clear hb); (try clear hb2); (try clear hk); (try clear hi); have hz13 := cf2_ BK214.out) | ((with_reducible refine gate_builtin (b := .append) (xs := #[.tmp 28, .tmp 31]) rfl ?_); at_builtin; refine Kd.R_append Kd.string (w0 := w) w.heap.size rfl (.tmp 28) (.tmp 31) 30 9 (.string ⟨#[]⟩) 16 rfl Tryd.underlying30 info9 rfl (by decide) (by omega) (.slice none 0 0) ([] : List ByteArray) ((rd_T40 l0 x13_1).f0) [.string ((rd_T40 l0 x13_1).f0)] (fun k_ => some k_ ≠ (u7 : Value).ownBlock) (fun _ => False) rfl rfl ?aP (fun _ hk => hk.elim) ?aF ?aO ?aB ?aS ?aL ?_; (case aP => exact rfl); (case aB => exact hB_); (case aF => exact (fun k_ hk => Kd.fresh' (Kd.R_lt yactRunPointsx7_2_) k_ hk)); (case aO => exact ((Kd.R_nil _ _ _ _ (fun k_ => some k_ ≠ (u7 : Value).ownBlock)))); (case aS => exact (below_size hB_)); (case aL => have := LMc9.out; omega); intro v217 w14 ho hb hg hat; rw [← Ny216.out] at ho; have HO218 := aM_ (ho); replace HO_7 := aM_ (Kd.R_after (Kd.R_apart_nil yactRunPointsx7_2_) hg hat); replace BK214 := aM_ (blk_grown (g := gb214) (kR_ BK214) hg (by simp [Value.ownBlock])); replace HB := aM_ (hb); clear ho hb hg hat))
         go_roundg k1
         case measure => have := HK1.out; omega
         case rel => exact ⟨(t215), (y216), (wrap64 (x13_1 + 1)), yactRunPointsx7_0_, yactRunPointsx7_0_, H', ⟨yactRunPointsx7_4_⟩, ⟨by (with_reducible repeat (first | apply Kd.R_alloc | apply Kd.R_drewN | apply Kd.R_drew)); exact Kd.R_mono HO218.out (fun _ hk => trivial)⟩, ⟨hB_⟩⟩
        ·rw [if_neg c9] at H
         exact absurd H (by simp)
       ·exact absurd rfl c8
      ·rw [if_neg c7] at H
       have c7b0 : decide (t215 < x6_1) = false := decide_eq_false c7
       clear c7
       by_cases c18 : t215 = x6_1
       ·rw [if_pos c18] at H
        have c18b0 : (t215 == x6_1) = true := beq_iff_eq.mpr c18
        have c18b1 : (t215 != x6_1) = false := bne_eq_false_iff_eq.mpr c18
        clear c18
        by_cases c19 : x7_1.length < 8796093022208
        ·rw [if_pos c19] at H
         have LMc19 := Aside0.mk c19
         clear c19
         obtain ⟨y219, hy219⟩ : ∃ y_ : List ByteArray, y_ = (x7_1 ++ [(rd_T40 l0 x13_1).f0]) := ⟨_, rfl⟩
         replace H : (impl_nearestLoci.l0 k1 a1 x6_1 y219 l0 (l0.length : Int) (wrap64 (x13_1 + 1))) = some (r1, r2) := by first | (rw [hy219]; with_reducible exact H) | (have H2_ := (Option.bind_some _ _).symm.trans H; rw [hy219]; with_reducible exact H2_) | (have H2_ := (Option.bind_some _ _).symm.trans H; with_reducible exact H2_) | with_reducible exact H | (rw [hy219]; exact H) | exact H
         have Ny219 := Aside0.mk hy219
         clear hy219
         have H' := Aside0.mk H
         clear H
         have p213 : 0 ≤ (x13_1 : Int) := of_decide_eq_true yactRunPointsx7_1_
         have q213 : x13_1 < (l0.length : Int) := of_decide_eq_true yactRunPointsx7_1_
         obtain ⟨ad213, e213, hx213_0, hx213_1⟩ := at_T40 HR0.out x13_1 p213 q213
         cases e213
         replace hx213_0 := (HB.out.cell (World.block_lt_of_cell? w _ hx213_0)).trans hx213_0
         replace hx213_1 := (HB.out.cell (World.block_lt_of_cell? w _ hx213_1)).trans hx213_1
         replace p213 := eq_true p213
         replace q213 := eq_true q213
         go_wp2_with (first | ((with_reducible refine gate_dst (N := 9) rfl ?_); refine box_event ?hg (N := 9) ?hd (cs := #[.string (⟨#[]⟩ : ByteArray), .int .i64 0]) (t := 40) ?hr ?_; (case hd => rfl); (case hg => rfl); (case hr => first | (go_simp; done) | (go_simp; rfl)); intro gb214 hg w20 hbox hb; have BK214 := aM_ (hbox); have GW214 := aM_ (gw_ w hg); have GE214 := aM_ (gw_ w hg); replace HO_7 := aM_ (Kd.R_below yactRunPointsx7_2_ hb); replace HB := aM_ (below_step hB_ hb); clear hb hbox hg; have hz21 := cf2_ BK214.out) | ((with_reducible refine gate_callee (f := 65) rfl ?_); refine goesM_ (some 20) Tryd.func65 #[.int .i64 ((rd_T40 l0 x13_1).f1), .int .i64 a1] ?_; (with_reducible refine (impl_distance.calls ((rd_T40 l0 x13_1).f1) a1 t215 _ A6.out).mono ?_); rintro e w22 ⟨rfl, hb⟩; refine ⟨_, rfl, ?_⟩; replace HO_7 := aM_ (Kd.R_below (by (with_reducible repeat (first | apply Kd.R_alloc | apply Kd.R_drewN | apply Kd.R_drew)); exact (Kd.R_mono (Kd.R_far (p := ⟨gb214, 1, none⟩) (Kd.R_far (p := ⟨gb214, 0, none⟩) (Kd.R_types HO_7.out BK214.out (by decide)) (fun _ hk => hk.2) (.string ((rd_T40 l0 x13_1).f0))) (fun _ hk => hk.2) (.int .i64 ((rd_T40 l0 x13_1).f1))) (fun _ h_ => h_.1))) hb); replace BK214 := aM_ (blk_below (g := gb214) (o := .cells #[.string ((rd_T40 l0 x13_1).f0), .int .i64 ((rd_T40 l0 x13_1).f1)] 40 (0, 0)) yactRunPointsx7_3_ hb); replace HB := aM_ (below_step hB_ hb); (try clear hb); (try clear hb2); (try clear hk); (try clear hi); have hz23 := cf2_ BK214.out) | ((with_reducible refine gate_builtin (b := .append) (xs := #[.tmp 28, .tmp 31]) rfl ?_); at_builtin; refine Kd.R_append Kd.string (w0 := w) w.heap.size rfl (.tmp 28) (.tmp 31) 30 9 (.string ⟨#[]⟩) 16 rfl Tryd.underlying30 info9 rfl (by decide) (by omega) u7 x7_1 ((rd_T40 l0 x13_1).f0) [.string ((rd_T40 l0 x13_1).f0)] (fun _ => True) (fun _ => False) rfl rfl ?aP (fun _ hk => hk.elim) ?aF ?aO ?aB ?aS ?aL ?_; (case aP => exact rfl); (case aB => exact hB_); (case aF => exact (fun _ _ => trivial)); (case aO => exact yactRunPointsx7_2_); (case aS => exact (below_size hB_)); (case aL => have := LMc19.out; omega); intro v220 w24 ho hb hg hat; rw [← Ny219.out] at ho; have HO221 := aM_ (ho); replace BK214 := aM_ (blk_grown (g := gb214) (kR_ BK214) hg (Kd.R_ne HO_7.out BK214.out (by decide))); replace HB := aM_ (hb); clear HO_7; clear ho hb hg hat))
         go_roundg k1
         case measure => have := HK1.out; omega
         case rel => exact ⟨(x6_1), (y219), (wrap64 (x13_1 + 1)), yactRunPointsx7_0_, yactRunPointsx7_0_, H', ⟨yactRunPointsx7_4_⟩, ⟨by (with_reducible repeat (first | apply Kd.R_alloc | apply Kd.R_drewN | apply Kd.R_drew)); exact HO221.out⟩, ⟨hB_⟩⟩
        ·rw [if_neg c19] at H
         exact absurd H (by simp)
       ·rw [if_neg c18] at H
        have c18b0 : (t215 == x6_1) = false := beq_eq_false_iff_ne.mpr c18
        have c18b1 : (t215 != x6_1) = true := bne_iff_ne.mpr c18
        have H' := Aside0.mk H
        clear H
        have p213 : 0 ≤ (x13_1 : Int) := of_decide_eq_true yactRunPointsx7_1_
        have q213 : x13_1 < (l0.length : Int) := of_decide_eq_true yactRunPointsx7_1_
        obtain ⟨ad213, e213, hx213_0, hx213_1⟩ := at_T40 HR0.out x13_1 p213 q213
        cases e213
        replace hx213_0 := (HB.out.cell (World.block_lt_of_cell? w _ hx213_0)).trans hx213_0
        replace hx213_1 := (HB.out.cell (World.block_lt_of_cell? w _ hx213_1)).trans hx213_1
        replace p213 := eq_true p213
        replace q213 := eq_true q213
        go_wp2_with (first | ((with_reducible refine gate_dst (N := 9) rfl ?_); refine box_event ?hg (N := 9) ?hd (cs := #[.string (⟨#[]⟩ : ByteArray), .int .i64 0]) (t := 40) ?hr ?_; (case hd => rfl); (case hg => rfl); (case hr => first | (go_simp; done) | (go_simp; rfl)); intro gb214 hg w25 hbox hb; have BK214 := aM_ (hbox); have GW214 := aM_ (gw_ w hg); have GE214 := aM_ (gw_ w hg); replace HO_7 := aM_ (Kd.R_below yactRunPointsx7_2_ hb); replace HB := aM_ (below_step hB_ hb); clear hb hbox hg; have hz26 := cf2_ BK214.out) | ((with_reducible refine gate_callee (f := 65) rfl ?_); refine goesM_ (some 20) Tryd.func65 #[.int .i64 ((rd_T40 l0 x13_1).f1), .int .i64 a1] ?_; (with_reducible refine (impl_distance.calls ((rd_T40 l0 x13_1).f1) a1 t215 _ A6.out).mono ?_); rintro e w27 ⟨rfl, hb⟩; refine ⟨_, rfl, ?_⟩; replace HO_7 := aM_ (Kd.R_below (by (with_reducible repeat (first | apply Kd.R_alloc | apply Kd.R_drewN | apply Kd.R_drew)); exact (Kd.R_mono (Kd.R_far (p := ⟨gb214, 1, none⟩) (Kd.R_far (p := ⟨gb214, 0, none⟩) (Kd.R_types HO_7.out BK214.out (by decide)) (fun _ hk => hk.2) (.string ((rd_T40 l0 x13_1).f0))) (fun _ hk => hk.2) (.int .i64 ((rd_T40 l0 x13_1).f1))) (fun _ h_ => h_.1))) hb); replace BK214 := aM_ (blk_below (g := gb214) (o := .cells #[.string ((rd_T40 l0 x13_1).f0), .int .i64 ((rd_T40 l0 x13_1).f1)] 40 (0, 0)) yactRunPointsx7_3_ hb); replace HB := aM_ (below_step hB_ hb); (try clear hb); (try clear hb2); (try clear hk); (try clear hi)))
        go_roundg k1
        case measure => have := HK1.out; omega
        case rel => exact ⟨(x6_1), (x7_1), (wrap64 (x13_1 + 1)), yactRunPointsx7_0_, yactRunPointsx7_0_, H', ⟨yactRunPointsx7_4_⟩, ⟨yactRunPointsx7_2_⟩, ⟨hB_⟩⟩
     ·rw [if_neg c5] at H
      exact absurd H (by simp)
    ·rw [if_neg c4] at H
     exact absurd H (by simp)
   ·rw [if_neg c3] at H
    have c3b0 : decide (x13_1 < (l0.length : Int)) = false := decide_eq_false c3
    clear c3
    simp only [Option.some.injEq, Prod.mk.injEq] at H
    obtain ⟨rfl, rfl⟩ := H
    go_wp2
    go_ret2
    exact ⟨_, rT_, yactRunPointsx7_2_, hB_⟩

/-! ### impl_pointsAt: function 35 -/
set_option maxHeartbeats 8000000 in
set_option maxRecDepth 100000 in
theorem impl_pointsAt.calls (k : Nat) (A0 : Option Addr) (c0 : Nat) (l0 : List (S40)) (a1 : Int) (r : ByteArray) (w : World) (hr0 : Kd.C k40 w A0 l0.length l0) (hc0 : l0.length ≤ c0) (h : impl_pointsAt.f k l0 a1 = some r) :
 Calls Tryd.prog 35 #[.slice A0 l0.length c0, .int .i64 a1] w fun e w' => e = .returned (.string r) ∧ Below w.heap.size w w' := by
 have HR0 := Aside0.mk hr0
 have HC0 := Aside0.mk hc0
 clear hr0 hc0
 have HB := Aside0.mk (Below.refl w.heap.size w)
 have H : ((impl_nearestLoci.f k l0 a1).bind fun bt222 => (if bt222.1 > 20 then (some (⟨#[]⟩ : ByteArray)) else (if (bt222.2.length : Int) = 1 then (if 0 < (bt222.2.length : Int) then (some (rdOf ByteArray.empty bt222.2 0)) else (none)) else (some (⟨#[]⟩ : ByteArray))))) = some r := h
 clear h
 replace H := Option.bind_eq_some_iff.mp H
 obtain ⟨⟨t222, t223⟩, A30, H⟩ := H
 try dsimp only at H
 have A3 := Aside0.mk A30
 clear A30
 by_cases c4 : t222 > 20
 ·rw [if_pos c4] at H
  have c4b0 : decide (20 < t222) = true := decide_eq_true c4
  clear c4
  obtain rfl := Option.some.inj H
  go_enter Tryd.func35, Tryd.ntmps35
  go_wp2_with (first | ((with_reducible refine gate_callee (f := 51) rfl ?_); refine goesM_ (some 10) Tryd.func51 #[.slice A0 l0.length c0, .int .i64 a1] ?_; (with_reducible refine (impl_nearestLoci.calls k _ _ l0 a1 t222 t223 _ ?side1 ?side2 A3.out).mono ?_); (case side1 => repeat (first | exact HR0.out | (with_reducible refine Kd.C_alloc ?_ _) | (with_reducible refine Kd.C_drewN ?_ _) | (with_reducible refine Kd.C_drew ?_))); (case side2 => exact HC0.out); rintro e w5 ⟨v224, rfl, ho0, hb⟩; refine ⟨_, rfl, ?_⟩; have HO225 := aM_ (Kd.R_lower ho0 (below_size hB_)); replace HB := aM_ (below_step hB_ hb); (try clear hb); (try clear hb2); (try clear hk); (try clear hi); (try clear ho0)))
  go_ret
  exact ⟨rT_, hB_⟩
 ·rw [if_neg c4] at H
  have c4b0 : decide (20 < t222) = false := decide_eq_false c4
  clear c4
  by_cases c6 : (t223.length : Int) = 1
  ·rw [if_pos c6] at H
   have c6b0 : ((t223.length : Int) == 1) = true := beq_iff_eq.mpr c6
   have c6b1 : ((t223.length : Int) != 1) = false := bne_eq_false_iff_eq.mpr c6
   clear c6
   by_cases c7 : 0 < (t223.length : Int)
   ·rw [if_pos c7] at H
    have c7b0 : decide (0 < (t223.length : Int)) = true := decide_eq_true c7
    have c7b1 : decide (0 < t223.length) = true := decide_eq_true (by omega)
    clear c7
    obtain rfl := Option.some.inj H
    go_enter Tryd.func35, Tryd.ntmps35
    go_wp2_with (first | ((with_reducible refine gate_callee (f := 51) rfl ?_); refine goesM_ (some 10) Tryd.func51 #[.slice A0 l0.length c0, .int .i64 a1] ?_; (with_reducible refine (impl_nearestLoci.calls k _ _ l0 a1 t222 t223 _ ?side1 ?side2 A3.out).mono ?_); (case side1 => repeat (first | exact HR0.out | (with_reducible refine Kd.C_alloc ?_ _) | (with_reducible refine Kd.C_drewN ?_ _) | (with_reducible refine Kd.C_drew ?_))); (case side2 => exact HC0.out); rintro e w8 ⟨v224, rfl, ho0, hb⟩; refine ⟨_, rfl, ?_⟩; have HO225 := aM_ (Kd.R_lower ho0 (below_size hB_)); replace HB := aM_ (below_step hB_ hb); (try clear hb); (try clear hb2); (try clear hk); (try clear hi); (try clear ho0); obtain ⟨Ao9, co9, eo9⟩ := Kd.R_slice HO225.out; subst eo9; have p226 : 0 ≤ (0 : Int) := (by omega); have q226 : 0 < (t223.length : Int) := of_decide_eq_true yactRunPointsx7_1_; obtain ⟨ad226, e226, hx226_0⟩ := Kd.at_string (Kd.R_reads' HO225.out).2.2 0 p226 q226; cases e226; have qi226 : (0 < t223.length) = True := eq_true (by omega); (try rw [show ((0 : Int)).toNat = 0 from rfl] at hx226_0); (try rw [Addr.add_zero'] at hx226_0); replace p226 := eq_true p226; replace q226 := eq_true q226))
    go_ret
    exact ⟨rT_, hB_⟩
   ·rw [if_neg c7] at H
    exact absurd H (by simp)
  ·rw [if_neg c6] at H
   have c6b0 : ((t223.length : Int) == 1) = false := beq_eq_false_iff_ne.mpr c6
   have c6b1 : ((t223.length : Int) != 1) = true := bne_iff_ne.mpr c6
   obtain rfl := Option.some.inj H
   go_enter Tryd.func35, Tryd.ntmps35
   go_wp2_with (first | ((with_reducible refine gate_callee (f := 51) rfl ?_); refine goesM_ (some 10) Tryd.func51 #[.slice A0 l0.length c0, .int .i64 a1] ?_; (with_reducible refine (impl_nearestLoci.calls k _ _ l0 a1 t222 t223 _ ?side1 ?side2 A3.out).mono ?_); (case side1 => repeat (first | exact HR0.out | (with_reducible refine Kd.C_alloc ?_ _) | (with_reducible refine Kd.C_drewN ?_ _) | (with_reducible refine Kd.C_drew ?_))); (case side2 => exact HC0.out); rintro e w10 ⟨v224, rfl, ho0, hb⟩; refine ⟨_, rfl, ?_⟩; have HO225 := aM_ (Kd.R_lower ho0 (below_size hB_)); replace HB := aM_ (below_step hB_ hb); (try clear hb); (try clear hb2); (try clear hk); (try clear hi); (try clear ho0); obtain ⟨Ao11, co11, eo11⟩ := Kd.R_slice HO225.out; subst eo11))
   go_ret
   exact ⟨rT_, hB_⟩

/-! ### stringslite_Index: function 56, by hand -/
open Go.Shelf Go.RowKit Go.Sort Go.Lib in
def laid_lays219_ren : Go.Shelf.Ren := ⟨fun | 219 => 56 | 217 => 67 | 225 => 68 | 224 => 69 | 267 => 70 | 266 => 78 | 314 => 79 | n => n, fun | 9 => 9 | 3 => 3 | 4 => 4 | 5 => 5 | 46 => 82 | 146 => 95 | 51 => 94 | n => n, fun | 1 => 0 | n => n⟩
open Go.Shelf Go.RowKit Go.Sort Go.Lib in
theorem laid_lays219 : Go.Proofs.Lays.n219 Tryd.prog laid_lays219_ren := {
 mixed := by kernel_rfl
 f217 := Tryd.func67.trans (congrArg some (by kernel_rfl))
 f219 := Tryd.func56.trans (congrArg some (by kernel_rfl))
 f224 := Tryd.func69.trans (congrArg some (by kernel_rfl))
 f225 := Tryd.func68.trans (congrArg some (by kernel_rfl))
 f266 := Tryd.func78.trans (congrArg some (by kernel_rfl))
 f267 := Tryd.func70.trans (congrArg some (by kernel_rfl))
 f314 := Tryd.func79.trans (congrArg some (by kernel_rfl))
 t3 := Tryd.underlying3
 a3 := Tryd.isAgg3
 z3 := Tryd.sizeOf3
 v3 := Tryd.zeroValue3
 t4 := Tryd.underlying4
 a4 := Tryd.isAgg4
 z4 := Tryd.sizeOf4
 v4 := Tryd.zeroValue4
 t5 := Tryd.underlying5
 a5 := Tryd.isAgg5
 z5 := Tryd.sizeOf5
 v5 := Tryd.zeroValue5
 t9 := Tryd.underlying9
 a9 := Tryd.isAgg9
 z9 := Tryd.sizeOf9
 v9 := Tryd.zeroValue9
 t46 := Tryd.underlying82
 a46 := Tryd.isAgg82
 z46 := Tryd.sizeOf82
 v46 := Tryd.zeroValue82
 t51 := Tryd.underlying94
 a51 := Tryd.isAgg94
 z51 := Tryd.sizeOf94
 v51 := Tryd.zeroValue94
 t146 := Tryd.underlying95
 a146 := Tryd.isAgg95
 z146 := Tryd.sizeOf95
 v146 := Tryd.zeroValue95
 g1 := by kernel_rfl }
theorem stringslite_Index.calls (a0 : ByteArray) (a1 : ByteArray) (r : Int) (w : World) (h : stringslite_Index.f a0 a1 = some r) :
 Calls Tryd.prog 56 #[.string a0, .string a1] w fun e w' => e = .returned (.int .i64 r) ∧ Drawn0 w w' := by
 unfold stringslite_Index.f at h
 split at h
 case isFalse => cases h
 case isTrue hl =>
  obtain rfl := Option.some.inj h
  obtain ⟨⟨l⟩⟩ := a1
  match l, hl with
  | [c], _ => exact (Any.stringslite_Index_one laid_lays219 a0 c w).mono fun _ _ ⟨he, hw⟩ => ⟨he, by subst hw; exact Drawn0.refl _⟩
  | [], hl => cases hl
  | _ :: _ :: _, hl => exact absurd hl (by simp [ByteArray.size])

/-! ### strings_Index: function 55 -/
set_option maxHeartbeats 8000000 in
set_option maxRecDepth 100000 in
theorem strings_Index.calls (a0 : ByteArray) (a1 : ByteArray) (r : Int) (w : World) (h : strings_Index.f a0 a1 = some r) :
 Calls Tryd.prog 55 #[.string a0, .string a1] w fun e w' => e = .returned (.int .i64 r) ∧ Drawn0 w w' := by
 have H : ((stringslite_Index.f a0 a1).bind fun t227 => (some t227)) = some r := h
 clear h
 replace H := Option.bind_eq_some_iff.mp H
 obtain ⟨t227, A30, H⟩ := H
 try dsimp only at H
 have A3 := Aside0.mk A30
 clear A30
 obtain rfl := Option.some.inj H
 go_enter Tryd.func55, Tryd.ntmps55
 go_wp2_with (first | ((with_reducible refine gate_callee (f := 56) rfl ?_); refine goesM_ (some 7) Tryd.func56 #[.string a0, .string a1] ?_; (with_reducible refine (stringslite_Index.calls a0 a1 t227 _ A3.out).mono ?_); rintro e w' ⟨rfl, ⟨nd, rfl⟩⟩; refine ⟨_, rfl, ?_⟩))
 go_ret
 exact ⟨yactRunPointsx7_0_, yactRunPointsx7_5_⟩

/-! ### impl_RunPoints: function 13, by hand -/
section
attribute [local go_sem] Oper.semAt_some
set_option maxRecDepth 100000 in
set_option maxHeartbeats 4000000 in
theorem seq_closure (l bx b1 b2 n : Nat) (c : UInt8) (e : Nat) (he : e = 0 ∨ e = 1) (s : ByteArray) (hs : s.size ≤ 4611686018427387904) (J Jx : List ByteArray → World → Prop)
 (hJb : ∀ s W1 u, J s W1 → J s (W1.setCell ⟨bx, 0, none⟩ u)) (hJd : ∀ s W1 m, J s W1 → J s (W1.drewN m))
 (hIx : ∀ (s : ByteArray) (w : World), Calls Tryd.prog 55 #[.string s, .string ⟨#[c]⟩] w fun e w' => e = .returned (.int .i64 (Lib.indexByte s.data.toList c)) ∧ ∃ nd, w' = w.drewN nd)
 (hY : ∀ pre x W1, J pre W1 → (∃ t, (cutsAt e c s.data.toList).map mk_ = (pre ++ [x]) ++ t) → YieldAt Fence.wide (n - 1) Tryd.prog l #[.string x] W1 fun e W' => (e = .returned (.bool true) ∧ J (pre ++ [x]) W' ∧ KpB b1 bx b2 W1 W') ∨ (e = .returned (.bool false) ∧ Jx (pre ++ [x]) W'))
 (W : World) (hb1 : W.heap[b1]? = some (.cells #[.string ⟨#[c]⟩] 9 (0, 0))) (hbx : W.heap[bx]? = some (.cells #[.string s] 9 (0, 0))) (hb2 : W.heap[b2]? = some (.cells #[.int .i64 (e : Int)] 3 (0, 0))) (n1 : bx ≠ b1) (n2 : bx ≠ b2) (h0 : J [] W) :
 CallsIn Fence.wide n Tryd.prog 53 #[.func (.yield l) #[] #[], .pointer (some ⟨b1, 0, none⟩), .pointer (some ⟨bx, 0, none⟩), .pointer (some ⟨b2, 0, none⟩)] W fun e_ W' => (∃ v, e_ = .returned v) ∧
  ((∃ ys, ys = (cutsAt e c s.data.toList).map mk_ ∧ J ys W') ∨ (∃ pre, (∃ t, (cutsAt e c s.data.toList).map mk_ = pre ++ t) ∧ Jx pre W')) := by
 refine callsIn_of_wp Tryd.func53 rfl trivial ?_ rfl
 simp only [Tryd.ntmps53, List.size_toArray, List.length_cons, List.length_nil, Nat.reduceAdd, Nat.reduceSub, Array.replicate_succ, Array.replicate_zero, List.push_toArray, List.append_toArray, List.nil_append, List.cons_append]
 obtain ⟨c1, f1⟩ := one_cell hb1
 gi_wp2
 gi_loopw [7] (fun p wr => ∃ (pre : List ByteArray) (rest : ByteArray), (cutsAt e c s.data.toList).map mk_ = pre ++ (cutsAt e c rest.data.toList).map mk_ ∧ pre.length + rest.size ≤ s.size ∧ J pre wr ∧ wr.heap[b1]? = some (.cells #[.string ⟨#[c]⟩] 9 (0, 0)) ∧ wr.heap[bx]? = some (.cells #[.string rest] 9 (0, 0)) ∧ wr.heap[b2]? = some (.cells #[.int .i64 (e : Int)] 3 (0, 0)))
  (fun _ wr => match wr.cell? ⟨bx, 0, none⟩ with | some (.string t) => t.size | _ => 0)
 case atStart => exact ⟨[], s, by simp, by simp, h0, hb1, hbx, hb2⟩
 case round =>
  clear c1 f1
  obtain ⟨pre, rest, hcut, hlen, hJ, g1, gx, g2⟩ := hrel
  obtain ⟨c1, f1⟩ := one_cell g1
  obtain ⟨cx, fx⟩ := one_cell gx
  obtain ⟨c2, f2⟩ := one_cell g2
  by_cases hlt : Lib.indexByte rest.data.toList c < 0
  ·have hd := decide_eq_true hlt
   gi_wp2
   refine ⟨trivial, fun h_ => absurd h_ (by simp [Fence.wide]), ?_⟩
   gi_at_call 55
   refine CallsIn.mono (callsIn_wide.2 (hIx rest _)) ?_
   rintro e_ w' ⟨rfl, nd, rfl⟩
   have cx' : (wr.drewN nd).cell? ⟨bx, 0, none⟩ = some (.string rest) := cx
   obtain ⟨fn, tmps, assign, body, hy, hR⟩ := hY pre rest (wr.drewN nd) (hJd _ _ _ hJ) ⟨[], by rw [hcut, cutsAt_none e c _ hlt, List.map_cons, List.map_nil, mk_data, List.append_nil]⟩
   gi_wp2
   refine ⟨fun h_ => absurd h_ (by simp [Fence.wide]), hR.mono ?_⟩
   have hall : (cutsAt e c s.data.toList).map mk_ = pre ++ [rest] := by rw [hcut, cutsAt_none e c _ hlt, List.map_cons, List.map_nil, mk_data]
   rintro e_ W3 (⟨rfl, hJ3, hk3⟩ | ⟨rfl, hJx3⟩)
   ·gi_wp2
    go_end0
    exact ⟨⟨_, rfl⟩, .inl ⟨_, rfl, by rw [hall]; exact hJ3⟩⟩
   ·gi_wp2
    go_end0
    exact ⟨⟨_, rfl⟩, .inr ⟨_, ⟨[], by rw [hall, List.append_nil]⟩, hJx3⟩⟩
  ·have hd := decide_eq_false hlt
   have hge := Lib.indexByte_ge rest.data.toList c
   obtain ⟨k, hk⟩ : ∃ k : Nat, Lib.indexByte rest.data.toList c = k := ⟨(Lib.indexByte rest.data.toList c).toNat, by omega⟩
   obtain ⟨hc1, hc2⟩ := cutsAt_some e c _ k hk
   have hkl : k < rest.size := by
    have := (List.getElem?_eq_some_iff.1 hc2).1
    have e1 : rest.data.toList.length = rest.size := by rw [Array.length_toList]; rfl
    omega
   obtain ⟨frag, hfrag⟩ : ∃ f, f = rest.extract 0 (k + e) := ⟨_, rfl⟩
   obtain ⟨rest2, hrest2⟩ : ∃ f, f = rest.extract (k + 1) rest.size := ⟨_, rfl⟩
   have hcut2 : (cutsAt e c s.data.toList).map mk_ = (pre ++ [frag]) ++ (cutsAt e c rest2.data.toList).map mk_ := by
    rw [hcut, hc1, List.map_cons, List.append_assoc, List.singleton_append, hfrag, hrest2]
    congr 2
    ·exact (frag_of rest c k e hc2 he).symm
    ·rw [rest_of rest k]
   have hsz2 : rest2.size + k + 1 = rest.size := by rw [hrest2, ByteArray.size_extract]; omega
   gi_wp2
   refine ⟨trivial, fun h_ => absurd h_ (by simp [Fence.wide]), ?_⟩
   gi_at_call 55
   refine CallsIn.mono (callsIn_wide.2 (hIx rest _)) ?_
   rintro e_ w' ⟨rfl, nd, rfl⟩
   rw [hk] at hd hlt ⊢
   have cx' : (wr.drewN nd).cell? ⟨bx, 0, none⟩ = some (.string rest) := cx
   have c2' : (wr.drewN nd).cell? ⟨b2, 0, none⟩ = some (.int .i64 (e : Int)) := c2
   have hw1 : wrap64 ((k : Int) + (e : Int)) = ((k + e : Nat) : Int) := by unfold wrap64; omega
   subst hfrag
   obtain ⟨fn, tmps, assign, body, hy, hR⟩ := hY pre (rest.extract 0 (k + e)) (wr.drewN nd) (hJd _ _ _ hJ) ⟨_, hcut2⟩
   gi_wp2
   refine ⟨fun h_ => absurd h_ (by simp [Fence.wide]), hR.mono ?_⟩
   clear hy hR
   rintro e_ W3 (⟨rfl, hJ3, hk3⟩ | ⟨rfl, hJx3⟩)
   ·have g1' := hk3.1.trans g1
    have gx' := hk3.2.1.trans gx
    have g2' := hk3.2.2.trans g2
    have hm0 := Aside0.mk cx
    clear c1 cx c2 f1 fx f2 cx' c2' g1 gx g2
    obtain ⟨c1, f1⟩ := one_cell g1'
    obtain ⟨cx, fx⟩ := one_cell gx'
    have hw2 : wrap64 ((k : Int) + 1) = ((k + 1 : Nat) : Int) := by unfold wrap64; omega
    gi_wp2
    go_roundw
    case rel => exact ⟨_, rest2, hcut2, yactRunPointsx7_6_, hJb _ _ _ hJ3, (Below.heap_setCell W3 ⟨bx, 0, none⟩ _ b1 (fun h => n1 h.symm)).trans g1', by rw [hrest2]; exact blk_set gx' 0 _, (Below.heap_setCell W3 ⟨bx, 0, none⟩ _ b2 (fun h => n2 h.symm)).trans g2'⟩
    case measure =>
     have e2 := (one_cell (blk_set gx' 0 (.string (rest.extract (k + 1) rest.size)))).1
     simp only [e2, hm0.out]
     rw [← hrest2]; omega
   ·gi_wp2
    refine bodyPost_ret (results_none rfl _ _ _) rfl ?_
    exact ⟨⟨_, rfl⟩, .inr ⟨_, ⟨_, hcut2⟩, hJx3⟩⟩
theorem seq_made (s sep : ByteArray) (w : World) : Calls Tryd.prog 33 #[.string s, .string sep] w fun e w' =>
 e = .returned (.func (.func 53) #[] #[.pointer (some ⟨w.heap.size + 1, 0, none⟩), .pointer (some ⟨w.heap.size, 0, none⟩), .pointer (some ⟨w.heap.size + 2, 0, none⟩)]) ∧ w' = ((w.alloc (.cells #[.string s] 9)).alloc (.cells #[.string sep] 9)).alloc (.cells #[.int .i64 0] 3) := by
 have h40 : ∀ w, Calls Tryd.prog 40 #[.string s, .string sep, .int .i64 0] w fun e w' =>
  e = .returned (.func (.func 53) #[] #[.pointer (some ⟨w.heap.size + 1, 0, none⟩), .pointer (some ⟨w.heap.size, 0, none⟩), .pointer (some ⟨w.heap.size + 2, 0, none⟩)]) ∧ w' = ((w.alloc (.cells #[.string s] 9)).alloc (.cells #[.string sep] 9)).alloc (.cells #[.int .i64 0] 3) := by
  intro w
  go_enter Tryd.func40, Tryd.ntmps40
  go_wp2
  go_ret
  exact ⟨rfl, rfl⟩
 go_enter Tryd.func33, Tryd.ntmps33
 go_wp2_with (first | ((with_reducible refine gate_callee (f := 40) rfl ?_); refine goesL_ (some 7) rfl rfl Tryd.func40 (by kernel_rfl) rfl #[.string s, .string sep, .int .i64 0] rfl (by (try simp only [List.map_toArray, List.map_cons, List.map_nil]); first | done | rfl) ?_; (with_reducible refine (h40 _).mono ?_); rintro e w' ⟨rfl, rfl⟩; refine ⟨_, rfl, ?_⟩))
 go_ret
 exact ⟨rfl, rfl⟩
theorem plainS_ (w : World) : (isAgg 30).run Tryd.prog w = .ok false w := by simp [isAgg, run_underlying Tryd.underlying30]
theorem plainB_ (w : World) : (isAgg 4).run Tryd.prog w = .ok false w := by simp [isAgg, run_underlying Tryd.underlying4]
theorem infoS_ : (Tryd.prog.info? 9).map (fun i => (i.zero, i.size, i.bytes)) = some (some (.string ⟨#[]⟩), 1, 16) := by kernel_rfl
theorem idx_one (s : ByteArray) (c : UInt8) : strings_Index.f s ⟨#[c]⟩ = some (Lib.indexByte s.data.toList c) := rfl
set_option maxRecDepth 100000 in
set_option maxHeartbeats 4000000 in
theorem impl_RunPoints.calls (k : Nat) (A0 : Option Addr) (c0 : Nat) (l0 : List S40) (a1 : ByteArray) (r1 : List ByteArray) (r2 : Bool) (w : World) (hT_ : TabW Tryd.prog 1 w) (hr0 : Kd.C k40 w A0 l0.length l0) (hc0 : l0.length ≤ c0) (h : impl_RunPoints.f k l0 a1 = some (r1, r2)) :
 Calls Tryd.prog 13 #[.slice A0 l0.length c0, .string a1] w fun e w' => ∃ v1_ : Value, e = .returned (.tuple #[v1_, .bool r2]) ∧ Kd.R Kd.string 9 w' w.heap.size (fun _ => True) v1_ r1 ∧ Below w.heap.size w w' := by
 unfold impl_RunPoints.f at h
 split at h
 case isFalse => cases h
 rename_i hsz
 obtain ⟨t, hA, h⟩ := Option.bind_eq_some_iff.mp h
 obtain ⟨i0, hi, hz0, hz1, hz2⟩ := info_parts infoS_
 refine (callsIn_wide (n := 9)).1 ?_
 refine callsIn_of_wp_marks Tryd.func13 rfl trivial ?_ rfl
 simp only [Tryd.ntmps13, List.size_toArray, List.length_cons, List.length_nil, Nat.reduceAdd, Nat.reduceSub, Array.replicate_succ, Array.replicate_zero, List.push_toArray, List.append_toArray, List.nil_append, List.cons_append]
 gi_wp2

 refine ⟨trivial, ?_⟩
 gi_at_call 25
 refine CallsIn.mono (callsIn_wide.2 (impl_AreLoci.calls k _ _ l0 t _ (Kd.C_alloc (Kd.C_alloc (Kd.C_alloc hr0 _) _) _) hc0 hA)) ?_
 have b0 := ((Boxed.new w 22 (.slice A0 l0.length c0)).alloc (.cells #[.slice none 0 0] 30)).alloc (.cells #[.bool false] 4)
 have b1 := (Boxed.new (w.alloc (.cells #[.slice A0 l0.length c0] 22)) 30 (.slice none 0 0)).alloc (.cells #[.bool false] 4)
 have b2 := Boxed.new ((w.alloc (.cells #[.slice A0 l0.length c0] 22)).alloc (.cells #[.slice none 0 0] 30)) 4 (.bool false)
 have hB1 : Below w.heap.size w (((w.alloc (.cells #[.slice A0 l0.length c0] 22)).alloc (.cells #[.slice none 0 0] 30)).alloc (.cells #[.bool false] 4)) := below_alloc (below_alloc (below_alloc (Below.refl _ _) _) _) _
 simp only [World.size_alloc] at b1 b2
 rintro e1 w2 ⟨rfl, hb⟩
 have hB2 := below_step hB1 hb
 replace b0 := boxed_below b0 hb
 replace b1 := boxed_below b1 hb
 replace b2 := boxed_below b2 hb
 clear hb hB1
 have c0_ := b0.cell
 have c1_ := b1.cell
 have c2_ := b2.cell
 have f1_ := b1.frozen
 have f2_ := b2.frozen
 have key : ∀ (v1 : Value) (W : World), Boxed W (w.heap.size + 1) 30 v1 → Boxed W (w.heap.size + 1 + 1) 4 (.bool r2) → Kd.R Kd.string 9 W w.heap.size (fun _ => True) v1 r1 → Below w.heap.size w W → True := fun _ _ _ _ _ _ => trivial
 cases t with
 | false =>
  rw [if_neg (by decide)] at h
  simp only [Option.some.injEq, Prod.mk.injEq] at h
  obtain ⟨rfl, rfl⟩ := h
  gi_wp2
  have e1 := boxed_far (b1.set (.slice none 0 0)) (g := w.heap.size + 1 + 1) (by omega) (.bool false)
  have e2 := (boxed_far b2 (g := w.heap.size + 1) (by omega) (.slice none 0 0)).set (.bool false)
  exact ⟨_, results_bb rfl _ _ rfl rfl e1.cell e2.cell (plainS_ _) (plainB_ _), _, rfl, Kd.R_nil _ _ _ _ _, below_set (below_set hB2 yactRunPointsx7_7_) yactRunPointsx7_8_⟩
 | true =>
  rw [if_pos rfl] at h
  by_cases hs : a1.toList = []
  ·rw [if_pos hs] at h
   simp only [Option.some.injEq, Prod.mk.injEq] at h
   obtain ⟨rfl, rfl⟩ := h
   have hsb0 : (a1.toList == ([] : List UInt8)) = true := beq_iff_eq.mpr hs
   gi_wp2
   have e1 := boxed_far (b1.set (.slice none 0 0)) (g := w.heap.size + 1 + 1) (by omega) (.bool true)
   have e2 := (boxed_far b2 (g := w.heap.size + 1) (by omega) (.slice none 0 0)).set (.bool true)
   exact ⟨_, results_bb rfl _ _ rfl rfl e1.cell e2.cell (plainS_ _) (plainB_ _), _, rfl, Kd.R_nil _ _ _ _ _, below_set (below_set hB2 yactRunPointsx7_7_) yactRunPointsx7_8_⟩
  ·rw [if_neg hs] at h
   have hsb0 : (a1.toList == ([] : List UInt8)) = false := beq_eq_false_iff_ne.mpr hs
   gi_wp2
   refine ⟨trivial, ?_⟩
   gi_at_call 33
   have l9 := b2.lt
   have b3 := Boxed.new w2 30 (.slice none 0 0)
   replace b0 := b0.alloc (.cells #[.slice none 0 0] 30)
   replace b1 := b1.alloc (.cells #[.slice none 0 0] 30)
   replace b2 := b2.alloc (.cells #[.slice none 0 0] 30)
   have hB3 := below_alloc hB2 (.cells #[.slice none 0 0] 30)
   have hz3 := World.size_alloc w2 (.cells #[.slice none 0 0] 30)
   have hz9 := hB2.size
   have l2 := b2.lt
   generalize w2.alloc (.cells #[.slice none 0 0] 30) = w3 at b0 b1 b2 b3 hB3 hz3 l2 ⊢
   refine CallsIn.mono (callsIn_wide.2 (seq_made a1 ⟨#[32]⟩ _)) ?_
   rintro e3 w4 ⟨rfl, hw4⟩
   have px := ((Boxed.new w3 9 (.string a1)).alloc (.cells #[.string (⟨#[32]⟩ : ByteArray)] 9)).alloc (.cells #[.int .i64 0] 3)
   have p1 := (Boxed.new (w3.alloc (.cells #[.string a1] 9)) 9 (.string (⟨#[32]⟩ : ByteArray))).alloc (.cells #[.int .i64 0] 3)
   have p2 := Boxed.new ((w3.alloc (.cells #[.string a1] 9)).alloc (.cells #[.string (⟨#[32]⟩ : ByteArray)] 9)) 3 (.int .i64 0)
   replace b0 := ((b0.alloc (.cells #[.string a1] 9)).alloc (.cells #[.string (⟨#[32]⟩ : ByteArray)] 9)).alloc (.cells #[.int .i64 0] 3)
   replace b1 := ((b1.alloc (.cells #[.string a1] 9)).alloc (.cells #[.string (⟨#[32]⟩ : ByteArray)] 9)).alloc (.cells #[.int .i64 0] 3)
   replace b2 := ((b2.alloc (.cells #[.string a1] 9)).alloc (.cells #[.string (⟨#[32]⟩ : ByteArray)] 9)).alloc (.cells #[.int .i64 0] 3)
   replace b3 := ((b3.alloc (.cells #[.string a1] 9)).alloc (.cells #[.string (⟨#[32]⟩ : ByteArray)] 9)).alloc (.cells #[.int .i64 0] 3)
   have hB4 := below_alloc (below_alloc (below_alloc hB3 (.cells #[.string a1] 9)) (.cells #[.string (⟨#[32]⟩ : ByteArray)] 9)) (.cells #[.int .i64 0] 3)
   have hz4 : w4.heap.size = w3.heap.size + 3 := by rw [hw4]; simp only [World.size_alloc]
   simp only [World.size_alloc] at p1 p2
   rw [← hw4] at px p1 p2 b0 b1 b2 b3 hB4
   clear hw4 hB3 hB2 c0_ c1_ c2_ f1_ f2_
   obtain ⟨all, hall⟩ : ∃ A, A = (cutsAt 0 32 a1.data.toList).map mk_ := ⟨_, rfl⟩
   have hrun : impl_RunPoints.run k l0 all [] = some (r1, r2) := by rw [hall]; exact h
   clear h
   have HZ := Aside0.mk (And.intro hz3 hz4)
   clear hz3 hz4
   gi_wp2
   obtain ⟨hz3, hz4⟩ := HZ.out
   clear HZ
   refine wpIn_rangeFunc_box rfl (by omega) (gf := 53) (lb := #[.pointer (some ⟨w3.heap.size + 1, 0, none⟩), .pointer (some ⟨w3.heap.size, 0, none⟩), .pointer (some ⟨w3.heap.size + 2, 0, none⟩)]) rfl trivial (enters_of Tryd.func53 (by kernel_rfl) rfl)
    (encs := fun x : ByteArray => #[.string x]) (Kp := KpB (w3.heap.size + 1) w3.heap.size (w3.heap.size + 2)) (S := fun xs => xs = all) (Sp := fun pre => ∃ t, all = pre ++ t) (all := all) (w0 := w4) (bx := w3.heap.size) (by omega)
    ?seq (fun h k => ⟨k.1.trans h.1, k.2.1.trans h.2.1, k.2.2.trans h.2.2⟩) (fun W l o o' hl _ _ _ => ⟨World.putObj_heap_other (by omega), World.putObj_heap_other (by omega), World.putObj_heap_other (by omega)⟩) (Below.refl _ _) (fun _ => rfl)
    (fun pre W => (∃ (rest out : List ByteArray) (v : Value), w4.heap.size ≤ W.heap.size ∧ all = pre ++ rest ∧ impl_RunPoints.run k l0 rest out = some (r1, r2) ∧ out.length ≤ 10 ∧ Boxed W w.heap.size 22 (.slice A0 l0.length c0) ∧ Boxed W (w.heap.size + 1) 30 (.slice none 0 0) ∧ Boxed W (w.heap.size + 1 + 1) 4 (.bool false) ∧ Boxed W w2.heap.size 30 v ∧ W.ownsRow w4.heap.size 9 1 v out.length (out.map Value.string)) ∧ Below w.heap.size w W)
    (fun c _ W => (c = .ret ∧ r1 = [] ∧ r2 = false ∧ Boxed W (w.heap.size + 1) 30 (.slice none 0 0) ∧ Boxed W (w.heap.size + 1 + 1) 4 (.bool false)) ∧ Below w.heap.size w W)
    ?hI ?hIx ?hIb ?hIxb ?hId ?hIxd ⟨⟨all, [], _, Nat.le_refl _, rfl, hrun, by simp, b0, b1, b2, b3, World.ownsRow_nil _ _ _ _⟩, hB4⟩
    (fun x => { tmps := #[.slice A0 l0.length c0, .string a1, .pointer (some ⟨w.heap.size, 0, none⟩), undef, .pointer (some ⟨w.heap.size + 1, 0, none⟩), .pointer (some ⟨w.heap.size + 1 + 1, 0, none⟩), .pointer (some ⟨w2.heap.size, 0, none⟩), .string x, undef, undef, undef, .slice A0 l0.length c0, .bool true, .bool false, .string a1, .bool false, .string a1, .func (.func 53) #[] #[.pointer (some ⟨w3.heap.size + 1, 0, none⟩), .pointer (some ⟨w3.heap.size, 0, none⟩), .pointer (some ⟨w3.heap.size + 2, 0, none⟩)], .string x, undef, undef, undef, undef, undef, undef, undef, undef, undef, undef, undef, undef, undef, undef, undef, undef, undef, undef, undef, undef, undef, undef, undef, undef, undef, undef, undef], defers := [] }) ?assign ?body ?done ?stop
   case seq =>
    intro l J Jx W hW hJ hJx hJb hJxb hJd hJxd hY h0
    subst hall
    exact seq_closure l w3.heap.size (w3.heap.size + 1) (w3.heap.size + 2) 8 32 0 (.inl rfl) a1 (by omega) J Jx hJb hJd (fun s w => (strings_Index.calls s ⟨#[32]⟩ _ w (idx_one s 32)).mono fun _ _ ⟨h1, h2⟩ => ⟨h1, drawn_ h2⟩) hY W (boxed_below p1 hW) (boxed_below px hW) (boxed_below p2 hW) (by omega) (by omega) h0
   case hI =>
    rintro s W W' row ⟨⟨rest, out, v, hN, h1, h2, h3, q0, q1, q2, q3, q4⟩, hB⟩ hg hr
    have hne : ∀ B, B < w4.heap.size → some B ≠ row := fun B hB e => by have := (hr _ e.symm).1; omega
    exact ⟨⟨rest, out, v, Nat.le_trans hN hg.size, h1, h2, h3, q0.kept hg (hne _ (by omega)), q1.kept hg (hne _ (by omega)), q2.kept hg (hne _ (by omega)), q3.kept hg (hne _ (by omega)), owns_kept q4 hg (fun r e => (hr r e).2)⟩, ownFrom_below (w₀ := w) (Nat.le_refl _) (by omega) s W W' row hB hg hr⟩
   case hIx =>
    rintro c s W W' row ⟨⟨h1, h2, h3, q1, q2⟩, hB⟩ hg hr
    have hne : ∀ B, B < w4.heap.size → some B ≠ row := fun B hB e => by have := (hr _ e.symm).1; omega
    exact ⟨⟨h1, h2, h3, q1.kept hg (hne _ (by omega)), q2.kept hg (hne _ (by omega))⟩, ownFrom_below (w₀ := w) (Nat.le_refl _) (by omega) s W W' row hB hg hr⟩
   case hIb =>
    rintro s W u ⟨⟨rest, out, v, hN, h1, h2, h3, q0, q1, q2, q3, q4⟩, hB⟩
    exact ⟨⟨rest, out, v, by rw [World.size_setCell]; exact hN, h1, h2, h3, boxed_far q0 (by omega) u, boxed_far q1 (by omega) u, boxed_far q2 (by omega) u, boxed_far q3 (by omega) u, owns_far q4 (by omega) u⟩, below_set hB (by show w.heap.size ≤ w3.heap.size; omega)⟩
   case hIxb =>
    rintro c s W u ⟨⟨h1, h2, h3, q1, q2⟩, hB⟩
    exact ⟨⟨h1, h2, h3, boxed_far q1 (by omega) u, boxed_far q2 (by omega) u⟩, below_set hB (by show w.heap.size ≤ w3.heap.size; omega)⟩
   case hId =>
    rintro s W m ⟨⟨rest, out, v, hN, h1, h2, h3, q0, q1, q2, q3, q4⟩, hB⟩
    exact ⟨⟨rest, out, v, hN, h1, h2, h3, q0, q1, q2, q3, q4⟩, pw_below_drewN hB m⟩
   case hIxd =>
    rintro c s W m ⟨⟨h1, h2, h3, q1, q2⟩, hB⟩
    exact ⟨⟨h1, h2, h3, q1, q2⟩, pw_below_drewN hB m⟩
   case assign =>
    intro l x W K hK
    clear hz3 hz4
    gi_wp2
    exact hK
   case body =>
    rintro l pre x W ⟨⟨rest, out, v, hN, h1, h2, h3, q0, q1, q2, q3, q4⟩, hB⟩ ⟨tl, htl⟩
    obtain rfl : rest = x :: tl := by
     rw [h1, List.append_assoc] at htl
     exact List.append_cancel_left htl
    have HZ := Aside0.mk (And.intro hz3 hz4)
    clear hz3 hz4
    simp only [impl_RunPoints.run] at h2
    obtain ⟨⟨ang, ok⟩, hdec, h2⟩ := Option.bind_eq_some_iff.mp h2
    dsimp only at h2
    have d0 := q0.cell
    have d3 := q3.cell
    gi_wp2
    refine ⟨trivial, ?_⟩
    gi_at_call 24
    refine CallsIn.mono (CallsIn.inRound l (callsIn_wide.2 (impl_decimal.calls x ang ok _ (TabW.below hT_ hB) hdec))) ?_
    rintro e5 w5 ⟨rfl, hb⟩
    obtain ⟨hz3, hz4⟩ := HZ.out
    have hB5 := below_step hB hb
    have ko := ko_below hb
    have kp := kp_below (b1 := w3.heap.size + 1) (bx := w3.heap.size) (b2 := w3.heap.size + 2) hb (by omega) (by omega) (by omega)
    have hN5 := Nat.le_trans hN hb.size
    replace q0 := boxed_below q0 hb
    replace q1 := boxed_below q1 hb
    replace q2 := boxed_below q2 hb
    replace q3 := boxed_below q3 hb
    replace q4 := owns_below q4 hb
    clear hb d0 d3
    have g1 := q1.frozen
    have g2 := q2.frozen
    have d1 := q1.cell
    have d2 := q2.cell
    clear HZ
    have HZ := Aside0.mk (And.intro hz3 hz4)
    clear hz3 hz4
    cases ok with
    | false =>
     rw [if_neg (by decide)] at h2
     simp only [Option.some.injEq, Prod.mk.injEq] at h2
     obtain ⟨rfl, rfl⟩ := h2
     gi_wp2
     refine ⟨trivial, ?_⟩
     gi_wp2
     obtain ⟨hz3, hz4⟩ := HZ.out
     have e1 := boxed_far (q1.set (.slice none 0 0)) (g := w.heap.size + 1 + 1) (by omega) (.bool false)
     have e2 := (boxed_far q2 (g := w.heap.size + 1) (by omega) (.slice none 0 0)).set (.bool false)
     exact ⟨ko.trans ((KeepsOthers.setCell _ _ _).trans (KeepsOthers.setCell _ _ _)), ⟨rfl, e1, e2⟩, below_set (below_set hB5 yactRunPointsx7_7_) yactRunPointsx7_8_⟩
    | true =>
     rw [if_pos rfl] at h2
     obtain ⟨b, hang, h2⟩ := Option.bind_eq_some_iff.mp h2
     gi_wp2
     refine ⟨trivial, ?_⟩
     gi_at_call 34
     refine CallsIn.mono (CallsIn.inRound l (callsIn_wide.2 (impl_isAngle.calls ang b _ hang))) ?_
     rintro e6 w6 ⟨rfl, ⟨nd, rfl⟩⟩
     have hB6 := pw_below_drewN hB5 nd
     have ko6 : KeepsOthers W (w5.drewN nd) := ⟨ko.size, ko.same⟩
     have kp6 : KpB (w3.heap.size + 1) w3.heap.size (w3.heap.size + 2) W (w5.drewN nd) := kp
     replace q0 : Boxed (w5.drewN nd) w.heap.size 22 (.slice A0 l0.length c0) := q0
     replace q1 : Boxed (w5.drewN nd) (w.heap.size + 1) 30 (.slice none 0 0) := q1
     replace q2 : Boxed (w5.drewN nd) (w.heap.size + 1 + 1) 4 (.bool false) := q2
     replace q3 : Boxed (w5.drewN nd) w2.heap.size 30 v := q3
     replace q4 : (w5.drewN nd).ownsRow w4.heap.size 9 1 v out.length (out.map Value.string) := q4
     have hN6 : w4.heap.size ≤ (w5.drewN nd).heap.size := hN5
     clear ko kp hB5 hN5 g1 g2 d1 d2
     generalize w5.drewN nd = w6 at q0 q1 q2 q3 q4 hB6 ko6 kp6 hN6 ⊢
     have g1 := q1.frozen
     have g2 := q2.frozen
     have d1 := q1.cell
     have d2 := q2.cell
     have d0 := q0.cell
     obtain ⟨Av, cv, rfl⟩ := owns_slice q4
     have d3 := q3.cell
     cases b with
     | false =>
      rw [if_neg (by decide)] at h2
      simp only [Option.some.injEq, Prod.mk.injEq] at h2
      obtain ⟨rfl, rfl⟩ := h2
      gi_wp2
      obtain ⟨hz3, hz4⟩ := HZ.out
      have e1 := boxed_far (q1.set (.slice none 0 0)) (g := w.heap.size + 1 + 1) (by omega) (.bool false)
      have e2 := (boxed_far q2 (g := w.heap.size + 1) (by omega) (.slice none 0 0)).set (.bool false)
      exact ⟨ko6.trans ((KeepsOthers.setCell _ _ _).trans (KeepsOthers.setCell _ _ _)), ⟨rfl, e1, e2⟩, below_set (below_set hB6 yactRunPointsx7_7_) yactRunPointsx7_8_⟩
     | true =>
      rw [if_pos rfl] at h2
      by_cases c10 : out.length = 10
      ·rw [if_pos c10] at h2
       simp only [Option.some.injEq, Prod.mk.injEq] at h2
       obtain ⟨rfl, rfl⟩ := h2
       have c10b : ((out.length : Int) == 10) = true := by rw [c10]; rfl
       gi_wp2
       obtain ⟨hz3, hz4⟩ := HZ.out
       have e1 := boxed_far (q1.set (.slice none 0 0)) (g := w.heap.size + 1 + 1) (by omega) (.bool false)
       have e2 := (boxed_far q2 (g := w.heap.size + 1) (by omega) (.slice none 0 0)).set (.bool false)
       exact ⟨ko6.trans ((KeepsOthers.setCell _ _ _).trans (KeepsOthers.setCell _ _ _)), ⟨rfl, e1, e2⟩, below_set (below_set hB6 yactRunPointsx7_7_) yactRunPointsx7_8_⟩
      ·rw [if_neg c10] at h2
       have c10b : ((out.length : Int) == 10) = false := by rw [beq_eq_false_iff_ne]; omega
       obtain ⟨who, hwho, h2⟩ := Option.bind_eq_some_iff.mp h2
       gi_wp2
       refine ⟨trivial, ?_⟩
       gi_at_call 35
       refine CallsIn.mono (CallsIn.inRound l (callsIn_wide.2 (impl_pointsAt.calls k _ _ l0 ang who _ (Kd.C_below hr0 hB6) hc0 hwho))) ?_
       rintro e7 w7 ⟨rfl, hb⟩
       obtain ⟨hz3, hz4⟩ := HZ.out
       have hB7 := below_step hB6 hb
       have ko7 := ko6.trans (ko_below hb)
       have kp7 := kp_trans kp6 (kp_below (b1 := w3.heap.size + 1) (bx := w3.heap.size) (b2 := w3.heap.size + 2) hb (by omega) (by omega) (by omega))
       have hN7 := Nat.le_trans hN6 hb.size
       clear g1 g2 d1 d2 d0 d3
       replace q0 := boxed_below q0 hb
       replace q1 := boxed_below q1 hb
       replace q2 := boxed_below q2 hb
       replace q3 := boxed_below q3 hb
       replace q4 := owns_below q4 hb
       clear hb ko6 kp6 hB6 hN6 hz3 hz4
       have d3 := q3.cell
       by_cases cw : who.toList = []
       ·rw [if_pos cw] at h2
        have cwb : (who.toList == ([] : List UInt8)) = true := beq_iff_eq.mpr cw
        gi_wp2_with (gi_at_builtin; refine wpListIn_append_own _ rfl _ _ 30 rfl w4.heap.size 9 i0 (.string ⟨#[]⟩) 1 16 Tryd.underlying30 hi hz0 hz1 hz2 rfl (by decide) _ _ _ rfl (q4.alloc _) ⟨w7.heap.size, 0, none⟩ 1 1 [.string ⟨#[63]⟩] rfl rfl (cell_one_new _ _ _) (by simp [Value.oneCell']) (by simp only [maxLen]; omega) (by omega) (by rw [World.size_alloc]; omega) ?_; intro v' w8 hown' hgrow _; obtain ⟨g', cap', rfl⟩ := ownsRow_succ hown'; have hfar : ∀ b, b < w4.heap.size → some b ≠ (Value.slice Av out.length cv).ownBlock := (fun b hb he => by have := own_base q4 b he.symm; omega); have a1_ := (q3.alloc (.cells #[.string ⟨#[63]⟩] 9)).kept hgrow (hfar _ (by have := HZ.out; omega)); have d4 := a1_.cell; have g4 := a1_.frozen)
        obtain ⟨hz3, hz4⟩ := HZ.out
        obtain ⟨_, a2_, _, a4_, a5_⟩ := q3.appended (by decide) (owns_mono (base' := w.heap.size) q4 (by omega)) (by omega) (by omega) (owns_mono (base' := w.heap.size) hown' (by omega)) hgrow
        refine ⟨ko7.trans a4_, kp_grown kp7 hgrow (by omega) (by omega) (by omega) (hfar _ (by omega)) (hfar _ (by omega)) (hfar _ (by omega)) (by omega) (by omega) (by omega) _, ⟨tl, out ++ [⟨#[63]⟩], .slice (some ⟨g', 0, none⟩) (out.length + 1) cap', ?_, by rw [h1, List.append_assoc, List.singleton_append], h2, yactRunPointsx7_6_, boxed_far ((q0.alloc _).kept hgrow (hfar _ (by omega))) (by omega) _, boxed_far ((q1.alloc _).kept hgrow (hfar _ (by omega))) (by omega) _, boxed_far ((q2.alloc _).kept hgrow (hfar _ (by omega))) (by omega) _, ?_, ?_⟩, hB7.trans a5_⟩
        ·exact Nat.le_trans hN7 a4_.size
        ·exact a2_
        ·rw [List.length_append, List.length_singleton, List.map_append, List.map_cons, List.map_nil]
         exact hown'.kept (grownBy_setCell' w8 w2.heap.size _) (.inr (a1_.not_row (by decide) hown').symm)
       ·rw [if_neg cw] at h2
        have cwb : (who.toList == ([] : List UInt8)) = false := beq_eq_false_iff_ne.mpr cw
        gi_wp2_with (gi_at_builtin; refine wpListIn_append_own _ rfl _ _ 30 rfl w4.heap.size 9 i0 (.string ⟨#[]⟩) 1 16 Tryd.underlying30 hi hz0 hz1 hz2 rfl (by decide) _ _ _ rfl (q4.alloc _) ⟨w7.heap.size, 0, none⟩ 1 1 [.string who] rfl rfl (cell_one_new _ _ _) (by simp [Value.oneCell']) (by simp only [maxLen]; omega) (by omega) (by rw [World.size_alloc]; omega) ?_; intro v' w8 hown' hgrow _; obtain ⟨g', cap', rfl⟩ := ownsRow_succ hown'; have hfar : ∀ b, b < w4.heap.size → some b ≠ (Value.slice Av out.length cv).ownBlock := (fun b hb he => by have := own_base q4 b he.symm; omega); have a1_ := (q3.alloc (.cells #[.string who] 9)).kept hgrow (hfar _ (by have := HZ.out; omega)); have d4 := a1_.cell; have g4 := a1_.frozen)
        obtain ⟨hz3, hz4⟩ := HZ.out
        obtain ⟨_, a2_, _, a4_, a5_⟩ := q3.appended (by decide) (owns_mono (base' := w.heap.size) q4 (by omega)) (by omega) (by omega) (owns_mono (base' := w.heap.size) hown' (by omega)) hgrow
        refine ⟨ko7.trans a4_, kp_grown kp7 hgrow (by omega) (by omega) (by omega) (hfar _ (by omega)) (hfar _ (by omega)) (hfar _ (by omega)) (by omega) (by omega) (by omega) _, ⟨tl, out ++ [who], .slice (some ⟨g', 0, none⟩) (out.length + 1) cap', ?_, by rw [h1, List.append_assoc, List.singleton_append], h2, yactRunPointsx7_6_, boxed_far ((q0.alloc _).kept hgrow (hfar _ (by omega))) (by omega) _, boxed_far ((q1.alloc _).kept hgrow (hfar _ (by omega))) (by omega) _, boxed_far ((q2.alloc _).kept hgrow (hfar _ (by omega))) (by omega) _, ?_, ?_⟩, hB7.trans a5_⟩
        ·exact Nat.le_trans hN7 a4_.size
        ·exact a2_
        ·rw [List.length_append, List.length_singleton, List.map_append, List.map_cons, List.map_nil]
         exact hown'.kept (grownBy_setCell' w8 w2.heap.size _) (.inr (a1_.not_row (by decide) hown').symm)
   case done =>
    rintro D xs W hD rfl ⟨⟨rest, out, v, hN, h1, h2, h3, q0, q1, q2, q3, q4⟩, hB⟩ hK
    obtain rfl : rest = [] := by simpa using h1
    simp only [impl_RunPoints.run, Option.some.injEq, Prod.mk.injEq] at h2
    obtain ⟨rfl, rfl⟩ := h2
    obtain ⟨Av, cv, rfl⟩ := owns_slice q4
    have HZ := Aside0.mk (And.intro hz3 hz4)
    clear hz3 hz4
    have d3 := q3.cell
    have d1 := q1.cell
    have d2 := q2.cell
    have g1 := q1.frozen
    have g2 := q2.frozen
    gi_wp2
    obtain ⟨hz3, hz4⟩ := HZ.out
    have e1 := boxed_far (q1.set (.slice Av out.length cv)) (g := w.heap.size + 1 + 1) (by omega) (.bool true)
    have e2 := (boxed_far q2 (g := w.heap.size + 1) (by omega) (.slice Av out.length cv)).set (.bool true)
    have hK1 := (Below.heap_setCell (W.setCell ⟨w.heap.size + 1, 0, none⟩ (.slice Av out.length cv)) ⟨w.heap.size + 1 + 1, 0, none⟩ (.bool true) D (by show D ≠ w.heap.size + 1 + 1; omega)).trans ((Below.heap_setCell W ⟨w.heap.size + 1, 0, none⟩ (.slice Av out.length cv) D (by show D ≠ w.heap.size + 1; omega)).trans hK)
    have q5 := owns_far (owns_far q4 (g := w.heap.size + 1) (by omega) (.slice Av out.length cv)) (g := w.heap.size + 1 + 1) (by omega) (.bool true)
    have hB5 := below_set (below_set hB (g := w.heap.size + 1) (j := 0) (v := .slice Av out.length cv) yactRunPointsx7_7_) (g := w.heap.size + 1 + 1) (j := 0) (v := .bool true) yactRunPointsx7_8_
    have e3 : ∀ {B t v}, B ≠ D → Boxed ((W.setCell ⟨w.heap.size + 1, 0, none⟩ (.slice Av out.length cv)).setCell ⟨w.heap.size + 1 + 1, 0, none⟩ (.bool true)) B t v → Boxed (World.putObj ((W.setCell ⟨w.heap.size + 1, 0, none⟩ (.slice Av out.length cv)).setCell ⟨w.heap.size + 1 + 1, 0, none⟩ (.bool true)) D (.deferred none)) B t v := fun hne hb => (World.putObj_heap_other hne).trans hb
    refine ⟨by simp, .inl ⟨_, _, rfl, run_takeDeferred hK1, ?_⟩⟩
    exact ⟨_, results_bb rfl _ _ rfl rfl (e3 (by omega) e1).cell (e3 (by omega) e2).cell (plainS_ _) (plainB_ _), _, rfl, Kd.R_of_own (h1 := fun _ => rfl) (ok := fun _ => True) (owns_mono (ownsRow_putObj q5 _ hK1 rfl) (by omega)) (fun _ _ => trivial), hB5.trans (belowK_b (w := w) (Nat.le_refl _) _ D _ _ (by omega) hK1 rfl rfl)⟩
   case stop =>
    rintro D c pre W hD _ ⟨⟨rfl, rfl, rfl, q1, q2⟩, hB⟩ hK
    gi_wp2
    have e3 : ∀ {B t v}, B ≠ D → Boxed W B t v → Boxed (W.putObj D (.deferred none)) B t v := fun hne hb => (World.putObj_heap_other hne).trans hb
    refine ⟨by simp, .inl ⟨_, _, rfl, run_takeDeferred hK, ?_⟩⟩
    exact ⟨_, results_bb rfl _ _ rfl rfl (e3 (by omega) q1).cell (e3 (by omega) q2).cell (plainS_ _) (plainB_ _), _, rfl, Kd.R_nil _ _ _ _ _, hB.trans (belowK_b (w := w) (Nat.le_refl _) _ D _ _ (by omega) hK rfl rfl)⟩
end

/-! ### laws_eqStringS: function 14 -/
set_option maxHeartbeats 8000000 in
set_option maxRecDepth 100000 in
theorem laws_eqStringS.calls (k : Nat) (A0 : Option Addr) (c0 : Nat) (l0 : List ByteArray) (A1 : Option Addr) (c1 : Nat) (l1 : List ByteArray) (r : Bool) (w : World) (hr0 : Kd.C Kd.string w A0 l0.length l0) (hc0 : l0.length ≤ c0) (hr1 : Kd.C Kd.string w A1 l1.length l1) (hc1 : l1.length ≤ c1) (h : laws_eqStringS.f k l0 l1 = some r) :
 Calls Tryd.prog 14 #[.slice A0 l0.length c0, .slice A1 l1.length c1] w fun e w' => e = .returned (.bool r) ∧ Drawn0 w w' := by
 have HR0 := Aside0.mk hr0
 have HC0 := Aside0.mk hc0
 clear hr0 hc0
 have HR1 := Aside0.mk hr1
 have HC1 := Aside0.mk hc1
 clear hr1 hc1
 have H : (if (l0.length : Int) = (l1.length : Int) then (laws_eqStringS.l0 k l0 l1 0) else (some false)) = some r := h
 clear h
 by_cases c3 : (l0.length : Int) = (l1.length : Int)
 ·rw [if_pos c3] at H
  have c3b0 : ((l0.length : Int) == (l1.length : Int)) = true := beq_iff_eq.mpr c3
  have c3b1 : ((l0.length : Int) != (l1.length : Int)) = false := bne_eq_false_iff_eq.mpr c3
  have c3b2 : (l0.length == l1.length) = true := by first | simpa using c3 | (simp at c3 ⊢; omega)
  clear c3
  have H' := Aside0.mk H
  clear H
  go_enter Tryd.func14, Tryd.ntmps14
  go_wp2
  repeat (go_quiet (fail); try go_wp2)
  go_loopg [5] k (fun kq v5 w' => ∃ (x5_1 : Int), v5 = .int .i64 x5_1 ∧ Aside0 (laws_eqStringS.l0 kq l0 l1 x5_1 = some r) ∧ Aside0 (kq ≤ k) ∧ Drawn0 w w')
  case atStart => exact ⟨(0), yactRunPointsx7_0_, H', ⟨Nat.le_refl _⟩, yactRunPointsx7_5_⟩
  case round =>
   clear H'
   (try clear c1);(try clear c3);(try clear c3b0);(try clear c3b1);(try clear c3b2)
   obtain ⟨x5_1, rfl, HA, HK1, ⟨m1, rfl⟩⟩ := hrel
   cases gk with
   | zero => exact absurd HA.out (by simp [laws_eqStringS.l0])
   | succ k1 =>
    have H := HA.out
    clear HA
    simp only [laws_eqStringS.l0] at H
    by_cases c4 : x5_1 < (l0.length : Int)
    ·rw [if_pos c4] at H
     have c4b0 : decide (x5_1 < (l0.length : Int)) = true := decide_eq_true c4
     clear c4
     by_cases c5 : 0 ≤ x5_1
     ·rw [if_pos c5] at H
      have c5b0 : decide (0 ≤ x5_1) = true := decide_eq_true c5
      clear c5
      by_cases c6 : x5_1 < (l1.length : Int)
      ·rw [if_pos c6] at H
       have c6b0 : decide (x5_1 < (l1.length : Int)) = true := decide_eq_true c6
       clear c6
       by_cases c7 : (rdOf ByteArray.empty l0 x5_1).toList = (rdOf ByteArray.empty l1 x5_1).toList
       ·rw [if_pos c7] at H
        have c7b0 : ((rdOf ByteArray.empty l0 x5_1).toList == (rdOf ByteArray.empty l1 x5_1).toList) = true := beq_iff_eq.mpr c7
        have c7b1 : ((rdOf ByteArray.empty l0 x5_1).toList != (rdOf ByteArray.empty l1 x5_1).toList) = false := bne_eq_false_iff_eq.mpr c7
        clear c7
        have H' := Aside0.mk H
        clear H
        have p228 : 0 ≤ (x5_1 : Int) := of_decide_eq_true yactRunPointsx7_1_
        have q228 : x5_1 < (l0.length : Int) := of_decide_eq_true yactRunPointsx7_1_
        obtain ⟨ad228, e228, hx228_0⟩ := Kd.at_string HR0.out x5_1 p228 q228
        cases e228
        replace p228 := eq_true p228
        replace q228 := eq_true q228
        have p229 : 0 ≤ (x5_1 : Int) := of_decide_eq_true yactRunPointsx7_1_
        have q229 : x5_1 < (l1.length : Int) := of_decide_eq_true yactRunPointsx7_1_
        obtain ⟨ad229, e229, hx229_0⟩ := Kd.at_string HR1.out x5_1 p229 q229
        cases e229
        replace p229 := eq_true p229
        replace q229 := eq_true q229
        go_wp2
        repeat (go_quiet (fail); try go_wp2)
        go_roundg k1
        case measure => have := HK1.out; omega
        case rel => exact ⟨(wrap64 (x5_1 + 1)), yactRunPointsx7_0_, H', ⟨yactRunPointsx7_4_⟩, yactRunPointsx7_5_⟩
       ·rw [if_neg c7] at H
        have c7b0 : ((rdOf ByteArray.empty l0 x5_1).toList == (rdOf ByteArray.empty l1 x5_1).toList) = false := beq_eq_false_iff_ne.mpr c7
        have c7b1 : ((rdOf ByteArray.empty l0 x5_1).toList != (rdOf ByteArray.empty l1 x5_1).toList) = true := bne_iff_ne.mpr c7
        obtain rfl := Option.some.inj H
        have p228 : 0 ≤ (x5_1 : Int) := of_decide_eq_true yactRunPointsx7_1_
        have q228 : x5_1 < (l0.length : Int) := of_decide_eq_true yactRunPointsx7_1_
        obtain ⟨ad228, e228, hx228_0⟩ := Kd.at_string HR0.out x5_1 p228 q228
        cases e228
        replace p228 := eq_true p228
        replace q228 := eq_true q228
        have p229 : 0 ≤ (x5_1 : Int) := of_decide_eq_true yactRunPointsx7_1_
        have q229 : x5_1 < (l1.length : Int) := of_decide_eq_true yactRunPointsx7_1_
        obtain ⟨ad229, e229, hx229_0⟩ := Kd.at_string HR1.out x5_1 p229 q229
        cases e229
        replace p229 := eq_true p229
        replace q229 := eq_true q229
        go_wp2
        repeat (go_quiet (fail); try go_wp2)
        go_ret
        exact ⟨yactRunPointsx7_0_, yactRunPointsx7_5_⟩
      ·rw [if_neg c6] at H
       exact absurd H (by simp)
     ·rw [if_neg c5] at H
      exact absurd H (by simp)
    ·rw [if_neg c4] at H
     have c4b0 : decide (x5_1 < (l0.length : Int)) = false := decide_eq_false c4
     clear c4
     obtain rfl := Option.some.inj H
     go_wp2
     repeat (go_quiet (fail); try go_wp2)
     go_ret
     exact ⟨yactRunPointsx7_0_, yactRunPointsx7_5_⟩
 ·rw [if_neg c3] at H
  have c3b0 : ((l0.length : Int) == (l1.length : Int)) = false := beq_eq_false_iff_ne.mpr c3
  have c3b1 : ((l0.length : Int) != (l1.length : Int)) = true := bne_iff_ne.mpr c3
  have c3b2 : (l0.length == l1.length) = false := by first | simpa using c3 | (simp at c3 ⊢; omega)
  obtain rfl := Option.some.inj H
  go_enter Tryd.func14, Tryd.ntmps14
  go_wp2
  repeat (go_quiet (fail); try go_wp2)
  go_ret
  exact ⟨yactRunPointsx7_0_, yactRunPointsx7_5_⟩

/-! ### laws_markStringS: function 15 -/
set_option maxHeartbeats 8000000 in
set_option maxRecDepth 100000 in
theorem laws_markStringS.calls (k : Nat) (P0_ : Nat → Prop) (u9000_ : Value) (l0 : List ByteArray) (a1 : Int) (r1 : Int) (r2 : List ByteArray) (w0 w : World) (hB : Below w0.heap.size w0 w) (ho0 : Kd.R Kd.string 9 w w0.heap.size P0_ u9000_ l0) (h : laws_markStringS.f k l0 a1 = some (r1, r2)) :
 Calls Tryd.prog 15 #[u9000_, .int .i64 a1] w fun e w' => e = .returned (.int .i64 r1) ∧ Kd.R Kd.string 9 w' w0.heap.size (fun k_ => (P0_ k_ ∨ w.heap.size ≤ k_)) u9000_ r2 ∧ Below w0.heap.size w0 w' ∧ Kept w w' (fun k_ => P0_ k_) := by
 have HO0 := Aside0.mk (show Kd.R Kd.string 9 w w0.heap.size (fun k_ => (P0_ k_ ∨ w.heap.size ≤ k_)) u9000_ l0 from Kd.R_mono ho0 (fun k_ hk => (.inl hk)))
 have HK := Aside0.mk (Kept.refl w (fun k_ => P0_ k_))
 have HW0 := Aside0.mk hB.size
 have HB := Aside0.mk hB
 clear hB
 have H : (laws_markStringS.l0 k l0 a1 0) = some (r1, r2) := h
 clear h
 have H' := Aside0.mk H
 clear H
 go_enter Tryd.func15, Tryd.ntmps15
 go_wp2
 go_loopg [1, 5] k (fun kq v1 v5 w' => ∃ (x0_1 : List ByteArray) (x1_1 : Int) (x5_1 : Int), v1 = .int .i64 x1_1 ∧ v5 = .int .i64 x5_1 ∧ Aside0 (laws_markStringS.l0 kq x0_1 x1_1 x5_1 = some (r1, r2)) ∧ Aside0 (kq ≤ k) ∧ Aside0 (Kd.R Kd.string 9 w' w0.heap.size (fun k_ => (P0_ k_ ∨ w.heap.size ≤ k_)) u9000_ x0_1) ∧ Aside0 (Kept w w' (fun k_ => P0_ k_)) ∧ Aside0 (Below w0.heap.size w0 w'))
 case atStart => exact ⟨(l0), (a1), (0), yactRunPointsx7_0_, yactRunPointsx7_0_, H', ⟨Nat.le_refl _⟩, ⟨by (with_reducible repeat (first | apply Kd.R_alloc | apply Kd.R_drewN | apply Kd.R_drew)); exact HO0.out⟩, ⟨yactRunPointsx7_9_⟩, ⟨hB_⟩⟩
 case round =>
  clear H'
  obtain ⟨x0_1, x1_1, x5_1, rfl, rfl, HA, HK1, HO_0, HK, HB⟩ := hrel
  cases gk with
  | zero => exact absurd HA.out (by simp [laws_markStringS.l0])
  | succ k1 =>
   have H := HA.out
   clear HA
   simp only [laws_markStringS.l0] at H
   by_cases c3 : x5_1 < (x0_1.length : Int)
   ·rw [if_pos c3] at H
    have c3b0 : decide (x5_1 < (x0_1.length : Int)) = true := decide_eq_true c3
    clear c3
    replace H := Option.bind_eq_some_iff.mp H
    obtain ⟨t230, A40, H⟩ := H
    try dsimp only at H
    have A4 := Aside0.mk A40
    clear A40
    by_cases c5 : 0 ≤ x5_1
    ·rw [if_pos c5] at H
     have c5b0 : decide (0 ≤ x5_1) = true := decide_eq_true c5
     clear c5
     obtain ⟨y231, hy231⟩ : ∃ y_ : List ByteArray, y_ = (x0_1.set (x5_1 : Int).toNat t230) := ⟨_, rfl⟩
     replace H : (laws_markStringS.l0 k1 y231 (wrap64 (x1_1 + 1)) (wrap64 (x5_1 + 1))) = some (r1, r2) := by first | (rw [hy231]; with_reducible exact H) | (have H2_ := (Option.bind_some _ _).symm.trans H; rw [hy231]; with_reducible exact H2_) | (have H2_ := (Option.bind_some _ _).symm.trans H; with_reducible exact H2_) | with_reducible exact H | (rw [hy231]; exact H) | exact H
     have Ny231 := Aside0.mk hy231
     clear hy231
     have H' := Aside0.mk H
     clear H
     obtain ⟨Ao7, co7, eo7⟩ := Kd.R_slice HO_0.out
     subst eo7
     go_wp2_with (first | ((with_reducible refine gate_callee (f := 28) rfl ?_); refine goesM_ (some 15) Tryd.func28 #[.int .i64 x1_1] ?_; (with_reducible refine (laws_markText.calls k1 x1_1 t230 _ A4.out).mono ?_); rintro e w8 ⟨rfl, hb⟩; refine ⟨_, rfl, ?_⟩; replace HO_0 := aM_ (Kd.R_below yactRunPointsx7_10_ hb); replace HK := aM_ (Kept.below (S := (fun k_ => P0_ k_)) yactRunPointsx7_9_ hb); replace HB := aM_ (below_step hB_ hb); (try clear hb); (try clear hb2); (try clear hk); (try clear hi); have p6 : 0 ≤ (x5_1 : Int) := of_decide_eq_true yactRunPointsx7_1_; have q6 : (x5_1 : Int) < ((x0_1.length : Int) : Int) := of_decide_eq_true yactRunPointsx7_1_; obtain ⟨go6, co6, eo6, gb6, gl6, cl6, HG6⟩ := Kd.R_form HO_0.out (by omega); (first | cases eo6 | (injection eo6 with ea_ en_ ec_; (first | subst ea_ | (injection ea_ with ea_; subst ea_)); subst ec_; clear en_)); have GB6 := Aside0.mk gb6; have GG6 := Aside0.mk HG6; clear gb6 gl6 HG6; have HMgo6 := Aside0.mk (show (P0_ go6 ∨ w.heap.size ≤ go6) from (HO_0.out.1 _ rfl)); obtain ⟨hx6_0, hf6_0⟩ := Kd.R_celln (⟨#[]⟩ : ByteArray) HO_0.out (x5_1 : Int) p6 q6; replace p6 := eq_true p6; replace q6 := eq_true q6; obtain ⟨hy9_, hz9_⟩ := Kd.R_celln (⟨#[]⟩ : ByteArray) HO_0.out (x5_1 : Int) (of_decide_eq_true yactRunPointsx7_1_) (of_decide_eq_true yactRunPointsx7_1_); have HP9 := Kd.R_putg HO_0.out (x5_1 : Int) t230) | ((with_reducible refine gate_store (t := 9) (p := 16) rfl ?_); refine store_event (t := 9) (p := 16) (v := ?vo_w10) (w1 := (w8.setCell ⟨go6, (x5_1 : Int).toNat, none⟩ (.string t230))) ?hg ?ho ?hn ?hr ?_; (case ho => rfl); (case hg => rfl); (case hn => rfl); (case hr => first | (go_simp; done) | (go_simp; rfl)); intro w10 hw; have hg : w8.grownBy w10 (some go6) := (by rw [hw]; exact HP9.2); have hp_ : Kd.R Kd.string 9 w10 w0.heap.size (fun k_ => (P0_ k_ ∨ w.heap.size ≤ k_)) (.slice (some ⟨go6, 0, none⟩) x0_1.length co7) y231 := (by rw [hw, Ny231.out]; exact HP9.1); clear HP9; replace HB := aM_ ((by rw [hw]; exact below_set (HB.out) GB6.out : Below w0.heap.size w0 w10)); replace HK := aM_ (Kept.of_grown (S := (fun k_ => P0_ k_)) hg yactRunPointsx7_9_ (fun k_ e_ => (HO_0.out.1 k_ e_))); replace HO_0 := aM_ (hp_); clear hg hw hp_))
     go_roundg k1
     case measure => have := HK1.out; omega
     case rel => exact ⟨(y231), (wrap64 (x1_1 + 1)), (wrap64 (x5_1 + 1)), yactRunPointsx7_0_, yactRunPointsx7_0_, H', ⟨yactRunPointsx7_4_⟩, ⟨yactRunPointsx7_10_⟩, ⟨yactRunPointsx7_9_⟩, ⟨hB_⟩⟩
    ·rw [if_neg c5] at H
     exact absurd H (by simp)
   ·rw [if_neg c3] at H
    have c3b0 : decide (x5_1 < (x0_1.length : Int)) = false := decide_eq_false c3
    clear c3
    simp only [Option.some.injEq, Prod.mk.injEq] at H
    obtain ⟨rfl, rfl⟩ := H
    obtain ⟨Ao11, co11, eo11⟩ := Kd.R_slice HO_0.out
    subst eo11
    go_wp2
    go_ret
    exact ⟨rT_, yactRunPointsx7_10_, hB_, yactRunPointsx7_9_⟩

end Go.Proofs.YtgjljcejhdpibaaDoor.PFnExactRunPoints
