/- Printed for this claim: functions of the program as Lean functions, and that the calls answer so. -/
import Derived.Test.YtfkdlfbjkdkffaaGreatDoorPFnPointsx0
import Derived.Test.YtfkdlfbjkdkffaaGreatDoorPFnPointsx3
import Derived.Test.YtfkdlfbjkdkffaaGreatDoorPFnPointsx8
import Derived.Test.YtfkdlfbjkdkffaaGreatDoorPFnPointsxD0
namespace Go.Proofs.YtfkdlfbjkdkffaaGreatDoor.PFnPoints
open Go.RowKit Go.Proofs.YtfkdlfbjkdkffaaGreatDoorW.PrintWords Go.Proofs.YtfkdlfbjkdkffaaGreatDoorW.PrintLast Go.Proofs.YtfkdlfbjkdkffaaGreatDoorW.PrintMore
theorem z9_0_ {p : Prop} (h : p := by first | rfl | (simp; done) | (simp [*]; done)) : p := h
theorem z9_1_ {p : Prop} (h : p := by first | exact Kd.R_nil _ _ _ _ _ | exact Kd.N_nil _ _ _ _ _ | exact Kd.V_nil _ _ _ _ _ | exact Kd.Q_nil _ _ _ _ _ | exact Kd.S_nil _ _ _ _ _) : p := h
theorem z9_2_ {p : Prop} (h : p := by have := HK1.out; omega) : p := h
theorem z9_3_ {p : Prop} (h : p := by repeat (first | exact (Kd.C_below HR0.out HB.out) | (with_reducible first | apply cA_ | apply cN_ | apply cD_))) : p := h
theorem z9_4_ {p : Prop} (h : p := by repeat (first | exact Drawn0.refl _ | apply Drawn0.step)) : p := h
set_option maxHeartbeats 8000000
set_option maxRecDepth 100000
attribute [local go_sem] max2_int min2_int max_two min_two max_three min_three max_four min_four isSome_setCell   -- for this text's walks alone
set_option linter.unusedVariables false
set_option linter.unusedSimpArgs false

/-! ### impl_distance: function 101 -/
theorem impl_distance.calls (a0 : Int) (a1 : Int) (r : Int) (w : World) (h : impl_distance.f a0 a1 = some r) :
 Calls Tryz.prog 101 #[.int .i64 a0, .int .i64 a1] w fun e w' => e = .returned (.int .i64 r) ∧ Below w.heap.size w w' := by
 have HB := Aside0.mk (Below.refl w.heap.size w)
 have H : (some (mx (wrap64 (a0 - a1)) (wrap64 (a1 - a0)))) = some r := h
 clear h
 obtain ⟨ji3, hji3⟩ : ∃ j_ : Int, (mx (wrap64 (a0 - a1)) (wrap64 (a1 - a0))) = j_ := ⟨_, rfl⟩
 replace H : (some ji3) = some r := by first | (rw [hji3] at H; exact H) | (simp only [hji3] at H ⊢; exact H)
 have hji3_ : (if (wrap64 (a0 - a1)) < (wrap64 (a1 - a0)) then (wrap64 (a1 - a0)) else (wrap64 (a0 - a1))) = ji3 := hji3
 obtain rfl := Option.some.inj H
 go_enter Tryz.func101, Tryz.ntmps101
 go_wp2
 go_ret
 exact ⟨by first | rfl | (simp [errW_none, errW_some] <;> rfl) | (simp only [← hji3]; first | rfl | (simp [errW_none, errW_some] <;> rfl)) | (simp [*, errW_none, errW_some] <;> rfl), hB_⟩

/-! ### impl_nearestLoci: function 67 -/
theorem impl_nearestLoci.calls (k : Nat) (A0 : Option Addr) (c0 : Nat) (l0 : List (S58)) (a1 : Int) (r1 : Int) (r2 : List ByteArray) (w : World) (hr0 : Kd.C k58 w A0 l0.length l0) (hc0 : l0.length ≤ c0) (h : impl_nearestLoci.f k l0 a1 = some (r1, r2)) :
 Calls Tryz.prog 67 #[.slice A0 l0.length c0, .int .i64 a1] w fun e w' => ∃ v1_ : Value, e = .returned (.tuple #[.int .i64 r1, v1_]) ∧ Kd.R Kd.string 9 w' w.heap.size (fun _ => True) v1_ r2 ∧ Below w.heap.size w w' := by
 have hu58 := Tryz.underlying58
 have HR0 := Aside0.mk hr0
 have HC0 := Aside0.mk hc0
 clear hr0 hc0
 have HB := Aside0.mk (Below.refl w.heap.size w)
 have H : (impl_nearestLoci.l0 k a1 181 ([] : List ByteArray) l0 (l0.length : Int) 0) = some (r1, r2) := h
 clear h
 have H' := Aside0.mk H
 clear H
 go_enter Tryz.func67, Tryz.ntmps67
 go_wp2
 go_loopg [6, 7, 13] k (fun kq v6 v7 v13 w' => ∃ (x6_1 : Int) (x7_1 : List ByteArray) (x13_1 : Int), v6 = .int .i64 x6_1 ∧ v13 = .int .i64 x13_1 ∧ Aside0 (impl_nearestLoci.l0 kq a1 x6_1 x7_1 l0 (l0.length : Int) x13_1 = some (r1, r2)) ∧ Aside0 (kq ≤ k) ∧ Aside0 (Kd.R Kd.string 9 w' w.heap.size (fun _ => True) v7 x7_1) ∧ Aside0 (Below w.heap.size w w'))
 case atStart => exact ⟨(181), (([] : List ByteArray)), (0), z9_0_, z9_0_, H', ⟨Nat.le_refl _⟩, ⟨z9_1_⟩, ⟨hB_⟩⟩
 case round =>
  clear H'
  obtain ⟨x6_1, x7_1, x13_1, rfl, rfl, HA, HK1, HO_7, HB⟩ := hrel
  cases gk with
  | zero => exact absurd HA.out (by simp [impl_nearestLoci.l0])
  | succ k1 =>
   have H := HA.out
   clear HA
   simp only [impl_nearestLoci.l0] at H
   replace H := iF_ H; obtain ⟨c3b0, H⟩ | ⟨c3b0, H⟩ := H
   ·simp only [Option.some.injEq, Prod.mk.injEq] at H
    obtain ⟨rfl, rfl⟩ := H
    go_wp2
    go_ret2
    exact ⟨_, rT_, (rR_ HO_7), hB_⟩
   replace H := ig_ H; obtain ⟨c4b0, H⟩ := H
   replace H := ig_ H; obtain ⟨c5b0, H⟩ := H
   replace H := Option.bind_eq_some_iff.mp H
   obtain ⟨t302, A60, H⟩ := H
   replace H : (if t302 < x6_1 then (if t302 = t302 then (if ([] : List ByteArray).length < 8796093022208 then (impl_nearestLoci.l0 k1 a1 t302 (([] : List ByteArray) ++ [(rd_T58 l0 x13_1).f0]) l0 (l0.length : Int) (wrap64 (x13_1 + 1))) else (none)) else (impl_nearestLoci.l0 k1 a1 t302 ([] : List ByteArray) l0 (l0.length : Int) (wrap64 (x13_1 + 1)))) else (if t302 = x6_1 then (if x7_1.length < 8796093022208 then (impl_nearestLoci.l0 k1 a1 x6_1 (x7_1 ++ [(rd_T58 l0 x13_1).f0]) l0 (l0.length : Int) (wrap64 (x13_1 + 1))) else (none)) else (impl_nearestLoci.l0 k1 a1 x6_1 x7_1 l0 (l0.length : Int) (wrap64 (x13_1 + 1))))) = some (r1, r2) := by first | exact H | simpa only [eq_self] using H
   have A6 := Aside0.mk A60
   clear A60
   have HC7 := Aside0.mk H
   clear H
   have p300 : 0 ≤ (x13_1 : Int) := ode_
   have q300 : x13_1 < (l0.length : Int) := ode_
   obtain ⟨ad300, e300, hx300_0, hx300_1⟩ := at_T58 HR0.out x13_1 p300 q300
   cases e300
   try replace hx300_0 := hc_ HB hx300_0
   try replace hx300_1 := hc_ HB hx300_1
   replace p300 := eq_true p300
   replace q300 := eq_true q300
   go_upto_if 23 with (first | ((with_reducible refine gate_dst (N := 9) rfl ?_); refine bx_ 9 #[.string (⟨#[]⟩ : ByteArray), .int .i64 0] 58 fun gb301 hg w8 hbox hb => ?_; have BK301 := aM_ (hbox); have GW301 := aM_ (gw_ w hg); have GE301 := aM_ (gw_ w hg); replace HO_7 := aM_ (Kd.R_below (rR_ HO_7) hb); replace HB := aM_ (below_step hB_ hb); clear hb hbox hg; have hz9 := cf2_ BK301.out) | ((with_reducible refine gC_ 101 ?_); refine gM_ (some 20) Tryz.func101 #[.int .i64 ((rd_T58 l0 x13_1).f1), .int .i64 a1] ?_; (with_reducible refine (impl_distance.calls ((rd_T58 l0 x13_1).f1) a1 t302 _ A6.out).mono ?_); rintro e w10 ⟨rfl, hb⟩; refine ⟨_, rfl, ?_⟩; replace HO_7 := aM_ (Kd.R_below (by (with_reducible repeat (first | apply rA_ | apply rN_ | apply rD_)); exact (Kd.R_mono (Kd.R_far (p := ⟨gb301, 1, none⟩) (Kd.R_far (p := ⟨gb301, 0, none⟩) (Kd.R_types HO_7.out BK301.out (by decide)) (fun _ hk => hk.2) (.string ((rd_T58 l0 x13_1).f0))) (fun _ hk => hk.2) (.int .i64 ((rd_T58 l0 x13_1).f1))) (fun _ h_ => h_.1))) hb); replace BK301 := aM_ (blk_below (g := gb301) (o := .cells #[.string ((rd_T58 l0 x13_1).f0), .int .i64 ((rd_T58 l0 x13_1).f1)] 58 (0, 0)) (by (with_reducible repeat (first | apply kN_ | apply kD_ | apply kA_)); refine blk_put (cs := #[.string ((rd_T58 l0 x13_1).f0), .int .i64 0]) ?_ 1 _ rfl; (with_reducible repeat (first | apply kN_ | apply kD_ | apply kA_)); refine blk_put (cs := #[.string (⟨#[]⟩ : ByteArray), .int .i64 0]) ?_ 0 _ rfl; (with_reducible repeat (first | apply kN_ | apply kD_ | apply kA_)); exact BK301.out) hb); replace HB := aM_ (below_step hB_ hb); (try clear hb); (try clear hk)))
   (try simp only [Act.put, List.setIfInBounds_toArray, List.set_cons_zero, List.set_cons_succ])
   have H := HC7.out
   clear HC7
   replace H := iT_ H; obtain ⟨c11b0, H⟩ | ⟨c11b0, H⟩ := H
   ·(first | rw [c11b0] | (simp only [i64_w, i32_w]; rw [c11b0]) | skip)
    by_cases c12 : t302 = t302
    rotate_left
    ·exact absurd rfl c12
    rw [if_pos c12] at H
    have c12b0 : (t302 == t302) = true := beq_iff_eq.mpr c12
    have c12b1 : (t302 != t302) = false := bne_eq_false_iff_eq.mpr c12
    clear c12
    replace H := il_ H; obtain ⟨LMc13, H⟩ := H
    obtain ⟨y303, hy303⟩ : ∃ y_ : List ByteArray, y_ = (([] : List ByteArray) ++ [(rd_T58 l0 x13_1).f0]) := ⟨_, rfl⟩
    rw [← hy303] at H
    have Ny303 := Aside0.mk hy303; clear hy303
    have H' := Aside0.mk H
    clear H
    have hz14 := cf2_ BK301.out
    go_wp2_with (first | ((with_reducible refine gate_builtin (b := .append) (xs := #[.tmp 28, .tmp 31]) rfl ?_); at_builtin; refine Kd.R_append Kd.string (w0 := w) w.heap.size rfl (.tmp 28) (.tmp 31) 63 9 (.string ⟨#[]⟩) 16 rfl Tryz.underlying63 info9 rfl (by decide) (by omega) (.slice none 0 0) ([] : List ByteArray) ((rd_T58 l0 x13_1).f0) [.string ((rd_T58 l0 x13_1).f0)] (fun k_ => some k_ ≠ (u7 : Value).ownBlock) (fun _ => False) rfl rfl ?aP (fun _ hk => hk.elim) ?aF ?aO ?aB ?aS ?aL ?_; (case aP => exact rfl); (case aB => exact hB_); (case aF => exact (fun k_ hk => Kd.fresh' (Kd.R_lt (rR_ HO_7)) k_ hk)); (case aO => exact ((Kd.R_nil _ _ _ _ (fun k_ => some k_ ≠ (u7 : Value).ownBlock)))); (case aS => exact (below_size hB_)); (case aL => have := LMc13.out; omega); intro v304 w15 ho hb hg hat; rw [← Ny303.out] at ho; have HO305 := aM_ (ho); replace HO_7 := aM_ (Kd.R_after (Kd.R_apart_nil (rR_ HO_7)) hg hat); replace BK301 := aM_ (blk_grown (g := gb301) (kR_ BK301) hg (by simp [Value.ownBlock])); replace HB := aM_ (hb); clear ho hb hg hat))
    go_roundg k1
    case measure => have := HK1.out; omega
    case rel => exact ⟨(t302), (y303), (wrap64 (x13_1 + 1)), z9_0_, z9_0_, H', ⟨z9_2_⟩, ⟨rT1_ HO305⟩, ⟨hB_⟩⟩
   (first | rw [c11b0] | (simp only [i64_w, i32_w]; rw [c11b0]) | skip)
   by_cases c16 : t302 = x6_1
   rotate_left
   ·rw [if_neg c16] at H
    have c16b0 : (t302 == x6_1) = false := beq_eq_false_iff_ne.mpr c16
    have c16b1 : (t302 != x6_1) = true := bne_iff_ne.mpr c16
    have H' := Aside0.mk H
    clear H
    go_wp2
    go_roundg k1
    case measure => have := HK1.out; omega
    case rel => exact ⟨(x6_1), (x7_1), (wrap64 (x13_1 + 1)), z9_0_, z9_0_, H', ⟨z9_2_⟩, ⟨(rR_ HO_7)⟩, ⟨hB_⟩⟩
   rw [if_pos c16] at H
   have c16b0 : (t302 == x6_1) = true := beq_iff_eq.mpr c16
   have c16b1 : (t302 != x6_1) = false := bne_eq_false_iff_eq.mpr c16
   clear c16
   replace H := il_ H; obtain ⟨LMc17, H⟩ := H
   obtain ⟨y306, hy306⟩ : ∃ y_ : List ByteArray, y_ = (x7_1 ++ [(rd_T58 l0 x13_1).f0]) := ⟨_, rfl⟩
   rw [← hy306] at H
   have Ny306 := Aside0.mk hy306; clear hy306
   have H' := Aside0.mk H
   clear H
   have hz18 := cf2_ BK301.out
   go_wp2_with (first | ((with_reducible refine gate_builtin (b := .append) (xs := #[.tmp 28, .tmp 31]) rfl ?_); at_builtin; refine Kd.R_append Kd.string (w0 := w) w.heap.size rfl (.tmp 28) (.tmp 31) 63 9 (.string ⟨#[]⟩) 16 rfl Tryz.underlying63 info9 rfl (by decide) (by omega) u7 x7_1 ((rd_T58 l0 x13_1).f0) [.string ((rd_T58 l0 x13_1).f0)] (fun _ => True) (fun _ => False) rfl rfl ?aP (fun _ hk => hk.elim) ?aF ?aO ?aB ?aS ?aL ?_; (case aP => exact rfl); (case aB => exact hB_); (case aF => exact (fun _ _ => trivial)); (case aO => exact (rR_ HO_7)); (case aS => exact (below_size hB_)); (case aL => have := LMc17.out; omega); intro v307 w19 ho hb hg hat; rw [← Ny306.out] at ho; have HO308 := aM_ (ho); replace BK301 := aM_ (blk_grown (g := gb301) (kR_ BK301) hg (Kd.R_ne HO_7.out BK301.out (by decide))); replace HB := aM_ (hb); clear HO_7; clear ho hb hg hat))
   go_roundg k1
   case measure => have := HK1.out; omega
   case rel => exact ⟨(x6_1), (y306), (wrap64 (x13_1 + 1)), z9_0_, z9_0_, H', ⟨z9_2_⟩, ⟨rR_ HO308⟩, ⟨hB_⟩⟩

/-! ### impl_AmbiguousAngles: function 23 -/
theorem impl_AmbiguousAngles.calls (k : Nat) (A0 : Option Addr) (c0 : Nat) (l0 : List (S58)) (r1 : List Int) (r2 : Bool) (w : World) (hr0 : Kd.C k58 w A0 l0.length l0) (hc0 : l0.length ≤ c0) (h : impl_AmbiguousAngles.f k l0 = some (r1, r2)) :
 Calls Tryz.prog 23 #[.slice A0 l0.length c0] w fun e w' => ∃ v0_ : Value, e = .returned (.tuple #[v0_, .bool r2]) ∧ Kd.R (Kd.int .i64) 3 w' w.heap.size (fun _ => True) v0_ r1 ∧ Below w.heap.size w w' := by
 have HR0 := Aside0.mk hr0
 have HC0 := Aside0.mk hc0
 clear hr0 hc0
 have HB := Aside0.mk (Below.refl w.heap.size w)
 have H : ((impl_AreLoci.f k l0).bind fun t309 => (if t309 = true then (impl_AmbiguousAngles.l0 k l0 ([] : List Int) (-90)) else (some (([] : List Int), false)))) = some (r1, r2) := h
 clear h
 replace H := ob_ H; obtain ⟨t309, A2, H⟩ := H; try dsimp only at H
 have HC3 := Aside0.mk H
 clear H
 go_enter Tryz.func23, Tryz.ntmps23
 go_upto_if 10 with (first | ((with_reducible refine gC_ 33 ?_); refine gM_ (some 9) Tryz.func33 #[.slice A0 l0.length c0] ?_; (with_reducible refine (impl_AreLoci.calls k _ _ l0 t309 _ ?side1 ?side2 A2.out).mono ?_); (case side1 => exact cC_ HR0); (case side2 => exact HC0.out); rintro e w4 ⟨rfl, hb⟩; refine ⟨_, rfl, ?_⟩; replace HB := aM_ (below_step hB_ hb); (try clear hb)))
 (try simp only [Act.put, List.setIfInBounds_toArray, List.set_cons_zero, List.set_cons_succ])
 have H := HC3.out
 clear HC3
 by_cases c5 : t309 = true
 rotate_left
 ·replace c5 := Bool.eq_false_iff.mpr c5
  subst c5
  replace H := in_ H (show ¬ (false = true) by decide)
  simp only [Option.some.injEq, Prod.mk.injEq] at H
  obtain ⟨rfl, rfl⟩ := H
  go_wp2
  go_ret2
  exact ⟨_, rT_, z9_1_, hB_⟩
 subst c5
 replace H := ip_ H rfl
 have H' := Aside0.mk H
 clear H
 go_wp2
 go_loopg [4, 5] k (fun kq v4 v5 w' => ∃ (x4_1 : List Int) (x5_1 : Int), v5 = .int .i64 x5_1 ∧ Aside0 (impl_AmbiguousAngles.l0 kq l0 x4_1 x5_1 = some (r1, r2)) ∧ Aside0 (kq ≤ k) ∧ Aside0 (Kd.R (Kd.int .i64) 3 w' w.heap.size (fun _ => True) v4 x4_1) ∧ Aside0 (Below w.heap.size w w'))
 case atStart => exact ⟨(([] : List Int)), ((-90)), z9_0_, H', ⟨Nat.le_refl _⟩, ⟨z9_1_⟩, ⟨hB_⟩⟩
 case round =>
  clear H'
  (try clear c5)
  obtain ⟨x4_1, x5_1, rfl, HA, HK1, HO_4, HB⟩ := hrel
  cases gk with
  | zero => exact absurd HA.out (by simp [impl_AmbiguousAngles.l0])
  | succ k1 =>
   have H := HA.out
   clear HA
   simp only [impl_AmbiguousAngles.l0] at H
   replace H := iF_ H; obtain ⟨c6b0, H⟩ | ⟨c6b0, H⟩ := H
   ·(first | rw [c6b0] | (simp only [i64_w, i32_w]; rw [c6b0]) | skip)
    simp only [Option.some.injEq, Prod.mk.injEq] at H
    obtain ⟨rfl, rfl⟩ := H
    go_wp2
    go_ret2
    exact ⟨_, rT_, (rR_ HO_4), hB_⟩
   (first | rw [c6b0] | (simp only [i64_w, i32_w]; rw [c6b0]) | skip)
   replace H := ob_ H; obtain ⟨⟨t310, t311⟩, A7, H⟩ := H; try dsimp only at H
   replace H := iF_ H; obtain ⟨c8b0, H⟩ | ⟨c8b0, H⟩ := H
   ·have H' := Aside0.mk H
    clear H
    go_wp2_with (first | ((with_reducible refine gC_ 67 ?_); refine gM_ (some 18) Tryz.func67 #[.slice A0 l0.length c0, .int .i64 x5_1] ?_; (with_reducible refine (impl_nearestLoci.calls k1 _ _ l0 x5_1 t310 t311 _ ?side1 ?side2 A7.out).mono ?_); (case side1 => exact z9_3_); (case side2 => exact HC0.out); rintro e w15 ⟨v312, rfl, ho0, hb⟩; refine ⟨_, rfl, ?_⟩; have HO313 := aM_ (Kd.R_lower ho0 (below_size hB_)); replace HO_4 := aM_ (Kd.R_below (rR_ HO_4) hb); replace HB := aM_ (below_step hB_ hb); (try clear hb); (try clear ho0)))
    go_roundg k1
    case measure => have := HK1.out; omega
    case rel => exact ⟨(x4_1), (wrap64 (x5_1 + 1)), z9_0_, H', ⟨z9_2_⟩, ⟨(rR_ HO_4)⟩, ⟨hB_⟩⟩
   have HC9 := Aside0.mk H
   clear H
   go_upto_if 27 with (first | ((with_reducible refine gC_ 67 ?_); refine gM_ (some 18) Tryz.func67 #[.slice A0 l0.length c0, .int .i64 x5_1] ?_; (with_reducible refine (impl_nearestLoci.calls k1 _ _ l0 x5_1 t310 t311 _ ?side1 ?side2 A7.out).mono ?_); (case side1 => exact z9_3_); (case side2 => exact HC0.out); rintro e w10 ⟨v312, rfl, ho0, hb⟩; refine ⟨_, rfl, ?_⟩; have HO313 := aM_ (Kd.R_lower ho0 (below_size hB_)); replace HO_4 := aM_ (Kd.R_below (rR_ HO_4) hb); replace HB := aM_ (below_step hB_ hb); (try clear hb); (try clear ho0); obtain ⟨Ao11, co11, eo11⟩ := Kd.R_slice HO313.out; subst eo11))
   (try simp only [Act.put, List.setIfInBounds_toArray, List.set_cons_zero, List.set_cons_succ])
   have H := HC9.out
   clear HC9
   by_cases c12 : (t311.length : Int) = 2
   rotate_left
   ·rw [if_neg c12] at H
    have c12b0 : ((t311.length : Int) == 2) = false := beq_eq_false_iff_ne.mpr c12
    have c12b1 : ((t311.length : Int) != 2) = true := bne_iff_ne.mpr c12
    (first | rw [c12b0] | (simp only [i64_w, i32_w]; rw [c12b0]) | skip)
    have H' := Aside0.mk H
    clear H
    go_wp2
    go_roundg k1
    case measure => have := HK1.out; omega
    case rel => exact ⟨(x4_1), (wrap64 (x5_1 + 1)), z9_0_, H', ⟨z9_2_⟩, ⟨(rR_ HO_4)⟩, ⟨hB_⟩⟩
   rw [if_pos c12] at H
   have c12b0 : ((t311.length : Int) == 2) = true := beq_iff_eq.mpr c12
   have c12b1 : ((t311.length : Int) != 2) = false := bne_eq_false_iff_eq.mpr c12
   clear c12
   (first | rw [c12b0] | (simp only [i64_w, i32_w]; rw [c12b0]) | skip)
   replace H := il_ H; obtain ⟨LMc13, H⟩ := H
   obtain ⟨y314, hy314⟩ : ∃ y_ : List Int, y_ = (x4_1 ++ [x5_1]) := ⟨_, rfl⟩
   rw [← hy314] at H
   have Ny314 := Aside0.mk hy314; clear hy314
   have H' := Aside0.mk H
   clear H
   go_wp2_with (first | ((with_reducible refine gate_builtin (b := .append) (xs := #[.tmp 28, .tmp 30]) rfl ?_); (try (refine gate_guard (by rfl) ?_; dsimp only)); at_builtin; refine Kd.R_append (Kd.int .i64) (w0 := w) w.heap.size rfl (.tmp 28) (.tmp 30) 45 3 (.int .i64 0) 8 rfl Tryz.underlying45 info3 rfl (by decide) (by omega) u4 x4_1 x5_1 [.int .i64 x5_1] (fun _ => True) (fun _ => False) rfl rfl ?aP (fun _ hk => hk.elim) ?aF ?aO ?aB ?aS ?aL ?_; (case aP => exact rfl); (case aB => exact hB_); (case aF => exact (fun _ _ => trivial)); (case aO => exact (rR_ HO_4)); (case aS => exact (below_size hB_)); (case aL => have := LMc13.out; omega); intro v315 w14 ho hb hg hat; rw [← Ny314.out] at ho; have HO316 := aM_ (ho); replace HO313 := aM_ (Kd.R_over' (rR_ HO313) (Kd.R_typed (rR_ HO_4)) (by decide) hg); replace HB := aM_ (hb); clear HO_4; clear ho hb hg hat))
   go_roundg k1
   case measure => have := HK1.out; omega
   case rel => exact ⟨(y314), (wrap64 (x5_1 + 1)), z9_0_, H', ⟨z9_2_⟩, ⟨rR_ HO316⟩, ⟨hB_⟩⟩

/-! ### spec_l1Most: function 93 -/
theorem spec_l1Most.calls (a0 : Int) (a1 : Int) (r : Int) (w : World) (h : spec_l1Most.f a0 a1 = some r) :
 Calls Tryz.prog 93 #[.int .i64 a0, .int .i64 a1] w fun e w' => e = .returned (.int .i64 r) ∧ Drawn0 w w' := by
 have H : (if a0 > a1 then (some a0) else (some a1)) = some r := h
 clear h
 by_cases c3 : a0 > a1
 ·rw [if_pos c3] at H
  have c3b0 : decide (a1 < a0) = true := decide_eq_true c3
  clear c3
  obtain rfl := Option.some.inj H
  go_enter Tryz.func93, Tryz.ntmps93
  go_wp2
  go_ret
  exact ⟨z9_0_, z9_4_⟩
 rw [if_neg c3] at H
 have c3b0 : decide (a1 < a0) = false := decide_eq_false c3
 clear c3
 obtain rfl := Option.some.inj H
 go_enter Tryz.func93, Tryz.ntmps93
 go_wp2
 go_ret
 exact ⟨z9_0_, z9_4_⟩

/-! ### spec_l1Abs: function 102 -/
theorem spec_l1Abs.calls (a0 : Int) (r : Int) (w : World) (h : spec_l1Abs.f a0 = some r) :
 Calls Tryz.prog 102 #[.int .i64 a0] w fun e w' => e = .returned (.int .i64 r) ∧ Drawn0 w w' := by
 have H : ((spec_l1Most.f a0 (wrap64 (-a0))).bind fun t317 => (some t317)) = some r := h
 clear h
 replace H := ob_ H; obtain ⟨t317, A2, H⟩ := H; try dsimp only at H
 obtain rfl := Option.some.inj H
 go_enter Tryz.func102, Tryz.ntmps102
 go_wp2_with (first | ((with_reducible refine gC_ 93 ?_); refine gM_ (some 6) Tryz.func93 #[.int .i64 a0, .int .i64 (wrap64 (-a0))] ?_; (with_reducible refine (spec_l1Most.calls a0 (wrap64 (-a0)) t317 _ A2.out).mono ?_); rintro e w' ⟨rfl, ⟨nd, rfl⟩⟩; refine ⟨_, rfl, ?_⟩))
 go_ret
 exact ⟨z9_0_, z9_4_⟩

/-! ### spec_loLeast: function 68 -/
theorem spec_loLeast.calls (k : Nat) (A0 : Option Addr) (c0 : Nat) (l0 : List (S58)) (a1 : Int) (r1 : Int) (r2 : Int) (w : World) (hr0 : Kd.C k58 w A0 l0.length l0) (hc0 : l0.length ≤ c0) (h : spec_loLeast.f k l0 a1 = some (r1, r2)) :
 Calls Tryz.prog 68 #[.slice A0 l0.length c0, .int .i64 a1] w fun e w' => e = .returned (.tuple #[.int .i64 r1, .int .i64 r2]) ∧ Below w.heap.size w w' := by
 have hu58 := Tryz.underlying58
 have HR0 := Aside0.mk hr0
 have HC0 := Aside0.mk hc0
 clear hr0 hc0
 have HB := Aside0.mk (Below.refl w.heap.size w)
 have H : (spec_loLeast.l0 k a1 181 0 l0 (l0.length : Int) 0) = some (r1, r2) := h
 clear h
 have H' := Aside0.mk H
 clear H
 go_enter Tryz.func68, Tryz.ntmps68
 go_wp2
 go_loopg [6, 7, 13] k (fun kq v6 v7 v13 w' => ∃ (x6_1 : Int) (x7_1 : Int) (x13_1 : Int), v6 = .int .i64 x6_1 ∧ v7 = .int .i64 x7_1 ∧ v13 = .int .i64 x13_1 ∧ Aside0 (spec_loLeast.l0 kq a1 x6_1 x7_1 l0 (l0.length : Int) x13_1 = some (r1, r2)) ∧ Aside0 (kq ≤ k) ∧ Aside0 (Below w.heap.size w w'))
 case atStart => exact ⟨(181), (0), (0), z9_0_, z9_0_, z9_0_, H', ⟨Nat.le_refl _⟩, ⟨hB_⟩⟩
 case round =>
  clear H'
  obtain ⟨x6_1, x7_1, x13_1, rfl, rfl, rfl, HA, HK1, HB⟩ := hrel
  cases gk with
  | zero => exact absurd HA.out (by simp [spec_loLeast.l0])
  | succ k1 =>
   have H := HA.out
   clear HA
   simp only [spec_loLeast.l0] at H
   replace H := iF_ H; obtain ⟨c3b0, H⟩ | ⟨c3b0, H⟩ := H
   ·simp only [Option.some.injEq, Prod.mk.injEq] at H
    obtain ⟨rfl, rfl⟩ := H
    go_wp2
    go_ret2
    exact ⟨rT_, hB_⟩
   replace H := ig_ H; obtain ⟨c4b0, H⟩ := H
   replace H := ig_ H; obtain ⟨c5b0, H⟩ := H
   replace H := ob_ H; obtain ⟨t320, A6, H⟩ := H; try dsimp only at H
   have HC7 := Aside0.mk H
   clear H
   have p318 : 0 ≤ (x13_1 : Int) := ode_
   have q318 : x13_1 < (l0.length : Int) := ode_
   obtain ⟨ad318, e318, hx318_0, hx318_1⟩ := at_T58 HR0.out x13_1 p318 q318
   cases e318
   try replace hx318_0 := hc_ HB hx318_0
   try replace hx318_1 := hc_ HB hx318_1
   replace p318 := eq_true p318
   replace q318 := eq_true q318
   go_upto_if 22 with (first | ((with_reducible refine gate_dst (N := 9) rfl ?_); refine bx_ 9 #[.string (⟨#[]⟩ : ByteArray), .int .i64 0] 58 fun gb319 hg w8 hbox hb => ?_; have BK319 := aM_ (hbox); have GW319 := aM_ (gw_ w hg); have GE319 := aM_ (gw_ w hg); replace HB := aM_ (below_step hB_ hb); clear hb hbox hg; have hz9 := cf2_ BK319.out) | ((with_reducible refine gC_ 102 ?_); refine gM_ (some 21) Tryz.func102 #[.int .i64 (wrap64 (((rd_T58 l0 x13_1).f1) - a1))] ?_; (with_reducible refine (spec_l1Abs.calls (wrap64 (((rd_T58 l0 x13_1).f1) - a1)) t320 _ A6.out).mono ?_); rintro e w' ⟨rfl, ⟨nd, rfl⟩⟩; refine ⟨_, rfl, ?_⟩))
   (try simp only [Act.put, List.setIfInBounds_toArray, List.set_cons_zero, List.set_cons_succ])
   have H := HC7.out
   clear HC7
   replace H := iT_ H; obtain ⟨c10b0, H⟩ | ⟨c10b0, H⟩ := H
   ·(first | rw [c10b0] | (simp only [i64_w, i32_w]; rw [c10b0]) | skip)
    have H' := Aside0.mk H
    clear H
    go_wp2
    go_roundg k1
    case measure => have := HK1.out; omega
    case rel => exact ⟨(t320), (1), (wrap64 (x13_1 + 1)), z9_0_, z9_0_, z9_0_, H', ⟨z9_2_⟩, ⟨hB_⟩⟩
   (first | rw [c10b0] | (simp only [i64_w, i32_w]; rw [c10b0]) | skip)
   by_cases c11 : t320 = x6_1
   rotate_left
   ·rw [if_neg c11] at H
    have c11b0 : (t320 == x6_1) = false := beq_eq_false_iff_ne.mpr c11
    have c11b1 : (t320 != x6_1) = true := bne_iff_ne.mpr c11
    have H' := Aside0.mk H
    clear H
    go_wp2
    go_roundg k1
    case measure => have := HK1.out; omega
    case rel => exact ⟨(x6_1), (x7_1), (wrap64 (x13_1 + 1)), z9_0_, z9_0_, z9_0_, H', ⟨z9_2_⟩, ⟨hB_⟩⟩
   rw [if_pos c11] at H
   have c11b0 : (t320 == x6_1) = true := beq_iff_eq.mpr c11
   have c11b1 : (t320 != x6_1) = false := bne_eq_false_iff_eq.mpr c11
   clear c11
   have H' := Aside0.mk H
   clear H
   go_wp2
   go_roundg k1
   case measure => have := HK1.out; omega
   case rel => exact ⟨(x6_1), (wrap64 (x7_1 + 1)), (wrap64 (x13_1 + 1)), z9_0_, z9_0_, z9_0_, H', ⟨z9_2_⟩, ⟨hB_⟩⟩

/-! ### spec_AmbiguousAngles: function 24 -/
theorem spec_AmbiguousAngles.calls (k : Nat) (A0 : Option Addr) (c0 : Nat) (l0 : List (S58)) (r1 : List Int) (r2 : Bool) (w : World) (hr0 : Kd.C k58 w A0 l0.length l0) (hc0 : l0.length ≤ c0) (h : spec_AmbiguousAngles.f k l0 = some (r1, r2)) :
 Calls Tryz.prog 24 #[.slice A0 l0.length c0] w fun e w' => ∃ v0_ : Value, e = .returned (.tuple #[v0_, .bool r2]) ∧ Kd.R (Kd.int .i64) 3 w' w.heap.size (fun _ => True) v0_ r1 ∧ Below w.heap.size w w' := by
 have HR0 := Aside0.mk hr0
 have HC0 := Aside0.mk hc0
 clear hr0 hc0
 have HB := Aside0.mk (Below.refl w.heap.size w)
 have H : ((spec_loGood.f k l0).bind fun t321 => (if t321 = true then (spec_AmbiguousAngles.l0 k l0 ([] : List Int) (-90)) else (some (([] : List Int), false)))) = some (r1, r2) := h
 clear h
 replace H := ob_ H; obtain ⟨t321, A2, H⟩ := H; try dsimp only at H
 have HC3 := Aside0.mk H
 clear H
 go_enter Tryz.func24, Tryz.ntmps24
 go_upto_if 10 with (first | ((with_reducible refine gC_ 50 ?_); refine gM_ (some 9) Tryz.func50 #[.slice A0 l0.length c0] ?_; (with_reducible refine (spec_loGood.calls k _ _ l0 t321 _ ?side1 ?side2 A2.out).mono ?_); (case side1 => exact cC_ HR0); (case side2 => exact HC0.out); rintro e w4 ⟨rfl, hb⟩; refine ⟨_, rfl, ?_⟩; replace HB := aM_ (below_step hB_ hb); (try clear hb)))
 (try simp only [Act.put, List.setIfInBounds_toArray, List.set_cons_zero, List.set_cons_succ])
 have H := HC3.out
 clear HC3
 by_cases c5 : t321 = true
 rotate_left
 ·replace c5 := Bool.eq_false_iff.mpr c5
  subst c5
  replace H := in_ H (show ¬ (false = true) by decide)
  simp only [Option.some.injEq, Prod.mk.injEq] at H
  obtain ⟨rfl, rfl⟩ := H
  go_wp2
  go_ret2
  exact ⟨_, rT_, z9_1_, hB_⟩
 subst c5
 replace H := ip_ H rfl
 have H' := Aside0.mk H
 clear H
 go_wp2
 go_loopg [4, 5] k (fun kq v4 v5 w' => ∃ (x4_1 : List Int) (x5_1 : Int), v5 = .int .i64 x5_1 ∧ Aside0 (spec_AmbiguousAngles.l0 kq l0 x4_1 x5_1 = some (r1, r2)) ∧ Aside0 (kq ≤ k) ∧ Aside0 (Kd.R (Kd.int .i64) 3 w' w.heap.size (fun _ => True) v4 x4_1) ∧ Aside0 (Below w.heap.size w w'))
 case atStart => exact ⟨(([] : List Int)), ((-90)), z9_0_, H', ⟨Nat.le_refl _⟩, ⟨z9_1_⟩, ⟨hB_⟩⟩
 case round =>
  clear H'
  (try clear c5)
  obtain ⟨x4_1, x5_1, rfl, HA, HK1, HO_4, HB⟩ := hrel
  cases gk with
  | zero => exact absurd HA.out (by simp [spec_AmbiguousAngles.l0])
  | succ k1 =>
   have H := HA.out
   clear HA
   simp only [spec_AmbiguousAngles.l0] at H
   replace H := iF_ H; obtain ⟨c6b0, H⟩ | ⟨c6b0, H⟩ := H
   ·(first | rw [c6b0] | (simp only [i64_w, i32_w]; rw [c6b0]) | skip)
    simp only [Option.some.injEq, Prod.mk.injEq] at H
    obtain ⟨rfl, rfl⟩ := H
    go_wp2
    go_ret2
    exact ⟨_, rT_, (rR_ HO_4), hB_⟩
   (first | rw [c6b0] | (simp only [i64_w, i32_w]; rw [c6b0]) | skip)
   replace H := ob_ H; obtain ⟨⟨t322, t323⟩, A7, H⟩ := H; try dsimp only at H
   replace H := iF_ H; obtain ⟨c8b0, H⟩ | ⟨c8b0, H⟩ := H
   ·have H' := Aside0.mk H
    clear H
    go_wp2_with (first | ((with_reducible refine gC_ 68 ?_); refine gM_ (some 18) Tryz.func68 #[.slice A0 l0.length c0, .int .i64 x5_1] ?_; (with_reducible refine (spec_loLeast.calls k1 _ _ l0 x5_1 t322 t323 _ ?side1 ?side2 A7.out).mono ?_); (case side1 => exact z9_3_); (case side2 => exact HC0.out); rintro e w14 ⟨rfl, hb⟩; refine ⟨_, rfl, ?_⟩; replace HO_4 := aM_ (Kd.R_below (rR_ HO_4) hb); replace HB := aM_ (below_step hB_ hb); (try clear hb)))
    go_roundg k1
    case measure => have := HK1.out; omega
    case rel => exact ⟨(x4_1), (wrap64 (x5_1 + 1)), z9_0_, H', ⟨z9_2_⟩, ⟨(rR_ HO_4)⟩, ⟨hB_⟩⟩
   have HC9 := Aside0.mk H
   clear H
   go_upto_if 26 with (first | ((with_reducible refine gC_ 68 ?_); refine gM_ (some 18) Tryz.func68 #[.slice A0 l0.length c0, .int .i64 x5_1] ?_; (with_reducible refine (spec_loLeast.calls k1 _ _ l0 x5_1 t322 t323 _ ?side1 ?side2 A7.out).mono ?_); (case side1 => exact z9_3_); (case side2 => exact HC0.out); rintro e w10 ⟨rfl, hb⟩; refine ⟨_, rfl, ?_⟩; replace HO_4 := aM_ (Kd.R_below (rR_ HO_4) hb); replace HB := aM_ (below_step hB_ hb); (try clear hb)))
   (try simp only [Act.put, List.setIfInBounds_toArray, List.set_cons_zero, List.set_cons_succ])
   have H := HC9.out
   clear HC9
   by_cases c11 : t323 = 2
   rotate_left
   ·rw [if_neg c11] at H
    have c11b0 : (t323 == 2) = false := beq_eq_false_iff_ne.mpr c11
    have c11b1 : (t323 != 2) = true := bne_iff_ne.mpr c11
    (first | rw [c11b0] | (simp only [i64_w, i32_w]; rw [c11b0]) | skip)
    have H' := Aside0.mk H
    clear H
    go_wp2
    go_roundg k1
    case measure => have := HK1.out; omega
    case rel => exact ⟨(x4_1), (wrap64 (x5_1 + 1)), z9_0_, H', ⟨z9_2_⟩, ⟨(rR_ HO_4)⟩, ⟨hB_⟩⟩
   rw [if_pos c11] at H
   have c11b0 : (t323 == 2) = true := beq_iff_eq.mpr c11
   have c11b1 : (t323 != 2) = false := bne_eq_false_iff_eq.mpr c11
   clear c11
   (first | rw [c11b0] | (simp only [i64_w, i32_w]; rw [c11b0]) | skip)
   replace H := il_ H; obtain ⟨LMc12, H⟩ := H
   obtain ⟨y324, hy324⟩ : ∃ y_ : List Int, y_ = (x4_1 ++ [x5_1]) := ⟨_, rfl⟩
   rw [← hy324] at H
   have Ny324 := Aside0.mk hy324; clear hy324
   have H' := Aside0.mk H
   clear H
   go_wp2_with (first | ((with_reducible refine gate_builtin (b := .append) (xs := #[.tmp 27, .tmp 29]) rfl ?_); at_builtin; refine Kd.R_append (Kd.int .i64) (w0 := w) w.heap.size rfl (.tmp 27) (.tmp 29) 45 3 (.int .i64 0) 8 rfl Tryz.underlying45 info3 rfl (by decide) (by omega) u4 x4_1 x5_1 [.int .i64 x5_1] (fun _ => True) (fun _ => False) rfl rfl ?aP (fun _ hk => hk.elim) ?aF ?aO ?aB ?aS ?aL ?_; (case aP => exact rfl); (case aB => exact hB_); (case aF => exact (fun _ _ => trivial)); (case aO => exact (rR_ HO_4)); (case aS => exact (below_size hB_)); (case aL => have := LMc12.out; omega); intro v325 w13 ho hb hg hat; rw [← Ny324.out] at ho; have HO326 := aM_ (ho); replace HB := aM_ (hb); clear HO_4; clear ho hb hg hat))
   go_roundg k1
   case measure => have := HK1.out; omega
   case rel => exact ⟨(y324), (wrap64 (x5_1 + 1)), z9_0_, H', ⟨z9_2_⟩, ⟨rR_ HO326⟩, ⟨hB_⟩⟩

/-! ### impl_BestAngle: function 25 -/
theorem impl_BestAngle.calls (k : Nat) (A0 : Option Addr) (c0 : Nat) (l0 : List (S58)) (r1 : Int) (r2 : Int) (r3 : Bool) (w : World) (hr0 : Kd.C k58 w A0 l0.length l0) (hc0 : l0.length ≤ c0) (h : impl_BestAngle.f k l0 = some (r1, r2, r3)) :
 Calls Tryz.prog 25 #[.slice A0 l0.length c0] w fun e w' => e = .returned (.tuple #[.int .i64 r1, .int .i64 r2, .bool r3]) ∧ Below w.heap.size w w' := by
 have HR0 := Aside0.mk hr0
 have HC0 := Aside0.mk hc0
 clear hr0 hc0
 have HB := Aside0.mk (Below.refl w.heap.size w)
 have H : ((impl_AreLoci.f k l0).bind fun t327 => (if t327 = true then (impl_BestAngle.l0 k l0 0 (-1) (-90)) else (some (0, 0, false)))) = some (r1, r2, r3) := h
 clear h
 replace H := ob_ H; obtain ⟨t327, A2, H⟩ := H; try dsimp only at H
 have HC3 := Aside0.mk H
 clear H
 go_enter Tryz.func25, Tryz.ntmps25
 go_upto_if 12 with (first | ((with_reducible refine gC_ 33 ?_); refine gM_ (some 11) Tryz.func33 #[.slice A0 l0.length c0] ?_; (with_reducible refine (impl_AreLoci.calls k _ _ l0 t327 _ ?side1 ?side2 A2.out).mono ?_); (case side1 => exact cC_ HR0); (case side2 => exact HC0.out); rintro e w4 ⟨rfl, hb⟩; refine ⟨_, rfl, ?_⟩; replace HB := aM_ (below_step hB_ hb); (try clear hb)))
 (try simp only [Act.put, List.setIfInBounds_toArray, List.set_cons_zero, List.set_cons_succ])
 have H := HC3.out
 clear HC3
 by_cases c5 : t327 = true
 rotate_left
 ·replace c5 := Bool.eq_false_iff.mpr c5
  subst c5
  replace H := in_ H (show ¬ (false = true) by decide)
  simp only [Option.some.injEq, Prod.mk.injEq] at H
  obtain ⟨rfl, rfl, rfl⟩ := H
  go_wp2
  go_ret3
  exact ⟨rT_, hB_⟩
 subst c5
 replace H := ip_ H rfl
 have H' := Aside0.mk H
 clear H
 go_wp2
 go_loopg [5, 6, 7] k (fun kq v5 v6 v7 w' => ∃ (x5_1 : Int) (x6_1 : Int) (x7_1 : Int), v5 = .int .i64 x5_1 ∧ v6 = .int .i64 x6_1 ∧ v7 = .int .i64 x7_1 ∧ Aside0 (impl_BestAngle.l0 kq l0 x5_1 x6_1 x7_1 = some (r1, r2, r3)) ∧ Aside0 (kq ≤ k) ∧ Aside0 (Below w.heap.size w w'))
 case atStart => exact ⟨(0), ((-1)), ((-90)), z9_0_, z9_0_, z9_0_, H', ⟨Nat.le_refl _⟩, ⟨hB_⟩⟩
 case round =>
  clear H'
  (try clear c5)
  obtain ⟨x5_1, x6_1, x7_1, rfl, rfl, rfl, HA, HK1, HB⟩ := hrel
  cases gk with
  | zero => exact absurd HA.out (by simp [impl_BestAngle.l0])
  | succ k1 =>
   have H := HA.out
   clear HA
   simp only [impl_BestAngle.l0] at H
   replace H := iF_ H; obtain ⟨c6b0, H⟩ | ⟨c6b0, H⟩ := H
   ·(first | rw [c6b0] | (simp only [i64_w, i32_w]; rw [c6b0]) | skip)
    simp only [Option.some.injEq, Prod.mk.injEq] at H
    obtain ⟨rfl, rfl, rfl⟩ := H
    go_wp2
    go_ret3
    exact ⟨rT_, hB_⟩
   (first | rw [c6b0] | (simp only [i64_w, i32_w]; rw [c6b0]) | skip)
   replace H := ob_ H; obtain ⟨⟨t328, t329⟩, A7, H⟩ := H; try dsimp only at H
   have HC8 := Aside0.mk H
   clear H
   go_upto_if 25 with (first | ((with_reducible refine gC_ 67 ?_); refine gM_ (some 20) Tryz.func67 #[.slice A0 l0.length c0, .int .i64 x7_1] ?_; (with_reducible refine (impl_nearestLoci.calls k1 _ _ l0 x7_1 t328 t329 _ ?side1 ?side2 A7.out).mono ?_); (case side1 => exact z9_3_); (case side2 => exact HC0.out); rintro e w9 ⟨v330, rfl, ho0, hb⟩; refine ⟨_, rfl, ?_⟩; have HO331 := aM_ (Kd.R_lower ho0 (below_size hB_)); replace HB := aM_ (below_step hB_ hb); (try clear hb); (try clear ho0)))
   (try simp only [Act.put, List.setIfInBounds_toArray, List.set_cons_zero, List.set_cons_succ])
   have H := HC8.out
   clear HC8
   by_cases c10 : t328 > x6_1
   ·rw [if_pos c10] at H
    have c10b0 : decide (x6_1 < t328) = true := decide_eq_true c10
    clear c10
    (first | rw [c10b0] | (simp only [i64_w, i32_w]; rw [c10b0]) | skip)
    have H' := Aside0.mk H
    clear H
    go_wp2
    go_roundg k1
    case measure => have := HK1.out; omega
    case rel => exact ⟨(x7_1), (t328), (wrap64 (x7_1 + 1)), z9_0_, z9_0_, z9_0_, H', ⟨z9_2_⟩, ⟨hB_⟩⟩
   rw [if_neg c10] at H
   have c10b0 : decide (x6_1 < t328) = false := decide_eq_false c10
   clear c10
   (first | rw [c10b0] | (simp only [i64_w, i32_w]; rw [c10b0]) | skip)
   have H' := Aside0.mk H
   clear H
   go_wp2
   go_roundg k1
   case measure => have := HK1.out; omega
   case rel => exact ⟨(x5_1), (x6_1), (wrap64 (x7_1 + 1)), z9_0_, z9_0_, z9_0_, H', ⟨z9_2_⟩, ⟨hB_⟩⟩

/-! ### spec_BestAngle: function 26 -/
theorem spec_BestAngle.calls (k : Nat) (A0 : Option Addr) (c0 : Nat) (l0 : List (S58)) (r1 : Int) (r2 : Int) (r3 : Bool) (w : World) (hr0 : Kd.C k58 w A0 l0.length l0) (hc0 : l0.length ≤ c0) (h : spec_BestAngle.f k l0 = some (r1, r2, r3)) :
 Calls Tryz.prog 26 #[.slice A0 l0.length c0] w fun e w' => e = .returned (.tuple #[.int .i64 r1, .int .i64 r2, .bool r3]) ∧ Below w.heap.size w w' := by
 have HR0 := Aside0.mk hr0
 have HC0 := Aside0.mk hc0
 clear hr0 hc0
 have HB := Aside0.mk (Below.refl w.heap.size w)
 have H : ((spec_loGood.f k l0).bind fun t332 => (if t332 = true then (spec_BestAngle.l0 k l0 0 (-1) (-90)) else (some (0, 0, false)))) = some (r1, r2, r3) := h
 clear h
 replace H := ob_ H; obtain ⟨t332, A2, H⟩ := H; try dsimp only at H
 have HC3 := Aside0.mk H
 clear H
 go_enter Tryz.func26, Tryz.ntmps26
 go_upto_if 12 with (first | ((with_reducible refine gC_ 50 ?_); refine gM_ (some 11) Tryz.func50 #[.slice A0 l0.length c0] ?_; (with_reducible refine (spec_loGood.calls k _ _ l0 t332 _ ?side1 ?side2 A2.out).mono ?_); (case side1 => exact cC_ HR0); (case side2 => exact HC0.out); rintro e w4 ⟨rfl, hb⟩; refine ⟨_, rfl, ?_⟩; replace HB := aM_ (below_step hB_ hb); (try clear hb)))
 (try simp only [Act.put, List.setIfInBounds_toArray, List.set_cons_zero, List.set_cons_succ])
 have H := HC3.out
 clear HC3
 by_cases c5 : t332 = true
 rotate_left
 ·replace c5 := Bool.eq_false_iff.mpr c5
  subst c5
  replace H := in_ H (show ¬ (false = true) by decide)
  simp only [Option.some.injEq, Prod.mk.injEq] at H
  obtain ⟨rfl, rfl, rfl⟩ := H
  go_wp2
  go_ret3
  exact ⟨rT_, hB_⟩
 subst c5
 replace H := ip_ H rfl
 have H' := Aside0.mk H
 clear H
 go_wp2
 go_loopg [5, 6, 7] k (fun kq v5 v6 v7 w' => ∃ (x5_1 : Int) (x6_1 : Int) (x7_1 : Int), v5 = .int .i64 x5_1 ∧ v6 = .int .i64 x6_1 ∧ v7 = .int .i64 x7_1 ∧ Aside0 (spec_BestAngle.l0 kq l0 x5_1 x6_1 x7_1 = some (r1, r2, r3)) ∧ Aside0 (kq ≤ k) ∧ Aside0 (Below w.heap.size w w'))
 case atStart => exact ⟨(0), ((-1)), ((-90)), z9_0_, z9_0_, z9_0_, H', ⟨Nat.le_refl _⟩, ⟨hB_⟩⟩
 case round =>
  clear H'
  (try clear c5)
  obtain ⟨x5_1, x6_1, x7_1, rfl, rfl, rfl, HA, HK1, HB⟩ := hrel
  cases gk with
  | zero => exact absurd HA.out (by simp [spec_BestAngle.l0])
  | succ k1 =>
   have H := HA.out
   clear HA
   simp only [spec_BestAngle.l0] at H
   replace H := iF_ H; obtain ⟨c6b0, H⟩ | ⟨c6b0, H⟩ := H
   ·(first | rw [c6b0] | (simp only [i64_w, i32_w]; rw [c6b0]) | skip)
    simp only [Option.some.injEq, Prod.mk.injEq] at H
    obtain ⟨rfl, rfl, rfl⟩ := H
    go_wp2
    go_ret3
    exact ⟨rT_, hB_⟩
   (first | rw [c6b0] | (simp only [i64_w, i32_w]; rw [c6b0]) | skip)
   replace H := ob_ H; obtain ⟨⟨t333, t334⟩, A7, H⟩ := H; try dsimp only at H
   have HC8 := Aside0.mk H
   clear H
   go_upto_if 25 with (first | ((with_reducible refine gC_ 68 ?_); refine gM_ (some 20) Tryz.func68 #[.slice A0 l0.length c0, .int .i64 x7_1] ?_; (with_reducible refine (spec_loLeast.calls k1 _ _ l0 x7_1 t333 t334 _ ?side1 ?side2 A7.out).mono ?_); (case side1 => exact z9_3_); (case side2 => exact HC0.out); rintro e w9 ⟨rfl, hb⟩; refine ⟨_, rfl, ?_⟩; replace HB := aM_ (below_step hB_ hb); (try clear hb)))
   (try simp only [Act.put, List.setIfInBounds_toArray, List.set_cons_zero, List.set_cons_succ])
   have H := HC8.out
   clear HC8
   by_cases c10 : t333 > x6_1
   ·rw [if_pos c10] at H
    have c10b0 : decide (x6_1 < t333) = true := decide_eq_true c10
    clear c10
    (first | rw [c10b0] | (simp only [i64_w, i32_w]; rw [c10b0]) | skip)
    have H' := Aside0.mk H
    clear H
    go_wp2
    go_roundg k1
    case measure => have := HK1.out; omega
    case rel => exact ⟨(x7_1), (t333), (wrap64 (x7_1 + 1)), z9_0_, z9_0_, z9_0_, H', ⟨z9_2_⟩, ⟨hB_⟩⟩
   rw [if_neg c10] at H
   have c10b0 : decide (x6_1 < t333) = false := decide_eq_false c10
   clear c10
   (first | rw [c10b0] | (simp only [i64_w, i32_w]; rw [c10b0]) | skip)
   have H' := Aside0.mk H
   clear H
   go_wp2
   go_roundg k1
   case measure => have := HK1.out; omega
   case rel => exact ⟨(x5_1), (x6_1), (wrap64 (x7_1 + 1)), z9_0_, z9_0_, z9_0_, H', ⟨z9_2_⟩, ⟨hB_⟩⟩

/-! ### slices_Clone_Locus: function 69 -/
theorem slices_Clone_Locus.calls (A0 : Option Addr) (c0 : Nat) (l0 : List (S58)) (r : List (S58)) (w : World) (hr0 : Kd.C k58 w A0 l0.length l0) (hc0 : l0.length ≤ c0) (h : slices_Clone_Locus.f l0 = some r) :
 Calls Tryz.prog 69 #[.slice A0 l0.length c0] w fun e w' => ∃ v0_ : Value, e = .returned (v0_) ∧ Kd.R k58 58 w' w.heap.size (fun _ => True) v0_ r ∧ Below w.heap.size w w' := by
 rcases A0 with _ | A0v
 ·obtain rfl : l0 = [] := List.eq_nil_of_length_eq_zero (Nat.eq_zero_of_not_pos fun hp_ => by obtain ⟨ad_, e_, _⟩ := hr0.2.2 hp_; cases e_)
  obtain rfl : r = [] := by simpa [slices_Clone_Locus.f, eq_comm] using h
  have hq_ : ∀ w_ : World, (binOp .eql 23 (.slice none 0 c0) (.slice none 0 0)).run Tryz.prog w_ = .ok (.bool true) w_ := fun w_ => eqNil Tryz.underlying23 none 0 c0 w_
  go_enter Tryz.func69, Tryz.ntmps69
  go_wp2
  go_ret
  exact ⟨_, rfl, Kd.R_nil _ _ _ _ _, Below.refl _ _⟩
 have hq_ : ∀ w_ : World, (binOp .eql 23 (.slice (some A0v) l0.length c0) (.slice none 0 0)).run Tryz.prog w_ = .ok (.bool false) w_ := fun w_ => eqNil Tryz.underlying23 (some A0v) l0.length c0 w_
 have HR0 := Aside0.mk hr0
 have HC0 := Aside0.mk hc0
 clear hr0 hc0
 have HB := Aside0.mk (Below.refl w.heap.size w)
 have H : ((some (([] : List (S58)) : List (S58))).bind fun y335 => (if y335.length + l0.length < 5864062014805 then (some (y335 ++ l0)) else (none))) = some r := h
 clear h
 replace H := bs_ H; obtain ⟨y335, Ny335, H⟩ := H; try dsimp only at H
 replace H := il_ H; obtain ⟨LMc2, H⟩ := H
 obtain ⟨y338, hy338⟩ : ∃ y_ : List (S58), y_ = (y335 ++ l0) := ⟨_, rfl⟩
 rw [← hy338] at H
 have Ny338 := Aside0.mk hy338; clear hy338
 obtain rfl := Option.some.inj H
 go_enter Tryz.func69, Tryz.ntmps69
 go_wp2_with (first | ((with_reducible refine gate_dst (N := 5) rfl ?_); refine rl_ k58 58 5 ([] : List (S58)) [] (Reps.none _ _) ?_; intro v336 w3 ho4 hb hg_ hnew_; clear hg_ hnew_; (first | rw [← Ny335.out] at ho4 | (simp only [Int.reduceToNat] at ho4; rw [← Ny335.out] at ho4)); have HO337 := aM_ (Kd.R_lower ho4 (below_size hB_)); replace HB := aM_ (below_step hB_ hb); clear hb ho4) | ((with_reducible refine gate_builtin (b := .append) (xs := #[.tmp 5, .tmp 6]) rfl ?_); at_builtin; refine Kd.R_append_rows k58 (w0 := w) w.heap.size rfl (.tmp 5) (.tmp 6) 23 58 (.agg #[(.string ⟨#[]⟩), (.int .i64 0)]) 24 rfl Tryz.underlying23 info58 rfl (by decide) (by omega) v336 y335 l0 _ _ _ (fun _ => True) (fun _ => False) rfl rfl ?aO ?aR (fun _ _ h => h) (fun _ h => h.elim) ?aF ?aB ?aS ?aL ?_; (case aR => repeat (first | exact (Kd.C_below HR0.out HB.out) | (with_reducible first | apply cA_ | apply cN_ | apply cD_))); (case aB => exact hB_); (case aF => exact (fun _ _ => trivial)); (case aO => exact (rR_ HO337)); (case aS => exact (below_size hB_)); (case aL => have := LMc2.out; omega); intro v339 w5 ho hb hg hat; rw [← Ny338.out] at ho; have HO340 := aM_ (ho); replace HB := aM_ (hb); clear HO337; clear ho hb hg hat))
 go_ret
 exact ⟨_, rT_, by (with_reducible repeat (first | apply rA_ | apply rN_ | apply rD_)); exact HO340.out, hB_⟩

end Go.Proofs.YtfkdlfbjkdkffaaGreatDoor.PFnPoints
