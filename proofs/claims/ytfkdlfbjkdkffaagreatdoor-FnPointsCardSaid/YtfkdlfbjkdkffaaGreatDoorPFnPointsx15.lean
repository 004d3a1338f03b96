/- Printed for this claim: functions of the program as Lean functions, and that the calls answer so. -/
import Derived.Test.YtfkdlfbjkdkffaaGreatDoorPFnPointsx0
import Derived.Test.YtfkdlfbjkdkffaaGreatDoorPFnPointsx2
import Derived.Test.YtfkdlfbjkdkffaaGreatDoorPFnPointsx3
import Derived.Test.YtfkdlfbjkdkffaaGreatDoorPFnPointsx6
import Derived.Test.YtfkdlfbjkdkffaaGreatDoorPFnPointsx9
import Derived.Test.YtfkdlfbjkdkffaaGreatDoorPFnPointsx11
import Derived.Test.YtfkdlfbjkdkffaaGreatDoorPFnPointsx14
import Derived.Test.YtfkdlfbjkdkffaaGreatDoorPFnPointsxD0
namespace Go.Proofs.YtfkdlfbjkdkffaaGreatDoor.PFnPoints
open Go.RowKit Go.Proofs.YtfkdlfbjkdkffaaGreatDoorW.PrintWords Go.Proofs.YtfkdlfbjkdkffaaGreatDoorW.PrintLast Go.Proofs.YtfkdlfbjkdkffaaGreatDoorW.PrintMore
theorem z15_0_ {p : Prop} (h : p := by first | rfl | (simp; done) | (simp [*]; done)) : p := h
theorem z15_1_ {p : Prop} (h : p := by first | exact Kd.R_nil _ _ _ _ _ | exact Kd.N_nil _ _ _ _ _ | exact Kd.V_nil _ _ _ _ _ | exact Kd.Q_nil _ _ _ _ _ | exact Kd.S_nil _ _ _ _ _) : p := h
theorem z15_2_ {p : Prop} (h : p := by repeat (first | (with_reducible first | exact HI0.out | apply IsS70.alloc | apply IsS70.drewN | apply IsS70.drew | apply IsS70.set_1 | apply IsS70.set_2) | exact HI0.out)) : p := h
theorem z15_3_ {p : Prop} (h : p := by repeat (first | (with_reducible first | exact HB.out | apply lA_ | apply lN_ | apply lD_ | refine below_set ?_ (IsS70.ge HI0.out)) | exact HB.out)) : p := h
theorem z15_4_ {p : Prop} (h : p := by repeat (first | (with_reducible first | exact HK.out | apply KeepBut.set_ | apply keep_drewN | apply keep_drew | apply keep_alloc) | exact HK.out)) : p := h
theorem z15_5_ {p : Prop} (h : p := by have := HK1.out; have := HJ5.out; omega) : p := h
theorem z15_6_ {p : Prop} (h : p := by repeat (first | (with_reducible first | exact HI492.out | apply IsS70.alloc | apply IsS70.drewN | apply IsS70.drew | apply IsS70.set_1 | apply IsS70.set_2) | exact HI492.out)) : p := h
theorem z15_7_ {p : Prop} (h : p := by repeat (first | (with_reducible first | exact HB.out | apply lA_ | apply lN_ | apply lD_ | refine below_set ?_ (IsS70.ge HI492.out)) | exact HB.out)) : p := h
set_option maxHeartbeats 8000000
set_option maxRecDepth 100000
attribute [local go_sem] max2_int min2_int max_two min_two max_three min_three max_four min_four isSome_setCell   -- for this text's walks alone
set_option linter.unusedVariables false
set_option linter.unusedSimpArgs false

/-! ### spec_loMeans: function 82 -/
theorem spec_loMeans.calls (k : Nat) (A0 : Option Addr) (c0 : Nat) (l0 : List (S58)) (a1 : Int) (r1 : ByteArray) (r2 : Bool) (w : World) (hr0 : Kd.C k58 w A0 l0.length l0) (hc0 : l0.length ≤ c0) (h : spec_loMeans.f k l0 a1 = some (r1, r2)) :
 Calls Tryz.prog 82 #[.slice A0 l0.length c0, .int .i64 a1] w fun e w' => e = .returned (.tuple #[.string r1, .bool r2]) ∧ Below w.heap.size w w' := by
 have hu58 := Tryz.underlying58
 have HR0 := Aside0.mk hr0
 have HC0 := Aside0.mk hc0
 clear hr0 hc0
 have HB := Aside0.mk (Below.refl w.heap.size w)
 have H : ((spec_loLeast.f k l0 a1).bind fun bt457 => (if bt457.1 > 20 then (spec_loMeans.j0 k l0 a1 bt457.1 true) else (spec_loMeans.j0 k l0 a1 bt457.1 (bt457.2 != 1)))) = some (r1, r2) := h
 clear h
 replace H := ob_ H; obtain ⟨⟨t457, t458⟩, A3, H⟩ := H; try dsimp only at H
 have HC4 := Aside0.mk H
 clear H
 go_enter Tryz.func82, Tryz.ntmps82
 go_upto_region 2 with (first | ((with_reducible refine gC_ 68 ?_); refine gM_ (some 13) Tryz.func68 #[.slice A0 l0.length c0, .int .i64 a1] ?_; (with_reducible refine (spec_loLeast.calls k _ _ l0 a1 t457 t458 _ ?side1 ?side2 A3.out).mono ?_); (case side1 => exact cC_ HR0); (case side2 => exact HC0.out); rintro e w5 ⟨rfl, hb⟩; refine ⟨_, rfl, ?_⟩; replace HB := aM_ (below_step hB_ hb); (try clear hb)))
 (try simp only [Act.put, List.setIfInBounds_toArray, List.set_cons_zero, List.set_cons_succ])
 go_cut [21] (fun v21 wc => ∃ (kq : Nat) (x21_3 : Bool), v21 = .bool x21_3 ∧ Aside0 (spec_loMeans.j0 kq l0 a1 t457 x21_3 = some (r1, r2)) ∧ Aside0 (kq ≤ k) ∧ Aside0 (Below w.heap.size w wc))
 case first =>
  have H := HC4.out
  clear HC4
  by_cases c6 : t457 > 20
  ·rw [if_pos c6] at H
   have c6b0 : decide (20 < t457) = true := decide_eq_true c6
   clear c6
   (first | rw [c6b0] | (simp only [i64_w, i32_w]; rw [c6b0]) | skip)
   have H' := Aside0.mk H
   clear H
   go_wp2
   go_meet
   case rel => exact ⟨_, (true), z15_0_, H', ⟨oR_⟩, ⟨hB_⟩⟩
  rw [if_neg c6] at H
  have c6b0 : decide (20 < t457) = false := decide_eq_false c6
  clear c6
  (first | rw [c6b0] | (simp only [i64_w, i32_w]; rw [c6b0]) | skip)
  have H' := Aside0.mk H
  clear H
  go_wp2
  go_meet
  case rel => exact ⟨_, ((t458 != 1)), z15_0_, H', ⟨oR_⟩, ⟨hB_⟩⟩
 case rest =>
  clear HC4
  obtain ⟨kq, x21_3, rfl, HA, HJ3, HB⟩ := hcut
  cases kq with
  | zero => exact absurd HA.out (by simp [spec_loMeans.j0])
  | succ kj3 =>
   have H := HA.out
   clear HA
   simp only [spec_loMeans.j0] at H
   by_cases c7 : x21_3 = true
   ·subst c7
    replace H := ip_ H rfl
    simp only [Option.some.injEq, Prod.mk.injEq] at H
    obtain ⟨rfl, rfl⟩ := H
    go_wp2
    go_ret2
    exact ⟨rT_, hB_⟩
   replace c7 := Bool.eq_false_iff.mpr c7
   subst c7
   replace H := in_ H (show ¬ (false = true) by decide)
   have H' := Aside0.mk H
   clear H
   go_wp2
   go_loopg [24] kj3 (fun kq v24 w' => ∃ (x24_2 : Int), v24 = .int .i64 x24_2 ∧ Aside0 (spec_loMeans.l0 kq a1 t457 l0 (l0.length : Int) x24_2 = some (r1, r2)) ∧ Aside0 (kq ≤ kj3) ∧ Aside0 (Below w.heap.size w w'))
   case atStart => exact ⟨(0), z15_0_, H', ⟨Nat.le_refl _⟩, ⟨hB_⟩⟩
   case round =>
    clear H'
    (try clear c7)
    obtain ⟨x24_2, rfl, HA, HK2, HB⟩ := hrel
    cases gk with
    | zero => exact absurd HA.out (by simp [spec_loMeans.l0])
    | succ k2 =>
     have H := HA.out
     clear HA
     simp only [spec_loMeans.l0] at H
     replace H := iF_ H; obtain ⟨c8b0, H⟩ | ⟨c8b0, H⟩ := H
     ·simp only [Option.some.injEq, Prod.mk.injEq] at H
      obtain ⟨rfl, rfl⟩ := H
      go_wp2
      go_ret2
      exact ⟨rT_, hB_⟩
     replace H := ig_ H; obtain ⟨c9b0, H⟩ := H
     replace H := ig_ H; obtain ⟨c10b0, H⟩ := H
     replace H := ob_ H; obtain ⟨t461, A11, H⟩ := H; try dsimp only at H
     have HC12 := Aside0.mk H
     clear H
     have p459 : 0 ≤ (x24_2 : Int) := ode_
     have q459 : x24_2 < (l0.length : Int) := ode_
     obtain ⟨ad459, e459, hx459_0, hx459_1⟩ := at_T58 HR0.out x24_2 p459 q459
     cases e459
     try replace hx459_0 := hc_ HB hx459_0
     try replace hx459_1 := hc_ HB hx459_1
     replace p459 := eq_true p459
     replace q459 := eq_true q459
     go_upto_if 34 with (first | ((with_reducible refine gate_dst (N := 9) rfl ?_); refine bx_ 9 #[.string (⟨#[]⟩ : ByteArray), .int .i64 0] 58 fun gb460 hg w13 hbox hb => ?_; have BK460 := aM_ (hbox); have GW460 := aM_ (gw_ w hg); have GE460 := aM_ (gw_ w hg); replace HB := aM_ (below_step hB_ hb); clear hb hbox hg; have hz14 := cf2_ BK460.out) | ((with_reducible refine gC_ 102 ?_); refine gM_ (some 32) Tryz.func102 #[.int .i64 (wrap64 (((rd_T58 l0 x24_2).f1) - a1))] ?_; (with_reducible refine (spec_l1Abs.calls (wrap64 (((rd_T58 l0 x24_2).f1) - a1)) t461 _ A11.out).mono ?_); rintro e w' ⟨rfl, ⟨nd, rfl⟩⟩; refine ⟨_, rfl, ?_⟩))
     (try simp only [Act.put, List.setIfInBounds_toArray, List.set_cons_zero, List.set_cons_succ])
     have H := HC12.out
     clear HC12
     by_cases c15 : t461 = t457
     ·rw [if_pos c15] at H
      have c15b0 : (t461 == t457) = true := beq_iff_eq.mpr c15
      have c15b1 : (t461 != t457) = false := bne_eq_false_iff_eq.mpr c15
      clear c15
      (first | rw [c15b0] | (simp only [i64_w, i32_w]; rw [c15b0]) | skip)
      simp only [Option.some.injEq, Prod.mk.injEq] at H
      obtain ⟨rfl, rfl⟩ := H
      have hz16 := cf2_ BK460.out
      go_wp2
      go_ret2
      exact ⟨rT_, hB_⟩
     rw [if_neg c15] at H
     have c15b0 : (t461 == t457) = false := beq_eq_false_iff_ne.mpr c15
     have c15b1 : (t461 != t457) = true := bne_iff_ne.mpr c15
     (first | rw [c15b0] | (simp only [i64_w, i32_w]; rw [c15b0]) | skip)
     have H' := Aside0.mk H
     clear H
     go_wp2
     go_roundg k2
     case measure => have := HJ3.out; have := HK2.out; omega
     case rel => exact ⟨(wrap64 (x24_2 + 1)), z15_0_, H', ⟨by have := HJ3.out; have := HK2.out; omega⟩, ⟨hB_⟩⟩

/-! ### spec_RunPoints: function 39 -/
theorem spec_RunPoints.calls (k : Nat) (A0 : Option Addr) (c0 : Nat) (l0 : List (S58)) (a1 : ByteArray) (r1 : List ByteArray) (r2 : Bool) (w : World) (hr0 : Kd.C k58 w A0 l0.length l0) (hc0 : l0.length ≤ c0) (h : spec_RunPoints.f k l0 a1 = some (r1, r2)) :
 Calls Tryz.prog 39 #[.slice A0 l0.length c0, .string a1] w fun e w' => ∃ v0_ : Value, e = .returned (.tuple #[v0_, .bool r2]) ∧ Kd.R Kd.string 9 w' w.heap.size (fun _ => True) v0_ r1 ∧ Below w.heap.size w w' := by
 have HR0 := Aside0.mk hr0
 have HC0 := Aside0.mk hc0
 clear hr0 hc0
 have HB := Aside0.mk (Below.refl w.heap.size w)
 have H : ((spec_loGood.f k l0).bind fun t462 => (if t462 = true then (if a1.toList = ([] : List UInt8) then (some (([] : List ByteArray), true)) else ((spec_l1Split.f k a1 32).bind fun t463 => (if (t463.length : Int) > 10 then (some (([] : List ByteArray), false)) else (spec_RunPoints.l0 k l0 ([] : List ByteArray) t463 (t463.length : Int) 0)))) else (some (([] : List ByteArray), false)))) = some (r1, r2) := h
 clear h
 replace H := ob_ H; obtain ⟨t462, A3, H⟩ := H; try dsimp only at H
 have HC4 := Aside0.mk H
 clear H
 go_enter Tryz.func39, Tryz.ntmps39
 go_upto_if 15 with (first | ((with_reducible refine gC_ 50 ?_); refine gM_ (some 14) Tryz.func50 #[.slice A0 l0.length c0] ?_; (with_reducible refine (spec_loGood.calls k _ _ l0 t462 _ ?side1 ?side2 A3.out).mono ?_); (case side1 => exact cC_ HR0); (case side2 => exact HC0.out); rintro e w5 ⟨rfl, hb⟩; refine ⟨_, rfl, ?_⟩; replace HB := aM_ (below_step hB_ hb); (try clear hb)))
 (try simp only [Act.put, List.setIfInBounds_toArray, List.set_cons_zero, List.set_cons_succ])
 have H := HC4.out
 clear HC4
 by_cases c6 : t462 = true
 rotate_left
 ·replace c6 := Bool.eq_false_iff.mpr c6
  subst c6
  replace H := in_ H (show ¬ (false = true) by decide)
  simp only [Option.some.injEq, Prod.mk.injEq] at H
  obtain ⟨rfl, rfl⟩ := H
  go_wp2
  go_ret2
  exact ⟨_, rT_, z15_1_, hB_⟩
 subst c6
 replace H := ip_ H rfl
 by_cases c7 : a1.toList = ([] : List UInt8)
 ·rw [if_pos c7] at H
  have c7b0 : (a1.toList == ([] : List UInt8)) = true := beq_iff_eq.mpr c7
  have c7b1 : (a1.toList != ([] : List UInt8)) = false := bne_eq_false_iff_eq.mpr c7
  clear c7
  (first | rw [c7b0] | (simp only [i64_w, i32_w]; rw [c7b0]) | skip)
  simp only [Option.some.injEq, Prod.mk.injEq] at H
  obtain ⟨rfl, rfl⟩ := H
  go_wp2
  go_ret2
  exact ⟨_, rT_, z15_1_, hB_⟩
 rw [if_neg c7] at H
 have c7b0 : (a1.toList == ([] : List UInt8)) = false := beq_eq_false_iff_ne.mpr c7
 have c7b1 : (a1.toList != ([] : List UInt8)) = true := bne_iff_ne.mpr c7
 (first | rw [c7b0] | (simp only [i64_w, i32_w]; rw [c7b0]) | skip)
 replace H := ob_ H; obtain ⟨t463, A8, H⟩ := H; try dsimp only at H
 have HC9 := Aside0.mk H
 clear H
 go_upto_if 22 with (first | ((with_reducible refine gC_ 63 ?_); refine gM_ (some 19) Tryz.func63 #[.string a1, .int .u8 32] ?_; (with_reducible refine (spec_l1Split.calls k a1 32 t463 _ A8.out).mono ?_); rintro e w10 ⟨v464, rfl, ho0, hb⟩; refine ⟨_, rfl, ?_⟩; have HO465 := aM_ (Kd.R_lower ho0 (below_size hB_)); replace HB := aM_ (below_step hB_ hb); (try clear hb); (try clear ho0); obtain ⟨Ao11, co11, eo11⟩ := Kd.R_slice HO465.out; subst eo11))
 (try simp only [Act.put, List.setIfInBounds_toArray, List.set_cons_zero, List.set_cons_succ])
 have H := HC9.out
 clear HC9
 by_cases c12 : (t463.length : Int) > 10
 ·rw [if_pos c12] at H
  have c12b0 : decide (10 < (t463.length : Int)) = true := decide_eq_true c12
  have c12b1 : decide (10 < t463.length) = true := decide_eq_true (by omega)
  clear c12
  (first | rw [c12b0] | (simp only [i64_w, i32_w]; rw [c12b0]) | skip)
  simp only [Option.some.injEq, Prod.mk.injEq] at H
  obtain ⟨rfl, rfl⟩ := H
  go_wp2
  go_ret2
  exact ⟨_, rT_, z15_1_, hB_⟩
 rw [if_neg c12] at H
 have c12b0 : decide (10 < (t463.length : Int)) = false := decide_eq_false c12
 have c12b1 : decide (10 < t463.length) = false := decide_eq_false (by omega)
 clear c12
 (first | rw [c12b0] | (simp only [i64_w, i32_w]; rw [c12b0]) | skip)
 have H' := Aside0.mk H
 clear H
 go_wp2
 go_loopg [7, 25] k (fun kq v7 v25 w' => ∃ (x7_1 : List ByteArray) (x25_1 : Int), v25 = .int .i64 x25_1 ∧ Aside0 (spec_RunPoints.l0 kq l0 x7_1 t463 (t463.length : Int) x25_1 = some (r1, r2)) ∧ Aside0 (kq ≤ k) ∧ Aside0 (Kd.R Kd.string 9 w' w.heap.size (fun k_ => some k_ ≠ ((.slice Ao11 t463.length co11) : Value).ownBlock) v7 x7_1) ∧ Aside0 (Kd.R Kd.string 9 w' w.heap.size (fun k_ => some k_ ≠ (v7 : Value).ownBlock) (.slice Ao11 t463.length co11) t463) ∧ Aside0 (Below w.heap.size w w'))
 case atStart => exact ⟨(([] : List ByteArray)), (0), z15_0_, H', ⟨Nat.le_refl _⟩, ⟨z15_1_⟩, ⟨rM_ HO465 (fun _ hk => (by simp [Value.ownBlock]))⟩, ⟨hB_⟩⟩
 case round =>
  clear H'
  (try clear c6);(try clear c7);(try clear c7b0);(try clear c7b1);(try clear c12);(try clear c12b0);(try clear c12b1)
  obtain ⟨x7_1, x25_1, rfl, HA, HK1, HO_7, HO_23, HB⟩ := hrel
  cases gk with
  | zero => exact absurd HA.out (by simp [spec_RunPoints.l0])
  | succ k1 =>
   have H := HA.out
   clear HA
   simp only [spec_RunPoints.l0] at H
   replace H := iF_ H; obtain ⟨c13b0, H⟩ | ⟨c13b0, H⟩ := H
   ·simp only [Option.some.injEq, Prod.mk.injEq] at H
    obtain ⟨rfl, rfl⟩ := H
    go_wp2
    go_ret2
    exact ⟨_, rT_, by (with_reducible repeat (first | apply rA_ | apply rN_ | apply rD_)); exact Kd.R_mono HO_7.out (fun _ hk => trivial), hB_⟩
   replace H := ig_ H; obtain ⟨c14b0, H⟩ := H
   replace H := ig_ H; obtain ⟨c15b0, H⟩ := H
   replace H := ob_ H; obtain ⟨t467, A16, H⟩ := H; try dsimp only at H
   replace H := ob_ H; obtain ⟨t468, A17, H⟩ := H; try dsimp only at H
   have HC18 := Aside0.mk H
   clear H
   obtain ⟨⟨ad466, e466, hx466_0⟩, p466, q466⟩ := at2_ (Kd.at_string (Kd.R_reads' HO_23.out).2.2 x25_1); cases e466
   go_upto_if 33 with (first | ((with_reducible refine gC_ 80 ?_); refine gM_ (some 30) Tryz.func80 #[.string (rdOf ByteArray.empty t463 x25_1)] ?_; (with_reducible refine (spec_loRead.calls k1 (rdOf ByteArray.empty t463 x25_1) t467 _ A16.out).mono ?_); rintro e w19 ⟨rfl, hb⟩; refine ⟨_, rfl, ?_⟩; replace HO_7 := aM_ (Kd.R_below (rR_ HO_7) hb); replace HO_23 := aM_ (Kd.R_below (rR_ HO_23) hb); replace HB := aM_ (below_step hB_ hb); (try clear hb)) | ((with_reducible refine gC_ 81 ?_); refine gM_ (some 32) Tryz.func81 #[.int .i64 t467] ?_; (with_reducible refine (spec_loAngle.calls t467 t468 _ A17.out).mono ?_); rintro e w' ⟨rfl, ⟨nd, rfl⟩⟩; refine ⟨_, rfl, ?_⟩))
   (try simp only [Act.put, List.setIfInBounds_toArray, List.set_cons_zero, List.set_cons_succ])
   have H := HC18.out
   clear HC18
   by_cases c20 : t468 = true
   rotate_left
   ·replace c20 := Bool.eq_false_iff.mpr c20
    subst c20
    replace H := in_ H (show ¬ (false = true) by decide)
    simp only [Option.some.injEq, Prod.mk.injEq] at H
    obtain ⟨rfl, rfl⟩ := H
    go_wp2
    go_ret2
    exact ⟨_, rT_, z15_1_, hB_⟩
   subst c20
   replace H := ip_ H rfl
   replace H := ob_ H; obtain ⟨⟨t469, t470⟩, A21, H⟩ := H; try dsimp only at H
   have HC22 := Aside0.mk H
   clear H
   go_upto_if 41 with (first | ((with_reducible refine gC_ 82 ?_); refine gM_ (some 37) Tryz.func82 #[.slice A0 l0.length c0, .int .i64 t467] ?_; (with_reducible refine (spec_loMeans.calls k1 _ _ l0 t467 t469 t470 _ ?side1 ?side2 A21.out).mono ?_); (case side1 => exact (by repeat (first | exact (Kd.C_below HR0.out HB.out) | (with_reducible first | apply cA_ | apply cN_ | apply cD_)))); (case side2 => exact HC0.out); rintro e w23 ⟨rfl, hb⟩; refine ⟨_, rfl, ?_⟩; replace HO_7 := aM_ (Kd.R_below (rR_ HO_7) hb); replace HO_23 := aM_ (Kd.R_below (rR_ HO_23) hb); replace HB := aM_ (below_step hB_ hb); (try clear hb)))
   (try simp only [Act.put, List.setIfInBounds_toArray, List.set_cons_zero, List.set_cons_succ])
   have H := HC22.out
   clear HC22
   by_cases c24 : t470 = true
   ·subst c24
    replace H := ip_ H rfl
    replace H := il_ H; obtain ⟨LMc25, H⟩ := H
    obtain ⟨y471, hy471⟩ : ∃ y_ : List ByteArray, y_ = (x7_1 ++ [t469]) := ⟨_, rfl⟩
    rw [← hy471] at H
    have Ny471 := Aside0.mk hy471; clear hy471
    have H' := Aside0.mk H
    clear H
    go_wp2_with (first | ((with_reducible refine gate_builtin (b := .append) (xs := #[.tmp 42, .tmp 44]) rfl ?_); at_builtin; refine Kd.R_append Kd.string (w0 := w) w.heap.size rfl (.tmp 42) (.tmp 44) 63 9 (.string ⟨#[]⟩) 16 rfl Tryz.underlying63 info9 rfl (by decide) (by omega) u7 x7_1 t469 [.string t469] (fun k_ => some k_ ≠ (.slice (some ad466) t463.length co11 : Value).ownBlock) (fun _ => False) rfl rfl ?aP (fun _ hk => hk.elim) ?aF ?aO ?aB ?aS ?aL ?_; (case aP => exact rfl); (case aB => exact hB_); (case aF => exact (fun k_ hk => Kd.fresh' (Kd.R_lt (rR_ HO_23)) k_ hk)); (case aO => exact (rR_ HO_7)); (case aS => exact (below_size hB_)); (case aL => have := LMc25.out; omega); intro v472 w26 ho hb hg hat; rw [← Ny471.out] at ho; have HO473 := aM_ (ho); replace HO_23 := aM_ (Kd.R_after (ok := (fun _ => True)) (rM_ HO_23 (fun _ hk => ⟨trivial, hk⟩)) hg hat); replace HB := aM_ (hb); clear HO_7; clear ho hb hg hat))
    go_roundg k1
    case measure => have := HK1.out; omega
    case rel => exact ⟨(y471), (wrap64 (x25_1 + 1)), z15_0_, H', ⟨by have := HK1.out; omega⟩, ⟨rR_ HO473⟩, ⟨(rM_ HO_23 (fun _ hk => hk.2))⟩, ⟨hB_⟩⟩
   replace c24 := Bool.eq_false_iff.mpr c24
   subst c24
   replace H := in_ H (show ¬ (false = true) by decide)
   replace H := il_ H; obtain ⟨LMc27, H⟩ := H
   obtain ⟨y474, hy474⟩ : ∃ y_ : List ByteArray, y_ = (x7_1 ++ [(⟨#[63]⟩ : ByteArray)]) := ⟨_, rfl⟩
   rw [← hy474] at H
   have Ny474 := Aside0.mk hy474; clear hy474
   have H' := Aside0.mk H
   clear H
   go_wp2_with (first | ((with_reducible refine gate_builtin (b := .append) (xs := #[.tmp 42, .tmp 44]) rfl ?_); at_builtin; refine Kd.R_append Kd.string (w0 := w) w.heap.size rfl (.tmp 42) (.tmp 44) 63 9 (.string ⟨#[]⟩) 16 rfl Tryz.underlying63 info9 rfl (by decide) (by omega) u7 x7_1 (⟨#[63]⟩ : ByteArray) [.string (⟨#[63]⟩ : ByteArray)] (fun k_ => some k_ ≠ (.slice (some ad466) t463.length co11 : Value).ownBlock) (fun _ => False) rfl rfl ?aP (fun _ hk => hk.elim) ?aF ?aO ?aB ?aS ?aL ?_; (case aP => exact rfl); (case aB => exact hB_); (case aF => exact (fun k_ hk => Kd.fresh' (Kd.R_lt (rR_ HO_23)) k_ hk)); (case aO => exact (rR_ HO_7)); (case aS => exact (below_size hB_)); (case aL => have := LMc27.out; omega); intro v475 w28 ho hb hg hat; rw [← Ny474.out] at ho; have HO476 := aM_ (ho); replace HO_23 := aM_ (Kd.R_after (ok := (fun _ => True)) (rM_ HO_23 (fun _ hk => ⟨trivial, hk⟩)) hg hat); replace HB := aM_ (hb); clear HO_7; clear ho hb hg hat))
   go_roundg k1
   case measure => have := HK1.out; omega
   case rel => exact ⟨(y474), (wrap64 (x25_1 + 1)), z15_0_, H', ⟨by have := HK1.out; omega⟩, ⟨rR_ HO476⟩, ⟨(rM_ HO_23 (fun _ hk => hk.2))⟩, ⟨hB_⟩⟩

/-! ### spec_l1Cur_spoilt: function 60 -/
theorem spec_l1Cur_spoilt.calls (k : Nat) (g : Nat) (s0_0 : List Int) (s0_1 : Int) (s0_2 : Int) (a1 : ByteArray) (a2 : ByteArray) (r1 : ByteArray) (r2 : Int) (r3 : Int) (w0 w : World) (hI : IsS70 w0 w g s0_0 s0_1 s0_2) (hB : Below w0.heap.size w0 w) (h : spec_l1Cur_spoilt.f k s0_0 s0_1 s0_2 a1 a2 = some (r1, r2, r3)) :
 Calls Tryz.prog 60 #[.pointer (some ⟨g, 0, none⟩), .string a1, .string a2] w fun e w' => e = .returned (.string r1) ∧ IsS70 w0 w' g s0_0 r2 r3 ∧ Below w0.heap.size w0 w' ∧ KeepBut w w' g none := by
 have HI0 := Aside0.mk hI
 have HK := Aside0.mk (KeepBut.refl w g none)
 have HL := Aside0.mk hB.size
 clear hI
 have HW0 := Aside0.mk hB.size
 have HB := Aside0.mk hB
 clear hB
 have H : ((spec_l1Cur_pick.f s0_0 s0_1 s0_2 2).bind fun bt477 => (spec_l1Cur_spoilt.l0 k a1 a2 (wrap64 (1 + bt477.1)) s0_0 bt477.2.1 bt477.2.2)) = some (r1, r2, r3) := h
 clear h
 replace H := ob_ H; obtain ⟨⟨t477, t478, t479⟩, A4, H⟩ := H; try dsimp only at H
 have H' := Aside0.mk H
 clear H
 go_enter Tryz.func60, Tryz.ntmps60
 go_wp2_with (first | (go_at_call 59; (with_reducible refine (spec_l1Cur_pick.calls g s0_0 s0_1 s0_2 2 t477 t478 t479 w0 _ ?side1 ?side2 A4.out).mono ?_); (case side1 => exact z15_2_); (case side2 => exact z15_3_); rintro e w5 ⟨rfl, hi, hb, hk⟩; replace HK := aM_ (KeepBut.trans z15_4_ hk (.inl rfl)); replace HB := aM_ (hb); replace HI0 := aM_ (hi); (try clear hb); (try clear hk); (try clear hi)) | (go_quiet (fail)))
 go_loopg [1, 7] k (fun kq v1 v7 w' => ∃ (x1_1 : ByteArray) (x7_1 : Int) (x1001_1 : Int) (x1002_1 : Int), v1 = .string x1_1 ∧ v7 = .int .i64 x7_1 ∧ Aside0 (spec_l1Cur_spoilt.l0 kq x1_1 a2 x7_1 s0_0 x1001_1 x1002_1 = some (r1, r2, r3)) ∧ Aside0 (kq ≤ k) ∧ Aside0 (IsS70 w0 w' g s0_0 x1001_1 x1002_1) ∧ Aside0 (KeepBut w w' g none) ∧ Aside0 (Below w0.heap.size w0 w'))
 case atStart => exact ⟨(a1), (wrap64 (1 + t477)), (t478), (t479), z15_0_, z15_0_, H', ⟨Nat.le_refl _⟩, ⟨z15_2_⟩, ⟨z15_4_⟩, ⟨z15_3_⟩⟩
 case round =>
  clear H'
  obtain ⟨x1_1, x7_1, x1001_1, x1002_1, rfl, rfl, HA, HK1, HI0, HK, HB⟩ := hrel
  cases gk with
  | zero => exact absurd HA.out (by simp [spec_l1Cur_spoilt.l0])
  | succ k1 =>
   have H := HA.out
   clear HA
   simp only [spec_l1Cur_spoilt.l0] at H
   have HC6 := Aside0.mk H
   clear H
   go_upto_region 2 with (fail)
   repeat (go_quiet (fail); go_upto_region 2 with (fail))
   go_cut [19] (fun v19 wc => ∃ (kq : Nat) (x19_5 : Bool), v19 = .bool x19_5 ∧ Aside0 (spec_l1Cur_spoilt.j1 kq x1_1 a2 x7_1 x19_5 s0_0 x1001_1 x1002_1 = some (r1, r2, r3)) ∧ Aside0 (kq ≤ k1) ∧ Aside0 (IsS70 w0 wc g s0_0 x1001_1 x1002_1) ∧ Aside0 (KeepBut w wc g none) ∧ Aside0 (Below w0.heap.size w0 wc))
   case first =>
    have H := HC6.out
    clear HC6
    by_cases c7 : x7_1 > 0
    rotate_left
    ·rw [if_neg c7] at H
     have c7b0 : decide (0 < x7_1) = false := decide_eq_false c7
     clear c7
     (first | rw [c7b0] | (simp only [i64_w, i32_w]; rw [c7b0]) | skip)
     have H' := Aside0.mk H
     clear H
     go_wp2
     repeat (go_quiet (fail); try go_wp2)
     go_meet
     case rel => exact ⟨_, (false), z15_0_, H', ⟨by have := HK1.out; first | omega | exact Nat.le_refl _⟩, ⟨z15_2_⟩, ⟨z15_4_⟩, ⟨z15_3_⟩⟩
    rw [if_pos c7] at H
    have c7b0 : decide (0 < x7_1) = true := decide_eq_true c7
    clear c7
    (first | rw [c7b0] | (simp only [i64_w, i32_w]; rw [c7b0]) | skip)
    have H' := Aside0.mk H
    clear H
    go_wp2
    repeat (go_quiet (fail); try go_wp2)
    go_meet
    case rel => exact ⟨_, (decide ((x1_1.size : Int) > 0)), z15_0_, H', ⟨by have := HK1.out; first | omega | exact Nat.le_refl _⟩, ⟨z15_2_⟩, ⟨z15_4_⟩, ⟨z15_3_⟩⟩
   case rest =>
    clear HC6
    obtain ⟨kq, x19_5, rfl, HA, HJ5, HI0, HK, HB⟩ := hcut
    cases kq with
    | zero => exact absurd HA.out (by simp [spec_l1Cur_spoilt.j1])
    | succ kj5 =>
     have H := HA.out
     clear HA
     simp only [spec_l1Cur_spoilt.j1] at H
     by_cases c8 : x19_5 = true
     rotate_left
     ·replace c8 := Bool.eq_false_iff.mpr c8
      subst c8
      replace H := in_ H (show ¬ (false = true) by decide)
      simp only [Option.some.injEq, Prod.mk.injEq] at H
      obtain ⟨rfl, rfl, rfl⟩ := H
      go_wp2
      repeat (go_quiet (fail); try go_wp2)
      go_ret
      exact ⟨rT_, z15_2_, z15_3_, z15_4_⟩
     subst c8
     replace H := ip_ H rfl
     replace H := ob_ H; obtain ⟨⟨t480, t481, t482⟩, A9, H⟩ := H; try dsimp only at H
     replace H := ob_ H; obtain ⟨⟨t483, t484, t485⟩, A10, H⟩ := H; try dsimp only at H
     replace H := ig_ H; obtain ⟨c11b0, H⟩ := H
     replace H := ig_ H; obtain ⟨c12b0, H⟩ := H
     replace H := bs_ H; obtain ⟨y486, Ny486, H⟩ := H; try dsimp only at H
     replace H := ob_ H; obtain ⟨⟨t489, t490, t491⟩, A14, H⟩ := H; try dsimp only at H
     have HC15 := Aside0.mk H
     clear H
     go_upto_if 44 with (first | (go_at_call 59; (with_reducible refine (spec_l1Cur_pick.calls g s0_0 x1001_1 x1002_1 (x1_1.size : Int) t480 t481 t482 w0 _ ?side1 ?side2 A9.out).mono ?_); (case side1 => exact z15_2_); (case side2 => exact z15_3_); rintro e w16 ⟨rfl, hi, hb, hk⟩; replace HK := aM_ (KeepBut.trans z15_4_ hk (.inl rfl)); replace HB := aM_ (hb); replace HI0 := aM_ (hi); (try clear hb); (try clear hk); (try clear hi)) | (go_at_call 59; (with_reducible refine (spec_l1Cur_pick.calls g s0_0 t481 t482 (a2.size : Int) t483 t484 t485 w0 _ ?side1 ?side2 A10.out).mono ?_); (case side1 => exact z15_2_); (case side2 => exact z15_3_); rintro e w17 ⟨rfl, hi, hb, hk⟩; replace HK := aM_ (KeepBut.trans z15_4_ hk (.inl rfl)); replace HB := aM_ (hb); replace HI0 := aM_ (hi); (try clear hb); (try clear hk); (try clear hi); have p13 : 0 ≤ (t483 : Int) := ode_; have q13 : t483 < (a2.size : Int) := ode_; have hx13 := bt_at a2 t483; replace p13 := eq_true p13; replace q13 := eq_true q13) | ((with_reducible refine gate_dst (N := 32) rfl ?_); (try (refine gate_guard (by rfl) ?_; dsimp only)); refine rl_ (Kd.int .u8) 5 32 ([bt a2 t483] : List Int) [.int .u8 (bt a2 t483)] (Reps.one (show Kd.M (Kd.int .u8) _ _ _ (bt a2 t483) [.int .u8 (bt a2 t483)] from rfl) (Reps.none _ _)) ?_; intro v487 w18 ho19 hb hg_ hnew_; clear hg_ hnew_; (first | rw [← Ny486.out] at ho19 | (simp only [Int.reduceToNat] at ho19; rw [← Ny486.out] at ho19)); have HO488 := aM_ (Kd.R_lower ho19 (keep_size (w := w) (g := g) (row := none) z15_4_)); replace HK := aM_ (KeepBut.trans z15_4_ (KeepBut.of_below hb g none) (.inl rfl)); replace HB := aM_ (below_step z15_3_ hb); replace HI0 := aM_ (IsS70.below z15_2_ hb); clear hb ho19; have hcv20 := own_string (P := Tryz.prog) Tryz.underlying22 Tryz.underlying5 Tryz.underlying9 (Kd.own_of_R HO488.out)) | (go_at_call 59; (with_reducible refine (spec_l1Cur_pick.calls g s0_0 t484 t485 3 t489 t490 t491 w0 _ ?side1 ?side2 A14.out).mono ?_); (case side1 => exact z15_2_); (case side2 => exact z15_3_); rintro e w21 ⟨rfl, hi, hb, hk⟩; replace HO488 := aM_ (Kd.R_mono (Kd.R_keep (IsS70.apart (show IsS70 w0 _ g s0_0 t484 t485 from by repeat (first | (with_reducible first | exact HI0.out | apply IsS70.alloc | apply IsS70.drewN | apply IsS70.drew | apply IsS70.set_1 | apply IsS70.set_2) | exact HI0.out)) (rR_ HO488) (by decide)) hk (fun _ h => h.2)) (fun _ h => h.1)); replace HK := aM_ (KeepBut.trans z15_4_ hk (.inl rfl)); replace HB := aM_ (hb); replace HI0 := aM_ (hi); (try clear hb); (try clear hk); (try clear hi)) | (go_quiet (fail)))
     (try simp only [Act.put, List.setIfInBounds_toArray, List.set_cons_zero, List.set_cons_succ])
     have H := HC15.out
     clear HC15
     by_cases c22 : t489 = 0
     ·rw [if_pos c22] at H
      have c22b0 : (t489 == 0) = true := beq_iff_eq.mpr c22
      have c22b1 : (t489 != 0) = false := bne_eq_false_iff_eq.mpr c22
      clear c22
      (first | rw [c22b0] | (simp only [i64_w, i32_w]; rw [c22b0]) | skip)
      replace H := it_ H; obtain ⟨c23b0, c23b1, H⟩ := H
      replace H := it_ H; obtain ⟨c24b0, c24b1, H⟩ := H
      by_cases c25 : (x1_1.extract 0 (t480 : Int).toNat).size + (strOfNums y486).size ≤ 9223372036854775807
      rotate_left
      ·rw [if_neg c25] at H
       exact absurd H (by simp)
      rw [if_pos c25] at H
      have c25b0 := eq_true c25
      have c25b1 : decide ((x1_1.extract 0 (t480 : Int).toNat).size + (strOfNums y486).size ≤ 9223372036854775807) = true := decide_eq_true c25
      try have c25b2 : (9223372036854775807 < (x1_1.extract 0 (t480 : Int).toNat).size + (strOfNums y486).size) = False := eq_false (Nat.not_lt.2 c25)
      have c26b0 := eq_true (ode_ : 0 ≤ t480)
      have c27b0 := eq_true (ode_ : t480 ≤ (x1_1.size : Int))
      by_cases c28 : ((x1_1.extract 0 (t480 : Int).toNat) ++ (strOfNums y486)).size + (x1_1.extract (t480 : Int).toNat x1_1.size).size ≤ 9223372036854775807
      rotate_left
      ·rw [if_neg c28] at H
       exact absurd H (by simp)
      rw [if_pos c28] at H
      have c28b0 := eq_true c28
      have c28b1 : decide (((x1_1.extract 0 (t480 : Int).toNat) ++ (strOfNums y486)).size + (x1_1.extract (t480 : Int).toNat x1_1.size).size ≤ 9223372036854775807) = true := decide_eq_true c28
      try have c28b2 : (9223372036854775807 < ((x1_1.extract 0 (t480 : Int).toNat) ++ (strOfNums y486)).size + (x1_1.extract (t480 : Int).toNat x1_1.size).size) = False := eq_false (Nat.not_lt.2 c28)
      try (have c28b3 := c28b2; simp only [ByteArray.size_append', ByteArray.size_mk', List.size_toArray, List.length_cons, List.length_nil, Nat.zero_add, Nat.reduceAdd] at c28b3)
      have H' := Aside0.mk H
      clear H
      go_wp2
      repeat (go_quiet (fail); try go_wp2)
      go_roundg kj5
      case measure => have := HK1.out; have := HJ5.out; omega
      case rel => exact ⟨(((x1_1.extract 0 (t480 : Int).toNat) ++ (strOfNums y486)) ++ (x1_1.extract (t480 : Int).toNat x1_1.size)), (wrap64 (x7_1 - 1)), (t490), (t491), z15_0_, z15_0_, H', ⟨z15_5_⟩, ⟨z15_2_⟩, ⟨z15_4_⟩, ⟨z15_3_⟩⟩
     rw [if_neg c22] at H
     have c22b0 : (t489 == 0) = false := beq_eq_false_iff_ne.mpr c22
     have c22b1 : (t489 != 0) = true := bne_iff_ne.mpr c22
     (first | rw [c22b0] | (simp only [i64_w, i32_w]; rw [c22b0]) | skip)
     by_cases c29 : t489 = 1
     rotate_left
     ·rw [if_neg c29] at H
      have c29b0 : (t489 == 1) = false := beq_eq_false_iff_ne.mpr c29
      have c29b1 : (t489 != 1) = true := bne_iff_ne.mpr c29
      replace H := it_ H; obtain ⟨c37b0, c37b1, H⟩ := H
      replace H := it_ H; obtain ⟨c38b0, c38b1, H⟩ := H
      obtain ⟨ji39, hji39⟩ : ∃ j_ : Int, (wrap64 (t480 + 1)) = j_ := ⟨_, rfl⟩
      replace H : (if 0 ≤ (ji39) then (if (ji39) ≤ (x1_1.size : Int) then (if (x1_1.extract 0 (t480 : Int).toNat).size + (x1_1.extract ((ji39) : Int).toNat x1_1.size).size ≤ 9223372036854775807 then (spec_l1Cur_spoilt.l0 kj5 ((x1_1.extract 0 (t480 : Int).toNat) ++ (x1_1.extract ((ji39) : Int).toNat x1_1.size)) a2 (wrap64 (x7_1 - 1)) s0_0 t490 t491) else (none)) else (none)) else (none)) = some (r1, r2, r3) := by first | (rw [hji39] at H; exact H) | (simp only [hji39] at H ⊢; exact H)
      have hji39w : (IntKind.i64.wrap (t480 + 1)) = ji39 := (i64_w _).trans hji39
      replace H := it_ H; obtain ⟨c40b0, c40b1, H⟩ := H
      replace H := it_ H; obtain ⟨c41b0, c41b1, H⟩ := H
      by_cases c42 : (x1_1.extract 0 (t480 : Int).toNat).size + (x1_1.extract ((ji39) : Int).toNat x1_1.size).size ≤ 9223372036854775807
      rotate_left
      ·rw [if_neg c42] at H
       exact absurd H (by simp)
      rw [if_pos c42] at H
      have c42b0 := eq_true c42
      have c42b1 : decide ((x1_1.extract 0 (t480 : Int).toNat).size + (x1_1.extract ((ji39) : Int).toNat x1_1.size).size ≤ 9223372036854775807) = true := decide_eq_true c42
      try have c42b2 : (9223372036854775807 < (x1_1.extract 0 (t480 : Int).toNat).size + (x1_1.extract ((ji39) : Int).toNat x1_1.size).size) = False := eq_false (Nat.not_lt.2 c42)
      have H' := Aside0.mk H
      clear H
      go_wp2
      repeat (go_quiet (fail); try go_wp2)
      go_roundg kj5
      case measure => have := HK1.out; have := HJ5.out; omega
      case rel => exact ⟨((x1_1.extract 0 (t480 : Int).toNat) ++ (x1_1.extract ((ji39) : Int).toNat x1_1.size)), (wrap64 (x7_1 - 1)), (t490), (t491), (by first | rfl | (simp; done) | (simp only [← hji39] <;> (first | rfl | simp)) | (simp [*]; done)), z15_0_, H', ⟨z15_5_⟩, ⟨z15_2_⟩, ⟨z15_4_⟩, ⟨z15_3_⟩⟩
     rw [if_pos c29] at H
     have c29b0 : (t489 == 1) = true := beq_iff_eq.mpr c29
     have c29b1 : (t489 != 1) = false := bne_eq_false_iff_eq.mpr c29
     clear c29
     replace H := it_ H; obtain ⟨c30b0, c30b1, H⟩ := H
     replace H := it_ H; obtain ⟨c31b0, c31b1, H⟩ := H
     by_cases c32 : (x1_1.extract 0 (t480 : Int).toNat).size + (strOfNums y486).size ≤ 9223372036854775807
     rotate_left
     ·rw [if_neg c32] at H
      exact absurd H (by simp)
     rw [if_pos c32] at H
     have c32b0 := eq_true c32
     have c32b1 : decide ((x1_1.extract 0 (t480 : Int).toNat).size + (strOfNums y486).size ≤ 9223372036854775807) = true := decide_eq_true c32
     try have c32b2 : (9223372036854775807 < (x1_1.extract 0 (t480 : Int).toNat).size + (strOfNums y486).size) = False := eq_false (Nat.not_lt.2 c32)
     obtain ⟨ji33, hji33⟩ : ∃ j_ : Int, (wrap64 (t480 + 1)) = j_ := ⟨_, rfl⟩
     replace H : (if 0 ≤ (ji33) then (if (ji33) ≤ (x1_1.size : Int) then (if ((x1_1.extract 0 (t480 : Int).toNat) ++ (strOfNums y486)).size + (x1_1.extract ((ji33) : Int).toNat x1_1.size).size ≤ 9223372036854775807 then (spec_l1Cur_spoilt.l0 kj5 (((x1_1.extract 0 (t480 : Int).toNat) ++ (strOfNums y486)) ++ (x1_1.extract ((ji33) : Int).toNat x1_1.size)) a2 (wrap64 (x7_1 - 1)) s0_0 t490 t491) else (none)) else (none)) else (none)) = some (r1, r2, r3) := by first | (rw [hji33] at H; exact H) | (simp only [hji33] at H ⊢; exact H)
     have hji33w : (IntKind.i64.wrap (t480 + 1)) = ji33 := (i64_w _).trans hji33
     replace H := it_ H; obtain ⟨c34b0, c34b1, H⟩ := H
     replace H := it_ H; obtain ⟨c35b0, c35b1, H⟩ := H
     by_cases c36 : ((x1_1.extract 0 (t480 : Int).toNat) ++ (strOfNums y486)).size + (x1_1.extract ((ji33) : Int).toNat x1_1.size).size ≤ 9223372036854775807
     rotate_left
     ·rw [if_neg c36] at H
      exact absurd H (by simp)
     rw [if_pos c36] at H
     have c36b0 := eq_true c36
     have c36b1 : decide (((x1_1.extract 0 (t480 : Int).toNat) ++ (strOfNums y486)).size + (x1_1.extract ((ji33) : Int).toNat x1_1.size).size ≤ 9223372036854775807) = true := decide_eq_true c36
     try have c36b2 : (9223372036854775807 < ((x1_1.extract 0 (t480 : Int).toNat) ++ (strOfNums y486)).size + (x1_1.extract ((ji33) : Int).toNat x1_1.size).size) = False := eq_false (Nat.not_lt.2 c36)
     try (have c36b3 := c36b2; simp only [ByteArray.size_append', ByteArray.size_mk', List.size_toArray, List.length_cons, List.length_nil, Nat.zero_add, Nat.reduceAdd] at c36b3)
     have H' := Aside0.mk H
     clear H
     go_wp2
     repeat (go_quiet (fail); try go_wp2)
     go_roundg kj5
     case measure => have := HK1.out; have := HJ5.out; omega
     case rel => exact ⟨(((x1_1.extract 0 (t480 : Int).toNat) ++ (strOfNums y486)) ++ (x1_1.extract ((ji33) : Int).toNat x1_1.size)), (wrap64 (x7_1 - 1)), (t490), (t491), (by first | rfl | (simp; done) | (simp only [← hji33] <;> (first | rfl | simp)) | (simp [*]; done)), z15_0_, H', ⟨z15_5_⟩, ⟨z15_2_⟩, ⟨z15_4_⟩, ⟨z15_3_⟩⟩

/-! ### spec_DrawParseLoci: function 40 -/
theorem spec_DrawParseLoci.calls (k : Nat) (A0 : Option Addr) (c0 : Nat) (l0 : List Int) (r : ByteArray) (w : World) (hr0 : Kd.C (Kd.int .u8) w A0 l0.length l0) (hc0 : l0.length ≤ c0) (h : spec_DrawParseLoci.f k l0 = some r) :
 Calls Tryz.prog 40 #[.slice A0 l0.length c0] w fun e w' => e = .returned (.string r) ∧ Below w.heap.size w w' := by
 have hu70 := Tryz.underlying70
 have HR0 := Aside0.mk hr0
 have HC0 := Aside0.mk hc0
 clear hr0 hc0
 have HB := Aside0.mk (Below.refl w.heap.size w)
 have H : ((spec_l1Cur_loci.f k l0 0 0).bind fun bt493 => ((spec_loGood.f k bt493.1).bind fun t498 => (if t498 = true then ((spec_loText.f k bt493.1).bind fun t499 => (spec_DrawParseLoci.j0 k t499 l0 bt493.2.1 bt493.2.2)) else (spec_DrawParseLoci.j0 k (⟨#[109, 97, 114, 121, 64, 45, 52, 48, 59, 106, 111, 104, 110, 64, 51, 48, 59]⟩ : ByteArray) l0 bt493.2.1 bt493.2.2)))) = some r := h
 clear h
 replace H := ob_ H; obtain ⟨⟨t493, t496, t497⟩, A2, H⟩ := H; try dsimp only at H
 replace H := ob_ H; obtain ⟨t498, A3, H⟩ := H; try dsimp only at H
 have HC4 := Aside0.mk H
 clear H
 go_enter Tryz.func40, Tryz.ntmps40
 go_upto_if 12 with (first | ((with_reducible refine gate_dst (N := 8) rfl ?_); refine bx_ 8 #[.slice A0 l0.length c0, .int .i64 0, .int .u64 0] 70 fun gb492 hg w5 hbox hb => ?_; have HI492 := aM_ ((show IsS70 w w5 gb492 l0 0 0 from ⟨A0, c0, hbox, (by rw [hg]; exact (below_size hB_) : w.heap.size ≤ gb492), HR0.out⟩)); replace HB := aM_ (below_step hB_ hb); clear hb hbox hg) | ((with_reducible refine gC_ 43 ?_); refine gM_ (some 10) Tryz.func43 #[.pointer (some ⟨gb492, 0, none⟩)] ?_; (with_reducible refine (spec_l1Cur_loci.calls k gb492 l0 0 0 t493 t496 t497 w _ ?side1 ?side2 A2.out).mono ?_); (case side1 => exact z15_6_); (case side2 => exact z15_7_); rintro e w6 ⟨v494, rfl, ho0, hi, hb, hk⟩; refine ⟨_, rfl, ?_⟩; have HO495 := aM_ (Kd.R_lower ho0 (below_size z15_7_)); replace HB := aM_ (hb); replace HI492 := aM_ (hi); (try clear hb); (try clear hk); (try clear hi); (try clear ho0); obtain ⟨Ao7, co7, eo7⟩ := Kd.R_slice HO495.out; subst eo7) | ((with_reducible refine gC_ 50 ?_); refine gM_ (some 12) Tryz.func50 #[.slice Ao7 t493.length co7] ?_; (with_reducible refine (spec_loGood.calls k _ _ t493 t498 _ ?side1 ?side2 A3.out).mono ?_); (case side1 => exact cR_ HO495); (case side2 => exact (Kd.R_reads' HO495.out).2.1); rintro e w8 ⟨rfl, hb⟩; refine ⟨_, rfl, ?_⟩; replace HO495 := aM_ (Kd.R_below (rR_ HO495) hb); replace HB := aM_ (below_step z15_7_ hb); replace HI492 := aM_ (IsS70.below z15_6_ hb); (try clear hb); (try clear hk); (try clear hi)))
 (try simp only [Act.put, List.setIfInBounds_toArray, List.set_cons_zero, List.set_cons_succ])
 go_cut [5] (fun v5 wc => ∃ (kq : Nat) (x5_3 : ByteArray), v5 = .string x5_3 ∧ Aside0 (spec_DrawParseLoci.j0 kq x5_3 l0 t496 t497 = some r) ∧ Aside0 (kq ≤ k) ∧ Aside0 (IsS70 w wc gb492 l0 t496 t497) ∧ Aside0 (Below w.heap.size w wc))
 case first =>
  have H := HC4.out
  clear HC4
  by_cases c9 : t498 = true
  rotate_left
  ·replace c9 := Bool.eq_false_iff.mpr c9
   subst c9
   replace H := in_ H (show ¬ (false = true) by decide)
   have H' := Aside0.mk H
   clear H
   go_wp2
   go_meet
   case rel => exact ⟨_, ((⟨#[109, 97, 114, 121, 64, 45, 52, 48, 59, 106, 111, 104, 110, 64, 51, 48, 59]⟩ : ByteArray)), z15_0_, H', ⟨oR_⟩, ⟨z15_6_⟩, ⟨z15_7_⟩⟩
  subst c9
  replace H := ip_ H rfl
  replace H := ob_ H; obtain ⟨t499, A10, H⟩ := H; try dsimp only at H
  have H' := Aside0.mk H
  clear H
  go_wp2_with (first | ((with_reducible refine gC_ 71 ?_); refine gM_ (some 14) Tryz.func71 #[.slice Ao7 t493.length co7] ?_; (with_reducible refine (spec_loText.calls k _ _ t493 t499 _ ?side1 ?side2 A10.out).mono ?_); (case side1 => exact cR_ HO495); (case side2 => exact (Kd.R_reads' HO495.out).2.1); rintro e w11 ⟨rfl, hb⟩; refine ⟨_, rfl, ?_⟩; replace HO495 := aM_ (Kd.R_below (rR_ HO495) hb); replace HB := aM_ (below_step z15_7_ hb); replace HI492 := aM_ (IsS70.below z15_6_ hb); (try clear hb)))
  go_meet
  case rel => exact ⟨_, (t499), z15_0_, H', ⟨oR_⟩, ⟨z15_6_⟩, ⟨z15_7_⟩⟩
 case rest =>
  clear HC4
  obtain ⟨kq, x5_3, rfl, HA, HJ3, HI492, HB⟩ := hcut
  cases kq with
  | zero => exact absurd HA.out (by simp [spec_DrawParseLoci.j0])
  | succ kj3 =>
   have H := HA.out
   clear HA
   simp only [spec_DrawParseLoci.j0] at H
   replace H := ob_ H; obtain ⟨⟨t500, t501, t502⟩, A12, H⟩ := H; try dsimp only at H
   have HC13 := Aside0.mk H
   clear H
   go_upto_if 17 with (first | ((with_reducible refine gC_ 59 ?_); refine gM_ (some 16) Tryz.func59 #[.pointer (some ⟨gb492, 0, none⟩), .int .i64 5] ?_; (with_reducible refine (spec_l1Cur_pick.calls gb492 l0 t496 t497 5 t500 t501 t502 w _ ?side1 ?side2 A12.out).mono ?_); (case side1 => exact z15_6_); (case side2 => exact z15_7_); rintro e w14 ⟨rfl, hi, hb, hk⟩; refine ⟨_, rfl, ?_⟩; replace HB := aM_ (hb); replace HI492 := aM_ (hi); (try clear hb); (try clear hk); (try clear hi)))
   (try simp only [Act.put, List.setIfInBounds_toArray, List.set_cons_zero, List.set_cons_succ])
   go_cut [17] (fun v17 wc => ∃ (kq : Nat) (x17_12 : Bool), v17 = .bool x17_12 ∧ Aside0 (spec_DrawParseLoci.j1 kq x5_3 t500 x17_12 l0 t501 t502 = some r) ∧ Aside0 (kq ≤ kj3) ∧ Aside0 (IsS70 w wc gb492 l0 t501 t502) ∧ Aside0 (Below w.heap.size w wc))
   case first =>
    have H := HC13.out
    clear HC13
    by_cases c15 : t500 = 0
    rotate_left
    ·rw [if_neg c15] at H
     have c15b0 : (t500 == 0) = false := beq_eq_false_iff_ne.mpr c15
     have c15b1 : (t500 != 0) = true := bne_iff_ne.mpr c15
     (first | rw [c15b0] | (simp only [i64_w, i32_w]; rw [c15b0]) | skip)
     have H' := Aside0.mk H
     clear H
     go_wp2
     go_meet
     case rel => exact ⟨_, ((t500 == 1)), z15_0_, H', ⟨by have := HJ3.out; first | omega | exact Nat.le_refl _⟩, ⟨z15_6_⟩, ⟨z15_7_⟩⟩
    rw [if_pos c15] at H
    have c15b0 : (t500 == 0) = true := beq_iff_eq.mpr c15
    have c15b1 : (t500 != 0) = false := bne_eq_false_iff_eq.mpr c15
    clear c15
    (first | rw [c15b0] | (simp only [i64_w, i32_w]; rw [c15b0]) | skip)
    have H' := Aside0.mk H
    clear H
    go_wp2
    go_meet
    case rel => exact ⟨_, ((t500 == 0)), z15_0_, H', ⟨by have := HJ3.out; first | omega | exact Nat.le_refl _⟩, ⟨z15_6_⟩, ⟨z15_7_⟩⟩
   case rest =>
    clear HC13
    obtain ⟨kq, x17_12, rfl, HA, HJ12, HI492, HB⟩ := hcut
    cases kq with
    | zero => exact absurd HA.out (by simp [spec_DrawParseLoci.j1])
    | succ kj12 =>
     have H := HA.out
     clear HA
     simp only [spec_DrawParseLoci.j1] at H
     by_cases c16 : x17_12 = true
     ·subst c16
      replace H := ip_ H rfl
      replace H := ob_ H; obtain ⟨⟨t503, t504, t505⟩, A17, H⟩ := H; try dsimp only at H
      obtain rfl := Option.some.inj H
      go_wp2_with (first | ((with_reducible refine gC_ 60 ?_); refine gM_ (some 22) Tryz.func60 #[.pointer (some ⟨gb492, 0, none⟩), .string x5_3, .string (⟨#[64, 59, 45, 48, 49, 97]⟩ : ByteArray)] ?_; (with_reducible refine (spec_l1Cur_spoilt.calls kj12 gb492 l0 t501 t502 x5_3 (⟨#[64, 59, 45, 48, 49, 97]⟩ : ByteArray) t503 t504 t505 w _ ?side1 ?side2 A17.out).mono ?_); (case side1 => exact z15_6_); (case side2 => exact z15_7_); rintro e w18 ⟨rfl, hi, hb, hk⟩; refine ⟨_, rfl, ?_⟩; replace HB := aM_ (hb); replace HI492 := aM_ (hi); (try clear hb); (try clear hk); (try clear hi)))
      go_ret
      exact ⟨rT_, z15_7_⟩
     replace c16 := Bool.eq_false_iff.mpr c16
     subst c16
     replace H := in_ H (show ¬ (false = true) by decide)
     by_cases c19 : t500 = 2
     rotate_left
     ·rw [if_neg c19] at H
      have c19b0 : (t500 == 2) = false := beq_eq_false_iff_ne.mpr c19
      have c19b1 : (t500 != 2) = true := bne_iff_ne.mpr c19
      obtain rfl := Option.some.inj H
      go_wp2
      go_ret
      exact ⟨rT_, z15_7_⟩
     rw [if_pos c19] at H
     have c19b0 : (t500 == 2) = true := beq_iff_eq.mpr c19
     have c19b1 : (t500 != 2) = false := bne_eq_false_iff_eq.mpr c19
     clear c19
     obtain ⟨y506, hy506⟩ : ∃ y_ : List ByteArray, y_ = (([(⟨#[]⟩ : ByteArray), (⟨#[59]⟩ : ByteArray), (⟨#[109, 97, 114, 121, 64, 45, 52, 48]⟩ : ByteArray), (⟨#[109, 97, 114, 121, 64, 57, 49, 59]⟩ : ByteArray), (⟨#[109, 97, 114, 121, 64, 45, 48, 59]⟩ : ByteArray), (⟨#[106, 111, 104, 110, 64, 51, 48, 59, 109, 97, 114, 121, 64, 45, 52, 48, 59]⟩ : ByteArray), (⟨#[109, 97, 114, 121, 64, 49, 59, 109, 97, 114, 121, 64, 50, 59]⟩ : ByteArray), (⟨#[109, 97, 114, 121, 64, 48, 49, 59]⟩ : ByteArray)] : List ByteArray)) := ⟨_, rfl⟩
     rw [← hy506] at H
     have Ny506 := Aside0.mk hy506; clear hy506
     replace H := ob_ H; obtain ⟨⟨t509, t510, t511⟩, A20, H⟩ := H; try dsimp only at H
     obtain rfl := Option.some.inj H
     go_wp2_with (first | ((with_reducible refine gate_dst (N := 26) rfl ?_); refine rl_ Kd.string 9 26 ([(⟨#[]⟩ : ByteArray), (⟨#[59]⟩ : ByteArray), (⟨#[109, 97, 114, 121, 64, 45, 52, 48]⟩ : ByteArray), (⟨#[109, 97, 114, 121, 64, 57, 49, 59]⟩ : ByteArray), (⟨#[109, 97, 114, 121, 64, 45, 48, 59]⟩ : ByteArray), (⟨#[106, 111, 104, 110, 64, 51, 48, 59, 109, 97, 114, 121, 64, 45, 52, 48, 59]⟩ : ByteArray), (⟨#[109, 97, 114, 121, 64, 49, 59, 109, 97, 114, 121, 64, 50, 59]⟩ : ByteArray), (⟨#[109, 97, 114, 121, 64, 48, 49, 59]⟩ : ByteArray)] : List ByteArray) [.string (⟨#[]⟩ : ByteArray), .string (⟨#[59]⟩ : ByteArray), .string (⟨#[109, 97, 114, 121, 64, 45, 52, 48]⟩ : ByteArray), .string (⟨#[109, 97, 114, 121, 64, 57, 49, 59]⟩ : ByteArray), .string (⟨#[109, 97, 114, 121, 64, 45, 48, 59]⟩ : ByteArray), .string (⟨#[106, 111, 104, 110, 64, 51, 48, 59, 109, 97, 114, 121, 64, 45, 52, 48, 59]⟩ : ByteArray), .string (⟨#[109, 97, 114, 121, 64, 49, 59, 109, 97, 114, 121, 64, 50, 59]⟩ : ByteArray), .string (⟨#[109, 97, 114, 121, 64, 48, 49, 59]⟩ : ByteArray)] (Reps.one (show Kd.M Kd.string _ _ _ (⟨#[]⟩ : ByteArray) [.string (⟨#[]⟩ : ByteArray)] from rfl) (Reps.one (show Kd.M Kd.string _ _ _ (⟨#[59]⟩ : ByteArray) [.string (⟨#[59]⟩ : ByteArray)] from rfl) (Reps.one (show Kd.M Kd.string _ _ _ (⟨#[109, 97, 114, 121, 64, 45, 52, 48]⟩ : ByteArray) [.string (⟨#[109, 97, 114, 121, 64, 45, 52, 48]⟩ : ByteArray)] from rfl) (Reps.one (show Kd.M Kd.string _ _ _ (⟨#[109, 97, 114, 121, 64, 57, 49, 59]⟩ : ByteArray) [.string (⟨#[109, 97, 114, 121, 64, 57, 49, 59]⟩ : ByteArray)] from rfl) (Reps.one (show Kd.M Kd.string _ _ _ (⟨#[109, 97, 114, 121, 64, 45, 48, 59]⟩ : ByteArray) [.string (⟨#[109, 97, 114, 121, 64, 45, 48, 59]⟩ : ByteArray)] from rfl) (Reps.one (show Kd.M Kd.string _ _ _ (⟨#[106, 111, 104, 110, 64, 51, 48, 59, 109, 97, 114, 121, 64, 45, 52, 48, 59]⟩ : ByteArray) [.string (⟨#[106, 111, 104, 110, 64, 51, 48, 59, 109, 97, 114, 121, 64, 45, 52, 48, 59]⟩ : ByteArray)] from rfl) (Reps.one (show Kd.M Kd.string _ _ _ (⟨#[109, 97, 114, 121, 64, 49, 59, 109, 97, 114, 121, 64, 50, 59]⟩ : ByteArray) [.string (⟨#[109, 97, 114, 121, 64, 49, 59, 109, 97, 114, 121, 64, 50, 59]⟩ : ByteArray)] from rfl) (Reps.one (show Kd.M Kd.string _ _ _ (⟨#[109, 97, 114, 121, 64, 48, 49, 59]⟩ : ByteArray) [.string (⟨#[109, 97, 114, 121, 64, 48, 49, 59]⟩ : ByteArray)] from rfl) (Reps.none _ _))))))))) ?_; intro v507 w21 ho22 hb hg_ hnew_; clear hg_ hnew_; (first | rw [← Ny506.out] at ho22 | (simp only [Int.reduceToNat] at ho22; rw [← Ny506.out] at ho22)); have HO508 := aM_ (Kd.R_lower ho22 (below_size z15_7_)); replace HB := aM_ (below_step z15_7_ hb); replace HI492 := aM_ (IsS70.below z15_6_ hb); clear hb ho22; obtain ⟨Ao23, co23, eo23⟩ := Kd.R_slice HO508.out; subst eo23) | ((with_reducible refine gC_ 44 ?_); refine gM_ (some 27) Tryz.func44 #[.pointer (some ⟨gb492, 0, none⟩), .slice Ao23 y506.length co23] ?_; (with_reducible refine (spec_l1Cur_of.calls gb492 l0 t501 t502 _ _ y506 t509 t510 t511 w _ ?side1 ?side2 ?side3 ?side4 ?side5 A20.out).mono ?_); (case side1 => exact z15_6_); (case side2 => exact z15_7_); (case side3 => exact cR_ HO508); (case side4 => exact (Kd.R_reads' HO508.out).2.1); (case side5 => exact far_slice (IsS70.own_ne HI492.out HO508.out (by decide))); rintro e w24 ⟨rfl, hi, hb, hk⟩; refine ⟨_, rfl, ?_⟩; replace HO508 := aM_ (Kd.R_mono (Kd.R_keep (IsS70.apart (show IsS70 w _ gb492 l0 t501 t502 from by repeat (first | (with_reducible first | exact HI492.out | apply IsS70.alloc | apply IsS70.drewN | apply IsS70.drew | apply IsS70.set_1 | apply IsS70.set_2) | exact HI492.out)) (rR_ HO508) (by decide)) hk (fun _ h => h.2)) (fun _ h => h.1)); replace HB := aM_ (hb); replace HI492 := aM_ (hi); (try clear hb); (try clear hk); (try clear hi)))
     go_ret
     exact ⟨rT_, z15_7_⟩

end Go.Proofs.YtfkdlfbjkdkffaaGreatDoor.PFnPoints
