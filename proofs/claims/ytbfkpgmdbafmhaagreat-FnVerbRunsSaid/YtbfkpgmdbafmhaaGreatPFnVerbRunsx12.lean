/- Printed for this claim: functions of the program as Lean functions, and that the calls answer so. -/
import Derived.Test.YtbfkpgmdbafmhaaGreatPFnVerbRunsx0
import Derived.Test.YtbfkpgmdbafmhaaGreatPFnVerbRunsx2
import Derived.Test.YtbfkpgmdbafmhaaGreatPFnVerbRunsx6
import Derived.Test.YtbfkpgmdbafmhaaGreatPFnVerbRunsx8
import Derived.Test.YtbfkpgmdbafmhaaGreatPFnVerbRunsx11
import Derived.Test.YtbfkpgmdbafmhaaGreatPFnVerbRunsxD0
import Derived.Test.YtbfkpgmdbafmhaaGreatPFnVerbRunsxD1
namespace Go.Proofs.YtbfkpgmdbafmhaaGreat.PFnVerbRuns
open Go.RowKit Go.Proofs.YtbfkpgmdbafmhaaGreatW.PrintWords Go.Proofs.YtbfkpgmdbafmhaaGreatW.PrintLast Go.Proofs.YtbfkpgmdbafmhaaGreatW.PrintMore
theorem z12_0_ {p : Prop} (h : p := by first | rfl | (simp; done) | (simp [*]; done)) : p := h
theorem z12_1_ {p : Prop} (h : p := by have := HK1.out; omega) : p := h
theorem z12_2_ {p : Prop} (h : p := by repeat (first | exact (Kd.C_below HR0.out HB.out) | (with_reducible first | apply cA_ | apply cN_ | apply cD_))) : p := h
theorem z12_3_ {p : Prop} (h : p := by first | exact Kd.R_nil _ _ _ _ _ | exact Kd.N_nil _ _ _ _ _ | exact Kd.V_nil _ _ _ _ _ | exact Kd.Q_nil _ _ _ _ _ | exact Kd.S_nil _ _ _ _ _) : p := h
theorem z12_4_ {p : Prop} (h : p := by repeat (first | (with_reducible first | exact HI479.out | apply IsS60.alloc | apply IsS60.drewN | apply IsS60.drew | apply IsS60.set_1 | apply IsS60.set_2) | exact HI479.out)) : p := h
theorem z12_5_ {p : Prop} (h : p := by repeat (first | (with_reducible first | exact HB.out | apply lA_ | apply lN_ | apply lD_ | refine below_set ?_ (IsS60.ge HI479.out)) | exact HB.out)) : p := h
theorem z12_6_ {p : Prop} (h : p := by repeat (first | (with_reducible first | exact HB.out | apply lA_ | apply lN_ | apply lD_) | exact HB.out)) : p := h
set_option maxHeartbeats 8000000
set_option maxRecDepth 100000
attribute [local go_sem] max2_int min2_int max_two min_two max_three min_three max_four min_four isSome_setCell   -- for this text's walks alone
set_option linter.unusedVariables false
set_option linter.unusedSimpArgs false

theorem FaK.calls (k : Nat) (A0 : Option Addr) (c0 : Nat) (l0 : List S74) (a1 r1 r2 : Int) (w : World) (hr0 : Kd.C k74 w A0 l0.length l0) (hc0 : l0.length ≤ c0) (h : FaK.f k l0 a1 = some (r1, r2)) :
 Calls Tryz.prog 83 #[.slice A0 l0.length c0, .int .i64 a1] w fun e w' => e = .returned (.tuple #[.int .i64 r1, .int .i64 r2]) ∧ Below w.heap.size w w' := by
 have hu74 := Tryz.underlying74
 have HR0 := aM_ hr0
 have HC0 := aM_ hc0
 clear hr0 hc0
 have HB := aM_ (Below.refl w.heap.size w)
 have H : (FaK.l0 k a1 181 0 l0 (l0.length : Int) 0) = some (r1, r2) := h
 clear h
 have H' := aM_ H
 clear H
 go_enter Tryz.func83, Tryz.ntmps83
 go_wp2
 go_loopg [6, 7, 13] k (fun kq v6 v7 v13 w' => ∃ (x6_1 x7_1 x13_1 : Int), v6 = .int .i64 x6_1 ∧ v7 = .int .i64 x7_1 ∧ v13 = .int .i64 x13_1 ∧ Aside0 (FaK.l0 kq a1 x6_1 x7_1 l0 (l0.length : Int) x13_1 = some (r1, r2)) ∧ Aside0 (kq ≤ k) ∧ Aside0 (Below w.heap.size w w'))
 case atStart => exact ⟨(181), (0), (0), z12_0_, z12_0_, z12_0_, H', ⟨Nat.le_refl _⟩, ⟨hB_⟩⟩
 case round =>
  clear H'
  obtain ⟨x6_1, x7_1, x13_1, rfl, rfl, rfl, HA, HK1, HB⟩ := hrel
  cases gk with
  | zero => exact absurd HA.out (by simp [FaK.l0])
  | succ k1 =>
   have H := HA.out
   clear HA
   simp only [FaK.l0] at H
   replace H := iF_ H; obtain ⟨c3b0, H⟩ | ⟨c3b0, H⟩ := H
   ·simp only [Option.some.injEq, Prod.mk.injEq] at H
    obtain ⟨rfl, rfl⟩ := H
    go_wp2
    go_ret2
    exact ⟨rT_, hB_⟩
   replace H := ig_ H; obtain ⟨c4b0, H⟩ := H
   replace H := ig_ H; obtain ⟨c5b0, H⟩ := H
   replace H := ob_ H; obtain ⟨t456, A6, H⟩ := H; try dsimp only at H
   have HC7 := aM_ H
   clear H
   obtain ⟨⟨ad454, e454, hx454_0, hx454_1⟩, p454, q454⟩ := at2_ (at_T74 HR0.out x13_1); cases e454
   try replace hx454_0 := hc_ HB hx454_0; try replace hx454_1 := hc_ HB hx454_1
   go_upto_if 22 with (first | ((with_reducible refine gD_ 9 ?_); refine bx_ 9 #[.string (⟨#[]⟩ : ByteArray), .int .i64 0] 74 fun gb455 hg w8 hbox hb => ?_; have BK455 := aM_ (hbox); have GW455 := gW_ w hg; have GE455 := gW_ w hg; replace HB := bS_ hb; clear hb hbox hg; have hz9 := cf2_ BK455.out) | ((with_reducible refine gC_ 42 ?_); refine gM_ (some 21) Tryz.func42 #[.int .i64 (wrap64 (((rd_T74 l0 x13_1).f1) - a1))] ?_; (with_reducible refine (Fbe.calls (wrap64 (((rd_T74 l0 x13_1).f1) - a1)) t456 _ A6.out).mono ?_); rintro e w' ⟨rfl, ⟨nd, rfl⟩⟩; refine ⟨_, rfl, ?_⟩))
   (try simp only [Act.put, List.setIfInBounds_toArray, List.set_cons_zero, List.set_cons_succ])
   have H := HC7.out
   clear HC7
   replace H := iT_ H; obtain ⟨c10b0, H⟩ | ⟨c10b0, H⟩ := H
   ·(first | rw [c10b0] | (simp only [i64_w, i32_w]; rw [c10b0]) | skip)
    have H' := aM_ H
    clear H
    go_wp2
    go_roundg k1
    case measure => have := HK1.out; omega
    case rel => exact ⟨(t456), (1), (wrap64 (x13_1 + 1)), z12_0_, z12_0_, z12_0_, H', ⟨z12_1_⟩, ⟨hB_⟩⟩
   (first | rw [c10b0] | (simp only [i64_w, i32_w]; rw [c10b0]) | skip)
   by_cases c11 : t456 = x6_1
   rotate_left
   ·rw [if_neg c11] at H
    have c11b0 : (t456 == x6_1) = false := beq_eq_false_iff_ne.mpr c11
    have c11b1 : (t456 != x6_1) = true := bne_iff_ne.mpr c11
    have H' := aM_ H
    clear H
    go_wp2
    go_roundg k1
    case measure => have := HK1.out; omega
    case rel => exact ⟨(x6_1), (x7_1), (wrap64 (x13_1 + 1)), z12_0_, z12_0_, z12_0_, H', ⟨z12_1_⟩, ⟨hB_⟩⟩
   rw [if_pos c11] at H
   have c11b0 : (t456 == x6_1) = true := beq_iff_eq.mpr c11
   have c11b1 : (t456 != x6_1) = false := bne_eq_false_iff_eq.mpr c11
   clear c11
   have H' := aM_ H
   clear H
   go_wp2
   go_roundg k1
   case measure => have := HK1.out; omega
   case rel => exact ⟨(x6_1), (wrap64 (x7_1 + 1)), (wrap64 (x13_1 + 1)), z12_0_, z12_0_, z12_0_, H', ⟨z12_1_⟩, ⟨hB_⟩⟩

theorem Fav.calls (k : Nat) (A0 : Option Addr) (c0 : Nat) (l0 : List S74) (a1 : Int) (r1 : ByteArray) (r2 : Bool) (w : World) (hr0 : Kd.C k74 w A0 l0.length l0) (hc0 : l0.length ≤ c0) (h : Fav.f k l0 a1 = some (r1, r2)) :
 Calls Tryz.prog 60 #[.slice A0 l0.length c0, .int .i64 a1] w fun e w' => e = .returned (.tuple #[.string r1, .bool r2]) ∧ Below w.heap.size w w' := by
 have hu74 := Tryz.underlying74
 have HR0 := aM_ hr0
 have HC0 := aM_ hc0
 clear hr0 hc0
 have HB := aM_ (Below.refl w.heap.size w)
 have H : ((FaK.f k l0 a1).bind fun bt457 => (if bt457.1 > 20 then (Fav.j0 k l0 a1 bt457.1 true) else (Fav.j0 k l0 a1 bt457.1 (bt457.2 != 1)))) = some (r1, r2) := h
 clear h
 replace H := ob_ H; obtain ⟨⟨t457, t458⟩, A3, H⟩ := H; try dsimp only at H
 have HC4 := aM_ H
 clear H
 go_enter Tryz.func60, Tryz.ntmps60
 go_upto_region 2 with (first | ((with_reducible refine gC_ 83 ?_); refine gM_ (some 13) Tryz.func83 #[.slice A0 l0.length c0, .int .i64 a1] ?_; (with_reducible refine (FaK.calls k _ _ l0 a1 t457 t458 _ ?_ ?_ A3.out).mono ?_); exact cC_ HR0; exact HC0.out; rintro e w5 ⟨rfl, hb⟩; refine ⟨_, rfl, ?_⟩; replace HB := bS_ hb; (try clear hb)))
 (try simp only [Act.put, List.setIfInBounds_toArray, List.set_cons_zero, List.set_cons_succ])
 go_cut [21] (fun v21 wc => ∃ (kq : Nat) (x21_3 : Bool), v21 = .bool x21_3 ∧ Aside0 (Fav.j0 kq l0 a1 t457 x21_3 = some (r1, r2)) ∧ Aside0 (kq ≤ k) ∧ Aside0 (Below w.heap.size w wc))
 case first =>
  have H := HC4.out
  clear HC4
  by_cases c6 : t457 > 20
  ·rw [if_pos c6] at H
   have c6b0 : decide (20 < t457) = true := decide_eq_true c6
   clear c6
   (first | rw [c6b0] | (simp only [i64_w, i32_w]; rw [c6b0]) | skip)
   have H' := aM_ H
   clear H
   go_wp2
   go_meet
   case rel => exact ⟨_, (true), z12_0_, H', ⟨oR_⟩, ⟨hB_⟩⟩
  rw [if_neg c6] at H
  have c6b0 : decide (20 < t457) = false := decide_eq_false c6
  clear c6
  (first | rw [c6b0] | (simp only [i64_w, i32_w]; rw [c6b0]) | skip)
  have H' := aM_ H
  clear H
  go_wp2
  go_meet
  case rel => exact ⟨_, ((t458 != 1)), z12_0_, H', ⟨oR_⟩, ⟨hB_⟩⟩
 case rest =>
  clear HC4
  obtain ⟨kq, x21_3, rfl, HA, HJ3, HB⟩ := hcut
  cases kq with
  | zero => exact absurd HA.out (by simp [Fav.j0])
  | succ kj3 =>
   have H := HA.out
   clear HA
   simp only [Fav.j0] at H
   by_cases c7 : x21_3 = true
   ·subst c7
    replace H := ip_ H rfl
    simp only [Option.some.injEq, Prod.mk.injEq] at H
    obtain ⟨rfl, rfl⟩ := H
    go_wp2
    go_ret2
    exact ⟨rT_, hB_⟩
   replace c7 := Bool.eq_false_iff.mpr c7
   subst c7
   replace H := in_ H (show ¬ (false = true) by decide)
   have H' := aM_ H
   clear H
   go_wp2
   go_loopg [24] kj3 (fun kq v24 w' => ∃ (x24_2 : Int), v24 = .int .i64 x24_2 ∧ Aside0 (Fav.l0 kq a1 t457 l0 (l0.length : Int) x24_2 = some (r1, r2)) ∧ Aside0 (kq ≤ kj3) ∧ Aside0 (Below w.heap.size w w'))
   case atStart => exact ⟨(0), z12_0_, H', ⟨Nat.le_refl _⟩, ⟨hB_⟩⟩
   case round =>
    clear H'
    (try clear c7)
    obtain ⟨x24_2, rfl, HA, HK2, HB⟩ := hrel
    cases gk with
    | zero => exact absurd HA.out (by simp [Fav.l0])
    | succ k2 =>
     have H := HA.out
     clear HA
     simp only [Fav.l0] at H
     replace H := iF_ H; obtain ⟨c8b0, H⟩ | ⟨c8b0, H⟩ := H
     ·simp only [Option.some.injEq, Prod.mk.injEq] at H
      obtain ⟨rfl, rfl⟩ := H
      go_wp2
      go_ret2
      exact ⟨rT_, hB_⟩
     replace H := ig_ H; obtain ⟨c9b0, H⟩ := H
     replace H := ig_ H; obtain ⟨c10b0, H⟩ := H
     replace H := ob_ H; obtain ⟨t461, A11, H⟩ := H; try dsimp only at H
     have HC12 := aM_ H
     clear H
     obtain ⟨⟨ad459, e459, hx459_0, hx459_1⟩, p459, q459⟩ := at2_ (at_T74 HR0.out x24_2); cases e459
     try replace hx459_0 := hc_ HB hx459_0; try replace hx459_1 := hc_ HB hx459_1
     go_upto_if 34 with (first | ((with_reducible refine gD_ 9 ?_); refine bx_ 9 #[.string (⟨#[]⟩ : ByteArray), .int .i64 0] 74 fun gb460 hg w13 hbox hb => ?_; have BK460 := aM_ (hbox); have GW460 := gW_ w hg; have GE460 := gW_ w hg; replace HB := bS_ hb; clear hb hbox hg; have hz14 := cf2_ BK460.out) | ((with_reducible refine gC_ 42 ?_); refine gM_ (some 32) Tryz.func42 #[.int .i64 (wrap64 (((rd_T74 l0 x24_2).f1) - a1))] ?_; (with_reducible refine (Fbe.calls (wrap64 (((rd_T74 l0 x24_2).f1) - a1)) t461 _ A11.out).mono ?_); rintro e w' ⟨rfl, ⟨nd, rfl⟩⟩; refine ⟨_, rfl, ?_⟩))
     (try simp only [Act.put, List.setIfInBounds_toArray, List.set_cons_zero, List.set_cons_succ])
     have H := HC12.out
     clear HC12
     by_cases c15 : t461 = t457
     ·rw [if_pos c15] at H
      have c15b0 : (t461 == t457) = true := beq_iff_eq.mpr c15
      have c15b1 : (t461 != t457) = false := bne_eq_false_iff_eq.mpr c15
      clear c15
      (first | rw [c15b0] | (simp only [i64_w, i32_w]; rw [c15b0]) | skip)
      simp only [Option.some.injEq, Prod.mk.injEq] at H
      obtain ⟨rfl, rfl⟩ := H
      have hz16 := cf2_ BK460.out
      go_wp2
      go_ret2
      exact ⟨rT_, hB_⟩
     rw [if_neg c15] at H
     have c15b0 : (t461 == t457) = false := beq_eq_false_iff_ne.mpr c15
     have c15b1 : (t461 != t457) = true := bne_iff_ne.mpr c15
     (first | rw [c15b0] | (simp only [i64_w, i32_w]; rw [c15b0]) | skip)
     have H' := aM_ H
     clear H
     go_wp2
     go_roundg k2
     case measure => have := HJ3.out; have := HK2.out; omega
     case rel => exact ⟨(wrap64 (x24_2 + 1)), z12_0_, H', ⟨by have := HJ3.out; have := HK2.out; omega⟩, ⟨hB_⟩⟩

theorem FaV.calls (k : Nat) (A0 : Option Addr) (c0 : Nat) (l0 : List S74) (a1_0 : ByteArray) (a1_1 a1_2 : Int) (r1 r2 : ByteArray) (r3 : Bool) (w : World) (hr0 : Kd.C k74 w A0 l0.length l0) (hc0 : l0.length ≤ c0) (h : FaV.f k l0 a1_0 a1_1 a1_2 = some (r1, r2, r3)) :
 Calls Tryz.prog 32 #[.slice A0 l0.length c0, .agg #[.string a1_0, .int .i64 a1_1, .int .i64 a1_2]] w fun e w' => e = .returned (.tuple #[.string r1, .string r2, .bool r3]) ∧ Below w.heap.size w w' := by
 have hu40 := Tryz.underlying40
 have HR0 := aM_ hr0
 have HC0 := aM_ hc0
 clear hr0 hc0
 have HB := aM_ (Below.refl w.heap.size w)
 have H : ((Fav.f k l0 a1_1).bind fun bt463 => ((Fav.f k l0 a1_2).bind fun bt465 => (if bt463.2 = true then (if bt465.2 = true then (if bt463.1.toList = bt465.1.toList then (some ((⟨#[]⟩ : ByteArray), (⟨#[]⟩ : ByteArray), false)) else (some (bt463.1, bt465.1, true))) else (some ((⟨#[]⟩ : ByteArray), (⟨#[]⟩ : ByteArray), false))) else (some ((⟨#[]⟩ : ByteArray), (⟨#[]⟩ : ByteArray), false))))) = some (r1, r2, r3) := h
 clear h
 replace H := ob_ H; obtain ⟨⟨t463, t464⟩, A3, H⟩ := H; try dsimp only at H
 replace H := ob_ H; obtain ⟨⟨t465, t466⟩, A4, H⟩ := H; try dsimp only at H
 by_cases c5 : t464 = true
 rotate_left
 ·replace c5 := Bool.eq_false_iff.mpr c5
  subst c5
  replace H := in_ H (show ¬ (false = true) by decide)
  simp only [Option.some.injEq, Prod.mk.injEq] at H
  obtain ⟨rfl, rfl, rfl⟩ := H
  go_enter Tryz.func32, Tryz.ntmps32
  go_wp2_with (first | ((with_reducible refine gD_ 3 ?_); refine bx_ 3 #[.string a1_0, .int .i64 a1_1, .int .i64 a1_2] 40 fun gb462 hg w19 hbox hb => ?_; have BK462 := aM_ (hbox); have GW462 := gW_ w hg; have GE462 := gW_ w hg; replace HB := bS_ hb; clear hb hbox hg; have hz20 := cf3_ BK462.out) | ((with_reducible refine gC_ 60 ?_); refine gM_ (some 15) Tryz.func60 #[.slice A0 l0.length c0, .int .i64 a1_1] ?_; (with_reducible refine (Fav.calls k _ _ l0 a1_1 t463 false _ ?_ ?_ A3.out).mono ?_); exact z12_2_; exact HC0.out; rintro e w21 ⟨rfl, hb⟩; refine ⟨_, rfl, ?_⟩; replace BK462 := kB_ BK462 hb; replace HB := bS_ hb; (try clear hb); have hz22 := cf3_ BK462.out; clear BK462) | ((with_reducible refine gC_ 60 ?_); refine gM_ (some 22) Tryz.func60 #[.slice A0 l0.length c0, .int .i64 a1_2] ?_; (with_reducible refine (Fav.calls k _ _ l0 a1_2 t465 t466 _ ?_ ?_ A4.out).mono ?_); exact z12_2_; exact HC0.out; rintro e w23 ⟨rfl, hb⟩; refine ⟨_, rfl, ?_⟩; replace HB := bS_ hb; (try clear hb)))
  go_ret3
  exact ⟨rT_, hB_⟩
 subst c5
 replace H := ip_ H rfl
 by_cases c6 : t466 = true
 rotate_left
 ·replace c6 := Bool.eq_false_iff.mpr c6
  subst c6
  replace H := in_ H (show ¬ (false = true) by decide)
  simp only [Option.some.injEq, Prod.mk.injEq] at H
  obtain ⟨rfl, rfl, rfl⟩ := H
  go_enter Tryz.func32, Tryz.ntmps32
  go_wp2_with (first | ((with_reducible refine gD_ 3 ?_); refine bx_ 3 #[.string a1_0, .int .i64 a1_1, .int .i64 a1_2] 40 fun gb462 hg w14 hbox hb => ?_; have BK462 := aM_ (hbox); have GW462 := gW_ w hg; have GE462 := gW_ w hg; replace HB := bS_ hb; clear hb hbox hg; have hz15 := cf3_ BK462.out) | ((with_reducible refine gC_ 60 ?_); refine gM_ (some 15) Tryz.func60 #[.slice A0 l0.length c0, .int .i64 a1_1] ?_; (with_reducible refine (Fav.calls k _ _ l0 a1_1 t463 true _ ?_ ?_ A3.out).mono ?_); exact z12_2_; exact HC0.out; rintro e w16 ⟨rfl, hb⟩; refine ⟨_, rfl, ?_⟩; replace BK462 := kB_ BK462 hb; replace HB := bS_ hb; (try clear hb); have hz17 := cf3_ BK462.out; clear BK462) | ((with_reducible refine gC_ 60 ?_); refine gM_ (some 22) Tryz.func60 #[.slice A0 l0.length c0, .int .i64 a1_2] ?_; (with_reducible refine (Fav.calls k _ _ l0 a1_2 t465 false _ ?_ ?_ A4.out).mono ?_); exact z12_2_; exact HC0.out; rintro e w18 ⟨rfl, hb⟩; refine ⟨_, rfl, ?_⟩; replace HB := bS_ hb; (try clear hb)))
  go_ret3
  exact ⟨rT_, hB_⟩
 subst c6
 replace H := ip_ H rfl
 have HC7 := aM_ H
 clear H
 go_enter Tryz.func32, Tryz.ntmps32
 go_upto_if 35 with (first | ((with_reducible refine gD_ 3 ?_); refine bx_ 3 #[.string a1_0, .int .i64 a1_1, .int .i64 a1_2] 40 fun gb462 hg w8 hbox hb => ?_; have BK462 := aM_ (hbox); have GW462 := gW_ w hg; have GE462 := gW_ w hg; replace HB := bS_ hb; clear hb hbox hg; have hz9 := cf3_ BK462.out) | ((with_reducible refine gC_ 60 ?_); refine gM_ (some 15) Tryz.func60 #[.slice A0 l0.length c0, .int .i64 a1_1] ?_; (with_reducible refine (Fav.calls k _ _ l0 a1_1 t463 true _ ?_ ?_ A3.out).mono ?_); exact z12_2_; exact HC0.out; rintro e w10 ⟨rfl, hb⟩; refine ⟨_, rfl, ?_⟩; replace BK462 := kB_ BK462 hb; replace HB := bS_ hb; (try clear hb); have hz11 := cf3_ BK462.out; clear BK462) | ((with_reducible refine gC_ 60 ?_); refine gM_ (some 22) Tryz.func60 #[.slice A0 l0.length c0, .int .i64 a1_2] ?_; (with_reducible refine (Fav.calls k _ _ l0 a1_2 t465 true _ ?_ ?_ A4.out).mono ?_); exact z12_2_; exact HC0.out; rintro e w12 ⟨rfl, hb⟩; refine ⟨_, rfl, ?_⟩; replace HB := bS_ hb; (try clear hb)))
 (try simp only [Act.put, List.setIfInBounds_toArray, List.set_cons_zero, List.set_cons_succ])
 have H := HC7.out
 clear HC7
 by_cases c13 : t463.toList = t465.toList
 rotate_left
 ·rw [if_neg c13] at H
  have c13b0 : (t463.toList == t465.toList) = false := beq_eq_false_iff_ne.mpr c13
  have c13b1 : (t463.toList != t465.toList) = true := bne_iff_ne.mpr c13
  (first | rw [c13b0] | (simp only [i64_w, i32_w]; rw [c13b0]) | skip)
  simp only [Option.some.injEq, Prod.mk.injEq] at H
  obtain ⟨rfl, rfl, rfl⟩ := H
  go_wp2
  go_ret3
  exact ⟨rT_, hB_⟩
 rw [if_pos c13] at H
 have c13b0 : (t463.toList == t465.toList) = true := beq_iff_eq.mpr c13
 have c13b1 : (t463.toList != t465.toList) = false := bne_eq_false_iff_eq.mpr c13
 clear c13
 (first | rw [c13b0] | (simp only [i64_w, i32_w]; rw [c13b0]) | skip)
 simp only [Option.some.injEq, Prod.mk.injEq] at H
 obtain ⟨rfl, rfl, rfl⟩ := H
 go_wp2
 go_ret3
 exact ⟨rT_, hB_⟩

theorem FaG.calls (k : Nat) (A0 : Option Addr) (c0 : Nat) (l0 : List S74) (A1 : Option Addr) (c1 : Nat) (l1 : List S40) (r1 : List ByteArray) (r2 : List Int) (r3 : Bool) (w : World) (hr0 : Kd.C k74 w A0 l0.length l0) (hc0 : l0.length ≤ c0) (hr1 : Kd.C k40 w A1 l1.length l1) (hc1 : l1.length ≤ c1) (h : FaG.f k l0 l1 = some (r1, r2, r3)) :
 Calls Tryz.prog 6 #[.slice A0 l0.length c0, .slice A1 l1.length c1] w fun e w' => ∃ v0_ v1_ : Value, e = .returned (.tuple #[v0_, v1_, .bool r3]) ∧ Kd.R Kd.string 9 w' w.heap.size (fun _ => True) v0_ r1 ∧ Kd.R (Kd.int .i64) 3 w' w.heap.size (fun _ => True) v1_ r2 ∧ Below w.heap.size w w' := by
 have hu40 := Tryz.underlying40
 have HR0 := aM_ hr0
 have HC0 := aM_ hc0
 clear hr0 hc0
 have HR1 := aM_ hr1
 have HC1 := aM_ hc1
 clear hr1 hc1
 have HB := aM_ (Below.refl w.heap.size w)
 have H : ((FaE.f k l0 l1).bind fun t467 => (if t467 = true then (FaG.l0 k l0 ([] : List ByteArray) ([] : List Int) l1 (l1.length : Int) 0) else (some (([] : List ByteArray), ([] : List Int), false)))) = some (r1, r2, r3) := h
 clear h
 replace H := ob_ H; obtain ⟨t467, A3, H⟩ := H; try dsimp only at H
 have HC4 := aM_ H
 clear H
 go_enter Tryz.func6, Tryz.ntmps6
 go_upto_if 17 with (first | ((with_reducible refine gC_ 31 ?_); refine gM_ (some 16) Tryz.func31 #[.slice A0 l0.length c0, .slice A1 l1.length c1] ?_; (with_reducible refine (FaE.calls k _ _ l0 _ _ l1 t467 _ ?_ ?_ ?_ ?_ A3.out).mono ?_); exact cC_ HR0; exact HC0.out; exact cC_ HR1; exact HC1.out; rintro e w5 ⟨rfl, hb⟩; refine ⟨_, rfl, ?_⟩; replace HB := bS_ hb; (try clear hb)))
 (try simp only [Act.put, List.setIfInBounds_toArray, List.set_cons_zero, List.set_cons_succ])
 have H := HC4.out
 clear HC4
 by_cases c6 : t467 = true
 rotate_left
 ·replace c6 := Bool.eq_false_iff.mpr c6
  subst c6
  replace H := in_ H (show ¬ (false = true) by decide)
  simp only [Option.some.injEq, Prod.mk.injEq] at H
  obtain ⟨rfl, rfl, rfl⟩ := H
  go_wp2
  go_ret3
  exact ⟨_, _, rT_, z12_3_, z12_3_, hB_⟩
 subst c6
 replace H := ip_ H rfl
 have H' := aM_ H
 clear H
 go_wp2
 go_loopg [7, 8, 20] k (fun kq v7 v8 v20 w' => ∃ (x7_1 : List ByteArray) (x8_1 : List Int) (x20_1 : Int), v20 = .int .i64 x20_1 ∧ Aside0 (FaG.l0 kq l0 x7_1 x8_1 l1 (l1.length : Int) x20_1 = some (r1, r2, r3)) ∧ Aside0 (kq ≤ k) ∧ Aside0 (Kd.R Kd.string 9 w' w.heap.size (fun _ => True) v7 x7_1) ∧ Aside0 (Kd.R (Kd.int .i64) 3 w' w.heap.size (fun _ => True) v8 x8_1) ∧ Aside0 (Below w.heap.size w w'))
 case atStart => exact ⟨(([] : List ByteArray)), (([] : List Int)), (0), z12_0_, H', ⟨Nat.le_refl _⟩, ⟨z12_3_⟩, ⟨z12_3_⟩, ⟨hB_⟩⟩
 case round =>
  clear H'
  (try clear c1);(try clear c6)
  obtain ⟨x7_1, x8_1, x20_1, rfl, HA, HK1, HO_7, HO_8, HB⟩ := hrel
  cases gk with
  | zero => exact absurd HA.out (by simp [FaG.l0])
  | succ k1 =>
   have H := HA.out
   clear HA
   simp only [FaG.l0] at H
   replace H := iF_ H; obtain ⟨c7b0, H⟩ | ⟨c7b0, H⟩ := H
   ·(first | rw [c7b0] | (simp only [i64_w, i32_w]; rw [c7b0]) | skip)
    simp only [Option.some.injEq, Prod.mk.injEq] at H
    obtain ⟨rfl, rfl, rfl⟩ := H
    go_wp2
    go_ret3
    exact ⟨_, _, rT_, (rR_ HO_7), (rR_ HO_8), hB_⟩
   (first | rw [c7b0] | (simp only [i64_w, i32_w]; rw [c7b0]) | skip)
   replace H := ig_ H; obtain ⟨c8b0, H⟩ := H
   replace H := ig_ H; obtain ⟨c9b0, H⟩ := H
   replace H := ob_ H; obtain ⟨⟨t470, t471, t472⟩, A10, H⟩ := H; try dsimp only at H
   have HC11 := aM_ H
   clear H
   obtain ⟨⟨ad468, e468, hx468_0, hx468_1, hx468_2⟩, p468, q468⟩ := at2_ (at_T40 HR1.out x20_1); cases e468
   try replace hx468_0 := hc_ HB hx468_0; try replace hx468_1 := hc_ HB hx468_1; try replace hx468_2 := hc_ HB hx468_2
   go_upto_if 32 with (first | ((with_reducible refine gD_ 10 ?_); refine bx_ 10 #[.string (⟨#[]⟩ : ByteArray), .int .i64 0, .int .i64 0] 40 fun gb469 hg w12 hbox hb => ?_; have BK469 := aM_ (hbox); have GW469 := gW_ w hg; have GE469 := gW_ w hg; replace HO_7 := rB_ HO_7 hb; replace HO_8 := rB_ HO_8 hb; replace HB := bS_ hb; clear hb hbox hg; have hz13 := cf3_ BK469.out) | ((with_reducible refine gC_ 32 ?_); refine gM_ (some 28) Tryz.func32 #[.slice A0 l0.length c0, .agg #[.string ((rd_T40 l1 x20_1).f0), .int .i64 ((rd_T40 l1 x20_1).f1), .int .i64 ((rd_T40 l1 x20_1).f2)]] ?_; (with_reducible refine (FaV.calls k1 _ _ l0 ((rd_T40 l1 x20_1).f0) ((rd_T40 l1 x20_1).f1) ((rd_T40 l1 x20_1).f2) t470 t471 t472 _ ?_ ?_ A10.out).mono ?_); exact Kd.C_below HR0.out hB_; exact HC0.out; rintro e w14 ⟨rfl, hb⟩; refine ⟨_, rfl, ?_⟩; replace HO_7 := aM_ (Kd.R_below (by (with_reducible repeat (first | apply rA_ | apply rN_ | apply rD_)); exact (Kd.R_mono (Kd.R_far (p := ⟨gb469, 2, none⟩) (Kd.R_far (p := ⟨gb469, 1, none⟩) (Kd.R_far (p := ⟨gb469, 0, none⟩) (Kd.R_types HO_7.out BK469.out (by decide)) (fun _ hk => hk.2) (.string ((rd_T40 l1 x20_1).f0))) (fun _ hk => hk.2) (.int .i64 ((rd_T40 l1 x20_1).f1))) (fun _ hk => hk.2) (.int .i64 ((rd_T40 l1 x20_1).f2))) (fun _ h_ => h_.1))) hb); replace HO_8 := aM_ (Kd.R_below (by (with_reducible repeat (first | apply rA_ | apply rN_ | apply rD_)); exact (Kd.R_mono (Kd.R_far (p := ⟨gb469, 2, none⟩) (Kd.R_far (p := ⟨gb469, 1, none⟩) (Kd.R_far (p := ⟨gb469, 0, none⟩) (Kd.R_types HO_8.out BK469.out (by decide)) (fun _ hk => hk.2) (.string ((rd_T40 l1 x20_1).f0))) (fun _ hk => hk.2) (.int .i64 ((rd_T40 l1 x20_1).f1))) (fun _ hk => hk.2) (.int .i64 ((rd_T40 l1 x20_1).f2))) (fun _ h_ => h_.1))) hb); replace BK469 := aM_ (blk_below (g := gb469) (o := .cells #[.string ((rd_T40 l1 x20_1).f0), .int .i64 ((rd_T40 l1 x20_1).f1), .int .i64 ((rd_T40 l1 x20_1).f2)] 40 (0, 0)) (by (with_reducible repeat (first | apply kN_ | apply kD_ | apply kA_)); refine blk_put (cs := #[.string ((rd_T40 l1 x20_1).f0), .int .i64 ((rd_T40 l1 x20_1).f1), .int .i64 0]) ?_ 2 _ rfl; (with_reducible repeat (first | apply kN_ | apply kD_ | apply kA_)); refine blk_put (cs := #[.string ((rd_T40 l1 x20_1).f0), .int .i64 0, .int .i64 0]) ?_ 1 _ rfl; (with_reducible repeat (first | apply kN_ | apply kD_ | apply kA_)); refine blk_put (cs := #[.string (⟨#[]⟩ : ByteArray), .int .i64 0, .int .i64 0]) ?_ 0 _ rfl; (with_reducible repeat (first | apply kN_ | apply kD_ | apply kA_)); exact BK469.out) hb); replace HB := bS_ hb; (try clear hb); (try clear hk)))
   (try simp only [Act.put, List.setIfInBounds_toArray, List.set_cons_zero, List.set_cons_succ])
   have H := HC11.out
   clear HC11
   by_cases c15 : t472 = true
   rotate_left
   ·replace c15 := Bool.eq_false_iff.mpr c15
    subst c15
    replace H := in_ H (show ¬ (false = true) by decide)
    replace H := il_ H; obtain ⟨LMc23, H⟩ := H
    obtain ⟨y476, hy476⟩ : ∃ y_ : List Int, y_ = (x8_1 ++ [x20_1]) := ⟨_, rfl⟩
    rw [← hy476] at H
    have Ny476 := aM_ hy476; clear hy476
    have H' := aM_ H
    clear H
    go_wp2_with (first | ((with_reducible refine gate_builtin (b := .append) (xs := #[.tmp 44, .tmp 46]) rfl ?_); at_builtin; refine Kd.R_append (Kd.int .i64) (w0 := w) w.heap.size rfl (.tmp 44) (.tmp 46) 28 3 (.int .i64 0) 8 rfl Tryz.underlying28 info3 rfl (by decide) (by omega) u8 x8_1 x20_1 [.int .i64 x20_1] (fun _ => True) (fun _ => False) rfl rfl ?aP (fun _ hk => hk.elim) ?aF ?aO ?aB ?aS ?aL ?_; (case aP => exact rfl); (case aB => exact hB_); (case aF => exact (fun _ _ => trivial)); (case aO => exact (rR_ HO_8)); (case aS => exact (below_size hB_)); (case aL => have := LMc23.out; omega); intro v477 w24 ho hb hg hat; rw [← Ny476.out] at ho; have HO478 := aM_ (ho); replace HO_7 := rO_ HO_7 HO_8 hg; replace BK469 := aM_ (blk_grown (g := gb469) (kR_ BK469) hg (Kd.R_ne HO_8.out BK469.out (by decide))); replace HB := aM_ (hb); clear HO_8; clear ho hb hg hat))
    go_roundg k1
    case measure => have := HK1.out; omega
    case rel => exact ⟨(x7_1), (y476), (wrap64 (x20_1 + 1)), z12_0_, H', ⟨z12_1_⟩, ⟨(rR_ HO_7)⟩, ⟨rR_ HO478⟩, ⟨hB_⟩⟩
   subst c15
   replace H := ip_ H rfl
   by_cases c16 : t470.size + 1 ≤ 9223372036854775807
   rotate_left
   ·rw [if_neg c16] at H
    exact absurd H (by simp)
   rw [if_pos c16] at H
   have c16b0 := eq_true c16
   have c16b1 : decide (t470.size + 1 ≤ 9223372036854775807) = true := decide_eq_true c16
   try have c16b2 : (9223372036854775807 < t470.size + 1) = False := eq_false (Nat.not_lt.2 c16)
   by_cases c17 : (t470 ++ (⟨#[32]⟩ : ByteArray)).size + ((rd_T40 l1 x20_1).f0).size ≤ 9223372036854775807
   rotate_left
   ·rw [if_neg c17] at H
    exact absurd H (by simp)
   rw [if_pos c17] at H
   have c17b0 := eq_true c17
   have c17b1 : decide ((t470 ++ (⟨#[32]⟩ : ByteArray)).size + ((rd_T40 l1 x20_1).f0).size ≤ 9223372036854775807) = true := decide_eq_true c17
   try have c17b2 : (9223372036854775807 < (t470 ++ (⟨#[32]⟩ : ByteArray)).size + ((rd_T40 l1 x20_1).f0).size) = False := eq_false (Nat.not_lt.2 c17)
   try (have c17b3 := c17b2; simp only [ByteArray.size_append', ByteArray.size_mk', List.size_toArray, List.length_cons, List.length_nil, Nat.zero_add, Nat.reduceAdd] at c17b3)
   by_cases c18 : ((t470 ++ (⟨#[32]⟩ : ByteArray)) ++ ((rd_T40 l1 x20_1).f0)).size + 1 ≤ 9223372036854775807
   rotate_left
   ·rw [if_neg c18] at H
    exact absurd H (by simp)
   rw [if_pos c18] at H
   have c18b0 := eq_true c18
   have c18b1 : decide (((t470 ++ (⟨#[32]⟩ : ByteArray)) ++ ((rd_T40 l1 x20_1).f0)).size + 1 ≤ 9223372036854775807) = true := decide_eq_true c18
   try have c18b2 : (9223372036854775807 < ((t470 ++ (⟨#[32]⟩ : ByteArray)) ++ ((rd_T40 l1 x20_1).f0)).size + 1) = False := eq_false (Nat.not_lt.2 c18)
   try (have c18b3 := c18b2; simp only [ByteArray.size_append', ByteArray.size_mk', List.size_toArray, List.length_cons, List.length_nil, Nat.zero_add, Nat.reduceAdd] at c18b3)
   by_cases c19 : (((t470 ++ (⟨#[32]⟩ : ByteArray)) ++ ((rd_T40 l1 x20_1).f0)) ++ (⟨#[32]⟩ : ByteArray)).size + t471.size ≤ 9223372036854775807
   rotate_left
   ·rw [if_neg c19] at H
    exact absurd H (by simp)
   rw [if_pos c19] at H
   have c19b0 := eq_true c19
   have c19b1 : decide ((((t470 ++ (⟨#[32]⟩ : ByteArray)) ++ ((rd_T40 l1 x20_1).f0)) ++ (⟨#[32]⟩ : ByteArray)).size + t471.size ≤ 9223372036854775807) = true := decide_eq_true c19
   try have c19b2 : (9223372036854775807 < (((t470 ++ (⟨#[32]⟩ : ByteArray)) ++ ((rd_T40 l1 x20_1).f0)) ++ (⟨#[32]⟩ : ByteArray)).size + t471.size) = False := eq_false (Nat.not_lt.2 c19)
   try (have c19b3 := c19b2; simp only [ByteArray.size_append', ByteArray.size_mk', List.size_toArray, List.length_cons, List.length_nil, Nat.zero_add, Nat.reduceAdd] at c19b3)
   replace H := il_ H; obtain ⟨LMc20, H⟩ := H
   obtain ⟨y473, hy473⟩ : ∃ y_ : List ByteArray, y_ = (x7_1 ++ [(((t470 ++ (⟨#[32]⟩ : ByteArray)) ++ ((rd_T40 l1 x20_1).f0)) ++ (⟨#[32]⟩ : ByteArray)) ++ t471]) := ⟨_, rfl⟩
   rw [← hy473] at H
   have Ny473 := aM_ hy473; clear hy473
   have H' := aM_ H
   clear H
   have hz21 := cf3_ BK469.out
   go_wp2_with (first | ((with_reducible refine gate_builtin (b := .append) (xs := #[.tmp 33, .tmp 42]) rfl ?_); at_builtin; refine Kd.R_append Kd.string (w0 := w) w.heap.size rfl (.tmp 33) (.tmp 42) 27 9 (.string ⟨#[]⟩) 16 rfl Tryz.underlying27 info9 rfl (by decide) (by omega) u7 x7_1 ((((t470 ++ (⟨#[32]⟩ : ByteArray)) ++ ((rd_T40 l1 x20_1).f0)) ++ (⟨#[32]⟩ : ByteArray)) ++ t471) [.string ((((t470 ++ (⟨#[32]⟩ : ByteArray)) ++ ((rd_T40 l1 x20_1).f0)) ++ (⟨#[32]⟩ : ByteArray)) ++ t471)] (fun _ => True) (fun _ => False) rfl rfl ?aP (fun _ hk => hk.elim) ?aF ?aO ?aB ?aS ?aL ?_; (case aP => exact rfl); (case aB => exact hB_); (case aF => exact (fun _ _ => trivial)); (case aO => exact (rR_ HO_7)); (case aS => exact (below_size hB_)); (case aL => have := LMc20.out; omega); intro v474 w22 ho hb hg hat; rw [← Ny473.out] at ho; have HO475 := aM_ (ho); replace HO_8 := rO_ HO_8 HO_7 hg; replace BK469 := aM_ (blk_grown (g := gb469) (kR_ BK469) hg (Kd.R_ne HO_7.out BK469.out (by decide))); replace HB := aM_ (hb); clear HO_7; clear ho hb hg hat))
   go_roundg k1
   case measure => have := HK1.out; omega
   case rel => exact ⟨(y473), (x8_1), (wrap64 (x20_1 + 1)), z12_0_, H', ⟨z12_1_⟩, ⟨rR_ HO475⟩, ⟨(rR_ HO_8)⟩, ⟨hB_⟩⟩

theorem Fa7.calls (k : Nat) (A0 : Option Addr) (c0 : Nat) (l0 : List Int) (r1 : List S74) (r2 : List S40) (r3 : ByteArray) (w : World) (hr0 : Kd.C (Kd.int .u8) w A0 l0.length l0) (hc0 : l0.length ≤ c0) (h : Fa7.f k l0 = some (r1, r2, r3)) :
 Calls Tryz.prog 7 #[.slice A0 l0.length c0] w fun e w' => ∃ v0_ v1_ : Value, e = .returned (.tuple #[v0_, v1_, .string r3]) ∧ Kd.R k74 74 w' w.heap.size (fun _ => True) v0_ r1 ∧ Kd.R k40 40 w' w.heap.size (fun _ => True) v1_ r2 ∧ Below w.heap.size w w' := by
 have hu60 := Tryz.underlying60
 have HR0 := aM_ hr0
 have HC0 := aM_ hc0
 clear hr0 hc0
 have HB := aM_ (Below.refl w.heap.size w)
 have H : ((Fah.f k l0 0 0).bind fun bt480 => ((Fai.f k l0 bt480.2.1 bt480.2.2 bt480.1).bind fun bt485 => ((Fba.f l0 bt485.2.1 bt485.2.2 (([(⟨#[71, 73, 86, 69]⟩ : ByteArray), (⟨#[71, 73, 86, 69]⟩ : ByteArray), (⟨#[65, 83, 75]⟩ : ByteArray), (⟨#[83, 72, 79, 87]⟩ : ByteArray), (⟨#[78, 79]⟩ : ByteArray), (⟨#[]⟩ : ByteArray)] : List ByteArray))).bind fun bt493 => (some (bt480.1, bt485.1, bt493.1))))) = some (r1, r2, r3) := h
 clear h
 replace H := ob_ H; obtain ⟨⟨t480, t483, t484⟩, A2, H⟩ := H; try dsimp only at H
 replace H := ob_ H; obtain ⟨⟨t485, t488, t489⟩, A3, H⟩ := H; try dsimp only at H
 obtain ⟨y490, hy490⟩ : ∃ y_ : List ByteArray, y_ = (([(⟨#[71, 73, 86, 69]⟩ : ByteArray), (⟨#[71, 73, 86, 69]⟩ : ByteArray), (⟨#[65, 83, 75]⟩ : ByteArray), (⟨#[83, 72, 79, 87]⟩ : ByteArray), (⟨#[78, 79]⟩ : ByteArray), (⟨#[]⟩ : ByteArray)] : List ByteArray)) := ⟨_, rfl⟩
 rw [← hy490] at H
 have Ny490 := aM_ hy490; clear hy490
 replace H := ob_ H; obtain ⟨⟨t493, t494, t495⟩, A4, H⟩ := H; try dsimp only at H
 simp only [Option.some.injEq, Prod.mk.injEq] at H
 obtain ⟨rfl, rfl, rfl⟩ := H
 go_enter Tryz.func7, Tryz.ntmps7
 go_wp2_with (first | ((with_reducible refine gD_ 9 ?_); refine bx_ 9 #[.slice A0 l0.length c0, .int .i64 0, .int .u64 0] 60 fun gb479 hg w5 hbox hb => ?_; have HI479 := aM_ ((show IsS60 w w5 gb479 l0 0 0 from ⟨A0, c0, hbox, (by rw [hg]; exact (below_size hB_) : w.heap.size ≤ gb479), HR0.out⟩)); replace HB := bS_ hb; clear hb hbox hg) | ((with_reducible refine gC_ 26 ?_); refine gM_ (some 11) Tryz.func26 #[.pointer (some ⟨gb479, 0, none⟩)] ?_; (with_reducible refine (Fah.calls k gb479 l0 0 0 t480 t483 t484 w _ ?_ ?_ A2.out).mono ?_); exact z12_4_; exact z12_5_; rintro e w6 ⟨v481, rfl, ho0, hi, hb, hk⟩; refine ⟨_, rfl, ?_⟩; have HO482 := aM_ (Kd.R_lower ho0 (below_size z12_5_)); replace HB := aM_ (hb); replace HI479 := aM_ (hi); (try clear hb); (try clear hk); (try clear hi); (try clear ho0); obtain ⟨Ao7, co7, eo7⟩ := rS_ HO482; subst eo7) | ((with_reducible refine gC_ 27 ?_); refine gM_ (some 15) Tryz.func27 #[.pointer (some ⟨gb479, 0, none⟩), .slice Ao7 t480.length co7] ?_; (with_reducible refine (Fai.calls k gb479 l0 t483 t484 _ _ t480 t485 t488 t489 w _ ?_ ?_ ?_ ?_ A3.out).mono ?_); exact z12_4_; exact z12_5_; exact Kd.C_foot_own (IsS60.apart (show IsS60 w _ gb479 l0 t483 t484 from by repeat (first | (with_reducible first | exact HI479.out | apply IsS60.alloc | apply IsS60.drewN | apply IsS60.drew | apply IsS60.set_1 | apply IsS60.set_2) | exact HI479.out)) (rR_ HO482) (by decide)) (fun _ h_ => h_.2); exact (Kd.R_reads' HO482.out).2.1; rintro e w8 ⟨v486, rfl, ho0, hi, hb, hk⟩; refine ⟨_, rfl, ?_⟩; have HO487 := aM_ (Kd.R_lower ho0 (below_size z12_5_)); replace HO482 := aM_ (Kd.R_mono (Kd.R_keep (IsS60.apart (show IsS60 w _ gb479 l0 t483 t484 from by repeat (first | (with_reducible first | exact HI479.out | apply IsS60.alloc | apply IsS60.drewN | apply IsS60.drew | apply IsS60.set_1 | apply IsS60.set_2) | exact HI479.out)) (rR_ HO482) (by decide)) hk (fun _ h => h.2)) (fun _ h => h.1)); replace HB := aM_ (hb); replace HI479 := aM_ (hi); (try clear hb); (try clear hk); (try clear hi); (try clear ho0)) | ((with_reducible refine gD_ 17 ?_); refine rl_ Kd.string 9 17 ([(⟨#[71, 73, 86, 69]⟩ : ByteArray), (⟨#[71, 73, 86, 69]⟩ : ByteArray), (⟨#[65, 83, 75]⟩ : ByteArray), (⟨#[83, 72, 79, 87]⟩ : ByteArray), (⟨#[78, 79]⟩ : ByteArray), (⟨#[]⟩ : ByteArray)] : List ByteArray) [.string (⟨#[71, 73, 86, 69]⟩ : ByteArray), .string (⟨#[71, 73, 86, 69]⟩ : ByteArray), .string (⟨#[65, 83, 75]⟩ : ByteArray), .string (⟨#[83, 72, 79, 87]⟩ : ByteArray), .string (⟨#[78, 79]⟩ : ByteArray), .string (⟨#[]⟩ : ByteArray)] (Reps.one (show Kd.M Kd.string _ _ _ (⟨#[71, 73, 86, 69]⟩ : ByteArray) [.string (⟨#[71, 73, 86, 69]⟩ : ByteArray)] from rfl) (Reps.one (show Kd.M Kd.string _ _ _ (⟨#[71, 73, 86, 69]⟩ : ByteArray) [.string (⟨#[71, 73, 86, 69]⟩ : ByteArray)] from rfl) (Reps.one (show Kd.M Kd.string _ _ _ (⟨#[65, 83, 75]⟩ : ByteArray) [.string (⟨#[65, 83, 75]⟩ : ByteArray)] from rfl) (Reps.one (show Kd.M Kd.string _ _ _ (⟨#[83, 72, 79, 87]⟩ : ByteArray) [.string (⟨#[83, 72, 79, 87]⟩ : ByteArray)] from rfl) (Reps.one (show Kd.M Kd.string _ _ _ (⟨#[78, 79]⟩ : ByteArray) [.string (⟨#[78, 79]⟩ : ByteArray)] from rfl) (Reps.one (show Kd.M Kd.string _ _ _ (⟨#[]⟩ : ByteArray) [.string (⟨#[]⟩ : ByteArray)] from rfl) (Reps.none _ _))))))) ?_; intro v491 w9 ho10 hb hg_ hnew_; clear hg_ hnew_; (first | rw [← Ny490.out] at ho10 | (simp only [Int.reduceToNat] at ho10; rw [← Ny490.out] at ho10)); have HO492 := aM_ (Kd.R_lower ho10 (below_size z12_5_)); replace HO482 := rB_ HO482 hb; replace HO487 := rB_ HO487 hb; replace HB := aM_ (below_step z12_5_ hb); replace HI479 := aM_ (IsS60.below z12_4_ hb); clear hb ho10; obtain ⟨Ao11, co11, eo11⟩ := rS_ HO492; subst eo11) | ((with_reducible refine gC_ 33 ?_); refine gM_ (some 18) Tryz.func33 #[.pointer (some ⟨gb479, 0, none⟩), .slice Ao11 y490.length co11] ?_; (with_reducible refine (Fba.calls gb479 l0 t488 t489 _ _ y490 t493 t494 t495 w _ ?_ ?_ ?_ ?_ ?_ A4.out).mono ?_); exact z12_4_; exact z12_5_; exact cR_ HO492; exact (Kd.R_reads' HO492.out).2.1; exact far_slice (IsS60.own_ne HI479.out HO492.out (by decide)); rintro e w12 ⟨rfl, hi, hb, hk⟩; refine ⟨_, rfl, ?_⟩; replace HO482 := aM_ (Kd.R_mono (Kd.R_keep (IsS60.apart (show IsS60 w _ gb479 l0 t488 t489 from by repeat (first | (with_reducible first | exact HI479.out | apply IsS60.alloc | apply IsS60.drewN | apply IsS60.drew | apply IsS60.set_1 | apply IsS60.set_2) | exact HI479.out)) (rR_ HO482) (by decide)) hk (fun _ h => h.2)) (fun _ h => h.1)); replace HO487 := aM_ (Kd.R_mono (Kd.R_keep (IsS60.apart (show IsS60 w _ gb479 l0 t488 t489 from by repeat (first | (with_reducible first | exact HI479.out | apply IsS60.alloc | apply IsS60.drewN | apply IsS60.drew | apply IsS60.set_1 | apply IsS60.set_2) | exact HI479.out)) (rR_ HO487) (by decide)) hk (fun _ h => h.2)) (fun _ h => h.1)); replace HO492 := aM_ (Kd.R_mono (Kd.R_keep (IsS60.apart (show IsS60 w _ gb479 l0 t488 t489 from by repeat (first | (with_reducible first | exact HI479.out | apply IsS60.alloc | apply IsS60.drewN | apply IsS60.drew | apply IsS60.set_1 | apply IsS60.set_2) | exact HI479.out)) (rR_ HO492) (by decide)) hk (fun _ h => h.2)) (fun _ h => h.1)); replace HB := aM_ (hb); replace HI479 := aM_ (hi); (try clear hb); (try clear hk); (try clear hi)))
 go_ret3
 exact ⟨_, _, rT_, (rR_ HO482), (rR_ HO487), z12_5_⟩

theorem Fbr.calls (A0 : Option Addr) (c0 : Nat) (l0 r : List ByteArray) (w : World) (hr0 : Kd.C Kd.string w A0 l0.length l0) (hc0 : l0.length ≤ c0) (h : Fbr.f l0 = some r) :
 Calls Tryz.prog 61 #[.slice A0 l0.length c0] w fun e w' => ∃ v0_ : Value, e = .returned (v0_) ∧ Kd.R Kd.string 9 w' w.heap.size (fun _ => True) v0_ r ∧ Below w.heap.size w w' := by
 rcases A0 with _ | A0v
 ·obtain rfl : l0 = [] := List.eq_nil_of_length_eq_zero (Nat.eq_zero_of_not_pos fun hp_ => by obtain ⟨ad_, e_, _⟩ := hr0.2.2 hp_; cases e_)
  obtain rfl : r = [] := by simpa [Fbr.f, eq_comm] using h
  have hq_ : ∀ w_ : World, (binOp .eql 27 (.slice none 0 c0) (.slice none 0 0)).run Tryz.prog w_ = .ok (.bool true) w_ := fun w_ => eqNil Tryz.underlying27 none 0 c0 w_
  go_enter Tryz.func61, Tryz.ntmps61
  go_wp2
  go_ret
  exact ⟨_, rfl, Kd.R_nil _ _ _ _ _, Below.refl _ _⟩
 have hq_ : ∀ w_ : World, (binOp .eql 27 (.slice (some A0v) l0.length c0) (.slice none 0 0)).run Tryz.prog w_ = .ok (.bool false) w_ := fun w_ => eqNil Tryz.underlying27 (some A0v) l0.length c0 w_
 have HR0 := aM_ hr0
 have HC0 := aM_ hc0
 clear hr0 hc0
 have HB := aM_ (Below.refl w.heap.size w)
 have H : ((some (([] : List ByteArray) : List ByteArray)).bind fun y496 => (if y496.length + l0.length < 8796093022208 then (some (y496 ++ l0)) else (none))) = some r := h
 clear h
 replace H := bs_ H; obtain ⟨y496, Ny496, H⟩ := H; try dsimp only at H
 replace H := il_ H; obtain ⟨LMc2, H⟩ := H
 obtain ⟨y499, hy499⟩ : ∃ y_ : List ByteArray, y_ = (y496 ++ l0) := ⟨_, rfl⟩
 rw [← hy499] at H
 have Ny499 := aM_ hy499; clear hy499
 obtain rfl := Option.some.inj H
 go_enter Tryz.func61, Tryz.ntmps61
 go_wp2_with (first | ((with_reducible refine gD_ 5 ?_); refine rl_ Kd.string 9 5 ([] : List ByteArray) [] (Reps.none _ _) ?_; intro v497 w3 ho4 hb hg_ hnew_; clear hg_ hnew_; (first | rw [← Ny496.out] at ho4 | (simp only [Int.reduceToNat] at ho4; rw [← Ny496.out] at ho4)); have HO498 := aM_ (Kd.R_lower ho4 (below_size hB_)); replace HB := bS_ hb; clear hb ho4) | ((with_reducible refine gate_builtin (b := .append) (xs := #[.tmp 5, .tmp 6]) rfl ?_); at_builtin; refine Kd.R_append_rows Kd.string (w0 := w) w.heap.size rfl (.tmp 5) (.tmp 6) 27 9 (.string ⟨#[]⟩) 16 rfl Tryz.underlying27 info9 rfl (by decide) (by omega) v497 y496 l0 _ _ _ (fun _ => True) (fun _ => False) rfl rfl ?aO ?aR (fun _ _ h => h) (fun _ h => h.elim) ?aF ?aB ?aS ?aL ?_; (case aR => repeat (first | exact (Kd.C_below HR0.out HB.out) | (with_reducible first | apply cA_ | apply cN_ | apply cD_))); (case aB => exact hB_); (case aF => exact (fun _ _ => trivial)); (case aO => exact (rR_ HO498)); (case aS => exact (below_size hB_)); (case aL => have := LMc2.out; omega); intro v500 w5 ho hb hg hat; rw [← Ny499.out] at ho; have HO501 := aM_ (ho); replace HB := aM_ (hb); clear HO498; clear ho hb hg hat))
 go_ret
 exact ⟨_, rT_, by (with_reducible repeat (first | apply rA_ | apply rN_ | apply rD_)); exact HO501.out, hB_⟩

open Go.Shelf Go.RowKit Go.Sort Go.Lib in
def laid_lays190_ren : Go.Shelf.Ren := ⟨fun | 190 => 62 | 125 => 85 | 258 => 84 | 128 => 99 | 129 => 100 | 302 => 90 | 303 => 91 | 304 => 92 | 305 => 93 | 306 => 94 | 307 => 95 | 308 => 96 | 309 => 97 | 310 => 98 | 333 => 103 | 329 => 104 | 330 => 105 | 334 => 106 | 335 => 107 | 336 => 108 | 344 => 110 | n => n, fun | 31 => 27 | 9 => 9 | 3 => 3 | 46 => 105 | 0 => 0 | 51 => 117 | 53 => 58 | 4 => 4 | 183 => 110 | 182 => 109 | 131 => 114 | 5 => 5 | 218 => 120 | 222 => 124 | 228 => 126 | 229 => 101 | n => n, fun | n => n⟩
open Go.Shelf Go.RowKit Go.Sort Go.Lib in
theorem laid_lays190 : Go.Proofs.Lays.n190 Tryz.prog laid_lays190_ren := {
 mixed := by kernel_rfl
 f125 := Tryz.func85.trans (congrArg some (by kernel_rfl))
 f128 := Tryz.func99.trans (congrArg some (by kernel_rfl))
 f129 := Tryz.func100.trans (congrArg some (by kernel_rfl))
 f190 := Tryz.func62.trans (congrArg some (by kernel_rfl))
 f258 := Tryz.func84.trans (congrArg some (by kernel_rfl))
 f302 := Tryz.func90.trans (congrArg some (by kernel_rfl))
 f303 := Tryz.func91.trans (congrArg some (by kernel_rfl))
 f304 := Tryz.func92.trans (congrArg some (by kernel_rfl))
 f305 := Tryz.func93.trans (congrArg some (by kernel_rfl))
 f306 := Tryz.func94.trans (congrArg some (by kernel_rfl))
 f307 := Tryz.func95.trans (congrArg some (by kernel_rfl))
 f308 := Tryz.func96.trans (congrArg some (by kernel_rfl))
 f309 := Tryz.func97.trans (congrArg some (by kernel_rfl))
 f310 := Tryz.func98.trans (congrArg some (by kernel_rfl))
 f329 := Tryz.func104.trans (congrArg some (by kernel_rfl))
 f330 := Tryz.func105.trans (congrArg some (by kernel_rfl))
 f333 := Tryz.func103.trans (congrArg some (by kernel_rfl))
 f334 := Tryz.func106.trans (congrArg some (by kernel_rfl))
 f335 := Tryz.func107.trans (congrArg some (by kernel_rfl))
 f336 := Tryz.func108.trans (congrArg some (by kernel_rfl))
 f344 := Tryz.func110.trans (congrArg some (by kernel_rfl))
 t0 := Tryz.underlying0
 a0 := Tryz.isAgg0
 z0 := Tryz.sizeOf0
 v0 := Tryz.zeroValue0
 t3 := Tryz.underlying3
 a3 := Tryz.isAgg3
 z3 := Tryz.sizeOf3
 v3 := Tryz.zeroValue3
 t4 := Tryz.underlying4
 a4 := Tryz.isAgg4
 z4 := Tryz.sizeOf4
 v4 := Tryz.zeroValue4
 t5 := Tryz.underlying5
 a5 := Tryz.isAgg5
 z5 := Tryz.sizeOf5
 v5 := Tryz.zeroValue5
 t9 := Tryz.underlying9
 a9 := Tryz.isAgg9
 z9 := Tryz.sizeOf9
 v9 := Tryz.zeroValue9
 t31 := Tryz.underlying27
 a31 := Tryz.isAgg27
 z31 := Tryz.sizeOf27
 v31 := Tryz.zeroValue27
 t46 := Tryz.underlying105
 a46 := Tryz.isAgg105
 z46 := Tryz.sizeOf105
 v46 := Tryz.zeroValue105
 t51 := Tryz.underlying117
 a51 := Tryz.isAgg117
 z51 := Tryz.sizeOf117
 v51 := Tryz.zeroValue117
 t53 := Tryz.underlying58
 a53 := Tryz.isAgg58
 z53 := Tryz.sizeOf58
 v53 := Tryz.zeroValue58
 t131 := Tryz.underlying114
 a131 := Tryz.isAgg114
 z131 := Tryz.sizeOf114
 v131 := Tryz.zeroValue114
 t182 := Tryz.underlying109
 a182 := Tryz.isAgg109
 z182 := Tryz.sizeOf109
 v182 := Tryz.zeroValue109
 t183 := Tryz.underlying110
 a183 := Tryz.isAgg110
 z183 := Tryz.sizeOf110
 v183 := Tryz.zeroValue110
 t218 := Tryz.underlying120
 a218 := Tryz.isAgg120
 z218 := Tryz.sizeOf120
 v218 := Tryz.zeroValue120
 t222 := Tryz.underlying124
 a222 := Tryz.isAgg124
 z222 := Tryz.sizeOf124
 v222 := Tryz.zeroValue124
 t228 := Tryz.underlying126
 a228 := Tryz.isAgg126
 z228 := Tryz.sizeOf126
 v228 := Tryz.zeroValue126
 t229 := Tryz.underlying101
 a229 := Tryz.isAgg101
 z229 := Tryz.sizeOf101
 v229 := Tryz.zeroValue101 }
theorem Fbu.calls (P0_ : Nat → Prop) (u9000_ : Value) (l0 r : List ByteArray) (w0 w : World) (hB : Below w0.heap.size w0 w) (ho0 : Kd.R Kd.string 9 w w0.heap.size P0_ u9000_ l0) (h : Fbu.f l0 = some r) :
 Calls Tryz.prog 62 #[u9000_] w fun e w' => e = .returned (.tuple #[]) ∧ Kd.R Kd.string 9 w' w0.heap.size (fun k_ => (P0_ k_ ∨ w.heap.size ≤ k_)) u9000_ r ∧ Below w0.heap.size w0 w' ∧ Kept w w' (fun k_ => P0_ k_) := by
 unfold Fbu.f at h
 split at h
 case isFalse => cases h
 case isTrue hl =>
  obtain rfl := Option.some.inj h
  exact sorted_row sortTexts sortTexts_length (sort_texts (fun blk off cap ss w hH hb hz => Any.slices_Sort_string laid_lays190 blk off cap ss w hH hb hz)) (fun p cap w => Any.slices_Sort_string_none laid_lays190 p cap w) hB ho0 hl

open Go.Shelf Go.RowKit Go.Sort Go.Lib in
def laid_lays194_ren : Go.Shelf.Ren := ⟨fun | 194 => 63 | n => n, fun | 31 => 27 | 9 => 9 | 3 => 3 | 4 => 4 | 0 => 0 | n => n, fun | n => n⟩
open Go.Shelf Go.RowKit Go.Sort Go.Lib in
theorem laid_lays194 : Go.Proofs.Lays.n194 Tryz.prog laid_lays194_ren := {
 mixed := by kernel_rfl
 f194 := Tryz.func63.trans (congrArg some (by kernel_rfl))
 t0 := Tryz.underlying0
 a0 := Tryz.isAgg0
 z0 := Tryz.sizeOf0
 v0 := Tryz.zeroValue0
 t3 := Tryz.underlying3
 a3 := Tryz.isAgg3
 z3 := Tryz.sizeOf3
 v3 := Tryz.zeroValue3
 t4 := Tryz.underlying4
 a4 := Tryz.isAgg4
 z4 := Tryz.sizeOf4
 v4 := Tryz.zeroValue4
 t9 := Tryz.underlying9
 a9 := Tryz.isAgg9
 z9 := Tryz.sizeOf9
 v9 := Tryz.zeroValue9
 t31 := Tryz.underlying27
 a31 := Tryz.isAgg27
 z31 := Tryz.sizeOf27
 v31 := Tryz.zeroValue27 }
theorem Fbn.calls (P0_ : Nat → Prop) (u9000_ : Value) (l0 r : List ByteArray) (w0 w : World) (hB : Below w0.heap.size w0 w) (ho0 : Kd.R Kd.string 9 w w0.heap.size P0_ u9000_ l0) (h : Fbn.f l0 = some r) :
 Calls Tryz.prog 63 #[u9000_] w fun e w' => ∃ v0_ : Value, e = .returned (v0_) ∧ Kd.R Kd.string 9 w' w0.heap.size (fun k_ => (P0_ k_ ∨ w.heap.size ≤ k_)) v0_ r ∧ Below w0.heap.size w0 w' ∧ Kept w w' (fun k_ => P0_ k_) := by
 unfold Fbn.f at h
 split at h
 case isFalse => cases h
 case isTrue hl =>
  obtain rfl := Option.some.inj h
  exact compacted_row onceTexts (⟨#[]⟩ : ByteArray) onceTexts_length (once_texts (fun blk off cap ss w hH hz hc => Any.slices_Compact_string laid_lays194 blk off cap ss w hH hz hc)) (fun p cap w => Any.slices_Compact_string_empty laid_lays194 p cap w) hB ho0 hl

theorem Fbp.calls (A0 : Option Addr) (c0 : Nat) (l0 r : List ByteArray) (w : World) (hr0 : Kd.C Kd.string w A0 l0.length l0) (hc0 : l0.length ≤ c0) (h : Fbp.f l0 = some r) :
 Calls Tryz.prog 35 #[.slice A0 l0.length c0] w fun e w' => ∃ v0_ : Value, e = .returned (v0_) ∧ Kd.R Kd.string 9 w' w.heap.size (fun _ => True) v0_ r ∧ Below w.heap.size w w' := by
 have HR0 := aM_ hr0
 have HC0 := aM_ hc0
 clear hr0 hc0
 have HB := aM_ (Below.refl w.heap.size w)
 have H : ((Fbr.f l0).bind fun t502 => ((Fbu.f t502).bind fun t505 => ((Fbn.f t505).bind fun t506 => (some t506)))) = some r := h
 clear h
 replace H := ob_ H; obtain ⟨t502, A2, H⟩ := H; try dsimp only at H
 replace H := ob_ H; obtain ⟨t505, A3, H⟩ := H; try dsimp only at H
 replace H := ob_ H; obtain ⟨t506, A4, H⟩ := H; try dsimp only at H
 obtain rfl := Option.some.inj H
 go_enter Tryz.func35, Tryz.ntmps35
 go_wp2_with (first | ((with_reducible refine gC_ 61 ?_); refine gM_ (some 5) Tryz.func61 #[.slice A0 l0.length c0] ?_; (with_reducible refine (Fbr.calls _ _ l0 t502 _ ?_ ?_ A2.out).mono ?_); exact cC_ HR0; exact HC0.out; rintro e w5 ⟨v503, rfl, ho0, hb⟩; refine ⟨_, rfl, ?_⟩; have HO504 := aM_ (Kd.R_lower ho0 (below_size hB_)); replace HB := bS_ hb; (try clear hb); (try clear ho0); obtain ⟨Ao6, co6, eo6⟩ := rS_ HO504; subst eo6) | ((with_reducible refine gC_ 62 ?_); refine gM_ (some 7) Tryz.func62 #[.slice Ao6 t502.length co6] ?_; (with_reducible refine (Fbu.calls (fun k_ => some k_ = (.slice Ao6 t502.length co6 : Value).ownBlock) (.slice Ao6 t502.length co6) t502 t505 w _ ?_ ?_ A3.out).mono ?_); exact z12_6_; exact Kd.R_tight rfl HO504.out; rintro e w7 ⟨rfl, hy0, hb, hkp⟩; refine ⟨_, rfl, ?_⟩; replace HO504 := aM_ (Kd.R_reok rfl hy0 (fun k_ e_ => HO504.out.1 k_ e_)); replace HB := aM_ (hb); (try clear hb); (try clear hkp); (try clear hy0)) | ((with_reducible refine gC_ 63 ?_); refine gM_ (some 9) Tryz.func63 #[.slice Ao6 t502.length co6] ?_; (with_reducible refine (Fbn.calls (fun k_ => some k_ = (.slice Ao6 t502.length co6 : Value).ownBlock) (.slice Ao6 t502.length co6) t505 t506 w _ ?_ ?_ A4.out).mono ?_); exact z12_6_; exact Kd.R_tight rfl HO504.out; rintro e w8 ⟨v507, rfl, ho0, hb, hkp⟩; refine ⟨_, rfl, ?_⟩; have HO508 := aM_ (Kd.R_mono (ok' := fun k_ => True) ho0 (fun k_ hk_ => trivial)); replace HB := aM_ (hb); clear HO504; (try clear hb); (try clear hkp); (try clear ho0)))
 go_ret
 exact ⟨_, rT_, by (with_reducible repeat (first | apply rA_ | apply rN_ | apply rD_)); exact HO508.out, hB_⟩

end Go.Proofs.YtbfkpgmdbafmhaaGreat.PFnVerbRuns
