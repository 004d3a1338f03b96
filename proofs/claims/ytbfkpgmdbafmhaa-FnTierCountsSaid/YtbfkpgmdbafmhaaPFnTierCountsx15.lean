/- Printed for this claim: functions of the program as Lean functions, and that the calls answer so. -/
import Derived.Test.YtbfkpgmdbafmhaaPFnTierCountsx0
import Derived.Test.YtbfkpgmdbafmhaaPFnTierCountsx2
import Derived.Test.YtbfkpgmdbafmhaaPFnTierCountsx4
import Derived.Test.YtbfkpgmdbafmhaaPFnTierCountsx5
import Derived.Test.YtbfkpgmdbafmhaaPFnTierCountsx7
import Derived.Test.YtbfkpgmdbafmhaaPFnTierCountsx8
import Derived.Test.YtbfkpgmdbafmhaaPFnTierCountsx9
import Derived.Test.YtbfkpgmdbafmhaaPFnTierCountsx10
import Derived.Test.YtbfkpgmdbafmhaaPFnTierCountsxD0
import Derived.Test.YtbfkpgmdbafmhaaPFnTierCountsxD1
namespace Go.Proofs.Ytbfkpgmdbafmhaa.PFnTierCounts
open Go.RowKit Go.Proofs.YtbfkpgmdbafmhaaW.PrintWords Go.Proofs.YtbfkpgmdbafmhaaW.PrintLast Go.Proofs.YtbfkpgmdbafmhaaW.PrintMore
theorem z15_0_ {p : Prop} (h : p := by first | rfl | (simp; done) | (simp [*]; done)) : p := h
theorem z15_1_ {p : Prop} (h : p := by repeat (first | exact Drawn0.refl _ | apply Drawn0.step)) : p := h
set_option maxHeartbeats 8000000
set_option maxRecDepth 100000
attribute [local go_sem] max2_int min2_int max_two min_two max_three min_three max_four min_four isSome_setCell   -- for this text's walks alone
set_option linter.unusedVariables false
set_option linter.unusedSimpArgs false

/-! ### laws_qInts: function 20 -/
theorem laws_qInts.calls (k : Nat) (A0 : Option Addr) (c0 : Nat) (l0 : List Int) (A1 : Option Addr) (c1 : Nat) (l1 : List Int) (r : Bool) (w : World) (hr0 : Kd.C (Kd.int .i64) w A0 l0.length l0) (hc0 : l0.length ≤ c0) (hr1 : Kd.C (Kd.int .i64) w A1 l1.length l1) (hc1 : l1.length ≤ c1) (h : laws_qInts.f k l0 l1 = some r) :
 Calls Try.prog 20 #[.slice A0 l0.length c0, .slice A1 l1.length c1] w fun e w' => e = .returned (.bool r) ∧ Drawn0 w w' := by
 have HR0 := Aside0.mk hr0
 have HC0 := Aside0.mk hc0
 clear hr0 hc0
 have HR1 := Aside0.mk hr1
 have HC1 := Aside0.mk hc1
 clear hr1 hc1
 have H : (if (l0.length : Int) = (l1.length : Int) then (laws_qInts.l0 k l0 l1 (l0.length : Int) 0) else (some false)) = some r := h
 clear h
 by_cases c3 : (l0.length : Int) = (l1.length : Int)
 rotate_left
 ·rw [if_neg c3] at H
  have c3b0 : ((l0.length : Int) == (l1.length : Int)) = false := beq_eq_false_iff_ne.mpr c3
  have c3b1 : ((l0.length : Int) != (l1.length : Int)) = true := bne_iff_ne.mpr c3
  have c3b2 : (l0.length == l1.length) = false := by first | simpa using c3 | (simp at c3 ⊢; omega)
  obtain rfl := Option.some.inj H
  go_enter Try.func20, Try.ntmps20
  go_wp2
  repeat (go_quiet (fail); try go_wp2)
  go_ret
  exact ⟨z15_0_, z15_1_⟩
 rw [if_pos c3] at H
 have c3b0 : ((l0.length : Int) == (l1.length : Int)) = true := beq_iff_eq.mpr c3
 have c3b1 : ((l0.length : Int) != (l1.length : Int)) = false := bne_eq_false_iff_eq.mpr c3
 have c3b2 : (l0.length == l1.length) = true := by first | simpa using c3 | (simp at c3 ⊢; omega)
 clear c3
 have H' := Aside0.mk H
 clear H
 go_enter Try.func20, Try.ntmps20
 go_wp2
 repeat (go_quiet (fail); try go_wp2)
 go_loopg [13] k (fun kq v13 w' => ∃ (x13_1 : Int), v13 = .int .i64 x13_1 ∧ Aside0 (laws_qInts.l0 kq l0 l1 (l0.length : Int) x13_1 = some r) ∧ Aside0 (kq ≤ k) ∧ Drawn0 w w')
 case atStart => exact ⟨(0), z15_0_, H', ⟨Nat.le_refl _⟩, z15_1_⟩
 case round =>
  clear H'
  (try clear c1);(try clear c3);(try clear c3b0);(try clear c3b1);(try clear c3b2)
  obtain ⟨x13_1, rfl, HA, HK1, ⟨m1, rfl⟩⟩ := hrel
  cases gk with
  | zero => exact absurd HA.out (by simp [laws_qInts.l0])
  | succ k1 =>
   have H := HA.out
   clear HA
   simp only [laws_qInts.l0] at H
   replace H := iF_ H; obtain ⟨c4b0, H⟩ | ⟨c4b0, H⟩ := H
   ·obtain rfl := Option.some.inj H
    go_wp2
    repeat (go_quiet (fail); try go_wp2)
    go_ret
    exact ⟨z15_0_, z15_1_⟩
   replace H := ig_ H; obtain ⟨c5b0, H⟩ := H
   replace H := ig_ H; obtain ⟨c6b0, H⟩ := H
   replace H := ig_ H; obtain ⟨c7b0, H⟩ := H
   by_cases c8 : (rd l0 x13_1) = (rd l1 x13_1)
   rotate_left
   ·rw [if_neg c8] at H
    have c8b0 : ((rd l0 x13_1) == (rd l1 x13_1)) = false := beq_eq_false_iff_ne.mpr c8
    have c8b1 : ((rd l0 x13_1) != (rd l1 x13_1)) = true := bne_iff_ne.mpr c8
    obtain rfl := Option.some.inj H
    obtain ⟨⟨ad612, e612, hx612_0⟩, p612, q612⟩ := at2_ (Kd.at_int HR0.out x13_1); cases e612
    obtain ⟨⟨ad613, e613, hx613_0⟩, p613, q613⟩ := at2_ (Kd.at_int HR1.out x13_1); cases e613
    go_wp2
    repeat (go_quiet (fail); try go_wp2)
    go_ret
    exact ⟨z15_0_, z15_1_⟩
   rw [if_pos c8] at H
   have c8b0 : ((rd l0 x13_1) == (rd l1 x13_1)) = true := beq_iff_eq.mpr c8
   have c8b1 : ((rd l0 x13_1) != (rd l1 x13_1)) = false := bne_eq_false_iff_eq.mpr c8
   clear c8
   have H' := Aside0.mk H
   clear H
   obtain ⟨⟨ad612, e612, hx612_0⟩, p612, q612⟩ := at2_ (Kd.at_int HR0.out x13_1); cases e612
   obtain ⟨⟨ad613, e613, hx613_0⟩, p613, q613⟩ := at2_ (Kd.at_int HR1.out x13_1); cases e613
   go_wp2
   repeat (go_quiet (fail); try go_wp2)
   go_roundg k1
   case measure => have := HK1.out; omega
   case rel => exact ⟨(wrap64 (x13_1 + 1)), z15_0_, H', ⟨by have := HK1.out; omega⟩, z15_1_⟩

/-! ### laws_qLists: function 21 -/
theorem laws_qLists.calls (k : Nat) (A0 : Option Addr) (c0 : Nat) (l0 : List (List Int)) (A1 : Option Addr) (c1 : Nat) (l1 : List (List Int)) (r : Bool) (w : World) (hr0 : Kd.C (Kd.slice 3 (Kd.int .i64)) w A0 l0.length l0) (hc0 : l0.length ≤ c0) (hr1 : Kd.C (Kd.slice 3 (Kd.int .i64)) w A1 l1.length l1) (hc1 : l1.length ≤ c1) (h : laws_qLists.f k l0 l1 = some r) :
 Calls Try.prog 21 #[.slice A0 l0.length c0, .slice A1 l1.length c1] w fun e w' => e = .returned (.bool r) ∧ Drawn0 w w' := by
 have HR0 := Aside0.mk hr0
 have HC0 := Aside0.mk hc0
 clear hr0 hc0
 have HR1 := Aside0.mk hr1
 have HC1 := Aside0.mk hc1
 clear hr1 hc1
 have H : (if (l0.length : Int) = (l1.length : Int) then (laws_qLists.l0 k l0 l1 (l0.length : Int) 0) else (some false)) = some r := h
 clear h
 by_cases c3 : (l0.length : Int) = (l1.length : Int)
 rotate_left
 ·rw [if_neg c3] at H
  have c3b0 : ((l0.length : Int) == (l1.length : Int)) = false := beq_eq_false_iff_ne.mpr c3
  have c3b1 : ((l0.length : Int) != (l1.length : Int)) = true := bne_iff_ne.mpr c3
  have c3b2 : (l0.length == l1.length) = false := by first | simpa using c3 | (simp at c3 ⊢; omega)
  obtain rfl := Option.some.inj H
  go_enter Try.func21, Try.ntmps21
  go_wp2
  repeat (go_quiet (fail); try go_wp2)
  go_ret
  exact ⟨z15_0_, z15_1_⟩
 rw [if_pos c3] at H
 have c3b0 : ((l0.length : Int) == (l1.length : Int)) = true := beq_iff_eq.mpr c3
 have c3b1 : ((l0.length : Int) != (l1.length : Int)) = false := bne_eq_false_iff_eq.mpr c3
 have c3b2 : (l0.length == l1.length) = true := by first | simpa using c3 | (simp at c3 ⊢; omega)
 clear c3
 have H' := Aside0.mk H
 clear H
 go_enter Try.func21, Try.ntmps21
 go_wp2
 repeat (go_quiet (fail); try go_wp2)
 go_loopg [13] k (fun kq v13 w' => ∃ (x13_1 : Int), v13 = .int .i64 x13_1 ∧ Aside0 (laws_qLists.l0 kq l0 l1 (l0.length : Int) x13_1 = some r) ∧ Aside0 (kq ≤ k) ∧ Drawn0 w w')
 case atStart => exact ⟨(0), z15_0_, H', ⟨Nat.le_refl _⟩, z15_1_⟩
 case round =>
  clear H'
  (try clear c1);(try clear c3);(try clear c3b0);(try clear c3b1);(try clear c3b2)
  obtain ⟨x13_1, rfl, HA, HK1, ⟨m1, rfl⟩⟩ := hrel
  cases gk with
  | zero => exact absurd HA.out (by simp [laws_qLists.l0])
  | succ k1 =>
   have H := HA.out
   clear HA
   simp only [laws_qLists.l0] at H
   replace H := iF_ H; obtain ⟨c4b0, H⟩ | ⟨c4b0, H⟩ := H
   ·obtain rfl := Option.some.inj H
    go_wp2
    repeat (go_quiet (fail); try go_wp2)
    go_ret
    exact ⟨z15_0_, z15_1_⟩
   replace H := ig_ H; obtain ⟨c5b0, H⟩ := H
   replace H := ig_ H; obtain ⟨c6b0, H⟩ := H
   replace H := ig_ H; obtain ⟨c7b0, H⟩ := H
   replace H := ob_ H; obtain ⟨t616, A8, H⟩ := H; try dsimp only at H
   by_cases c9 : t616 = true
   rotate_left
   ·replace c9 := Bool.eq_false_iff.mpr c9
    subst c9
    replace H := in_ H (show ¬ (false = true) by decide)
    obtain rfl := Option.some.inj H
    have p614 : 0 ≤ (x13_1 : Int) := ode_
    have q614 : x13_1 < (l0.length : Int) := ode_
    obtain ⟨ad614, A614_0, c614_0, e614, hx614_0, hl614_0, hi614_0⟩ := at_L5 HR0.out x13_1 p614 q614
    cases e614
    have HR614_0 := Aside0.mk hi614_0
    have HC614_0 := Aside0.mk hl614_0
    clear hi614_0 hl614_0
    replace p614 := eq_true p614
    replace q614 := eq_true q614
    have p615 : 0 ≤ (x13_1 : Int) := ode_
    have q615 : x13_1 < (l1.length : Int) := ode_
    obtain ⟨ad615, A615_0, c615_0, e615, hx615_0, hl615_0, hi615_0⟩ := at_L5 HR1.out x13_1 p615 q615
    cases e615
    have HR615_0 := Aside0.mk hi615_0
    have HC615_0 := Aside0.mk hl615_0
    clear hi615_0 hl615_0
    replace p615 := eq_true p615
    replace q615 := eq_true q615
    go_wp2_with (first | (go_at_call 20; (with_reducible refine (laws_qInts.calls k1 _ _ (rd_L5 l0 x13_1) _ _ (rd_L5 l1 x13_1) false _ ?side1 ?side2 ?side3 ?side4 A8.out).mono ?_); (case side1 => exact cC_ HR614_0); (case side2 => exact HC614_0.out); (case side3 => exact cC_ HR615_0); (case side4 => exact HC615_0.out); rintro e w' ⟨rfl, ⟨nd, rfl⟩⟩; (try exact dd_)) | (go_quiet (first | (go_at_call 20; (with_reducible refine (laws_qInts.calls k1 _ _ (rd_L5 l0 x13_1) _ _ (rd_L5 l1 x13_1) false _ ?side1 ?side2 ?side3 ?side4 A8.out).mono ?_); (case side1 => exact cC_ HR614_0); (case side2 => exact HC614_0.out); (case side3 => exact cC_ HR615_0); (case side4 => exact HC615_0.out); rintro e w' ⟨rfl, ⟨nd, rfl⟩⟩; (try exact dd_)))))
    go_ret
    exact ⟨z15_0_, z15_1_⟩
   subst c9
   replace H := ip_ H rfl
   have H' := Aside0.mk H
   clear H
   have p614 : 0 ≤ (x13_1 : Int) := ode_
   have q614 : x13_1 < (l0.length : Int) := ode_
   obtain ⟨ad614, A614_0, c614_0, e614, hx614_0, hl614_0, hi614_0⟩ := at_L5 HR0.out x13_1 p614 q614
   cases e614
   have HR614_0 := Aside0.mk hi614_0
   have HC614_0 := Aside0.mk hl614_0
   clear hi614_0 hl614_0
   replace p614 := eq_true p614
   replace q614 := eq_true q614
   have p615 : 0 ≤ (x13_1 : Int) := ode_
   have q615 : x13_1 < (l1.length : Int) := ode_
   obtain ⟨ad615, A615_0, c615_0, e615, hx615_0, hl615_0, hi615_0⟩ := at_L5 HR1.out x13_1 p615 q615
   cases e615
   have HR615_0 := Aside0.mk hi615_0
   have HC615_0 := Aside0.mk hl615_0
   clear hi615_0 hl615_0
   replace p615 := eq_true p615
   replace q615 := eq_true q615
   go_wp2_with (first | (go_at_call 20; (with_reducible refine (laws_qInts.calls k1 _ _ (rd_L5 l0 x13_1) _ _ (rd_L5 l1 x13_1) true _ ?side1 ?side2 ?side3 ?side4 A8.out).mono ?_); (case side1 => exact cC_ HR614_0); (case side2 => exact HC614_0.out); (case side3 => exact cC_ HR615_0); (case side4 => exact HC615_0.out); rintro e w' ⟨rfl, ⟨nd, rfl⟩⟩; (try exact dd_)) | (go_quiet (first | (go_at_call 20; (with_reducible refine (laws_qInts.calls k1 _ _ (rd_L5 l0 x13_1) _ _ (rd_L5 l1 x13_1) true _ ?side1 ?side2 ?side3 ?side4 A8.out).mono ?_); (case side1 => exact cC_ HR614_0); (case side2 => exact HC614_0.out); (case side3 => exact cC_ HR615_0); (case side4 => exact HC615_0.out); rintro e w' ⟨rfl, ⟨nd, rfl⟩⟩; (try exact dd_)))))
   go_roundg k1
   case measure => have := HK1.out; omega
   case rel => exact ⟨(wrap64 (x13_1 + 1)), z15_0_, H', ⟨by have := HK1.out; omega⟩, z15_1_⟩

/-! ### impl_IsGloss: function 50 -/
theorem impl_IsGloss.calls (k : Nat) (a0 : ByteArray) (r : Bool) (w : World) (h : impl_IsGloss.f k a0 = some r) :
 Calls Try.prog 50 #[.string a0] w fun e w' => e = .returned (.bool r) ∧ Drawn0 w w' := by
 have H : ((impl_isWordOf.f k a0 (⟨#[65, 66, 67, 68, 69, 70, 71, 72, 73, 74, 75, 76, 77, 78, 79, 80, 81, 82, 83, 84, 85, 86, 87, 88, 89, 90]⟩ : ByteArray)).bind fun t617 => (some t617)) = some r := h
 clear h
 replace H := ob_ H; obtain ⟨t617, A2, H⟩ := H; try dsimp only at H
 obtain rfl := Option.some.inj H
 go_enter Try.func50, Try.ntmps50
 go_wp2_with (first | (refine gM_ (some 4) Try.func64 #[.string a0, .string (⟨#[65, 66, 67, 68, 69, 70, 71, 72, 73, 74, 75, 76, 77, 78, 79, 80, 81, 82, 83, 84, 85, 86, 87, 88, 89, 90]⟩ : ByteArray)] ?_; (with_reducible refine (impl_isWordOf.calls k a0 (⟨#[65, 66, 67, 68, 69, 70, 71, 72, 73, 74, 75, 76, 77, 78, 79, 80, 81, 82, 83, 84, 85, 86, 87, 88, 89, 90]⟩ : ByteArray) t617 _ A2.out).mono ?_); rintro e w' ⟨rfl, ⟨nd, rfl⟩⟩; refine ⟨_, rfl, ?_⟩))
 go_ret
 exact ⟨z15_0_, z15_1_⟩

/-! ### impl_MatchesGloss: function 22 -/
theorem impl_MatchesGloss.calls (k : Nat) (a0 : ByteArray) (a1 : ByteArray) (r1 : Bool) (r2 : Bool) (w : World) (h : impl_MatchesGloss.f k a0 a1 = some (r1, r2)) :
 Calls Try.prog 22 #[.string a0, .string a1] w fun e w' => e = .returned (.tuple #[.bool r1, .bool r2]) ∧ Below w.heap.size w w' := by
 have HB := Aside0.mk (Below.refl w.heap.size w)
 have H : ((impl_isGlossPattern.f k a0).bind fun t618 => (if t618 = true then ((impl_IsGloss.f k a1).bind fun t619 => (if t619 = true then ((impl_fits.f k a0 a1).bind fun t620 => (some (t620, true))) else (some (false, false)))) else (some (false, false)))) = some (r1, r2) := h
 clear h
 replace H := ob_ H; obtain ⟨t618, A3, H⟩ := H; try dsimp only at H
 by_cases c4 : t618 = true
 rotate_left
 ·replace c4 := Bool.eq_false_iff.mpr c4
  subst c4
  replace H := in_ H (show ¬ (false = true) by decide)
  simp only [Option.some.injEq, Prod.mk.injEq] at H
  obtain ⟨rfl, rfl⟩ := H
  go_enter Try.func22, Try.ntmps22
  go_wp2_with (first | (refine gM_ (some 7) Try.func36 #[.string a0] ?_; (with_reducible refine (impl_isGlossPattern.calls k a0 false _ A3.out).mono ?_); rintro e w' ⟨rfl, ⟨nd, rfl⟩⟩; refine ⟨_, rfl, ?_⟩))
  go_ret2
  exact ⟨rT_, hB_⟩
 subst c4
 replace H := ip_ H rfl
 replace H := ob_ H; obtain ⟨t619, A5, H⟩ := H; try dsimp only at H
 have HC6 := Aside0.mk H
 clear H
 go_enter Try.func22, Try.ntmps22
 go_upto_if 13 with (first | (refine gM_ (some 7) Try.func36 #[.string a0] ?_; (with_reducible refine (impl_isGlossPattern.calls k a0 true _ A3.out).mono ?_); rintro e w' ⟨rfl, ⟨nd, rfl⟩⟩; refine ⟨_, rfl, ?_⟩) | (go_at_call 50; (with_reducible refine (impl_IsGloss.calls k a1 t619 _ A5.out).mono ?_); rintro e w' ⟨rfl, ⟨nd, rfl⟩⟩))
 (try simp only [Act.put, List.setIfInBounds_toArray, List.set_cons_zero, List.set_cons_succ])
 have H := HC6.out
 clear HC6
 by_cases c7 : t619 = true
 rotate_left
 ·replace c7 := Bool.eq_false_iff.mpr c7
  subst c7
  replace H := in_ H (show ¬ (false = true) by decide)
  simp only [Option.some.injEq, Prod.mk.injEq] at H
  obtain ⟨rfl, rfl⟩ := H
  go_wp2
  go_ret2
  exact ⟨rT_, hB_⟩
 subst c7
 replace H := ip_ H rfl
 replace H := ob_ H; obtain ⟨t620, A8, H⟩ := H; try dsimp only at H
 simp only [Option.some.injEq, Prod.mk.injEq] at H
 obtain ⟨rfl, rfl⟩ := H
 go_wp2_with (first | (refine gM_ (some 16) Try.func40 #[.string a0, .string a1] ?_; (with_reducible refine (impl_fits.calls k a0 a1 t620 _ A8.out).mono ?_); rintro e w9 ⟨rfl, hb⟩; refine ⟨_, rfl, ?_⟩; replace HB := aM_ (below_step hB_ hb); (try clear hb)))
 go_ret2
 exact ⟨rT_, hB_⟩

/-! ### spec_tiAt: function 51 -/
theorem spec_tiAt.calls (k : Nat) (A0 : Option Addr) (c0 : Nat) (l0 : List (S50)) (a1 : Int) (r : Int) (w : World) (hr0 : Kd.C k50 w A0 l0.length l0) (hc0 : l0.length ≤ c0) (h : spec_tiAt.f k l0 a1 = some r) :
 Calls Try.prog 51 #[.slice A0 l0.length c0, .int .i64 a1] w fun e w' => e = .returned (.int .i64 r) ∧ Below w.heap.size w w' := by
 have hu50 := Try.underlying50
 have HR0 := Aside0.mk hr0
 have HC0 := Aside0.mk hc0
 clear hr0 hc0
 have HB := Aside0.mk (Below.refl w.heap.size w)
 have H : (spec_tiAt.l0 k a1 l0 (l0.length : Int) 0) = some r := h
 clear h
 have H' := Aside0.mk H
 clear H
 go_enter Try.func51, Try.ntmps51
 go_wp2
 go_loopg [9] k (fun kq v9 w' => ∃ (x9_1 : Int), v9 = .int .i64 x9_1 ∧ Aside0 (spec_tiAt.l0 kq a1 l0 (l0.length : Int) x9_1 = some r) ∧ Aside0 (kq ≤ k) ∧ Aside0 (Below w.heap.size w w'))
 case atStart => exact ⟨(0), z15_0_, H', ⟨Nat.le_refl _⟩, ⟨hB_⟩⟩
 case round =>
  clear H'
  obtain ⟨x9_1, rfl, HA, HK1, HB⟩ := hrel
  cases gk with
  | zero => exact absurd HA.out (by simp [spec_tiAt.l0])
  | succ k1 =>
   have H := HA.out
   clear HA
   simp only [spec_tiAt.l0] at H
   replace H := iF_ H; obtain ⟨c3b0, H⟩ | ⟨c3b0, H⟩ := H
   ·obtain rfl := Option.some.inj H
    go_wp2
    go_ret
    exact ⟨rT_, hB_⟩
   replace H := ig_ H; obtain ⟨c4b0, H⟩ := H
   replace H := ig_ H; obtain ⟨c5b0, H⟩ := H
   replace H := ob_ H; obtain ⟨t623, A6, H⟩ := H; try dsimp only at H
   have HC7 := Aside0.mk H
   clear H
   have p621 : 0 ≤ (x9_1 : Int) := ode_
   have q621 : x9_1 < (l0.length : Int) := ode_
   obtain ⟨ad621, e621, hx621_0, hx621_1, hx621_2⟩ := at_T50 HR0.out x9_1 p621 q621
   cases e621
   replace hx621_0 := hc_ HB hx621_0
   replace hx621_1 := hc_ HB hx621_1
   replace hx621_2 := hc_ HB hx621_2
   replace p621 := eq_true p621
   replace q621 := eq_true q621
   go_upto_if 20 with (first | ((with_reducible refine gate_dst (N := 6) rfl ?_); refine bx_ 6 #[.int .i64 0, .int .i64 0, .string (⟨#[]⟩ : ByteArray)] 50 fun gb622 hg w8 hbox hb => ?_; have BK622 := aM_ (hbox); have GW622 := aM_ (gw_ w hg); have GE622 := aM_ (gw_ w hg); replace HB := aM_ (below_step hB_ hb); clear hb hbox hg; have hz9 := cf3_ BK622.out) | (refine gM_ (some 20) Try.func66 #[.int .i64 a1, .int .i64 ((rd_T50 l0 x9_1).f0), .int .i64 (wrap64 (((rd_T50 l0 x9_1).f1) - 1))] ?_; (with_reducible refine (spec_l1In.calls a1 ((rd_T50 l0 x9_1).f0) (wrap64 (((rd_T50 l0 x9_1).f1) - 1)) t623 _ A6.out).mono ?_); rintro e w' ⟨rfl, ⟨nd, rfl⟩⟩; refine ⟨_, rfl, ?_⟩))
   (try simp only [Act.put, List.setIfInBounds_toArray, List.set_cons_zero, List.set_cons_succ])
   have H := HC7.out
   clear HC7
   by_cases c10 : t623 = true
   ·subst c10
    replace H := ip_ H rfl
    obtain rfl := Option.some.inj H
    go_wp2
    go_ret
    exact ⟨rT_, hB_⟩
   replace c10 := Bool.eq_false_iff.mpr c10
   subst c10
   replace H := in_ H (show ¬ (false = true) by decide)
   have H' := Aside0.mk H
   clear H
   go_wp2
   go_roundg k1
   case measure => have := HK1.out; omega
   case rel => exact ⟨(wrap64 (x9_1 + 1)), z15_0_, H', ⟨by have := HK1.out; omega⟩, ⟨hB_⟩⟩

/-! ### spec_NoteAt: function 23 -/
theorem spec_NoteAt.calls (k : Nat) (A0 : Option Addr) (c0 : Nat) (l0 : List (S50)) (a1 : Int) (r1 : Int) (r2 : Bool) (w : World) (hr0 : Kd.C k50 w A0 l0.length l0) (hc0 : l0.length ≤ c0) (h : spec_NoteAt.f k l0 a1 = some (r1, r2)) :
 Calls Try.prog 23 #[.slice A0 l0.length c0, .int .i64 a1] w fun e w' => e = .returned (.tuple #[.int .i64 r1, .bool r2]) ∧ Below w.heap.size w w' := by
 have HR0 := Aside0.mk hr0
 have HC0 := Aside0.mk hc0
 clear hr0 hc0
 have HB := Aside0.mk (Below.refl w.heap.size w)
 have H : ((spec_tiGood.f k l0).bind fun t624 => (if t624 = true then ((spec_tiFrame.f a1).bind fun t625 => (if t625 = true then ((spec_tiAt.f k l0 a1).bind fun t626 => (if t626 < 0 then (some (0, false)) else ((spec_tiAt.f k l0 a1).bind fun t627 => (some (t627, true))))) else (some (0, false)))) else (some (0, false)))) = some (r1, r2) := h
 clear h
 replace H := ob_ H; obtain ⟨t624, A3, H⟩ := H; try dsimp only at H
 by_cases c4 : t624 = true
 rotate_left
 ·replace c4 := Bool.eq_false_iff.mpr c4
  subst c4
  replace H := in_ H (show ¬ (false = true) by decide)
  simp only [Option.some.injEq, Prod.mk.injEq] at H
  obtain ⟨rfl, rfl⟩ := H
  go_enter Try.func23, Try.ntmps23
  go_wp2_with (first | (refine gM_ (some 7) Try.func31 #[.slice A0 l0.length c0] ?_; (with_reducible refine (spec_tiGood.calls k _ _ l0 false _ ?side1 ?side2 A3.out).mono ?_); (case side1 => exact cC_ HR0); (case side2 => exact HC0.out); rintro e w15 ⟨rfl, hb⟩; refine ⟨_, rfl, ?_⟩; replace HB := aM_ (below_step hB_ hb); (try clear hb)))
  go_ret2
  exact ⟨rT_, hB_⟩
 subst c4
 replace H := ip_ H rfl
 replace H := ob_ H; obtain ⟨t625, A5, H⟩ := H; try dsimp only at H
 by_cases c6 : t625 = true
 rotate_left
 ·replace c6 := Bool.eq_false_iff.mpr c6
  subst c6
  replace H := in_ H (show ¬ (false = true) by decide)
  simp only [Option.some.injEq, Prod.mk.injEq] at H
  obtain ⟨rfl, rfl⟩ := H
  go_enter Try.func23, Try.ntmps23
  go_wp2_with (first | (refine gM_ (some 7) Try.func31 #[.slice A0 l0.length c0] ?_; (with_reducible refine (spec_tiGood.calls k _ _ l0 true _ ?side1 ?side2 A3.out).mono ?_); (case side1 => exact cC_ HR0); (case side2 => exact HC0.out); rintro e w14 ⟨rfl, hb⟩; refine ⟨_, rfl, ?_⟩; replace HB := aM_ (below_step hB_ hb); (try clear hb)) | (go_at_call 42; (with_reducible refine (spec_tiFrame.calls a1 false _ A5.out).mono ?_); rintro e w' ⟨rfl, ⟨nd, rfl⟩⟩))
  go_ret2
  exact ⟨rT_, hB_⟩
 subst c6
 replace H := ip_ H rfl
 replace H := ob_ H; obtain ⟨t626, A7, H⟩ := H; try dsimp only at H
 have HC8 := Aside0.mk H
 clear H
 go_enter Try.func23, Try.ntmps23
 go_upto_if 19 with (first | (refine gM_ (some 7) Try.func31 #[.slice A0 l0.length c0] ?_; (with_reducible refine (spec_tiGood.calls k _ _ l0 true _ ?side1 ?side2 A3.out).mono ?_); (case side1 => exact cC_ HR0); (case side2 => exact HC0.out); rintro e w9 ⟨rfl, hb⟩; refine ⟨_, rfl, ?_⟩; replace HB := aM_ (below_step hB_ hb); (try clear hb)) | (go_at_call 42; (with_reducible refine (spec_tiFrame.calls a1 true _ A5.out).mono ?_); rintro e w' ⟨rfl, ⟨nd, rfl⟩⟩) | (go_at_call 51; (with_reducible refine (spec_tiAt.calls k _ _ l0 a1 t626 _ ?side1 ?side2 A7.out).mono ?_); (case side1 => exact (by repeat (first | exact (Kd.C_below HR0.out hB_) | (with_reducible first | apply cA_ | apply cN_ | apply cD_)))); (case side2 => exact HC0.out); rintro e w10 ⟨rfl, hb⟩; replace HB := aM_ (below_step hB_ hb); (try clear hb)))
 (try simp only [Act.put, List.setIfInBounds_toArray, List.set_cons_zero, List.set_cons_succ])
 have H := HC8.out
 clear HC8
 replace H := iT_ H; obtain ⟨c11b0, H⟩ | ⟨c11b0, H⟩ := H
 ·(first | rw [c11b0] | (simp only [i64_w, i32_w]; rw [c11b0]) | skip)
  simp only [Option.some.injEq, Prod.mk.injEq] at H
  obtain ⟨rfl, rfl⟩ := H
  go_wp2
  go_ret2
  exact ⟨rT_, hB_⟩
 (first | rw [c11b0] | (simp only [i64_w, i32_w]; rw [c11b0]) | skip)
 replace H := ob_ H; obtain ⟨t627, A12, H⟩ := H; try dsimp only at H
 simp only [Option.some.injEq, Prod.mk.injEq] at H
 obtain ⟨rfl, rfl⟩ := H
 go_wp2_with (first | (refine gM_ (some 22) Try.func51 #[.slice A0 l0.length c0, .int .i64 a1] ?_; (with_reducible refine (spec_tiAt.calls k _ _ l0 a1 t627 _ ?side1 ?side2 A12.out).mono ?_); (case side1 => exact (by repeat (first | exact (Kd.C_below HR0.out HB.out) | (with_reducible first | apply cA_ | apply cN_ | apply cD_)))); (case side2 => exact HC0.out); rintro e w13 ⟨rfl, hb⟩; refine ⟨_, rfl, ?_⟩; replace HB := aM_ (below_step hB_ hb); (try clear hb)))
 go_ret2
 exact ⟨rT_, hB_⟩

/-! ### spec_MatchesGloss: function 24 -/
theorem spec_MatchesGloss.calls (k : Nat) (a0 : ByteArray) (a1 : ByteArray) (r1 : Bool) (r2 : Bool) (w : World) (h : spec_MatchesGloss.f k a0 a1 = some (r1, r2)) :
 Calls Try.prog 24 #[.string a0, .string a1] w fun e w' => e = .returned (.tuple #[.bool r1, .bool r2]) ∧ Below w.heap.size w w' := by
 have HB := Aside0.mk (Below.refl w.heap.size w)
 have H : ((spec_quPattern.f k a0).bind fun t628 => (if t628 = true then ((spec_fsWord.f k a1).bind fun t629 => (if t629 = true then ((spec_quLike.f k a0 a1).bind fun t630 => (some (t630, true))) else (some (false, false)))) else (some (false, false)))) = some (r1, r2) := h
 clear h
 replace H := ob_ H; obtain ⟨t628, A3, H⟩ := H; try dsimp only at H
 by_cases c4 : t628 = true
 rotate_left
 ·replace c4 := Bool.eq_false_iff.mpr c4
  subst c4
  replace H := in_ H (show ¬ (false = true) by decide)
  simp only [Option.some.injEq, Prod.mk.injEq] at H
  obtain ⟨rfl, rfl⟩ := H
  go_enter Try.func24, Try.ntmps24
  go_wp2_with (first | (refine gM_ (some 7) Try.func41 #[.string a0] ?_; (with_reducible refine (spec_quPattern.calls k a0 false _ A3.out).mono ?_); rintro e w' ⟨rfl, ⟨nd, rfl⟩⟩; refine ⟨_, rfl, ?_⟩))
  go_ret2
  exact ⟨rT_, hB_⟩
 subst c4
 replace H := ip_ H rfl
 replace H := ob_ H; obtain ⟨t629, A5, H⟩ := H; try dsimp only at H
 have HC6 := Aside0.mk H
 clear H
 go_enter Try.func24, Try.ntmps24
 go_upto_if 13 with (first | (refine gM_ (some 7) Try.func41 #[.string a0] ?_; (with_reducible refine (spec_quPattern.calls k a0 true _ A3.out).mono ?_); rintro e w' ⟨rfl, ⟨nd, rfl⟩⟩; refine ⟨_, rfl, ?_⟩) | (go_at_call 52; (with_reducible refine (spec_fsWord.calls k a1 t629 _ A5.out).mono ?_); rintro e w' ⟨rfl, ⟨nd, rfl⟩⟩))
 (try simp only [Act.put, List.setIfInBounds_toArray, List.set_cons_zero, List.set_cons_succ])
 have H := HC6.out
 clear HC6
 by_cases c7 : t629 = true
 rotate_left
 ·replace c7 := Bool.eq_false_iff.mpr c7
  subst c7
  replace H := in_ H (show ¬ (false = true) by decide)
  simp only [Option.some.injEq, Prod.mk.injEq] at H
  obtain ⟨rfl, rfl⟩ := H
  go_wp2
  go_ret2
  exact ⟨rT_, hB_⟩
 subst c7
 replace H := ip_ H rfl
 replace H := ob_ H; obtain ⟨t630, A8, H⟩ := H; try dsimp only at H
 simp only [Option.some.injEq, Prod.mk.injEq] at H
 obtain ⟨rfl, rfl⟩ := H
 go_wp2_with (first | (refine gM_ (some 16) Try.func43 #[.string a0, .string a1] ?_; (with_reducible refine (spec_quLike.calls k a0 a1 t630 _ A8.out).mono ?_); rintro e w9 ⟨rfl, hb⟩; refine ⟨_, rfl, ?_⟩; replace HB := aM_ (below_step hB_ hb); (try clear hb)))
 go_ret2
 exact ⟨rT_, hB_⟩

/-! ### laws_qHas: function 25 -/
theorem laws_qHas.calls (k : Nat) (A0 : Option Addr) (c0 : Nat) (l0 : List Int) (a1 : Int) (r : Bool) (w : World) (hr0 : Kd.C (Kd.int .i64) w A0 l0.length l0) (hc0 : l0.length ≤ c0) (h : laws_qHas.f k l0 a1 = some r) :
 Calls Try.prog 25 #[.slice A0 l0.length c0, .int .i64 a1] w fun e w' => e = .returned (.bool r) ∧ Drawn0 w w' := by
 have HR0 := Aside0.mk hr0
 have HC0 := Aside0.mk hc0
 clear hr0 hc0
 have H : (laws_qHas.l0 k a1 l0 (l0.length : Int) 0) = some r := h
 clear h
 have H' := Aside0.mk H
 clear H
 go_enter Try.func25, Try.ntmps25
 go_wp2
 go_loopg [9] k (fun kq v9 w' => ∃ (x9_1 : Int), v9 = .int .i64 x9_1 ∧ Aside0 (laws_qHas.l0 kq a1 l0 (l0.length : Int) x9_1 = some r) ∧ Aside0 (kq ≤ k) ∧ Drawn0 w w')
 case atStart => exact ⟨(0), z15_0_, H', ⟨Nat.le_refl _⟩, z15_1_⟩
 case round =>
  clear H'
  obtain ⟨x9_1, rfl, HA, HK1, ⟨m1, rfl⟩⟩ := hrel
  cases gk with
  | zero => exact absurd HA.out (by simp [laws_qHas.l0])
  | succ k1 =>
   have H := HA.out
   clear HA
   simp only [laws_qHas.l0] at H
   replace H := iF_ H; obtain ⟨c3b0, H⟩ | ⟨c3b0, H⟩ := H
   ·obtain rfl := Option.some.inj H
    go_wp2
    go_ret
    exact ⟨z15_0_, z15_1_⟩
   replace H := ig_ H; obtain ⟨c4b0, H⟩ := H
   replace H := ig_ H; obtain ⟨c5b0, H⟩ := H
   by_cases c6 : (rd l0 x9_1) = a1
   ·rw [if_pos c6] at H
    have c6b0 : ((rd l0 x9_1) == a1) = true := beq_iff_eq.mpr c6
    have c6b1 : ((rd l0 x9_1) != a1) = false := bne_eq_false_iff_eq.mpr c6
    clear c6
    obtain rfl := Option.some.inj H
    obtain ⟨⟨ad631, e631, hx631_0⟩, p631, q631⟩ := at2_ (Kd.at_int HR0.out x9_1); cases e631
    go_wp2
    go_ret
    exact ⟨z15_0_, z15_1_⟩
   rw [if_neg c6] at H
   have c6b0 : ((rd l0 x9_1) == a1) = false := beq_eq_false_iff_ne.mpr c6
   have c6b1 : ((rd l0 x9_1) != a1) = true := bne_iff_ne.mpr c6
   have H' := Aside0.mk H
   clear H
   obtain ⟨⟨ad631, e631, hx631_0⟩, p631, q631⟩ := at2_ (Kd.at_int HR0.out x9_1); cases e631
   go_wp2
   go_roundg k1
   case measure => have := HK1.out; omega
   case rel => exact ⟨(wrap64 (x9_1 + 1)), z15_0_, H', ⟨by have := HK1.out; omega⟩, z15_1_⟩

end Go.Proofs.Ytbfkpgmdbafmhaa.PFnTierCounts
