/- Written by a program of this claim's author, out of the loaded program as Lean prints it: the functions as Lean functions, and that the calls answer so. -/
import Derived.Test.YtmongpocangocaaPFnExactTeachOrderx0
import Derived.Test.YtmongpocangocaaPFnExactTeachOrderx5
import Derived.Test.YtmongpocangocaaPFnExactTeachOrderx7
import Derived.Test.YtmongpocangocaaPFnExactTeachOrderxD0
namespace Go.Proofs.Ytmongpocangocaa.PFnExactTeachOrder
open Go.RowKit Go.Proofs.YtmongpocangocaaW.PrintWords Go.Proofs.YtmongpocangocaaW.PrintLast Go.Proofs.YtmongpocangocaaW.PrintMore
attribute [local go_sem] max2_int min2_int max_two min_two max_three min_three max_four min_four isSome_setCell   -- for this text's walks alone
theorem yactTeachOrderx8_0_ {p : Prop} (h : p := by first | (with_reducible assumption) | assumption) : p := h
theorem yactTeachOrderx8_1_ {p : Prop} (h : p := by (try simp only [List.map_toArray, List.map_cons, List.map_nil]); first | done | rfl | simp | (simp; rfl)) : p := h
abbrev bactTeachOrderx8_13_0 : Array Bool := #[false, false, false, false, false, false, false, false, false, false, false, false, false]
abbrev bactTeachOrderx8_13_1f : Array Bool := #[true, true, true, true, true, false, false, false, false, false, false, false, false]
abbrev bactTeachOrderx8_13_1ff : Array Bool := #[true, true, true, true, true, true, true, true, true, false, false, false, false]
abbrev bactTeachOrderx8_13_1fff : Array Bool := #[true, true, true, true, true, true, true, true, true, true, true, true, true]
abbrev bactTeachOrderx8_13_2 : Array Bool := #[false, true, false, false, false, false, false, false, false, false, false, false, false]
abbrev bactTeachOrderx8_13_3 : Array Bool := #[true, true, false, false, false, false, false, false, false, false, false, false, false]
abbrev bactTeachOrderx8_13_3f : Array Bool := #[true, true, true, true, true, true, false, false, false, false, false, false, false]
abbrev bactTeachOrderx8_13_3ff : Array Bool := #[true, true, true, true, true, true, true, true, true, true, false, false, false]
abbrev bactTeachOrderx8_13_5f : Array Bool := #[true, true, true, true, true, false, true, false, false, false, false, false, false]
abbrev bactTeachOrderx8_13_7 : Array Bool := #[true, true, true, false, false, false, false, false, false, false, false, false, false]
abbrev bactTeachOrderx8_13_7f : Array Bool := #[true, true, true, true, true, true, true, false, false, false, false, false, false]
abbrev bactTeachOrderx8_13_7ff : Array Bool := #[true, true, true, true, true, true, true, true, true, true, true, false, false]
abbrev bactTeachOrderx8_13_f : Array Bool := #[true, true, true, true, false, false, false, false, false, false, false, false, false]
abbrev bactTeachOrderx8_13_ff : Array Bool := #[true, true, true, true, true, true, true, true, false, false, false, false, false]
abbrev bactTeachOrderx8_13_fff : Array Bool := #[true, true, true, true, true, true, true, true, true, true, true, true, false]
set_option linter.unusedVariables false
set_option linter.unusedSimpArgs false

/-! ### slices_IndexFunc_int_impl_allOf_int_1_impl_hasNeeds_1: function 106 -/
set_option maxHeartbeats 8000000 in
set_option maxRecDepth 100000 in
theorem slices_IndexFunc_int_impl_allOf_int_1_impl_hasNeeds_1.calls (k : Nat) (A0 : Option Addr) (c0 : Nat) (l0 : List Int) (g1_0 : Nat) (g1_1 : Nat) (A1_0 : Option Addr) (c1_0 : Nat) (l1_0 : List Int) (r : Int) (w : World) (hr0 : Kd.C (Kd.int .i64) w A0 l0.length l0) (hc0 : l0.length ≤ c0) (hr1_0 : Kd.C (Kd.int .i64) w A1_0 l1_0.length l1_0) (hc1_0 : l1_0.length ≤ c1_0) (hb1_0 : w.heap[g1_0]? = some (.cells #[.func (.func 49) #[] #[.pointer (some ⟨g1_1, 0, none⟩)]] 50 (0, 0))) (hb1_1 : w.heap[g1_1]? = some (.cells #[.slice A1_0 l1_0.length c1_0] 24 (0, 0))) (h : slices_IndexFunc_int_impl_allOf_int_1_impl_hasNeeds_1.f k l0 l1_0 = some r) :
 Calls Try.prog 61 #[.slice A0 l0.length c0, .func (.func 59) #[] #[.pointer (some ⟨g1_0, 0, none⟩)]] w fun e w' => e = .returned (.int .i64 r) ∧ Below w.heap.size w w' := by
 have HR0 := Aside0.mk hr0
 have HC0 := Aside0.mk hc0
 clear hr0 hc0
 have HR1_0 := Aside0.mk hr1_0
 have HC1_0 := Aside0.mk hc1_0
 clear hr1_0 hc1_0
 have BK38 := Aside0.mk hb1_0
 clear hb1_0
 have BK39 := Aside0.mk hb1_1
 clear hb1_1
 have HB := Aside0.mk (Below.refl w.heap.size w)
 have H : (slices_IndexFunc_int_impl_allOf_int_1_impl_hasNeeds_1.l0 k l0 (l0.length : Int) 0 l1_0) = some r := h
 clear h
 have H' := Aside0.mk H
 clear H
 go_enter Try.func61, Try.ntmps61
 go_wp2
 go_loopg [8] k (fun kq v8 w' => ∃ (x8_1 : Int), v8 = .int .i64 x8_1 ∧ Aside0 (slices_IndexFunc_int_impl_allOf_int_1_impl_hasNeeds_1.l0 kq l0 (l0.length : Int) x8_1 l1_0 = some r) ∧ Aside0 (kq ≤ k) ∧ Aside0 (w'.heap[g1_0]? = some (.cells #[(.func (.func 49) #[] #[.pointer (some ⟨g1_1, 0, none⟩)])] 50 (0, 0))) ∧ Aside0 (w'.heap[g1_1]? = some (.cells #[(.slice A1_0 l1_0.length c1_0)] 24 (0, 0))) ∧ Aside0 (Below w.heap.size w w'))
 case atStart => exact ⟨(0), (by first | rfl | (simp; done) | (simp [*]; done)), H', ⟨Nat.le_refl _⟩, ⟨kP_⟩, ⟨kP_⟩, ⟨hB_⟩⟩
 case round =>
  clear H'
  obtain ⟨x8_1, rfl, HA, HK1, BK38, BK39, HB⟩ := hrel
  cases gk with
  | zero => exact absurd HA.out (by simp [slices_IndexFunc_int_impl_allOf_int_1_impl_hasNeeds_1.l0])
  | succ k1 =>
   have H := HA.out
   clear HA
   simp only [slices_IndexFunc_int_impl_allOf_int_1_impl_hasNeeds_1.l0] at H
   by_cases c3 : x8_1 < (l0.length : Int)
   ·rw [if_pos c3] at H
    have c3b0 : decide (x8_1 < (l0.length : Int)) = true := decide_eq_true c3
    clear c3
    by_cases c4 : 0 ≤ x8_1
    ·rw [if_pos c4] at H
     have c4b0 : decide (0 ≤ x8_1) = true := decide_eq_true c4
     clear c4
     by_cases c5 : x8_1 < (l0.length : Int)
     ·rw [if_pos c5] at H
      have c5b0 : decide (x8_1 < (l0.length : Int)) = true := decide_eq_true c5
      clear c5
      replace H := Option.bind_eq_some_iff.mp H
      obtain ⟨t230, A60, H⟩ := H
      try dsimp only at H
      have A6 := Aside0.mk A60
      clear A60
      by_cases c7 : t230 = true
      ·subst c7
       replace H := ip_ H rfl
       obtain rfl := Option.some.inj H
       have p229 : 0 ≤ (x8_1 : Int) := of_decide_eq_true yactTeachOrderx8_0_
       have q229 : x8_1 < (l0.length : Int) := of_decide_eq_true yactTeachOrderx8_0_
       obtain ⟨ad229, e229, hx229_0⟩ := Kd.at_int HR0.out x8_1 p229 q229
       cases e229
       replace hx229_0 := (HB.out.cell (World.block_lt_of_cell? w _ hx229_0)).trans hx229_0
       replace p229 := eq_true p229
       replace q229 := eq_true q229
       go_wp2_with (first | ((with_reducible refine gate_via (t := 11) rfl ?_); refine goesV_ (some 16) rfl rfl Try.func59 (by kernel_rfl) rfl #[.int .i64 (rd l0 x8_1), .pointer (some ⟨g1_0, 0, none⟩)] rfl rfl yactTeachOrderx8_1_ ?_; (with_reducible refine (impl_allOf_int_1_impl_hasNeeds_1.calls k1 (rd l0 x8_1) g1_0 g1_1 A1_0 c1_0 l1_0 true _ ?side1 ?side2 ?side3 ?side4 A6.out).mono ?_); (case side1 => repeat (first | exact (Kd.C_below HR1_0.out HB.out) | (with_reducible refine Kd.C_alloc ?_ _) | (with_reducible refine Kd.C_drewN ?_ _) | (with_reducible refine Kd.C_drew ?_))); (case side2 => exact HC1_0.out); (case side3 => (with_reducible repeat (first | apply kN_ | apply kD_ | apply kA_)); exact BK38.out); (case side4 => (with_reducible repeat (first | apply kN_ | apply kD_ | apply kA_)); exact BK39.out); rintro e w8 ⟨rfl, hb⟩; refine ⟨_, rfl, ?_⟩; replace BK38 := aM_ (blk_below (g := g1_0) (kR_ BK38) hb); replace BK39 := aM_ (blk_below (g := g1_1) (kR_ BK39) hb); replace HB := aM_ (below_step hB_ hb); (try clear hb); (try clear hb2); (try clear hk); (try clear hi)))
       go_ret
       exact ⟨rT_, hB_⟩
      ·replace c7 := Bool.eq_false_iff.mpr c7
       subst c7
       replace H := in_ H (show ¬ (false = true) by decide)
       have H' := Aside0.mk H
       clear H
       have p229 : 0 ≤ (x8_1 : Int) := of_decide_eq_true yactTeachOrderx8_0_
       have q229 : x8_1 < (l0.length : Int) := of_decide_eq_true yactTeachOrderx8_0_
       obtain ⟨ad229, e229, hx229_0⟩ := Kd.at_int HR0.out x8_1 p229 q229
       cases e229
       replace hx229_0 := (HB.out.cell (World.block_lt_of_cell? w _ hx229_0)).trans hx229_0
       replace p229 := eq_true p229
       replace q229 := eq_true q229
       go_wp2_with (first | ((with_reducible refine gate_via (t := 11) rfl ?_); refine goesV_ (some 16) rfl rfl Try.func59 (by kernel_rfl) rfl #[.int .i64 (rd l0 x8_1), .pointer (some ⟨g1_0, 0, none⟩)] rfl rfl yactTeachOrderx8_1_ ?_; (with_reducible refine (impl_allOf_int_1_impl_hasNeeds_1.calls k1 (rd l0 x8_1) g1_0 g1_1 A1_0 c1_0 l1_0 false _ ?side1 ?side2 ?side3 ?side4 A6.out).mono ?_); (case side1 => repeat (first | exact (Kd.C_below HR1_0.out HB.out) | (with_reducible refine Kd.C_alloc ?_ _) | (with_reducible refine Kd.C_drewN ?_ _) | (with_reducible refine Kd.C_drew ?_))); (case side2 => exact HC1_0.out); (case side3 => (with_reducible repeat (first | apply kN_ | apply kD_ | apply kA_)); exact BK38.out); (case side4 => (with_reducible repeat (first | apply kN_ | apply kD_ | apply kA_)); exact BK39.out); rintro e w9 ⟨rfl, hb⟩; refine ⟨_, rfl, ?_⟩; replace BK38 := aM_ (blk_below (g := g1_0) (kR_ BK38) hb); replace BK39 := aM_ (blk_below (g := g1_1) (kR_ BK39) hb); replace HB := aM_ (below_step hB_ hb); (try clear hb); (try clear hb2); (try clear hk); (try clear hi)))
       go_roundg k1
       case measure => have := HK1.out; omega
       case rel => exact ⟨(wrap64 (x8_1 + 1)), (by first | rfl | (simp; done) | (simp [*]; done)), H', ⟨by have := HK1.out; omega⟩, ⟨kP_⟩, ⟨kP_⟩, ⟨hB_⟩⟩
     ·rw [if_neg c5] at H
      exact absurd H (by simp)
    ·rw [if_neg c4] at H
     exact absurd H (by simp)
   ·rw [if_neg c3] at H
    have c3b0 : decide (x8_1 < (l0.length : Int)) = false := decide_eq_false c3
    clear c3
    obtain rfl := Option.some.inj H
    go_wp2
    go_ret
    exact ⟨rT_, hB_⟩

/-! ### slices_ContainsFunc_int_impl_allOf_int_1_impl_hasNeeds_1: function 105 -/
set_option maxHeartbeats 8000000 in
set_option maxRecDepth 100000 in
theorem slices_ContainsFunc_int_impl_allOf_int_1_impl_hasNeeds_1.calls (k : Nat) (A0 : Option Addr) (c0 : Nat) (l0 : List Int) (g1_0 : Nat) (g1_1 : Nat) (A1_0 : Option Addr) (c1_0 : Nat) (l1_0 : List Int) (r : Bool) (w : World) (hr0 : Kd.C (Kd.int .i64) w A0 l0.length l0) (hc0 : l0.length ≤ c0) (hr1_0 : Kd.C (Kd.int .i64) w A1_0 l1_0.length l1_0) (hc1_0 : l1_0.length ≤ c1_0) (hb1_0 : w.heap[g1_0]? = some (.cells #[.func (.func 49) #[] #[.pointer (some ⟨g1_1, 0, none⟩)]] 50 (0, 0))) (hb1_1 : w.heap[g1_1]? = some (.cells #[.slice A1_0 l1_0.length c1_0] 24 (0, 0))) (h : slices_ContainsFunc_int_impl_allOf_int_1_impl_hasNeeds_1.f k l0 l1_0 = some r) :
 Calls Try.prog 51 #[.slice A0 l0.length c0, .func (.func 59) #[] #[.pointer (some ⟨g1_0, 0, none⟩)]] w fun e w' => e = .returned (.bool r) ∧ Below w.heap.size w w' := by
 have HR0 := Aside0.mk hr0
 have HC0 := Aside0.mk hc0
 clear hr0 hc0
 have HR1_0 := Aside0.mk hr1_0
 have HC1_0 := Aside0.mk hc1_0
 clear hr1_0 hc1_0
 have BK38 := Aside0.mk hb1_0
 clear hb1_0
 have BK39 := Aside0.mk hb1_1
 clear hb1_1
 have HB := Aside0.mk (Below.refl w.heap.size w)
 have H : ((slices_IndexFunc_int_impl_allOf_int_1_impl_hasNeeds_1.f k l0 l1_0).bind fun t231 => (some (decide (t231 ≥ 0)))) = some r := h
 clear h
 replace H := Option.bind_eq_some_iff.mp H
 obtain ⟨t231, A30, H⟩ := H
 try dsimp only at H
 have A3 := Aside0.mk A30
 clear A30
 obtain rfl := Option.some.inj H
 go_enter Try.func51, Try.ntmps51
 go_wp2_with (first | ((with_reducible refine gate_callee (f := 61) rfl ?_); refine goesM_ (some 7) Try.func61 #[.slice A0 l0.length c0, .func (.func 59) #[] #[.pointer (some ⟨g1_0, 0, none⟩)]] ?_; (with_reducible refine (slices_IndexFunc_int_impl_allOf_int_1_impl_hasNeeds_1.calls k _ _ l0 g1_0 g1_1 A1_0 c1_0 l1_0 t231 _ ?side1 ?side2 ?side3 ?side4 ?side5 ?side6 A3.out).mono ?_); (case side1 => repeat (first | exact HR0.out | (with_reducible refine Kd.C_alloc ?_ _) | (with_reducible refine Kd.C_drewN ?_ _) | (with_reducible refine Kd.C_drew ?_))); (case side2 => exact HC0.out); (case side3 => repeat (first | exact HR1_0.out | (with_reducible refine Kd.C_alloc ?_ _) | (with_reducible refine Kd.C_drewN ?_ _) | (with_reducible refine Kd.C_drew ?_))); (case side4 => exact HC1_0.out); (case side5 => (with_reducible repeat (first | apply kN_ | apply kD_ | apply kA_)); exact BK38.out); (case side6 => (with_reducible repeat (first | apply kN_ | apply kD_ | apply kA_)); exact BK39.out); rintro e w4 ⟨rfl, hb⟩; refine ⟨_, rfl, ?_⟩; replace BK38 := aM_ (blk_below (g := g1_0) (kR_ BK38) hb); replace BK39 := aM_ (blk_below (g := g1_1) (kR_ BK39) hb); replace HB := aM_ (below_step hB_ hb); (try clear hb); (try clear hb2); (try clear hk); (try clear hi)))
 go_ret
 exact ⟨rT_, hB_⟩

/-! ### impl_allOf_int_impl_hasNeeds_1: function 104 -/
set_option maxHeartbeats 8000000 in
set_option maxRecDepth 100000 in
theorem impl_allOf_int_impl_hasNeeds_1.calls (k : Nat) (A0 : Option Addr) (c0 : Nat) (l0 : List Int) (g1_0 : Nat) (A1_0 : Option Addr) (c1_0 : Nat) (l1_0 : List Int) (r : Bool) (w : World) (hr0 : Kd.C (Kd.int .i64) w A0 l0.length l0) (hc0 : l0.length ≤ c0) (hr1_0 : Kd.C (Kd.int .i64) w A1_0 l1_0.length l1_0) (hc1_0 : l1_0.length ≤ c1_0) (hb1_0 : w.heap[g1_0]? = some (.cells #[.slice A1_0 l1_0.length c1_0] 24 (0, 0))) (h : impl_allOf_int_impl_hasNeeds_1.f k l0 l1_0 = some r) :
 Calls Try.prog 48 #[.slice A0 l0.length c0, .func (.func 49) #[] #[.pointer (some ⟨g1_0, 0, none⟩)]] w fun e w' => e = .returned (.bool r) ∧ Below w.heap.size w w' := by
 have hu50 := Try.underlying50
 have HR0 := Aside0.mk hr0
 have HC0 := Aside0.mk hc0
 clear hr0 hc0
 have HR1_0 := Aside0.mk hr1_0
 have HC1_0 := Aside0.mk hc1_0
 clear hr1_0 hc1_0
 have BK38 := Aside0.mk hb1_0
 clear hb1_0
 have HB := Aside0.mk (Below.refl w.heap.size w)
 have H : ((slices_ContainsFunc_int_impl_allOf_int_1_impl_hasNeeds_1.f k l0 l1_0).bind fun t233 => (some (!t233))) = some r := h
 clear h
 replace H := Option.bind_eq_some_iff.mp H
 obtain ⟨t233, A30, H⟩ := H
 try dsimp only at H
 have A3 := Aside0.mk A30
 clear A30
 obtain rfl := Option.some.inj H
 go_enter Try.func48, Try.ntmps48
 go_wp2_with (first | ((with_reducible refine gate_dst (N := 3) rfl ?_); refine box_event ?hg (N := 3) ?hd (cs := #[.func (.func 49) #[] #[.pointer (some ⟨g1_0, 0, none⟩)]]) (t := 50) ?hr ?_; (case hd => rfl); (case hg => rfl); (case hr => first | (go_simp; done) | (go_simp; rfl)); intro gb232 hg w4 hbox hb; have BK232 := aM_ (hbox); have GW232 := aM_ (gw_ w hg); have GE232 := aM_ (gw_ w hg); have NB38_232 := aM_ (nb_ g1_0 hg); have NB232_38 := aM_ (nc_ g1_0 hg); replace BK38 := aM_ (blk_below (g := g1_0) (kR_ BK38) hb); replace HB := aM_ (below_step hB_ hb); clear hb hbox hg) | ((with_reducible refine gate_callee (f := 51) rfl ?_); refine goesM_ (some 7) Try.func51 #[.slice A0 l0.length c0, .func (.func 59) #[] #[.pointer (some ⟨gb232, 0, none⟩)]] ?_; (with_reducible refine (slices_ContainsFunc_int_impl_allOf_int_1_impl_hasNeeds_1.calls k _ _ l0 gb232 g1_0 A1_0 c1_0 l1_0 t233 _ ?side1 ?side2 ?side3 ?side4 ?side5 ?side6 A3.out).mono ?_); (case side1 => repeat (first | exact (Kd.C_below HR0.out HB.out) | (with_reducible refine Kd.C_alloc ?_ _) | (with_reducible refine Kd.C_drewN ?_ _) | (with_reducible refine Kd.C_drew ?_))); (case side2 => exact HC0.out); (case side3 => repeat (first | exact (Kd.C_below HR1_0.out HB.out) | (with_reducible refine Kd.C_alloc ?_ _) | (with_reducible refine Kd.C_drewN ?_ _) | (with_reducible refine Kd.C_drew ?_))); (case side4 => exact HC1_0.out); (case side5 => (with_reducible repeat (first | apply kN_ | apply kD_ | apply kA_)); exact BK232.out); (case side6 => (with_reducible repeat (first | apply kN_ | apply kD_ | apply kA_)); exact BK38.out); rintro e w5 ⟨rfl, hb⟩; refine ⟨_, rfl, ?_⟩; replace BK38 := aM_ (blk_below (g := g1_0) (kR_ BK38) hb); replace BK232 := aM_ (blk_below (g := gb232) (kR_ BK232) hb); replace HB := aM_ (below_step hB_ hb); (try clear hb); (try clear hb2); (try clear hk); (try clear hi)))
 go_ret
 exact ⟨rT_, hB_⟩

/-! ### impl_hasNeeds: function 31 -/
set_option maxHeartbeats 8000000 in
set_option maxRecDepth 100000 in
theorem impl_hasNeeds.calls (k : Nat) (a0_0 : ByteArray) (A0_1 : Option Addr) (c0_1 : Nat) (l0_1 : List Int) (a0_2 : Int) (A1 : Option Addr) (c1 : Nat) (l1 : List Int) (r : Bool) (w : World) (hr0_1 : Kd.C (Kd.int .i64) w A0_1 l0_1.length l0_1) (hc0_1 : l0_1.length ≤ c0_1) (hr1 : Kd.C (Kd.int .i64) w A1 l1.length l1) (hc1 : l1.length ≤ c1) (h : impl_hasNeeds.f k a0_0 l0_1 a0_2 l1 = some r) :
 Calls Try.prog 31 #[.agg #[.string a0_0, .slice A0_1 l0_1.length c0_1, .int .i64 a0_2], .slice A1 l1.length c1] w fun e w' => e = .returned (.bool r) ∧ Below w.heap.size w w' := by
 have hu43 := Try.underlying43
 have hu24 := Try.underlying24
 have HR0_1 := Aside0.mk hr0_1
 have HC0_1 := Aside0.mk hc0_1
 clear hr0_1 hc0_1
 have HR1 := Aside0.mk hr1
 have HC1 := Aside0.mk hc1
 clear hr1 hc1
 have HB := Aside0.mk (Below.refl w.heap.size w)
 have H : ((impl_allOf_int_impl_hasNeeds_1.f k l0_1 l1).bind fun t236 => (some t236)) = some r := h
 clear h
 replace H := Option.bind_eq_some_iff.mp H
 obtain ⟨t236, A30, H⟩ := H
 try dsimp only at H
 have A3 := Aside0.mk A30
 clear A30
 obtain rfl := Option.some.inj H
 go_enter Try.func31, Try.ntmps31
 go_wp2_with (first | ((with_reducible refine gate_dst (N := 2) rfl ?_); refine box_event ?hg (N := 2) ?hd (cs := #[.string a0_0, .slice A0_1 l0_1.length c0_1, .int .i64 a0_2]) (t := 43) ?hr ?_; (case hd => rfl); (case hg => rfl); (case hr => first | (go_simp; done) | (go_simp; rfl)); intro gb234 hg w4 hbox hb; have BK234 := aM_ (hbox); have GW234 := aM_ (gw_ w hg); have GE234 := aM_ (gw_ w hg); replace HB := aM_ (below_step hB_ hb); clear hb hbox hg) | ((with_reducible refine gate_dst (N := 3) rfl ?_); refine box_event ?hg (N := 3) ?hd (cs := #[.slice A1 l1.length c1]) (t := 24) ?hr ?_; (case hd => rfl); (case hg => rfl); (case hr => first | (go_simp; done) | (go_simp; rfl)); intro gb235 hg w5 hbox hb; have BK235 := aM_ (hbox); have GW235 := aM_ (gw_ w hg); have GE235 := aM_ (gw_ w hg); have NB234_235 := aM_ (nR_ BK234 hg); have NB235_234 := aM_ (mR_ BK234 hg); replace BK234 := aM_ (blk_below (g := gb234) (kR_ BK234) hb); replace HB := aM_ (below_step hB_ hb); clear hb hbox hg; have hnb6 := NB234_235.out; have hnc6 := NB235_234.out; have hz7 := cf3_ BK234.out; clear BK234) | ((with_reducible refine gate_callee (f := 48) rfl ?_); refine goesM_ (some 8) Try.func48 #[.slice A0_1 l0_1.length c0_1, .func (.func 49) #[] #[.pointer (some ⟨gb235, 0, none⟩)]] ?_; (with_reducible refine (impl_allOf_int_impl_hasNeeds_1.calls k _ _ l0_1 gb235 A1 c1 l1 t236 _ ?side1 ?side2 ?side3 ?side4 ?side5 A3.out).mono ?_); (case side1 => repeat (first | exact (Kd.C_below HR0_1.out HB.out) | (with_reducible refine Kd.C_alloc ?_ _) | (with_reducible refine Kd.C_drewN ?_ _) | (with_reducible refine Kd.C_drew ?_))); (case side2 => exact HC0_1.out); (case side3 => repeat (first | exact (Kd.C_below HR1.out HB.out) | (with_reducible refine Kd.C_alloc ?_ _) | (with_reducible refine Kd.C_drewN ?_ _) | (with_reducible refine Kd.C_drew ?_))); (case side4 => exact HC1.out); (case side5 => (with_reducible repeat (first | apply kN_ | apply kD_ | apply kA_)); exact BK235.out); rintro e w8 ⟨rfl, hb⟩; refine ⟨_, rfl, ?_⟩; replace BK235 := aM_ (blk_below (g := gb235) (kR_ BK235) hb); replace HB := aM_ (below_step hB_ hb); (try clear hb); (try clear hb2); (try clear hk); (try clear hi)))
 go_ret
 exact ⟨rT_, hB_⟩

/-! ### impl_TeachOrder_1: function 110 -/
def impl_TeachOrder_1.T1 : Bool × List (List Nat × List Nat) := (true, [([], []), ([], []), ([0, 1], [0, 1]), ([2], [2]), ([3, 2], [3]), ([4], [4]), ([4], [4]), ([5, 6, 4], [4, 5, 6]), ([7, 4], [4, 7]), ([4], [4]), ([8, 9, 4, 4], [4, 8, 9]), ([4, 10], [4, 10]), ([11, 10, 0, 1, 2, 3, 4, 5, 6, 7, 8, 9, 10, 11], [11])])
def impl_TeachOrder_1.B1 : List Nat := [0, 0, 3, 7, 15, 31, 31, 127, 255, 31, 1023, 2047, 4095]
theorem impl_TeachOrder_1.tab1 : rtab .any (opsOf Try.f30 1) = impl_TeachOrder_1.T1 := by kernel_rfl
theorem impl_TeachOrder_1.bits1 : waitsOk impl_TeachOrder_1.T1.2 impl_TeachOrder_1.B1 = true := by kernel_rfl
set_option maxHeartbeats 8000000 in
set_option maxRecDepth 100000 in
theorem impl_TeachOrder_1.calls (k : Nat) (a0 : Int) (g1_0 : Nat) (A1_0 : Option Addr) (c1_0 : Nat) (l1_0 : List Int) (g2_0 : Nat) (A2_0 : Option Addr) (c2_0 : Nat) (l2_0 : List (S43)) (r : Bool) (w : World) (hr1_0 : Kd.C (Kd.int .i64) w A1_0 l1_0.length l1_0) (hc1_0 : l1_0.length ≤ c1_0) (hr2_0 : Kd.C k43 w A2_0 l2_0.length l2_0) (hc2_0 : l2_0.length ≤ c2_0) (hb1_0 : w.heap[g1_0]? = some (.cells #[.slice A1_0 l1_0.length c1_0] 24 (0, 0))) (hb2_0 : w.heap[g2_0]? = some (.cells #[.slice A2_0 l2_0.length c2_0] 27 (0, 0))) (h : impl_TeachOrder_1.f k a0 l1_0 l2_0 = some r) :
 Calls Try.prog 30 #[.int .i64 a0, .pointer (some ⟨g1_0, 0, none⟩), .pointer (some ⟨g2_0, 0, none⟩)] w fun e w' => e = .returned (.bool r) ∧ Below w.heap.size w w' := by
 have hu43 := Try.underlying43
 have HR1_0 := Aside0.mk hr1_0
 have HC1_0 := Aside0.mk hc1_0
 clear hr1_0 hc1_0
 have HR2_0 := Aside0.mk hr2_0
 have HC2_0 := Aside0.mk hc2_0
 clear hr2_0 hc2_0
 have BK38 := Aside0.mk hb1_0
 clear hb1_0
 have BK46 := Aside0.mk hb2_0
 clear hb2_0
 have HB := Aside0.mk (Below.refl w.heap.size w)
 have H : ((slices_Contains_int.f k l1_0 a0).bind fun t237 => (if t237 = true then (some false) else (if 0 ≤ a0 then (if a0 < (l2_0.length : Int) then ((impl_hasNeeds.f k ((rd_T43 l2_0 a0).f0) ((rd_T43 l2_0 a0).f1) ((rd_T43 l2_0 a0).f2) l1_0).bind fun t239 => (some t239)) else (none)) else (none)))) = some r := h
 clear h
 replace H := Option.bind_eq_some_iff.mp H
 obtain ⟨t237, A40, H⟩ := H
 try dsimp only at H
 have A4 := Aside0.mk A40
 clear A40
 by_cases c5 : t237 = true
 ·subst c5
  replace H := ip_ H rfl
  obtain rfl := Option.some.inj H
  go_enter Try.func30, Try.ntmps30
  try go_wp2
  replace BK38 := aM_ (blk_drew BK38.out)
  replace BK46 := aM_ (blk_drew BK46.out)
  replace HB := aM_ (below_drew1 HB.out)
  refine start_ (n := 13) (S := fun w' => w'.cell? ⟨g1_0, 0, none⟩ = some (.slice A1_0 l1_0.length c1_0)) (ds := []) bactTeachOrderx8_13_0 (by kernel_rfl) rfl rfl ((blk_cell BK38.out 0).trans rfl) (fun hHeld => ?_); refine with_tabW impl_TeachOrder_1.tab1 impl_TeachOrder_1.bits1 (fun HT_ HW_ => ?_)
  generalize w.drew = w6 at BK38 BK46 HB hHeld ⊢
  refine pure_ (i := 1) (N := some 6) (v := ?_) (a' := ?_) bactTeachOrderx8_13_2 rfl rfl (any_of HT_.out (by kernel_rfl)) (fun _ _ _ h => h) (Or.inl ⟨by rfl, ?_⟩) ?_ ?_
  rotate_left
  ·intro w'
   go_simp
   with_reducible rfl
  rotate_left
  ·simp only [Act.put, List.setIfInBounds_toArray, List.set_cons_zero, List.set_cons_succ, i64_w, i32_w]
   rfl
  refine take_ (i := 0) (N := some 5) (v := ?_) (a' := ?_) bactTeachOrderx8_13_3 rfl rfl (take_ofW HT_.out HW_.out (by kernel_rfl)) (fun _ _ _ h => h) (Or.inl ⟨by rfl, ?_⟩) hHeld ?_ ?_
  rotate_left
  ·intro w' s0
   go_simp
   with_reducible rfl
  rotate_left
  ·simp only [Act.put, List.setIfInBounds_toArray, List.set_cons_zero, List.set_cons_succ, i64_w, i32_w]
   rfl
  refine one_ (i := 2) (N := some 7) bactTeachOrderx8_13_7 rfl rfl (one_of HT_.out (by kernel_rfl)) (by decide) (fun K hK => ?_)
  refine goes_ Try.func25 (by kernel_rfl) rfl #[.slice A1_0 l1_0.length c1_0, .int .i64 a0] (by rfl) rfl rfl aR_ ?_
  with_reducible refine (slices_Contains_int.calls k _ _ l1_0 a0 true _ ?side1 ?side2 A4.out).mono ?_
  (case side1 => repeat (first | exact (Kd.C_below HR1_0.out HB.out) | (with_reducible refine Kd.C_alloc ?_ _) | (with_reducible refine Kd.C_drewN ?_ _) | (with_reducible refine Kd.C_drew ?_)))
  (case side2 => exact HC1_0.out)
  rintro e w' ⟨rfl, ⟨nd, rfl⟩⟩
  refine ⟨_, rfl, ?_⟩
  refine hK.out _ _ ((blk_cell BK38.out 0).trans rfl) (fun hHeld => ?_)
  clear hK K
  refine norm_ (a' := ?_) ?_ ?_
  rotate_left
  ·show Act.put _ (some 7) _ = _
   simp only [Act.put, List.setIfInBounds_toArray, List.set_cons_zero, List.set_cons_succ, i64_w, i32_w]
   rfl
  refine pure_ (i := 3) (N := some 8) (v := ?_) (a' := ?_) bactTeachOrderx8_13_f rfl rfl (any_of HT_.out (by kernel_rfl)) (fun _ _ _ h => h) (Or.inl ⟨by rfl, ?_⟩) ?_ ?_
  rotate_left
  ·intro w'
   go_simp
   with_reducible rfl
  rotate_left
  ·simp only [Act.put, List.setIfInBounds_toArray, List.set_cons_zero, List.set_cons_succ, i64_w, i32_w]
   rfl
  refine pure_ (i := 4) (N := some 9) (v := ?_) (a' := ?_) bactTeachOrderx8_13_1f rfl rfl (any_of HT_.out (by kernel_rfl)) (fun _ _ _ h => h) (Or.inl ⟨by rfl, ?_⟩) ?_ ?_
  rotate_left
  ·intro w'
   go_simp
   with_reducible rfl
  rotate_left
  ·simp only [Act.put, List.setIfInBounds_toArray, List.set_cons_zero, List.set_cons_succ, i64_w, i32_w]
   rfl
  refine pure_ (i := 5) (N := some 10) (v := undef) (a' := ?_) bactTeachOrderx8_13_3f rfl rfl (any_of HT_.out (by kernel_rfl)) (fun _ _ _ h => h) (Or.inr ⟨by rfl, rfl⟩) ?_ ?_
  rotate_left
  ·simp only [Act.put, List.setIfInBounds_toArray, List.set_cons_zero, List.set_cons_succ, i64_w, i32_w]
   rfl
  refine pure_ (i := 6) (N := some 11) (v := undef) (a' := ?_) bactTeachOrderx8_13_7f rfl rfl (any_of HT_.out (by kernel_rfl)) (fun _ _ _ h => h) (Or.inr ⟨by rfl, rfl⟩) ?_ ?_
  rotate_left
  ·simp only [Act.put, List.setIfInBounds_toArray, List.set_cons_zero, List.set_cons_succ, i64_w, i32_w]
   rfl
  refine pure_ (i := 7) (N := some 12) (v := undef) (a' := ?_) bactTeachOrderx8_13_ff rfl rfl (any_of HT_.out (by kernel_rfl)) (fun _ _ _ h => h) (Or.inr ⟨by rfl, rfl⟩) ?_ ?_
  rotate_left
  ·simp only [Act.put, List.setIfInBounds_toArray, List.set_cons_zero, List.set_cons_succ, i64_w, i32_w]
   rfl
  refine pure_ (i := 8) (N := some 13) (v := undef) (a' := ?_) bactTeachOrderx8_13_1ff rfl rfl (any_of HT_.out (by kernel_rfl)) (fun _ _ _ h => h) (Or.inr ⟨by rfl, rfl⟩) ?_ ?_
  rotate_left
  ·simp only [Act.put, List.setIfInBounds_toArray, List.set_cons_zero, List.set_cons_succ, i64_w, i32_w]
   rfl
  refine pure_ (i := 9) (N := some 14) (v := undef) (a' := ?_) bactTeachOrderx8_13_3ff rfl rfl (any_of HT_.out (by kernel_rfl)) (fun _ _ _ h => h) (Or.inr ⟨by rfl, rfl⟩) ?_ ?_
  rotate_left
  ·simp only [Act.put, List.setIfInBounds_toArray, List.set_cons_zero, List.set_cons_succ, i64_w, i32_w]
   rfl
  refine pure_ (i := 10) (N := some 15) (v := undef) (a' := ?_) bactTeachOrderx8_13_7ff rfl rfl (any_of HT_.out (by kernel_rfl)) (fun _ _ _ h => h) (Or.inr ⟨by rfl, rfl⟩) ?_ ?_
  rotate_left
  ·simp only [Act.put, List.setIfInBounds_toArray, List.set_cons_zero, List.set_cons_succ, i64_w, i32_w]
   rfl
  refine pure_ (i := 11) (N := some 16) (v := ?_) (a' := ?_) bactTeachOrderx8_13_fff rfl rfl (any_of HT_.out (by kernel_rfl)) (fun _ _ _ h => h) (Or.inl ⟨by rfl, ?_⟩) ?_ ?_
  rotate_left
  ·intro w'
   go_simp
   with_reducible rfl
  rotate_left
  ·simp only [Act.put, List.setIfInBounds_toArray, List.set_cons_zero, List.set_cons_succ, i64_w, i32_w]
   rfl
  refine pure_ (i := 12) (N := some 4) (v := ?_) (a' := ?_) bactTeachOrderx8_13_1fff rfl rfl (any_of HT_.out (by kernel_rfl)) (fun _ _ _ h => h) (Or.inl ⟨by rfl, ?_⟩) ?_ ?_
  rotate_left
  ·intro w'
   go_simp
   with_reducible rfl
  rotate_left
  ·simp only [Act.put, List.setIfInBounds_toArray, List.set_cons_zero, List.set_cons_succ, i64_w, i32_w]
   rfl
  refine done_ (done_of HT_.out (by kernel_rfl)) ?_
  try go_wp2
  go_ret
  exact ⟨rT_, hB_⟩
 ·replace c5 := Bool.eq_false_iff.mpr c5
  subst c5
  replace H := in_ H (show ¬ (false = true) by decide)
  by_cases c7 : 0 ≤ a0
  ·rw [if_pos c7] at H
   have c7b0 : decide (0 ≤ a0) = true := decide_eq_true c7
   clear c7
   by_cases c8 : a0 < (l2_0.length : Int)
   ·rw [if_pos c8] at H
    have c8b0 : decide (a0 < (l2_0.length : Int)) = true := decide_eq_true c8
    clear c8
    replace H := Option.bind_eq_some_iff.mp H
    obtain ⟨t239, A90, H⟩ := H
    try dsimp only at H
    have A9 := Aside0.mk A90
    clear A90
    obtain rfl := Option.some.inj H
    go_enter Try.func30, Try.ntmps30
    try go_wp2
    replace BK38 := aM_ (blk_drew BK38.out)
    replace BK46 := aM_ (blk_drew BK46.out)
    replace HB := aM_ (below_drew1 HB.out)
    have p238 : 0 ≤ (a0 : Int) := of_decide_eq_true yactTeachOrderx8_0_
    have q238 : a0 < (l2_0.length : Int) := of_decide_eq_true yactTeachOrderx8_0_
    obtain ⟨ad238, A238_1, c238_1, e238, hx238_0, hx238_1, hx238_2, hl238_1, hi238_1⟩ := at_T43 HR2_0.out a0 p238 q238
    have hw238_2 := hx238_2
    have hw238_1 := hx238_1
    have hw238_0 := hx238_0
    cases e238
    replace hx238_0 := (HB.out.cell (World.block_lt_of_cell? w _ hx238_0)).trans hx238_0
    replace hx238_1 := (HB.out.cell (World.block_lt_of_cell? w _ hx238_1)).trans hx238_1
    replace hx238_2 := (HB.out.cell (World.block_lt_of_cell? w _ hx238_2)).trans hx238_2
    have HR238_1 := Aside0.mk hi238_1
    have HC238_1 := Aside0.mk hl238_1
    clear hi238_1 hl238_1
    replace p238 := eq_true p238
    replace q238 := eq_true q238
    refine start_ (n := 13) (S := fun w' => w'.cell? ⟨g1_0, 0, none⟩ = some (.slice A1_0 l1_0.length c1_0) ∧ w'.cell? ⟨g2_0, 0, none⟩ = some (.slice (some ad238) l2_0.length c2_0) ∧ w'.cell? (ad238.add ((a0).toNat * 3)) = some (.string ((rd_T43 l2_0 a0).f0)) ∧ w'.cell? ⟨(ad238.add ((a0).toNat * 3)).block, (ad238.add ((a0).toNat * 3)).off + 1, none⟩ = some (.slice A238_1 ((rd_T43 l2_0 a0).f1).length c238_1) ∧ w'.cell? ⟨(ad238.add ((a0).toNat * 3)).block, (ad238.add ((a0).toNat * 3)).off + 2, none⟩ = some (.int .i64 ((rd_T43 l2_0 a0).f2))) (ds := []) bactTeachOrderx8_13_0 (by kernel_rfl) rfl rfl ⟨(blk_cell BK38.out 0).trans rfl, (blk_cell BK46.out 0).trans rfl, ((HB.out.cell (World.block_lt_of_cell? w _ hw238_0)).trans hw238_0), ((HB.out.cell (World.block_lt_of_cell? w _ hw238_1)).trans hw238_1), ((HB.out.cell (World.block_lt_of_cell? w _ hw238_2)).trans hw238_2)⟩ (fun hHeld => ?_); refine with_tabW impl_TeachOrder_1.tab1 impl_TeachOrder_1.bits1 (fun HT_ HW_ => ?_)
    generalize w.drew = w10 at BK38 BK46 HB HR238_1 hx238_0 hx238_1 hx238_2 hHeld ⊢
    refine pure_ (i := 1) (N := some 6) (v := ?_) (a' := ?_) bactTeachOrderx8_13_2 rfl rfl (any_of HT_.out (by kernel_rfl)) (fun _ _ _ h => h) (Or.inl ⟨by rfl, ?_⟩) ?_ ?_
    rotate_left
    ·intro w'
     go_simp
     with_reducible rfl
    rotate_left
    ·simp only [Act.put, List.setIfInBounds_toArray, List.set_cons_zero, List.set_cons_succ, i64_w, i32_w]
     rfl
    refine take_ (i := 0) (N := some 5) (v := ?_) (a' := ?_) bactTeachOrderx8_13_3 rfl rfl (take_ofW HT_.out HW_.out (by kernel_rfl)) (fun _ _ _ h => h) (Or.inl ⟨by rfl, ?_⟩) hHeld ?_ ?_
    rotate_left
    ·rintro w' ⟨s0, s1, s2, s3, s4⟩
     go_simp
     with_reducible rfl
    rotate_left
    ·simp only [Act.put, List.setIfInBounds_toArray, List.set_cons_zero, List.set_cons_succ, i64_w, i32_w]
     rfl
    refine one_ (i := 2) (N := some 7) bactTeachOrderx8_13_7 rfl rfl (one_of HT_.out (by kernel_rfl)) (by decide) (fun K hK => ?_)
    refine goes_ Try.func25 (by kernel_rfl) rfl #[.slice A1_0 l1_0.length c1_0, .int .i64 a0] (by rfl) rfl rfl aR_ ?_
    with_reducible refine (slices_Contains_int.calls k _ _ l1_0 a0 false _ ?side1 ?side2 A4.out).mono ?_
    (case side1 => repeat (first | exact (Kd.C_below HR1_0.out HB.out) | (with_reducible refine Kd.C_alloc ?_ _) | (with_reducible refine Kd.C_drewN ?_ _) | (with_reducible refine Kd.C_drew ?_)))
    (case side2 => exact HC1_0.out)
    rintro e w' ⟨rfl, ⟨nd, rfl⟩⟩
    refine ⟨_, rfl, ?_⟩
    refine hK.out _ _ ⟨(blk_cell BK38.out 0).trans rfl, (blk_cell BK46.out 0).trans rfl, ((HB.out.cell (World.block_lt_of_cell? w _ hw238_0)).trans hw238_0), ((HB.out.cell (World.block_lt_of_cell? w _ hw238_1)).trans hw238_1), ((HB.out.cell (World.block_lt_of_cell? w _ hw238_2)).trans hw238_2)⟩ (fun hHeld => ?_)
    clear hK K
    refine norm_ (a' := ?_) ?_ ?_
    rotate_left
    ·show Act.put _ (some 7) _ = _
     simp only [Act.put, List.setIfInBounds_toArray, List.set_cons_zero, List.set_cons_succ, i64_w, i32_w]
     rfl
    refine pure_ (i := 3) (N := some 8) (v := ?_) (a' := ?_) bactTeachOrderx8_13_f rfl rfl (any_of HT_.out (by kernel_rfl)) (fun _ _ _ h => h) (Or.inl ⟨by rfl, ?_⟩) ?_ ?_
    rotate_left
    ·intro w'
     go_simp
     with_reducible rfl
    rotate_left
    ·simp only [Act.put, List.setIfInBounds_toArray, List.set_cons_zero, List.set_cons_succ, i64_w, i32_w]
     rfl
    refine pure_ (i := 4) (N := some 9) (v := ?_) (a' := ?_) bactTeachOrderx8_13_1f rfl rfl (any_of HT_.out (by kernel_rfl)) (fun _ _ _ h => h) (Or.inl ⟨by rfl, ?_⟩) ?_ ?_
    rotate_left
    ·intro w'
     go_simp
     with_reducible rfl
    rotate_left
    ·simp only [Act.put, List.setIfInBounds_toArray, List.set_cons_zero, List.set_cons_succ, i64_w, i32_w]
     rfl
    refine pure_ (i := 6) (N := some 11) (v := ?_) (a' := ?_) bactTeachOrderx8_13_5f rfl rfl (any_of HT_.out (by kernel_rfl)) (fun _ _ _ h => h) (Or.inl ⟨by rfl, ?_⟩) ?_ ?_
    rotate_left
    ·intro w'
     go_simp
     with_reducible rfl
    rotate_left
    ·simp only [Act.put, List.setIfInBounds_toArray, List.set_cons_zero, List.set_cons_succ, i64_w, i32_w]
     rfl
    refine take_ (i := 5) (N := some 10) (v := ?_) (a' := ?_) bactTeachOrderx8_13_7f rfl rfl (take_ofW HT_.out HW_.out (by kernel_rfl)) (fun _ _ _ h => h) (Or.inl ⟨by rfl, ?_⟩) hHeld ?_ ?_
    rotate_left
    ·rintro w' ⟨s0, s1, s2, s3, s4⟩
     go_simp
     with_reducible rfl
    rotate_left
    ·simp only [Act.put, List.setIfInBounds_toArray, List.set_cons_zero, List.set_cons_succ, i64_w, i32_w]
     rfl
    refine pure_ (i := 7) (N := some 12) (v := ?_) (a' := ?_) bactTeachOrderx8_13_ff rfl rfl (any_of HT_.out (by kernel_rfl)) (fun _ _ _ h => h) (Or.inl ⟨by rfl, ?_⟩) ?_ ?_
    rotate_left
    ·intro w'
     go_simp
     with_reducible rfl
    rotate_left
    ·simp only [Act.put, List.setIfInBounds_toArray, List.set_cons_zero, List.set_cons_succ, i64_w, i32_w]
     rfl
    refine take_ (i := 8) (N := some 13) (v := ?_) (a' := ?_) bactTeachOrderx8_13_1ff rfl rfl (take_ofW HT_.out HW_.out (by kernel_rfl)) (fun _ _ _ h => h) (Or.inl ⟨by rfl, ?_⟩) hHeld ?_ ?_
    rotate_left
    ·rintro w' ⟨s0, s1, s2, s3, s4⟩
     go_simp
     with_reducible rfl
    rotate_left
    ·simp only [Act.put, List.setIfInBounds_toArray, List.set_cons_zero, List.set_cons_succ, i64_w, i32_w]
     rfl
    refine take_ (i := 9) (N := some 14) (v := ?_) (a' := ?_) bactTeachOrderx8_13_3ff rfl rfl (take_ofW HT_.out HW_.out (by kernel_rfl)) (fun _ _ _ h => h) (Or.inl ⟨by rfl, ?_⟩) hHeld ?_ ?_
    rotate_left
    ·rintro w' ⟨s0, s1, s2, s3, s4⟩
     go_simp
     with_reducible rfl
    rotate_left
    ·simp only [Act.put, List.setIfInBounds_toArray, List.set_cons_zero, List.set_cons_succ, i64_w, i32_w]
     rfl
    refine one_ (i := 10) (N := some 15) bactTeachOrderx8_13_7ff rfl rfl (one_of HT_.out (by kernel_rfl)) (by decide) (fun K hK => ?_)
    refine goes_ Try.func31 (by kernel_rfl) rfl #[.agg #[.string ((rd_T43 l2_0 a0).f0), .slice A238_1 ((rd_T43 l2_0 a0).f1).length c238_1, .int .i64 ((rd_T43 l2_0 a0).f2)], .slice A1_0 l1_0.length c1_0] (by rfl) rfl rfl aR_ ?_
    with_reducible refine (impl_hasNeeds.calls k ((rd_T43 l2_0 a0).f0) _ _ ((rd_T43 l2_0 a0).f1) ((rd_T43 l2_0 a0).f2) _ _ l1_0 t239 _ ?side1 ?side2 ?side3 ?side4 A9.out).mono ?_
    (case side1 => repeat (first | exact (Kd.C_below HR238_1.out hB_) | (with_reducible refine Kd.C_alloc ?_ _) | (with_reducible refine Kd.C_drewN ?_ _) | (with_reducible refine Kd.C_drew ?_)))
    (case side2 => exact HC238_1.out)
    (case side3 => repeat (first | exact (Kd.C_below HR1_0.out hB_) | (with_reducible refine Kd.C_alloc ?_ _) | (with_reducible refine Kd.C_drewN ?_ _) | (with_reducible refine Kd.C_drew ?_)))
    (case side4 => exact HC1_0.out)
    rintro e w11 ⟨rfl, hb⟩
    refine ⟨_, rfl, ?_⟩
    replace BK38 := aM_ (blk_below (g := g1_0) (kR_ BK38) hb)
    replace BK46 := aM_ (blk_below (g := g2_0) (kR_ BK46) hb)
    replace HB := aM_ (below_step hB_ hb)
    (try clear hb)
    (try clear hb2)
    (try clear hk)
    (try clear hi)
    refine hK.out _ _ ⟨(blk_cell BK38.out 0).trans rfl, (blk_cell BK46.out 0).trans rfl, ((HB.out.cell (World.block_lt_of_cell? w _ hw238_0)).trans hw238_0), ((HB.out.cell (World.block_lt_of_cell? w _ hw238_1)).trans hw238_1), ((HB.out.cell (World.block_lt_of_cell? w _ hw238_2)).trans hw238_2)⟩ (fun hHeld => ?_)
    clear hK K
    refine norm_ (a' := ?_) ?_ ?_
    rotate_left
    ·show Act.put _ (some 15) _ = _
     simp only [Act.put, List.setIfInBounds_toArray, List.set_cons_zero, List.set_cons_succ, i64_w, i32_w]
     rfl
    refine pure_ (i := 11) (N := some 16) (v := ?_) (a' := ?_) bactTeachOrderx8_13_fff rfl rfl (any_of HT_.out (by kernel_rfl)) (fun _ _ _ h => h) (Or.inl ⟨by rfl, ?_⟩) ?_ ?_
    rotate_left
    ·intro w'
     go_simp
     with_reducible rfl
    rotate_left
    ·simp only [Act.put, List.setIfInBounds_toArray, List.set_cons_zero, List.set_cons_succ, i64_w, i32_w]
     rfl
    refine pure_ (i := 12) (N := some 4) (v := ?_) (a' := ?_) bactTeachOrderx8_13_1fff rfl rfl (any_of HT_.out (by kernel_rfl)) (fun _ _ _ h => h) (Or.inl ⟨by rfl, ?_⟩) ?_ ?_
    rotate_left
    ·intro w'
     go_simp
     with_reducible rfl
    rotate_left
    ·simp only [Act.put, List.setIfInBounds_toArray, List.set_cons_zero, List.set_cons_succ, i64_w, i32_w]
     rfl
    refine done_ (done_of HT_.out (by kernel_rfl)) ?_
    try go_wp2
    go_ret
    exact ⟨rT_, hB_⟩
   ·rw [if_neg c8] at H
    exact absurd H (by simp)
  ·rw [if_neg c7] at H
   exact absurd H (by simp)

end Go.Proofs.Ytmongpocangocaa.PFnExactTeachOrder
