/- Printed for this claim: functions of the program as Lean functions, and that the calls answer so. -/
import Derived.Test.YtfkdlfbjkdkffaaGreatDoorPFnVerbsx0
import Derived.Test.YtfkdlfbjkdkffaaGreatDoorPFnVerbsx2
import Derived.Test.YtfkdlfbjkdkffaaGreatDoorPFnVerbsx7
import Derived.Test.YtfkdlfbjkdkffaaGreatDoorPFnVerbsx8
import Derived.Test.YtfkdlfbjkdkffaaGreatDoorPFnVerbsxD0
namespace Go.Proofs.YtfkdlfbjkdkffaaGreatDoor.PFnVerbs
open Go.RowKit Go.Proofs.YtfkdlfbjkdkffaaGreatDoorW.PrintWords Go.Proofs.YtfkdlfbjkdkffaaGreatDoorW.PrintLast Go.Proofs.YtfkdlfbjkdkffaaGreatDoorW.PrintMore
theorem z9_0_ {p : Prop} (h : p := by (try simp only [List.map_toArray, List.map_cons, List.map_nil]); first | done | rfl | simp | (simp; rfl)) : p := h
theorem z9_1_ {p : Prop} (h : p := by first | rfl | (simp; done) | (simp [*]; done)) : p := h
theorem z9_2_ {p : Prop} (h : p := by repeat (first | exact (Kd.C_below HR1_0.out HB.out) | (with_reducible first | apply cA_ | apply cN_ | apply cD_))) : p := h
theorem z9_3_ {p : Prop} (h : p := by repeat (first | exact (Kd.C_below HR0.out HB.out) | (with_reducible first | apply cA_ | apply cN_ | apply cD_))) : p := h
theorem z9_4_ {p : Prop} (h : p := by first | exact Nat.ne_of_lt (Nat.lt_of_lt_of_le (by have := World.block_lt_of_cell? _ _ hw343_0; first | rwa [add_block] at this | exact this) GW336.out) | (rw [add_block]; exact Nat.ne_of_lt (Nat.lt_of_lt_of_le (by have := World.block_lt_of_cell? _ _ hw343_0; first | rwa [add_block] at this | exact this) GW336.out)) | (show (Addr.add _ _).block ≠ _; rw [add_block]; exact Nat.ne_of_lt (Nat.lt_of_lt_of_le (by have := World.block_lt_of_cell? _ _ hw343_0; first | rwa [add_block] at this | exact this) GW336.out)) | (dsimp only; exact Nat.ne_of_lt (Nat.lt_of_lt_of_le (by have := World.block_lt_of_cell? _ _ hw343_0; first | rwa [add_block] at this | exact this) GW336.out))) : p := h
theorem z9_5_ {p : Prop} (h : p := by first | exact Nat.ne_of_lt (Nat.lt_of_lt_of_le (by have := World.block_lt_of_cell? _ _ hw343_1; first | rwa [add_block] at this | exact this) GW336.out) | (rw [add_block]; exact Nat.ne_of_lt (Nat.lt_of_lt_of_le (by have := World.block_lt_of_cell? _ _ hw343_1; first | rwa [add_block] at this | exact this) GW336.out)) | (show (Addr.add _ _).block ≠ _; rw [add_block]; exact Nat.ne_of_lt (Nat.lt_of_lt_of_le (by have := World.block_lt_of_cell? _ _ hw343_1; first | rwa [add_block] at this | exact this) GW336.out)) | (dsimp only; exact Nat.ne_of_lt (Nat.lt_of_lt_of_le (by have := World.block_lt_of_cell? _ _ hw343_1; first | rwa [add_block] at this | exact this) GW336.out))) : p := h
theorem z9_6_ {p : Prop} (h : p := by first | exact Nat.ne_of_lt (Nat.lt_of_lt_of_le (by have := World.block_lt_of_cell? _ _ hw345_0; first | rwa [add_block] at this | exact this) GW336.out) | (rw [add_block]; exact Nat.ne_of_lt (Nat.lt_of_lt_of_le (by have := World.block_lt_of_cell? _ _ hw345_0; first | rwa [add_block] at this | exact this) GW336.out)) | (show (Addr.add _ _).block ≠ _; rw [add_block]; exact Nat.ne_of_lt (Nat.lt_of_lt_of_le (by have := World.block_lt_of_cell? _ _ hw345_0; first | rwa [add_block] at this | exact this) GW336.out)) | (dsimp only; exact Nat.ne_of_lt (Nat.lt_of_lt_of_le (by have := World.block_lt_of_cell? _ _ hw345_0; first | rwa [add_block] at this | exact this) GW336.out))) : p := h
theorem z9_7_ {p : Prop} (h : p := by first | exact Nat.ne_of_lt (Nat.lt_of_lt_of_le (by have := World.block_lt_of_cell? _ _ hw345_1; first | rwa [add_block] at this | exact this) GW336.out) | (rw [add_block]; exact Nat.ne_of_lt (Nat.lt_of_lt_of_le (by have := World.block_lt_of_cell? _ _ hw345_1; first | rwa [add_block] at this | exact this) GW336.out)) | (show (Addr.add _ _).block ≠ _; rw [add_block]; exact Nat.ne_of_lt (Nat.lt_of_lt_of_le (by have := World.block_lt_of_cell? _ _ hw345_1; first | rwa [add_block] at this | exact this) GW336.out)) | (dsimp only; exact Nat.ne_of_lt (Nat.lt_of_lt_of_le (by have := World.block_lt_of_cell? _ _ hw345_1; first | rwa [add_block] at this | exact this) GW336.out))) : p := h
theorem z9_8_ {p : Prop} (h : p := by repeat (first | exact Drawn0.refl _ | apply Drawn0.step)) : p := h
set_option maxHeartbeats 8000000
set_option maxRecDepth 100000
attribute [local go_sem] max2_int min2_int max_two min_two max_three min_three max_four min_four isSome_setCell   -- for this text's walks alone
set_option linter.unusedVariables false
set_option linter.unusedSimpArgs false

/-! ### impl_areReferents_1: function 186 -/
theorem impl_areReferents_1.calls (k : Nat) (a0 : ByteArray) (g1_0 : Nat) (A1_0 : Option Addr) (c1_0 : Nat) (l1_0 : List (S58)) (r : Bool) (w : World) (hr1_0 : Kd.C k58 w A1_0 l1_0.length l1_0) (hc1_0 : l1_0.length ≤ c1_0) (hb1_0 : w.heap[g1_0]? = some (.cells #[.slice A1_0 l1_0.length c1_0] 23 (0, 0))) (h : impl_areReferents_1.f k a0 l1_0 = some r) :
 Calls Tryz.prog 88 #[.string a0, .pointer (some ⟨g1_0, 0, none⟩)] w fun e w' => e = .returned (.bool r) ∧ Below w.heap.size w w' := by
 have HR1_0 := Aside0.mk hr1_0
 have HC1_0 := Aside0.mk hc1_0
 clear hr1_0 hc1_0
 have BK38 := Aside0.mk hb1_0
 clear hb1_0
 have HB := Aside0.mk (Below.refl w.heap.size w)
 have H : ((impl_locusOf.f k l1_0 a0).bind fun t326 => (some (decide (t326 ≥ 0)))) = some r := h
 clear h
 replace H := ob_ H; obtain ⟨t326, A3, H⟩ := H; try dsimp only at H
 obtain rfl := Option.some.inj H
 have hz4 := cf1_ BK38.out
 clear BK38
 go_enter Tryz.func88, Tryz.ntmps88
 go_wp2_with (first | ((with_reducible refine gC_ 48 ?_); refine gM_ (some 6) Tryz.func48 #[.slice A1_0 l1_0.length c1_0, .string a0] ?_; (with_reducible refine (impl_locusOf.calls k _ _ l1_0 a0 t326 _ ?side1 ?side2 A3.out).mono ?_); (case side1 => exact cC_ HR1_0); (case side2 => exact HC1_0.out); rintro e w5 ⟨rfl, hb⟩; refine ⟨_, rfl, ?_⟩; replace HB := aM_ (below_step hB_ hb); (try clear hb)))
 go_ret
 exact ⟨rT_, hB_⟩

/-! ### impl_allOf_string_1_impl_areReferents_1: function 185 -/
theorem impl_allOf_string_1_impl_areReferents_1.calls (k : Nat) (a0 : ByteArray) (g1_0 : Nat) (g1_1 : Nat) (A1_0 : Option Addr) (c1_0 : Nat) (l1_0 : List (S58)) (r : Bool) (w : World) (hr1_0 : Kd.C k58 w A1_0 l1_0.length l1_0) (hc1_0 : l1_0.length ≤ c1_0) (hb1_0 : w.heap[g1_0]? = some (.cells #[.func (.func 88) #[] #[.pointer (some ⟨g1_1, 0, none⟩)]] 74 (0, 0))) (hb1_1 : w.heap[g1_1]? = some (.cells #[.slice A1_0 l1_0.length c1_0] 23 (0, 0))) (h : impl_allOf_string_1_impl_areReferents_1.f k a0 l1_0 = some r) :
 Calls Tryz.prog 111 #[.string a0, .pointer (some ⟨g1_0, 0, none⟩)] w fun e w' => e = .returned (.bool r) ∧ Below w.heap.size w w' := by
 have HR1_0 := Aside0.mk hr1_0
 have HC1_0 := Aside0.mk hc1_0
 clear hr1_0 hc1_0
 have BK38 := Aside0.mk hb1_0
 clear hb1_0
 have BK39 := Aside0.mk hb1_1
 clear hb1_1
 have HB := Aside0.mk (Below.refl w.heap.size w)
 have H : ((impl_areReferents_1.f k a0 l1_0).bind fun t327 => (some (!t327))) = some r := h
 clear h
 replace H := ob_ H; obtain ⟨t327, A3, H⟩ := H; try dsimp only at H
 obtain rfl := Option.some.inj H
 have hz5 := cf1_ BK38.out
 clear BK38
 go_enter Tryz.func111, Tryz.ntmps111
 go_wp2_with (first | ((with_reducible refine gate_via (t := 4) rfl ?_); refine goesV_ (some 6) rfl rfl Tryz.func88 (by kernel_rfl) rfl #[.string a0, .pointer (some ⟨g1_1, 0, none⟩)] rfl rfl z9_0_ ?_; (with_reducible refine (impl_areReferents_1.calls k a0 g1_1 A1_0 c1_0 l1_0 t327 _ ?side1 ?side2 ?side3 A3.out).mono ?_); (case side1 => exact cC_ HR1_0); (case side2 => exact HC1_0.out); (case side3 => (with_reducible repeat (first | apply kN_ | apply kD_ | apply kA_)); exact BK39.out); rintro e w6 ⟨rfl, hb⟩; refine ⟨_, rfl, ?_⟩; replace BK39 := aM_ (blk_below (g := g1_1) (kR_ BK39) hb); replace HB := aM_ (below_step hB_ hb); (try clear hb)))
 go_ret
 exact ⟨rT_, hB_⟩

/-! ### slices_IndexFunc_string_impl_allOf_string_1_impl_areReferents_1: function 184 -/
theorem slices_IndexFunc_string_impl_allOf_string_1_impl_areReferents_1.calls (k : Nat) (A0 : Option Addr) (c0 : Nat) (l0 : List ByteArray) (g1_0 : Nat) (g1_1 : Nat) (A1_0 : Option Addr) (c1_0 : Nat) (l1_0 : List (S58)) (r : Int) (w : World) (hr0 : Kd.C Kd.string w A0 l0.length l0) (hc0 : l0.length ≤ c0) (hr1_0 : Kd.C k58 w A1_0 l1_0.length l1_0) (hc1_0 : l1_0.length ≤ c1_0) (hb1_0 : w.heap[g1_0]? = some (.cells #[.func (.func 88) #[] #[.pointer (some ⟨g1_1, 0, none⟩)]] 74 (0, 0))) (hb1_1 : w.heap[g1_1]? = some (.cells #[.slice A1_0 l1_0.length c1_0] 23 (0, 0))) (h : slices_IndexFunc_string_impl_allOf_string_1_impl_areReferents_1.f k l0 l1_0 = some r) :
 Calls Tryz.prog 121 #[.slice A0 l0.length c0, .func (.func 111) #[] #[.pointer (some ⟨g1_0, 0, none⟩)]] w fun e w' => e = .returned (.int .i64 r) ∧ Below w.heap.size w w' := by
 have HR0 := Aside0.mk hr0
 have HC0 := Aside0.mk hc0
 clear hr0 hc0
 have HR1_0 := Aside0.mk hr1_0
 have HC1_0 := Aside0.mk hc1_0
 clear hr1_0 hc1_0
 have BK38 := Aside0.mk hb1_0
 clear hb1_0
 have BK39 := Aside0.mk hb1_1
 clear hb1_1
 have HB := Aside0.mk (Below.refl w.heap.size w)
 have H : (slices_IndexFunc_string_impl_allOf_string_1_impl_areReferents_1.l0 k l0 (l0.length : Int) 0 l1_0) = some r := h
 clear h
 have H' := Aside0.mk H
 clear H
 go_enter Tryz.func121, Tryz.ntmps121
 go_wp2
 go_loopg [8] k (fun kq v8 w' => ∃ (x8_1 : Int), v8 = .int .i64 x8_1 ∧ Aside0 (slices_IndexFunc_string_impl_allOf_string_1_impl_areReferents_1.l0 kq l0 (l0.length : Int) x8_1 l1_0 = some r) ∧ Aside0 (kq ≤ k) ∧ Aside0 (w'.heap[g1_0]? = some (.cells #[(.func (.func 88) #[] #[.pointer (some ⟨g1_1, 0, none⟩)])] 74 (0, 0))) ∧ Aside0 (w'.heap[g1_1]? = some (.cells #[(.slice A1_0 l1_0.length c1_0)] 23 (0, 0))) ∧ Aside0 (Below w.heap.size w w'))
 case atStart => exact ⟨(0), z9_1_, H', ⟨Nat.le_refl _⟩, ⟨kP_⟩, ⟨kP_⟩, ⟨hB_⟩⟩
 case round =>
  clear H'
  obtain ⟨x8_1, rfl, HA, HK1, BK38, BK39, HB⟩ := hrel
  cases gk with
  | zero => exact absurd HA.out (by simp [slices_IndexFunc_string_impl_allOf_string_1_impl_areReferents_1.l0])
  | succ k1 =>
   have H := HA.out
   clear HA
   simp only [slices_IndexFunc_string_impl_allOf_string_1_impl_areReferents_1.l0] at H
   replace H := iF_ H; obtain ⟨c3b0, H⟩ | ⟨c3b0, H⟩ := H
   ·obtain rfl := Option.some.inj H
    go_wp2
    go_ret
    exact ⟨rT_, hB_⟩
   replace H := ig_ H; obtain ⟨c4b0, H⟩ := H
   replace H := ig_ H; obtain ⟨c5b0, H⟩ := H
   replace H := ob_ H; obtain ⟨t329, A6, H⟩ := H; try dsimp only at H
   have HC7 := Aside0.mk H
   clear H
   have p328 : 0 ≤ (x8_1 : Int) := ode_
   have q328 : x8_1 < (l0.length : Int) := ode_
   obtain ⟨ad328, e328, hx328_0⟩ := Kd.at_string HR0.out x8_1 p328 q328
   cases e328
   try replace hx328_0 := hc_ HB hx328_0
   replace p328 := eq_true p328
   replace q328 := eq_true q328
   go_upto_if 16 with (first | ((with_reducible refine gate_via (t := 11) rfl ?_); refine goesV_ (some 16) rfl rfl Tryz.func111 (by kernel_rfl) rfl #[.string (rdOf ByteArray.empty l0 x8_1), .pointer (some ⟨g1_0, 0, none⟩)] rfl rfl z9_0_ ?_; (with_reducible refine (impl_allOf_string_1_impl_areReferents_1.calls k1 (rdOf ByteArray.empty l0 x8_1) g1_0 g1_1 A1_0 c1_0 l1_0 t329 _ ?side1 ?side2 ?side3 ?side4 A6.out).mono ?_); (case side1 => exact z9_2_); (case side2 => exact HC1_0.out); (case side3 => (with_reducible repeat (first | apply kN_ | apply kD_ | apply kA_)); exact BK38.out); (case side4 => (with_reducible repeat (first | apply kN_ | apply kD_ | apply kA_)); exact BK39.out); rintro e w8 ⟨rfl, hb⟩; refine ⟨_, rfl, ?_⟩; replace BK38 := aM_ (blk_below (g := g1_0) (kR_ BK38) hb); replace BK39 := aM_ (blk_below (g := g1_1) (kR_ BK39) hb); replace HB := aM_ (below_step hB_ hb); (try clear hb)))
   (try simp only [Act.put, List.setIfInBounds_toArray, List.set_cons_zero, List.set_cons_succ])
   have H := HC7.out
   clear HC7
   by_cases c9 : t329 = true
   ·subst c9
    replace H := ip_ H rfl
    obtain rfl := Option.some.inj H
    go_wp2
    go_ret
    exact ⟨rT_, hB_⟩
   replace c9 := Bool.eq_false_iff.mpr c9
   subst c9
   replace H := in_ H (show ¬ (false = true) by decide)
   have H' := Aside0.mk H
   clear H
   go_wp2
   go_roundg k1
   case measure => have := HK1.out; omega
   case rel => exact ⟨(wrap64 (x8_1 + 1)), z9_1_, H', ⟨by have := HK1.out; omega⟩, ⟨kP_⟩, ⟨kP_⟩, ⟨hB_⟩⟩

/-! ### slices_ContainsFunc_string_impl_allOf_string_1_impl_areReferents_1: function 183 -/
theorem slices_ContainsFunc_string_impl_allOf_string_1_impl_areReferents_1.calls (k : Nat) (A0 : Option Addr) (c0 : Nat) (l0 : List ByteArray) (g1_0 : Nat) (g1_1 : Nat) (A1_0 : Option Addr) (c1_0 : Nat) (l1_0 : List (S58)) (r : Bool) (w : World) (hr0 : Kd.C Kd.string w A0 l0.length l0) (hc0 : l0.length ≤ c0) (hr1_0 : Kd.C k58 w A1_0 l1_0.length l1_0) (hc1_0 : l1_0.length ≤ c1_0) (hb1_0 : w.heap[g1_0]? = some (.cells #[.func (.func 88) #[] #[.pointer (some ⟨g1_1, 0, none⟩)]] 74 (0, 0))) (hb1_1 : w.heap[g1_1]? = some (.cells #[.slice A1_0 l1_0.length c1_0] 23 (0, 0))) (h : slices_ContainsFunc_string_impl_allOf_string_1_impl_areReferents_1.f k l0 l1_0 = some r) :
 Calls Tryz.prog 110 #[.slice A0 l0.length c0, .func (.func 111) #[] #[.pointer (some ⟨g1_0, 0, none⟩)]] w fun e w' => e = .returned (.bool r) ∧ Below w.heap.size w w' := by
 have HR0 := Aside0.mk hr0
 have HC0 := Aside0.mk hc0
 clear hr0 hc0
 have HR1_0 := Aside0.mk hr1_0
 have HC1_0 := Aside0.mk hc1_0
 clear hr1_0 hc1_0
 have BK38 := Aside0.mk hb1_0
 clear hb1_0
 have BK39 := Aside0.mk hb1_1
 clear hb1_1
 have HB := Aside0.mk (Below.refl w.heap.size w)
 have H : ((slices_IndexFunc_string_impl_allOf_string_1_impl_areReferents_1.f k l0 l1_0).bind fun t330 => (some (decide (t330 ≥ 0)))) = some r := h
 clear h
 replace H := ob_ H; obtain ⟨t330, A3, H⟩ := H; try dsimp only at H
 obtain rfl := Option.some.inj H
 go_enter Tryz.func110, Tryz.ntmps110
 go_wp2_with (first | ((with_reducible refine gC_ 121 ?_); refine gM_ (some 7) Tryz.func121 #[.slice A0 l0.length c0, .func (.func 111) #[] #[.pointer (some ⟨g1_0, 0, none⟩)]] ?_; (with_reducible refine (slices_IndexFunc_string_impl_allOf_string_1_impl_areReferents_1.calls k _ _ l0 g1_0 g1_1 A1_0 c1_0 l1_0 t330 _ ?side1 ?side2 ?side3 ?side4 ?side5 ?side6 A3.out).mono ?_); (case side1 => exact cC_ HR0); (case side2 => exact HC0.out); (case side3 => exact cC_ HR1_0); (case side4 => exact HC1_0.out); (case side5 => (with_reducible repeat (first | apply kN_ | apply kD_ | apply kA_)); exact BK38.out); (case side6 => (with_reducible repeat (first | apply kN_ | apply kD_ | apply kA_)); exact BK39.out); rintro e w4 ⟨rfl, hb⟩; refine ⟨_, rfl, ?_⟩; replace BK38 := aM_ (blk_below (g := g1_0) (kR_ BK38) hb); replace BK39 := aM_ (blk_below (g := g1_1) (kR_ BK39) hb); replace HB := aM_ (below_step hB_ hb); (try clear hb)))
 go_ret
 exact ⟨rT_, hB_⟩

/-! ### impl_allOf_string_impl_areReferents_1: function 182 -/
theorem impl_allOf_string_impl_areReferents_1.calls (k : Nat) (A0 : Option Addr) (c0 : Nat) (l0 : List ByteArray) (g1_0 : Nat) (A1_0 : Option Addr) (c1_0 : Nat) (l1_0 : List (S58)) (r : Bool) (w : World) (hr0 : Kd.C Kd.string w A0 l0.length l0) (hc0 : l0.length ≤ c0) (hr1_0 : Kd.C k58 w A1_0 l1_0.length l1_0) (hc1_0 : l1_0.length ≤ c1_0) (hb1_0 : w.heap[g1_0]? = some (.cells #[.slice A1_0 l1_0.length c1_0] 23 (0, 0))) (h : impl_allOf_string_impl_areReferents_1.f k l0 l1_0 = some r) :
 Calls Tryz.prog 87 #[.slice A0 l0.length c0, .func (.func 88) #[] #[.pointer (some ⟨g1_0, 0, none⟩)]] w fun e w' => e = .returned (.bool r) ∧ Below w.heap.size w w' := by
 have hu74 := Tryz.underlying74
 have HR0 := Aside0.mk hr0
 have HC0 := Aside0.mk hc0
 clear hr0 hc0
 have HR1_0 := Aside0.mk hr1_0
 have HC1_0 := Aside0.mk hc1_0
 clear hr1_0 hc1_0
 have BK38 := Aside0.mk hb1_0
 clear hb1_0
 have HB := Aside0.mk (Below.refl w.heap.size w)
 have H : ((slices_ContainsFunc_string_impl_allOf_string_1_impl_areReferents_1.f k l0 l1_0).bind fun t332 => (some (!t332))) = some r := h
 clear h
 replace H := ob_ H; obtain ⟨t332, A3, H⟩ := H; try dsimp only at H
 obtain rfl := Option.some.inj H
 go_enter Tryz.func87, Tryz.ntmps87
 go_wp2_with (first | ((with_reducible refine gate_dst (N := 3) rfl ?_); refine bx_ 3 #[.func (.func 88) #[] #[.pointer (some ⟨g1_0, 0, none⟩)]] 74 fun gb331 hg w4 hbox hb => ?_; have BK331 := aM_ (hbox); have GW331 := aM_ (gw_ w hg); have GE331 := aM_ (gw_ w hg); have NB38_331 := aM_ (nb_ g1_0 hg); have NB331_38 := aM_ (nc_ g1_0 hg); replace BK38 := aM_ (blk_below (g := g1_0) (kR_ BK38) hb); replace HB := aM_ (below_step hB_ hb); clear hb hbox hg) | ((with_reducible refine gC_ 110 ?_); refine gM_ (some 7) Tryz.func110 #[.slice A0 l0.length c0, .func (.func 111) #[] #[.pointer (some ⟨gb331, 0, none⟩)]] ?_; (with_reducible refine (slices_ContainsFunc_string_impl_allOf_string_1_impl_areReferents_1.calls k _ _ l0 gb331 g1_0 A1_0 c1_0 l1_0 t332 _ ?side1 ?side2 ?side3 ?side4 ?side5 ?side6 A3.out).mono ?_); (case side1 => exact z9_3_); (case side2 => exact HC0.out); (case side3 => exact z9_2_); (case side4 => exact HC1_0.out); (case side5 => (with_reducible repeat (first | apply kN_ | apply kD_ | apply kA_)); exact BK331.out); (case side6 => (with_reducible repeat (first | apply kN_ | apply kD_ | apply kA_)); exact BK38.out); rintro e w5 ⟨rfl, hb⟩; refine ⟨_, rfl, ?_⟩; replace BK38 := aM_ (blk_below (g := g1_0) (kR_ BK38) hb); replace BK331 := aM_ (blk_below (g := gb331) (kR_ BK331) hb); replace HB := aM_ (below_step hB_ hb); (try clear hb)))
 go_ret
 exact ⟨rT_, hB_⟩

/-! ### impl_areReferents: function 47 -/
theorem impl_areReferents.calls (k : Nat) (A0 : Option Addr) (c0 : Nat) (l0 : List (S58)) (A1 : Option Addr) (c1 : Nat) (l1 : List ByteArray) (r : Bool) (w : World) (hr0 : Kd.C k58 w A0 l0.length l0) (hc0 : l0.length ≤ c0) (hr1 : Kd.C Kd.string w A1 l1.length l1) (hc1 : l1.length ≤ c1) (h : impl_areReferents.f k l0 l1 = some r) :
 Calls Tryz.prog 47 #[.slice A0 l0.length c0, .slice A1 l1.length c1] w fun e w' => e = .returned (.bool r) ∧ Below w.heap.size w w' := by
 have hu23 := Tryz.underlying23
 have HR0 := Aside0.mk hr0
 have HC0 := Aside0.mk hc0
 clear hr0 hc0
 have HR1 := Aside0.mk hr1
 have HC1 := Aside0.mk hc1
 clear hr1 hc1
 have HB := Aside0.mk (Below.refl w.heap.size w)
 have H : ((impl_AreLoci.f k l0).bind fun t334 => (if t334 = true then ((impl_allOf_string_impl_areReferents_1.f k l1 l0).bind fun t335 => (some t335)) else (some false))) = some r := h
 clear h
 replace H := ob_ H; obtain ⟨t334, A3, H⟩ := H; try dsimp only at H
 by_cases c4 : t334 = true
 rotate_left
 ·replace c4 := Bool.eq_false_iff.mpr c4
  subst c4
  replace H := in_ H (show ¬ (false = true) by decide)
  obtain rfl := Option.some.inj H
  go_enter Tryz.func47, Tryz.ntmps47
  go_wp2_with (first | ((with_reducible refine gate_dst (N := 2) rfl ?_); refine bx_ 2 #[.slice A0 l0.length c0] 23 fun gb333 hg w10 hbox hb => ?_; have BK333 := aM_ (hbox); have GW333 := aM_ (gw_ w hg); have GE333 := aM_ (gw_ w hg); replace HB := aM_ (below_step hB_ hb); clear hb hbox hg; have hz11 := cf1_ BK333.out; clear BK333) | ((with_reducible refine gC_ 33 ?_); refine gM_ (some 6) Tryz.func33 #[.slice A0 l0.length c0] ?_; (with_reducible refine (impl_AreLoci.calls k _ _ l0 false _ ?side1 ?side2 A3.out).mono ?_); (case side1 => exact z9_3_); (case side2 => exact HC0.out); rintro e w12 ⟨rfl, hb⟩; refine ⟨_, rfl, ?_⟩; replace HB := aM_ (below_step hB_ hb); (try clear hb)))
  go_ret
  exact ⟨rT_, hB_⟩
 subst c4
 replace H := ip_ H rfl
 replace H := ob_ H; obtain ⟨t335, A5, H⟩ := H; try dsimp only at H
 obtain rfl := Option.some.inj H
 go_enter Tryz.func47, Tryz.ntmps47
 go_wp2_with (first | ((with_reducible refine gate_dst (N := 2) rfl ?_); refine bx_ 2 #[.slice A0 l0.length c0] 23 fun gb333 hg w6 hbox hb => ?_; have BK333 := aM_ (hbox); have GW333 := aM_ (gw_ w hg); have GE333 := aM_ (gw_ w hg); replace HB := aM_ (below_step hB_ hb); clear hb hbox hg; have hz7 := cf1_ BK333.out) | ((with_reducible refine gC_ 33 ?_); refine gM_ (some 6) Tryz.func33 #[.slice A0 l0.length c0] ?_; (with_reducible refine (impl_AreLoci.calls k _ _ l0 true _ ?side1 ?side2 A3.out).mono ?_); (case side1 => exact z9_3_); (case side2 => exact HC0.out); rintro e w8 ⟨rfl, hb⟩; refine ⟨_, rfl, ?_⟩; replace BK333 := aM_ (blk_below (g := gb333) (kR_ BK333) hb); replace HB := aM_ (below_step hB_ hb); (try clear hb)) | (go_at_call 87; (with_reducible refine (impl_allOf_string_impl_areReferents_1.calls k _ _ l1 gb333 A0 c0 l0 t335 _ ?side1 ?side2 ?side3 ?side4 ?side5 A5.out).mono ?_); (case side1 => exact (by repeat (first | exact (Kd.C_below HR1.out HB.out) | (with_reducible first | apply cA_ | apply cN_ | apply cD_)))); (case side2 => exact HC1.out); (case side3 => exact z9_3_); (case side4 => exact HC0.out); (case side5 => (with_reducible repeat (first | apply kN_ | apply kD_ | apply kA_)); exact BK333.out); rintro e w9 ⟨rfl, hb⟩; replace BK333 := aM_ (blk_below (g := gb333) (kR_ BK333) hb); replace HB := aM_ (below_step hB_ hb); (try clear hb)))
 go_ret
 exact ⟨rT_, hB_⟩

/-! ### impl_VerbFor: function 6 -/
def impl_VerbFor.T3 : Bool × List (List Nat × List Nat) := (true, [([], []), ([], []), ([], []), ([], []), ([2, 3], [2, 3]), ([1, 4], [1, 4]), ([5], [5]), ([6], [6]), ([], []), ([], []), ([], []), ([9, 10, 4], [9, 10]), ([8, 11], [8, 11]), ([12], [12]), ([13], [13]), ([0, 7, 14], [0, 7, 14]), ([15, 11, 0, 1, 2, 3, 4, 5, 6, 7, 8, 9, 10, 11, 12, 13, 14, 15], [15]), ([16, 0, 1, 2, 3, 4, 5, 6, 7, 8, 9, 10, 11, 12, 13, 14, 15, 16], [])])
def impl_VerbFor.B3 : List Nat := [0, 0, 0, 0, 12, 30, 62, 126, 0, 0, 0, 1564, 3868, 7964, 16156, 32767, 65535, 131071]
theorem impl_VerbFor.tab3 : rtab .any (opsOf Tryz.f6 3) = impl_VerbFor.T3 := by kernel_rfl
theorem impl_VerbFor.bits3 : waitsOk impl_VerbFor.T3.2 impl_VerbFor.B3 = true := by kernel_rfl
theorem impl_VerbFor.calls (k : Nat) (A0 : Option Addr) (c0 : Nat) (l0 : List (S58)) (a1 : ByteArray) (a2 : ByteArray) (a3 : ByteArray) (r1 : ByteArray) (r2 : Int) (r3 : Int) (r4 : Bool) (w : World) (hr0 : Kd.C k58 w A0 l0.length l0) (hc0 : l0.length ≤ c0) (h : impl_VerbFor.f k l0 a1 a2 a3 = some (r1, r2, r3, r4)) :
 Calls Tryz.prog 6 #[.slice A0 l0.length c0, .string a1, .string a2, .string a3] w fun e w' => e = .returned (.tuple #[.agg #[.string r1, .int .i64 r2, .int .i64 r3], .bool r4]) ∧ Below w.heap.size w w' := by
 have hu27 := Tryz.underlying27
 have HR0 := Aside0.mk hr0
 have HC0 := Aside0.mk hc0
 clear hr0 hc0
 have HB := Aside0.mk (Below.refl w.heap.size w)
 have H : ((impl_IsGloss.f k a1).bind fun t337 => (if t337 = true then ((impl_areReferents.f k l0 (([a2, a3] : List ByteArray))).bind fun t341 => (if t341 = true then (impl_VerbFor.j0 k l0 a1 a2 a3 (a2.toList == a3.toList)) else (impl_VerbFor.j0 k l0 a1 a2 a3 true))) else (impl_VerbFor.j0 k l0 a1 a2 a3 true))) = some (r1, r2, r3, r4) := h
 clear h
 have HC5 := Aside0.mk H
 clear H
 go_enter Tryz.func6, Tryz.ntmps6
 go_upto_region 1 with (first | ((with_reducible refine gate_dst (N := 8) rfl ?_); (try (refine gate_guard (by rfl) ?_; dsimp only)); refine bx_ 8 #[.string (⟨#[]⟩ : ByteArray), .int .i64 0, .int .i64 0] 27 fun gb336 hg w6 hbox hb => ?_; have BK336 := aM_ (hbox); have GW336 := aM_ (gw_ w hg); have GE336 := aM_ (gw_ w hg); replace HB := aM_ (below_step hB_ hb); clear hb hbox hg))
 (try simp only [Act.put, List.setIfInBounds_toArray, List.set_cons_zero, List.set_cons_succ])
 go_cut [25] (fun v25 wc => ∃ (kq : Nat) (x25_4 : Bool), v25 = .bool x25_4 ∧ Aside0 (impl_VerbFor.j0 kq l0 a1 a2 a3 x25_4 = some (r1, r2, r3, r4)) ∧ Aside0 (kq ≤ k) ∧ Aside0 (wc.heap[gb336]? = some (.cells #[.string (⟨#[]⟩ : ByteArray), .int .i64 0, .int .i64 0] 27 (0, 0))) ∧ Aside0 (Below w.heap.size w wc))
 case first =>
  have H := HC5.out
  clear HC5
  replace H := ob_ H; obtain ⟨t337, A7, H⟩ := H; try dsimp only at H
  by_cases c8 : t337 = true
  rotate_left
  ·replace c8 := Bool.eq_false_iff.mpr c8
   subst c8
   replace H := in_ H (show ¬ (false = true) by decide)
   have H' := Aside0.mk H
   clear H
   go_wp2_with (first | ((with_reducible refine gC_ 46 ?_); refine gM_ (some 11) Tryz.func46 #[.string a1] ?_; (with_reducible refine (impl_IsGloss.calls k a1 false _ A7.out).mono ?_); rintro e w' ⟨rfl, ⟨nd, rfl⟩⟩; refine ⟨_, rfl, ?_⟩))
   go_meet
   case rel => exact ⟨_, (true), z9_1_, H', ⟨oR_⟩, ⟨kP_⟩, ⟨hB_⟩⟩
  subst c8
  replace H := ip_ H rfl
  obtain ⟨y338, hy338⟩ : ∃ y_ : List ByteArray, y_ = (([a2, a3] : List ByteArray)) := ⟨_, rfl⟩
  rw [← hy338] at H
  have Ny338 := Aside0.mk hy338; clear hy338
  replace H := ob_ H; obtain ⟨t341, A9, H⟩ := H; try dsimp only at H
  by_cases c10 : t341 = true
  ·subst c10
   replace H := ip_ H rfl
   have H' := Aside0.mk H
   clear H
   go_wp2_with (first | ((with_reducible refine gC_ 46 ?_); refine gM_ (some 11) Tryz.func46 #[.string a1] ?_; (with_reducible refine (impl_IsGloss.calls k a1 true _ A7.out).mono ?_); rintro e w' ⟨rfl, ⟨nd, rfl⟩⟩; refine ⟨_, rfl, ?_⟩) | ((with_reducible refine gate_dst (N := 17) rfl ?_); (try (refine gate_guard (by rfl) ?_; dsimp only)); refine rl_ Kd.string 9 17 ([a2, a3] : List ByteArray) [.string a2, .string a3] (Reps.one (show Kd.M Kd.string _ _ _ a2 [.string a2] from rfl) (Reps.one (show Kd.M Kd.string _ _ _ a3 [.string a3] from rfl) (Reps.none _ _))) ?_; intro v339 w11 ho12 hb hg_ hnew_; clear hg_ hnew_; (first | rw [← Ny338.out] at ho12 | (simp only [Int.reduceToNat] at ho12; rw [← Ny338.out] at ho12)); have HO340 := aM_ (Kd.R_lower ho12 (below_size hB_)); replace BK336 := aM_ (blk_below (g := gb336) (kR_ BK336) hb); replace HB := aM_ (below_step hB_ hb); clear hb ho12; obtain ⟨Ao13, co13, eo13⟩ := Kd.R_slice HO340.out; subst eo13) | (go_at_call 47; (with_reducible refine (impl_areReferents.calls k _ _ l0 _ _ y338 true _ ?side1 ?side2 ?side3 ?side4 A9.out).mono ?_); (case side1 => exact z9_3_); (case side2 => exact HC0.out); (case side3 => exact cR_ HO340); (case side4 => exact (Kd.R_reads' HO340.out).2.1); rintro e w14 ⟨rfl, hb⟩; replace HO340 := aM_ (Kd.R_below (rR_ HO340) hb); replace BK336 := aM_ (blk_below (g := gb336) (kR_ BK336) hb); replace HB := aM_ (below_step hB_ hb); (try clear hb); (try clear hk)))
   go_meet
   case rel => exact ⟨_, ((a2.toList == a3.toList)), z9_1_, H', ⟨oR_⟩, ⟨kP_⟩, ⟨hB_⟩⟩
  replace c10 := Bool.eq_false_iff.mpr c10
  subst c10
  replace H := in_ H (show ¬ (false = true) by decide)
  have H' := Aside0.mk H
  clear H
  go_wp2_with (first | ((with_reducible refine gC_ 46 ?_); refine gM_ (some 11) Tryz.func46 #[.string a1] ?_; (with_reducible refine (impl_IsGloss.calls k a1 true _ A7.out).mono ?_); rintro e w' ⟨rfl, ⟨nd, rfl⟩⟩; refine ⟨_, rfl, ?_⟩) | ((with_reducible refine gate_dst (N := 17) rfl ?_); (try (refine gate_guard (by rfl) ?_; dsimp only)); refine rl_ Kd.string 9 17 ([a2, a3] : List ByteArray) [.string a2, .string a3] (Reps.one (show Kd.M Kd.string _ _ _ a2 [.string a2] from rfl) (Reps.one (show Kd.M Kd.string _ _ _ a3 [.string a3] from rfl) (Reps.none _ _))) ?_; intro v339 w15 ho16 hb hg_ hnew_; clear hg_ hnew_; (first | rw [← Ny338.out] at ho16 | (simp only [Int.reduceToNat] at ho16; rw [← Ny338.out] at ho16)); have HO340 := aM_ (Kd.R_lower ho16 (below_size hB_)); replace BK336 := aM_ (blk_below (g := gb336) (kR_ BK336) hb); replace HB := aM_ (below_step hB_ hb); clear hb ho16; obtain ⟨Ao17, co17, eo17⟩ := Kd.R_slice HO340.out; subst eo17) | (go_at_call 47; (with_reducible refine (impl_areReferents.calls k _ _ l0 _ _ y338 false _ ?side1 ?side2 ?side3 ?side4 A9.out).mono ?_); (case side1 => exact z9_3_); (case side2 => exact HC0.out); (case side3 => exact cR_ HO340); (case side4 => exact (Kd.R_reads' HO340.out).2.1); rintro e w18 ⟨rfl, hb⟩; replace HO340 := aM_ (Kd.R_below (rR_ HO340) hb); replace BK336 := aM_ (blk_below (g := gb336) (kR_ BK336) hb); replace HB := aM_ (below_step hB_ hb); (try clear hb); (try clear hk)))
  go_meet
  case rel => exact ⟨_, (true), z9_1_, H', ⟨oR_⟩, ⟨kP_⟩, ⟨hB_⟩⟩
 case rest =>
  clear HC5
  obtain ⟨kq, x25_4, rfl, HA, HJ4, BK336, HB⟩ := hcut
  cases kq with
  | zero => exact absurd HA.out (by simp [impl_VerbFor.j0])
  | succ kj4 =>
   have H := HA.out
   clear HA
   simp only [impl_VerbFor.j0] at H
   by_cases c19 : x25_4 = true
   ·subst c19
    replace H := ip_ H rfl
    simp only [Option.some.injEq, Prod.mk.injEq] at H
    obtain ⟨rfl, rfl, rfl, rfl⟩ := H
    have hz20 := cf3_ BK336.out
    go_wp2
    refine bodyPost_ret (results_ct rfl _ _ gb336 27 #[.string (⟨#[]⟩ : ByteArray), .int .i64 0, .int .i64 0] (0, 0) _ rfl (by (with_reducible repeat (first | apply kN_ | apply kD_ | apply kA_)); refine blk_put (cs := #[.string (⟨#[]⟩ : ByteArray), .int .i64 0, .int .i64 0]) ?_ 2 _ rfl; (with_reducible repeat (first | apply kN_ | apply kD_ | apply kA_)); refine blk_put (cs := #[.string (⟨#[]⟩ : ByteArray), .int .i64 0, .int .i64 0]) ?_ 1 _ rfl; (with_reducible repeat (first | apply kN_ | apply kD_ | apply kA_)); refine blk_put (cs := #[.string (⟨#[]⟩ : ByteArray), .int .i64 0, .int .i64 0]) ?_ 0 _ rfl; (with_reducible repeat (first | apply kN_ | apply kD_ | apply kA_)); exact BK336.out) Tryz.underlying27 rfl (by kernel_rfl)) rfl ?_
    exact ⟨rT_, hB_⟩
   replace c19 := Bool.eq_false_iff.mpr c19
   subst c19
   replace H := in_ H (show ¬ (false = true) by decide)
   replace H := ob_ H; obtain ⟨t342, A21, H⟩ := H; try dsimp only at H
   replace H := ig_ H; obtain ⟨c22b0, H⟩ := H
   replace H := ig_ H; obtain ⟨c23b0, H⟩ := H
   replace H := ob_ H; obtain ⟨t344, A24, H⟩ := H; try dsimp only at H
   replace H := ig_ H; obtain ⟨c25b0, H⟩ := H
   replace H := ig_ H; obtain ⟨c26b0, H⟩ := H
   simp only [Option.some.injEq, Prod.mk.injEq] at H
   obtain ⟨rfl, rfl, rfl, rfl⟩ := H
   try go_wp2
   replace BK336 := aM_ (blk_drew BK336.out)
   replace HB := aM_ (below_drew1 HB.out)
   have p343 : 0 ≤ (t342 : Int) := ode_
   have q343 : t342 < (l0.length : Int) := ode_
   obtain ⟨ad343, e343, hx343_0, hx343_1⟩ := at_T58 HR0.out t342 p343 q343
   have hw343_1 := hx343_1
   have hw343_0 := hx343_0
   cases e343
   try replace hx343_0 := hc_ HB hx343_0
   try replace hx343_1 := hc_ HB hx343_1
   replace p343 := eq_true p343
   replace q343 := eq_true q343
   have p345 : 0 ≤ (t344 : Int) := ode_
   have q345 : t344 < (l0.length : Int) := ode_
   obtain ⟨ad345, e345, hx345_0, hx345_1⟩ := at_T58 HR0.out t344 p345 q345
   have hw345_1 := hx345_1
   have hw345_0 := hx345_0
   obtain rfl : ad343 = ad345 := (by injection e345)
   try replace hx345_0 := hc_ HB hx345_0
   try replace hx345_1 := hc_ HB hx345_1
   replace p345 := eq_true p345
   replace q345 := eq_true q345
   refine st_ 18 (fun w' => w'.cell? (ad343.add ((t342).toNat * 2)) = some (.string ((rd_T58 l0 t342).f0)) ∧ w'.cell? ⟨(ad343.add ((t342).toNat * 2)).block, (ad343.add ((t342).toNat * 2)).off + 1, none⟩ = some (.int .i64 ((rd_T58 l0 t342).f1)) ∧ w'.cell? (ad343.add ((t344).toNat * 2)) = some (.string ((rd_T58 l0 t344).f0)) ∧ w'.cell? ⟨(ad343.add ((t344).toNat * 2)).block, (ad343.add ((t344).toNat * 2)).off + 1, none⟩ = some (.int .i64 ((rd_T58 l0 t344).f1))) [] impl_VerbFor.tab3 impl_VerbFor.bits3 ⟨((HB.out.cell (World.block_lt_of_cell? w _ hw343_0)).trans hw343_0), ((HB.out.cell (World.block_lt_of_cell? w _ hw343_1)).trans hw343_1), ((HB.out.cell (World.block_lt_of_cell? w _ hw345_0)).trans hw345_0), ((HB.out.cell (World.block_lt_of_cell? w _ hw345_1)).trans hw345_1)⟩ fun hHeld HT_ HW_ => ?_
   generalize wc.drew = w27 at BK336 HB hx343_0 hx343_1 hx345_0 hx345_1 hHeld ⊢
   refine pu_ 0 27 ?_
   refine pu_ 1 28 ?_
   refine pu_ 2 29 ?_
   refine pu_ 3 30 ?_
   refine pu_ 8 35 ?_
   refine pu_ 9 36 ?_
   refine pu_ 10 37 ?_
   refine on_ 4 31 fun K hK => ?_
   refine gS_ Tryz.func48 #[.slice (some ad343) l0.length c0, .string a2] ?_
   with_reducible refine (impl_locusOf.calls kj4 _ _ l0 a2 t342 _ ?side1 ?side2 A21.out).mono ?_
   (case side1 => repeat (first | exact (Kd.C_below HR0.out HB.out) | (with_reducible first | apply cA_ | apply cN_ | apply cD_)))
   (case side2 => exact HC0.out)
   rintro e w28 ⟨rfl, hb⟩
   refine ⟨_, rfl, ?_⟩
   replace BK336 := aM_ (blk_below (g := gb336) (kR_ BK336) hb)
   replace HB := aM_ (below_step hB_ hb)
   (try clear hb)
   (try clear hb2)
   (try clear hk)
   (try clear hi)
   refine hK.out _ _ ⟨((HB.out.cell (World.block_lt_of_cell? w _ hw343_0)).trans hw343_0), ((HB.out.cell (World.block_lt_of_cell? w _ hw343_1)).trans hw343_1), ((HB.out.cell (World.block_lt_of_cell? w _ hw345_0)).trans hw345_0), ((HB.out.cell (World.block_lt_of_cell? w _ hw345_1)).trans hw345_1)⟩ (fun hHeld => ?_)
   clear hK K
   refine nm_ 31 ?_
   refine pu_ 5 32 ?_
   refine pu_ 6 33 ?_
   refine tk_ 7 34 ?_
   refine on_ 11 38 fun K hK => ?_
   refine gS_ Tryz.func48 #[.slice (some ad343) l0.length c0, .string a3] ?_
   with_reducible refine (impl_locusOf.calls kj4 _ _ l0 a3 t344 _ ?side1 ?side2 A24.out).mono ?_
   (case side1 => repeat (first | exact (Kd.C_below HR0.out HB.out) | (with_reducible first | apply cA_ | apply cN_ | apply cD_)))
   (case side2 => exact HC0.out)
   rintro e w29 ⟨rfl, hb⟩
   refine ⟨_, rfl, ?_⟩
   replace BK336 := aM_ (blk_below (g := gb336) (kR_ BK336) hb)
   replace HB := aM_ (below_step hB_ hb)
   (try clear hb)
   (try clear hb2)
   (try clear hk)
   (try clear hi)
   refine hK.out _ _ ⟨((HB.out.cell (World.block_lt_of_cell? w _ hw343_0)).trans hw343_0), ((HB.out.cell (World.block_lt_of_cell? w _ hw343_1)).trans hw343_1), ((HB.out.cell (World.block_lt_of_cell? w _ hw345_0)).trans hw345_0), ((HB.out.cell (World.block_lt_of_cell? w _ hw345_1)).trans hw345_1)⟩ (fun hHeld => ?_)
   clear hK K
   refine nm_ 38 ?_
   refine pu_ 12 39 ?_
   refine pu_ 13 40 ?_
   refine tk_ 14 41 ?_
   refine pu_ 15 42 ?_
   refine one_ (i := 16) (N := none) (bz_ 18 0x1ffff) rfl rfl (one_of HT_.out (by kernel_rfl)) (by decide) (fun K hK => ?_)
   have hs30 : w29.cell? ⟨gb336, 0, none⟩ = some (.string (⟨#[]⟩ : ByteArray)) := (blk_cell BK336.out 0).trans rfl
   have hfs30 := blk_frozen BK336.out 0
   have hs31 : w29.cell? ⟨gb336, 1, none⟩ = some (.int .i64 0) := (blk_cell BK336.out 1).trans rfl
   have hfs31 := blk_frozen BK336.out 1
   have hs32 : w29.cell? ⟨gb336, 2, none⟩ = some (.int .i64 0) := (blk_cell BK336.out 2).trans rfl
   have hfs32 := blk_frozen BK336.out 2
   refine skip_ (w1 := ?_) (by rfl) rfl ?_ ?_
   rotate_left
   ·go_simp
    rfl
   refine hK.out _ _ ⟨((cell_far (p := ⟨gb336, _, none⟩) z9_4_ _).trans (((cell_far (p := ⟨gb336, _, none⟩) z9_4_ _).trans (((cell_far (p := ⟨gb336, _, none⟩) z9_4_ _).trans (hHeld.1)))))), ((cell_far (p := ⟨gb336, _, none⟩) z9_5_ _).trans (((cell_far (p := ⟨gb336, _, none⟩) z9_5_ _).trans (((cell_far (p := ⟨gb336, _, none⟩) z9_5_ _).trans (hHeld.2.1)))))), ((cell_far (p := ⟨gb336, _, none⟩) z9_6_ _).trans (((cell_far (p := ⟨gb336, _, none⟩) z9_6_ _).trans (((cell_far (p := ⟨gb336, _, none⟩) z9_6_ _).trans (hHeld.2.2.1)))))), ((cell_far (p := ⟨gb336, _, none⟩) z9_7_ _).trans (((cell_far (p := ⟨gb336, _, none⟩) z9_7_ _).trans (((cell_far (p := ⟨gb336, _, none⟩) z9_7_ _).trans (hHeld.2.2.2))))))⟩ (fun hHeld => ?_)
   clear hK K
   refine pu_ 17 9 ?_
   refine dn_ ?_
   try go_wp2
   refine bodyPost_ret (results_ct rfl _ _ gb336 27 #[.string a1, .int .i64 ((rd_T58 l0 t342).f1), .int .i64 ((rd_T58 l0 t344).f1)] (0, 0) _ rfl (by (with_reducible repeat (first | apply kN_ | apply kD_ | apply kA_)); refine blk_put (cs := #[.string a1, .int .i64 ((rd_T58 l0 t342).f1), .int .i64 0]) ?_ 2 _ rfl; (with_reducible repeat (first | apply kN_ | apply kD_ | apply kA_)); refine blk_put (cs := #[.string a1, .int .i64 0, .int .i64 0]) ?_ 1 _ rfl; (with_reducible repeat (first | apply kN_ | apply kD_ | apply kA_)); refine blk_put (cs := #[.string (⟨#[]⟩ : ByteArray), .int .i64 0, .int .i64 0]) ?_ 0 _ rfl; (with_reducible repeat (first | apply kN_ | apply kD_ | apply kA_)); exact BK336.out) Tryz.underlying27 rfl (by kernel_rfl)) rfl ?_
   exact ⟨rT_, hB_⟩

/-! ### spec_fsWord: function 51 -/
theorem spec_fsWord.calls (k : Nat) (a0 : ByteArray) (r : Bool) (w : World) (h : spec_fsWord.f k a0 = some r) :
 Calls Tryz.prog 51 #[.string a0] w fun e w' => e = .returned (.bool r) ∧ Drawn0 w w' := by
 have H : (spec_fsWord.l0 k a0 0) = some r := h
 clear h
 have H' := Aside0.mk H
 clear H
 go_enter Tryz.func51, Tryz.ntmps51
 go_wp2
 go_loopg [3] k (fun kq v3 w' => ∃ (x3_1 : Int), v3 = .int .i64 x3_1 ∧ Aside0 (spec_fsWord.l0 kq a0 x3_1 = some r) ∧ Aside0 (kq ≤ k) ∧ Drawn0 w w')
 case atStart => exact ⟨(0), z9_1_, H', ⟨Nat.le_refl _⟩, z9_8_⟩
 case round =>
  clear H'
  obtain ⟨x3_1, rfl, HA, HK1, ⟨m1, rfl⟩⟩ := hrel
  cases gk with
  | zero => exact absurd HA.out (by simp [spec_fsWord.l0])
  | succ k1 =>
   have H := HA.out
   clear HA
   simp only [spec_fsWord.l0] at H
   replace H := iF_ H; obtain ⟨c2b0, H⟩ | ⟨c2b0, H⟩ := H
   ·replace H := ob_ H; obtain ⟨t346, A8, H⟩ := H; try dsimp only at H
    obtain rfl := Option.some.inj H
    go_wp2_with (first | ((with_reducible refine gC_ 92 ?_); refine gM_ (some 22) Tryz.func92 #[.int .i64 (a0.size : Int), .int .i64 1, .int .i64 8] ?_; (with_reducible refine (spec_l1In.calls (a0.size : Int) 1 8 t346 _ A8.out).mono ?_); rintro e w' ⟨rfl, ⟨nd, rfl⟩⟩; refine ⟨_, rfl, ?_⟩))
    go_ret
    exact ⟨z9_1_, z9_8_⟩
   replace H := ig_ H; obtain ⟨c3b0, H⟩ := H
   replace H := iT_ H; obtain ⟨c5b0, H⟩ | ⟨c5b0, H⟩ := H
   ·obtain rfl := Option.some.inj H
    have p4 : 0 ≤ (x3_1 : Int) := ode_
    have q4 : x3_1 < (a0.size : Int) := ode_
    have hx4 := bt_at a0 x3_1
    replace p4 := eq_true p4
    replace q4 := eq_true q4
    go_wp2
    go_ret
    exact ⟨z9_1_, z9_8_⟩
   by_cases c7 : (bt a0 x3_1) > 90
   ·rw [if_pos c7] at H
    have c7b0 : decide (90 < (bt a0 x3_1)) = true := decide_eq_true c7
    clear c7
    obtain rfl := Option.some.inj H
    have p4 : 0 ≤ (x3_1 : Int) := ode_
    have q4 : x3_1 < (a0.size : Int) := ode_
    have hx4 := bt_at a0 x3_1
    replace p4 := eq_true p4
    replace q4 := eq_true q4
    have p6 : 0 ≤ (x3_1 : Int) := ode_
    have q6 : x3_1 < (a0.size : Int) := ode_
    have hx6 := bt_at a0 x3_1
    replace p6 := eq_true p6
    replace q6 := eq_true q6
    go_wp2
    go_ret
    exact ⟨z9_1_, z9_8_⟩
   rw [if_neg c7] at H
   have c7b0 : decide (90 < (bt a0 x3_1)) = false := decide_eq_false c7
   clear c7
   have H' := Aside0.mk H
   clear H
   have p4 : 0 ≤ (x3_1 : Int) := ode_
   have q4 : x3_1 < (a0.size : Int) := ode_
   have hx4 := bt_at a0 x3_1
   replace p4 := eq_true p4
   replace q4 := eq_true q4
   have p6 : 0 ≤ (x3_1 : Int) := ode_
   have q6 : x3_1 < (a0.size : Int) := ode_
   have hx6 := bt_at a0 x3_1
   replace p6 := eq_true p6
   replace q6 := eq_true q6
   go_wp2
   go_roundg k1
   case measure => have := HK1.out; omega
   case rel => exact ⟨(wrap64 (x3_1 + 1)), z9_1_, H', ⟨by have := HK1.out; omega⟩, z9_8_⟩

end Go.Proofs.YtfkdlfbjkdkffaaGreatDoor.PFnVerbs
