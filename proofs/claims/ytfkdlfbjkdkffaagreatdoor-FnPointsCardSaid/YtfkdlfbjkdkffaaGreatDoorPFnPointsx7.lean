/- Printed for this claim: functions of the program as Lean functions, and that the calls answer so. -/
import Derived.Test.YtfkdlfbjkdkffaaGreatDoorPFnPointsx0
import Derived.Test.YtfkdlfbjkdkffaaGreatDoorPFnPointsx6
import Derived.Test.YtfkdlfbjkdkffaaGreatDoorPFnPointsxD0
namespace Go.Proofs.YtfkdlfbjkdkffaaGreatDoor.PFnPoints
open Go.RowKit Go.Proofs.YtfkdlfbjkdkffaaGreatDoorW.PrintWords Go.Proofs.YtfkdlfbjkdkffaaGreatDoorW.PrintLast Go.Proofs.YtfkdlfbjkdkffaaGreatDoorW.PrintMore
theorem z7_0_ {p : Prop} (h : p := by first | rfl | (simp; done) | (simp [*]; done)) : p := h
theorem z7_1_ {p : Prop} (h : p := by repeat (first | exact Drawn0.refl _ | apply Drawn0.step)) : p := h
set_option maxHeartbeats 8000000
set_option maxRecDepth 100000
attribute [local go_sem] max2_int min2_int max_two min_two max_three min_three max_four min_four isSome_setCell   -- for this text's walks alone
set_option linter.unusedVariables false
set_option linter.unusedSimpArgs false

/-! ### strings_IndexByte: function 116 -/
theorem strings_IndexByte.calls (a0 : ByteArray) (a1 : Int) (r : Int) (w : World) (h : strings_IndexByte.f a0 a1 = some r) :
 Calls Tryz.prog 116 #[.string a0, .int .u8 a1] w fun e w' => e = .returned (.int .i64 r) ∧ Drawn0 w w' := by
 have H : ((stringslite_IndexByte.f a0 a1).bind fun t281 => (some t281)) = some r := h
 clear h
 replace H := ob_ H; obtain ⟨t281, A3, H⟩ := H; try dsimp only at H
 obtain rfl := Option.some.inj H
 go_enter Tryz.func116, Tryz.ntmps116
 go_wp2_with (first | ((with_reducible refine gC_ 123 ?_); refine gM_ (some 7) Tryz.func123 #[.string a0, .int .u8 a1] ?_; (with_reducible refine (stringslite_IndexByte.calls a0 a1 t281 _ A3.out).mono ?_); rintro e w' ⟨rfl, ⟨nd, rfl⟩⟩; refine ⟨_, rfl, ?_⟩))
 go_ret
 exact ⟨z7_0_, z7_1_⟩

/-! ### impl_hasOnly: function 103 -/
theorem impl_hasOnly.calls (k : Nat) (a0 : ByteArray) (a1 : ByteArray) (r : Bool) (w : World) (h : impl_hasOnly.f k a0 a1 = some r) :
 Calls Tryz.prog 103 #[.string a0, .string a1] w fun e w' => e = .returned (.bool r) ∧ Drawn0 w w' := by
 have H : (impl_hasOnly.l0 k a0 a1 (a0.size : Int) 0) = some r := h
 clear h
 have H' := Aside0.mk H
 clear H
 go_enter Tryz.func103, Tryz.ntmps103
 go_wp2
 go_loopg [8] k (fun kq v8 w' => ∃ (x8_1 : Int), v8 = .int .i64 x8_1 ∧ Aside0 (impl_hasOnly.l0 kq a0 a1 (a0.size : Int) x8_1 = some r) ∧ Aside0 (kq ≤ k) ∧ Drawn0 w w')
 case atStart => exact ⟨(0), z7_0_, H', ⟨Nat.le_refl _⟩, z7_1_⟩
 case round =>
  clear H'
  obtain ⟨x8_1, rfl, HA, HK1, ⟨m1, rfl⟩⟩ := hrel
  cases gk with
  | zero => exact absurd HA.out (by simp [impl_hasOnly.l0])
  | succ k1 =>
   have H := HA.out
   clear HA
   simp only [impl_hasOnly.l0] at H
   replace H := iF_ H; obtain ⟨c3b0, H⟩ | ⟨c3b0, H⟩ := H
   ·obtain rfl := Option.some.inj H
    go_wp2
    go_ret
    exact ⟨z7_0_, z7_1_⟩
   replace H := ig_ H; obtain ⟨c4b0, H⟩ := H
   replace H := ig_ H; obtain ⟨c5b0, H⟩ := H
   replace H := ob_ H; obtain ⟨t282, A7, H⟩ := H; try dsimp only at H
   have HC8 := Aside0.mk H
   clear H
   have p6 : 0 ≤ (x8_1 : Int) := ode_
   have q6 : x8_1 < (a0.size : Int) := ode_
   have hx6 := bt_at a0 x8_1
   replace p6 := eq_true p6
   replace q6 := eq_true q6
   go_upto_if 16 with (first | ((with_reducible refine gC_ 116 ?_); refine gM_ (some 15) Tryz.func116 #[.string a1, .int .u8 (bt a0 x8_1)] ?_; (with_reducible refine (strings_IndexByte.calls a1 (bt a0 x8_1) t282 _ A7.out).mono ?_); rintro e w' ⟨rfl, ⟨nd, rfl⟩⟩; refine ⟨_, rfl, ?_⟩))
   (try simp only [Act.put, List.setIfInBounds_toArray, List.set_cons_zero, List.set_cons_succ])
   have H := HC8.out
   clear HC8
   replace H := iT_ H; obtain ⟨c9b0, H⟩ | ⟨c9b0, H⟩ := H
   ·(first | rw [c9b0] | (simp only [i64_w, i32_w]; rw [c9b0]) | skip)
    obtain rfl := Option.some.inj H
    go_wp2
    go_ret
    exact ⟨z7_0_, z7_1_⟩
   (first | rw [c9b0] | (simp only [i64_w, i32_w]; rw [c9b0]) | skip)
   have H' := Aside0.mk H
   clear H
   go_wp2
   go_roundg k1
   case measure => have := HK1.out; omega
   case rel => exact ⟨(wrap64 (x8_1 + 1)), z7_0_, H', ⟨by have := HK1.out; omega⟩, z7_1_⟩

/-! ### impl_isWordOf: function 72 -/
theorem impl_isWordOf.calls (k : Nat) (a0 : ByteArray) (a1 : ByteArray) (r : Bool) (w : World) (h : impl_isWordOf.f k a0 a1 = some r) :
 Calls Tryz.prog 72 #[.string a0, .string a1] w fun e w' => e = .returned (.bool r) ∧ Drawn0 w w' := by
 have H : ((impl_within.f (a0.size : Int) 1 8).bind fun t283 => (if t283 = true then ((impl_hasOnly.f k a0 a1).bind fun t284 => (some t284)) else (some false))) = some r := h
 clear h
 replace H := ob_ H; obtain ⟨t283, A3, H⟩ := H; try dsimp only at H
 by_cases c4 : t283 = true
 rotate_left
 ·replace c4 := Bool.eq_false_iff.mpr c4
  subst c4
  replace H := in_ H (show ¬ (false = true) by decide)
  obtain rfl := Option.some.inj H
  go_enter Tryz.func72, Tryz.ntmps72
  go_wp2_with (first | ((with_reducible refine gC_ 100 ?_); refine gM_ (some 7) Tryz.func100 #[.int .i64 (a0.size : Int), .int .i64 1, .int .i64 8] ?_; (with_reducible refine (impl_within.calls (a0.size : Int) 1 8 false _ A3.out).mono ?_); rintro e w' ⟨rfl, ⟨nd, rfl⟩⟩; refine ⟨_, rfl, ?_⟩))
  go_ret
  exact ⟨z7_0_, z7_1_⟩
 subst c4
 replace H := ip_ H rfl
 replace H := ob_ H; obtain ⟨t284, A5, H⟩ := H; try dsimp only at H
 obtain rfl := Option.some.inj H
 go_enter Tryz.func72, Tryz.ntmps72
 go_wp2_with (first | ((with_reducible refine gC_ 100 ?_); refine gM_ (some 7) Tryz.func100 #[.int .i64 (a0.size : Int), .int .i64 1, .int .i64 8] ?_; (with_reducible refine (impl_within.calls (a0.size : Int) 1 8 true _ A3.out).mono ?_); rintro e w' ⟨rfl, ⟨nd, rfl⟩⟩; refine ⟨_, rfl, ?_⟩) | (go_at_call 103; (with_reducible refine (impl_hasOnly.calls k a0 a1 t284 _ A5.out).mono ?_); rintro e w' ⟨rfl, ⟨nd, rfl⟩⟩))
 go_ret
 exact ⟨z7_0_, z7_1_⟩

end Go.Proofs.YtfkdlfbjkdkffaaGreatDoor.PFnPoints
