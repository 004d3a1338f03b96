/- Printed for this claim: functions of the program as Lean functions, and that the calls answer so. -/
import Derived.Test.YtfkdlfbjkdkffaaGreatDoorPFnPointsx0
import Derived.Test.YtfkdlfbjkdkffaaGreatDoorPFnPointsx6
import Derived.Test.YtfkdlfbjkdkffaaGreatDoorPFnPointsx8
import Derived.Test.YtfkdlfbjkdkffaaGreatDoorPFnPointsx9
import Derived.Test.YtfkdlfbjkdkffaaGreatDoorPFnPointsx10
import Derived.Test.YtfkdlfbjkdkffaaGreatDoorPFnPointsxD0
namespace Go.Proofs.YtfkdlfbjkdkffaaGreatDoor.PFnPoints
open Go.RowKit Go.Proofs.YtfkdlfbjkdkffaaGreatDoorW.PrintWords Go.Proofs.YtfkdlfbjkdkffaaGreatDoorW.PrintLast Go.Proofs.YtfkdlfbjkdkffaaGreatDoorW.PrintMore
theorem z12_0_ {p : Prop} (h : p := by first | rfl | (simp; done) | (simp [*]; done)) : p := h
theorem z12_1_ {p : Prop} (h : p := by repeat (first | exact Drawn0.refl _ | apply Drawn0.step)) : p := h
set_option maxHeartbeats 8000000
set_option maxRecDepth 100000
attribute [local go_sem] max2_int min2_int max_two min_two max_three min_three max_four min_four isSome_setCell   -- for this text's walks alone
set_option linter.unusedVariables false
set_option linter.unusedSimpArgs false

/-! ### impl_pointsAt: function 73 -/
theorem impl_pointsAt.calls (k : Nat) (A0 : Option Addr) (c0 : Nat) (l0 : List (S58)) (a1 : Int) (r : ByteArray) (w : World) (hr0 : Kd.C k58 w A0 l0.length l0) (hc0 : l0.length ≤ c0) (h : impl_pointsAt.f k l0 a1 = some r) :
 Calls Tryz.prog 73 #[.slice A0 l0.length c0, .int .i64 a1] w fun e w' => e = .returned (.string r) ∧ Below w.heap.size w w' := by
 have HR0 := Aside0.mk hr0
 have HC0 := Aside0.mk hc0
 clear hr0 hc0
 have HB := Aside0.mk (Below.refl w.heap.size w)
 have H : ((impl_nearestLoci.f k l0 a1).bind fun bt379 => (if bt379.1 > 20 then (some (⟨#[]⟩ : ByteArray)) else (if (bt379.2.length : Int) = 1 then (if 0 < (bt379.2.length : Int) then (some (rdOf ByteArray.empty bt379.2 0)) else (none)) else (some (⟨#[]⟩ : ByteArray))))) = some r := h
 clear h
 replace H := ob_ H; obtain ⟨⟨t379, t380⟩, A3, H⟩ := H; try dsimp only at H
 by_cases c4 : t379 > 20
 ·rw [if_pos c4] at H
  have c4b0 : decide (20 < t379) = true := decide_eq_true c4
  clear c4
  obtain rfl := Option.some.inj H
  go_enter Tryz.func73, Tryz.ntmps73
  go_wp2_with (first | ((with_reducible refine gC_ 67 ?_); refine gM_ (some 10) Tryz.func67 #[.slice A0 l0.length c0, .int .i64 a1] ?_; (with_reducible refine (impl_nearestLoci.calls k _ _ l0 a1 t379 t380 _ ?side1 ?side2 A3.out).mono ?_); (case side1 => exact cC_ HR0); (case side2 => exact HC0.out); rintro e w5 ⟨v381, rfl, ho0, hb⟩; refine ⟨_, rfl, ?_⟩; have HO382 := aM_ (Kd.R_lower ho0 (below_size hB_)); replace HB := aM_ (below_step hB_ hb); (try clear hb); (try clear ho0)))
  go_ret
  exact ⟨rT_, hB_⟩
 rw [if_neg c4] at H
 have c4b0 : decide (20 < t379) = false := decide_eq_false c4
 clear c4
 have HC6 := Aside0.mk H
 clear H
 go_enter Tryz.func73, Tryz.ntmps73
 go_upto_if 19 with (first | ((with_reducible refine gC_ 67 ?_); refine gM_ (some 10) Tryz.func67 #[.slice A0 l0.length c0, .int .i64 a1] ?_; (with_reducible refine (impl_nearestLoci.calls k _ _ l0 a1 t379 t380 _ ?side1 ?side2 A3.out).mono ?_); (case side1 => exact cC_ HR0); (case side2 => exact HC0.out); rintro e w7 ⟨v381, rfl, ho0, hb⟩; refine ⟨_, rfl, ?_⟩; have HO382 := aM_ (Kd.R_lower ho0 (below_size hB_)); replace HB := aM_ (below_step hB_ hb); (try clear hb); (try clear ho0); obtain ⟨Ao8, co8, eo8⟩ := Kd.R_slice HO382.out; subst eo8))
 (try simp only [Act.put, List.setIfInBounds_toArray, List.set_cons_zero, List.set_cons_succ])
 have H := HC6.out
 clear HC6
 by_cases c9 : (t380.length : Int) = 1
 rotate_left
 ·rw [if_neg c9] at H
  have c9b0 : ((t380.length : Int) == 1) = false := beq_eq_false_iff_ne.mpr c9
  have c9b1 : ((t380.length : Int) != 1) = true := bne_iff_ne.mpr c9
  (first | rw [c9b0] | (simp only [i64_w, i32_w]; rw [c9b0]) | skip)
  obtain rfl := Option.some.inj H
  go_wp2
  go_ret
  exact ⟨rT_, hB_⟩
 rw [if_pos c9] at H
 have c9b0 : ((t380.length : Int) == 1) = true := beq_iff_eq.mpr c9
 have c9b1 : ((t380.length : Int) != 1) = false := bne_eq_false_iff_eq.mpr c9
 clear c9
 (first | rw [c9b0] | (simp only [i64_w, i32_w]; rw [c9b0]) | skip)
 by_cases c10 : 0 < (t380.length : Int)
 rotate_left
 ·rw [if_neg c10] at H
  exact absurd H (by simp)
 rw [if_pos c10] at H
 have c10b0 : decide (0 < (t380.length : Int)) = true := decide_eq_true c10
 have c10b1 : decide (0 < t380.length) = true := decide_eq_true (by omega)
 clear c10
 obtain rfl := Option.some.inj H
 have p383 : 0 ≤ (0 : Int) := (by omega)
 have q383 : 0 < (t380.length : Int) := ode_
 obtain ⟨ad383, e383, hx383_0⟩ := Kd.at_string (Kd.R_reads' HO382.out).2.2 0 p383 q383
 cases e383
 have qi383 : (0 < t380.length) = True := eq_true (by omega)
 (try rw [show ((0 : Int)).toNat = 0 from rfl] at hx383_0)
 (try rw [Addr.add_zero'] at hx383_0)
 replace p383 := eq_true p383
 replace q383 := eq_true q383
 go_wp2
 go_ret
 exact ⟨rT_, hB_⟩

/-! ### impl_PointsAt: function 34 -/
theorem impl_PointsAt.calls (k : Nat) (A0 : Option Addr) (c0 : Nat) (l0 : List (S58)) (a1 : Int) (r1 : ByteArray) (r2 : Bool) (w : World) (hr0 : Kd.C k58 w A0 l0.length l0) (hc0 : l0.length ≤ c0) (h : impl_PointsAt.f k l0 a1 = some (r1, r2)) :
 Calls Tryz.prog 34 #[.slice A0 l0.length c0, .int .i64 a1] w fun e w' => e = .returned (.tuple #[.string r1, .bool r2]) ∧ Below w.heap.size w w' := by
 have HR0 := Aside0.mk hr0
 have HC0 := Aside0.mk hc0
 clear hr0 hc0
 have HB := Aside0.mk (Below.refl w.heap.size w)
 have H : ((impl_AreLoci.f k l0).bind fun t384 => (if t384 = true then ((impl_isAngle.f a1).bind fun t385 => (if t385 = true then ((impl_pointsAt.f k l0 a1).bind fun t386 => (some (t386, (t386.toList != ([] : List UInt8))))) else (some ((⟨#[]⟩ : ByteArray), false)))) else (some ((⟨#[]⟩ : ByteArray), false)))) = some (r1, r2) := h
 clear h
 replace H := ob_ H; obtain ⟨t384, A3, H⟩ := H; try dsimp only at H
 by_cases c4 : t384 = true
 rotate_left
 ·replace c4 := Bool.eq_false_iff.mpr c4
  subst c4
  replace H := in_ H (show ¬ (false = true) by decide)
  simp only [Option.some.injEq, Prod.mk.injEq] at H
  obtain ⟨rfl, rfl⟩ := H
  go_enter Tryz.func34, Tryz.ntmps34
  go_wp2_with (first | ((with_reducible refine gC_ 33 ?_); refine gM_ (some 8) Tryz.func33 #[.slice A0 l0.length c0] ?_; (with_reducible refine (impl_AreLoci.calls k _ _ l0 false _ ?side1 ?side2 A3.out).mono ?_); (case side1 => exact cC_ HR0); (case side2 => exact HC0.out); rintro e w11 ⟨rfl, hb⟩; refine ⟨_, rfl, ?_⟩; replace HB := aM_ (below_step hB_ hb); (try clear hb)))
  go_ret2
  exact ⟨rT_, hB_⟩
 subst c4
 replace H := ip_ H rfl
 replace H := ob_ H; obtain ⟨t385, A5, H⟩ := H; try dsimp only at H
 have HC6 := Aside0.mk H
 clear H
 go_enter Tryz.func34, Tryz.ntmps34
 go_upto_if 14 with (first | ((with_reducible refine gC_ 33 ?_); refine gM_ (some 8) Tryz.func33 #[.slice A0 l0.length c0] ?_; (with_reducible refine (impl_AreLoci.calls k _ _ l0 true _ ?side1 ?side2 A3.out).mono ?_); (case side1 => exact cC_ HR0); (case side2 => exact HC0.out); rintro e w7 ⟨rfl, hb⟩; refine ⟨_, rfl, ?_⟩; replace HB := aM_ (below_step hB_ hb); (try clear hb)) | (go_at_call 65; (with_reducible refine (impl_isAngle.calls a1 t385 _ A5.out).mono ?_); rintro e w' ⟨rfl, ⟨nd, rfl⟩⟩))
 (try simp only [Act.put, List.setIfInBounds_toArray, List.set_cons_zero, List.set_cons_succ])
 have H := HC6.out
 clear HC6
 by_cases c8 : t385 = true
 rotate_left
 ·replace c8 := Bool.eq_false_iff.mpr c8
  subst c8
  replace H := in_ H (show ¬ (false = true) by decide)
  simp only [Option.some.injEq, Prod.mk.injEq] at H
  obtain ⟨rfl, rfl⟩ := H
  go_wp2
  go_ret2
  exact ⟨rT_, hB_⟩
 subst c8
 replace H := ip_ H rfl
 replace H := ob_ H; obtain ⟨t386, A9, H⟩ := H; try dsimp only at H
 simp only [Option.some.injEq, Prod.mk.injEq] at H
 obtain ⟨rfl, rfl⟩ := H
 go_wp2_with (first | ((with_reducible refine gC_ 73 ?_); refine gM_ (some 17) Tryz.func73 #[.slice A0 l0.length c0, .int .i64 a1] ?_; (with_reducible refine (impl_pointsAt.calls k _ _ l0 a1 t386 _ ?side1 ?side2 A9.out).mono ?_); (case side1 => exact (by repeat (first | exact (Kd.C_below HR0.out HB.out) | (with_reducible first | apply cA_ | apply cN_ | apply cD_)))); (case side2 => exact HC0.out); rintro e w10 ⟨rfl, hb⟩; refine ⟨_, rfl, ?_⟩; replace HB := aM_ (below_step hB_ hb); (try clear hb)))
 go_ret2
 exact ⟨rT_, hB_⟩

/-! ### laws_pAbs: function 35 -/
theorem laws_pAbs.calls (a0 : Int) (r : Int) (w : World) (h : laws_pAbs.f a0 = some r) :
 Calls Tryz.prog 35 #[.int .i64 a0] w fun e w' => e = .returned (.int .i64 r) ∧ Drawn0 w w' := by
 have H : (if a0 < 0 then (some (wrap64 (-a0))) else (some a0)) = some r := h
 clear h
 replace H := iT_ H; obtain ⟨c2b0, H⟩ | ⟨c2b0, H⟩ := H
 ·obtain rfl := Option.some.inj H
  go_enter Tryz.func35, Tryz.ntmps35
  go_wp2
  go_ret
  exact ⟨z12_0_, z12_1_⟩
 obtain rfl := Option.some.inj H
 go_enter Tryz.func35, Tryz.ntmps35
 go_wp2
 go_ret
 exact ⟨z12_0_, z12_1_⟩

/-! ### stringslite_Index: function 113, by hand -/
open Go.Shelf Go.RowKit Go.Sort Go.Lib in
def laid_lays219_ren : Go.Shelf.Ren := ⟨fun | 219 => 113 | 217 => 123 | 225 => 124 | 224 => 125 | 267 => 126 | 266 => 137 | 314 => 138 | n => n, fun | 9 => 9 | 3 => 3 | 4 => 4 | 5 => 5 | 46 => 115 | 146 => 135 | 51 => 134 | n => n, fun | 1 => 0 | n => n⟩
open Go.Shelf Go.RowKit Go.Sort Go.Lib in
theorem laid_lays219 : Go.Proofs.Lays.n219 Tryz.prog laid_lays219_ren := {
 mixed := by kernel_rfl
 f217 := Tryz.func123.trans (congrArg some (by kernel_rfl))
 f219 := Tryz.func113.trans (congrArg some (by kernel_rfl))
 f224 := Tryz.func125.trans (congrArg some (by kernel_rfl))
 f225 := Tryz.func124.trans (congrArg some (by kernel_rfl))
 f266 := Tryz.func137.trans (congrArg some (by kernel_rfl))
 f267 := Tryz.func126.trans (congrArg some (by kernel_rfl))
 f314 := Tryz.func138.trans (congrArg some (by kernel_rfl))
 t3 := Tryz.underlying3
 a3 := Tryz.isAgg3
 z3 := Tryz.sizeOf3
 v3 := Tryz.zeroValue3
 t4 := Tryz.underlying4
 a4 := Tryz.isAgg4
 z4 := Tryz.sizeOf4
 v4 := Tryz.zeroValue4
 t5 := Tryz.underlying5
 a5 := Tryz.isAgg5
 z5 := Tryz.sizeOf5
 v5 := Tryz.zeroValue5
 t9 := Tryz.underlying9
 a9 := Tryz.isAgg9
 z9 := Tryz.sizeOf9
 v9 := Tryz.zeroValue9
 t46 := Tryz.underlying115
 a46 := Tryz.isAgg115
 z46 := Tryz.sizeOf115
 v46 := Tryz.zeroValue115
 t51 := Tryz.underlying134
 a51 := Tryz.isAgg134
 z51 := Tryz.sizeOf134
 v51 := Tryz.zeroValue134
 t146 := Tryz.underlying135
 a146 := Tryz.isAgg135
 z146 := Tryz.sizeOf135
 v146 := Tryz.zeroValue135
 g1 := by kernel_rfl }
theorem stringslite_Index.calls (a0 : ByteArray) (a1 : ByteArray) (r : Int) (w : World) (h : stringslite_Index.f a0 a1 = some r) :
 Calls Tryz.prog 113 #[.string a0, .string a1] w fun e w' => e = .returned (.int .i64 r) ∧ Drawn0 w w' := by
 unfold stringslite_Index.f at h
 split at h
 case isFalse => cases h
 case isTrue hl =>
  obtain rfl := Option.some.inj h
  obtain ⟨⟨l⟩⟩ := a1
  match l, hl with
  | [c], _ => exact (Any.stringslite_Index_one laid_lays219 a0 c w).mono fun _ _ ⟨he, hw⟩ => ⟨he, by subst hw; exact Drawn0.refl _⟩
  | [], hl => cases hl
  | _ :: _ :: _, hl => exact absurd hl (by simp [ByteArray.size])

/-! ### stringslite_Cut: function 97 -/
theorem stringslite_Cut.calls (a0 : ByteArray) (a1 : ByteArray) (r1 : ByteArray) (r2 : ByteArray) (r3 : Bool) (w : World) (h : stringslite_Cut.f a0 a1 = some (r1, r2, r3)) :
 Calls Tryz.prog 97 #[.string a0, .string a1] w fun e w' => e = .returned (.tuple #[.string r1, .string r2, .bool r3]) ∧ Drawn0 w w' := by
 have H : ((stringslite_Index.f a0 a1).bind fun t387 => (if t387 ≥ 0 then (if 0 ≤ t387 then (if t387 ≤ (a0.size : Int) then (if 0 ≤ (wrap64 (t387 + (a1.size : Int))) then (if (wrap64 (t387 + (a1.size : Int))) ≤ (a0.size : Int) then (some (a0.extract 0 (t387 : Int).toNat, a0.extract ((wrap64 (t387 + (a1.size : Int))) : Int).toNat a0.size, true)) else (none)) else (none)) else (none)) else (none)) else (some (a0, (⟨#[]⟩ : ByteArray), false)))) = some (r1, r2, r3) := h
 clear h
 replace H := ob_ H; obtain ⟨t387, A3, H⟩ := H; try dsimp only at H
 have HC4 := Aside0.mk H
 clear H
 go_enter Tryz.func97, Tryz.ntmps97
 go_upto_if 12 with (first | (go_at_call 113; (with_reducible refine (stringslite_Index.calls a0 a1 t387 _ A3.out).mono ?_); rintro e w' ⟨rfl, ⟨nd, rfl⟩⟩; (try exact dd_)) | (go_quiet (first | (go_at_call 113; (with_reducible refine (stringslite_Index.calls a0 a1 t387 _ A3.out).mono ?_); rintro e w' ⟨rfl, ⟨nd, rfl⟩⟩; (try exact dd_)))))
 (try simp only [Act.put, List.setIfInBounds_toArray, List.set_cons_zero, List.set_cons_succ])
 have H := HC4.out
 clear HC4
 by_cases c5 : t387 ≥ 0
 rotate_left
 ·rw [if_neg c5] at H
  have c5b0 : decide (0 ≤ t387) = false := decide_eq_false c5
  clear c5
  (first | rw [c5b0] | (simp only [i64_w, i32_w]; rw [c5b0]) | skip)
  simp only [Option.some.injEq, Prod.mk.injEq] at H
  obtain ⟨rfl, rfl, rfl⟩ := H
  go_wp2
  repeat (go_quiet (fail); try go_wp2)
  go_ret3
  exact ⟨z12_0_, z12_1_⟩
 rw [if_pos c5] at H
 have c5b0 : decide (0 ≤ t387) = true := decide_eq_true c5
 clear c5
 (first | rw [c5b0] | (simp only [i64_w, i32_w]; rw [c5b0]) | skip)
 replace H := it_ H; obtain ⟨c6b0, c6b1, H⟩ := H
 replace H := it_ H; obtain ⟨c7b0, c7b1, H⟩ := H
 obtain ⟨ji8, hji8⟩ : ∃ j_ : Int, (wrap64 (t387 + (a1.size : Int))) = j_ := ⟨_, rfl⟩
 replace H : (if 0 ≤ (ji8) then (if (ji8) ≤ (a0.size : Int) then (some (a0.extract 0 (t387 : Int).toNat, a0.extract ((ji8) : Int).toNat a0.size, true)) else (none)) else (none)) = some (r1, r2, r3) := by first | (rw [hji8] at H; exact H) | (simp only [hji8] at H ⊢; exact H)
 have hji8w : (IntKind.i64.wrap (t387 + (a1.size : Int))) = ji8 := (i64_w _).trans hji8
 replace H := it_ H; obtain ⟨c9b0, c9b1, H⟩ := H
 replace H := it_ H; obtain ⟨c10b0, c10b1, H⟩ := H
 simp only [Option.some.injEq, Prod.mk.injEq] at H
 obtain ⟨rfl, rfl, rfl⟩ := H
 go_wp2
 repeat (go_quiet (fail); try go_wp2)
 go_ret3
 exact ⟨by first | rfl | (simp; done) | (simp only [← hji8] <;> (first | rfl | simp)) | (simp [*]; done), z12_1_⟩

/-! ### strings_Cut: function 61 -/
theorem strings_Cut.calls (a0 : ByteArray) (a1 : ByteArray) (r1 : ByteArray) (r2 : ByteArray) (r3 : Bool) (w : World) (h : strings_Cut.f a0 a1 = some (r1, r2, r3)) :
 Calls Tryz.prog 61 #[.string a0, .string a1] w fun e w' => e = .returned (.tuple #[.string r1, .string r2, .bool r3]) ∧ Drawn0 w w' := by
 have H : ((stringslite_Cut.f a0 a1).bind fun bt388 => (some (bt388.1, bt388.2.1, bt388.2.2))) = some (r1, r2, r3) := h
 clear h
 replace H := ob_ H; obtain ⟨⟨t388, t389, t390⟩, A3, H⟩ := H; try dsimp only at H
 simp only [Option.some.injEq, Prod.mk.injEq] at H
 obtain ⟨rfl, rfl, rfl⟩ := H
 go_enter Tryz.func61, Tryz.ntmps61
 go_wp2_with (first | ((with_reducible refine gC_ 97 ?_); refine gM_ (some 9) Tryz.func97 #[.string a0, .string a1] ?_; (with_reducible refine (stringslite_Cut.calls a0 a1 t388 t389 t390 _ A3.out).mono ?_); rintro e w' ⟨rfl, ⟨nd, rfl⟩⟩; refine ⟨_, rfl, ?_⟩))
 go_ret3
 exact ⟨z12_0_, z12_1_⟩

/-! ### impl_decimal: function 62, by hand -/
open Go.Shelf Go.RowKit Go.Sort Go.Lib in
def laid_laysC172_ren : Go.Shelf.Ren := ⟨fun | 172 => 98 | 244 => 114 | 245 => 115 | 247 => 127 | 279 => 128 | 280 => 129 | 281 => 130 | 282 => 131 | 287 => 139 | 316 => 140 | 171 => 95 | 205 => 141 | 321 => 147 | 322 => 148 | 243 => 112 | 246 => 122 | 283 => 133 | 284 => 134 | 285 => 135 | 286 => 136 | 129 => 143 | 317 => 142 | 318 => 144 | 319 => 145 | 320 => 146 | 337 => 149 | 338 => 150 | n => n, fun | 9 => 9 | 3 => 3 | 75 => 109 | 76 => 110 | 4 => 4 | 5 => 5 | 167 => 123 | 37 => 22 | 0 => 0 | 85 => 124 | 2 => 2 | 168 => 126 | 53 => 68 | 175 => 137 | 46 => 115 | 210 => 141 | 127 => 152 | 145 => 155 | 143 => 153 | 21 => 21 | 171 => 129 | 173 => 132 | 212 => 148 | 51 => 134 | 20 => 20 | 213 => 149 | 232 => 157 | 233 => 158 | 80 => 80 | n => n, fun | 15 => 1 | 16 => 2 | 17 => 5 | 18 => 6 | 19 => 7 | n => n⟩
open Go.Shelf Go.RowKit Go.Sort Go.Lib in
theorem laid_laysC172 : Go.Proofs.LaysC.n172 Tryz.prog laid_laysC172_ren := {
 mixed := by kernel_rfl
 f129 := Tryz.func143.trans (congrArg some (by kernel_rfl))
 f171 := Tryz.func95.trans (congrArg some (by kernel_rfl))
 f172 := Tryz.func98.trans (congrArg some (by kernel_rfl))
 f205 := Tryz.func141.trans (congrArg some (by kernel_rfl))
 f243 := Tryz.func112.trans (congrArg some (by kernel_rfl))
 f244 := Tryz.func114.trans (congrArg some (by kernel_rfl))
 f245 := Tryz.func115.trans (congrArg some (by kernel_rfl))
 f246 := Tryz.func122.trans (congrArg some (by kernel_rfl))
 f247 := Tryz.func127.trans (congrArg some (by kernel_rfl))
 f279 := Tryz.func128.trans (congrArg some (by kernel_rfl))
 f280 := Tryz.func129.trans (congrArg some (by kernel_rfl))
 f281 := Tryz.func130.trans (congrArg some (by kernel_rfl))
 f282 := Tryz.func131.trans (congrArg some (by kernel_rfl))
 f283 := Tryz.func133.trans (congrArg some (by kernel_rfl))
 f284 := Tryz.func134.trans (congrArg some (by kernel_rfl))
 f285 := Tryz.func135.trans (congrArg some (by kernel_rfl))
 f286 := Tryz.func136.trans (congrArg some (by kernel_rfl))
 f287 := Tryz.func139.trans (congrArg some (by kernel_rfl))
 f316 := Tryz.func140.trans (congrArg some (by kernel_rfl))
 f317 := Tryz.func142.trans (congrArg some (by kernel_rfl))
 f318 := Tryz.func144.trans (congrArg some (by kernel_rfl))
 f319 := Tryz.func145.trans (congrArg some (by kernel_rfl))
 f320 := Tryz.func146.trans (congrArg some (by kernel_rfl))
 f321 := Tryz.func147.trans (congrArg some (by kernel_rfl))
 f322 := Tryz.func148.trans (congrArg some (by kernel_rfl))
 f337 := Tryz.func149.trans (congrArg some (by kernel_rfl))
 f338 := Tryz.func150.trans (congrArg some (by kernel_rfl))
 t0 := Tryz.underlying0
 a0 := Tryz.isAgg0
 z0 := Tryz.sizeOf0
 v0 := Tryz.zeroValue0
 t2 := Tryz.underlying2
 a2 := Tryz.isAgg2
 z2 := Tryz.sizeOf2
 v2 := Tryz.zeroValue2
 t3 := Tryz.underlying3
 a3 := Tryz.isAgg3
 z3 := Tryz.sizeOf3
 v3 := Tryz.zeroValue3
 t4 := Tryz.underlying4
 a4 := Tryz.isAgg4
 z4 := Tryz.sizeOf4
 v4 := Tryz.zeroValue4
 t5 := Tryz.underlying5
 a5 := Tryz.isAgg5
 z5 := Tryz.sizeOf5
 v5 := Tryz.zeroValue5
 t9 := Tryz.underlying9
 a9 := Tryz.isAgg9
 z9 := Tryz.sizeOf9
 v9 := Tryz.zeroValue9
 t20 := Tryz.underlying20
 a20 := Tryz.isAgg20
 z20 := Tryz.sizeOf20
 v20 := Tryz.zeroValue20
 t21 := Tryz.underlying21
 a21 := Tryz.isAgg21
 z21 := Tryz.sizeOf21
 v21 := Tryz.zeroValue21
 t37 := Tryz.underlying22
 a37 := Tryz.isAgg22
 z37 := Tryz.sizeOf22
 v37 := Tryz.zeroValue22
 t46 := Tryz.underlying115
 a46 := Tryz.isAgg115
 z46 := Tryz.sizeOf115
 v46 := Tryz.zeroValue115
 t51 := Tryz.underlying134
 a51 := Tryz.isAgg134
 z51 := Tryz.sizeOf134
 v51 := Tryz.zeroValue134
 t53 := Tryz.underlying68
 a53 := Tryz.isAgg68
 z53 := Tryz.sizeOf68
 v53 := Tryz.zeroValue68
 t75 := Tryz.underlying109
 a75 := Tryz.isAgg109
 z75 := Tryz.sizeOf109
 v75 := Tryz.zeroValue109
 t76 := Tryz.underlying110
 a76 := Tryz.isAgg110
 z76 := Tryz.sizeOf110
 v76 := Tryz.zeroValue110
 t85 := Tryz.underlying124
 a85 := Tryz.isAgg124
 z85 := Tryz.sizeOf124
 v85 := Tryz.zeroValue124
 t127 := Tryz.underlying152
 a127 := Tryz.isAgg152
 z127 := Tryz.sizeOf152
 v127 := Tryz.zeroValue152
 t143 := Tryz.underlying153
 a143 := Tryz.isAgg153
 z143 := Tryz.sizeOf153
 v143 := Tryz.zeroValue153
 t145 := Tryz.underlying155
 a145 := Tryz.isAgg155
 z145 := Tryz.sizeOf155
 v145 := Tryz.zeroValue155
 t167 := Tryz.underlying123
 a167 := Tryz.isAgg123
 z167 := Tryz.sizeOf123
 v167 := Tryz.zeroValue123
 t168 := Tryz.underlying126
 a168 := Tryz.isAgg126
 z168 := Tryz.sizeOf126
 v168 := Tryz.zeroValue126
 t171 := Tryz.underlying129
 a171 := Tryz.isAgg129
 z171 := Tryz.sizeOf129
 v171 := Tryz.zeroValue129
 t173 := Tryz.underlying132
 a173 := Tryz.isAgg132
 z173 := Tryz.sizeOf132
 v173 := Tryz.zeroValue132
 t175 := Tryz.underlying137
 a175 := Tryz.isAgg137
 z175 := Tryz.sizeOf137
 v175 := Tryz.zeroValue137
 t210 := Tryz.underlying141
 a210 := Tryz.isAgg141
 z210 := Tryz.sizeOf141
 v210 := Tryz.zeroValue141
 t212 := Tryz.underlying148
 a212 := Tryz.isAgg148
 z212 := Tryz.sizeOf148
 v212 := Tryz.zeroValue148
 t213 := Tryz.underlying149
 a213 := Tryz.isAgg149
 z213 := Tryz.sizeOf149
 t232 := Tryz.underlying157
 a232 := Tryz.isAgg157
 z232 := Tryz.sizeOf157
 v232 := Tryz.zeroValue157
 t233 := Tryz.underlying158
 a233 := Tryz.isAgg158
 z233 := Tryz.sizeOf158
 v233 := Tryz.zeroValue158
 g15 := by kernel_rfl
 g16 := by kernel_rfl
 g17 := by kernel_rfl
 g18 := by kernel_rfl
 g19 := by kernel_rfl
 t80 := Tryz.underlying80
 a80 := Tryz.isAgg80
 z80 := Tryz.sizeOf80
 v80 := Tryz.zeroValue80
 i0 := by kernel_rfl
 i2 := by kernel_rfl
 i3 := by kernel_rfl
 i4 := by kernel_rfl
 i5 := by kernel_rfl
 i9 := by kernel_rfl
 i20 := by kernel_rfl
 i21 := by kernel_rfl
 i37 := by kernel_rfl
 i46 := by kernel_rfl
 i51 := by kernel_rfl
 i53 := by kernel_rfl
 i75 := by kernel_rfl
 i76 := by kernel_rfl
 i80 := by kernel_rfl
 i85 := by kernel_rfl
 i127 := by kernel_rfl
 i143 := by kernel_rfl
 i145 := by kernel_rfl
 i167 := by kernel_rfl
 i168 := by kernel_rfl
 i171 := by kernel_rfl
 i173 := by kernel_rfl
 i175 := by kernel_rfl
 i210 := by kernel_rfl
 i212 := by kernel_rfl
 i232 := by kernel_rfl
 i233 := by kernel_rfl
 m15 := by kernel_rfl
 m16 := by kernel_rfl
 m17 := by kernel_rfl
 m18 := by kernel_rfl
 m19 := by kernel_rfl
 c0 := by kernel_rfl
 c2 := by kernel_rfl
 c3 := by kernel_rfl
 c4 := by kernel_rfl
 c5 := by kernel_rfl
 c9 := by kernel_rfl
 c20 := by kernel_rfl
 c21 := by kernel_rfl
 c37 := by kernel_rfl
 c46 := by kernel_rfl
 c51 := by kernel_rfl
 c53 := by kernel_rfl
 c75 := by kernel_rfl
 c76 := by kernel_rfl
 c80 := by kernel_rfl
 c85 := by kernel_rfl
 c127 := by kernel_rfl
 c143 := by kernel_rfl
 c145 := by kernel_rfl
 c167 := by kernel_rfl
 c168 := by kernel_rfl
 c171 := by kernel_rfl
 c173 := by kernel_rfl
 c175 := by kernel_rfl
 c210 := by kernel_rfl
 c212 := by kernel_rfl
 c213 := by kernel_rfl
 c232 := by kernel_rfl
 c233 := by kernel_rfl }
set_option maxHeartbeats 1000000 in
theorem impl_decimal.calls (a0 : ByteArray) (r1 : Int) (r2 : Bool) (w : World) (hT_ : TabW Tryz.prog 1 w) (h : impl_decimal.f a0 = some (r1, r2)) :
 Calls Tryz.prog 62 #[.string a0] w fun e w' => e = .returned (.tuple #[.int .i64 r1, .bool r2]) ∧ Below w.heap.size w w' := by
 unfold impl_decimal.f at h
 split at h
 case isFalse => cases h
 case isTrue hl =>
  have h' := Option.some.inj h
  clear h
  have HT := Aside0.mk hT_
  clear hT_
  cases hA : Lib.atoiAll a0.data.toList with
  | ok v =>
   rw [hA] at h'
   have hv := Lib.atoiAll_bounds hA
   have C1 : ∀ W : World, Calls Tryz.prog 98 #[.string a0] W fun e w' => e = .returned (.tuple #[.int .i64 v, .nilIface]) ∧ Below W.heap.size W w' := fun W => (Any.strconv_Atoi_ok laid_laysC172 a0 (by omega) v hA W).mono fun _ _ ⟨he, hw⟩ => ⟨he, hw.elim (fun e => by subst e; exact Below.refl _ _) (fun ⟨t, e⟩ => by subst e; exact Lib.bytesWorld_below _ _ t)⟩
   have C2 : ∀ W : World, Below w.heap.size w W → Calls Tryz.prog 95 #[.int .i64 v] W fun e w' => e = .returned (.string ⟨(Lib.itoa v).toArray⟩) ∧ Below W.heap.size W w' := fun W hb => itoa_tab (fun ht => Any.strconv_Itoa laid_laysM171 v hv.1 hv.2 W ht) ((HT.out.weak (by decide : 0 ≤ 1)).below hb)
   have K1 := Aside0.mk C1
   have K2 := Aside0.mk C2
   have H := Aside0.mk h'
   clear C1 C2 h' hA
   go_enter Tryz.func62, Tryz.ntmps62
   go_wp2_with (first | (go_at_call 98; refine (K1.out _).mono ?_; rintro e w1 ⟨rfl, hb1⟩) | (go_at_call 95; refine (K2.out _ hb1).mono ?_; rintro e w2 ⟨rfl, hb2⟩))
   ·rename_i hc
    have hne : ¬ Lib.itoa v = a0.data.toList := by
     rw [ByteArray.toList_eq] at hc
     simpa using hc
    have h2 := H.out
    rw [if_neg hne] at h2
    simp only [Prod.mk.injEq] at h2
    obtain ⟨rfl, rfl⟩ := h2
    go_ret2
    exact ⟨rfl, below_then hb1 hb1.size hb2⟩
   ·rename_i hc
    have hne : Lib.itoa v = a0.data.toList := by
     rw [ByteArray.toList_eq] at hc
     simpa using hc
    have h2 := H.out
    rw [if_pos hne] at h2
    simp only [Prod.mk.injEq] at h2
    obtain ⟨rfl, rfl⟩ := h2
    go_ret2
    exact ⟨rfl, below_then hb1 hb1.size hb2⟩
  | «syntax» =>
   rw [hA] at h'
   simp only [Prod.mk.injEq] at h'
   obtain ⟨rfl, rfl⟩ := h'
   obtain ⟨tp, p, hv⟩ := HT.out.syn (by decide)
   have K1 := Aside0.mk ((Any.strconv_Atoi_syntax_var laid_laysC172 a0 hl hA tp p w hv).mono (R' := fun e w' => ∃ N, e = .returned (.tuple #[.int .i64 0, .iface 126 (.pointer (some ⟨N, 0, none⟩))]) ∧ Below w.heap.size w w') fun _ _ ⟨N, he, _, _, hb⟩ => ⟨N, he, hb⟩)
   clear hA hv
   go_enter Tryz.func62, Tryz.ntmps62
   go_wp2_with (go_at_call 98; refine K1.out.mono ?_; rintro e w1 ⟨N, rfl, hb1⟩)
   go_ret2
   exact ⟨rfl, hb1⟩
  | range =>
   rw [hA] at h'
   simp only [Prod.mk.injEq] at h'
   obtain ⟨rfl, rfl⟩ := h'
   obtain ⟨tp, p, hv⟩ := HT.out.rng (by decide)
   have K1 := Aside0.mk ((Any.strconv_Atoi_range_var laid_laysC172 a0 hl hA tp p w hv).mono (R' := fun e w' => ∃ N, e = .returned (.tuple #[.int .i64 (Lib.atoiSat a0.data.toList), .iface 126 (.pointer (some ⟨N, 0, none⟩))]) ∧ Below w.heap.size w w') fun _ _ ⟨N, he, _, _, hb⟩ => ⟨N, he, hb⟩)
   clear hA hv
   go_enter Tryz.func62, Tryz.ntmps62
   go_wp2_with (go_at_call 98; refine K1.out.mono ?_; rintro e w1 ⟨N, rfl, hb1⟩)
   go_ret2
   exact ⟨rfl, hb1⟩

/-! ### stringslite_HasSuffix: function 120 -/
theorem stringslite_HasSuffix.calls (a0 : ByteArray) (a1 : ByteArray) (r : Bool) (w : World) (h : stringslite_HasSuffix.f a0 a1 = some r) :
 Calls Tryz.prog 120 #[.string a0, .string a1] w fun e w' => e = .returned (.bool r) ∧ Drawn0 w w' := by
 have H : (if (a0.size : Int) ≥ (a1.size : Int) then (if 0 ≤ (wrap64 ((a0.size : Int) - (a1.size : Int))) then (if (wrap64 ((a0.size : Int) - (a1.size : Int))) ≤ (a0.size : Int) then (some ((a0.extract ((wrap64 ((a0.size : Int) - (a1.size : Int))) : Int).toNat a0.size).toList == a1.toList)) else (none)) else (none)) else (some false)) = some r := h
 clear h
 by_cases c3 : (a0.size : Int) ≥ (a1.size : Int)
 rotate_left
 ·rw [if_neg c3] at H
  have c3b0 : decide ((a1.size : Int) ≤ (a0.size : Int)) = false := decide_eq_false c3
  have c3b1 : decide (a1.size ≤ a0.size) = false := decide_eq_false (fun h => c3 (Int.ofNat_le.mpr h))
  clear c3
  obtain rfl := Option.some.inj H
  go_enter Tryz.func120, Tryz.ntmps120
  go_wp2
  go_ret
  exact ⟨z12_0_, z12_1_⟩
 rw [if_pos c3] at H
 have c3b0 : decide ((a1.size : Int) ≤ (a0.size : Int)) = true := decide_eq_true c3
 have c3b1 : decide (a1.size ≤ a0.size) = true := decide_eq_true (Int.ofNat_le.mp c3)
 clear c3
 obtain ⟨ji4, hji4⟩ : ∃ j_ : Int, (wrap64 ((a0.size : Int) - (a1.size : Int))) = j_ := ⟨_, rfl⟩
 replace H : (if 0 ≤ (ji4) then (if (ji4) ≤ (a0.size : Int) then (some ((a0.extract ((ji4) : Int).toNat a0.size).toList == a1.toList)) else (none)) else (none)) = some r := by first | (rw [hji4] at H; exact H) | (simp only [hji4] at H ⊢; exact H)
 have hji4w : (IntKind.i64.wrap ((a0.size : Int) - (a1.size : Int))) = ji4 := (i64_w _).trans hji4
 replace H := it_ H; obtain ⟨c5b0, c5b1, H⟩ := H
 replace H := it_ H; obtain ⟨c6b0, c6b1, H⟩ := H
 obtain rfl := Option.some.inj H
 go_enter Tryz.func120, Tryz.ntmps120
 go_wp2
 go_ret
 exact ⟨by first | rfl | (simp; done) | (simp only [← hji4] <;> (first | rfl | simp)) | (simp [*]; done), z12_1_⟩

/-! ### stringslite_TrimSuffix: function 105 -/
theorem stringslite_TrimSuffix.calls (a0 : ByteArray) (a1 : ByteArray) (r : ByteArray) (w : World) (h : stringslite_TrimSuffix.f a0 a1 = some r) :
 Calls Tryz.prog 105 #[.string a0, .string a1] w fun e w' => e = .returned (.string r) ∧ Drawn0 w w' := by
 have H : ((stringslite_HasSuffix.f a0 a1).bind fun t391 => (if t391 = true then (if 0 ≤ (wrap64 ((a0.size : Int) - (a1.size : Int))) then (if (wrap64 ((a0.size : Int) - (a1.size : Int))) ≤ (a0.size : Int) then (some (a0.extract 0 ((wrap64 ((a0.size : Int) - (a1.size : Int))) : Int).toNat)) else (none)) else (none)) else (some a0))) = some r := h
 clear h
 replace H := ob_ H; obtain ⟨t391, A3, H⟩ := H; try dsimp only at H
 have HC4 := Aside0.mk H
 clear H
 go_enter Tryz.func105, Tryz.ntmps105
 go_upto_if 7 with (first | ((with_reducible refine gC_ 120 ?_); refine gM_ (some 7) Tryz.func120 #[.string a0, .string a1] ?_; (with_reducible refine (stringslite_HasSuffix.calls a0 a1 t391 _ A3.out).mono ?_); rintro e w' ⟨rfl, ⟨nd, rfl⟩⟩; refine ⟨_, rfl, ?_⟩))
 (try simp only [Act.put, List.setIfInBounds_toArray, List.set_cons_zero, List.set_cons_succ])
 have H := HC4.out
 clear HC4
 by_cases c5 : t391 = true
 rotate_left
 ·replace c5 := Bool.eq_false_iff.mpr c5
  subst c5
  replace H := in_ H (show ¬ (false = true) by decide)
  obtain rfl := Option.some.inj H
  go_wp2
  go_ret
  exact ⟨z12_0_, z12_1_⟩
 subst c5
 replace H := ip_ H rfl
 obtain ⟨ji6, hji6⟩ : ∃ j_ : Int, (wrap64 ((a0.size : Int) - (a1.size : Int))) = j_ := ⟨_, rfl⟩
 replace H : (if 0 ≤ (ji6) then (if (ji6) ≤ (a0.size : Int) then (some (a0.extract 0 ((ji6) : Int).toNat)) else (none)) else (none)) = some r := by first | (rw [hji6] at H; exact H) | (simp only [hji6] at H ⊢; exact H)
 have hji6w : (IntKind.i64.wrap ((a0.size : Int) - (a1.size : Int))) = ji6 := (i64_w _).trans hji6
 replace H := it_ H; obtain ⟨c7b0, c7b1, H⟩ := H
 replace H := it_ H; obtain ⟨c8b0, c8b1, H⟩ := H
 obtain rfl := Option.some.inj H
 go_wp2
 go_ret
 exact ⟨by first | rfl | (simp; done) | (simp only [← hji6] <;> (first | rfl | simp)) | (simp [*]; done), z12_1_⟩

/-! ### strings_TrimSuffix: function 75 -/
theorem strings_TrimSuffix.calls (a0 : ByteArray) (a1 : ByteArray) (r : ByteArray) (w : World) (h : strings_TrimSuffix.f a0 a1 = some r) :
 Calls Tryz.prog 75 #[.string a0, .string a1] w fun e w' => e = .returned (.string r) ∧ Drawn0 w w' := by
 have H : ((stringslite_TrimSuffix.f a0 a1).bind fun t392 => (some t392)) = some r := h
 clear h
 replace H := ob_ H; obtain ⟨t392, A3, H⟩ := H; try dsimp only at H
 obtain rfl := Option.some.inj H
 go_enter Tryz.func75, Tryz.ntmps75
 go_wp2_with (first | ((with_reducible refine gC_ 105 ?_); refine gM_ (some 7) Tryz.func105 #[.string a0, .string a1] ?_; (with_reducible refine (stringslite_TrimSuffix.calls a0 a1 t392 _ A3.out).mono ?_); rintro e w' ⟨rfl, ⟨nd, rfl⟩⟩; refine ⟨_, rfl, ?_⟩))
 go_ret
 exact ⟨z12_0_, z12_1_⟩

/-! ### strings_Index: function 119 -/
theorem strings_Index.calls (a0 : ByteArray) (a1 : ByteArray) (r : Int) (w : World) (h : strings_Index.f a0 a1 = some r) :
 Calls Tryz.prog 119 #[.string a0, .string a1] w fun e w' => e = .returned (.int .i64 r) ∧ Drawn0 w w' := by
 have H : ((stringslite_Index.f a0 a1).bind fun t393 => (some t393)) = some r := h
 clear h
 replace H := ob_ H; obtain ⟨t393, A3, H⟩ := H; try dsimp only at H
 obtain rfl := Option.some.inj H
 go_enter Tryz.func119, Tryz.ntmps119
 go_wp2_with (first | ((with_reducible refine gC_ 113 ?_); refine gM_ (some 7) Tryz.func113 #[.string a0, .string a1] ?_; (with_reducible refine (stringslite_Index.calls a0 a1 t393 _ A3.out).mono ?_); rintro e w' ⟨rfl, ⟨nd, rfl⟩⟩; refine ⟨_, rfl, ?_⟩))
 go_ret
 exact ⟨z12_0_, z12_1_⟩

end Go.Proofs.YtfkdlfbjkdkffaaGreatDoor.PFnPoints
