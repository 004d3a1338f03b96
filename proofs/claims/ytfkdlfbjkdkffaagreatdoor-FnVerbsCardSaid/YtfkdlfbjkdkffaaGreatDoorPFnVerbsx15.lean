/- Printed for this claim: functions of the program as Lean functions, and that the calls answer so. -/
import Derived.Test.YtfkdlfbjkdkffaaGreatDoorPFnVerbsx0
import Derived.Test.YtfkdlfbjkdkffaaGreatDoorPFnVerbsx2
import Derived.Test.YtfkdlfbjkdkffaaGreatDoorPFnVerbsx6
import Derived.Test.YtfkdlfbjkdkffaaGreatDoorPFnVerbsx11
import Derived.Test.YtfkdlfbjkdkffaaGreatDoorPFnVerbsx13
import Derived.Test.YtfkdlfbjkdkffaaGreatDoorPFnVerbsx14
import Derived.Test.YtfkdlfbjkdkffaaGreatDoorPFnVerbsxD0
namespace Go.Proofs.YtfkdlfbjkdkffaaGreatDoor.PFnVerbs
open Go.RowKit Go.Proofs.YtfkdlfbjkdkffaaGreatDoorW.PrintWords Go.Proofs.YtfkdlfbjkdkffaaGreatDoorW.PrintLast Go.Proofs.YtfkdlfbjkdkffaaGreatDoorW.PrintMore
theorem z15_0_ {p : Prop} (h : p := by repeat (first | (with_reducible first | exact HI0.out | apply IsS70.alloc | apply IsS70.drewN | apply IsS70.drew | apply IsS70.set_1 | apply IsS70.set_2) | exact HI0.out)) : p := h
theorem z15_1_ {p : Prop} (h : p := by repeat (first | (with_reducible first | exact HB.out | apply lA_ | apply lN_ | apply lD_ | refine below_set ?_ (IsS70.ge HI0.out)) | exact HB.out)) : p := h
theorem z15_2_ {p : Prop} (h : p := by repeat (first | (with_reducible first | exact HK.out | apply KeepBut.set_ | apply keep_drewN | apply keep_drew | apply keep_alloc) | exact HK.out)) : p := h
theorem z15_3_ {p : Prop} (h : p := by first | rfl | (simp; done) | (simp [*]; done)) : p := h
theorem z15_4_ {p : Prop} (h : p := by have := HK1.out; have := HJ5.out; omega) : p := h
theorem z15_5_ {p : Prop} (h : p := by repeat (first | (with_reducible first | exact HI537.out | apply IsS70.alloc | apply IsS70.drewN | apply IsS70.drew | apply IsS70.set_1 | apply IsS70.set_2) | exact HI537.out)) : p := h
theorem z15_6_ {p : Prop} (h : p := by repeat (first | (with_reducible first | exact HB.out | apply lA_ | apply lN_ | apply lD_ | refine below_set ?_ (IsS70.ge HI537.out)) | exact HB.out)) : p := h
theorem z15_7_ {p : Prop} (h : p := by repeat (first | (with_reducible first | exact HB.out | apply lA_ | apply lN_ | apply lD_ | refine below_set ?_ (IsS70.ge HI537.out) | refine below_set ?_ GE543.out) | exact HB.out)) : p := h
theorem z15_8_ {p : Prop} (h : p := by repeat (first | exact Drawn0.refl _ | apply Drawn0.step)) : p := h
set_option maxHeartbeats 8000000
set_option maxRecDepth 100000
attribute [local go_sem] max2_int min2_int max_two min_two max_three min_three max_four min_four isSome_setCell   -- for this text's walks alone
set_option linter.unusedVariables false
set_option linter.unusedSimpArgs false

/-! ### spec_l1Cur_spoilt: function 60 -/
theorem spec_l1Cur_spoilt.calls (k : Nat) (g : Nat) (s0_0 : List Int) (s0_1 : Int) (s0_2 : Int) (a1 : ByteArray) (a2 : ByteArray) (r1 : ByteArray) (r2 : Int) (r3 : Int) (w0 w : World) (hI : IsS70 w0 w g s0_0 s0_1 s0_2) (hB : Below w0.heap.size w0 w) (h : spec_l1Cur_spoilt.f k s0_0 s0_1 s0_2 a1 a2 = some (r1, r2, r3)) :
 Calls Tryz.prog 60 #[.pointer (some ⟨g, 0, none⟩), .string a1, .string a2] w fun e w' => e = .returned (.string r1) ∧ IsS70 w0 w' g s0_0 r2 r3 ∧ Below w0.heap.size w0 w' ∧ KeepBut w w' g none := by
 have HI0 := Aside0.mk hI
 have HK := Aside0.mk (KeepBut.refl w g none)
 have HL := Aside0.mk hB.size
 clear hI
 have HW0 := Aside0.mk hB.size
 have HB := Aside0.mk hB
 clear hB
 have H : ((spec_l1Cur_pick.f s0_0 s0_1 s0_2 2).bind fun bt522 => (spec_l1Cur_spoilt.l0 k a1 a2 (wrap64 (1 + bt522.1)) s0_0 bt522.2.1 bt522.2.2)) = some (r1, r2, r3) := h
 clear h
 replace H := ob_ H; obtain ⟨⟨t522, t523, t524⟩, A4, H⟩ := H; try dsimp only at H
 have H' := Aside0.mk H
 clear H
 go_enter Tryz.func60, Tryz.ntmps60
 go_wp2_with (first | (go_at_call 59; (with_reducible refine (spec_l1Cur_pick.calls g s0_0 s0_1 s0_2 2 t522 t523 t524 w0 _ ?side1 ?side2 A4.out).mono ?_); (case side1 => exact z15_0_); (case side2 => exact z15_1_); rintro e w5 ⟨rfl, hi, hb, hk⟩; replace HK := aM_ (KeepBut.trans z15_2_ hk (.inl rfl)); replace HB := aM_ (hb); replace HI0 := aM_ (hi); (try clear hb); (try clear hk); (try clear hi)) | (go_quiet (fail)))
 go_loopg [1, 7] k (fun kq v1 v7 w' => ∃ (x1_1 : ByteArray) (x7_1 : Int) (x1001_1 : Int) (x1002_1 : Int), v1 = .string x1_1 ∧ v7 = .int .i64 x7_1 ∧ Aside0 (spec_l1Cur_spoilt.l0 kq x1_1 a2 x7_1 s0_0 x1001_1 x1002_1 = some (r1, r2, r3)) ∧ Aside0 (kq ≤ k) ∧ Aside0 (IsS70 w0 w' g s0_0 x1001_1 x1002_1) ∧ Aside0 (KeepBut w w' g none) ∧ Aside0 (Below w0.heap.size w0 w'))
 case atStart => exact ⟨(a1), (wrap64 (1 + t522)), (t523), (t524), z15_3_, z15_3_, H', ⟨Nat.le_refl _⟩, ⟨z15_0_⟩, ⟨z15_2_⟩, ⟨z15_1_⟩⟩
 case round =>
  clear H'
  obtain ⟨x1_1, x7_1, x1001_1, x1002_1, rfl, rfl, HA, HK1, HI0, HK, HB⟩ := hrel
  cases gk with
  | zero => exact absurd HA.out (by simp [spec_l1Cur_spoilt.l0])
  | succ k1 =>
   have H := HA.out
   clear HA
   simp only [spec_l1Cur_spoilt.l0] at H
   have HC6 := Aside0.mk H
   clear H
   go_upto_region 2 with (fail)
   repeat (go_quiet (fail); go_upto_region 2 with (fail))
   go_cut [19] (fun v19 wc => ∃ (kq : Nat) (x19_5 : Bool), v19 = .bool x19_5 ∧ Aside0 (spec_l1Cur_spoilt.j1 kq x1_1 a2 x7_1 x19_5 s0_0 x1001_1 x1002_1 = some (r1, r2, r3)) ∧ Aside0 (kq ≤ k1) ∧ Aside0 (IsS70 w0 wc g s0_0 x1001_1 x1002_1) ∧ Aside0 (KeepBut w wc g none) ∧ Aside0 (Below w0.heap.size w0 wc))
   case first =>
    have H := HC6.out
    clear HC6
    by_cases c7 : x7_1 > 0
    rotate_left
    ·rw [if_neg c7] at H
     have c7b0 : decide (0 < x7_1) = false := decide_eq_false c7
     clear c7
     (first | rw [c7b0] | (simp only [i64_w, i32_w]; rw [c7b0]) | skip)
     have H' := Aside0.mk H
     clear H
     go_wp2
     repeat (go_quiet (fail); try go_wp2)
     go_meet
     case rel => exact ⟨_, (false), z15_3_, H', ⟨by have := HK1.out; first | omega | exact Nat.le_refl _⟩, ⟨z15_0_⟩, ⟨z15_2_⟩, ⟨z15_1_⟩⟩
    rw [if_pos c7] at H
    have c7b0 : decide (0 < x7_1) = true := decide_eq_true c7
    clear c7
    (first | rw [c7b0] | (simp only [i64_w, i32_w]; rw [c7b0]) | skip)
    have H' := Aside0.mk H
    clear H
    go_wp2
    repeat (go_quiet (fail); try go_wp2)
    go_meet
    case rel => exact ⟨_, (decide ((x1_1.size : Int) > 0)), z15_3_, H', ⟨by have := HK1.out; first | omega | exact Nat.le_refl _⟩, ⟨z15_0_⟩, ⟨z15_2_⟩, ⟨z15_1_⟩⟩
   case rest =>
    clear HC6
    obtain ⟨kq, x19_5, rfl, HA, HJ5, HI0, HK, HB⟩ := hcut
    cases kq with
    | zero => exact absurd HA.out (by simp [spec_l1Cur_spoilt.j1])
    | succ kj5 =>
     have H := HA.out
     clear HA
     simp only [spec_l1Cur_spoilt.j1] at H
     by_cases c8 : x19_5 = true
     rotate_left
     ·replace c8 := Bool.eq_false_iff.mpr c8
      subst c8
      replace H := in_ H (show ¬ (false = true) by decide)
      simp only [Option.some.injEq, Prod.mk.injEq] at H
      obtain ⟨rfl, rfl, rfl⟩ := H
      go_wp2
      repeat (go_quiet (fail); try go_wp2)
      go_ret
      exact ⟨rT_, z15_0_, z15_1_, z15_2_⟩
     subst c8
     replace H := ip_ H rfl
     replace H := ob_ H; obtain ⟨⟨t525, t526, t527⟩, A9, H⟩ := H; try dsimp only at H
     replace H := ob_ H; obtain ⟨⟨t528, t529, t530⟩, A10, H⟩ := H; try dsimp only at H
     replace H := ig_ H; obtain ⟨c11b0, H⟩ := H
     replace H := ig_ H; obtain ⟨c12b0, H⟩ := H
     replace H := bs_ H; obtain ⟨y531, Ny531, H⟩ := H; try dsimp only at H
     replace H := ob_ H; obtain ⟨⟨t534, t535, t536⟩, A14, H⟩ := H; try dsimp only at H
     have HC15 := Aside0.mk H
     clear H
     go_upto_if 44 with (first | (go_at_call 59; (with_reducible refine (spec_l1Cur_pick.calls g s0_0 x1001_1 x1002_1 (x1_1.size : Int) t525 t526 t527 w0 _ ?side1 ?side2 A9.out).mono ?_); (case side1 => exact z15_0_); (case side2 => exact z15_1_); rintro e w16 ⟨rfl, hi, hb, hk⟩; replace HK := aM_ (KeepBut.trans z15_2_ hk (.inl rfl)); replace HB := aM_ (hb); replace HI0 := aM_ (hi); (try clear hb); (try clear hk); (try clear hi)) | (go_at_call 59; (with_reducible refine (spec_l1Cur_pick.calls g s0_0 t526 t527 (a2.size : Int) t528 t529 t530 w0 _ ?side1 ?side2 A10.out).mono ?_); (case side1 => exact z15_0_); (case side2 => exact z15_1_); rintro e w17 ⟨rfl, hi, hb, hk⟩; replace HK := aM_ (KeepBut.trans z15_2_ hk (.inl rfl)); replace HB := aM_ (hb); replace HI0 := aM_ (hi); (try clear hb); (try clear hk); (try clear hi); have p13 : 0 ≤ (t528 : Int) := ode_; have q13 : t528 < (a2.size : Int) := ode_; have hx13 := bt_at a2 t528; replace p13 := eq_true p13; replace q13 := eq_true q13) | ((with_reducible refine gate_dst (N := 32) rfl ?_); (try (refine gate_guard (by rfl) ?_; dsimp only)); refine rl_ (Kd.int .u8) 5 32 ([bt a2 t528] : List Int) [.int .u8 (bt a2 t528)] (Reps.one (show Kd.M (Kd.int .u8) _ _ _ (bt a2 t528) [.int .u8 (bt a2 t528)] from rfl) (Reps.none _ _)) ?_; intro v532 w18 ho19 hb hg_ hnew_; clear hg_ hnew_; (first | rw [← Ny531.out] at ho19 | (simp only [Int.reduceToNat] at ho19; rw [← Ny531.out] at ho19)); have HO533 := aM_ (Kd.R_lower ho19 (keep_size (w := w) (g := g) (row := none) z15_2_)); replace HK := aM_ (KeepBut.trans z15_2_ (KeepBut.of_below hb g none) (.inl rfl)); replace HB := aM_ (below_step z15_1_ hb); replace HI0 := aM_ (IsS70.below z15_0_ hb); clear hb ho19; have hcv20 := own_string (P := Tryz.prog) Tryz.underlying22 Tryz.underlying5 Tryz.underlying9 (Kd.own_of_R HO533.out)) | (go_at_call 59; (with_reducible refine (spec_l1Cur_pick.calls g s0_0 t529 t530 3 t534 t535 t536 w0 _ ?side1 ?side2 A14.out).mono ?_); (case side1 => exact z15_0_); (case side2 => exact z15_1_); rintro e w21 ⟨rfl, hi, hb, hk⟩; replace HO533 := aM_ (Kd.R_mono (Kd.R_keep (IsS70.apart (show IsS70 w0 _ g s0_0 t529 t530 from by repeat (first | (with_reducible first | exact HI0.out | apply IsS70.alloc | apply IsS70.drewN | apply IsS70.drew | apply IsS70.set_1 | apply IsS70.set_2) | exact HI0.out)) (rR_ HO533) (by decide)) hk (fun _ h => h.2)) (fun _ h => h.1)); replace HK := aM_ (KeepBut.trans z15_2_ hk (.inl rfl)); replace HB := aM_ (hb); replace HI0 := aM_ (hi); (try clear hb); (try clear hk); (try clear hi)) | (go_quiet (fail)))
     (try simp only [Act.put, List.setIfInBounds_toArray, List.set_cons_zero, List.set_cons_succ])
     have H := HC15.out
     clear HC15
     by_cases c22 : t534 = 0
     ·rw [if_pos c22] at H
      have c22b0 : (t534 == 0) = true := beq_iff_eq.mpr c22
      have c22b1 : (t534 != 0) = false := bne_eq_false_iff_eq.mpr c22
      clear c22
      (first | rw [c22b0] | (simp only [i64_w, i32_w]; rw [c22b0]) | skip)
      replace H := it_ H; obtain ⟨c23b0, c23b1, H⟩ := H
      replace H := it_ H; obtain ⟨c24b0, c24b1, H⟩ := H
      by_cases c25 : (x1_1.extract 0 (t525 : Int).toNat).size + (strOfNums y531).size ≤ 9223372036854775807
      rotate_left
      ·rw [if_neg c25] at H
       exact absurd H (by simp)
      rw [if_pos c25] at H
      have c25b0 := eq_true c25
      have c25b1 : decide ((x1_1.extract 0 (t525 : Int).toNat).size + (strOfNums y531).size ≤ 9223372036854775807) = true := decide_eq_true c25
      try have c25b2 : (9223372036854775807 < (x1_1.extract 0 (t525 : Int).toNat).size + (strOfNums y531).size) = False := eq_false (Nat.not_lt.2 c25)
      have c26b0 := eq_true (ode_ : 0 ≤ t525)
      have c27b0 := eq_true (ode_ : t525 ≤ (x1_1.size : Int))
      by_cases c28 : ((x1_1.extract 0 (t525 : Int).toNat) ++ (strOfNums y531)).size + (x1_1.extract (t525 : Int).toNat x1_1.size).size ≤ 9223372036854775807
      rotate_left
      ·rw [if_neg c28] at H
       exact absurd H (by simp)
      rw [if_pos c28] at H
      have c28b0 := eq_true c28
      have c28b1 : decide (((x1_1.extract 0 (t525 : Int).toNat) ++ (strOfNums y531)).size + (x1_1.extract (t525 : Int).toNat x1_1.size).size ≤ 9223372036854775807) = true := decide_eq_true c28
      try have c28b2 : (9223372036854775807 < ((x1_1.extract 0 (t525 : Int).toNat) ++ (strOfNums y531)).size + (x1_1.extract (t525 : Int).toNat x1_1.size).size) = False := eq_false (Nat.not_lt.2 c28)
      try (have c28b3 := c28b2; simp only [ByteArray.size_append', ByteArray.size_mk', List.size_toArray, List.length_cons, List.length_nil, Nat.zero_add, Nat.reduceAdd] at c28b3)
      have H' := Aside0.mk H
      clear H
      go_wp2
      repeat (go_quiet (fail); try go_wp2)
      go_roundg kj5
      case measure => have := HK1.out; have := HJ5.out; omega
      case rel => exact ⟨(((x1_1.extract 0 (t525 : Int).toNat) ++ (strOfNums y531)) ++ (x1_1.extract (t525 : Int).toNat x1_1.size)), (wrap64 (x7_1 - 1)), (t535), (t536), z15_3_, z15_3_, H', ⟨z15_4_⟩, ⟨z15_0_⟩, ⟨z15_2_⟩, ⟨z15_1_⟩⟩
     rw [if_neg c22] at H
     have c22b0 : (t534 == 0) = false := beq_eq_false_iff_ne.mpr c22
     have c22b1 : (t534 != 0) = true := bne_iff_ne.mpr c22
     (first | rw [c22b0] | (simp only [i64_w, i32_w]; rw [c22b0]) | skip)
     by_cases c29 : t534 = 1
     rotate_left
     ·rw [if_neg c29] at H
      have c29b0 : (t534 == 1) = false := beq_eq_false_iff_ne.mpr c29
      have c29b1 : (t534 != 1) = true := bne_iff_ne.mpr c29
      replace H := it_ H; obtain ⟨c37b0, c37b1, H⟩ := H
      replace H := it_ H; obtain ⟨c38b0, c38b1, H⟩ := H
      obtain ⟨ji39, hji39⟩ : ∃ j_ : Int, (wrap64 (t525 + 1)) = j_ := ⟨_, rfl⟩
      replace H : (if 0 ≤ (ji39) then (if (ji39) ≤ (x1_1.size : Int) then (if (x1_1.extract 0 (t525 : Int).toNat).size + (x1_1.extract ((ji39) : Int).toNat x1_1.size).size ≤ 9223372036854775807 then (spec_l1Cur_spoilt.l0 kj5 ((x1_1.extract 0 (t525 : Int).toNat) ++ (x1_1.extract ((ji39) : Int).toNat x1_1.size)) a2 (wrap64 (x7_1 - 1)) s0_0 t535 t536) else (none)) else (none)) else (none)) = some (r1, r2, r3) := by first | (rw [hji39] at H; exact H) | (simp only [hji39] at H ⊢; exact H)
      have hji39w : (IntKind.i64.wrap (t525 + 1)) = ji39 := (i64_w _).trans hji39
      replace H := it_ H; obtain ⟨c40b0, c40b1, H⟩ := H
      replace H := it_ H; obtain ⟨c41b0, c41b1, H⟩ := H
      by_cases c42 : (x1_1.extract 0 (t525 : Int).toNat).size + (x1_1.extract ((ji39) : Int).toNat x1_1.size).size ≤ 9223372036854775807
      rotate_left
      ·rw [if_neg c42] at H
       exact absurd H (by simp)
      rw [if_pos c42] at H
      have c42b0 := eq_true c42
      have c42b1 : decide ((x1_1.extract 0 (t525 : Int).toNat).size + (x1_1.extract ((ji39) : Int).toNat x1_1.size).size ≤ 9223372036854775807) = true := decide_eq_true c42
      try have c42b2 : (9223372036854775807 < (x1_1.extract 0 (t525 : Int).toNat).size + (x1_1.extract ((ji39) : Int).toNat x1_1.size).size) = False := eq_false (Nat.not_lt.2 c42)
      have H' := Aside0.mk H
      clear H
      go_wp2
      repeat (go_quiet (fail); try go_wp2)
      go_roundg kj5
      case measure => have := HK1.out; have := HJ5.out; omega
      case rel => exact ⟨((x1_1.extract 0 (t525 : Int).toNat) ++ (x1_1.extract ((ji39) : Int).toNat x1_1.size)), (wrap64 (x7_1 - 1)), (t535), (t536), (by first | rfl | (simp; done) | (simp only [← hji39] <;> (first | rfl | simp)) | (simp [*]; done)), z15_3_, H', ⟨z15_4_⟩, ⟨z15_0_⟩, ⟨z15_2_⟩, ⟨z15_1_⟩⟩
     rw [if_pos c29] at H
     have c29b0 : (t534 == 1) = true := beq_iff_eq.mpr c29
     have c29b1 : (t534 != 1) = false := bne_eq_false_iff_eq.mpr c29
     clear c29
     replace H := it_ H; obtain ⟨c30b0, c30b1, H⟩ := H
     replace H := it_ H; obtain ⟨c31b0, c31b1, H⟩ := H
     by_cases c32 : (x1_1.extract 0 (t525 : Int).toNat).size + (strOfNums y531).size ≤ 9223372036854775807
     rotate_left
     ·rw [if_neg c32] at H
      exact absurd H (by simp)
     rw [if_pos c32] at H
     have c32b0 := eq_true c32
     have c32b1 : decide ((x1_1.extract 0 (t525 : Int).toNat).size + (strOfNums y531).size ≤ 9223372036854775807) = true := decide_eq_true c32
     try have c32b2 : (9223372036854775807 < (x1_1.extract 0 (t525 : Int).toNat).size + (strOfNums y531).size) = False := eq_false (Nat.not_lt.2 c32)
     obtain ⟨ji33, hji33⟩ : ∃ j_ : Int, (wrap64 (t525 + 1)) = j_ := ⟨_, rfl⟩
     replace H : (if 0 ≤ (ji33) then (if (ji33) ≤ (x1_1.size : Int) then (if ((x1_1.extract 0 (t525 : Int).toNat) ++ (strOfNums y531)).size + (x1_1.extract ((ji33) : Int).toNat x1_1.size).size ≤ 9223372036854775807 then (spec_l1Cur_spoilt.l0 kj5 (((x1_1.extract 0 (t525 : Int).toNat) ++ (strOfNums y531)) ++ (x1_1.extract ((ji33) : Int).toNat x1_1.size)) a2 (wrap64 (x7_1 - 1)) s0_0 t535 t536) else (none)) else (none)) else (none)) = some (r1, r2, r3) := by first | (rw [hji33] at H; exact H) | (simp only [hji33] at H ⊢; exact H)
     have hji33w : (IntKind.i64.wrap (t525 + 1)) = ji33 := (i64_w _).trans hji33
     replace H := it_ H; obtain ⟨c34b0, c34b1, H⟩ := H
     replace H := it_ H; obtain ⟨c35b0, c35b1, H⟩ := H
     by_cases c36 : ((x1_1.extract 0 (t525 : Int).toNat) ++ (strOfNums y531)).size + (x1_1.extract ((ji33) : Int).toNat x1_1.size).size ≤ 9223372036854775807
     rotate_left
     ·rw [if_neg c36] at H
      exact absurd H (by simp)
     rw [if_pos c36] at H
     have c36b0 := eq_true c36
     have c36b1 : decide (((x1_1.extract 0 (t525 : Int).toNat) ++ (strOfNums y531)).size + (x1_1.extract ((ji33) : Int).toNat x1_1.size).size ≤ 9223372036854775807) = true := decide_eq_true c36
     try have c36b2 : (9223372036854775807 < ((x1_1.extract 0 (t525 : Int).toNat) ++ (strOfNums y531)).size + (x1_1.extract ((ji33) : Int).toNat x1_1.size).size) = False := eq_false (Nat.not_lt.2 c36)
     try (have c36b3 := c36b2; simp only [ByteArray.size_append', ByteArray.size_mk', List.size_toArray, List.length_cons, List.length_nil, Nat.zero_add, Nat.reduceAdd] at c36b3)
     have H' := Aside0.mk H
     clear H
     go_wp2
     repeat (go_quiet (fail); try go_wp2)
     go_roundg kj5
     case measure => have := HK1.out; have := HJ5.out; omega
     case rel => exact ⟨(((x1_1.extract 0 (t525 : Int).toNat) ++ (strOfNums y531)) ++ (x1_1.extract ((ji33) : Int).toNat x1_1.size)), (wrap64 (x7_1 - 1)), (t535), (t536), (by first | rfl | (simp; done) | (simp only [← hji33] <;> (first | rfl | simp)) | (simp [*]; done)), z15_3_, H', ⟨z15_4_⟩, ⟨z15_0_⟩, ⟨z15_2_⟩, ⟨z15_1_⟩⟩

/-! ### spec_DrawParseVerb: function 14 -/
theorem spec_DrawParseVerb.calls (k : Nat) (A0 : Option Addr) (c0 : Nat) (l0 : List Int) (r : ByteArray) (w : World) (hr0 : Kd.C (Kd.int .u8) w A0 l0.length l0) (hc0 : l0.length ≤ c0) (h : spec_DrawParseVerb.f k l0 = some r) :
 Calls Tryz.prog 14 #[.slice A0 l0.length c0] w fun e w' => e = .returned (.string r) ∧ Below w.heap.size w w' := by
 have hu70 := Tryz.underlying70
 have hu27 := Tryz.underlying27
 have HR0 := Aside0.mk hr0
 have HC0 := Aside0.mk hc0
 clear hr0 hc0
 have HB := Aside0.mk (Below.refl w.heap.size w)
 have H : ((spec_l1Cur_verb.f k l0 0 0 ([] : List (S58))).bind fun bt538 => ((spec_veOne.f k bt538.1 bt538.2.1 bt538.2.2.1).bind fun t544 => (if t544 = true then ((spec_veText.f k bt538.1 bt538.2.1 bt538.2.2.1).bind fun t545 => (spec_DrawParseVerb.j0 k t545 l0 bt538.2.2.2.1 bt538.2.2.2.2)) else (spec_DrawParseVerb.j0 k (⟨#[71, 73, 86, 69, 58, 45, 51, 53, 62, 52, 48]⟩ : ByteArray) l0 bt538.2.2.2.1 bt538.2.2.2.2)))) = some r := h
 clear h
 replace H := ob_ H; obtain ⟨⟨t538, t539, t540, t541, t542⟩, A2, H⟩ := H; try dsimp only at H
 replace H := ob_ H; obtain ⟨t544, A3, H⟩ := H; try dsimp only at H
 have HC4 := Aside0.mk H
 clear H
 go_enter Tryz.func14, Tryz.ntmps14
 go_upto_if 12 with (first | ((with_reducible refine gate_dst (N := 8) rfl ?_); refine bx_ 8 #[.slice A0 l0.length c0, .int .i64 0, .int .u64 0] 70 fun gb537 hg w5 hbox hb => ?_; have HI537 := aM_ ((show IsS70 w w5 gb537 l0 0 0 from ⟨A0, c0, hbox, (by rw [hg]; exact (below_size hB_) : w.heap.size ≤ gb537), HR0.out⟩)); replace HB := aM_ (below_step hB_ hb); clear hb hbox hg) | ((with_reducible refine gC_ 52 ?_); refine gM_ (some 10) Tryz.func52 #[.pointer (some ⟨gb537, 0, none⟩), .slice none 0 0] ?_; (refine (spec_l1Cur_verb.calls k gb537 l0 0 0 _ _ ([] : List (S58)) t538 t539 t540 t541 t542 w _ ?side1 ?side2 ?side3 ?side4 A2.out).mono ?_); (case side1 => exact z15_5_); (case side2 => exact z15_6_); (case side3 => exact Kd.C_foot_nil); (case side4 => exact Nat.le_refl _); rintro e w6 ⟨rfl, hi, hb, hk⟩; refine ⟨_, rfl, ?_⟩; replace HB := aM_ (hb); replace HI537 := aM_ (hi); (try clear hb); (try clear hk); (try clear hi)) | ((with_reducible refine gate_dst (N := 4) rfl ?_); refine bx_ 4 #[.string (⟨#[]⟩ : ByteArray), .int .i64 0, .int .i64 0] 27 fun gb543 hg w7 hbox hb => ?_; have BK543 := aM_ (hbox); have GW543 := aM_ ((by rw [hg]; exact (below_size z15_6_) : w.heap.size ≤ gb543)); have GE543 := aM_ ((by rw [hg]; exact (below_size z15_6_) : w.heap.size ≤ gb543)); have NB537_543 := aM_ ((by rw [hg]; exact Nat.ne_of_lt (IsS70.lt (show IsS70 w _ gb537 l0 t541 t542 from by repeat (first | (with_reducible first | exact HI537.out | apply IsS70.alloc | apply IsS70.drewN | apply IsS70.drew | apply IsS70.set_1 | apply IsS70.set_2) | exact HI537.out))) : gb537 ≠ gb543)); have NB543_537 := aM_ ((by rw [hg]; exact Nat.ne_of_gt (IsS70.lt (show IsS70 w _ gb537 l0 t541 t542 from by repeat (first | (with_reducible first | exact HI537.out | apply IsS70.alloc | apply IsS70.drewN | apply IsS70.drew | apply IsS70.set_1 | apply IsS70.set_2) | exact HI537.out))) : gb543 ≠ gb537)); replace HB := aM_ (below_step z15_6_ hb); replace HI537 := aM_ (IsS70.below z15_5_ hb); clear hb hbox hg; have hnb8 := NB543_537.out; have hnc8 := NB537_543.out; have hz9 := cf3_ BK543.out) | ((with_reducible refine gC_ 54 ?_); refine gM_ (some 12) Tryz.func54 #[.agg #[.string t538, .int .i64 t539, .int .i64 t540]] ?_; (with_reducible refine (spec_veOne.calls k t538 t539 t540 t544 _ A3.out).mono ?_); rintro e w10 ⟨rfl, hb⟩; refine ⟨_, rfl, ?_⟩; replace BK543 := aM_ (blk_below (g := gb543) (o := .cells #[.string t538, .int .i64 t539, .int .i64 t540] 27 (0, 0)) (by (with_reducible repeat (first | apply kN_ | apply kD_ | apply kA_)); refine blk_put (cs := #[.string t538, .int .i64 t539, .int .i64 0]) ?_ 2 _ rfl; (with_reducible repeat (first | apply kN_ | apply kD_ | apply kA_)); refine blk_put (cs := #[.string t538, .int .i64 0, .int .i64 0]) ?_ 1 _ rfl; (with_reducible repeat (first | apply kN_ | apply kD_ | apply kA_)); refine blk_put (cs := #[.string (⟨#[]⟩ : ByteArray), .int .i64 0, .int .i64 0]) ?_ 0 _ rfl; (with_reducible repeat (first | apply kN_ | apply kD_ | apply kA_)); exact BK543.out) hb); replace HB := aM_ (below_step z15_7_ hb); replace HI537 := aM_ (IsS70.below (show IsS70 w (((w7.setCell ⟨gb543, 0, none⟩ (.string t538)).setCell ⟨gb543, 1, none⟩ (.int .i64 t539)).setCell ⟨gb543, 2, none⟩ (.int .i64 t540)) gb537 l0 t541 t542 from by repeat (first | (with_reducible first | exact HI537.out | apply IsS70.alloc | apply IsS70.drewN | apply IsS70.drew | apply IsS70.set_1 | apply IsS70.set_2 | refine IsS70.far ?_ (Aside0.out (by assumption)) _) | exact HI537.out)) hb); (try clear hb); (try clear hk); (try clear hi)))
 (try simp only [Act.put, List.setIfInBounds_toArray, List.set_cons_zero, List.set_cons_succ])
 go_cut [5] (fun v5 wc => ∃ (kq : Nat) (x5_3 : ByteArray), v5 = .string x5_3 ∧ Aside0 (spec_DrawParseVerb.j0 kq x5_3 l0 t541 t542 = some r) ∧ Aside0 (kq ≤ k) ∧ Aside0 (IsS70 w wc gb537 l0 t541 t542) ∧ Aside0 (Below w.heap.size w wc))
 case first =>
  have H := HC4.out
  clear HC4
  by_cases c11 : t544 = true
  rotate_left
  ·replace c11 := Bool.eq_false_iff.mpr c11
   subst c11
   replace H := in_ H (show ¬ (false = true) by decide)
   have H' := Aside0.mk H
   clear H
   go_wp2
   go_meet
   case rel => exact ⟨_, ((⟨#[71, 73, 86, 69, 58, 45, 51, 53, 62, 52, 48]⟩ : ByteArray)), z15_3_, H', ⟨oR_⟩, ⟨by repeat (first | (with_reducible first | exact HI537.out | apply IsS70.alloc | apply IsS70.drewN | apply IsS70.drew | apply IsS70.set_1 | apply IsS70.set_2 | refine IsS70.far ?_ (Aside0.out (by assumption)) _) | exact HI537.out)⟩, ⟨z15_7_⟩⟩
  subst c11
  replace H := ip_ H rfl
  replace H := ob_ H; obtain ⟨t545, A12, H⟩ := H; try dsimp only at H
  have H' := Aside0.mk H
  clear H
  have hnb13 := NB543_537.out
  have hnc13 := NB537_543.out
  have hz14 := cf3_ BK543.out
  clear BK543
  go_wp2_with (first | ((with_reducible refine gC_ 58 ?_); refine gM_ (some 14) Tryz.func58 #[.agg #[.string t538, .int .i64 t539, .int .i64 t540]] ?_; (with_reducible refine (spec_veText.calls k t538 t539 t540 t545 _ A12.out).mono ?_); rintro e w15 ⟨rfl, hb⟩; refine ⟨_, rfl, ?_⟩; replace HB := aM_ (below_step z15_6_ hb); replace HI537 := aM_ (IsS70.below z15_5_ hb); (try clear hb)))
  go_meet
  case rel => exact ⟨_, (t545), z15_3_, H', ⟨oR_⟩, ⟨z15_5_⟩, ⟨z15_6_⟩⟩
 case rest =>
  clear HC4
  (try clear hcz9_0);(try clear hcz9_1);(try clear hcz9_2);(try clear hfz9_0);(try clear hfz9_1);(try clear hfz9_2)
  obtain ⟨kq, x5_3, rfl, HA, HJ3, HI537, HB⟩ := hcut
  cases kq with
  | zero => exact absurd HA.out (by simp [spec_DrawParseVerb.j0])
  | succ kj3 =>
   have H := HA.out
   clear HA
   simp only [spec_DrawParseVerb.j0] at H
   replace H := ob_ H; obtain ⟨⟨t546, t547, t548⟩, A16, H⟩ := H; try dsimp only at H
   have HC17 := Aside0.mk H
   clear H
   go_upto_if 17 with (first | ((with_reducible refine gC_ 59 ?_); refine gM_ (some 16) Tryz.func59 #[.pointer (some ⟨gb537, 0, none⟩), .int .i64 4] ?_; (with_reducible refine (spec_l1Cur_pick.calls gb537 l0 t541 t542 4 t546 t547 t548 w _ ?side1 ?side2 A16.out).mono ?_); (case side1 => exact z15_5_); (case side2 => exact z15_6_); rintro e w18 ⟨rfl, hi, hb, hk⟩; refine ⟨_, rfl, ?_⟩; replace HB := aM_ (hb); replace HI537 := aM_ (hi); (try clear hb); (try clear hk); (try clear hi)))
   (try simp only [Act.put, List.setIfInBounds_toArray, List.set_cons_zero, List.set_cons_succ])
   have H := HC17.out
   clear HC17
   by_cases c19 : t546 = 0
   ·rw [if_pos c19] at H
    have c19b0 : (t546 == 0) = true := beq_iff_eq.mpr c19
    have c19b1 : (t546 != 0) = false := bne_eq_false_iff_eq.mpr c19
    clear c19
    (first | rw [c19b0] | (simp only [i64_w, i32_w]; rw [c19b0]) | skip)
    replace H := ob_ H; obtain ⟨⟨t549, t550, t551⟩, A20, H⟩ := H; try dsimp only at H
    obtain rfl := Option.some.inj H
    go_wp2_with (first | ((with_reducible refine gC_ 60 ?_); refine gM_ (some 21) Tryz.func60 #[.pointer (some ⟨gb537, 0, none⟩), .string x5_3, .string (⟨#[58, 62, 45, 48, 49, 57, 71]⟩ : ByteArray)] ?_; (with_reducible refine (spec_l1Cur_spoilt.calls kj3 gb537 l0 t547 t548 x5_3 (⟨#[58, 62, 45, 48, 49, 57, 71]⟩ : ByteArray) t549 t550 t551 w _ ?side1 ?side2 A20.out).mono ?_); (case side1 => exact z15_5_); (case side2 => exact z15_6_); rintro e w21 ⟨rfl, hi, hb, hk⟩; refine ⟨_, rfl, ?_⟩; replace HB := aM_ (hb); replace HI537 := aM_ (hi); (try clear hb); (try clear hk); (try clear hi)))
    go_ret
    exact ⟨rT_, z15_6_⟩
   rw [if_neg c19] at H
   have c19b0 : (t546 == 0) = false := beq_eq_false_iff_ne.mpr c19
   have c19b1 : (t546 != 0) = true := bne_iff_ne.mpr c19
   (first | rw [c19b0] | (simp only [i64_w, i32_w]; rw [c19b0]) | skip)
   by_cases c22 : t546 = 1
   rotate_left
   ·rw [if_neg c22] at H
    have c22b0 : (t546 == 1) = false := beq_eq_false_iff_ne.mpr c22
    have c22b1 : (t546 != 1) = true := bne_iff_ne.mpr c22
    obtain rfl := Option.some.inj H
    go_wp2
    go_ret
    exact ⟨rT_, z15_6_⟩
   rw [if_pos c22] at H
   have c22b0 : (t546 == 1) = true := beq_iff_eq.mpr c22
   have c22b1 : (t546 != 1) = false := bne_eq_false_iff_eq.mpr c22
   clear c22
   obtain ⟨y552, hy552⟩ : ∃ y_ : List ByteArray, y_ = (([(⟨#[]⟩ : ByteArray), (⟨#[71, 73, 86, 69]⟩ : ByteArray), (⟨#[71, 73, 86, 69, 58, 49, 62, 49]⟩ : ByteArray), (⟨#[71, 73, 86, 69, 58, 45, 48, 62, 53]⟩ : ByteArray), (⟨#[71, 73, 86, 69, 58, 57, 49, 62, 48]⟩ : ByteArray), (⟨#[71, 73, 86, 69, 58, 48, 49, 62, 48]⟩ : ByteArray), (⟨#[103, 105, 118, 101, 58, 49, 62, 50]⟩ : ByteArray), (⟨#[71, 73, 86, 69, 58, 49, 62, 50, 62, 51]⟩ : ByteArray)] : List ByteArray)) := ⟨_, rfl⟩
   rw [← hy552] at H
   have Ny552 := Aside0.mk hy552; clear hy552
   replace H := ob_ H; obtain ⟨⟨t555, t556, t557⟩, A23, H⟩ := H; try dsimp only at H
   obtain rfl := Option.some.inj H
   go_wp2_with (first | ((with_reducible refine gate_dst (N := 25) rfl ?_); refine rl_ Kd.string 9 25 ([(⟨#[]⟩ : ByteArray), (⟨#[71, 73, 86, 69]⟩ : ByteArray), (⟨#[71, 73, 86, 69, 58, 49, 62, 49]⟩ : ByteArray), (⟨#[71, 73, 86, 69, 58, 45, 48, 62, 53]⟩ : ByteArray), (⟨#[71, 73, 86, 69, 58, 57, 49, 62, 48]⟩ : ByteArray), (⟨#[71, 73, 86, 69, 58, 48, 49, 62, 48]⟩ : ByteArray), (⟨#[103, 105, 118, 101, 58, 49, 62, 50]⟩ : ByteArray), (⟨#[71, 73, 86, 69, 58, 49, 62, 50, 62, 51]⟩ : ByteArray)] : List ByteArray) [.string (⟨#[]⟩ : ByteArray), .string (⟨#[71, 73, 86, 69]⟩ : ByteArray), .string (⟨#[71, 73, 86, 69, 58, 49, 62, 49]⟩ : ByteArray), .string (⟨#[71, 73, 86, 69, 58, 45, 48, 62, 53]⟩ : ByteArray), .string (⟨#[71, 73, 86, 69, 58, 57, 49, 62, 48]⟩ : ByteArray), .string (⟨#[71, 73, 86, 69, 58, 48, 49, 62, 48]⟩ : ByteArray), .string (⟨#[103, 105, 118, 101, 58, 49, 62, 50]⟩ : ByteArray), .string (⟨#[71, 73, 86, 69, 58, 49, 62, 50, 62, 51]⟩ : ByteArray)] (Reps.one (show Kd.M Kd.string _ _ _ (⟨#[]⟩ : ByteArray) [.string (⟨#[]⟩ : ByteArray)] from rfl) (Reps.one (show Kd.M Kd.string _ _ _ (⟨#[71, 73, 86, 69]⟩ : ByteArray) [.string (⟨#[71, 73, 86, 69]⟩ : ByteArray)] from rfl) (Reps.one (show Kd.M Kd.string _ _ _ (⟨#[71, 73, 86, 69, 58, 49, 62, 49]⟩ : ByteArray) [.string (⟨#[71, 73, 86, 69, 58, 49, 62, 49]⟩ : ByteArray)] from rfl) (Reps.one (show Kd.M Kd.string _ _ _ (⟨#[71, 73, 86, 69, 58, 45, 48, 62, 53]⟩ : ByteArray) [.string (⟨#[71, 73, 86, 69, 58, 45, 48, 62, 53]⟩ : ByteArray)] from rfl) (Reps.one (show Kd.M Kd.string _ _ _ (⟨#[71, 73, 86, 69, 58, 57, 49, 62, 48]⟩ : ByteArray) [.string (⟨#[71, 73, 86, 69, 58, 57, 49, 62, 48]⟩ : ByteArray)] from rfl) (Reps.one (show Kd.M Kd.string _ _ _ (⟨#[71, 73, 86, 69, 58, 48, 49, 62, 48]⟩ : ByteArray) [.string (⟨#[71, 73, 86, 69, 58, 48, 49, 62, 48]⟩ : ByteArray)] from rfl) (Reps.one (show Kd.M Kd.string _ _ _ (⟨#[103, 105, 118, 101, 58, 49, 62, 50]⟩ : ByteArray) [.string (⟨#[103, 105, 118, 101, 58, 49, 62, 50]⟩ : ByteArray)] from rfl) (Reps.one (show Kd.M Kd.string _ _ _ (⟨#[71, 73, 86, 69, 58, 49, 62, 50, 62, 51]⟩ : ByteArray) [.string (⟨#[71, 73, 86, 69, 58, 49, 62, 50, 62, 51]⟩ : ByteArray)] from rfl) (Reps.none _ _))))))))) ?_; intro v553 w24 ho25 hb hg_ hnew_; clear hg_ hnew_; (first | rw [← Ny552.out] at ho25 | (simp only [Int.reduceToNat] at ho25; rw [← Ny552.out] at ho25)); have HO554 := aM_ (Kd.R_lower ho25 (below_size z15_6_)); replace HB := aM_ (below_step z15_6_ hb); replace HI537 := aM_ (IsS70.below z15_5_ hb); clear hb ho25; obtain ⟨Ao26, co26, eo26⟩ := Kd.R_slice HO554.out; subst eo26) | ((with_reducible refine gC_ 44 ?_); refine gM_ (some 26) Tryz.func44 #[.pointer (some ⟨gb537, 0, none⟩), .slice Ao26 y552.length co26] ?_; (with_reducible refine (spec_l1Cur_of.calls gb537 l0 t547 t548 _ _ y552 t555 t556 t557 w _ ?side1 ?side2 ?side3 ?side4 ?side5 A23.out).mono ?_); (case side1 => exact z15_5_); (case side2 => exact z15_6_); (case side3 => exact cR_ HO554); (case side4 => exact (Kd.R_reads' HO554.out).2.1); (case side5 => exact far_slice (IsS70.own_ne HI537.out HO554.out (by decide))); rintro e w27 ⟨rfl, hi, hb, hk⟩; refine ⟨_, rfl, ?_⟩; replace HO554 := aM_ (Kd.R_mono (Kd.R_keep (IsS70.apart (show IsS70 w _ gb537 l0 t547 t548 from by repeat (first | (with_reducible first | exact HI537.out | apply IsS70.alloc | apply IsS70.drewN | apply IsS70.drew | apply IsS70.set_1 | apply IsS70.set_2) | exact HI537.out)) (rR_ HO554) (by decide)) hk (fun _ h => h.2)) (fun _ h => h.1)); replace HB := aM_ (hb); replace HI537 := aM_ (hi); (try clear hb); (try clear hk); (try clear hi)))
   go_ret
   exact ⟨rT_, z15_6_⟩

/-! ### stringslite_Index: function 113, by hand -/
open Go.Shelf Go.RowKit Go.Sort Go.Lib in
def laid_lays219_ren : Go.Shelf.Ren := ⟨fun | 219 => 113 | 217 => 123 | 225 => 124 | 224 => 125 | 267 => 126 | 266 => 137 | 314 => 138 | n => n, fun | 9 => 9 | 3 => 3 | 4 => 4 | 5 => 5 | 46 => 115 | 146 => 135 | 51 => 134 | n => n, fun | 1 => 0 | n => n⟩
open Go.Shelf Go.RowKit Go.Sort Go.Lib in
theorem laid_lays219 : Go.Proofs.Lays.n219 Tryz.prog laid_lays219_ren := {
 mixed := by kernel_rfl
 f217 := Tryz.func123.trans (congrArg some (by kernel_rfl))
 f219 := Tryz.func113.trans (congrArg some (by kernel_rfl))
 f224 := Tryz.func125.trans (congrArg some (by kernel_rfl))
 f225 := Tryz.func124.trans (congrArg some (by kernel_rfl))
 f266 := Tryz.func137.trans (congrArg some (by kernel_rfl))
 f267 := Tryz.func126.trans (congrArg some (by kernel_rfl))
 f314 := Tryz.func138.trans (congrArg some (by kernel_rfl))
 t3 := Tryz.underlying3
 a3 := Tryz.isAgg3
 z3 := Tryz.sizeOf3
 v3 := Tryz.zeroValue3
 t4 := Tryz.underlying4
 a4 := Tryz.isAgg4
 z4 := Tryz.sizeOf4
 v4 := Tryz.zeroValue4
 t5 := Tryz.underlying5
 a5 := Tryz.isAgg5
 z5 := Tryz.sizeOf5
 v5 := Tryz.zeroValue5
 t9 := Tryz.underlying9
 a9 := Tryz.isAgg9
 z9 := Tryz.sizeOf9
 v9 := Tryz.zeroValue9
 t46 := Tryz.underlying115
 a46 := Tryz.isAgg115
 z46 := Tryz.sizeOf115
 v46 := Tryz.zeroValue115
 t51 := Tryz.underlying134
 a51 := Tryz.isAgg134
 z51 := Tryz.sizeOf134
 v51 := Tryz.zeroValue134
 t146 := Tryz.underlying135
 a146 := Tryz.isAgg135
 z146 := Tryz.sizeOf135
 v146 := Tryz.zeroValue135
 g1 := by kernel_rfl }
theorem stringslite_Index.calls (a0 : ByteArray) (a1 : ByteArray) (r : Int) (w : World) (h : stringslite_Index.f a0 a1 = some r) :
 Calls Tryz.prog 113 #[.string a0, .string a1] w fun e w' => e = .returned (.int .i64 r) ∧ Drawn0 w w' := by
 unfold stringslite_Index.f at h
 split at h
 case isFalse => cases h
 case isTrue hl =>
  obtain rfl := Option.some.inj h
  obtain ⟨⟨l⟩⟩ := a1
  match l, hl with
  | [c], _ => exact (Any.stringslite_Index_one laid_lays219 a0 c w).mono fun _ _ ⟨he, hw⟩ => ⟨he, by subst hw; exact Drawn0.refl _⟩
  | [], hl => cases hl
  | _ :: _ :: _, hl => exact absurd hl (by simp [ByteArray.size])

/-! ### stringslite_Cut: function 97 -/
theorem stringslite_Cut.calls (a0 : ByteArray) (a1 : ByteArray) (r1 : ByteArray) (r2 : ByteArray) (r3 : Bool) (w : World) (h : stringslite_Cut.f a0 a1 = some (r1, r2, r3)) :
 Calls Tryz.prog 97 #[.string a0, .string a1] w fun e w' => e = .returned (.tuple #[.string r1, .string r2, .bool r3]) ∧ Drawn0 w w' := by
 have H : ((stringslite_Index.f a0 a1).bind fun t558 => (if t558 ≥ 0 then (if 0 ≤ t558 then (if t558 ≤ (a0.size : Int) then (if 0 ≤ (wrap64 (t558 + (a1.size : Int))) then (if (wrap64 (t558 + (a1.size : Int))) ≤ (a0.size : Int) then (some (a0.extract 0 (t558 : Int).toNat, a0.extract ((wrap64 (t558 + (a1.size : Int))) : Int).toNat a0.size, true)) else (none)) else (none)) else (none)) else (none)) else (some (a0, (⟨#[]⟩ : ByteArray), false)))) = some (r1, r2, r3) := h
 clear h
 replace H := ob_ H; obtain ⟨t558, A3, H⟩ := H; try dsimp only at H
 have HC4 := Aside0.mk H
 clear H
 go_enter Tryz.func97, Tryz.ntmps97
 go_upto_if 12 with (first | (go_at_call 113; (with_reducible refine (stringslite_Index.calls a0 a1 t558 _ A3.out).mono ?_); rintro e w' ⟨rfl, ⟨nd, rfl⟩⟩; (try exact dd_)) | (go_quiet (first | (go_at_call 113; (with_reducible refine (stringslite_Index.calls a0 a1 t558 _ A3.out).mono ?_); rintro e w' ⟨rfl, ⟨nd, rfl⟩⟩; (try exact dd_)))))
 (try simp only [Act.put, List.setIfInBounds_toArray, List.set_cons_zero, List.set_cons_succ])
 have H := HC4.out
 clear HC4
 by_cases c5 : t558 ≥ 0
 rotate_left
 ·rw [if_neg c5] at H
  have c5b0 : decide (0 ≤ t558) = false := decide_eq_false c5
  clear c5
  (first | rw [c5b0] | (simp only [i64_w, i32_w]; rw [c5b0]) | skip)
  simp only [Option.some.injEq, Prod.mk.injEq] at H
  obtain ⟨rfl, rfl, rfl⟩ := H
  go_wp2
  repeat (go_quiet (fail); try go_wp2)
  go_ret3
  exact ⟨z15_3_, z15_8_⟩
 rw [if_pos c5] at H
 have c5b0 : decide (0 ≤ t558) = true := decide_eq_true c5
 clear c5
 (first | rw [c5b0] | (simp only [i64_w, i32_w]; rw [c5b0]) | skip)
 replace H := it_ H; obtain ⟨c6b0, c6b1, H⟩ := H
 replace H := it_ H; obtain ⟨c7b0, c7b1, H⟩ := H
 obtain ⟨ji8, hji8⟩ : ∃ j_ : Int, (wrap64 (t558 + (a1.size : Int))) = j_ := ⟨_, rfl⟩
 replace H : (if 0 ≤ (ji8) then (if (ji8) ≤ (a0.size : Int) then (some (a0.extract 0 (t558 : Int).toNat, a0.extract ((ji8) : Int).toNat a0.size, true)) else (none)) else (none)) = some (r1, r2, r3) := by first | (rw [hji8] at H; exact H) | (simp only [hji8] at H ⊢; exact H)
 have hji8w : (IntKind.i64.wrap (t558 + (a1.size : Int))) = ji8 := (i64_w _).trans hji8
 replace H := it_ H; obtain ⟨c9b0, c9b1, H⟩ := H
 replace H := it_ H; obtain ⟨c10b0, c10b1, H⟩ := H
 simp only [Option.some.injEq, Prod.mk.injEq] at H
 obtain ⟨rfl, rfl, rfl⟩ := H
 go_wp2
 repeat (go_quiet (fail); try go_wp2)
 go_ret3
 exact ⟨by first | rfl | (simp; done) | (simp only [← hji8] <;> (first | rfl | simp)) | (simp [*]; done), z15_8_⟩

/-! ### strings_Cut: function 61 -/
theorem strings_Cut.calls (a0 : ByteArray) (a1 : ByteArray) (r1 : ByteArray) (r2 : ByteArray) (r3 : Bool) (w : World) (h : strings_Cut.f a0 a1 = some (r1, r2, r3)) :
 Calls Tryz.prog 61 #[.string a0, .string a1] w fun e w' => e = .returned (.tuple #[.string r1, .string r2, .bool r3]) ∧ Drawn0 w w' := by
 have H : ((stringslite_Cut.f a0 a1).bind fun bt559 => (some (bt559.1, bt559.2.1, bt559.2.2))) = some (r1, r2, r3) := h
 clear h
 replace H := ob_ H; obtain ⟨⟨t559, t560, t561⟩, A3, H⟩ := H; try dsimp only at H
 simp only [Option.some.injEq, Prod.mk.injEq] at H
 obtain ⟨rfl, rfl, rfl⟩ := H
 go_enter Tryz.func61, Tryz.ntmps61
 go_wp2_with (first | ((with_reducible refine gC_ 97 ?_); refine gM_ (some 9) Tryz.func97 #[.string a0, .string a1] ?_; (with_reducible refine (stringslite_Cut.calls a0 a1 t559 t560 t561 _ A3.out).mono ?_); rintro e w' ⟨rfl, ⟨nd, rfl⟩⟩; refine ⟨_, rfl, ?_⟩))
 go_ret3
 exact ⟨z15_3_, z15_8_⟩

/-! ### impl_decimal: function 62, by hand -/
open Go.Shelf Go.RowKit Go.Sort Go.Lib in
def laid_laysC172_ren : Go.Shelf.Ren := ⟨fun | 172 => 98 | 244 => 114 | 245 => 115 | 247 => 127 | 279 => 128 | 280 => 129 | 281 => 130 | 282 => 131 | 287 => 139 | 316 => 140 | 171 => 95 | 205 => 141 | 321 => 147 | 322 => 148 | 243 => 112 | 246 => 122 | 283 => 133 | 284 => 134 | 285 => 135 | 286 => 136 | 129 => 143 | 317 => 142 | 318 => 144 | 319 => 145 | 320 => 146 | 337 => 149 | 338 => 150 | n => n, fun | 9 => 9 | 3 => 3 | 75 => 109 | 76 => 110 | 4 => 4 | 5 => 5 | 167 => 123 | 37 => 22 | 0 => 0 | 85 => 124 | 2 => 2 | 168 => 126 | 53 => 68 | 175 => 137 | 46 => 115 | 210 => 141 | 127 => 152 | 145 => 155 | 143 => 153 | 21 => 21 | 171 => 129 | 173 => 132 | 212 => 148 | 51 => 134 | 20 => 20 | 213 => 149 | 232 => 157 | 233 => 158 | 80 => 80 | n => n, fun | 15 => 1 | 16 => 2 | 17 => 5 | 18 => 6 | 19 => 7 | n => n⟩
open Go.Shelf Go.RowKit Go.Sort Go.Lib in
theorem laid_laysC172 : Go.Proofs.LaysC.n172 Tryz.prog laid_laysC172_ren := {
 mixed := by kernel_rfl
 f129 := Tryz.func143.trans (congrArg some (by kernel_rfl))
 f171 := Tryz.func95.trans (congrArg some (by kernel_rfl))
 f172 := Tryz.func98.trans (congrArg some (by kernel_rfl))
 f205 := Tryz.func141.trans (congrArg some (by kernel_rfl))
 f243 := Tryz.func112.trans (congrArg some (by kernel_rfl))
 f244 := Tryz.func114.trans (congrArg some (by kernel_rfl))
 f245 := Tryz.func115.trans (congrArg some (by kernel_rfl))
 f246 := Tryz.func122.trans (congrArg some (by kernel_rfl))
 f247 := Tryz.func127.trans (congrArg some (by kernel_rfl))
 f279 := Tryz.func128.trans (congrArg some (by kernel_rfl))
 f280 := Tryz.func129.trans (congrArg some (by kernel_rfl))
 f281 := Tryz.func130.trans (congrArg some (by kernel_rfl))
 f282 := Tryz.func131.trans (congrArg some (by kernel_rfl))
 f283 := Tryz.func133.trans (congrArg some (by kernel_rfl))
 f284 := Tryz.func134.trans (congrArg some (by kernel_rfl))
 f285 := Tryz.func135.trans (congrArg some (by kernel_rfl))
 f286 := Tryz.func136.trans (congrArg some (by kernel_rfl))
 f287 := Tryz.func139.trans (congrArg some (by kernel_rfl))
 f316 := Tryz.func140.trans (congrArg some (by kernel_rfl))
 f317 := Tryz.func142.trans (congrArg some (by kernel_rfl))
 f318 := Tryz.func144.trans (congrArg some (by kernel_rfl))
 f319 := Tryz.func145.trans (congrArg some (by kernel_rfl))
 f320 := Tryz.func146.trans (congrArg some (by kernel_rfl))
 f321 := Tryz.func147.trans (congrArg some (by kernel_rfl))
 f322 := Tryz.func148.trans (congrArg some (by kernel_rfl))
 f337 := Tryz.func149.trans (congrArg some (by kernel_rfl))
 f338 := Tryz.func150.trans (congrArg some (by kernel_rfl))
 t0 := Tryz.underlying0
 a0 := Tryz.isAgg0
 z0 := Tryz.sizeOf0
 v0 := Tryz.zeroValue0
 t2 := Tryz.underlying2
 a2 := Tryz.isAgg2
 z2 := Tryz.sizeOf2
 v2 := Tryz.zeroValue2
 t3 := Tryz.underlying3
 a3 := Tryz.isAgg3
 z3 := Tryz.sizeOf3
 v3 := Tryz.zeroValue3
 t4 := Tryz.underlying4
 a4 := Tryz.isAgg4
 z4 := Tryz.sizeOf4
 v4 := Tryz.zeroValue4
 t5 := Tryz.underlying5
 a5 := Tryz.isAgg5
 z5 := Tryz.sizeOf5
 v5 := Tryz.zeroValue5
 t9 := Tryz.underlying9
 a9 := Tryz.isAgg9
 z9 := Tryz.sizeOf9
 v9 := Tryz.zeroValue9
 t20 := Tryz.underlying20
 a20 := Tryz.isAgg20
 z20 := Tryz.sizeOf20
 v20 := Tryz.zeroValue20
 t21 := Tryz.underlying21
 a21 := Tryz.isAgg21
 z21 := Tryz.sizeOf21
 v21 := Tryz.zeroValue21
 t37 := Tryz.underlying22
 a37 := Tryz.isAgg22
 z37 := Tryz.sizeOf22
 v37 := Tryz.zeroValue22
 t46 := Tryz.underlying115
 a46 := Tryz.isAgg115
 z46 := Tryz.sizeOf115
 v46 := Tryz.zeroValue115
 t51 := Tryz.underlying134
 a51 := Tryz.isAgg134
 z51 := Tryz.sizeOf134
 v51 := Tryz.zeroValue134
 t53 := Tryz.underlying68
 a53 := Tryz.isAgg68
 z53 := Tryz.sizeOf68
 v53 := Tryz.zeroValue68
 t75 := Tryz.underlying109
 a75 := Tryz.isAgg109
 z75 := Tryz.sizeOf109
 v75 := Tryz.zeroValue109
 t76 := Tryz.underlying110
 a76 := Tryz.isAgg110
 z76 := Tryz.sizeOf110
 v76 := Tryz.zeroValue110
 t85 := Tryz.underlying124
 a85 := Tryz.isAgg124
 z85 := Tryz.sizeOf124
 v85 := Tryz.zeroValue124
 t127 := Tryz.underlying152
 a127 := Tryz.isAgg152
 z127 := Tryz.sizeOf152
 v127 := Tryz.zeroValue152
 t143 := Tryz.underlying153
 a143 := Tryz.isAgg153
 z143 := Tryz.sizeOf153
 v143 := Tryz.zeroValue153
 t145 := Tryz.underlying155
 a145 := Tryz.isAgg155
 z145 := Tryz.sizeOf155
 v145 := Tryz.zeroValue155
 t167 := Tryz.underlying123
 a167 := Tryz.isAgg123
 z167 := Tryz.sizeOf123
 v167 := Tryz.zeroValue123
 t168 := Tryz.underlying126
 a168 := Tryz.isAgg126
 z168 := Tryz.sizeOf126
 v168 := Tryz.zeroValue126
 t171 := Tryz.underlying129
 a171 := Tryz.isAgg129
 z171 := Tryz.sizeOf129
 v171 := Tryz.zeroValue129
 t173 := Tryz.underlying132
 a173 := Tryz.isAgg132
 z173 := Tryz.sizeOf132
 v173 := Tryz.zeroValue132
 t175 := Tryz.underlying137
 a175 := Tryz.isAgg137
 z175 := Tryz.sizeOf137
 v175 := Tryz.zeroValue137
 t210 := Tryz.underlying141
 a210 := Tryz.isAgg141
 z210 := Tryz.sizeOf141
 v210 := Tryz.zeroValue141
 t212 := Tryz.underlying148
 a212 := Tryz.isAgg148
 z212 := Tryz.sizeOf148
 v212 := Tryz.zeroValue148
 t213 := Tryz.underlying149
 a213 := Tryz.isAgg149
 z213 := Tryz.sizeOf149
 t232 := Tryz.underlying157
 a232 := Tryz.isAgg157
 z232 := Tryz.sizeOf157
 v232 := Tryz.zeroValue157
 t233 := Tryz.underlying158
 a233 := Tryz.isAgg158
 z233 := Tryz.sizeOf158
 v233 := Tryz.zeroValue158
 g15 := by kernel_rfl
 g16 := by kernel_rfl
 g17 := by kernel_rfl
 g18 := by kernel_rfl
 g19 := by kernel_rfl
 t80 := Tryz.underlying80
 a80 := Tryz.isAgg80
 z80 := Tryz.sizeOf80
 v80 := Tryz.zeroValue80
 i0 := by kernel_rfl
 i2 := by kernel_rfl
 i3 := by kernel_rfl
 i4 := by kernel_rfl
 i5 := by kernel_rfl
 i9 := by kernel_rfl
 i20 := by kernel_rfl
 i21 := by kernel_rfl
 i37 := by kernel_rfl
 i46 := by kernel_rfl
 i51 := by kernel_rfl
 i53 := by kernel_rfl
 i75 := by kernel_rfl
 i76 := by kernel_rfl
 i80 := by kernel_rfl
 i85 := by kernel_rfl
 i127 := by kernel_rfl
 i143 := by kernel_rfl
 i145 := by kernel_rfl
 i167 := by kernel_rfl
 i168 := by kernel_rfl
 i171 := by kernel_rfl
 i173 := by kernel_rfl
 i175 := by kernel_rfl
 i210 := by kernel_rfl
 i212 := by kernel_rfl
 i232 := by kernel_rfl
 i233 := by kernel_rfl
 m15 := by kernel_rfl
 m16 := by kernel_rfl
 m17 := by kernel_rfl
 m18 := by kernel_rfl
 m19 := by kernel_rfl
 c0 := by kernel_rfl
 c2 := by kernel_rfl
 c3 := by kernel_rfl
 c4 := by kernel_rfl
 c5 := by kernel_rfl
 c9 := by kernel_rfl
 c20 := by kernel_rfl
 c21 := by kernel_rfl
 c37 := by kernel_rfl
 c46 := by kernel_rfl
 c51 := by kernel_rfl
 c53 := by kernel_rfl
 c75 := by kernel_rfl
 c76 := by kernel_rfl
 c80 := by kernel_rfl
 c85 := by kernel_rfl
 c127 := by kernel_rfl
 c143 := by kernel_rfl
 c145 := by kernel_rfl
 c167 := by kernel_rfl
 c168 := by kernel_rfl
 c171 := by kernel_rfl
 c173 := by kernel_rfl
 c175 := by kernel_rfl
 c210 := by kernel_rfl
 c212 := by kernel_rfl
 c213 := by kernel_rfl
 c232 := by kernel_rfl
 c233 := by kernel_rfl }
set_option maxHeartbeats 1000000 in
theorem impl_decimal.calls (a0 : ByteArray) (r1 : Int) (r2 : Bool) (w : World) (hT_ : TabW Tryz.prog 1 w) (h : impl_decimal.f a0 = some (r1, r2)) :
 Calls Tryz.prog 62 #[.string a0] w fun e w' => e = .returned (.tuple #[.int .i64 r1, .bool r2]) ∧ Below w.heap.size w w' := by
 unfold impl_decimal.f at h
 split at h
 case isFalse => cases h
 case isTrue hl =>
  have h' := Option.some.inj h
  clear h
  have HT := Aside0.mk hT_
  clear hT_
  cases hA : Lib.atoiAll a0.data.toList with
  | ok v =>
   rw [hA] at h'
   have hv := Lib.atoiAll_bounds hA
   have C1 : ∀ W : World, Calls Tryz.prog 98 #[.string a0] W fun e w' => e = .returned (.tuple #[.int .i64 v, .nilIface]) ∧ Below W.heap.size W w' := fun W => (Any.strconv_Atoi_ok laid_laysC172 a0 (by omega) v hA W).mono fun _ _ ⟨he, hw⟩ => ⟨he, hw.elim (fun e => by subst e; exact Below.refl _ _) (fun ⟨t, e⟩ => by subst e; exact Lib.bytesWorld_below _ _ t)⟩
   have C2 : ∀ W : World, Below w.heap.size w W → Calls Tryz.prog 95 #[.int .i64 v] W fun e w' => e = .returned (.string ⟨(Lib.itoa v).toArray⟩) ∧ Below W.heap.size W w' := fun W hb => itoa_tab (fun ht => Any.strconv_Itoa laid_laysM171 v hv.1 hv.2 W ht) ((HT.out.weak (by decide : 0 ≤ 1)).below hb)
   have K1 := Aside0.mk C1
   have K2 := Aside0.mk C2
   have H := Aside0.mk h'
   clear C1 C2 h' hA
   go_enter Tryz.func62, Tryz.ntmps62
   go_wp2_with (first | (go_at_call 98; refine (K1.out _).mono ?_; rintro e w1 ⟨rfl, hb1⟩) | (go_at_call 95; refine (K2.out _ hb1).mono ?_; rintro e w2 ⟨rfl, hb2⟩))
   ·rename_i hc
    have hne : ¬ Lib.itoa v = a0.data.toList := by
     rw [ByteArray.toList_eq] at hc
     simpa using hc
    have h2 := H.out
    rw [if_neg hne] at h2
    simp only [Prod.mk.injEq] at h2
    obtain ⟨rfl, rfl⟩ := h2
    go_ret2
    exact ⟨rfl, below_then hb1 hb1.size hb2⟩
   ·rename_i hc
    have hne : Lib.itoa v = a0.data.toList := by
     rw [ByteArray.toList_eq] at hc
     simpa using hc
    have h2 := H.out
    rw [if_pos hne] at h2
    simp only [Prod.mk.injEq] at h2
    obtain ⟨rfl, rfl⟩ := h2
    go_ret2
    exact ⟨rfl, below_then hb1 hb1.size hb2⟩
  | «syntax» =>
   rw [hA] at h'
   simp only [Prod.mk.injEq] at h'
   obtain ⟨rfl, rfl⟩ := h'
   obtain ⟨tp, p, hv⟩ := HT.out.syn (by decide)
   have K1 := Aside0.mk ((Any.strconv_Atoi_syntax_var laid_laysC172 a0 hl hA tp p w hv).mono (R' := fun e w' => ∃ N, e = .returned (.tuple #[.int .i64 0, .iface 126 (.pointer (some ⟨N, 0, none⟩))]) ∧ Below w.heap.size w w') fun _ _ ⟨N, he, _, _, hb⟩ => ⟨N, he, hb⟩)
   clear hA hv
   go_enter Tryz.func62, Tryz.ntmps62
   go_wp2_with (go_at_call 98; refine K1.out.mono ?_; rintro e w1 ⟨N, rfl, hb1⟩)
   go_ret2
   exact ⟨rfl, hb1⟩
  | range =>
   rw [hA] at h'
   simp only [Prod.mk.injEq] at h'
   obtain ⟨rfl, rfl⟩ := h'
   obtain ⟨tp, p, hv⟩ := HT.out.rng (by decide)
   have K1 := Aside0.mk ((Any.strconv_Atoi_range_var laid_laysC172 a0 hl hA tp p w hv).mono (R' := fun e w' => ∃ N, e = .returned (.tuple #[.int .i64 (Lib.atoiSat a0.data.toList), .iface 126 (.pointer (some ⟨N, 0, none⟩))]) ∧ Below w.heap.size w w') fun _ _ ⟨N, he, _, _, hb⟩ => ⟨N, he, hb⟩)
   clear hA hv
   go_enter Tryz.func62, Tryz.ntmps62
   go_wp2_with (go_at_call 98; refine K1.out.mono ?_; rintro e w1 ⟨N, rfl, hb1⟩)
   go_ret2
   exact ⟨rfl, hb1⟩

end Go.Proofs.YtfkdlfbjkdkffaaGreatDoor.PFnVerbs
