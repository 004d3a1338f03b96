/- Printed for this claim: functions of the program as Lean functions, and that the calls answer so. -/
import Derived.Test.YtfkdlfbjkdkffaaGreatDoorPFnVerbsx0
import Derived.Test.YtfkdlfbjkdkffaaGreatDoorPFnVerbsx2
import Derived.Test.YtfkdlfbjkdkffaaGreatDoorPFnVerbsx3
import Derived.Test.YtfkdlfbjkdkffaaGreatDoorPFnVerbsx9
import Derived.Test.YtfkdlfbjkdkffaaGreatDoorPFnVerbsxD0
namespace Go.Proofs.YtfkdlfbjkdkffaaGreatDoor.PFnVerbs
open Go.RowKit Go.Proofs.YtfkdlfbjkdkffaaGreatDoorW.PrintWords Go.Proofs.YtfkdlfbjkdkffaaGreatDoorW.PrintLast Go.Proofs.YtfkdlfbjkdkffaaGreatDoorW.PrintMore
theorem z10_0_ {p : Prop} (h : p := by repeat (first | exact (Kd.C_below HR0.out HB.out) | (with_reducible first | apply cA_ | apply cN_ | apply cD_))) : p := h
theorem z10_1_ {p : Prop} (h : p := by (with_reducible repeat (first | apply kN_ | apply kD_ | apply kA_)); refine blk_put (cs := #[.string (⟨#[]⟩ : ByteArray), .int .i64 0, .int .i64 0]) ?_ 2 _ rfl; (with_reducible repeat (first | apply kN_ | apply kD_ | apply kA_)); refine blk_put (cs := #[.string (⟨#[]⟩ : ByteArray), .int .i64 0, .int .i64 0]) ?_ 1 _ rfl; (with_reducible repeat (first | apply kN_ | apply kD_ | apply kA_)); refine blk_put (cs := #[.string (⟨#[]⟩ : ByteArray), .int .i64 0, .int .i64 0]) ?_ 0 _ rfl; (with_reducible repeat (first | apply kN_ | apply kD_ | apply kA_)); exact BK347.out) : p := h
theorem z10_2_ {p : Prop} (h : p := by first | exact Nat.ne_of_lt (Nat.lt_of_lt_of_le (by have := World.block_lt_of_cell? _ _ hw352_0; first | rwa [add_block] at this | exact this) GW347.out) | (rw [add_block]; exact Nat.ne_of_lt (Nat.lt_of_lt_of_le (by have := World.block_lt_of_cell? _ _ hw352_0; first | rwa [add_block] at this | exact this) GW347.out)) | (show (Addr.add _ _).block ≠ _; rw [add_block]; exact Nat.ne_of_lt (Nat.lt_of_lt_of_le (by have := World.block_lt_of_cell? _ _ hw352_0; first | rwa [add_block] at this | exact this) GW347.out)) | (dsimp only; exact Nat.ne_of_lt (Nat.lt_of_lt_of_le (by have := World.block_lt_of_cell? _ _ hw352_0; first | rwa [add_block] at this | exact this) GW347.out))) : p := h
theorem z10_3_ {p : Prop} (h : p := by first | exact Nat.ne_of_lt (Nat.lt_of_lt_of_le (by have := World.block_lt_of_cell? _ _ hw352_1; first | rwa [add_block] at this | exact this) GW347.out) | (rw [add_block]; exact Nat.ne_of_lt (Nat.lt_of_lt_of_le (by have := World.block_lt_of_cell? _ _ hw352_1; first | rwa [add_block] at this | exact this) GW347.out)) | (show (Addr.add _ _).block ≠ _; rw [add_block]; exact Nat.ne_of_lt (Nat.lt_of_lt_of_le (by have := World.block_lt_of_cell? _ _ hw352_1; first | rwa [add_block] at this | exact this) GW347.out)) | (dsimp only; exact Nat.ne_of_lt (Nat.lt_of_lt_of_le (by have := World.block_lt_of_cell? _ _ hw352_1; first | rwa [add_block] at this | exact this) GW347.out))) : p := h
theorem z10_4_ {p : Prop} (h : p := by first | exact Nat.ne_of_lt (Nat.lt_of_lt_of_le (by have := World.block_lt_of_cell? _ _ hw353_0; first | rwa [add_block] at this | exact this) GW347.out) | (rw [add_block]; exact Nat.ne_of_lt (Nat.lt_of_lt_of_le (by have := World.block_lt_of_cell? _ _ hw353_0; first | rwa [add_block] at this | exact this) GW347.out)) | (show (Addr.add _ _).block ≠ _; rw [add_block]; exact Nat.ne_of_lt (Nat.lt_of_lt_of_le (by have := World.block_lt_of_cell? _ _ hw353_0; first | rwa [add_block] at this | exact this) GW347.out)) | (dsimp only; exact Nat.ne_of_lt (Nat.lt_of_lt_of_le (by have := World.block_lt_of_cell? _ _ hw353_0; first | rwa [add_block] at this | exact this) GW347.out))) : p := h
theorem z10_5_ {p : Prop} (h : p := by first | exact Nat.ne_of_lt (Nat.lt_of_lt_of_le (by have := World.block_lt_of_cell? _ _ hw353_1; first | rwa [add_block] at this | exact this) GW347.out) | (rw [add_block]; exact Nat.ne_of_lt (Nat.lt_of_lt_of_le (by have := World.block_lt_of_cell? _ _ hw353_1; first | rwa [add_block] at this | exact this) GW347.out)) | (show (Addr.add _ _).block ≠ _; rw [add_block]; exact Nat.ne_of_lt (Nat.lt_of_lt_of_le (by have := World.block_lt_of_cell? _ _ hw353_1; first | rwa [add_block] at this | exact this) GW347.out)) | (dsimp only; exact Nat.ne_of_lt (Nat.lt_of_lt_of_le (by have := World.block_lt_of_cell? _ _ hw353_1; first | rwa [add_block] at this | exact this) GW347.out))) : p := h
theorem z10_6_ {p : Prop} (h : p := by first | rfl | (simp; done) | (simp [*]; done)) : p := h
theorem z10_7_ {p : Prop} (h : p := by repeat (first | exact Drawn0.refl _ | apply Drawn0.step)) : p := h
set_option maxHeartbeats 8000000
set_option maxRecDepth 100000
attribute [local go_sem] max2_int min2_int max_two min_two max_three min_three max_four min_four isSome_setCell   -- for this text's walks alone
set_option linter.unusedVariables false
set_option linter.unusedSimpArgs false

/-! ### spec_VerbFor: function 7 -/
def spec_VerbFor.T4 : Bool × List (List Nat × List Nat) := (true, [([], []), ([], []), ([], []), ([1, 2], [1, 2]), ([3], [3]), ([4], [4]), ([], []), ([], []), ([6, 7], [6, 7]), ([8], [8]), ([9], [9]), ([0, 5, 10], [0, 5, 10]), ([11, 0, 1, 2, 3, 4, 5, 6, 7, 8, 9, 10, 11], [11]), ([12, 0, 1, 2, 3, 4, 5, 6, 7, 8, 9, 10, 11, 12], [])])
def spec_VerbFor.B4 : List Nat := [0, 0, 0, 6, 14, 30, 0, 0, 192, 448, 960, 2047, 4095, 8191]
theorem spec_VerbFor.tab4 : rtab .any (opsOf Tryz.f7 4) = spec_VerbFor.T4 := by kernel_rfl
theorem spec_VerbFor.bits4 : waitsOk spec_VerbFor.T4.2 spec_VerbFor.B4 = true := by kernel_rfl
theorem spec_VerbFor.calls (k : Nat) (A0 : Option Addr) (c0 : Nat) (l0 : List (S58)) (a1 : ByteArray) (a2 : ByteArray) (a3 : ByteArray) (r1 : ByteArray) (r2 : Int) (r3 : Int) (r4 : Bool) (w : World) (hr0 : Kd.C k58 w A0 l0.length l0) (hc0 : l0.length ≤ c0) (h : spec_VerbFor.f k l0 a1 a2 a3 = some (r1, r2, r3, r4)) :
 Calls Tryz.prog 7 #[.slice A0 l0.length c0, .string a1, .string a2, .string a3] w fun e w' => e = .returned (.tuple #[.agg #[.string r1, .int .i64 r2, .int .i64 r3], .bool r4]) ∧ Below w.heap.size w w' := by
 have hu27 := Tryz.underlying27
 have HR0 := Aside0.mk hr0
 have HC0 := Aside0.mk hc0
 clear hr0 hc0
 have HB := Aside0.mk (Below.refl w.heap.size w)
 have H : ((spec_loFind.f k l0 a2).bind fun t348 => ((spec_loFind.f k l0 a3).bind fun t349 => ((spec_loGood.f k l0).bind fun t350 => (if t350 = true then ((spec_fsWord.f k a1).bind fun t351 => (if t351 = true then (if t348 < 0 then (some ((⟨#[]⟩ : ByteArray), 0, 0, false)) else (if t349 < 0 then (some ((⟨#[]⟩ : ByteArray), 0, 0, false)) else (if t348 = t349 then (some ((⟨#[]⟩ : ByteArray), 0, 0, false)) else (if 0 ≤ t348 then (if t348 < (l0.length : Int) then (if 0 ≤ t349 then (if t349 < (l0.length : Int) then (some (a1, (rd_T58 l0 t348).f1, (rd_T58 l0 t349).f1, true)) else (none)) else (none)) else (none)) else (none))))) else (some ((⟨#[]⟩ : ByteArray), 0, 0, false)))) else (some ((⟨#[]⟩ : ByteArray), 0, 0, false)))))) = some (r1, r2, r3, r4) := h
 clear h
 replace H := ob_ H; obtain ⟨t348, A5, H⟩ := H; try dsimp only at H
 replace H := ob_ H; obtain ⟨t349, A6, H⟩ := H; try dsimp only at H
 replace H := ob_ H; obtain ⟨t350, A7, H⟩ := H; try dsimp only at H
 by_cases c8 : t350 = true
 rotate_left
 ·replace c8 := Bool.eq_false_iff.mpr c8
  subst c8
  replace H := in_ H (show ¬ (false = true) by decide)
  simp only [Option.some.injEq, Prod.mk.injEq] at H
  obtain ⟨rfl, rfl, rfl, rfl⟩ := H
  go_enter Tryz.func7, Tryz.ntmps7
  go_wp2_with (first | ((with_reducible refine gate_dst (N := 8) rfl ?_); refine bx_ 8 #[.string (⟨#[]⟩ : ByteArray), .int .i64 0, .int .i64 0] 27 fun gb347 hg w43 hbox hb => ?_; have BK347 := aM_ (hbox); have GW347 := aM_ (gw_ w hg); have GE347 := aM_ (gw_ w hg); replace HB := aM_ (below_step hB_ hb); clear hb hbox hg) | ((with_reducible refine gC_ 49 ?_); refine gM_ (some 14) Tryz.func49 #[.slice A0 l0.length c0, .string a2] ?_; (with_reducible refine (spec_loFind.calls k _ _ l0 a2 t348 _ ?side1 ?side2 A5.out).mono ?_); (case side1 => exact z10_0_); (case side2 => exact HC0.out); rintro e w44 ⟨rfl, hb⟩; refine ⟨_, rfl, ?_⟩; replace BK347 := aM_ (blk_below (g := gb347) (kR_ BK347) hb); replace HB := aM_ (below_step hB_ hb); (try clear hb)) | ((with_reducible refine gC_ 49 ?_); refine gM_ (some 17) Tryz.func49 #[.slice A0 l0.length c0, .string a3] ?_; (with_reducible refine (spec_loFind.calls k _ _ l0 a3 t349 _ ?side1 ?side2 A6.out).mono ?_); (case side1 => exact z10_0_); (case side2 => exact HC0.out); rintro e w45 ⟨rfl, hb⟩; refine ⟨_, rfl, ?_⟩; replace BK347 := aM_ (blk_below (g := gb347) (kR_ BK347) hb); replace HB := aM_ (below_step hB_ hb); (try clear hb)) | ((with_reducible refine gC_ 50 ?_); refine gM_ (some 19) Tryz.func50 #[.slice A0 l0.length c0] ?_; (with_reducible refine (spec_loGood.calls k _ _ l0 false _ ?side1 ?side2 A7.out).mono ?_); (case side1 => exact z10_0_); (case side2 => exact HC0.out); rintro e w46 ⟨rfl, hb⟩; refine ⟨_, rfl, ?_⟩; replace BK347 := aM_ (blk_below (g := gb347) (kR_ BK347) hb); replace HB := aM_ (below_step hB_ hb); (try clear hb); have hz47 := cf3_ BK347.out))
  refine bodyPost_ret (results_ct rfl _ _ gb347 27 #[.string (⟨#[]⟩ : ByteArray), .int .i64 0, .int .i64 0] (0, 0) _ rfl z10_1_ Tryz.underlying27 rfl (by kernel_rfl)) rfl ?_
  exact ⟨rT_, hB_⟩
 subst c8
 replace H := ip_ H rfl
 replace H := ob_ H; obtain ⟨t351, A9, H⟩ := H; try dsimp only at H
 by_cases c10 : t351 = true
 rotate_left
 ·replace c10 := Bool.eq_false_iff.mpr c10
  subst c10
  replace H := in_ H (show ¬ (false = true) by decide)
  simp only [Option.some.injEq, Prod.mk.injEq] at H
  obtain ⟨rfl, rfl, rfl, rfl⟩ := H
  go_enter Tryz.func7, Tryz.ntmps7
  go_wp2_with (first | ((with_reducible refine gate_dst (N := 8) rfl ?_); refine bx_ 8 #[.string (⟨#[]⟩ : ByteArray), .int .i64 0, .int .i64 0] 27 fun gb347 hg w38 hbox hb => ?_; have BK347 := aM_ (hbox); have GW347 := aM_ (gw_ w hg); have GE347 := aM_ (gw_ w hg); replace HB := aM_ (below_step hB_ hb); clear hb hbox hg) | ((with_reducible refine gC_ 49 ?_); refine gM_ (some 14) Tryz.func49 #[.slice A0 l0.length c0, .string a2] ?_; (with_reducible refine (spec_loFind.calls k _ _ l0 a2 t348 _ ?side1 ?side2 A5.out).mono ?_); (case side1 => exact z10_0_); (case side2 => exact HC0.out); rintro e w39 ⟨rfl, hb⟩; refine ⟨_, rfl, ?_⟩; replace BK347 := aM_ (blk_below (g := gb347) (kR_ BK347) hb); replace HB := aM_ (below_step hB_ hb); (try clear hb)) | ((with_reducible refine gC_ 49 ?_); refine gM_ (some 17) Tryz.func49 #[.slice A0 l0.length c0, .string a3] ?_; (with_reducible refine (spec_loFind.calls k _ _ l0 a3 t349 _ ?side1 ?side2 A6.out).mono ?_); (case side1 => exact z10_0_); (case side2 => exact HC0.out); rintro e w40 ⟨rfl, hb⟩; refine ⟨_, rfl, ?_⟩; replace BK347 := aM_ (blk_below (g := gb347) (kR_ BK347) hb); replace HB := aM_ (below_step hB_ hb); (try clear hb)) | ((with_reducible refine gC_ 50 ?_); refine gM_ (some 19) Tryz.func50 #[.slice A0 l0.length c0] ?_; (with_reducible refine (spec_loGood.calls k _ _ l0 true _ ?side1 ?side2 A7.out).mono ?_); (case side1 => exact z10_0_); (case side2 => exact HC0.out); rintro e w41 ⟨rfl, hb⟩; refine ⟨_, rfl, ?_⟩; replace BK347 := aM_ (blk_below (g := gb347) (kR_ BK347) hb); replace HB := aM_ (below_step hB_ hb); (try clear hb)) | (go_at_call 51; (with_reducible refine (spec_fsWord.calls k a1 false _ A9.out).mono ?_); rintro e w' ⟨rfl, ⟨nd, rfl⟩⟩; (try (rw [drewN_self w41]; generalize hq_ : World.drewN w41 _ = w41; have n0_ : Aside0 (w41.heap[gb347]? = some (.cells #[.string (⟨#[]⟩ : ByteArray), .int .i64 0, .int .i64 0] 27 (0, 0))) := ⟨(by rw [← hq_]; exact (kR_ BK347))⟩; have n1_ : Aside0 (Below w.heap.size w w41) := ⟨by rw [← hq_]; exact hB_⟩; clear BK347 HB hq_; have BK347 := n0_; have HB := n1_; clear n0_ n1_)); have hz42 := cf3_ BK347.out))
  refine bodyPost_ret (results_ct rfl _ _ gb347 27 #[.string (⟨#[]⟩ : ByteArray), .int .i64 0, .int .i64 0] (0, 0) _ rfl z10_1_ Tryz.underlying27 rfl (by kernel_rfl)) rfl ?_
  exact ⟨rT_, hB_⟩
 subst c10
 replace H := ip_ H rfl
 replace H := iT_ H; obtain ⟨c11b0, H⟩ | ⟨c11b0, H⟩ := H
 ·simp only [Option.some.injEq, Prod.mk.injEq] at H
  obtain ⟨rfl, rfl, rfl, rfl⟩ := H
  go_enter Tryz.func7, Tryz.ntmps7
  go_wp2_with (first | ((with_reducible refine gate_dst (N := 8) rfl ?_); refine bx_ 8 #[.string (⟨#[]⟩ : ByteArray), .int .i64 0, .int .i64 0] 27 fun gb347 hg w12 hbox hb => ?_; have BK347 := aM_ (hbox); have GW347 := aM_ (gw_ w hg); have GE347 := aM_ (gw_ w hg); replace HB := aM_ (below_step hB_ hb); clear hb hbox hg) | ((with_reducible refine gC_ 49 ?_); refine gM_ (some 14) Tryz.func49 #[.slice A0 l0.length c0, .string a2] ?_; (with_reducible refine (spec_loFind.calls k _ _ l0 a2 t348 _ ?side1 ?side2 A5.out).mono ?_); (case side1 => exact z10_0_); (case side2 => exact HC0.out); rintro e w13 ⟨rfl, hb⟩; refine ⟨_, rfl, ?_⟩; replace BK347 := aM_ (blk_below (g := gb347) (kR_ BK347) hb); replace HB := aM_ (below_step hB_ hb); (try clear hb)) | ((with_reducible refine gC_ 49 ?_); refine gM_ (some 17) Tryz.func49 #[.slice A0 l0.length c0, .string a3] ?_; (with_reducible refine (spec_loFind.calls k _ _ l0 a3 t349 _ ?side1 ?side2 A6.out).mono ?_); (case side1 => exact z10_0_); (case side2 => exact HC0.out); rintro e w14 ⟨rfl, hb⟩; refine ⟨_, rfl, ?_⟩; replace BK347 := aM_ (blk_below (g := gb347) (kR_ BK347) hb); replace HB := aM_ (below_step hB_ hb); (try clear hb)) | ((with_reducible refine gC_ 50 ?_); refine gM_ (some 19) Tryz.func50 #[.slice A0 l0.length c0] ?_; (with_reducible refine (spec_loGood.calls k _ _ l0 true _ ?side1 ?side2 A7.out).mono ?_); (case side1 => exact z10_0_); (case side2 => exact HC0.out); rintro e w15 ⟨rfl, hb⟩; refine ⟨_, rfl, ?_⟩; replace BK347 := aM_ (blk_below (g := gb347) (kR_ BK347) hb); replace HB := aM_ (below_step hB_ hb); (try clear hb)) | (go_at_call 51; (with_reducible refine (spec_fsWord.calls k a1 true _ A9.out).mono ?_); rintro e w' ⟨rfl, ⟨nd, rfl⟩⟩; (try (rw [drewN_self w15]; generalize hq_ : World.drewN w15 _ = w15; have n0_ : Aside0 (w15.heap[gb347]? = some (.cells #[.string (⟨#[]⟩ : ByteArray), .int .i64 0, .int .i64 0] 27 (0, 0))) := ⟨(by rw [← hq_]; exact (kR_ BK347))⟩; have n1_ : Aside0 (Below w.heap.size w w15) := ⟨by rw [← hq_]; exact hB_⟩; clear BK347 HB hq_; have BK347 := n0_; have HB := n1_; clear n0_ n1_)); have hz16 := cf3_ BK347.out))
  refine bodyPost_ret (results_ct rfl _ _ gb347 27 #[.string (⟨#[]⟩ : ByteArray), .int .i64 0, .int .i64 0] (0, 0) _ rfl z10_1_ Tryz.underlying27 rfl (by kernel_rfl)) rfl ?_
  exact ⟨rT_, hB_⟩
 replace H := iT_ H; obtain ⟨c17b0, H⟩ | ⟨c17b0, H⟩ := H
 ·simp only [Option.some.injEq, Prod.mk.injEq] at H
  obtain ⟨rfl, rfl, rfl, rfl⟩ := H
  go_enter Tryz.func7, Tryz.ntmps7
  go_wp2_with (first | ((with_reducible refine gate_dst (N := 8) rfl ?_); refine bx_ 8 #[.string (⟨#[]⟩ : ByteArray), .int .i64 0, .int .i64 0] 27 fun gb347 hg w18 hbox hb => ?_; have BK347 := aM_ (hbox); have GW347 := aM_ (gw_ w hg); have GE347 := aM_ (gw_ w hg); replace HB := aM_ (below_step hB_ hb); clear hb hbox hg) | ((with_reducible refine gC_ 49 ?_); refine gM_ (some 14) Tryz.func49 #[.slice A0 l0.length c0, .string a2] ?_; (with_reducible refine (spec_loFind.calls k _ _ l0 a2 t348 _ ?side1 ?side2 A5.out).mono ?_); (case side1 => exact z10_0_); (case side2 => exact HC0.out); rintro e w19 ⟨rfl, hb⟩; refine ⟨_, rfl, ?_⟩; replace BK347 := aM_ (blk_below (g := gb347) (kR_ BK347) hb); replace HB := aM_ (below_step hB_ hb); (try clear hb)) | ((with_reducible refine gC_ 49 ?_); refine gM_ (some 17) Tryz.func49 #[.slice A0 l0.length c0, .string a3] ?_; (with_reducible refine (spec_loFind.calls k _ _ l0 a3 t349 _ ?side1 ?side2 A6.out).mono ?_); (case side1 => exact z10_0_); (case side2 => exact HC0.out); rintro e w20 ⟨rfl, hb⟩; refine ⟨_, rfl, ?_⟩; replace BK347 := aM_ (blk_below (g := gb347) (kR_ BK347) hb); replace HB := aM_ (below_step hB_ hb); (try clear hb)) | ((with_reducible refine gC_ 50 ?_); refine gM_ (some 19) Tryz.func50 #[.slice A0 l0.length c0] ?_; (with_reducible refine (spec_loGood.calls k _ _ l0 true _ ?side1 ?side2 A7.out).mono ?_); (case side1 => exact z10_0_); (case side2 => exact HC0.out); rintro e w21 ⟨rfl, hb⟩; refine ⟨_, rfl, ?_⟩; replace BK347 := aM_ (blk_below (g := gb347) (kR_ BK347) hb); replace HB := aM_ (below_step hB_ hb); (try clear hb)) | (go_at_call 51; (with_reducible refine (spec_fsWord.calls k a1 true _ A9.out).mono ?_); rintro e w' ⟨rfl, ⟨nd, rfl⟩⟩; (try (rw [drewN_self w21]; generalize hq_ : World.drewN w21 _ = w21; have n0_ : Aside0 (w21.heap[gb347]? = some (.cells #[.string (⟨#[]⟩ : ByteArray), .int .i64 0, .int .i64 0] 27 (0, 0))) := ⟨(by rw [← hq_]; exact (kR_ BK347))⟩; have n1_ : Aside0 (Below w.heap.size w w21) := ⟨by rw [← hq_]; exact hB_⟩; clear BK347 HB hq_; have BK347 := n0_; have HB := n1_; clear n0_ n1_)); have hz22 := cf3_ BK347.out))
  refine bodyPost_ret (results_ct rfl _ _ gb347 27 #[.string (⟨#[]⟩ : ByteArray), .int .i64 0, .int .i64 0] (0, 0) _ rfl z10_1_ Tryz.underlying27 rfl (by kernel_rfl)) rfl ?_
  exact ⟨rT_, hB_⟩
 have HC23 := Aside0.mk H
 clear H
 go_enter Tryz.func7, Tryz.ntmps7
 go_upto_if 38 with (first | ((with_reducible refine gate_dst (N := 8) rfl ?_); refine bx_ 8 #[.string (⟨#[]⟩ : ByteArray), .int .i64 0, .int .i64 0] 27 fun gb347 hg w24 hbox hb => ?_; have BK347 := aM_ (hbox); have GW347 := aM_ (gw_ w hg); have GE347 := aM_ (gw_ w hg); replace HB := aM_ (below_step hB_ hb); clear hb hbox hg) | ((with_reducible refine gC_ 49 ?_); refine gM_ (some 14) Tryz.func49 #[.slice A0 l0.length c0, .string a2] ?_; (with_reducible refine (spec_loFind.calls k _ _ l0 a2 t348 _ ?side1 ?side2 A5.out).mono ?_); (case side1 => exact z10_0_); (case side2 => exact HC0.out); rintro e w25 ⟨rfl, hb⟩; refine ⟨_, rfl, ?_⟩; replace BK347 := aM_ (blk_below (g := gb347) (kR_ BK347) hb); replace HB := aM_ (below_step hB_ hb); (try clear hb)) | ((with_reducible refine gC_ 49 ?_); refine gM_ (some 17) Tryz.func49 #[.slice A0 l0.length c0, .string a3] ?_; (with_reducible refine (spec_loFind.calls k _ _ l0 a3 t349 _ ?side1 ?side2 A6.out).mono ?_); (case side1 => exact z10_0_); (case side2 => exact HC0.out); rintro e w26 ⟨rfl, hb⟩; refine ⟨_, rfl, ?_⟩; replace BK347 := aM_ (blk_below (g := gb347) (kR_ BK347) hb); replace HB := aM_ (below_step hB_ hb); (try clear hb)) | ((with_reducible refine gC_ 50 ?_); refine gM_ (some 19) Tryz.func50 #[.slice A0 l0.length c0] ?_; (with_reducible refine (spec_loGood.calls k _ _ l0 true _ ?side1 ?side2 A7.out).mono ?_); (case side1 => exact z10_0_); (case side2 => exact HC0.out); rintro e w27 ⟨rfl, hb⟩; refine ⟨_, rfl, ?_⟩; replace BK347 := aM_ (blk_below (g := gb347) (kR_ BK347) hb); replace HB := aM_ (below_step hB_ hb); (try clear hb)) | (go_at_call 51; (with_reducible refine (spec_fsWord.calls k a1 true _ A9.out).mono ?_); rintro e w' ⟨rfl, ⟨nd, rfl⟩⟩))
 (try simp only [Act.put, List.setIfInBounds_toArray, List.set_cons_zero, List.set_cons_succ])
 have H := HC23.out
 clear HC23
 by_cases c28 : t348 = t349
 ·rw [if_pos c28] at H
  have c28b0 : (t348 == t349) = true := beq_iff_eq.mpr c28
  have c28b1 : (t348 != t349) = false := bne_eq_false_iff_eq.mpr c28
  clear c28
  (first | rw [c28b0] | (simp only [i64_w, i32_w]; rw [c28b0]) | skip)
  simp only [Option.some.injEq, Prod.mk.injEq] at H
  obtain ⟨rfl, rfl, rfl, rfl⟩ := H
  have hz29 := cf3_ BK347.out
  go_wp2
  refine bodyPost_ret (results_ct rfl _ _ gb347 27 #[.string (⟨#[]⟩ : ByteArray), .int .i64 0, .int .i64 0] (0, 0) _ rfl z10_1_ Tryz.underlying27 rfl (by kernel_rfl)) rfl ?_
  exact ⟨rT_, hB_⟩
 rw [if_neg c28] at H
 have c28b0 : (t348 == t349) = false := beq_eq_false_iff_ne.mpr c28
 have c28b1 : (t348 != t349) = true := bne_iff_ne.mpr c28
 (first | rw [c28b0] | (simp only [i64_w, i32_w]; rw [c28b0]) | skip)
 replace H := ig_ H; obtain ⟨c30b0, H⟩ := H
 replace H := ig_ H; obtain ⟨c31b0, H⟩ := H
 replace H := ig_ H; obtain ⟨c32b0, H⟩ := H
 replace H := ig_ H; obtain ⟨c33b0, H⟩ := H
 simp only [Option.some.injEq, Prod.mk.injEq] at H
 obtain ⟨rfl, rfl, rfl, rfl⟩ := H
 try go_wp2
 replace BK347 := aM_ (kN_ BK347.out nd)
 replace HB := aM_ (lN_ HB.out nd)
 generalize w27.drewN nd = w27 at BK347 HB ⊢
 replace BK347 := aM_ (blk_drew BK347.out)
 replace HB := aM_ (below_drew1 HB.out)
 have p352 : 0 ≤ (t348 : Int) := ode_
 have q352 : t348 < (l0.length : Int) := ode_
 obtain ⟨ad352, e352, hx352_0, hx352_1⟩ := at_T58 HR0.out t348 p352 q352
 have hw352_1 := hx352_1
 have hw352_0 := hx352_0
 cases e352
 try replace hx352_0 := hc_ HB hx352_0
 try replace hx352_1 := hc_ HB hx352_1
 replace p352 := eq_true p352
 replace q352 := eq_true q352
 have p353 : 0 ≤ (t349 : Int) := ode_
 have q353 : t349 < (l0.length : Int) := ode_
 obtain ⟨ad353, e353, hx353_0, hx353_1⟩ := at_T58 HR0.out t349 p353 q353
 have hw353_1 := hx353_1
 have hw353_0 := hx353_0
 obtain rfl : ad352 = ad353 := (by injection e353)
 try replace hx353_0 := hc_ HB hx353_0
 try replace hx353_1 := hc_ HB hx353_1
 replace p353 := eq_true p353
 replace q353 := eq_true q353
 refine st_ 14 (fun w' => w'.cell? (ad352.add ((t348).toNat * 2)) = some (.string ((rd_T58 l0 t348).f0)) ∧ w'.cell? ⟨(ad352.add ((t348).toNat * 2)).block, (ad352.add ((t348).toNat * 2)).off + 1, none⟩ = some (.int .i64 ((rd_T58 l0 t348).f1)) ∧ w'.cell? (ad352.add ((t349).toNat * 2)) = some (.string ((rd_T58 l0 t349).f0)) ∧ w'.cell? ⟨(ad352.add ((t349).toNat * 2)).block, (ad352.add ((t349).toNat * 2)).off + 1, none⟩ = some (.int .i64 ((rd_T58 l0 t349).f1))) [] spec_VerbFor.tab4 spec_VerbFor.bits4 ⟨((HB.out.cell (World.block_lt_of_cell? w _ hw352_0)).trans hw352_0), ((HB.out.cell (World.block_lt_of_cell? w _ hw352_1)).trans hw352_1), ((HB.out.cell (World.block_lt_of_cell? w _ hw353_0)).trans hw353_0), ((HB.out.cell (World.block_lt_of_cell? w _ hw353_1)).trans hw353_1)⟩ fun hHeld HT_ HW_ => ?_
 generalize w27.drew = w34 at BK347 HB hx352_0 hx352_1 hx353_0 hx353_1 hHeld ⊢
 refine pu_ 0 40 ?_
 refine pu_ 1 41 ?_
 refine pu_ 2 42 ?_
 refine pu_ 3 43 ?_
 refine pu_ 4 44 ?_
 refine pu_ 6 46 ?_
 refine pu_ 7 47 ?_
 refine pu_ 8 48 ?_
 refine pu_ 9 49 ?_
 refine tk_ 5 45 ?_
 refine tk_ 10 50 ?_
 refine pu_ 11 51 ?_
 refine one_ (i := 12) (N := none) (bz_ 14 0x1fff) rfl rfl (one_of HT_.out (by kernel_rfl)) (by decide) (fun K hK => ?_)
 have hs35 : w34.cell? ⟨gb347, 0, none⟩ = some (.string (⟨#[]⟩ : ByteArray)) := (blk_cell BK347.out 0).trans rfl
 have hfs35 := blk_frozen BK347.out 0
 have hs36 : w34.cell? ⟨gb347, 1, none⟩ = some (.int .i64 0) := (blk_cell BK347.out 1).trans rfl
 have hfs36 := blk_frozen BK347.out 1
 have hs37 : w34.cell? ⟨gb347, 2, none⟩ = some (.int .i64 0) := (blk_cell BK347.out 2).trans rfl
 have hfs37 := blk_frozen BK347.out 2
 refine skip_ (w1 := ?_) (by rfl) rfl ?_ ?_
 rotate_left
 ·go_simp
  rfl
 refine hK.out _ _ ⟨((cell_far (p := ⟨gb347, _, none⟩) z10_2_ _).trans (((cell_far (p := ⟨gb347, _, none⟩) z10_2_ _).trans (((cell_far (p := ⟨gb347, _, none⟩) z10_2_ _).trans (hHeld.1)))))), ((cell_far (p := ⟨gb347, _, none⟩) z10_3_ _).trans (((cell_far (p := ⟨gb347, _, none⟩) z10_3_ _).trans (((cell_far (p := ⟨gb347, _, none⟩) z10_3_ _).trans (hHeld.2.1)))))), ((cell_far (p := ⟨gb347, _, none⟩) z10_4_ _).trans (((cell_far (p := ⟨gb347, _, none⟩) z10_4_ _).trans (((cell_far (p := ⟨gb347, _, none⟩) z10_4_ _).trans (hHeld.2.2.1)))))), ((cell_far (p := ⟨gb347, _, none⟩) z10_5_ _).trans (((cell_far (p := ⟨gb347, _, none⟩) z10_5_ _).trans (((cell_far (p := ⟨gb347, _, none⟩) z10_5_ _).trans (hHeld.2.2.2))))))⟩ (fun hHeld => ?_)
 clear hK K
 refine pu_ 13 9 ?_
 refine dn_ ?_
 try go_wp2
 refine bodyPost_ret (results_ct rfl _ _ gb347 27 #[.string a1, .int .i64 ((rd_T58 l0 t348).f1), .int .i64 ((rd_T58 l0 t349).f1)] (0, 0) _ rfl (by (with_reducible repeat (first | apply kN_ | apply kD_ | apply kA_)); refine blk_put (cs := #[.string a1, .int .i64 ((rd_T58 l0 t348).f1), .int .i64 0]) ?_ 2 _ rfl; (with_reducible repeat (first | apply kN_ | apply kD_ | apply kA_)); refine blk_put (cs := #[.string a1, .int .i64 0, .int .i64 0]) ?_ 1 _ rfl; (with_reducible repeat (first | apply kN_ | apply kD_ | apply kA_)); refine blk_put (cs := #[.string (⟨#[]⟩ : ByteArray), .int .i64 0, .int .i64 0]) ?_ 0 _ rfl; (with_reducible repeat (first | apply kN_ | apply kD_ | apply kA_)); exact BK347.out) Tryz.underlying27 rfl (by kernel_rfl)) rfl ?_
 exact ⟨rT_, hB_⟩

/-! ### spec_l1Most: function 93 -/
theorem spec_l1Most.calls (a0 : Int) (a1 : Int) (r : Int) (w : World) (h : spec_l1Most.f a0 a1 = some r) :
 Calls Tryz.prog 93 #[.int .i64 a0, .int .i64 a1] w fun e w' => e = .returned (.int .i64 r) ∧ Drawn0 w w' := by
 have H : (if a0 > a1 then (some a0) else (some a1)) = some r := h
 clear h
 by_cases c3 : a0 > a1
 ·rw [if_pos c3] at H
  have c3b0 : decide (a1 < a0) = true := decide_eq_true c3
  clear c3
  obtain rfl := Option.some.inj H
  go_enter Tryz.func93, Tryz.ntmps93
  go_wp2
  go_ret
  exact ⟨z10_6_, z10_7_⟩
 rw [if_neg c3] at H
 have c3b0 : decide (a1 < a0) = false := decide_eq_false c3
 clear c3
 obtain rfl := Option.some.inj H
 go_enter Tryz.func93, Tryz.ntmps93
 go_wp2
 go_ret
 exact ⟨z10_6_, z10_7_⟩

/-! ### spec_l1Least: function 94 -/
theorem spec_l1Least.calls (a0 : Int) (a1 : Int) (r : Int) (w : World) (h : spec_l1Least.f a0 a1 = some r) :
 Calls Tryz.prog 94 #[.int .i64 a0, .int .i64 a1] w fun e w' => e = .returned (.int .i64 r) ∧ Drawn0 w w' := by
 have H : (if a0 < a1 then (some a0) else (some a1)) = some r := h
 clear h
 replace H := iT_ H; obtain ⟨c3b0, H⟩ | ⟨c3b0, H⟩ := H
 ·obtain rfl := Option.some.inj H
  go_enter Tryz.func94, Tryz.ntmps94
  go_wp2
  go_ret
  exact ⟨z10_6_, z10_7_⟩
 obtain rfl := Option.some.inj H
 go_enter Tryz.func94, Tryz.ntmps94
 go_wp2
 go_ret
 exact ⟨z10_6_, z10_7_⟩

end Go.Proofs.YtfkdlfbjkdkffaaGreatDoor.PFnVerbs
