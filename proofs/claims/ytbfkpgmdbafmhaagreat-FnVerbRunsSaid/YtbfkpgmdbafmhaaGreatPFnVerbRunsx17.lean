/- Printed for this claim: functions of the program as Lean functions, and that the calls answer so. -/
import Derived.Test.YtbfkpgmdbafmhaaGreatPFnVerbRunsx0
import Derived.Test.YtbfkpgmdbafmhaaGreatPFnVerbRunsx2
import Derived.Test.YtbfkpgmdbafmhaaGreatPFnVerbRunsx3
import Derived.Test.YtbfkpgmdbafmhaaGreatPFnVerbRunsx6
import Derived.Test.YtbfkpgmdbafmhaaGreatPFnVerbRunsx7
import Derived.Test.YtbfkpgmdbafmhaaGreatPFnVerbRunsx8
import Derived.Test.YtbfkpgmdbafmhaaGreatPFnVerbRunsx11
import Derived.Test.YtbfkpgmdbafmhaaGreatPFnVerbRunsx15
import Derived.Test.YtbfkpgmdbafmhaaGreatPFnVerbRunsxD0
import Derived.Test.YtbfkpgmdbafmhaaGreatPFnVerbRunsxD1
namespace Go.Proofs.YtbfkpgmdbafmhaaGreat.PFnVerbRuns
open Go.RowKit Go.Proofs.YtbfkpgmdbafmhaaGreatW.PrintWords Go.Proofs.YtbfkpgmdbafmhaaGreatW.PrintLast Go.Proofs.YtbfkpgmdbafmhaaGreatW.PrintMore
theorem z17_0_ {p : Prop} (h : p := by repeat (first | exact (Kd.C_below HR0.out HB.out) | (with_reducible first | apply cA_ | apply cN_ | apply cD_))) : p := h
theorem z17_1_ {p : Prop} (h : p := by (with_reducible repeat (first | apply kN_ | apply kD_ | apply kA_)); refine blk_put (cs := #[.string (⟨#[]⟩ : ByteArray), .int .i64 0, .int .i64 0]) ?_ 2 _ rfl; (with_reducible repeat (first | apply kN_ | apply kD_ | apply kA_)); refine blk_put (cs := #[.string (⟨#[]⟩ : ByteArray), .int .i64 0, .int .i64 0]) ?_ 1 _ rfl; (with_reducible repeat (first | apply kN_ | apply kD_ | apply kA_)); refine blk_put (cs := #[.string (⟨#[]⟩ : ByteArray), .int .i64 0, .int .i64 0]) ?_ 0 _ rfl; (with_reducible repeat (first | apply kN_ | apply kD_ | apply kA_)); exact BK615.out) : p := h
theorem z17_2_ {p : Prop} (h : p := by first | exact Nat.ne_of_lt (Nat.lt_of_lt_of_le (by have := World.block_lt_of_cell? _ _ hw620_0; first | rwa [add_block] at this | exact this) GW615.out) | (rw [add_block]; exact Nat.ne_of_lt (Nat.lt_of_lt_of_le (by have := World.block_lt_of_cell? _ _ hw620_0; first | rwa [add_block] at this | exact this) GW615.out)) | (show (Addr.add _ _).block ≠ _; rw [add_block]; exact Nat.ne_of_lt (Nat.lt_of_lt_of_le (by have := World.block_lt_of_cell? _ _ hw620_0; first | rwa [add_block] at this | exact this) GW615.out)) | (dsimp only; exact Nat.ne_of_lt (Nat.lt_of_lt_of_le (by have := World.block_lt_of_cell? _ _ hw620_0; first | rwa [add_block] at this | exact this) GW615.out))) : p := h
theorem z17_3_ {p : Prop} (h : p := by first | exact Nat.ne_of_lt (Nat.lt_of_lt_of_le (by have := World.block_lt_of_cell? _ _ hw620_1; first | rwa [add_block] at this | exact this) GW615.out) | (rw [add_block]; exact Nat.ne_of_lt (Nat.lt_of_lt_of_le (by have := World.block_lt_of_cell? _ _ hw620_1; first | rwa [add_block] at this | exact this) GW615.out)) | (show (Addr.add _ _).block ≠ _; rw [add_block]; exact Nat.ne_of_lt (Nat.lt_of_lt_of_le (by have := World.block_lt_of_cell? _ _ hw620_1; first | rwa [add_block] at this | exact this) GW615.out)) | (dsimp only; exact Nat.ne_of_lt (Nat.lt_of_lt_of_le (by have := World.block_lt_of_cell? _ _ hw620_1; first | rwa [add_block] at this | exact this) GW615.out))) : p := h
theorem z17_4_ {p : Prop} (h : p := by first | exact Nat.ne_of_lt (Nat.lt_of_lt_of_le (by have := World.block_lt_of_cell? _ _ hw621_0; first | rwa [add_block] at this | exact this) GW615.out) | (rw [add_block]; exact Nat.ne_of_lt (Nat.lt_of_lt_of_le (by have := World.block_lt_of_cell? _ _ hw621_0; first | rwa [add_block] at this | exact this) GW615.out)) | (show (Addr.add _ _).block ≠ _; rw [add_block]; exact Nat.ne_of_lt (Nat.lt_of_lt_of_le (by have := World.block_lt_of_cell? _ _ hw621_0; first | rwa [add_block] at this | exact this) GW615.out)) | (dsimp only; exact Nat.ne_of_lt (Nat.lt_of_lt_of_le (by have := World.block_lt_of_cell? _ _ hw621_0; first | rwa [add_block] at this | exact this) GW615.out))) : p := h
theorem z17_5_ {p : Prop} (h : p := by first | exact Nat.ne_of_lt (Nat.lt_of_lt_of_le (by have := World.block_lt_of_cell? _ _ hw621_1; first | rwa [add_block] at this | exact this) GW615.out) | (rw [add_block]; exact Nat.ne_of_lt (Nat.lt_of_lt_of_le (by have := World.block_lt_of_cell? _ _ hw621_1; first | rwa [add_block] at this | exact this) GW615.out)) | (show (Addr.add _ _).block ≠ _; rw [add_block]; exact Nat.ne_of_lt (Nat.lt_of_lt_of_le (by have := World.block_lt_of_cell? _ _ hw621_1; first | rwa [add_block] at this | exact this) GW615.out)) | (dsimp only; exact Nat.ne_of_lt (Nat.lt_of_lt_of_le (by have := World.block_lt_of_cell? _ _ hw621_1; first | rwa [add_block] at this | exact this) GW615.out))) : p := h
theorem z17_6_ {p : Prop} (h : p := by first | rfl | (simp; done) | (simp [*]; done)) : p := h
theorem z17_7_ {p : Prop} (h : p := by (with_reducible repeat (first | apply kN_ | apply kD_ | apply kA_)); refine blk_put (cs := #[.string t622, .int .i64 t623, .int .i64 0]) ?_ 2 _ rfl; (with_reducible repeat (first | apply kN_ | apply kD_ | apply kA_)); refine blk_put (cs := #[.string t622, .int .i64 0, .int .i64 0]) ?_ 1 _ rfl; (with_reducible repeat (first | apply kN_ | apply kD_ | apply kA_)); refine blk_put (cs := #[.string (⟨#[]⟩ : ByteArray), .int .i64 0, .int .i64 0]) ?_ 0 _ rfl; (with_reducible repeat (first | apply kN_ | apply kD_ | apply kA_)); exact BK626.out) : p := h
theorem z17_8_ {p : Prop} (h : p := by have := HJ5.out; have := HK2.out; omega) : p := h
theorem z17_9_ {p : Prop} (h : p := by exact kR_ BK626) : p := h
theorem z17_10_ {p : Prop} (h : p := by repeat (first | (with_reducible first | exact HI633.out | apply IsS60.alloc | apply IsS60.drewN | apply IsS60.drew | apply IsS60.set_1 | apply IsS60.set_2 | refine IsS60.far ?_ (Aside0.out (by assumption)) _) | exact HI633.out)) : p := h
theorem z17_11_ {p : Prop} (h : p := by repeat (first | (with_reducible first | exact HB.out | apply lA_ | apply lN_ | apply lD_ | refine below_set ?_ (IsS60.ge HI633.out) | refine below_set ?_ GE632.out) | exact HB.out)) : p := h
set_option maxHeartbeats 8000000
set_option maxRecDepth 100000
attribute [local go_sem] max2_int min2_int max_two min_two max_three min_three max_four min_four isSome_setCell   -- for this text's walks alone
set_option linter.unusedVariables false
set_option linter.unusedSimpArgs false

def FaX.T4 : Bool × List (List Nat × List Nat) := (true, [([], []), ([], []), ([], []), ([1, 2], [1, 2]), ([3], [3]), ([4], [4]), ([], []), ([], []), ([6, 7], [6, 7]), ([8], [8]), ([9], [9]), ([0, 5, 10], [0, 5, 10]), ([11, 0, 1, 2, 3, 4, 5, 6, 7, 8, 9, 10, 11], [11]), ([12, 0, 1, 2, 3, 4, 5, 6, 7, 8, 9, 10, 11, 12], [])])
def FaX.B4 : List Nat := [0, 0, 0, 6, 14, 30, 0, 0, 192, 448, 960, 2047, 4095, 8191]
theorem FaX.tab4 : rtab .any (opsOf Tryz.f24 4) = FaX.T4 := by kernel_rfl
theorem FaX.bits4 : waitsOk FaX.T4.2 FaX.B4 = true := by kernel_rfl
theorem FaX.calls (k : Nat) (A0 : Option Addr) (c0 : Nat) (l0 : List S74) (a1 a2 a3 r1 : ByteArray) (r2 r3 : Int) (r4 : Bool) (w : World) (hr0 : Kd.C k74 w A0 l0.length l0) (hc0 : l0.length ≤ c0) (h : FaX.f k l0 a1 a2 a3 = some (r1, r2, r3, r4)) :
 Calls Tryz.prog 24 #[.slice A0 l0.length c0, .string a1, .string a2, .string a3] w fun e w' => e = .returned (.tuple #[.agg #[.string r1, .int .i64 r2, .int .i64 r3], .bool r4]) ∧ Below w.heap.size w w' := by
 have hu40 := Tryz.underlying40
 have HR0 := aM_ hr0
 have HC0 := aM_ hc0
 clear hr0 hc0
 have HB := aM_ (Below.refl w.heap.size w)
 have H : ((Fau.f k l0 a2).bind fun t616 => ((Fau.f k l0 a3).bind fun t617 => ((Faj.f k l0).bind fun t618 => (if t618 = true then ((FaC.f k a1).bind fun t619 => (if t619 = true then (if t616 < 0 then (some ((⟨#[]⟩ : ByteArray), 0, 0, false)) else (if t617 < 0 then (some ((⟨#[]⟩ : ByteArray), 0, 0, false)) else (if t616 = t617 then (some ((⟨#[]⟩ : ByteArray), 0, 0, false)) else (if 0 ≤ t616 then (if t616 < (l0.length : Int) then (if 0 ≤ t617 then (if t617 < (l0.length : Int) then (some (a1, (rd_T74 l0 t616).f1, (rd_T74 l0 t617).f1, true)) else (none)) else (none)) else (none)) else (none))))) else (some ((⟨#[]⟩ : ByteArray), 0, 0, false)))) else (some ((⟨#[]⟩ : ByteArray), 0, 0, false)))))) = some (r1, r2, r3, r4) := h
 clear h
 replace H := ob_ H; obtain ⟨t616, A5, H⟩ := H; try dsimp only at H
 replace H := ob_ H; obtain ⟨t617, A6, H⟩ := H; try dsimp only at H
 replace H := ob_ H; obtain ⟨t618, A7, H⟩ := H; try dsimp only at H
 by_cases c8 : t618 = true
 rotate_left
 ·replace c8 := Bool.eq_false_iff.mpr c8
  subst c8
  replace H := in_ H (show ¬ (false = true) by decide)
  simp only [Option.some.injEq, Prod.mk.injEq] at H
  obtain ⟨rfl, rfl, rfl, rfl⟩ := H
  go_enter Tryz.func24, Tryz.ntmps24
  go_wp2_with (first | ((with_reducible refine gD_ 8 ?_); refine bx_ 8 #[.string (⟨#[]⟩ : ByteArray), .int .i64 0, .int .i64 0] 40 fun gb615 hg w43 hbox hb => ?_; have BK615 := aM_ (hbox); have GW615 := gW_ w hg; have GE615 := gW_ w hg; replace HB := bS_ hb; clear hb hbox hg) | ((with_reducible refine gC_ 46 ?_); refine gM_ (some 14) Tryz.func46 #[.slice A0 l0.length c0, .string a2] ?_; (with_reducible refine (Fau.calls k _ _ l0 a2 t616 _ ?_ ?_ A5.out).mono ?_); exact z17_0_; exact HC0.out; rintro e w44 ⟨rfl, hb⟩; refine ⟨_, rfl, ?_⟩; replace BK615 := kB_ BK615 hb; replace HB := bS_ hb; (try clear hb)) | ((with_reducible refine gC_ 46 ?_); refine gM_ (some 17) Tryz.func46 #[.slice A0 l0.length c0, .string a3] ?_; (with_reducible refine (Fau.calls k _ _ l0 a3 t617 _ ?_ ?_ A6.out).mono ?_); exact z17_0_; exact HC0.out; rintro e w45 ⟨rfl, hb⟩; refine ⟨_, rfl, ?_⟩; replace BK615 := kB_ BK615 hb; replace HB := bS_ hb; (try clear hb)) | ((with_reducible refine gC_ 47 ?_); refine gM_ (some 19) Tryz.func47 #[.slice A0 l0.length c0] ?_; (with_reducible refine (Faj.calls k _ _ l0 false _ ?_ ?_ A7.out).mono ?_); exact z17_0_; exact HC0.out; rintro e w46 ⟨rfl, hb⟩; refine ⟨_, rfl, ?_⟩; replace BK615 := kB_ BK615 hb; replace HB := bS_ hb; (try clear hb); have hz47 := cf3_ BK615.out))
  refine bodyPost_ret (results_ct rfl _ _ gb615 40 #[.string (⟨#[]⟩ : ByteArray), .int .i64 0, .int .i64 0] (0, 0) _ rfl z17_1_ Tryz.underlying40 rfl (by kernel_rfl)) rfl ?_
  exact ⟨rT_, hB_⟩
 subst c8
 replace H := ip_ H rfl
 replace H := ob_ H; obtain ⟨t619, A9, H⟩ := H; try dsimp only at H
 by_cases c10 : t619 = true
 rotate_left
 ·replace c10 := Bool.eq_false_iff.mpr c10
  subst c10
  replace H := in_ H (show ¬ (false = true) by decide)
  simp only [Option.some.injEq, Prod.mk.injEq] at H
  obtain ⟨rfl, rfl, rfl, rfl⟩ := H
  go_enter Tryz.func24, Tryz.ntmps24
  go_wp2_with (first | ((with_reducible refine gD_ 8 ?_); refine bx_ 8 #[.string (⟨#[]⟩ : ByteArray), .int .i64 0, .int .i64 0] 40 fun gb615 hg w38 hbox hb => ?_; have BK615 := aM_ (hbox); have GW615 := gW_ w hg; have GE615 := gW_ w hg; replace HB := bS_ hb; clear hb hbox hg) | ((with_reducible refine gC_ 46 ?_); refine gM_ (some 14) Tryz.func46 #[.slice A0 l0.length c0, .string a2] ?_; (with_reducible refine (Fau.calls k _ _ l0 a2 t616 _ ?_ ?_ A5.out).mono ?_); exact z17_0_; exact HC0.out; rintro e w39 ⟨rfl, hb⟩; refine ⟨_, rfl, ?_⟩; replace BK615 := kB_ BK615 hb; replace HB := bS_ hb; (try clear hb)) | ((with_reducible refine gC_ 46 ?_); refine gM_ (some 17) Tryz.func46 #[.slice A0 l0.length c0, .string a3] ?_; (with_reducible refine (Fau.calls k _ _ l0 a3 t617 _ ?_ ?_ A6.out).mono ?_); exact z17_0_; exact HC0.out; rintro e w40 ⟨rfl, hb⟩; refine ⟨_, rfl, ?_⟩; replace BK615 := kB_ BK615 hb; replace HB := bS_ hb; (try clear hb)) | ((with_reducible refine gC_ 47 ?_); refine gM_ (some 19) Tryz.func47 #[.slice A0 l0.length c0] ?_; (with_reducible refine (Faj.calls k _ _ l0 true _ ?_ ?_ A7.out).mono ?_); exact z17_0_; exact HC0.out; rintro e w41 ⟨rfl, hb⟩; refine ⟨_, rfl, ?_⟩; replace BK615 := kB_ BK615 hb; replace HB := bS_ hb; (try clear hb)) | (go_at_call 36; (with_reducible refine (FaC.calls k a1 false _ A9.out).mono ?_); rintro e w' ⟨rfl, ⟨nd, rfl⟩⟩; (try (rw [drewN_self w41]; generalize hq_ : World.drewN w41 _ = w41; have n0_ : Aside0 (w41.heap[gb615]? = some (.cells #[.string (⟨#[]⟩ : ByteArray), .int .i64 0, .int .i64 0] 40 (0, 0))) := ⟨(by rw [← hq_]; exact (kR_ BK615))⟩; have n1_ : Aside0 (Below w.heap.size w w41) := ⟨by rw [← hq_]; exact hB_⟩; clear BK615 HB hq_; have BK615 := n0_; have HB := n1_; clear n0_ n1_)); have hz42 := cf3_ BK615.out))
  refine bodyPost_ret (results_ct rfl _ _ gb615 40 #[.string (⟨#[]⟩ : ByteArray), .int .i64 0, .int .i64 0] (0, 0) _ rfl z17_1_ Tryz.underlying40 rfl (by kernel_rfl)) rfl ?_
  exact ⟨rT_, hB_⟩
 subst c10
 replace H := ip_ H rfl
 replace H := iT_ H; obtain ⟨c11b0, H⟩ | ⟨c11b0, H⟩ := H
 ·simp only [Option.some.injEq, Prod.mk.injEq] at H
  obtain ⟨rfl, rfl, rfl, rfl⟩ := H
  go_enter Tryz.func24, Tryz.ntmps24
  go_wp2_with (first | ((with_reducible refine gD_ 8 ?_); refine bx_ 8 #[.string (⟨#[]⟩ : ByteArray), .int .i64 0, .int .i64 0] 40 fun gb615 hg w12 hbox hb => ?_; have BK615 := aM_ (hbox); have GW615 := gW_ w hg; have GE615 := gW_ w hg; replace HB := bS_ hb; clear hb hbox hg) | ((with_reducible refine gC_ 46 ?_); refine gM_ (some 14) Tryz.func46 #[.slice A0 l0.length c0, .string a2] ?_; (with_reducible refine (Fau.calls k _ _ l0 a2 t616 _ ?_ ?_ A5.out).mono ?_); exact z17_0_; exact HC0.out; rintro e w13 ⟨rfl, hb⟩; refine ⟨_, rfl, ?_⟩; replace BK615 := kB_ BK615 hb; replace HB := bS_ hb; (try clear hb)) | ((with_reducible refine gC_ 46 ?_); refine gM_ (some 17) Tryz.func46 #[.slice A0 l0.length c0, .string a3] ?_; (with_reducible refine (Fau.calls k _ _ l0 a3 t617 _ ?_ ?_ A6.out).mono ?_); exact z17_0_; exact HC0.out; rintro e w14 ⟨rfl, hb⟩; refine ⟨_, rfl, ?_⟩; replace BK615 := kB_ BK615 hb; replace HB := bS_ hb; (try clear hb)) | ((with_reducible refine gC_ 47 ?_); refine gM_ (some 19) Tryz.func47 #[.slice A0 l0.length c0] ?_; (with_reducible refine (Faj.calls k _ _ l0 true _ ?_ ?_ A7.out).mono ?_); exact z17_0_; exact HC0.out; rintro e w15 ⟨rfl, hb⟩; refine ⟨_, rfl, ?_⟩; replace BK615 := kB_ BK615 hb; replace HB := bS_ hb; (try clear hb)) | (go_at_call 36; (with_reducible refine (FaC.calls k a1 true _ A9.out).mono ?_); rintro e w' ⟨rfl, ⟨nd, rfl⟩⟩; (try (rw [drewN_self w15]; generalize hq_ : World.drewN w15 _ = w15; have n0_ : Aside0 (w15.heap[gb615]? = some (.cells #[.string (⟨#[]⟩ : ByteArray), .int .i64 0, .int .i64 0] 40 (0, 0))) := ⟨(by rw [← hq_]; exact (kR_ BK615))⟩; have n1_ : Aside0 (Below w.heap.size w w15) := ⟨by rw [← hq_]; exact hB_⟩; clear BK615 HB hq_; have BK615 := n0_; have HB := n1_; clear n0_ n1_)); have hz16 := cf3_ BK615.out))
  refine bodyPost_ret (results_ct rfl _ _ gb615 40 #[.string (⟨#[]⟩ : ByteArray), .int .i64 0, .int .i64 0] (0, 0) _ rfl z17_1_ Tryz.underlying40 rfl (by kernel_rfl)) rfl ?_
  exact ⟨rT_, hB_⟩
 replace H := iT_ H; obtain ⟨c17b0, H⟩ | ⟨c17b0, H⟩ := H
 ·simp only [Option.some.injEq, Prod.mk.injEq] at H
  obtain ⟨rfl, rfl, rfl, rfl⟩ := H
  go_enter Tryz.func24, Tryz.ntmps24
  go_wp2_with (first | ((with_reducible refine gD_ 8 ?_); refine bx_ 8 #[.string (⟨#[]⟩ : ByteArray), .int .i64 0, .int .i64 0] 40 fun gb615 hg w18 hbox hb => ?_; have BK615 := aM_ (hbox); have GW615 := gW_ w hg; have GE615 := gW_ w hg; replace HB := bS_ hb; clear hb hbox hg) | ((with_reducible refine gC_ 46 ?_); refine gM_ (some 14) Tryz.func46 #[.slice A0 l0.length c0, .string a2] ?_; (with_reducible refine (Fau.calls k _ _ l0 a2 t616 _ ?_ ?_ A5.out).mono ?_); exact z17_0_; exact HC0.out; rintro e w19 ⟨rfl, hb⟩; refine ⟨_, rfl, ?_⟩; replace BK615 := kB_ BK615 hb; replace HB := bS_ hb; (try clear hb)) | ((with_reducible refine gC_ 46 ?_); refine gM_ (some 17) Tryz.func46 #[.slice A0 l0.length c0, .string a3] ?_; (with_reducible refine (Fau.calls k _ _ l0 a3 t617 _ ?_ ?_ A6.out).mono ?_); exact z17_0_; exact HC0.out; rintro e w20 ⟨rfl, hb⟩; refine ⟨_, rfl, ?_⟩; replace BK615 := kB_ BK615 hb; replace HB := bS_ hb; (try clear hb)) | ((with_reducible refine gC_ 47 ?_); refine gM_ (some 19) Tryz.func47 #[.slice A0 l0.length c0] ?_; (with_reducible refine (Faj.calls k _ _ l0 true _ ?_ ?_ A7.out).mono ?_); exact z17_0_; exact HC0.out; rintro e w21 ⟨rfl, hb⟩; refine ⟨_, rfl, ?_⟩; replace BK615 := kB_ BK615 hb; replace HB := bS_ hb; (try clear hb)) | (go_at_call 36; (with_reducible refine (FaC.calls k a1 true _ A9.out).mono ?_); rintro e w' ⟨rfl, ⟨nd, rfl⟩⟩; (try (rw [drewN_self w21]; generalize hq_ : World.drewN w21 _ = w21; have n0_ : Aside0 (w21.heap[gb615]? = some (.cells #[.string (⟨#[]⟩ : ByteArray), .int .i64 0, .int .i64 0] 40 (0, 0))) := ⟨(by rw [← hq_]; exact (kR_ BK615))⟩; have n1_ : Aside0 (Below w.heap.size w w21) := ⟨by rw [← hq_]; exact hB_⟩; clear BK615 HB hq_; have BK615 := n0_; have HB := n1_; clear n0_ n1_)); have hz22 := cf3_ BK615.out))
  refine bodyPost_ret (results_ct rfl _ _ gb615 40 #[.string (⟨#[]⟩ : ByteArray), .int .i64 0, .int .i64 0] (0, 0) _ rfl z17_1_ Tryz.underlying40 rfl (by kernel_rfl)) rfl ?_
  exact ⟨rT_, hB_⟩
 have HC23 := aM_ H
 clear H
 go_enter Tryz.func24, Tryz.ntmps24
 go_upto_if 38 with (first | ((with_reducible refine gD_ 8 ?_); refine bx_ 8 #[.string (⟨#[]⟩ : ByteArray), .int .i64 0, .int .i64 0] 40 fun gb615 hg w24 hbox hb => ?_; have BK615 := aM_ (hbox); have GW615 := gW_ w hg; have GE615 := gW_ w hg; replace HB := bS_ hb; clear hb hbox hg) | ((with_reducible refine gC_ 46 ?_); refine gM_ (some 14) Tryz.func46 #[.slice A0 l0.length c0, .string a2] ?_; (with_reducible refine (Fau.calls k _ _ l0 a2 t616 _ ?_ ?_ A5.out).mono ?_); exact z17_0_; exact HC0.out; rintro e w25 ⟨rfl, hb⟩; refine ⟨_, rfl, ?_⟩; replace BK615 := kB_ BK615 hb; replace HB := bS_ hb; (try clear hb)) | ((with_reducible refine gC_ 46 ?_); refine gM_ (some 17) Tryz.func46 #[.slice A0 l0.length c0, .string a3] ?_; (with_reducible refine (Fau.calls k _ _ l0 a3 t617 _ ?_ ?_ A6.out).mono ?_); exact z17_0_; exact HC0.out; rintro e w26 ⟨rfl, hb⟩; refine ⟨_, rfl, ?_⟩; replace BK615 := kB_ BK615 hb; replace HB := bS_ hb; (try clear hb)) | ((with_reducible refine gC_ 47 ?_); refine gM_ (some 19) Tryz.func47 #[.slice A0 l0.length c0] ?_; (with_reducible refine (Faj.calls k _ _ l0 true _ ?_ ?_ A7.out).mono ?_); exact z17_0_; exact HC0.out; rintro e w27 ⟨rfl, hb⟩; refine ⟨_, rfl, ?_⟩; replace BK615 := kB_ BK615 hb; replace HB := bS_ hb; (try clear hb)) | (go_at_call 36; (with_reducible refine (FaC.calls k a1 true _ A9.out).mono ?_); rintro e w' ⟨rfl, ⟨nd, rfl⟩⟩))
 (try simp only [Act.put, List.setIfInBounds_toArray, List.set_cons_zero, List.set_cons_succ])
 have H := HC23.out
 clear HC23
 by_cases c28 : t616 = t617
 ·rw [if_pos c28] at H
  have c28b0 : (t616 == t617) = true := beq_iff_eq.mpr c28
  have c28b1 : (t616 != t617) = false := bne_eq_false_iff_eq.mpr c28
  clear c28
  (first | rw [c28b0] | (simp only [i64_w, i32_w]; rw [c28b0]) | skip)
  simp only [Option.some.injEq, Prod.mk.injEq] at H
  obtain ⟨rfl, rfl, rfl, rfl⟩ := H
  have hz29 := cf3_ BK615.out
  go_wp2
  refine bodyPost_ret (results_ct rfl _ _ gb615 40 #[.string (⟨#[]⟩ : ByteArray), .int .i64 0, .int .i64 0] (0, 0) _ rfl z17_1_ Tryz.underlying40 rfl (by kernel_rfl)) rfl ?_
  exact ⟨rT_, hB_⟩
 rw [if_neg c28] at H
 have c28b0 : (t616 == t617) = false := beq_eq_false_iff_ne.mpr c28
 have c28b1 : (t616 != t617) = true := bne_iff_ne.mpr c28
 (first | rw [c28b0] | (simp only [i64_w, i32_w]; rw [c28b0]) | skip)
 replace H := ig_ H; obtain ⟨c30b0, H⟩ := H
 replace H := ig_ H; obtain ⟨c31b0, H⟩ := H
 replace H := ig_ H; obtain ⟨c32b0, H⟩ := H
 replace H := ig_ H; obtain ⟨c33b0, H⟩ := H
 simp only [Option.some.injEq, Prod.mk.injEq] at H
 obtain ⟨rfl, rfl, rfl, rfl⟩ := H
 try go_wp2
 replace BK615 := aM_ (kN_ BK615.out nd)
 replace HB := aM_ (lN_ HB.out nd)
 generalize w27.drewN nd = w27 at BK615 HB ⊢
 replace BK615 := aM_ (blk_drew BK615.out)
 replace HB := aM_ (below_drew1 HB.out)
 have p620 : 0 ≤ (t616 : Int) := ode_
 have q620 : t616 < (l0.length : Int) := ode_
 obtain ⟨ad620, e620, hx620_0, hx620_1⟩ := at_T74 HR0.out t616 p620 q620
 have hw620_1 := hx620_1
 have hw620_0 := hx620_0
 cases e620
 try replace hx620_0 := hc_ HB hx620_0
 try replace hx620_1 := hc_ HB hx620_1
 replace p620 := eq_true p620
 replace q620 := eq_true q620
 have p621 : 0 ≤ (t617 : Int) := ode_
 have q621 : t617 < (l0.length : Int) := ode_
 obtain ⟨ad621, e621, hx621_0, hx621_1⟩ := at_T74 HR0.out t617 p621 q621
 have hw621_1 := hx621_1
 have hw621_0 := hx621_0
 obtain rfl : ad620 = ad621 := (by injection e621)
 try replace hx621_0 := hc_ HB hx621_0
 try replace hx621_1 := hc_ HB hx621_1
 replace p621 := eq_true p621
 replace q621 := eq_true q621
 refine st_ 14 (fun w' => w'.cell? (ad620.add ((t616).toNat * 2)) = some (.string ((rd_T74 l0 t616).f0)) ∧ w'.cell? ⟨(ad620.add ((t616).toNat * 2)).block, (ad620.add ((t616).toNat * 2)).off + 1, none⟩ = some (.int .i64 ((rd_T74 l0 t616).f1)) ∧ w'.cell? (ad620.add ((t617).toNat * 2)) = some (.string ((rd_T74 l0 t617).f0)) ∧ w'.cell? ⟨(ad620.add ((t617).toNat * 2)).block, (ad620.add ((t617).toNat * 2)).off + 1, none⟩ = some (.int .i64 ((rd_T74 l0 t617).f1))) [] FaX.tab4 FaX.bits4 ⟨((HB.out.cell (World.block_lt_of_cell? w _ hw620_0)).trans hw620_0), ((HB.out.cell (World.block_lt_of_cell? w _ hw620_1)).trans hw620_1), ((HB.out.cell (World.block_lt_of_cell? w _ hw621_0)).trans hw621_0), ((HB.out.cell (World.block_lt_of_cell? w _ hw621_1)).trans hw621_1)⟩ fun hHeld HT_ HW_ => ?_
 generalize w27.drew = w34 at BK615 HB hx620_0 hx620_1 hx621_0 hx621_1 hHeld ⊢
 refine pu_ 0 40 ?_
 refine pu_ 1 41 ?_
 refine pu_ 2 42 ?_
 refine pu_ 3 43 ?_
 refine pu_ 4 44 ?_
 refine pu_ 6 46 ?_
 refine pu_ 7 47 ?_
 refine pu_ 8 48 ?_
 refine pu_ 9 49 ?_
 refine tk_ 5 45 ?_
 refine tk_ 10 50 ?_
 refine pu_ 11 51 ?_
 refine one_ (i := 12) (N := none) (bz_ 14 0x1fff) rfl rfl (one_of HT_.out (by kernel_rfl)) (by decide) (fun K hK => ?_)
 have hs35 : w34.cell? ⟨gb615, 0, none⟩ = some (.string (⟨#[]⟩ : ByteArray)) := (blk_cell BK615.out 0).trans rfl
 have hfs35 := blk_frozen BK615.out 0
 have hs36 : w34.cell? ⟨gb615, 1, none⟩ = some (.int .i64 0) := (blk_cell BK615.out 1).trans rfl
 have hfs36 := blk_frozen BK615.out 1
 have hs37 : w34.cell? ⟨gb615, 2, none⟩ = some (.int .i64 0) := (blk_cell BK615.out 2).trans rfl
 have hfs37 := blk_frozen BK615.out 2
 refine skip_ (w1 := ?_) (by rfl) rfl ?_ ?_
 rotate_left
 ·go_simp
  rfl
 refine hK.out _ _ ⟨((cell_far (p := ⟨gb615, _, none⟩) z17_2_ _).trans (((cell_far (p := ⟨gb615, _, none⟩) z17_2_ _).trans (((cell_far (p := ⟨gb615, _, none⟩) z17_2_ _).trans (hHeld.1)))))), ((cell_far (p := ⟨gb615, _, none⟩) z17_3_ _).trans (((cell_far (p := ⟨gb615, _, none⟩) z17_3_ _).trans (((cell_far (p := ⟨gb615, _, none⟩) z17_3_ _).trans (hHeld.2.1)))))), ((cell_far (p := ⟨gb615, _, none⟩) z17_4_ _).trans (((cell_far (p := ⟨gb615, _, none⟩) z17_4_ _).trans (((cell_far (p := ⟨gb615, _, none⟩) z17_4_ _).trans (hHeld.2.2.1)))))), ((cell_far (p := ⟨gb615, _, none⟩) z17_5_ _).trans (((cell_far (p := ⟨gb615, _, none⟩) z17_5_ _).trans (((cell_far (p := ⟨gb615, _, none⟩) z17_5_ _).trans (hHeld.2.2.2))))))⟩ (fun hHeld => ?_)
 clear hK K
 refine pu_ 13 9 ?_
 refine dn_ ?_
 try go_wp2
 refine bodyPost_ret (results_ct rfl _ _ gb615 40 #[.string a1, .int .i64 ((rd_T74 l0 t616).f1), .int .i64 ((rd_T74 l0 t617).f1)] (0, 0) _ rfl (by (with_reducible repeat (first | apply kN_ | apply kD_ | apply kA_)); refine blk_put (cs := #[.string a1, .int .i64 ((rd_T74 l0 t616).f1), .int .i64 0]) ?_ 2 _ rfl; (with_reducible repeat (first | apply kN_ | apply kD_ | apply kA_)); refine blk_put (cs := #[.string a1, .int .i64 0, .int .i64 0]) ?_ 1 _ rfl; (with_reducible repeat (first | apply kN_ | apply kD_ | apply kA_)); refine blk_put (cs := #[.string (⟨#[]⟩ : ByteArray), .int .i64 0, .int .i64 0]) ?_ 0 _ rfl; (with_reducible repeat (first | apply kN_ | apply kD_ | apply kA_)); exact BK615.out) Tryz.underlying40 rfl (by kernel_rfl)) rfl ?_
 exact ⟨rT_, hB_⟩

theorem Fal.calls (k : Nat) (A0 : Option Addr) (c0 : Nat) (l0 : List S74) (A1 : Option Addr) (c1 : Nat) (l1 : List S40) (a2 a3 : ByteArray) (r1 r2 : Int) (r3 : Bool) (w : World) (hr0 : Kd.C k74 w A0 l0.length l0) (hc0 : l0.length ≤ c0) (hr1 : Kd.C k40 w A1 l1.length l1) (hc1 : l1.length ≤ c1) (h : Fal.f k l0 l1 a2 a3 = some (r1, r2, r3)) :
 Calls Tryz.prog 12 #[.slice A0 l0.length c0, .slice A1 l1.length c1, .string a2, .string a3] w fun e w' => e = .returned (.tuple #[.int .i64 r1, .int .i64 r2, .bool r3]) ∧ Below w.heap.size w w' := by
 have hu40 := Tryz.underlying40
 have HR0 := aM_ hr0
 have HC0 := aM_ hc0
 clear hr0 hc0
 have HR1 := aM_ hr1
 have HC1 := aM_ hc1
 clear hr1 hc1
 have HB := aM_ (Below.refl w.heap.size w)
 have H : ((FaX.f k l0 (⟨#[65]⟩ : ByteArray) a2 a3).bind fun bt622 => (if bt622.2.2.2 = true then ((FaE.f k l0 l1).bind fun t627 => (if t627 = true then (Fal.j0 k l1 ((l1.length : Int) == 0) bt622.1 bt622.2.1 bt622.2.2.1) else (Fal.j0 k l1 true bt622.1 bt622.2.1 bt622.2.2.1))) else (Fal.j0 k l1 true bt622.1 bt622.2.1 bt622.2.2.1))) = some (r1, r2, r3) := h
 clear h
 replace H := ob_ H; obtain ⟨⟨t622, t623, t624, t625⟩, A5, H⟩ := H; try dsimp only at H
 have HC6 := aM_ H
 clear H
 go_enter Tryz.func12, Tryz.ntmps12
 go_upto_region 2 with (first | (go_at_call 24; (with_reducible refine (FaX.calls k _ _ l0 (⟨#[65]⟩ : ByteArray) a2 a3 t622 t623 t624 t625 _ ?_ ?_ A5.out).mono ?_); exact cC_ HR0; exact HC0.out; rintro e w7 ⟨rfl, hb⟩; replace HB := bS_ hb; (try clear hb)) | ((with_reducible refine gD_ 11 ?_); (try (refine gate_guard (by rfl) ?_; dsimp only)); refine bx_ 11 #[.string (⟨#[]⟩ : ByteArray), .int .i64 0, .int .i64 0] 40 fun gb626 hg w8 hbox hb => ?_; have BK626 := aM_ (hbox); have GW626 := gW_ w hg; have GE626 := gW_ w hg; replace HB := bS_ hb; clear hb hbox hg; have hz9 := cf3_ BK626.out) | (go_quiet (fail)))
 (try simp only [Act.put, List.setIfInBounds_toArray, List.set_cons_zero, List.set_cons_succ])
 go_cut [37] (fun v37 wc => ∃ (kq : Nat) (x37_5 : Bool), v37 = .bool x37_5 ∧ Aside0 (Fal.j0 kq l1 x37_5 t622 t623 t624 = some (r1, r2, r3)) ∧ Aside0 (kq ≤ k) ∧ Aside0 (wc.heap[gb626]? = some (.cells #[.string t622, .int .i64 t623, .int .i64 t624] 40 (0, 0))) ∧ Aside0 (Below w.heap.size w wc))
 case first =>
  have H := HC6.out
  clear HC6
  by_cases c10 : t625 = true
  rotate_left
  ·replace c10 := Bool.eq_false_iff.mpr c10
   subst c10
   replace H := in_ H (show ¬ (false = true) by decide)
   have H' := aM_ H
   clear H
   go_wp2
   repeat (go_quiet (fail); try go_wp2)
   go_meet
   case rel => exact ⟨_, (true), z17_6_, H', ⟨oR_⟩, ⟨z17_7_⟩, ⟨hB_⟩⟩
  subst c10
  replace H := ip_ H rfl
  replace H := ob_ H; obtain ⟨t627, A11, H⟩ := H; try dsimp only at H
  by_cases c12 : t627 = true
  ·subst c12
   replace H := ip_ H rfl
   have H' := aM_ H
   clear H
   go_wp2_with (first | (go_at_call 31; (with_reducible refine (FaE.calls k _ _ l0 _ _ l1 true _ ?_ ?_ ?_ ?_ A11.out).mono ?_); exact Kd.C_below HR0.out hB_; exact HC0.out; exact Kd.C_below HR1.out hB_; exact HC1.out; rintro e w13 ⟨rfl, hb⟩; replace BK626 := aM_ (blk_below (g := gb626) (o := .cells #[.string t622, .int .i64 t623, .int .i64 t624] 40 (0, 0)) z17_7_ hb); replace HB := bS_ hb; (try clear hb)) | (go_quiet (fail)))
   go_meet
   case rel => exact ⟨_, (((l1.length : Int) == 0)), z17_6_, H', ⟨oR_⟩, ⟨kP_⟩, ⟨hB_⟩⟩
  replace c12 := Bool.eq_false_iff.mpr c12
  subst c12
  replace H := in_ H (show ¬ (false = true) by decide)
  have H' := aM_ H
  clear H
  go_wp2_with (first | (go_at_call 31; (with_reducible refine (FaE.calls k _ _ l0 _ _ l1 false _ ?_ ?_ ?_ ?_ A11.out).mono ?_); exact Kd.C_below HR0.out hB_; exact HC0.out; exact Kd.C_below HR1.out hB_; exact HC1.out; rintro e w14 ⟨rfl, hb⟩; replace BK626 := aM_ (blk_below (g := gb626) (o := .cells #[.string t622, .int .i64 t623, .int .i64 t624] 40 (0, 0)) z17_7_ hb); replace HB := bS_ hb; (try clear hb)) | (go_quiet (fail)))
  go_meet
  case rel => exact ⟨_, (true), z17_6_, H', ⟨oR_⟩, ⟨kP_⟩, ⟨hB_⟩⟩
 case rest =>
  clear HC6
  (try clear c1);(try clear hcz9_0);(try clear hcz9_1);(try clear hcz9_2);(try clear hfz9_0);(try clear hfz9_1);(try clear hfz9_2)
  obtain ⟨kq, x37_5, rfl, HA, HJ5, BK626, HB⟩ := hcut
  cases kq with
  | zero => exact absurd HA.out (by simp [Fal.j0])
  | succ kj5 =>
   have H := HA.out
   clear HA
   simp only [Fal.j0] at H
   by_cases c15 : x37_5 = true
   ·subst c15
    replace H := ip_ H rfl
    simp only [Option.some.injEq, Prod.mk.injEq] at H
    obtain ⟨rfl, rfl, rfl⟩ := H
    go_wp2
    repeat (go_quiet (fail); try go_wp2)
    go_ret3
    exact ⟨rT_, hB_⟩
   replace c15 := Bool.eq_false_iff.mpr c15
   subst c15
   replace H := in_ H (show ¬ (false = true) by decide)
   have H' := aM_ H
   clear H
   go_wp2
   repeat (go_quiet (fail); try go_wp2)
   go_loopg [13, 14, 40] kj5 (fun kq v13 v14 v40 w' => ∃ (x13_2 x14_2 x40_2 : Int), v13 = .int .i64 x13_2 ∧ v14 = .int .i64 x14_2 ∧ v40 = .int .i64 x40_2 ∧ Aside0 (Fal.l0 kq x13_2 x14_2 l1 (l1.length : Int) x40_2 t622 t623 t624 = some (r1, r2, r3)) ∧ Aside0 (kq ≤ kj5) ∧ Aside0 (w'.heap[gb626]? = some (.cells #[.string t622, .int .i64 t623, .int .i64 t624] 40 (0, 0))) ∧ Aside0 (Below w.heap.size w w'))
   case atStart => exact ⟨((-1)), (0), (0), z17_6_, z17_6_, z17_6_, H', ⟨Nat.le_refl _⟩, ⟨kP_⟩, ⟨hB_⟩⟩
   case round =>
    clear H'
    (try clear c1);(try clear c15);(try clear hcz9_0);(try clear hcz9_1);(try clear hcz9_2);(try clear hfz9_0);(try clear hfz9_1);(try clear hfz9_2)
    obtain ⟨x13_2, x14_2, x40_2, rfl, rfl, rfl, HA, HK2, BK626, HB⟩ := hrel
    cases gk with
    | zero => exact absurd HA.out (by simp [Fal.l0])
    | succ k2 =>
     have H := HA.out
     clear HA
     simp only [Fal.l0] at H
     replace H := iF_ H; obtain ⟨c16b0, H⟩ | ⟨c16b0, H⟩ := H
     ·simp only [Option.some.injEq, Prod.mk.injEq] at H
      obtain ⟨rfl, rfl, rfl⟩ := H
      go_wp2
      repeat (go_quiet (fail); try go_wp2)
      go_ret3
      exact ⟨rT_, hB_⟩
     replace H := ig_ H; obtain ⟨c17b0, H⟩ := H
     replace H := ig_ H; obtain ⟨c18b0, H⟩ := H
     replace H := ob_ H; obtain ⟨t630, A19, H⟩ := H; try dsimp only at H
     replace H := ob_ H; obtain ⟨t631, A20, H⟩ := H; try dsimp only at H
     replace H := iT_ H; obtain ⟨c21b0, H⟩ | ⟨c21b0, H⟩ := H
     ·have H' := aM_ H
      clear H
      obtain ⟨⟨ad628, e628, hx628_0, hx628_1, hx628_2⟩, p628, q628⟩ := at2_ (at_T40 HR1.out x40_2); cases e628
      try replace hx628_0 := hc_ HB hx628_0; try replace hx628_1 := hc_ HB hx628_1; try replace hx628_2 := hc_ HB hx628_2
      go_wp2_with (first | ((with_reducible refine gD_ 16 ?_); (try (refine gate_guard (by rfl) ?_; dsimp only)); refine bx_ 16 #[.string (⟨#[]⟩ : ByteArray), .int .i64 0, .int .i64 0] 40 fun gb629 hg w22 hbox hb => ?_; have BK629 := aM_ (hbox); have GW629 := gW_ w hg; have GE629 := gW_ w hg; have NB626_629 := aM_ (nR_ BK626 hg); have NB629_626 := aM_ (mR_ BK626 hg); replace BK626 := kB_ BK626 hb; replace HB := bS_ hb; clear hb hbox hg; have hnb23 := NB629_626.out; have hnc23 := NB626_629.out; have hz24 := cf3_ BK629.out; have hz25 := cf3_ BK626.out) | (go_at_call 42; (with_reducible refine (Fbe.calls (wrap64 (((rd_T40 l1 x40_2).f1) - t623)) t630 _ A19.out).mono ?_); rintro e w' ⟨rfl, ⟨nd, rfl⟩⟩; (try exact dd_)) | (go_at_call 42; (with_reducible refine (Fbe.calls (wrap64 (((rd_T40 l1 x40_2).f2) - t624)) t631 _ A20.out).mono ?_); rintro e w' ⟨rfl, ⟨nd, rfl⟩⟩; (try exact dd_)) | (go_quiet (first | (go_at_call 42; (with_reducible refine (Fbe.calls (wrap64 (((rd_T40 l1 x40_2).f1) - t623)) t630 _ A19.out).mono ?_); rintro e w' ⟨rfl, ⟨nd, rfl⟩⟩; (try exact dd_)) | (go_at_call 42; (with_reducible refine (Fbe.calls (wrap64 (((rd_T40 l1 x40_2).f2) - t624)) t631 _ A20.out).mono ?_); rintro e w' ⟨rfl, ⟨nd, rfl⟩⟩; (try exact dd_)))))
      go_roundg k2
      case measure => have := HJ5.out; have := HK2.out; omega
      case rel => exact ⟨(x40_2), (wrap64 (t630 + t631)), (wrap64 (x40_2 + 1)), z17_6_, z17_6_, z17_6_, H', ⟨z17_8_⟩, ⟨z17_9_⟩, ⟨hB_⟩⟩
     have HC26 := aM_ H
     clear H
     obtain ⟨⟨ad628, e628, hx628_0, hx628_1, hx628_2⟩, p628, q628⟩ := at2_ (at_T40 HR1.out x40_2); cases e628
     try replace hx628_0 := hc_ HB hx628_0; try replace hx628_1 := hc_ HB hx628_1; try replace hx628_2 := hc_ HB hx628_2
     go_upto_if 64 with (first | ((with_reducible refine gD_ 16 ?_); (try (refine gate_guard (by rfl) ?_; dsimp only)); refine bx_ 16 #[.string (⟨#[]⟩ : ByteArray), .int .i64 0, .int .i64 0] 40 fun gb629 hg w27 hbox hb => ?_; have BK629 := aM_ (hbox); have GW629 := gW_ w hg; have GE629 := gW_ w hg; have NB626_629 := aM_ (nR_ BK626 hg); have NB629_626 := aM_ (mR_ BK626 hg); replace BK626 := kB_ BK626 hb; replace HB := bS_ hb; clear hb hbox hg; have hnb28 := NB629_626.out; have hnc28 := NB626_629.out; have hz29 := cf3_ BK629.out; have hz30 := cf3_ BK626.out) | (go_at_call 42; (with_reducible refine (Fbe.calls (wrap64 (((rd_T40 l1 x40_2).f1) - t623)) t630 _ A19.out).mono ?_); rintro e w' ⟨rfl, ⟨nd, rfl⟩⟩; (try exact dd_)) | (go_at_call 42; (with_reducible refine (Fbe.calls (wrap64 (((rd_T40 l1 x40_2).f2) - t624)) t631 _ A20.out).mono ?_); rintro e w' ⟨rfl, ⟨nd, rfl⟩⟩; (try exact dd_)) | (go_quiet (first | (go_at_call 42; (with_reducible refine (Fbe.calls (wrap64 (((rd_T40 l1 x40_2).f1) - t623)) t630 _ A19.out).mono ?_); rintro e w' ⟨rfl, ⟨nd, rfl⟩⟩; (try exact dd_)) | (go_at_call 42; (with_reducible refine (Fbe.calls (wrap64 (((rd_T40 l1 x40_2).f2) - t624)) t631 _ A20.out).mono ?_); rintro e w' ⟨rfl, ⟨nd, rfl⟩⟩; (try exact dd_)))))
     (try simp only [Act.put, List.setIfInBounds_toArray, List.set_cons_zero, List.set_cons_succ])
     have H := HC26.out
     clear HC26
     replace H := iF_ H; obtain ⟨c31b0, H⟩ | ⟨c31b0, H⟩ := H
     ·(first | rw [c31b0] | (simp only [i64_w, i32_w]; rw [c31b0]) | skip)
      have H' := aM_ H
      clear H
      go_wp2
      repeat (go_quiet (fail); try go_wp2)
      go_roundg k2
      case measure => have := HJ5.out; have := HK2.out; omega
      case rel => exact ⟨(x13_2), (x14_2), (wrap64 (x40_2 + 1)), z17_6_, z17_6_, z17_6_, H', ⟨z17_8_⟩, ⟨z17_9_⟩, ⟨hB_⟩⟩
     (first | rw [c31b0] | (simp only [i64_w, i32_w]; rw [c31b0]) | skip)
     have H' := aM_ H
     clear H
     go_wp2
     repeat (go_quiet (fail); try go_wp2)
     go_roundg k2
     case measure => have := HJ5.out; have := HK2.out; omega
     case rel => exact ⟨(x40_2), (wrap64 (t630 + t631)), (wrap64 (x40_2 + 1)), z17_6_, z17_6_, z17_6_, H', ⟨z17_8_⟩, ⟨z17_9_⟩, ⟨hB_⟩⟩

theorem Fa0.calls (k : Nat) (A0 : Option Addr) (c0 : Nat) (l0 : List Int) (r1 : List S74) (r2 : ByteArray) (r3 r4 : Int) (r5 : ByteArray) (w : World) (hr0 : Kd.C (Kd.int .u8) w A0 l0.length l0) (hc0 : l0.length ≤ c0) (h : Fa0.f k l0 = some (r1, r2, r3, r4, r5)) :
 Calls Tryz.prog 13 #[.slice A0 l0.length c0] w fun e w' => ∃ v0_ : Value, e = .returned (.tuple #[v0_, .agg #[.string r2, .int .i64 r3, .int .i64 r4], .string r5]) ∧ Kd.R k74 74 w' w.heap.size (fun _ => True) v0_ r1 ∧ Below w.heap.size w w' := by
 have hu40 := Tryz.underlying40
 have hu60 := Tryz.underlying60
 have HR0 := aM_ hr0
 have HC0 := aM_ hc0
 clear hr0 hc0
 have HB := aM_ (Below.refl w.heap.size w)
 have H : ((Fah.f k l0 0 0).bind fun bt634 => ((Fag.f k l0 bt634.2.1 bt634.2.2 bt634.1).bind fun bt639 => ((Fap.f k l0 bt639.2.2.2.1 bt639.2.2.2.2 bt634.1).bind fun bt644 => (some (bt634.1, bt639.1, bt639.2.1, bt639.2.2.1, bt644.1))))) = some (r1, r2, r3, r4, r5) := h
 clear h
 replace H := ob_ H; obtain ⟨⟨t634, t637, t638⟩, A2, H⟩ := H; try dsimp only at H
 replace H := ob_ H; obtain ⟨⟨t639, t640, t641, t642, t643⟩, A3, H⟩ := H; try dsimp only at H
 replace H := ob_ H; obtain ⟨⟨t644, t645, t646⟩, A4, H⟩ := H; try dsimp only at H
 simp only [Option.some.injEq, Prod.mk.injEq] at H
 obtain ⟨rfl, rfl, rfl, rfl, rfl⟩ := H
 go_enter Tryz.func13, Tryz.ntmps13
 go_wp2_with (first | ((with_reducible refine gD_ 3 ?_); refine bx_ 3 #[.string (⟨#[]⟩ : ByteArray), .int .i64 0, .int .i64 0] 40 fun gb632 hg w5 hbox hb => ?_; have BK632 := aM_ (hbox); have GW632 := gW_ w hg; have GE632 := gW_ w hg; replace HB := bS_ hb; clear hb hbox hg) | ((with_reducible refine gD_ 9 ?_); refine bx_ 9 #[.slice A0 l0.length c0, .int .i64 0, .int .u64 0] 60 fun gb633 hg w6 hbox hb => ?_; have NB632_633 := aM_ (nR_ BK632 hg); have NB633_632 := aM_ (mR_ BK632 hg); have HI633 := aM_ ((show IsS60 w w6 gb633 l0 0 0 from ⟨A0, c0, hbox, (by rw [hg]; exact (below_size hB_) : w.heap.size ≤ gb633), HR0.out⟩)); replace BK632 := kB_ BK632 hb; replace HB := bS_ hb; clear hb hbox hg) | ((with_reducible refine gC_ 26 ?_); refine gM_ (some 11) Tryz.func26 #[.pointer (some ⟨gb633, 0, none⟩)] ?_; (with_reducible refine (Fah.calls k gb633 l0 0 0 t634 t637 t638 w _ ?_ ?_ A2.out).mono ?_); exact z17_10_; exact z17_11_; rintro e w7 ⟨v635, rfl, ho0, hi, hb, hk⟩; refine ⟨_, rfl, ?_⟩; have HO636 := aM_ (Kd.R_lower ho0 (below_size z17_11_)); replace BK632 := aM_ (KeepBut.blk hk (g' := gb632) (o := .cells #[.string (⟨#[]⟩ : ByteArray), .int .i64 0, .int .i64 0] 40 (0, 0)) (kR_ BK632) NB632_633.out (by simp)); replace HB := aM_ (hb); replace HI633 := aM_ (hi); (try clear hb); (try clear hk); (try clear hi); (try clear ho0); obtain ⟨Ao8, co8, eo8⟩ := rS_ HO636; subst eo8) | ((with_reducible refine gC_ 43 ?_); refine gM_ (some 15) Tryz.func43 #[.pointer (some ⟨gb633, 0, none⟩), .slice Ao8 t634.length co8] ?_; (with_reducible refine (Fag.calls k gb633 l0 t637 t638 _ _ t634 t639 t640 t641 t642 t643 w _ ?_ ?_ ?_ ?_ A3.out).mono ?_); exact z17_10_; exact z17_11_; exact Kd.C_foot_own (IsS60.apart (show IsS60 w _ gb633 l0 t637 t638 from by repeat (first | (with_reducible first | exact HI633.out | apply IsS60.alloc | apply IsS60.drewN | apply IsS60.drew | apply IsS60.set_1 | apply IsS60.set_2 | refine IsS60.far ?_ (Aside0.out (by assumption)) _) | exact HI633.out)) (rR_ HO636) (by decide)) (fun _ h_ => h_.2); exact (Kd.R_reads' HO636.out).2.1; rintro e w9 ⟨rfl, hi, hb, hk⟩; refine ⟨_, rfl, ?_⟩; replace BK632 := aM_ (KeepBut.blk hk (g' := gb632) (o := .cells #[.string (⟨#[]⟩ : ByteArray), .int .i64 0, .int .i64 0] 40 (0, 0)) (kR_ BK632) NB632_633.out (by simp)); replace HO636 := aM_ (Kd.R_mono (Kd.R_keep (IsS60.apart (show IsS60 w _ gb633 l0 t637 t638 from by repeat (first | (with_reducible first | exact HI633.out | apply IsS60.alloc | apply IsS60.drewN | apply IsS60.drew | apply IsS60.set_1 | apply IsS60.set_2 | refine IsS60.far ?_ (Aside0.out (by assumption)) _) | exact HI633.out)) (rR_ HO636) (by decide)) hk (fun _ h => h.2)) (fun _ h => h.1)); replace HB := aM_ (hb); replace HI633 := aM_ (hi); (try clear hb); (try clear hk); (try clear hi)) | ((with_reducible refine gC_ 37 ?_); refine gM_ (some 18) Tryz.func37 #[.pointer (some ⟨gb633, 0, none⟩), .slice Ao8 t634.length co8] ?_; (with_reducible refine (Fap.calls k gb633 l0 t642 t643 _ _ t634 t644 t645 t646 w _ ?_ ?_ ?_ ?_ A4.out).mono ?_); exact z17_10_; exact z17_11_; exact Kd.C_foot_own (IsS60.apart (show IsS60 w _ gb633 l0 t642 t643 from by repeat (first | (with_reducible first | exact HI633.out | apply IsS60.alloc | apply IsS60.drewN | apply IsS60.drew | apply IsS60.set_1 | apply IsS60.set_2 | refine IsS60.far ?_ (Aside0.out (by assumption)) _) | exact HI633.out)) (rR_ HO636) (by decide)) (fun _ h_ => h_.2); exact (Kd.R_reads' HO636.out).2.1; rintro e w10 ⟨rfl, hi, hb, hk⟩; refine ⟨_, rfl, ?_⟩; replace BK632 := aM_ (KeepBut.blk hk (g' := gb632) (o := .cells #[.string (⟨#[]⟩ : ByteArray), .int .i64 0, .int .i64 0] 40 (0, 0)) (kR_ BK632) NB632_633.out (by simp)); replace HO636 := aM_ (Kd.R_mono (Kd.R_keep (IsS60.apart (show IsS60 w _ gb633 l0 t642 t643 from by repeat (first | (with_reducible first | exact HI633.out | apply IsS60.alloc | apply IsS60.drewN | apply IsS60.drew | apply IsS60.set_1 | apply IsS60.set_2 | refine IsS60.far ?_ (Aside0.out (by assumption)) _) | exact HI633.out)) (rR_ HO636) (by decide)) hk (fun _ h => h.2)) (fun _ h => h.1)); replace HB := aM_ (hb); replace HI633 := aM_ (hi); (try clear hb); (try clear hk); (try clear hi); have hnb11 := NB632_633.out; have hnc11 := NB633_632.out; have hz12 := cf3_ BK632.out))
 refine bodyPost_ret (results_list (rs := [.tmp 2, .cell 3 40, .tmp 4]) rfl (by simp) (.tmp (.cell gb632 40 #[.string t639, .int .i64 t640, .int .i64 t641] (0, 0) _ rfl (by (with_reducible repeat (first | apply kN_ | apply kD_ | apply kA_)); refine blk_put (cs := #[.string t639, .int .i64 t640, .int .i64 0]) ?_ 2 _ rfl; (with_reducible repeat (first | apply kN_ | apply kD_ | apply kA_)); refine blk_put (cs := #[.string t639, .int .i64 0, .int .i64 0]) ?_ 1 _ rfl; (with_reducible repeat (first | apply kN_ | apply kD_ | apply kA_)); refine blk_put (cs := #[.string (⟨#[]⟩ : ByteArray), .int .i64 0, .int .i64 0]) ?_ 0 _ rfl; (with_reducible repeat (first | apply kN_ | apply kD_ | apply kA_)); exact BK632.out) Tryz.underlying40 rfl (by kernel_rfl) (.tmp .nil)))) rfl ?_
 exact ⟨_, rT_, by (with_reducible repeat (first | apply rA_ | apply rN_ | apply rD_)); exact Kd.R_mono (Kd.R_far (p := ⟨gb632, 2, none⟩) (Kd.R_far (p := ⟨gb632, 1, none⟩) (Kd.R_far (p := ⟨gb632, 0, none⟩) (Kd.R_types HO636.out BK632.out (by decide)) (fun _ hk => hk.2) (.string t639)) (fun _ hk => hk.2) (.int .i64 t640)) (fun _ hk => hk.2) (.int .i64 t641)) (fun _ hk => trivial), z17_11_⟩

theorem Fbm.calls (a0 a1 r : Int) (w : World) (h : Fbm.f a0 a1 = some r) :
 Calls Tryz.prog 45 #[.int .i64 a0, .int .i64 a1] w fun e w' => e = .returned (.int .i64 r) ∧ Below w.heap.size w w' := by
 have HB := aM_ (Below.refl w.heap.size w)
 have H : (some (mn (mx (wrap64 (a0 - a1)) (-90)) 90)) = some r := h
 clear h
 obtain ⟨ji3, hji3⟩ : ∃ j_ : Int, (mx (wrap64 (a0 - a1)) (-90)) = j_ := ⟨_, rfl⟩
 replace H : (some (mn (ji3) 90)) = some r := by first | (rw [hji3] at H; exact H) | (simp only [hji3] at H ⊢; exact H)
 have hji3_ : (if (wrap64 (a0 - a1)) < (-90) then (-90) else (wrap64 (a0 - a1))) = ji3 := hji3
 obtain ⟨ji4, hji4⟩ : ∃ j_ : Int, (mn (ji3) 90) = j_ := ⟨_, rfl⟩
 replace H : (some ji4) = some r := by first | (rw [hji4] at H; exact H) | (simp only [hji4] at H ⊢; exact H)
 have hji4_ : (if 90 < (ji3) then 90 else (ji3)) = ji4 := hji4
 obtain rfl := Option.some.inj H
 go_enter Tryz.func45, Tryz.ntmps45
 go_wp2
 go_ret
 exact ⟨by first | rfl | (simp [errW_none, errW_some] <;> rfl) | (simp only [← hji3, ← hji4]; first | rfl | (simp [errW_none, errW_some] <;> rfl)) | (simp [*, errW_none, errW_some] <;> rfl), hB_⟩

end Go.Proofs.YtbfkpgmdbafmhaaGreat.PFnVerbRuns
