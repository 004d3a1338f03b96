/- Printed for this claim: functions of the program as Lean functions, and that the calls answer so. -/
import Derived.Test.YtbfkpgmdbafmhaaGreatPFnVerbRunsx0
import Derived.Test.YtbfkpgmdbafmhaaGreatPFnVerbRunsx2
import Derived.Test.YtbfkpgmdbafmhaaGreatPFnVerbRunsx3
import Derived.Test.YtbfkpgmdbafmhaaGreatPFnVerbRunsx8
import Derived.Test.YtbfkpgmdbafmhaaGreatPFnVerbRunsx12
import Derived.Test.YtbfkpgmdbafmhaaGreatPFnVerbRunsx18
import Derived.Test.YtbfkpgmdbafmhaaGreatPFnVerbRunsxD0
import Derived.Test.YtbfkpgmdbafmhaaGreatPFnVerbRunsxD1
namespace Go.Proofs.YtbfkpgmdbafmhaaGreat.PFnVerbRuns
open Go.RowKit Go.Proofs.YtbfkpgmdbafmhaaGreatW.PrintWords Go.Proofs.YtbfkpgmdbafmhaaGreatW.PrintLast Go.Proofs.YtbfkpgmdbafmhaaGreatW.PrintMore
theorem z19_0_ {p : Prop} (h : p := by repeat (first | exact (Kd.C_below HR0.out HB.out) | (with_reducible first | apply cA_ | apply cN_ | apply cD_))) : p := h
theorem z19_1_ {p : Prop} (h : p := by first | rfl | (simp; done) | (simp [*]; done)) : p := h
theorem z19_2_ {p : Prop} (h : p := by (with_reducible repeat (first | apply kN_ | apply kD_ | apply kA_)); refine blk_put (cs := #[.string (⟨#[]⟩ : ByteArray), .int .i64 0, .int .i64 0]) ?_ 2 _ rfl; (with_reducible repeat (first | apply kN_ | apply kD_ | apply kA_)); refine blk_put (cs := #[.string (⟨#[]⟩ : ByteArray), .int .i64 0, .int .i64 0]) ?_ 1 _ rfl; (with_reducible repeat (first | apply kN_ | apply kD_ | apply kA_)); refine blk_put (cs := #[.string (⟨#[]⟩ : ByteArray), .int .i64 0, .int .i64 0]) ?_ 0 _ rfl; (with_reducible repeat (first | apply kN_ | apply kD_ | apply kA_)); exact BK663.out) : p := h
theorem z19_3_ {p : Prop} (h : p := by simp only [putAll, Act.put, List.setIfInBounds_toArray, List.set_cons_zero, List.set_cons_succ]) : p := h
theorem z19_4_ {p : Prop} (h : p := by first | exact Nat.ne_of_lt (Nat.lt_of_lt_of_le (by have := World.block_lt_of_cell? _ _ hw667_0; first | rwa [add_block] at this | exact this) GW671.out) | (rw [add_block]; exact Nat.ne_of_lt (Nat.lt_of_lt_of_le (by have := World.block_lt_of_cell? _ _ hw667_0; first | rwa [add_block] at this | exact this) GW671.out)) | (show (Addr.add _ _).block ≠ _; rw [add_block]; exact Nat.ne_of_lt (Nat.lt_of_lt_of_le (by have := World.block_lt_of_cell? _ _ hw667_0; first | rwa [add_block] at this | exact this) GW671.out)) | (dsimp only; exact Nat.ne_of_lt (Nat.lt_of_lt_of_le (by have := World.block_lt_of_cell? _ _ hw667_0; first | rwa [add_block] at this | exact this) GW671.out))) : p := h
theorem z19_5_ {p : Prop} (h : p := by first | exact Nat.ne_of_lt (Nat.lt_of_lt_of_le (by have := World.block_lt_of_cell? _ _ hw667_1; first | rwa [add_block] at this | exact this) GW671.out) | (rw [add_block]; exact Nat.ne_of_lt (Nat.lt_of_lt_of_le (by have := World.block_lt_of_cell? _ _ hw667_1; first | rwa [add_block] at this | exact this) GW671.out)) | (show (Addr.add _ _).block ≠ _; rw [add_block]; exact Nat.ne_of_lt (Nat.lt_of_lt_of_le (by have := World.block_lt_of_cell? _ _ hw667_1; first | rwa [add_block] at this | exact this) GW671.out)) | (dsimp only; exact Nat.ne_of_lt (Nat.lt_of_lt_of_le (by have := World.block_lt_of_cell? _ _ hw667_1; first | rwa [add_block] at this | exact this) GW671.out))) : p := h
theorem z19_6_ {p : Prop} (h : p := by first | exact Nat.ne_of_lt (Nat.lt_of_lt_of_le (by have := World.block_lt_of_cell? _ _ hw669_0; first | rwa [add_block] at this | exact this) GW671.out) | (rw [add_block]; exact Nat.ne_of_lt (Nat.lt_of_lt_of_le (by have := World.block_lt_of_cell? _ _ hw669_0; first | rwa [add_block] at this | exact this) GW671.out)) | (show (Addr.add _ _).block ≠ _; rw [add_block]; exact Nat.ne_of_lt (Nat.lt_of_lt_of_le (by have := World.block_lt_of_cell? _ _ hw669_0; first | rwa [add_block] at this | exact this) GW671.out)) | (dsimp only; exact Nat.ne_of_lt (Nat.lt_of_lt_of_le (by have := World.block_lt_of_cell? _ _ hw669_0; first | rwa [add_block] at this | exact this) GW671.out))) : p := h
theorem z19_7_ {p : Prop} (h : p := by first | exact Nat.ne_of_lt (Nat.lt_of_lt_of_le (by have := World.block_lt_of_cell? _ _ hw669_1; first | rwa [add_block] at this | exact this) GW671.out) | (rw [add_block]; exact Nat.ne_of_lt (Nat.lt_of_lt_of_le (by have := World.block_lt_of_cell? _ _ hw669_1; first | rwa [add_block] at this | exact this) GW671.out)) | (show (Addr.add _ _).block ≠ _; rw [add_block]; exact Nat.ne_of_lt (Nat.lt_of_lt_of_le (by have := World.block_lt_of_cell? _ _ hw669_1; first | rwa [add_block] at this | exact this) GW671.out)) | (dsimp only; exact Nat.ne_of_lt (Nat.lt_of_lt_of_le (by have := World.block_lt_of_cell? _ _ hw669_1; first | rwa [add_block] at this | exact this) GW671.out))) : p := h
set_option maxHeartbeats 8000000
set_option maxRecDepth 100000
attribute [local go_sem] max2_int min2_int max_two min_two max_three min_three max_four min_four isSome_setCell   -- for this text's walks alone
set_option linter.unusedVariables false
set_option linter.unusedSimpArgs false

def Faw.T4 : Bool × List (List Nat × List Nat) := (true, [([], []), ([0], [0]), ([], []), ([2], [2]), ([], []), ([], []), ([4, 5], [4, 5]), ([6], [6]), ([7], [7]), ([3, 8], [3, 8]), ([], []), ([10], [10]), ([], []), ([], []), ([12, 13], [12, 13]), ([14], [14]), ([15], [15]), ([11, 16, 9], [11, 16]), ([1, 9, 17], [1, 9, 17]), ([], []), ([19, 18, 17, 0, 1, 2, 3, 4, 5, 6, 7, 8, 9, 10, 11, 12, 13, 14, 15, 16, 17, 18, 19], [18, 19])])
def Faw.B4 : List Nat := [0, 1, 0, 4, 0, 0, 48, 112, 240, 508, 0, 1024, 0, 0, 12288, 28672, 61440, 131068, 262143, 0, 1048575]
theorem Faw.tab4 : rtab .any (opsOf Tryz.f15 4) = Faw.T4 := by kernel_rfl
theorem Faw.bits4 : waitsOk Faw.T4.2 Faw.B4 = true := by kernel_rfl
theorem Faw.calls (k : Nat) (A0 : Option Addr) (c0 : Nat) (l0 : List S74) (a1_0 : ByteArray) (a1_1 a1_2 : Int) (a2 r1 : ByteArray) (r2 r3 : Int) (r4 : Bool) (w : World) (hr0 : Kd.C k74 w A0 l0.length l0) (hc0 : l0.length ≤ c0) (h : Faw.f k l0 a1_0 a1_1 a1_2 a2 = some (r1, r2, r3, r4)) :
 Calls Tryz.prog 15 #[.slice A0 l0.length c0, .agg #[.string a1_0, .int .i64 a1_1, .int .i64 a1_2], .string a2] w fun e w' => e = .returned (.tuple #[.agg #[.string r1, .int .i64 r2, .int .i64 r3], .bool r4]) ∧ Below w.heap.size w w' := by
 have hu40 := Tryz.underlying40
 have HR0 := aM_ hr0
 have HC0 := aM_ hc0
 clear hr0 hc0
 have HB := aM_ (Below.refl w.heap.size w)
 have H : ((Fau.f k l0 a2).bind fun t664 => ((Faj.f k l0).bind fun t665 => (if t665 = true then ((FaQ.f k a1_0 a1_1 a1_2).bind fun t666 => (if t666 = true then (Faw.j0 k l0 t664 (decide (t664 < 0)) a1_0 a1_1 a1_2) else (Faw.j0 k l0 t664 true a1_0 a1_1 a1_2))) else (Faw.j0 k l0 t664 true a1_0 a1_1 a1_2)))) = some (r1, r2, r3, r4) := h
 clear h
 replace H := ob_ H; obtain ⟨t664, A4, H⟩ := H; try dsimp only at H
 have HC5 := aM_ H
 clear H
 go_enter Tryz.func15, Tryz.ntmps15
 go_upto_region 2 with (first | ((with_reducible refine gD_ 4 ?_); refine bx_ 4 #[.string a1_0, .int .i64 a1_1, .int .i64 a1_2] 40 fun gb662 hg w6 hbox hb => ?_; have BK662 := aM_ (hbox); have GW662 := gW_ w hg; have GE662 := gW_ w hg; replace HB := bS_ hb; clear hb hbox hg) | ((with_reducible refine gD_ 6 ?_); refine bx_ 6 #[.string (⟨#[]⟩ : ByteArray), .int .i64 0, .int .i64 0] 40 fun gb663 hg w7 hbox hb => ?_; have BK663 := aM_ (hbox); have GW663 := gW_ w hg; have GE663 := gW_ w hg; have NB662_663 := aM_ (nR_ BK662 hg); have NB663_662 := aM_ (mR_ BK662 hg); replace BK662 := kB_ BK662 hb; replace HB := bS_ hb; clear hb hbox hg) | ((with_reducible refine gC_ 46 ?_); refine gM_ (some 12) Tryz.func46 #[.slice A0 l0.length c0, .string a2] ?_; (with_reducible refine (Fau.calls k _ _ l0 a2 t664 _ ?_ ?_ A4.out).mono ?_); exact z19_0_; exact HC0.out; rintro e w8 ⟨rfl, hb⟩; refine ⟨_, rfl, ?_⟩; replace BK662 := kB_ BK662 hb; replace BK663 := kB_ BK663 hb; replace HB := bS_ hb; (try clear hb)))
 (try simp only [Act.put, List.setIfInBounds_toArray, List.set_cons_zero, List.set_cons_succ])
 go_cut [24] (fun v24 wc => ∃ (kq : Nat) (x24_4 : Bool), v24 = .bool x24_4 ∧ Aside0 (Faw.j0 kq l0 t664 x24_4 a1_0 a1_1 a1_2 = some (r1, r2, r3, r4)) ∧ Aside0 (kq ≤ k) ∧ Aside0 (wc.heap[gb662]? = some (.cells #[.string a1_0, .int .i64 a1_1, .int .i64 a1_2] 40 (0, 0))) ∧ Aside0 (wc.heap[gb663]? = some (.cells #[.string (⟨#[]⟩ : ByteArray), .int .i64 0, .int .i64 0] 40 (0, 0))) ∧ Aside0 (Below w.heap.size w wc))
 case first =>
  have H := HC5.out
  clear HC5
  replace H := ob_ H; obtain ⟨t665, A9, H⟩ := H; try dsimp only at H
  by_cases c10 : t665 = true
  rotate_left
  ·replace c10 := Bool.eq_false_iff.mpr c10
   subst c10
   replace H := in_ H (show ¬ (false = true) by decide)
   have H' := aM_ H
   clear H
   go_wp2_with (first | ((with_reducible refine gC_ 47 ?_); refine gM_ (some 14) Tryz.func47 #[.slice A0 l0.length c0] ?_; (with_reducible refine (Faj.calls k _ _ l0 false _ ?_ ?_ A9.out).mono ?_); exact z19_0_; exact HC0.out; rintro e w21 ⟨rfl, hb⟩; refine ⟨_, rfl, ?_⟩; replace BK662 := kB_ BK662 hb; replace BK663 := kB_ BK663 hb; replace HB := bS_ hb; (try clear hb)))
   go_meet
   case rel => exact ⟨_, (true), z19_1_, H', ⟨oR_⟩, ⟨kP_⟩, ⟨kP_⟩, ⟨hB_⟩⟩
  subst c10
  replace H := ip_ H rfl
  replace H := ob_ H; obtain ⟨t666, A11, H⟩ := H; try dsimp only at H
  by_cases c12 : t666 = true
  ·subst c12
   replace H := ip_ H rfl
   have H' := aM_ H
   clear H
   go_wp2_with (first | ((with_reducible refine gC_ 47 ?_); refine gM_ (some 14) Tryz.func47 #[.slice A0 l0.length c0] ?_; (with_reducible refine (Faj.calls k _ _ l0 true _ ?_ ?_ A9.out).mono ?_); exact z19_0_; exact HC0.out; rintro e w13 ⟨rfl, hb⟩; refine ⟨_, rfl, ?_⟩; replace BK662 := kB_ BK662 hb; replace BK663 := kB_ BK663 hb; replace HB := bS_ hb; (try clear hb); have hnb14 := NB662_663.out; have hnc14 := NB663_662.out; have hz15 := cf3_ BK662.out) | (go_at_call 48; (with_reducible refine (FaQ.calls k a1_0 a1_1 a1_2 true _ A11.out).mono ?_); rintro e w16 ⟨rfl, hb⟩; replace BK662 := kB_ BK662 hb; replace BK663 := kB_ BK663 hb; replace HB := bS_ hb; (try clear hb)))
   go_meet
   case rel => exact ⟨_, (decide (t664 < 0)), z19_1_, H', ⟨oR_⟩, ⟨kP_⟩, ⟨kP_⟩, ⟨hB_⟩⟩
  replace c12 := Bool.eq_false_iff.mpr c12
  subst c12
  replace H := in_ H (show ¬ (false = true) by decide)
  have H' := aM_ H
  clear H
  go_wp2_with (first | ((with_reducible refine gC_ 47 ?_); refine gM_ (some 14) Tryz.func47 #[.slice A0 l0.length c0] ?_; (with_reducible refine (Faj.calls k _ _ l0 true _ ?_ ?_ A9.out).mono ?_); exact z19_0_; exact HC0.out; rintro e w17 ⟨rfl, hb⟩; refine ⟨_, rfl, ?_⟩; replace BK662 := kB_ BK662 hb; replace BK663 := kB_ BK663 hb; replace HB := bS_ hb; (try clear hb); have hnb18 := NB662_663.out; have hnc18 := NB663_662.out; have hz19 := cf3_ BK662.out) | (go_at_call 48; (with_reducible refine (FaQ.calls k a1_0 a1_1 a1_2 false _ A11.out).mono ?_); rintro e w20 ⟨rfl, hb⟩; replace BK662 := kB_ BK662 hb; replace BK663 := kB_ BK663 hb; replace HB := bS_ hb; (try clear hb)))
  go_meet
  case rel => exact ⟨_, (true), z19_1_, H', ⟨oR_⟩, ⟨kP_⟩, ⟨kP_⟩, ⟨hB_⟩⟩
 case rest =>
  clear HC5
  obtain ⟨kq, x24_4, rfl, HA, HJ4, BK662, BK663, HB⟩ := hcut
  cases kq with
  | zero => exact absurd HA.out (by simp [Faw.j0])
  | succ kj4 =>
   have H := HA.out
   clear HA
   simp only [Faw.j0] at H
   by_cases c22 : x24_4 = true
   ·subst c22
    replace H := ip_ H rfl
    simp only [Option.some.injEq, Prod.mk.injEq] at H
    obtain ⟨rfl, rfl, rfl, rfl⟩ := H
    clear BK662
    have hz23 := cf3_ BK663.out
    go_wp2
    refine bodyPost_ret (results_ct rfl _ _ gb663 40 #[.string (⟨#[]⟩ : ByteArray), .int .i64 0, .int .i64 0] (0, 0) _ rfl z19_2_ Tryz.underlying40 rfl (by kernel_rfl)) rfl ?_
    exact ⟨rT_, hB_⟩
   replace c22 := Bool.eq_false_iff.mpr c22
   subst c22
   replace H := in_ H (show ¬ (false = true) by decide)
   replace H := ig_ H; obtain ⟨c24b0, H⟩ := H
   replace H := ig_ H; obtain ⟨c25b0, H⟩ := H
   replace H := ob_ H; obtain ⟨t668, A26, H⟩ := H; try dsimp only at H
   replace H := ob_ H; obtain ⟨t670, A27, H⟩ := H; try dsimp only at H
   replace H := ob_ H; obtain ⟨t672, A28, H⟩ := H; try dsimp only at H
   have HC29 := aM_ H
   clear H
   try go_wp2
   replace BK662 := aM_ (blk_drew BK662.out)
   replace BK663 := aM_ (blk_drew BK663.out)
   replace HB := aM_ (below_drew1 HB.out)
   have p667 : 0 ≤ (t664 : Int) := ode_
   have q667 : t664 < (l0.length : Int) := ode_
   obtain ⟨ad667, e667, hx667_0, hx667_1⟩ := at_T74 HR0.out t664 p667 q667
   have hw667_1 := hx667_1
   have hw667_0 := hx667_0
   cases e667
   try replace hx667_0 := hc_ HB hx667_0
   try replace hx667_1 := hc_ HB hx667_1
   replace p667 := eq_true p667
   replace q667 := eq_true q667
   have p669 : 0 ≤ (t664 : Int) := ode_
   have q669 : t664 < (l0.length : Int) := ode_
   obtain ⟨ad669, e669, hx669_0, hx669_1⟩ := at_T74 HR0.out t664 p669 q669
   have hw669_1 := hx669_1
   have hw669_0 := hx669_0
   obtain rfl : ad667 = ad669 := (by injection e669)
   try replace hx669_0 := hc_ HB hx669_0
   try replace hx669_1 := hc_ HB hx669_1
   replace p669 := eq_true p669
   replace q669 := eq_true q669
   refine st_ 21 (fun w' => w'.cell? ⟨gb662, 0, none⟩ = some (.string a1_0) ∧ w'.cell? ⟨gb662, 1, none⟩ = some (.int .i64 a1_1) ∧ w'.cell? ⟨gb662, 2, none⟩ = some (.int .i64 a1_2) ∧ w'.cell? (ad667.add ((t664).toNat * 2)) = some (.string ((rd_T74 l0 t664).f0)) ∧ w'.cell? ⟨(ad667.add ((t664).toNat * 2)).block, (ad667.add ((t664).toNat * 2)).off + 1, none⟩ = some (.int .i64 ((rd_T74 l0 t664).f1)) ∧ w'.cell? (ad667.add ((t664).toNat * 2)) = some (.string ((rd_T74 l0 t664).f0)) ∧ w'.cell? ⟨(ad667.add ((t664).toNat * 2)).block, (ad667.add ((t664).toNat * 2)).off + 1, none⟩ = some (.int .i64 ((rd_T74 l0 t664).f1))) [] Faw.tab4 Faw.bits4 ⟨(blk_cell BK662.out 0).trans rfl, (blk_cell BK662.out 1).trans rfl, (blk_cell BK662.out 2).trans rfl, ((HB.out.cell (World.block_lt_of_cell? w _ hw667_0)).trans hw667_0), ((HB.out.cell (World.block_lt_of_cell? w _ hw667_1)).trans hw667_1), ((HB.out.cell (World.block_lt_of_cell? w _ hw669_0)).trans hw669_0), ((HB.out.cell (World.block_lt_of_cell? w _ hw669_1)).trans hw669_1)⟩ fun hHeld HT_ HW_ => ?_
   generalize wc.drew = w30 at BK662 BK663 HB hx667_0 hx667_1 hx669_0 hx669_1 hHeld ⊢
   refine pu_ 0 26 ?_
   refine pu_ 2 28 ?_
   refine pu_ 4 30 ?_
   refine pu_ 5 31 ?_
   refine pu_ 6 32 ?_
   refine pu_ 7 33 ?_
   refine pu_ 10 36 ?_
   refine pu_ 12 38 ?_
   refine pu_ 13 39 ?_
   refine pu_ 14 40 ?_
   refine pu_ 15 41 ?_
   refine tk_ 1 27 ?_
   refine tk_ 3 29 ?_
   refine tk_ 8 34 ?_
   refine tk_ 11 37 ?_
   refine tk_ 16 42 ?_
   refine join_ (σ := Nat) 1 (bz_ 21 0xfffff) (fun s_ => [(35, .int .i64 t668), (43, .int .i64 t670), (9, .pointer (some ⟨s_, 0, none⟩)), (44, .agg #[.string a1_0, .int .i64 t668, .int .i64 t670])]) (fun s_ w' => (w'.cell? ⟨gb662, 0, none⟩ = some (.string a1_0) ∧ w'.cell? ⟨gb662, 1, none⟩ = some (.int .i64 a1_1) ∧ w'.cell? ⟨gb662, 2, none⟩ = some (.int .i64 a1_2) ∧ w'.cell? (ad667.add ((t664).toNat * 2)) = some (.string ((rd_T74 l0 t664).f0)) ∧ w'.cell? ⟨(ad667.add ((t664).toNat * 2)).block, (ad667.add ((t664).toNat * 2)).off + 1, none⟩ = some (.int .i64 ((rd_T74 l0 t664).f1)) ∧ w'.cell? (ad667.add ((t664).toNat * 2)) = some (.string ((rd_T74 l0 t664).f0)) ∧ w'.cell? ⟨(ad667.add ((t664).toNat * 2)).block, (ad667.add ((t664).toNat * 2)).off + 1, none⟩ = some (.int .i64 ((rd_T74 l0 t664).f1))) ∧ (w'.heap[gb662]? = some (.cells #[.string a1_0, .int .i64 a1_1, .int .i64 a1_2] 40 (0, 0))) ∧ (w'.heap[gb663]? = some (.cells #[.string (⟨#[]⟩ : ByteArray), .int .i64 0, .int .i64 0] 40 (0, 0))) ∧ (w'.heap[s_]? = some (.cells #[.string (⟨#[]⟩ : ByteArray), .int .i64 0, .int .i64 0] 40 (0, 0))) ∧ (w.heap.size ≤ s_) ∧ (w.heap.size ≤ s_) ∧ (gb662 ≠ s_) ∧ (s_ ≠ gb662) ∧ (gb663 ≠ s_) ∧ (s_ ≠ gb663) ∧ (Below w.heap.size w w')) ?_ ?_
   rotate_left
   ·intro hCont
    refine two_ (i := 9) (j := 19) (Ni := some 35) (Nj := some 9) (bz_ 21 0x1ffff) (bz_ 21 0x9fdff) rfl rfl rfl rfl (two_of HT_.out (by kernel_rfl)) (by decide) (by decide) (fun K hK => ?_) (fun K hK => ?_)
    ·skip
     refine gS_ Tryz.func49 #[.int .i64 a1_1, .int .i64 ((rd_T74 l0 t664).f1)] ?_
     with_reducible refine (Fbq.calls a1_1 ((rd_T74 l0 t664).f1) t668 _ A26.out).mono ?_
     rintro e w' ⟨rfl, ⟨nd, rfl⟩⟩
     refine ⟨_, rfl, ?_⟩
     refine hK.out _ _ ⟨(blk_cell BK662.out 0).trans rfl, (blk_cell BK662.out 1).trans rfl, (blk_cell BK662.out 2).trans rfl, ((HB.out.cell (World.block_lt_of_cell? w _ hw667_0)).trans hw667_0), ((HB.out.cell (World.block_lt_of_cell? w _ hw667_1)).trans hw667_1), ((HB.out.cell (World.block_lt_of_cell? w _ hw669_0)).trans hw669_0), ((HB.out.cell (World.block_lt_of_cell? w _ hw669_1)).trans hw669_1)⟩ (fun hHeld => ?_)
     clear hK K
     refine nm_ 35 ?_
     refine two_ (i := 17) (j := 19) (Ni := some 43) (Nj := some 9) (bz_ 21 0x3ffff) (bz_ 21 0x9ffff) rfl rfl rfl rfl (two_of HT_.out (by kernel_rfl)) (by decide) (by decide) (fun K hK => ?_) (fun K hK => ?_)
     ·skip
      refine gS_ Tryz.func49 #[.int .i64 a1_2, .int .i64 ((rd_T74 l0 t664).f1)] ?_
      with_reducible refine (Fbq.calls a1_2 ((rd_T74 l0 t664).f1) t670 _ A27.out).mono ?_
      rintro e w' ⟨rfl, ⟨nd, rfl⟩⟩
      refine ⟨_, rfl, ?_⟩
      refine hK.out _ _ ⟨(blk_cell BK662.out 0).trans rfl, (blk_cell BK662.out 1).trans rfl, (blk_cell BK662.out 2).trans rfl, ((HB.out.cell (World.block_lt_of_cell? w _ hw667_0)).trans hw667_0), ((HB.out.cell (World.block_lt_of_cell? w _ hw667_1)).trans hw667_1), ((HB.out.cell (World.block_lt_of_cell? w _ hw669_0)).trans hw669_0), ((HB.out.cell (World.block_lt_of_cell? w _ hw669_1)).trans hw669_1)⟩ (fun hHeld => ?_)
      clear hK K
      refine nm_ 43 ?_
      refine pu_ 18 44 ?_
      refine on_ 19 9 fun K hK => ?_
      refine box_step ?hg (N := 9) ?hd (cs := #[.string (⟨#[]⟩ : ByteArray), .int .i64 0, .int .i64 0]) (t := 40) ?hr ?_; (case hd => rfl); (case hg => rfl); (case hr => first | (go_simp; done) | (go_simp; rfl))
      intro gb671 hg w31 hbox hb
      have BK671 := aM_ (hbox)
      have GW671 := gW_ w hg
      have GE671 := gW_ w hg
      have NB662_671 := nB_ gb662 hg
      have NB671_662 := nC_ gb662 hg
      have NB663_671 := nB_ gb663 hg
      have NB671_663 := nC_ gb663 hg
      replace BK662 := kB_ BK662 hb
      replace BK663 := kB_ BK663 hb
      replace HB := bS_ hb
      clear hb hbox hg
      refine hK.out _ _ ⟨(blk_cell BK662.out 0).trans rfl, (blk_cell BK662.out 1).trans rfl, (blk_cell BK662.out 2).trans rfl, ((HB.out.cell (World.block_lt_of_cell? w _ hw667_0)).trans hw667_0), ((HB.out.cell (World.block_lt_of_cell? w _ hw667_1)).trans hw667_1), ((HB.out.cell (World.block_lt_of_cell? w _ hw669_0)).trans hw669_0), ((HB.out.cell (World.block_lt_of_cell? w _ hw669_1)).trans hw669_1)⟩ (fun hHeld => ?_)
      clear hK K
      refine nm_ 9 ?_
      exact norm_ z19_3_ (hCont (gb671) _ ⟨hHeld, (kR_ BK662), (kR_ BK663), (kR_ BK671), GW671.out, GE671.out, NB662_671.out, NB671_662.out, NB663_671.out, NB671_663.out, hB_⟩)
     ·skip
      refine box_step ?hg (N := 9) ?hd (cs := #[.string (⟨#[]⟩ : ByteArray), .int .i64 0, .int .i64 0]) (t := 40) ?hr ?_; (case hd => rfl); (case hg => rfl); (case hr => first | (go_simp; done) | (go_simp; rfl))
      intro gb671 hg w31 hbox hb
      have BK671 := aM_ (hbox)
      have GW671 := gW_ w hg
      have GE671 := gW_ w hg
      have NB662_671 := nB_ gb662 hg
      have NB671_662 := nC_ gb662 hg
      have NB663_671 := nB_ gb663 hg
      have NB671_663 := nC_ gb663 hg
      replace BK662 := kB_ BK662 hb
      replace BK663 := kB_ BK663 hb
      replace HB := bS_ hb
      clear hb hbox hg
      refine hK.out _ _ ⟨(blk_cell BK662.out 0).trans rfl, (blk_cell BK662.out 1).trans rfl, (blk_cell BK662.out 2).trans rfl, ((HB.out.cell (World.block_lt_of_cell? w _ hw667_0)).trans hw667_0), ((HB.out.cell (World.block_lt_of_cell? w _ hw667_1)).trans hw667_1), ((HB.out.cell (World.block_lt_of_cell? w _ hw669_0)).trans hw669_0), ((HB.out.cell (World.block_lt_of_cell? w _ hw669_1)).trans hw669_1)⟩ (fun hHeld => ?_)
      clear hK K
      refine nm_ 9 ?_
      refine on_ 17 43 fun K hK => ?_
      refine gS_ Tryz.func49 #[.int .i64 a1_2, .int .i64 ((rd_T74 l0 t664).f1)] ?_
      with_reducible refine (Fbq.calls a1_2 ((rd_T74 l0 t664).f1) t670 _ A27.out).mono ?_
      rintro e w' ⟨rfl, ⟨nd, rfl⟩⟩
      refine ⟨_, rfl, ?_⟩
      refine hK.out _ _ ⟨(blk_cell BK662.out 0).trans rfl, (blk_cell BK662.out 1).trans rfl, (blk_cell BK662.out 2).trans rfl, ((HB.out.cell (World.block_lt_of_cell? w _ hw667_0)).trans hw667_0), ((HB.out.cell (World.block_lt_of_cell? w _ hw667_1)).trans hw667_1), ((HB.out.cell (World.block_lt_of_cell? w _ hw669_0)).trans hw669_0), ((HB.out.cell (World.block_lt_of_cell? w _ hw669_1)).trans hw669_1)⟩ (fun hHeld => ?_)
      clear hK K
      refine nm_ 43 ?_
      refine pu_ 18 44 ?_
      exact norm_ z19_3_ (hCont (gb671) _ ⟨hHeld, (kR_ BK662), (kR_ BK663), (kR_ BK671), GW671.out, GE671.out, NB662_671.out, NB671_662.out, NB663_671.out, NB671_663.out, hB_⟩)
    ·skip
     refine box_step ?hg (N := 9) ?hd (cs := #[.string (⟨#[]⟩ : ByteArray), .int .i64 0, .int .i64 0]) (t := 40) ?hr ?_; (case hd => rfl); (case hg => rfl); (case hr => first | (go_simp; done) | (go_simp; rfl))
     intro gb671 hg w31 hbox hb
     have BK671 := aM_ (hbox)
     have GW671 := gW_ w hg
     have GE671 := gW_ w hg
     have NB662_671 := nB_ gb662 hg
     have NB671_662 := nC_ gb662 hg
     have NB663_671 := nB_ gb663 hg
     have NB671_663 := nC_ gb663 hg
     replace BK662 := kB_ BK662 hb
     replace BK663 := kB_ BK663 hb
     replace HB := bS_ hb
     clear hb hbox hg
     refine hK.out _ _ ⟨(blk_cell BK662.out 0).trans rfl, (blk_cell BK662.out 1).trans rfl, (blk_cell BK662.out 2).trans rfl, ((HB.out.cell (World.block_lt_of_cell? w _ hw667_0)).trans hw667_0), ((HB.out.cell (World.block_lt_of_cell? w _ hw667_1)).trans hw667_1), ((HB.out.cell (World.block_lt_of_cell? w _ hw669_0)).trans hw669_0), ((HB.out.cell (World.block_lt_of_cell? w _ hw669_1)).trans hw669_1)⟩ (fun hHeld => ?_)
     clear hK K
     refine nm_ 9 ?_
     refine on_ 9 35 fun K hK => ?_
     refine gS_ Tryz.func49 #[.int .i64 a1_1, .int .i64 ((rd_T74 l0 t664).f1)] ?_
     with_reducible refine (Fbq.calls a1_1 ((rd_T74 l0 t664).f1) t668 _ A26.out).mono ?_
     rintro e w' ⟨rfl, ⟨nd, rfl⟩⟩
     refine ⟨_, rfl, ?_⟩
     refine hK.out _ _ ⟨(blk_cell BK662.out 0).trans rfl, (blk_cell BK662.out 1).trans rfl, (blk_cell BK662.out 2).trans rfl, ((HB.out.cell (World.block_lt_of_cell? w _ hw667_0)).trans hw667_0), ((HB.out.cell (World.block_lt_of_cell? w _ hw667_1)).trans hw667_1), ((HB.out.cell (World.block_lt_of_cell? w _ hw669_0)).trans hw669_0), ((HB.out.cell (World.block_lt_of_cell? w _ hw669_1)).trans hw669_1)⟩ (fun hHeld => ?_)
     clear hK K
     refine nm_ 35 ?_
     refine on_ 17 43 fun K hK => ?_
     refine gS_ Tryz.func49 #[.int .i64 a1_2, .int .i64 ((rd_T74 l0 t664).f1)] ?_
     with_reducible refine (Fbq.calls a1_2 ((rd_T74 l0 t664).f1) t670 _ A27.out).mono ?_
     rintro e w' ⟨rfl, ⟨nd, rfl⟩⟩
     refine ⟨_, rfl, ?_⟩
     refine hK.out _ _ ⟨(blk_cell BK662.out 0).trans rfl, (blk_cell BK662.out 1).trans rfl, (blk_cell BK662.out 2).trans rfl, ((HB.out.cell (World.block_lt_of_cell? w _ hw667_0)).trans hw667_0), ((HB.out.cell (World.block_lt_of_cell? w _ hw667_1)).trans hw667_1), ((HB.out.cell (World.block_lt_of_cell? w _ hw669_0)).trans hw669_0), ((HB.out.cell (World.block_lt_of_cell? w _ hw669_1)).trans hw669_1)⟩ (fun hHeld => ?_)
     clear hK K
     refine nm_ 43 ?_
     refine pu_ 18 44 ?_
     exact norm_ z19_3_ (hCont (gb671) _ ⟨hHeld, (kR_ BK662), (kR_ BK663), (kR_ BK671), GW671.out, GE671.out, NB662_671.out, NB671_662.out, NB663_671.out, NB671_663.out, hB_⟩)
   rintro gb671 w32 ⟨hS_, h0_, h1_, h2_, h3_, h4_, h5_, h6_, h7_, h8_, h9_⟩
   try dsimp only at h0_ h1_ h2_ h3_ h4_ h5_ h6_ h7_ h8_ h9_
   have n0_ := aM_ h0_; have n1_ := aM_ h1_; have n2_ := aM_ h2_; have n3_ := aM_ h3_; have n4_ := aM_ h4_; have n5_ := aM_ h5_; have n6_ := aM_ h6_; have n7_ := aM_ h7_; have n8_ := aM_ h8_; have n9_ := aM_ h9_
   clear BK662
   clear BK663
   clear HB
   clear h0_ h1_ h2_ h3_ h4_ h5_ h6_ h7_ h8_ h9_
   have BK662 := n0_
   have BK663 := n1_
   have BK671 := n2_
   have GW671 := n3_
   have GE671 := n4_
   have NB662_671 := n5_
   have NB671_662 := n6_
   have NB663_671 := n7_
   have NB671_663 := n8_
   have HB := n9_
   clear n0_ n1_ n2_ n3_ n4_ n5_ n6_ n7_ n8_ n9_
   have hHeld : w32.cell? ⟨gb662, 0, none⟩ = some (.string a1_0) ∧ w32.cell? ⟨gb662, 1, none⟩ = some (.int .i64 a1_1) ∧ w32.cell? ⟨gb662, 2, none⟩ = some (.int .i64 a1_2) ∧ w32.cell? (ad667.add ((t664).toNat * 2)) = some (.string ((rd_T74 l0 t664).f0)) ∧ w32.cell? ⟨(ad667.add ((t664).toNat * 2)).block, (ad667.add ((t664).toNat * 2)).off + 1, none⟩ = some (.int .i64 ((rd_T74 l0 t664).f1)) ∧ w32.cell? (ad667.add ((t664).toNat * 2)) = some (.string ((rd_T74 l0 t664).f0)) ∧ w32.cell? ⟨(ad667.add ((t664).toNat * 2)).block, (ad667.add ((t664).toNat * 2)).off + 1, none⟩ = some (.int .i64 ((rd_T74 l0 t664).f1)) := hS_
   refine norm_ (a' := ?_) ?_ ?_
   rotate_left
   ·simp only [putAll, Act.put, List.setIfInBounds_toArray, List.set_cons_zero, List.set_cons_succ]
    rfl
   refine one_ (i := 20) (N := none) (bz_ 21 0x1fffff) rfl rfl (one_of HT_.out (by kernel_rfl)) (by decide) (fun K hK => ?_)
   have hs33 : w32.cell? ⟨gb671, 0, none⟩ = some (.string (⟨#[]⟩ : ByteArray)) := (blk_cell BK671.out 0).trans rfl
   have hfs33 := blk_frozen BK671.out 0
   have hns33_0 := NB662_671.out
   have hns33_1 := NB663_671.out
   have hms33_0 := NB671_662.out
   have hms33_1 := NB671_663.out
   have hs34 : w32.cell? ⟨gb671, 1, none⟩ = some (.int .i64 0) := (blk_cell BK671.out 1).trans rfl
   have hfs34 := blk_frozen BK671.out 1
   have hns34_0 := NB662_671.out
   have hns34_1 := NB663_671.out
   have hms34_0 := NB671_662.out
   have hms34_1 := NB671_663.out
   have hs35 : w32.cell? ⟨gb671, 2, none⟩ = some (.int .i64 0) := (blk_cell BK671.out 2).trans rfl
   have hfs35 := blk_frozen BK671.out 2
   have hns35_0 := NB662_671.out
   have hns35_1 := NB663_671.out
   have hms35_0 := NB671_662.out
   have hms35_1 := NB671_663.out
   refine skip_ (w1 := ?_) (by rfl) rfl ?_ ?_
   rotate_left
   ·go_simp
    rfl
   refine hK.out _ _ ⟨((cell_far (p := ⟨gb671, _, none⟩) NB662_671.out _).trans (((cell_far (p := ⟨gb671, _, none⟩) NB662_671.out _).trans (((cell_far (p := ⟨gb671, _, none⟩) NB662_671.out _).trans (hHeld.1)))))), ((cell_far (p := ⟨gb671, _, none⟩) NB662_671.out _).trans (((cell_far (p := ⟨gb671, _, none⟩) NB662_671.out _).trans (((cell_far (p := ⟨gb671, _, none⟩) NB662_671.out _).trans (hHeld.2.1)))))), ((cell_far (p := ⟨gb671, _, none⟩) NB662_671.out _).trans (((cell_far (p := ⟨gb671, _, none⟩) NB662_671.out _).trans (((cell_far (p := ⟨gb671, _, none⟩) NB662_671.out _).trans (hHeld.2.2.1)))))), ((cell_far (p := ⟨gb671, _, none⟩) z19_4_ _).trans (((cell_far (p := ⟨gb671, _, none⟩) z19_4_ _).trans (((cell_far (p := ⟨gb671, _, none⟩) z19_4_ _).trans (hHeld.2.2.2.1)))))), ((cell_far (p := ⟨gb671, _, none⟩) z19_5_ _).trans (((cell_far (p := ⟨gb671, _, none⟩) z19_5_ _).trans (((cell_far (p := ⟨gb671, _, none⟩) z19_5_ _).trans (hHeld.2.2.2.2.1)))))), ((cell_far (p := ⟨gb671, _, none⟩) z19_6_ _).trans (((cell_far (p := ⟨gb671, _, none⟩) z19_6_ _).trans (((cell_far (p := ⟨gb671, _, none⟩) z19_6_ _).trans (hHeld.2.2.2.2.2.1)))))), ((cell_far (p := ⟨gb671, _, none⟩) z19_7_ _).trans (((cell_far (p := ⟨gb671, _, none⟩) z19_7_ _).trans (((cell_far (p := ⟨gb671, _, none⟩) z19_7_ _).trans (hHeld.2.2.2.2.2.2))))))⟩ (fun hHeld => ?_)
   clear hK K
   refine dn_ ?_
   clear BK662
   have hnb36 := NB671_663.out
   have hnc36 := NB663_671.out
   have hz37 := cf3_ BK671.out
   go_upto_if 47 with (first | ((with_reducible refine gC_ 48 ?_); refine gM_ (some 46) Tryz.func48 #[.agg #[.string a1_0, .int .i64 t668, .int .i64 t670]] ?_; (with_reducible refine (FaQ.calls kj4 a1_0 t668 t670 t672 _ A28.out).mono ?_); rintro e w38 ⟨rfl, hb⟩; refine ⟨_, rfl, ?_⟩; replace BK663 := kB_ BK663 hb; replace BK671 := aM_ (blk_below (g := gb671) (o := .cells #[.string a1_0, .int .i64 t668, .int .i64 t670] 40 (0, 0)) (by (with_reducible repeat (first | apply kN_ | apply kD_ | apply kA_)); refine blk_put (cs := #[.string a1_0, .int .i64 t668, .int .i64 0]) ?_ 2 _ rfl; (with_reducible repeat (first | apply kN_ | apply kD_ | apply kA_)); refine blk_put (cs := #[.string a1_0, .int .i64 0, .int .i64 0]) ?_ 1 _ rfl; (with_reducible repeat (first | apply kN_ | apply kD_ | apply kA_)); refine blk_put (cs := #[.string (⟨#[]⟩ : ByteArray), .int .i64 0, .int .i64 0]) ?_ 0 _ rfl; (with_reducible repeat (first | apply kN_ | apply kD_ | apply kA_)); exact BK671.out) hb); replace HB := bS_ hb; (try clear hb)))
   (try simp only [Act.put, List.setIfInBounds_toArray, List.set_cons_zero, List.set_cons_succ])
   have H := HC29.out
   clear HC29
   by_cases c39 : t672 = true
   ·subst c39
    replace H := ip_ H rfl
    simp only [Option.some.injEq, Prod.mk.injEq] at H
    obtain ⟨rfl, rfl, rfl, rfl⟩ := H
    have hnb40 := NB671_663.out
    have hnc40 := NB663_671.out
    have hz41 := cf3_ BK671.out
    clear BK671
    have hz42 := cf3_ BK663.out
    go_wp2
    refine bodyPost_ret (results_ct rfl _ _ gb663 40 #[.string a1_0, .int .i64 t668, .int .i64 t670] (0, 0) _ rfl (by (with_reducible repeat (first | apply kN_ | apply kD_ | apply kA_)); refine blk_put (cs := #[.string a1_0, .int .i64 t668, .int .i64 0]) ?_ 2 _ rfl; (with_reducible repeat (first | apply kN_ | apply kD_ | apply kA_)); refine blk_put (cs := #[.string a1_0, .int .i64 0, .int .i64 0]) ?_ 1 _ rfl; (with_reducible repeat (first | apply kN_ | apply kD_ | apply kA_)); refine blk_put (cs := #[.string (⟨#[]⟩ : ByteArray), .int .i64 0, .int .i64 0]) ?_ 0 _ rfl; (with_reducible repeat (first | apply kN_ | apply kD_ | apply kA_)); exact BK663.out) Tryz.underlying40 rfl (by kernel_rfl)) rfl ?_
    exact ⟨rT_, hB_⟩
   replace c39 := Bool.eq_false_iff.mpr c39
   subst c39
   replace H := in_ H (show ¬ (false = true) by decide)
   simp only [Option.some.injEq, Prod.mk.injEq] at H
   obtain ⟨rfl, rfl, rfl, rfl⟩ := H
   clear BK671
   have hz43 := cf3_ BK663.out
   go_wp2
   refine bodyPost_ret (results_ct rfl _ _ gb663 40 #[.string (⟨#[]⟩ : ByteArray), .int .i64 0, .int .i64 0] (0, 0) _ rfl z19_2_ Tryz.underlying40 rfl (by kernel_rfl)) rfl ?_
   exact ⟨rT_, hB_⟩

theorem FaT.calls (k : Nat) (A0 : Option Addr) (c0 : Nat) (l0 : List S74) (a1_0 : ByteArray) (a1_1 a1_2 : Int) (r1 r2 : ByteArray) (r3 : Bool) (w : World) (hr0 : Kd.C k74 w A0 l0.length l0) (hc0 : l0.length ≤ c0) (h : FaT.f k l0 a1_0 a1_1 a1_2 = some (r1, r2, r3)) :
 Calls Tryz.prog 23 #[.slice A0 l0.length c0, .agg #[.string a1_0, .int .i64 a1_1, .int .i64 a1_2]] w fun e w' => e = .returned (.tuple #[.string r1, .string r2, .bool r3]) ∧ Below w.heap.size w w' := by
 have hu40 := Tryz.underlying40
 have HR0 := aM_ hr0
 have HC0 := aM_ hc0
 clear hr0 hc0
 have HB := aM_ (Below.refl w.heap.size w)
 have H : ((Faj.f k l0).bind fun t674 => (if t674 = true then ((FaQ.f k a1_0 a1_1 a1_2).bind fun t675 => (if t675 = true then ((FaV.f k l0 a1_0 a1_1 a1_2).bind fun bt676 => (some (bt676.1, bt676.2.1, bt676.2.2))) else (some ((⟨#[]⟩ : ByteArray), (⟨#[]⟩ : ByteArray), false)))) else (some ((⟨#[]⟩ : ByteArray), (⟨#[]⟩ : ByteArray), false)))) = some (r1, r2, r3) := h
 clear h
 replace H := ob_ H; obtain ⟨t674, A3, H⟩ := H; try dsimp only at H
 by_cases c4 : t674 = true
 rotate_left
 ·replace c4 := Bool.eq_false_iff.mpr c4
  subst c4
  replace H := in_ H (show ¬ (false = true) by decide)
  simp only [Option.some.injEq, Prod.mk.injEq] at H
  obtain ⟨rfl, rfl, rfl⟩ := H
  go_enter Tryz.func23, Tryz.ntmps23
  go_wp2_with (first | ((with_reducible refine gD_ 3 ?_); refine bx_ 3 #[.string a1_0, .int .i64 a1_1, .int .i64 a1_2] 40 fun gb673 hg w15 hbox hb => ?_; have BK673 := aM_ (hbox); have GW673 := gW_ w hg; have GE673 := gW_ w hg; replace HB := bS_ hb; clear hb hbox hg; clear BK673) | ((with_reducible refine gC_ 47 ?_); refine gM_ (some 8) Tryz.func47 #[.slice A0 l0.length c0] ?_; (with_reducible refine (Faj.calls k _ _ l0 false _ ?_ ?_ A3.out).mono ?_); exact z19_0_; exact HC0.out; rintro e w16 ⟨rfl, hb⟩; refine ⟨_, rfl, ?_⟩; replace HB := bS_ hb; (try clear hb)))
  go_ret3
  exact ⟨rT_, hB_⟩
 subst c4
 replace H := ip_ H rfl
 replace H := ob_ H; obtain ⟨t675, A5, H⟩ := H; try dsimp only at H
 have HC6 := aM_ H
 clear H
 go_enter Tryz.func23, Tryz.ntmps23
 go_upto_if 14 with (first | ((with_reducible refine gD_ 3 ?_); refine bx_ 3 #[.string a1_0, .int .i64 a1_1, .int .i64 a1_2] 40 fun gb673 hg w7 hbox hb => ?_; have BK673 := aM_ (hbox); have GW673 := gW_ w hg; have GE673 := gW_ w hg; replace HB := bS_ hb; clear hb hbox hg) | ((with_reducible refine gC_ 47 ?_); refine gM_ (some 8) Tryz.func47 #[.slice A0 l0.length c0] ?_; (with_reducible refine (Faj.calls k _ _ l0 true _ ?_ ?_ A3.out).mono ?_); exact z19_0_; exact HC0.out; rintro e w8 ⟨rfl, hb⟩; refine ⟨_, rfl, ?_⟩; replace BK673 := kB_ BK673 hb; replace HB := bS_ hb; (try clear hb); have hz9 := cf3_ BK673.out) | (go_at_call 48; (with_reducible refine (FaQ.calls k a1_0 a1_1 a1_2 t675 _ A5.out).mono ?_); rintro e w10 ⟨rfl, hb⟩; replace BK673 := kB_ BK673 hb; replace HB := bS_ hb; (try clear hb)))
 (try simp only [Act.put, List.setIfInBounds_toArray, List.set_cons_zero, List.set_cons_succ])
 have H := HC6.out
 clear HC6
 by_cases c11 : t675 = true
 rotate_left
 ·replace c11 := Bool.eq_false_iff.mpr c11
  subst c11
  replace H := in_ H (show ¬ (false = true) by decide)
  simp only [Option.some.injEq, Prod.mk.injEq] at H
  obtain ⟨rfl, rfl, rfl⟩ := H
  go_wp2
  go_ret3
  exact ⟨rT_, hB_⟩
 subst c11
 replace H := ip_ H rfl
 replace H := ob_ H; obtain ⟨⟨t676, t677, t678⟩, A12, H⟩ := H; try dsimp only at H
 simp only [Option.some.injEq, Prod.mk.injEq] at H
 obtain ⟨rfl, rfl, rfl⟩ := H
 have hz13 := cf3_ BK673.out
 clear BK673
 go_wp2_with (first | ((with_reducible refine gC_ 32 ?_); refine gM_ (some 17) Tryz.func32 #[.slice A0 l0.length c0, .agg #[.string a1_0, .int .i64 a1_1, .int .i64 a1_2]] ?_; (with_reducible refine (FaV.calls k _ _ l0 a1_0 a1_1 a1_2 t676 t677 t678 _ ?_ ?_ A12.out).mono ?_); exact z19_0_; exact HC0.out; rintro e w14 ⟨rfl, hb⟩; refine ⟨_, rfl, ?_⟩; replace HB := bS_ hb; (try clear hb)))
 go_ret3
 exact ⟨rT_, hB_⟩

end Go.Proofs.YtbfkpgmdbafmhaaGreat.PFnVerbRuns
