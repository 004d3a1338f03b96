/- Printed for this claim: functions of the program as Lean functions, and that the calls answer so. -/
import Derived.Test.YtbfkpgmdbafmhaaGreatPFnVerbRunsx0
import Derived.Test.YtbfkpgmdbafmhaaGreatPFnVerbRunsx2
import Derived.Test.YtbfkpgmdbafmhaaGreatPFnVerbRunsx3
import Derived.Test.YtbfkpgmdbafmhaaGreatPFnVerbRunsx6
import Derived.Test.YtbfkpgmdbafmhaaGreatPFnVerbRunsxD0
import Derived.Test.YtbfkpgmdbafmhaaGreatPFnVerbRunsxD1
namespace Go.Proofs.YtbfkpgmdbafmhaaGreat.PFnVerbRuns
open Go.RowKit Go.Proofs.YtbfkpgmdbafmhaaGreatW.PrintWords Go.Proofs.YtbfkpgmdbafmhaaGreatW.PrintLast Go.Proofs.YtbfkpgmdbafmhaaGreatW.PrintMore
attribute [local go_sem] max2_int min2_int max_two min_two max_three min_three max_four min_four isSome_setCell   -- for this text's walks alone
set_option linter.unusedVariables false
set_option linter.unusedSimpArgs false

theorem z7_0_ {p : Prop} (h : p := by repeat (first | (with_reducible first | exact HK.out | apply KeepBut.set_ | apply keep_drewN | apply keep_drew | apply keep_alloc) | exact HK.out)) : p := h
theorem z7_1_ {p : Prop} (h : p := by repeat (first | (with_reducible first | exact HK.out | apply KeepBut.set_ | apply keep_drewN | apply keep_drew | apply keep_alloc | refine keep_far ?_ GW269.out _) | exact HK.out)) : p := h
theorem z7_2_ {p : Prop} (h : p := by repeat (first | (with_reducible first | exact HB.out | apply lA_ | apply lN_ | apply lD_ | refine below_set ?_ (IsS60.ge HI0.out) | refine below_set ?_ GE269.out) | exact HB.out)) : p := h
theorem z7_3_ {p : Prop} (h : p := by repeat (first | (with_reducible first | exact HI0.out | apply IsS60.alloc | apply IsS60.drewN | apply IsS60.drew | apply IsS60.set_1 | apply IsS60.set_2 | refine IsS60.far ?_ (Aside0.out (by assumption)) _) | exact HI0.out)) : p := h
theorem z7_4_ {p : Prop} (h : p := by assumption) : p := h
theorem z7_5_ {p : Prop} (h : p := by first | rfl | (simp; done) | (simp [*]; done)) : p := h
theorem z7_6_ {p : Prop} (h : p := by (with_reducible repeat (first | apply kN_ | apply kD_ | apply kA_)); refine blk_put (cs := #[.string t273, .int .i64 t279, .int .i64 0]) ?_ 2 _ rfl; (with_reducible repeat (first | apply kN_ | apply kD_ | apply kA_)); refine blk_put (cs := #[.string t273, .int .i64 0, .int .i64 0]) ?_ 1 _ rfl; (with_reducible repeat (first | apply kN_ | apply kD_ | apply kA_)); refine blk_put (cs := #[.string (⟨#[]⟩ : ByteArray), .int .i64 0, .int .i64 0]) ?_ 0 _ rfl; (with_reducible repeat (first | apply kN_ | apply kD_ | apply kA_)); exact BK288.out) : p := h
theorem z7_7_ {p : Prop} (h : p := by repeat (first | (with_reducible first | exact HK.out | apply KeepBut.set_ | apply keep_drewN | apply keep_drew | apply keep_alloc | refine keep_far ?_ GW269.out _ | refine keep_far ?_ GW288.out _) | exact HK.out)) : p := h
theorem z7_8_ {p : Prop} (h : p := by repeat (first | (with_reducible first | exact HB.out | apply lA_ | apply lN_ | apply lD_ | refine below_set ?_ (IsS60.ge HI0.out) | refine below_set ?_ GE269.out | refine below_set ?_ GE288.out) | exact HB.out)) : p := h
theorem z7_9_ {p : Prop} (h : p := by first | (rw [add_block]; exact hne296_0) | (show (Addr.add _ _).block ≠ _; rw [add_block]; exact hne296_0) | exact hne296_0) : p := h
theorem z7_10_ {p : Prop} (h : p := by first | (rw [add_block]; exact hne296_1) | (show (Addr.add _ _).block ≠ _; rw [add_block]; exact hne296_1) | exact hne296_1) : p := h
theorem z7_11_ {p : Prop} (h : p := by simp only [putAll, Act.put, List.setIfInBounds_toArray, List.set_cons_zero, List.set_cons_succ]) : p := h
theorem z7_12_ {p : Prop} (h : p := by exact kR_ BK269) : p := h
theorem z7_13_ {p : Prop} (h : p := by first | (rw [add_block]; exact hne308_0) | (show (Addr.add _ _).block ≠ _; rw [add_block]; exact hne308_0) | exact hne308_0) : p := h
theorem z7_14_ {p : Prop} (h : p := by first | (rw [add_block]; exact hne308_1) | (show (Addr.add _ _).block ≠ _; rw [add_block]; exact hne308_1) | exact hne308_1) : p := h
def Fag.T4 : Bool × List (List Nat × List Nat) := (true, [([], []), ([], []), ([], []), ([1, 2], [1, 2]), ([0, 3], [0, 3]), ([4], [4]), ([5], [5]), ([], []), ([], []), ([7, 8, 3], [7, 8]), ([6, 9], [6, 9]), ([10, 9], [10]), ([11, 11], [11]), ([0, 1, 2, 3, 4, 5, 6, 7, 8, 9, 10, 11, 12], []), ([13, 12, 12, 0, 1, 2, 3, 4, 5, 6, 7, 8, 9, 10, 11, 12], [12, 13])])
def Fag.B4 : List Nat := [0, 0, 0, 6, 15, 31, 63, 0, 0, 398, 1023, 2047, 4095, 8191, 16383]
theorem Fag.tab4 : rtab .any (opsOf Tryz.f43 4) = Fag.T4 := by kernel_rfl
theorem Fag.bits4 : waitsOk Fag.T4.2 Fag.B4 = true := by kernel_rfl
def Fag.T5 : Bool × List (List Nat × List Nat) := (true, [([], []), ([], []), ([], []), ([1, 2], [1, 2]), ([0, 3], [0, 3]), ([4], [4]), ([5], [5]), ([], []), ([], []), ([7, 8, 3], [7, 8]), ([6, 9], [6, 9]), ([10, 9], [10]), ([11, 11], [11]), ([0, 1, 2, 3, 4, 5, 6, 7, 8, 9, 10, 11, 12], []), ([13, 12, 12, 0, 1, 2, 3, 4, 5, 6, 7, 8, 9, 10, 11, 12], [12, 13])])
def Fag.B5 : List Nat := [0, 0, 0, 6, 15, 31, 63, 0, 0, 398, 1023, 2047, 4095, 8191, 16383]
theorem Fag.tab5 : rtab .any (opsOf Tryz.f43 5) = Fag.T5 := by kernel_rfl
theorem Fag.bits5 : waitsOk Fag.T5.2 Fag.B5 = true := by kernel_rfl
set_option maxHeartbeats 8000000 in
set_option maxRecDepth 100000 in
theorem Fag.calls (k g : Nat) (s0_0 : List Int) (s0_1 s0_2 : Int) (A1 : Option Addr) (c1 : Nat) (l1 : List S74) (r1 : ByteArray) (r2 r3 r4 r5 : Int) (w0 w : World) (hI : IsS60 w0 w g s0_0 s0_1 s0_2) (hB : Below w0.heap.size w0 w) (hr1 : ∀ W_, KeepBut w W_ g none → Kd.C k74 W_ A1 l1.length l1) (hc1 : l1.length ≤ c1) (h : Fag.f k s0_0 s0_1 s0_2 l1 = some (r1, r2, r3, r4, r5)) :
 Calls Tryz.prog 43 #[.pointer (some ⟨g, 0, none⟩), .slice A1 l1.length c1] w fun e w' => e = .returned (.agg #[.string r1, .int .i64 r2, .int .i64 r3]) ∧ IsS60 w0 w' g s0_0 r4 r5 ∧ Below w0.heap.size w0 w' ∧ KeepBut w w' g none := by
 have hu40 := Tryz.underlying40
 have HR1 := aM_ hr1
 have HC1 := aM_ hc1
 clear hr1 hc1
 have HI0 := aM_ hI
 have HK := aM_ (KeepBut.refl w g none)
 have HL := aM_ hB.size
 clear hI
 have HW0 := aM_ hB.size
 have HB := aM_ hB
 clear hB
 have H : ((Fba.f s0_0 s0_1 s0_2 (([(⟨#[71, 73, 86, 69]⟩ : ByteArray), (⟨#[71, 73, 86, 69]⟩ : ByteArray), (⟨#[65, 83, 75]⟩ : ByteArray), (⟨#[83, 72, 79, 87]⟩ : ByteArray), (⟨#[84, 69, 76, 76]⟩ : ByteArray)] : List ByteArray))).bind fun bt273 => ((FaZ.f s0_0 bt273.2.1 bt273.2.2 (([(-90), (-40), 0, 30, 90] : List Int))).bind fun bt279 => ((FaZ.f s0_0 bt279.2.1 bt279.2.2 (([(-80), (-35), 5, 40, 85] : List Int))).bind fun bt285 => (if (l1.length : Int) > 1 then ((Faj.f k l1).bind fun t289 => (if t289 = true then ((Fbb.f s0_0 bt285.2.1 bt285.2.2 4).bind fun bt290 => (Fag.j0 k l1 (l1.length : Int) (!bt290.1) s0_0 bt290.2.1 bt290.2.2 bt273.1 bt279.1 bt285.1)) else (Fag.j0 k l1 (l1.length : Int) false s0_0 bt285.2.1 bt285.2.2 bt273.1 bt279.1 bt285.1))) else (Fag.j0 k l1 (l1.length : Int) false s0_0 bt285.2.1 bt285.2.2 bt273.1 bt279.1 bt285.1))))) = some (r1, r2, r3, r4, r5) := h
 clear h
 obtain ⟨y270, hy270⟩ : ∃ y_ : List ByteArray, y_ = (([(⟨#[71, 73, 86, 69]⟩ : ByteArray), (⟨#[71, 73, 86, 69]⟩ : ByteArray), (⟨#[65, 83, 75]⟩ : ByteArray), (⟨#[83, 72, 79, 87]⟩ : ByteArray), (⟨#[84, 69, 76, 76]⟩ : ByteArray)] : List ByteArray)) := ⟨_, rfl⟩
 rw [← hy270] at H
 have Ny270 := aM_ hy270; clear hy270
 replace H := ob_ H; obtain ⟨⟨t273, t274, t275⟩, A3, H⟩ := H; try dsimp only at H
 obtain ⟨y276, hy276⟩ : ∃ y_ : List Int, y_ = (([(-90), (-40), 0, 30, 90] : List Int)) := ⟨_, rfl⟩
 rw [← hy276] at H
 have Ny276 := aM_ hy276; clear hy276
 replace H := ob_ H; obtain ⟨⟨t279, t280, t281⟩, A4, H⟩ := H; try dsimp only at H
 obtain ⟨y282, hy282⟩ : ∃ y_ : List Int, y_ = (([(-80), (-35), 5, 40, 85] : List Int)) := ⟨_, rfl⟩
 rw [← hy282] at H
 have Ny282 := aM_ hy282; clear hy282
 replace H := ob_ H; obtain ⟨⟨t285, t286, t287⟩, A5, H⟩ := H; try dsimp only at H
 have HC6 := aM_ H
 clear H
 go_enter Tryz.func43, Tryz.ntmps43
 go_upto_region 3 with (first | ((with_reducible refine gD_ 4 ?_); refine bx_ 4 #[.string (⟨#[]⟩ : ByteArray), .int .i64 0, .int .i64 0] 40 fun gb269 hg w7 hbox hb => ?_; have BK269 := aM_ (hbox); have GW269 := aM_ ((by rw [hg]; exact (keep_size (w := w) (g := g) (row := none) z7_0_) : w.heap.size ≤ gb269)); have GE269 := aM_ ((Nat.le_trans HW0.out (by rw [hg]; exact (keep_size (w := w) (g := g) (row := none) z7_0_) : w.heap.size ≤ gb269) : w0.heap.size ≤ gb269)); have NB0_269 := aM_ ((by rw [hg]; exact Nat.ne_of_lt (IsS60.lt (show IsS60 w0 _ g s0_0 s0_1 s0_2 from by repeat (first | (with_reducible first | exact HI0.out | apply IsS60.alloc | apply IsS60.drewN | apply IsS60.drew | apply IsS60.set_1 | apply IsS60.set_2) | exact HI0.out))) : g ≠ gb269)); have NB269_0 := aM_ ((by rw [hg]; exact Nat.ne_of_gt (IsS60.lt (show IsS60 w0 _ g s0_0 s0_1 s0_2 from by repeat (first | (with_reducible first | exact HI0.out | apply IsS60.alloc | apply IsS60.drewN | apply IsS60.drew | apply IsS60.set_1 | apply IsS60.set_2) | exact HI0.out))) : gb269 ≠ g)); replace HK := aM_ (KeepBut.trans z7_0_ (KeepBut.of_below hb g none) (.inl rfl)); replace HB := aM_ (below_step (by repeat (first | (with_reducible first | exact HB.out | apply lA_ | apply lN_ | apply lD_ | refine below_set ?_ (IsS60.ge HI0.out)) | exact HB.out)) hb); replace HI0 := aM_ (IsS60.below (by repeat (first | (with_reducible first | exact HI0.out | apply IsS60.alloc | apply IsS60.drewN | apply IsS60.drew | apply IsS60.set_1 | apply IsS60.set_2) | exact HI0.out)) hb); clear hb hbox hg) | ((with_reducible refine gD_ 8 ?_); refine rl_ Kd.string 9 8 ([(⟨#[71, 73, 86, 69]⟩ : ByteArray), (⟨#[71, 73, 86, 69]⟩ : ByteArray), (⟨#[65, 83, 75]⟩ : ByteArray), (⟨#[83, 72, 79, 87]⟩ : ByteArray), (⟨#[84, 69, 76, 76]⟩ : ByteArray)] : List ByteArray) [.string (⟨#[71, 73, 86, 69]⟩ : ByteArray), .string (⟨#[71, 73, 86, 69]⟩ : ByteArray), .string (⟨#[65, 83, 75]⟩ : ByteArray), .string (⟨#[83, 72, 79, 87]⟩ : ByteArray), .string (⟨#[84, 69, 76, 76]⟩ : ByteArray)] (Reps.one (show Kd.M Kd.string _ _ _ (⟨#[71, 73, 86, 69]⟩ : ByteArray) [.string (⟨#[71, 73, 86, 69]⟩ : ByteArray)] from rfl) (Reps.one (show Kd.M Kd.string _ _ _ (⟨#[71, 73, 86, 69]⟩ : ByteArray) [.string (⟨#[71, 73, 86, 69]⟩ : ByteArray)] from rfl) (Reps.one (show Kd.M Kd.string _ _ _ (⟨#[65, 83, 75]⟩ : ByteArray) [.string (⟨#[65, 83, 75]⟩ : ByteArray)] from rfl) (Reps.one (show Kd.M Kd.string _ _ _ (⟨#[83, 72, 79, 87]⟩ : ByteArray) [.string (⟨#[83, 72, 79, 87]⟩ : ByteArray)] from rfl) (Reps.one (show Kd.M Kd.string _ _ _ (⟨#[84, 69, 76, 76]⟩ : ByteArray) [.string (⟨#[84, 69, 76, 76]⟩ : ByteArray)] from rfl) (Reps.none _ _)))))) ?_; intro v271 w8 ho9 hb hg_ hnew_; clear hg_ hnew_; (first | rw [← Ny270.out] at ho9 | (simp only [Int.reduceToNat] at ho9; rw [← Ny270.out] at ho9)); have HO272 := aM_ (Kd.R_lower ho9 (keep_size (w := w) (g := g) (row := none) z7_1_)); replace BK269 := kB_ BK269 hb; replace HK := aM_ (KeepBut.trans z7_1_ (KeepBut.of_below hb g none) (.inl rfl)); replace HB := aM_ (below_step z7_2_ hb); replace HI0 := aM_ (IsS60.below z7_3_ hb); clear hb ho9; obtain ⟨Ao10, co10, eo10⟩ := rS_ HO272; subst eo10) | ((with_reducible refine gC_ 33 ?_); refine gM_ (some 9) Tryz.func33 #[.pointer (some ⟨g, 0, none⟩), .slice Ao10 y270.length co10] ?_; (with_reducible refine (Fba.calls g s0_0 s0_1 s0_2 _ _ y270 t273 t274 t275 w0 _ ?_ ?_ ?_ ?_ ?_ A3.out).mono ?_); exact z7_3_; exact z7_2_; exact cR_ HO272; exact (Kd.R_reads' HO272.out).2.1; exact far_slice (IsS60.own_ne HI0.out HO272.out (by decide)); rintro e w11 ⟨rfl, hi, hb, hk⟩; refine ⟨_, rfl, ?_⟩; replace BK269 := aM_ (KeepBut.blk hk (g' := gb269) (o := .cells #[.string (⟨#[]⟩ : ByteArray), .int .i64 0, .int .i64 0] 40 (0, 0)) (kR_ BK269) NB269_0.out (by simp)); replace HO272 := aM_ (Kd.R_mono (Kd.R_keep (IsS60.apart (show IsS60 w0 _ g s0_0 s0_1 s0_2 from by repeat (first | (with_reducible first | exact HI0.out | apply IsS60.alloc | apply IsS60.drewN | apply IsS60.drew | apply IsS60.set_1 | apply IsS60.set_2 | refine IsS60.far ?_ (Aside0.out z7_4_) _) | exact HI0.out)) (rR_ HO272) (by decide)) hk (fun _ h => h.2)) (fun _ h => h.1)); replace HK := aM_ (KeepBut.trans z7_1_ hk (.inl rfl)); replace HB := aM_ (hb); replace HI0 := aM_ (hi); (try clear hb); (try clear hk); (try clear hi)) | ((with_reducible refine gD_ 11 ?_); refine rl_ (Kd.int .i64) 3 11 ([(-90), (-40), 0, 30, 90] : List Int) [.int .i64 (-90), .int .i64 (-40), .int .i64 0, .int .i64 30, .int .i64 90] (Reps.one (show Kd.M (Kd.int .i64) _ _ _ (-90) [.int .i64 (-90)] from rfl) (Reps.one (show Kd.M (Kd.int .i64) _ _ _ (-40) [.int .i64 (-40)] from rfl) (Reps.one (show Kd.M (Kd.int .i64) _ _ _ 0 [.int .i64 0] from rfl) (Reps.one (show Kd.M (Kd.int .i64) _ _ _ 30 [.int .i64 30] from rfl) (Reps.one (show Kd.M (Kd.int .i64) _ _ _ 90 [.int .i64 90] from rfl) (Reps.none _ _)))))) ?_; intro v277 w12 ho13 hb hg_ hnew_; clear hg_ hnew_; (first | rw [← Ny276.out] at ho13 | (simp only [Int.reduceToNat] at ho13; rw [← Ny276.out] at ho13)); have HO278 := aM_ (Kd.R_lower ho13 (keep_size (w := w) (g := g) (row := none) z7_1_)); replace HO272 := rB_ HO272 hb; replace BK269 := kB_ BK269 hb; replace HK := aM_ (KeepBut.trans z7_1_ (KeepBut.of_below hb g none) (.inl rfl)); replace HB := aM_ (below_step z7_2_ hb); replace HI0 := aM_ (IsS60.below z7_3_ hb); clear hb ho13; obtain ⟨Ao14, co14, eo14⟩ := rS_ HO278; subst eo14) | ((with_reducible refine gC_ 70 ?_); refine gM_ (some 12) Tryz.func70 #[.pointer (some ⟨g, 0, none⟩), .slice Ao14 y276.length co14] ?_; (with_reducible refine (FaZ.calls g s0_0 t274 t275 _ _ y276 t279 t280 t281 w0 _ ?_ ?_ ?_ ?_ ?_ A4.out).mono ?_); exact z7_3_; exact z7_2_; exact cR_ HO278; exact (Kd.R_reads' HO278.out).2.1; exact far_slice (IsS60.own_ne HI0.out HO278.out (by decide)); rintro e w15 ⟨rfl, hi, hb, hk⟩; refine ⟨_, rfl, ?_⟩; replace BK269 := aM_ (KeepBut.blk hk (g' := gb269) (o := .cells #[.string (⟨#[]⟩ : ByteArray), .int .i64 0, .int .i64 0] 40 (0, 0)) (kR_ BK269) NB269_0.out (by simp)); replace HO272 := aM_ (Kd.R_mono (Kd.R_keep (IsS60.apart (show IsS60 w0 _ g s0_0 t274 t275 from by repeat (first | (with_reducible first | exact HI0.out | apply IsS60.alloc | apply IsS60.drewN | apply IsS60.drew | apply IsS60.set_1 | apply IsS60.set_2 | refine IsS60.far ?_ (Aside0.out z7_4_) _) | exact HI0.out)) (rR_ HO272) (by decide)) hk (fun _ h => h.2)) (fun _ h => h.1)); replace HO278 := aM_ (Kd.R_mono (Kd.R_keep (IsS60.apart (show IsS60 w0 _ g s0_0 t274 t275 from by repeat (first | (with_reducible first | exact HI0.out | apply IsS60.alloc | apply IsS60.drewN | apply IsS60.drew | apply IsS60.set_1 | apply IsS60.set_2 | refine IsS60.far ?_ (Aside0.out z7_4_) _) | exact HI0.out)) (rR_ HO278) (by decide)) hk (fun _ h => h.2)) (fun _ h => h.1)); replace HK := aM_ (KeepBut.trans z7_1_ hk (.inl rfl)); replace HB := aM_ (hb); replace HI0 := aM_ (hi); (try clear hb); (try clear hk); (try clear hi)) | ((with_reducible refine gD_ 14 ?_); refine rl_ (Kd.int .i64) 3 14 ([(-80), (-35), 5, 40, 85] : List Int) [.int .i64 (-80), .int .i64 (-35), .int .i64 5, .int .i64 40, .int .i64 85] (Reps.one (show Kd.M (Kd.int .i64) _ _ _ (-80) [.int .i64 (-80)] from rfl) (Reps.one (show Kd.M (Kd.int .i64) _ _ _ (-35) [.int .i64 (-35)] from rfl) (Reps.one (show Kd.M (Kd.int .i64) _ _ _ 5 [.int .i64 5] from rfl) (Reps.one (show Kd.M (Kd.int .i64) _ _ _ 40 [.int .i64 40] from rfl) (Reps.one (show Kd.M (Kd.int .i64) _ _ _ 85 [.int .i64 85] from rfl) (Reps.none _ _)))))) ?_; intro v283 w16 ho17 hb hg_ hnew_; clear hg_ hnew_; (first | rw [← Ny282.out] at ho17 | (simp only [Int.reduceToNat] at ho17; rw [← Ny282.out] at ho17)); have HO284 := aM_ (Kd.R_lower (Kd.R_new' ho17 (Kd.R_lt (rR_ HO278))) (keep_size (w := w) (g := g) (row := none) z7_1_)); replace HO272 := rB_ HO272 hb; replace HO278 := rE_ HO278 ho17 hb; replace BK269 := kB_ BK269 hb; replace HK := aM_ (KeepBut.trans z7_1_ (KeepBut.of_below hb g none) (.inl rfl)); replace HB := aM_ (below_step z7_2_ hb); replace HI0 := aM_ (IsS60.below z7_3_ hb); clear hb ho17; obtain ⟨Ao18, co18, eo18⟩ := rS_ HO284; subst eo18) | ((with_reducible refine gC_ 70 ?_); refine gM_ (some 15) Tryz.func70 #[.pointer (some ⟨g, 0, none⟩), .slice Ao18 y282.length co18] ?_; (with_reducible refine (FaZ.calls g s0_0 t280 t281 _ _ y282 t285 t286 t287 w0 _ ?_ ?_ ?_ ?_ ?_ A5.out).mono ?_); exact z7_3_; exact z7_2_; exact cR_ HO284; exact (Kd.R_reads' HO284.out).2.1; exact far_slice (IsS60.own_ne HI0.out HO284.out (by decide)); rintro e w19 ⟨rfl, hi, hb, hk⟩; refine ⟨_, rfl, ?_⟩; replace BK269 := aM_ (KeepBut.blk hk (g' := gb269) (o := .cells #[.string (⟨#[]⟩ : ByteArray), .int .i64 0, .int .i64 0] 40 (0, 0)) (kR_ BK269) NB269_0.out (by simp)); replace HO272 := aM_ (Kd.R_mono (Kd.R_keep (IsS60.apart (show IsS60 w0 _ g s0_0 t280 t281 from by repeat (first | (with_reducible first | exact HI0.out | apply IsS60.alloc | apply IsS60.drewN | apply IsS60.drew | apply IsS60.set_1 | apply IsS60.set_2 | refine IsS60.far ?_ (Aside0.out z7_4_) _) | exact HI0.out)) (rR_ HO272) (by decide)) hk (fun _ h => h.2)) (fun _ h => h.1)); replace HO278 := aM_ (Kd.R_mono (Kd.R_keep (IsS60.apart (show IsS60 w0 _ g s0_0 t280 t281 from by repeat (first | (with_reducible first | exact HI0.out | apply IsS60.alloc | apply IsS60.drewN | apply IsS60.drew | apply IsS60.set_1 | apply IsS60.set_2 | refine IsS60.far ?_ (Aside0.out z7_4_) _) | exact HI0.out)) (rR_ HO278) (by decide)) hk (fun _ h => h.2)) (fun _ h => h.1)); replace HO284 := aM_ (Kd.R_mono (Kd.R_keep (IsS60.apart (show IsS60 w0 _ g s0_0 t280 t281 from by repeat (first | (with_reducible first | exact HI0.out | apply IsS60.alloc | apply IsS60.drewN | apply IsS60.drew | apply IsS60.set_1 | apply IsS60.set_2 | refine IsS60.far ?_ (Aside0.out z7_4_) _) | exact HI0.out)) (rR_ HO284) (by decide)) hk (fun _ h => h.2)) (fun _ h => h.1)); replace HK := aM_ (KeepBut.trans z7_1_ hk (.inl rfl)); replace HB := aM_ (hb); replace HI0 := aM_ (hi); (try clear hb); (try clear hk); (try clear hi)) | ((with_reducible refine gD_ 5 ?_); refine bx_ 5 #[.string (⟨#[]⟩ : ByteArray), .int .i64 0, .int .i64 0] 40 fun gb288 hg w20 hbox hb => ?_; have BK288 := aM_ (hbox); have GW288 := aM_ ((by rw [hg]; exact (keep_size (w := w) (g := g) (row := none) z7_1_) : w.heap.size ≤ gb288)); have GE288 := aM_ ((Nat.le_trans HW0.out (by rw [hg]; exact (keep_size (w := w) (g := g) (row := none) z7_1_) : w.heap.size ≤ gb288) : w0.heap.size ≤ gb288)); have NB269_288 := aM_ (nR_ BK269 hg); have NB288_269 := aM_ (mR_ BK269 hg); have NB0_288 := aM_ ((by rw [hg]; exact Nat.ne_of_lt (IsS60.lt (show IsS60 w0 _ g s0_0 t286 t287 from by repeat (first | (with_reducible first | exact HI0.out | apply IsS60.alloc | apply IsS60.drewN | apply IsS60.drew | apply IsS60.set_1 | apply IsS60.set_2 | refine IsS60.far ?_ (Aside0.out z7_4_) _) | exact HI0.out))) : g ≠ gb288)); have NB288_0 := aM_ ((by rw [hg]; exact Nat.ne_of_gt (IsS60.lt (show IsS60 w0 _ g s0_0 t286 t287 from by repeat (first | (with_reducible first | exact HI0.out | apply IsS60.alloc | apply IsS60.drewN | apply IsS60.drew | apply IsS60.set_1 | apply IsS60.set_2 | refine IsS60.far ?_ (Aside0.out z7_4_) _) | exact HI0.out))) : gb288 ≠ g)); replace HO272 := rB_ HO272 hb; replace HO278 := rB_ HO278 hb; replace HO284 := rB_ HO284 hb; replace BK269 := kB_ BK269 hb; replace HK := aM_ (KeepBut.trans z7_1_ (KeepBut.of_below hb g none) (.inl rfl)); replace HB := aM_ (below_step z7_2_ hb); replace HI0 := aM_ (IsS60.below z7_3_ hb); clear hb hbox hg; have hnb21 := NB288_269.out; have hnc21 := NB269_288.out; have hnb22 := NB288_0.out; have hnc22 := NB0_288.out; have hz23 := cf3_ BK288.out))
 (try simp only [Act.put, List.setIfInBounds_toArray, List.set_cons_zero, List.set_cons_succ])
 go_cut [29] (fun v29 wc => ∃ (kq : Nat) (x29_5 : Bool) (x1001_5 x1002_5 : Int), v29 = .bool x29_5 ∧ Aside0 (Fag.j0 kq l1 (l1.length : Int) x29_5 s0_0 x1001_5 x1002_5 t273 t279 t285 = some (r1, r2, r3, r4, r5)) ∧ Aside0 (kq ≤ k) ∧ Aside0 (wc.heap[gb269]? = some (.cells #[.string (⟨#[]⟩ : ByteArray), .int .i64 0, .int .i64 0] 40 (0, 0))) ∧ Aside0 (wc.heap[gb288]? = some (.cells #[.string t273, .int .i64 t279, .int .i64 t285] 40 (0, 0))) ∧ Aside0 (IsS60 w0 wc g s0_0 x1001_5 x1002_5) ∧ Aside0 (KeepBut w wc g none) ∧ Aside0 (Below w0.heap.size w0 wc))
 case first =>
  have H := HC6.out
  clear HC6
  by_cases c24 : (l1.length : Int) > 1
  rotate_left
  ·rw [if_neg c24] at H
   have c24b0 : decide (1 < (l1.length : Int)) = false := decide_eq_false c24
   have c24b1 : decide (1 < l1.length) = false := decide_eq_false (by omega)
   clear c24
   (first | rw [c24b0] | (simp only [i64_w, i32_w]; rw [c24b0]) | skip)
   have H' := aM_ H
   clear H
   go_wp2
   go_meet
   case rel => exact ⟨_, (false), (t286), (t287), z7_5_, H', ⟨oR_⟩, ⟨by exact kR_ BK269⟩, ⟨z7_6_⟩, ⟨z7_3_⟩, ⟨z7_7_⟩, ⟨z7_8_⟩⟩
  rw [if_pos c24] at H
  have c24b0 : decide (1 < (l1.length : Int)) = true := decide_eq_true c24
  have c24b1 : decide (1 < l1.length) = true := decide_eq_true (by omega)
  clear c24
  (first | rw [c24b0] | (simp only [i64_w, i32_w]; rw [c24b0]) | skip)
  replace H := ob_ H; obtain ⟨t289, A25, H⟩ := H; try dsimp only at H
  by_cases c26 : t289 = true
  rotate_left
  ·replace c26 := Bool.eq_false_iff.mpr c26
   subst c26
   replace H := in_ H (show ¬ (false = true) by decide)
   have H' := aM_ H
   clear H
   go_wp2_with (first | (go_at_call 47; (with_reducible refine (Faj.calls k _ _ l1 false _ ?_ ?_ A25.out).mono ?_); exact Kd.C_foot_now HR1.out z7_7_; exact HC1.out; rintro e w30 ⟨rfl, hb⟩; replace HO272 := aM_ (Kd.R_below (by (with_reducible repeat (first | apply rA_ | apply rN_ | apply rD_)); exact (Kd.R_mono (Kd.R_far (p := ⟨gb288, 2, none⟩) (Kd.R_far (p := ⟨gb288, 1, none⟩) (Kd.R_far (p := ⟨gb288, 0, none⟩) (Kd.R_types HO272.out BK288.out (by decide)) (fun _ hk => hk.2) (.string t273)) (fun _ hk => hk.2) (.int .i64 t279)) (fun _ hk => hk.2) (.int .i64 t285)) (fun _ h_ => h_.1))) hb); replace HO278 := aM_ (Kd.R_below (by (with_reducible repeat (first | apply rA_ | apply rN_ | apply rD_)); exact (Kd.R_mono (Kd.R_far (p := ⟨gb288, 2, none⟩) (Kd.R_far (p := ⟨gb288, 1, none⟩) (Kd.R_far (p := ⟨gb288, 0, none⟩) (Kd.R_types HO278.out BK288.out (by decide)) (fun _ hk => hk.2) (.string t273)) (fun _ hk => hk.2) (.int .i64 t279)) (fun _ hk => hk.2) (.int .i64 t285)) (fun _ h_ => h_.1))) hb); replace HO284 := aM_ (Kd.R_below (by (with_reducible repeat (first | apply rA_ | apply rN_ | apply rD_)); exact (Kd.R_mono (Kd.R_far (p := ⟨gb288, 2, none⟩) (Kd.R_far (p := ⟨gb288, 1, none⟩) (Kd.R_far (p := ⟨gb288, 0, none⟩) (Kd.R_types HO284.out BK288.out (by decide)) (fun _ hk => hk.2) (.string t273)) (fun _ hk => hk.2) (.int .i64 t279)) (fun _ hk => hk.2) (.int .i64 t285)) (fun _ h_ => h_.1))) hb); replace BK269 := kB_ BK269 hb; replace BK288 := aM_ (blk_below (g := gb288) (o := .cells #[.string t273, .int .i64 t279, .int .i64 t285] 40 (0, 0)) z7_6_ hb); replace HK := aM_ (KeepBut.trans z7_7_ (KeepBut.of_below hb g none) (.inl rfl)); replace HB := aM_ (below_step z7_8_ hb); replace HI0 := aM_ (IsS60.below (show IsS60 w0 (((w20.setCell ⟨gb288, 0, none⟩ (.string t273)).setCell ⟨gb288, 1, none⟩ (.int .i64 t279)).setCell ⟨gb288, 2, none⟩ (.int .i64 t285)) g s0_0 t286 t287 from by repeat (first | (with_reducible first | exact HI0.out | apply IsS60.alloc | apply IsS60.drewN | apply IsS60.drew | apply IsS60.set_1 | apply IsS60.set_2 | refine IsS60.far ?_ (Aside0.out z7_4_) _) | exact HI0.out)) hb); (try clear hb); (try clear hk)))
   go_meet
   case rel => exact ⟨_, (false), (t286), (t287), z7_5_, H', ⟨oR_⟩, ⟨kP_⟩, ⟨kP_⟩, ⟨z7_3_⟩, ⟨z7_7_⟩, ⟨z7_8_⟩⟩
  subst c26
  replace H := ip_ H rfl
  replace H := ob_ H; obtain ⟨⟨t290, t291, t292⟩, A27, H⟩ := H; try dsimp only at H
  have H' := aM_ H
  clear H
  go_wp2_with (first | (go_at_call 47; (with_reducible refine (Faj.calls k _ _ l1 true _ ?_ ?_ A25.out).mono ?_); exact Kd.C_foot_now HR1.out z7_7_; exact HC1.out; rintro e w28 ⟨rfl, hb⟩; replace HO272 := aM_ (Kd.R_below (by (with_reducible repeat (first | apply rA_ | apply rN_ | apply rD_)); exact (Kd.R_mono (Kd.R_far (p := ⟨gb288, 2, none⟩) (Kd.R_far (p := ⟨gb288, 1, none⟩) (Kd.R_far (p := ⟨gb288, 0, none⟩) (Kd.R_types HO272.out BK288.out (by decide)) (fun _ hk => hk.2) (.string t273)) (fun _ hk => hk.2) (.int .i64 t279)) (fun _ hk => hk.2) (.int .i64 t285)) (fun _ h_ => h_.1))) hb); replace HO278 := aM_ (Kd.R_below (by (with_reducible repeat (first | apply rA_ | apply rN_ | apply rD_)); exact (Kd.R_mono (Kd.R_far (p := ⟨gb288, 2, none⟩) (Kd.R_far (p := ⟨gb288, 1, none⟩) (Kd.R_far (p := ⟨gb288, 0, none⟩) (Kd.R_types HO278.out BK288.out (by decide)) (fun _ hk => hk.2) (.string t273)) (fun _ hk => hk.2) (.int .i64 t279)) (fun _ hk => hk.2) (.int .i64 t285)) (fun _ h_ => h_.1))) hb); replace HO284 := aM_ (Kd.R_below (by (with_reducible repeat (first | apply rA_ | apply rN_ | apply rD_)); exact (Kd.R_mono (Kd.R_far (p := ⟨gb288, 2, none⟩) (Kd.R_far (p := ⟨gb288, 1, none⟩) (Kd.R_far (p := ⟨gb288, 0, none⟩) (Kd.R_types HO284.out BK288.out (by decide)) (fun _ hk => hk.2) (.string t273)) (fun _ hk => hk.2) (.int .i64 t279)) (fun _ hk => hk.2) (.int .i64 t285)) (fun _ h_ => h_.1))) hb); replace BK269 := kB_ BK269 hb; replace BK288 := aM_ (blk_below (g := gb288) (o := .cells #[.string t273, .int .i64 t279, .int .i64 t285] 40 (0, 0)) z7_6_ hb); replace HK := aM_ (KeepBut.trans z7_7_ (KeepBut.of_below hb g none) (.inl rfl)); replace HB := aM_ (below_step z7_8_ hb); replace HI0 := aM_ (IsS60.below (show IsS60 w0 (((w20.setCell ⟨gb288, 0, none⟩ (.string t273)).setCell ⟨gb288, 1, none⟩ (.int .i64 t279)).setCell ⟨gb288, 2, none⟩ (.int .i64 t285)) g s0_0 t286 t287 from by repeat (first | (with_reducible first | exact HI0.out | apply IsS60.alloc | apply IsS60.drewN | apply IsS60.drew | apply IsS60.set_1 | apply IsS60.set_2 | refine IsS60.far ?_ (Aside0.out z7_4_) _) | exact HI0.out)) hb); (try clear hb); (try clear hk); (try clear hi)) | (go_at_call 50; (with_reducible refine (Fbb.calls g s0_0 t286 t287 4 t290 t291 t292 w0 _ ?_ ?_ A27.out).mono ?_); exact z7_3_; exact z7_8_; rintro e w29 ⟨rfl, hi, hb, hk⟩; replace BK269 := aM_ (KeepBut.blk hk (g' := gb269) (o := .cells #[.string (⟨#[]⟩ : ByteArray), .int .i64 0, .int .i64 0] 40 (0, 0)) (kR_ BK269) NB269_0.out (by simp)); replace HO272 := aM_ (Kd.R_mono (Kd.R_keep (IsS60.apart (show IsS60 w0 _ g s0_0 t286 t287 from by repeat (first | (with_reducible first | exact HI0.out | apply IsS60.alloc | apply IsS60.drewN | apply IsS60.drew | apply IsS60.set_1 | apply IsS60.set_2 | refine IsS60.far ?_ (Aside0.out z7_4_) _) | exact HI0.out)) (rR_ HO272) (by decide)) hk (fun _ h => h.2)) (fun _ h => h.1)); replace HO278 := aM_ (Kd.R_mono (Kd.R_keep (IsS60.apart (show IsS60 w0 _ g s0_0 t286 t287 from by repeat (first | (with_reducible first | exact HI0.out | apply IsS60.alloc | apply IsS60.drewN | apply IsS60.drew | apply IsS60.set_1 | apply IsS60.set_2 | refine IsS60.far ?_ (Aside0.out z7_4_) _) | exact HI0.out)) (rR_ HO278) (by decide)) hk (fun _ h => h.2)) (fun _ h => h.1)); replace HO284 := aM_ (Kd.R_mono (Kd.R_keep (IsS60.apart (show IsS60 w0 _ g s0_0 t286 t287 from by repeat (first | (with_reducible first | exact HI0.out | apply IsS60.alloc | apply IsS60.drewN | apply IsS60.drew | apply IsS60.set_1 | apply IsS60.set_2 | refine IsS60.far ?_ (Aside0.out z7_4_) _) | exact HI0.out)) (rR_ HO284) (by decide)) hk (fun _ h => h.2)) (fun _ h => h.1)); replace BK288 := aM_ (KeepBut.blk hk (g' := gb288) (o := .cells #[.string t273, .int .i64 t279, .int .i64 t285] 40 (0, 0)) (kR_ BK288) NB288_0.out (by simp)); replace HK := aM_ (KeepBut.trans z7_7_ hk (.inl rfl)); replace HB := aM_ (hb); replace HI0 := aM_ (hi); (try clear hb); (try clear hk); (try clear hi)))
  go_meet
  case rel => exact ⟨_, (!t290), (t291), (t292), z7_5_, H', ⟨oR_⟩, ⟨kP_⟩, ⟨kP_⟩, ⟨z7_3_⟩, ⟨z7_7_⟩, ⟨z7_8_⟩⟩
 case rest =>
  clear HC6
  (try clear c1);(try clear hcz23_0);(try clear hcz23_1);(try clear hcz23_2);(try clear hfz23_0);(try clear hfz23_1);(try clear hfz23_2)
  obtain ⟨kq, x29_5, x1001_5, x1002_5, rfl, HA, HJ5, BK269, BK288, HI0, HK, HB⟩ := hcut
  cases kq with
  | zero => exact absurd HA.out (by simp [Fag.j0])
  | succ kj5 =>
   have H := HA.out
   clear HA
   simp only [Fag.j0] at H
   have HC31 := aM_ H
   clear H
   go_upto_if 29 with (fail)
   go_cut [] (fun wc => ∃ (kq : Nat) (x1001_30 x1002_30 x289001_30 x289002_30 : Int), Aside0 (Fag.j1 kq s0_0 x1001_30 x1002_30 t273 x289001_30 x289002_30 = some (r1, r2, r3, r4, r5)) ∧ Aside0 (kq ≤ kj5) ∧ Aside0 (wc.heap[gb269]? = some (.cells #[.string (⟨#[]⟩ : ByteArray), .int .i64 0, .int .i64 0] 40 (0, 0))) ∧ Aside0 (wc.heap[gb288]? = some (.cells #[.string t273, .int .i64 x289001_30, .int .i64 x289002_30] 40 (0, 0))) ∧ Aside0 (IsS60 w0 wc g s0_0 x1001_30 x1002_30) ∧ Aside0 (KeepBut w wc g none) ∧ Aside0 (Below w0.heap.size w0 wc))
   case first =>
    have H := HC31.out
    clear HC31
    by_cases c32 : x29_5 = true
    rotate_left
    ·replace c32 := Bool.eq_false_iff.mpr c32
     subst c32
     replace H := in_ H (show ¬ (false = true) by decide)
     have H' := aM_ H
     clear H
     go_wp2
     go_meet
     case rel => exact ⟨_, (x1001_5), (x1002_5), (t279), (t285), H', ⟨by have := HJ5.out; first | omega | exact Nat.le_refl _⟩, ⟨kP_⟩, ⟨kP_⟩, ⟨z7_3_⟩, ⟨z7_7_⟩, ⟨z7_8_⟩⟩
    subst c32
    replace H := ip_ H rfl
    replace H := ob_ H; obtain ⟨⟨t293, t294, t295⟩, A33, H⟩ := H; try dsimp only at H
    replace H := ig_ H; obtain ⟨c34b0, H⟩ := H
    (first | rw [c34b0] | (simp only [i64_w, i32_w]; rw [c34b0]) | skip)
    replace H := ig_ H; obtain ⟨c35b0, H⟩ := H
    obtain ⟨y297, hy297⟩ : ∃ y_ : List Int, y_ = (([0, 5, (-5), 20, 21] : List Int)) := ⟨_, rfl⟩
    rw [← hy297] at H
    have Ny297 := aM_ hy297; clear hy297
    replace H := ob_ H; obtain ⟨⟨t300, t301, t302⟩, A36, H⟩ := H; try dsimp only at H
    replace H := ob_ H; obtain ⟨t303, A37, H⟩ := H; try dsimp only at H
    replace H := ob_ H; obtain ⟨t304, A38, H⟩ := H; try dsimp only at H
    replace H := ob_ H; obtain ⟨⟨t305, t306, t307⟩, A39, H⟩ := H; try dsimp only at H
    replace H := ig_ H; obtain ⟨c40b0, H⟩ := H
    replace H := ig_ H; obtain ⟨c41b0, H⟩ := H
    obtain ⟨y309, hy309⟩ : ∃ y_ : List Int, y_ = (([0, 5, (-5)] : List Int)) := ⟨_, rfl⟩
    rw [← hy309] at H
    have Ny309 := aM_ hy309; clear hy309
    replace H := ob_ H; obtain ⟨⟨t312, t313, t314⟩, A42, H⟩ := H; try dsimp only at H
    replace H := ob_ H; obtain ⟨t315, A43, H⟩ := H; try dsimp only at H
    replace H := ob_ H; obtain ⟨t316, A44, H⟩ := H; try dsimp only at H
    have H' := aM_ H
    clear H
    try go_wp2
    replace BK269 := aM_ (blk_drew BK269.out)
    replace BK288 := aM_ (blk_drew BK288.out)
    replace HI0 := aM_ (IsS60.drew HI0.out)
    replace HK := aM_ (keep_drew HK.out)
    replace HB := aM_ (below_drew1 HB.out)
    have p296 : 0 ≤ (t293 : Int) := ode_
    have q296 : t293 < (l1.length : Int) := ode_
    obtain ⟨ad296, e296, hx296_0, hx296_1⟩ := at_T74 (Kd.C_foot_now HR1.out HK.out) t293 p296 q296
    have hw296_1 := hx296_1
    have hw296_0 := hx296_0
    cases e296
    have hne296_1 := (show (⟨(ad296.add ((t293).toNat * 2)).block, (ad296.add ((t293).toNat * 2)).off + 1, none⟩ : Addr).block ≠ g from by first | (rw [add_block]; exact Kd.foot_ne HR1.out (by omega) (by decide)) | (show (Addr.add _ _).block ≠ _; rw [add_block]; exact Kd.foot_ne HR1.out (by omega) (by decide)) | exact Kd.foot_ne HR1.out (by omega) (by decide) | (dsimp only; exact Kd.foot_ne HR1.out (by omega) (by decide)))
    have hlt296_1 := (Kd.foot_lt HR1.out (by omega) (by decide))
    have hne296_0 := (show ((ad296.add ((t293).toNat * 2)) : Addr).block ≠ g from by first | (rw [add_block]; exact Kd.foot_ne HR1.out (by omega) (by decide)) | (show (Addr.add _ _).block ≠ _; rw [add_block]; exact Kd.foot_ne HR1.out (by omega) (by decide)) | exact Kd.foot_ne HR1.out (by omega) (by decide) | (dsimp only; exact Kd.foot_ne HR1.out (by omega) (by decide)))
    have hlt296_0 := (Kd.foot_lt HR1.out (by omega) (by decide))
    replace p296 := eq_true p296
    replace q296 := eq_true q296
    refine st_ 15 (fun w' => w'.cell? (ad296.add ((t293).toNat * 2)) = some (.string ((rd_T74 l1 t293).f0)) ∧ w'.cell? ⟨(ad296.add ((t293).toNat * 2)).block, (ad296.add ((t293).toNat * 2)).off + 1, none⟩ = some (.int .i64 ((rd_T74 l1 t293).f1))) [] Fag.tab4 Fag.bits4 ⟨hx296_0, hx296_1⟩ fun hHeld HT_ HW_ => ?_
    generalize wc.drew = w45 at BK269 BK288 HI0 HK HB hx296_0 hx296_1 hHeld ⊢
    refine pu_ 0 30 ?_
    refine pu_ 1 31 ?_
    refine pu_ 2 32 ?_
    refine pu_ 7 37 ?_
    refine join_ (σ := Value) 6 (bz_ 15 0x1ff) (fun s_ => [(33, .int .i64 t293), (38, s_), (34, .pointer (some (ad296.add ((t293).toNat * 2)))), (35, .pointer (some ⟨(ad296.add ((t293).toNat * 2)).block, (ad296.add ((t293).toNat * 2)).off + 1, none⟩)), (36, .int .i64 ((rd_T74 l1 t293).f1))]) (fun s_ w' => (w'.cell? (ad296.add ((t293).toNat * 2)) = some (.string ((rd_T74 l1 t293).f0)) ∧ w'.cell? ⟨(ad296.add ((t293).toNat * 2)).block, (ad296.add ((t293).toNat * 2)).off + 1, none⟩ = some (.int .i64 ((rd_T74 l1 t293).f1))) ∧ (Kd.R (Kd.int .i64) 3 w' w.heap.size (fun _ => True) s_ y297) ∧ (w'.heap[gb269]? = some (.cells #[.string (⟨#[]⟩ : ByteArray), .int .i64 0, .int .i64 0] 40 (0, 0))) ∧ (w'.heap[gb288]? = some (.cells #[.string t273, .int .i64 t279, .int .i64 t285] 40 (0, 0))) ∧ (IsS60 w0 w' g s0_0 t294 t295) ∧ (KeepBut w w' g none) ∧ (Below w0.heap.size w0 w')) ?_ ?_
    rotate_left
    ·intro hCont
     refine two_ (i := 3) (j := 8) (Ni := some 33) (Nj := some 38) (bz_ 15 0x8f) (bz_ 15 0x187) rfl rfl rfl rfl (two_of HT_.out (by kernel_rfl)) (by decide) (by decide) (fun K hK => ?_) (fun K hK => ?_)
     ·skip
      refine gS_ Tryz.func51 #[.pointer (some ⟨g, 0, none⟩), .int .i64 (l1.length : Int)] ?_
      with_reducible refine (FaJ.calls g s0_0 x1001_5 x1002_5 (l1.length : Int) t293 t294 t295 w0 _ ?side1 ?side2 A33.out).mono ?_
      (case side1 => repeat (first | (with_reducible first | exact HI0.out | apply IsS60.alloc | apply IsS60.drewN | apply IsS60.drew | apply IsS60.set_1 | apply IsS60.set_2 | refine IsS60.far ?_ (Aside0.out z7_4_) _) | exact HI0.out))
      (case side2 => repeat (first | (with_reducible first | exact HB.out | apply lA_ | apply lN_ | apply lD_ | refine below_set ?_ (IsS60.ge HI0.out) | refine below_set ?_ GE269.out | refine below_set ?_ GE288.out) | exact HB.out))
      rintro e w46 ⟨rfl, hi, hb, hk⟩
      have HS0_ := keep_cell hk (hHeld.1) z7_9_
      have HS1_ := keep_cell hk (hHeld.2) z7_10_
      refine ⟨_, rfl, ?_⟩
      replace BK269 := aM_ (KeepBut.blk hk (g' := gb269) (o := .cells #[.string (⟨#[]⟩ : ByteArray), .int .i64 0, .int .i64 0] 40 (0, 0)) (kR_ BK269) NB269_0.out (by simp))
      replace BK288 := aM_ (KeepBut.blk hk (g' := gb288) (o := .cells #[.string t273, .int .i64 t279, .int .i64 t285] 40 (0, 0)) (kR_ BK288) NB288_0.out (by simp))
      replace HK := aM_ (KeepBut.trans z7_7_ hk (.inl rfl))
      replace HB := aM_ (hb)
      replace HI0 := aM_ (hi)
      (try clear hb)
      (try clear hb2)
      (try clear hk)
      (try clear hi)
      refine hK.out _ _ ⟨HS0_, HS1_⟩ (fun hHeld => ?_)
      clear hK K
      refine nm_ 33 ?_
      refine pu_ 4 34 ?_
      refine pu_ 5 35 ?_
      refine tk_ 6 36 ?_
      refine on_ 8 38 fun K hK => ?_
      refine Kd.R_lit_step (Kd.int .i64) _ 3 ?hg (N := 38) ?hd (xs := ([0, 5, (-5), 20, 21] : List Int)) (inner := [.int .i64 0, .int .i64 5, .int .i64 (-5), .int .i64 20, .int .i64 21]) (ok := fun _ => True) (okp := fun _ => True) ?hr ?hp (fun _ hk => hk) trivial (Below.refl _ _) (Nat.le_refl _) (by simp) ?_; (case hd => rfl); (case hg => rfl); (case hr => first | (go_simp; done) | (go_simp; rfl)); (case hp => exact (Reps.one (show Kd.M (Kd.int .i64) _ _ _ 0 [.int .i64 0] from rfl) (Reps.one (show Kd.M (Kd.int .i64) _ _ _ 5 [.int .i64 5] from rfl) (Reps.one (show Kd.M (Kd.int .i64) _ _ _ (-5) [.int .i64 (-5)] from rfl) (Reps.one (show Kd.M (Kd.int .i64) _ _ _ 20 [.int .i64 20] from rfl) (Reps.one (show Kd.M (Kd.int .i64) _ _ _ 21 [.int .i64 21] from rfl) (Reps.none _ _)))))))
      intro v298 w47 ho48 hb hg_ hnew_
      have HS0_ := (hb.cell (World.block_lt_of_cell? _ _ (hHeld.1))).trans (hHeld.1)
      have HS1_ := (hb.cell (World.block_lt_of_cell? _ _ (hHeld.2))).trans (hHeld.2)
      clear hg_ hnew_
      (first | rw [← Ny297.out] at ho48 | (simp only [Int.reduceToNat] at ho48; rw [← Ny297.out] at ho48))
      have HO299 := aM_ (Kd.R_lower ho48 (keep_size (w := w) (g := g) (row := none) z7_7_))
      replace BK269 := kB_ BK269 hb
      replace BK288 := kB_ BK288 hb
      replace HK := aM_ (KeepBut.trans z7_7_ (KeepBut.of_below hb g none) (.inl rfl))
      replace HB := aM_ (below_step z7_8_ hb)
      replace HI0 := aM_ (IsS60.below z7_3_ hb)
      clear hb ho48
      refine hK.out _ _ ⟨HS0_, HS1_⟩ (fun hHeld => ?_)
      clear hK K
      refine nm_ 38 ?_
      exact norm_ z7_11_ (hCont (v298) _ ⟨hHeld, (rR_ HO299), (kR_ BK269), (kR_ BK288), z7_3_, z7_7_, z7_8_⟩)
     ·skip
      refine Kd.R_lit_step (Kd.int .i64) _ 3 ?hg (N := 38) ?hd (xs := ([0, 5, (-5), 20, 21] : List Int)) (inner := [.int .i64 0, .int .i64 5, .int .i64 (-5), .int .i64 20, .int .i64 21]) (ok := fun _ => True) (okp := fun _ => True) ?hr ?hp (fun _ hk => hk) trivial (Below.refl _ _) (Nat.le_refl _) (by simp) ?_; (case hd => rfl); (case hg => rfl); (case hr => first | (go_simp; done) | (go_simp; rfl)); (case hp => exact (Reps.one (show Kd.M (Kd.int .i64) _ _ _ 0 [.int .i64 0] from rfl) (Reps.one (show Kd.M (Kd.int .i64) _ _ _ 5 [.int .i64 5] from rfl) (Reps.one (show Kd.M (Kd.int .i64) _ _ _ (-5) [.int .i64 (-5)] from rfl) (Reps.one (show Kd.M (Kd.int .i64) _ _ _ 20 [.int .i64 20] from rfl) (Reps.one (show Kd.M (Kd.int .i64) _ _ _ 21 [.int .i64 21] from rfl) (Reps.none _ _)))))))
      intro v298 w46 ho47 hb hg_ hnew_
      have HS0_ := (hb.cell (World.block_lt_of_cell? _ _ (hHeld.1))).trans (hHeld.1)
      have HS1_ := (hb.cell (World.block_lt_of_cell? _ _ (hHeld.2))).trans (hHeld.2)
      clear hg_ hnew_
      (first | rw [← Ny297.out] at ho47 | (simp only [Int.reduceToNat] at ho47; rw [← Ny297.out] at ho47))
      have HO299 := aM_ (Kd.R_lower ho47 (keep_size (w := w) (g := g) (row := none) z7_7_))
      replace BK269 := kB_ BK269 hb
      replace BK288 := kB_ BK288 hb
      replace HK := aM_ (KeepBut.trans z7_7_ (KeepBut.of_below hb g none) (.inl rfl))
      replace HB := aM_ (below_step z7_8_ hb)
      replace HI0 := aM_ (IsS60.below z7_3_ hb)
      clear hb ho47
      refine hK.out _ _ ⟨HS0_, HS1_⟩ (fun hHeld => ?_)
      clear hK K
      refine nm_ 38 ?_
      refine on_ 3 33 fun K hK => ?_
      refine gS_ Tryz.func51 #[.pointer (some ⟨g, 0, none⟩), .int .i64 (l1.length : Int)] ?_
      with_reducible refine (FaJ.calls g s0_0 x1001_5 x1002_5 (l1.length : Int) t293 t294 t295 w0 _ ?side1 ?side2 A33.out).mono ?_
      (case side1 => repeat (first | (with_reducible first | exact HI0.out | apply IsS60.alloc | apply IsS60.drewN | apply IsS60.drew | apply IsS60.set_1 | apply IsS60.set_2 | refine IsS60.far ?_ (Aside0.out z7_4_) _) | exact HI0.out))
      (case side2 => repeat (first | (with_reducible first | exact HB.out | apply lA_ | apply lN_ | apply lD_ | refine below_set ?_ (IsS60.ge HI0.out) | refine below_set ?_ GE269.out | refine below_set ?_ GE288.out) | exact HB.out))
      rintro e w48 ⟨rfl, hi, hb, hk⟩
      have HS0_ := keep_cell hk (hHeld.1) z7_9_
      have HS1_ := keep_cell hk (hHeld.2) z7_10_
      refine ⟨_, rfl, ?_⟩
      replace BK269 := aM_ (KeepBut.blk hk (g' := gb269) (o := .cells #[.string (⟨#[]⟩ : ByteArray), .int .i64 0, .int .i64 0] 40 (0, 0)) (kR_ BK269) NB269_0.out (by simp))
      replace BK288 := aM_ (KeepBut.blk hk (g' := gb288) (o := .cells #[.string t273, .int .i64 t279, .int .i64 t285] 40 (0, 0)) (kR_ BK288) NB288_0.out (by simp))
      replace HO299 := aM_ (Kd.R_mono (Kd.R_keep (IsS60.apart (show IsS60 w0 _ g s0_0 x1001_5 x1002_5 from by repeat (first | (with_reducible first | exact HI0.out | apply IsS60.alloc | apply IsS60.drewN | apply IsS60.drew | apply IsS60.set_1 | apply IsS60.set_2 | refine IsS60.far ?_ (Aside0.out z7_4_) _) | exact HI0.out)) (rR_ HO299) (by decide)) hk (fun _ h => h.2)) (fun _ h => h.1))
      replace HK := aM_ (KeepBut.trans z7_7_ hk (.inl rfl))
      replace HB := aM_ (hb)
      replace HI0 := aM_ (hi)
      (try clear hb)
      (try clear hb2)
      (try clear hk)
      (try clear hi)
      refine hK.out _ _ ⟨HS0_, HS1_⟩ (fun hHeld => ?_)
      clear hK K
      refine nm_ 33 ?_
      refine pu_ 4 34 ?_
      refine pu_ 5 35 ?_
      refine tk_ 6 36 ?_
      exact norm_ z7_11_ (hCont (v298) _ ⟨hHeld, (rR_ HO299), (kR_ BK269), (kR_ BK288), z7_3_, z7_7_, z7_8_⟩)
    rintro v298 w49 ⟨hS_, h0_, h1_, h2_, h3_, h4_, h5_⟩
    try dsimp only at h0_ h1_ h2_ h3_ h4_ h5_
    have n0_ := aM_ h0_; have n1_ := aM_ h1_; have n2_ := aM_ h2_; have n3_ := aM_ h3_; have n4_ := aM_ h4_; have n5_ := aM_ h5_
    clear BK269
    clear BK288
    clear HI0
    clear HK
    clear HB
    clear h0_ h1_ h2_ h3_ h4_ h5_
    have HO299 := n0_
    have BK269 := n1_
    have BK288 := n2_
    have HI0 := n3_
    have HK := n4_
    have HB := n5_
    clear n0_ n1_ n2_ n3_ n4_ n5_
    have hHeld : w49.cell? (ad296.add ((t293).toNat * 2)) = some (.string ((rd_T74 l1 t293).f0)) ∧ w49.cell? ⟨(ad296.add ((t293).toNat * 2)).block, (ad296.add ((t293).toNat * 2)).off + 1, none⟩ = some (.int .i64 ((rd_T74 l1 t293).f1)) := hS_
    obtain ⟨Ao50, co50, eo50⟩ := rS_ HO299
    (first | subst eo50 | (injection eo50 with f1_ f2_ f3_; have f4_ := f1_.symm; have f5_ := f3_.symm; clear f1_ f2_ f3_; subst f4_; subst f5_))
    refine norm_ (a' := ?_) ?_ ?_
    rotate_left
    ·simp only [putAll, Act.put, List.setIfInBounds_toArray, List.set_cons_zero, List.set_cons_succ]
     rfl
    refine on_ 9 39 fun K hK => ?_
    refine gS_ Tryz.func70 #[.pointer (some ⟨g, 0, none⟩), .slice Ao50 y297.length co50] ?_
    with_reducible refine (FaZ.calls g s0_0 t294 t295 _ _ y297 t300 t301 t302 w0 _ ?side1 ?side2 ?side3 ?side4 ?side5 A36.out).mono ?_
    (case side1 => repeat (first | (with_reducible first | exact HI0.out | apply IsS60.alloc | apply IsS60.drewN | apply IsS60.drew | apply IsS60.set_1 | apply IsS60.set_2 | refine IsS60.far ?_ (Aside0.out z7_4_) _) | exact HI0.out))
    (case side2 => repeat (first | (with_reducible first | exact HB.out | apply lA_ | apply lN_ | apply lD_ | refine below_set ?_ (IsS60.ge HI0.out) | refine below_set ?_ GE269.out | refine below_set ?_ GE288.out) | exact HB.out))
    (case side3 => exact cR_ HO299)
    (case side4 => exact (Kd.R_reads' HO299.out).2.1)
    (case side5 => exact far_slice (IsS60.own_ne HI0.out HO299.out (by decide)))
    rintro e w51 ⟨rfl, hi, hb, hk⟩
    have HS0_ := keep_cell hk (hHeld.1) z7_9_
    have HS1_ := keep_cell hk (hHeld.2) z7_10_
    refine ⟨_, rfl, ?_⟩
    replace BK269 := aM_ (KeepBut.blk hk (g' := gb269) (o := .cells #[.string (⟨#[]⟩ : ByteArray), .int .i64 0, .int .i64 0] 40 (0, 0)) (kR_ BK269) NB269_0.out (by simp))
    replace BK288 := aM_ (KeepBut.blk hk (g' := gb288) (o := .cells #[.string t273, .int .i64 t279, .int .i64 t285] 40 (0, 0)) (kR_ BK288) NB288_0.out (by simp))
    replace HO299 := aM_ (Kd.R_mono (Kd.R_keep (IsS60.apart (show IsS60 w0 _ g s0_0 t294 t295 from by repeat (first | (with_reducible first | exact HI0.out | apply IsS60.alloc | apply IsS60.drewN | apply IsS60.drew | apply IsS60.set_1 | apply IsS60.set_2 | refine IsS60.far ?_ (Aside0.out z7_4_) _) | exact HI0.out)) (rR_ HO299) (by decide)) hk (fun _ h => h.2)) (fun _ h => h.1))
    replace HK := aM_ (KeepBut.trans z7_7_ hk (.inl rfl))
    replace HB := aM_ (hb)
    replace HI0 := aM_ (hi)
    (try clear hb)
    (try clear hb2)
    (try clear hk)
    (try clear hi)
    refine hK.out _ _ ⟨HS0_, HS1_⟩ (fun hHeld => ?_)
    clear hK K
    refine nm_ 39 ?_
    refine pu_ 10 40 ?_
    refine on_ 11 41 fun K hK => ?_
    refine gS_ Tryz.func71 #[.int .i64 90, .int .i64 (wrap64 (((rd_T74 l1 t293).f1) + t300))] ?_
    with_reducible refine (Fbk.calls 90 (wrap64 (((rd_T74 l1 t293).f1) + t300)) t303 _ A37.out).mono ?_
    rintro e w' ⟨rfl, ⟨nd, rfl⟩⟩
    refine ⟨_, rfl, ?_⟩
    refine hK.out _ _ ⟨hHeld.1, hHeld.2⟩ (fun hHeld => ?_)
    clear hK K
    refine nm_ 41 ?_
    refine on_ 12 42 fun K hK => ?_
    refine gS_ Tryz.func69 #[.int .i64 (-90), .int .i64 t303] ?_
    with_reducible refine (Fbh.calls (-90) t303 t304 _ A38.out).mono ?_
    rintro e w' ⟨rfl, ⟨nd, rfl⟩⟩
    refine ⟨_, rfl, ?_⟩
    refine hK.out _ _ ⟨hHeld.1, hHeld.2⟩ (fun hHeld => ?_)
    clear hK K
    refine nm_ 42 ?_
    refine pu_ 13 43 ?_
    refine one_ (i := 14) (N := none) (bz_ 15 0x7fff) rfl rfl (one_of HT_.out (by kernel_rfl)) (by decide) (fun K hK => ?_)
    have hs52 : w51.cell? ⟨gb288, 1, none⟩ = some (.int .i64 t279) := (blk_cell BK288.out 1).trans rfl
    have hfs52 := blk_frozen BK288.out 1
    have hns52_0 := NB269_288.out
    have hms52_0 := NB288_269.out
    refine skip_ (w1 := ?_) (by rfl) rfl ?_ ?_
    rotate_left
    ·go_simp
     rfl
    refine hK.out _ _ ⟨((cell_far (p := ⟨gb288, _, none⟩) (by first | exact Nat.ne_of_lt (Nat.lt_of_lt_of_le hlt296_0 GW288.out) | (rw [add_block]; exact Nat.ne_of_lt (Nat.lt_of_lt_of_le hlt296_0 GW288.out)) | (show (Addr.add _ _).block ≠ _; rw [add_block]; exact Nat.ne_of_lt (Nat.lt_of_lt_of_le hlt296_0 GW288.out)) | (dsimp only; exact Nat.ne_of_lt (Nat.lt_of_lt_of_le hlt296_0 GW288.out))) _).trans (hHeld.1)), ((cell_far (p := ⟨gb288, _, none⟩) (by first | exact Nat.ne_of_lt (Nat.lt_of_lt_of_le hlt296_1 GW288.out) | (rw [add_block]; exact Nat.ne_of_lt (Nat.lt_of_lt_of_le hlt296_1 GW288.out)) | (show (Addr.add _ _).block ≠ _; rw [add_block]; exact Nat.ne_of_lt (Nat.lt_of_lt_of_le hlt296_1 GW288.out)) | (dsimp only; exact Nat.ne_of_lt (Nat.lt_of_lt_of_le hlt296_1 GW288.out))) _).trans (hHeld.2))⟩ (fun hHeld => ?_)
    clear hK K
    refine dn_ ?_
    try go_wp2
    have n0_ : Aside0 (Kd.R (Kd.int .i64) 3 (w51.setCell ⟨gb288, 1, none⟩ (.int .i64 t304)) w.heap.size (fun _ => True) (.slice Ao50 y297.length co50) y297) := ⟨by (with_reducible repeat (first | apply rA_ | apply rN_ | apply rD_)); exact Kd.R_mono (Kd.R_far (p := ⟨gb288, 1, none⟩) (Kd.R_types HO299.out BK288.out (by decide)) (fun _ hk => hk.2) (.int .i64 t304)) (fun _ hk => trivial)⟩
    have n1_ : Aside0 ((w51.setCell ⟨gb288, 1, none⟩ (.int .i64 t304)).heap[gb269]? = some (.cells #[.string (⟨#[]⟩ : ByteArray), .int .i64 0, .int .i64 0] 40 (0, 0))) := ⟨z7_12_⟩
    have n2_ : Aside0 ((w51.setCell ⟨gb288, 1, none⟩ (.int .i64 t304)).heap[gb288]? = some (.cells #[.string t273, .int .i64 t304, .int .i64 t285] 40 (0, 0))) := ⟨by (with_reducible repeat (first | apply kN_ | apply kD_ | apply kA_)); refine blk_put (cs := #[.string t273, .int .i64 t279, .int .i64 t285]) ?_ 1 _ rfl; (with_reducible repeat (first | apply kN_ | apply kD_ | apply kA_)); exact BK288.out⟩
    have n3_ : Aside0 (IsS60 w0 (w51.setCell ⟨gb288, 1, none⟩ (.int .i64 t304)) g s0_0 t301 t302) := ⟨z7_3_⟩
    have n4_ : Aside0 (KeepBut w (w51.setCell ⟨gb288, 1, none⟩ (.int .i64 t304)) g none) := ⟨z7_7_⟩
    have n5_ : Aside0 (Below w0.heap.size w0 (w51.setCell ⟨gb288, 1, none⟩ (.int .i64 t304))) := ⟨z7_8_⟩
    (try clear HO299)
    (try clear BK269)
    (try clear BK288)
    (try clear HI0)
    (try clear HK)
    (try clear HB)
    repeat rw [sd_]
    generalize (w51.setCell ⟨gb288, 1, none⟩ (.int .i64 t304)) = w53 at n0_ n1_ n2_ n3_ n4_ n5_ ⊢
    have HO299 := n0_
    have BK269 := n1_
    have BK288 := n2_
    have HI0 := n3_
    have HK := n4_
    have HB := n5_
    clear n0_ n1_ n2_ n3_ n4_ n5_
    (try (rw [drewN_self w53]; generalize hq_ : World.drewN w53 _ = w53; have n0_ : Aside0 (Kd.R (Kd.int .i64) 3 w53 w.heap.size (fun _ => True) (.slice Ao50 y297.length co50) y297) := ⟨by rw [← hq_]; exact (rR_ HO299)⟩; have n1_ : Aside0 (w53.heap[gb269]? = some (.cells #[.string (⟨#[]⟩ : ByteArray), .int .i64 0, .int .i64 0] 40 (0, 0))) := ⟨by rw [← hq_]; exact (kR_ BK269)⟩; have n2_ : Aside0 (w53.heap[gb288]? = some (.cells #[.string t273, .int .i64 t304, .int .i64 t285] 40 (0, 0))) := ⟨by rw [← hq_]; exact (kR_ BK288)⟩; have n3_ : Aside0 (IsS60 w0 w53 g s0_0 t301 t302) := ⟨by rw [← hq_]; exact z7_3_⟩; have n4_ : Aside0 (KeepBut w w53 g none) := ⟨by rw [← hq_]; exact z7_7_⟩; have n5_ : Aside0 (Below w0.heap.size w0 w53) := ⟨by rw [← hq_]; exact z7_8_⟩; clear HO299 BK269 BK288 HI0 HK HB hq_; have HO299 := n0_; have BK269 := n1_; have BK288 := n2_; have HI0 := n3_; have HK := n4_; have HB := n5_; clear n0_ n1_ n2_ n3_ n4_ n5_))
    replace HO299 := aM_ (Kd.R_drew HO299.out)
    replace BK269 := aM_ (blk_drew BK269.out)
    replace BK288 := aM_ (blk_drew BK288.out)
    replace HI0 := aM_ (IsS60.drew HI0.out)
    replace HK := aM_ (keep_drew HK.out)
    replace HB := aM_ (below_drew1 HB.out)
    have p308 : 0 ≤ (t305 : Int) := ode_
    have q308 : t305 < (l1.length : Int) := ode_
    obtain ⟨ad308, e308, hx308_0, hx308_1⟩ := at_T74 (Kd.C_foot_now HR1.out HK.out) t305 p308 q308
    have hw308_1 := hx308_1
    have hw308_0 := hx308_0
    obtain rfl : ad296 = ad308 := (by injection e308)
    have hne308_1 := (show (⟨(ad296.add ((t305).toNat * 2)).block, (ad296.add ((t305).toNat * 2)).off + 1, none⟩ : Addr).block ≠ g from by first | (rw [add_block]; exact Kd.foot_ne HR1.out (by omega) (by decide)) | (show (Addr.add _ _).block ≠ _; rw [add_block]; exact Kd.foot_ne HR1.out (by omega) (by decide)) | exact Kd.foot_ne HR1.out (by omega) (by decide) | (dsimp only; exact Kd.foot_ne HR1.out (by omega) (by decide)))
    have hlt308_1 := (Kd.foot_lt HR1.out (by omega) (by decide))
    have hne308_0 := (show ((ad296.add ((t305).toNat * 2)) : Addr).block ≠ g from by first | (rw [add_block]; exact Kd.foot_ne HR1.out (by omega) (by decide)) | (show (Addr.add _ _).block ≠ _; rw [add_block]; exact Kd.foot_ne HR1.out (by omega) (by decide)) | exact Kd.foot_ne HR1.out (by omega) (by decide) | (dsimp only; exact Kd.foot_ne HR1.out (by omega) (by decide)))
    have hlt308_0 := (Kd.foot_lt HR1.out (by omega) (by decide))
    replace p308 := eq_true p308
    replace q308 := eq_true q308
    refine st_ 15 (fun w' => w'.cell? (ad296.add ((t305).toNat * 2)) = some (.string ((rd_T74 l1 t305).f0)) ∧ w'.cell? ⟨(ad296.add ((t305).toNat * 2)).block, (ad296.add ((t305).toNat * 2)).off + 1, none⟩ = some (.int .i64 ((rd_T74 l1 t305).f1))) [] Fag.tab5 Fag.bits5 ⟨hx308_0, hx308_1⟩ fun hHeld HT_ HW_ => ?_
    generalize w53.drew = w54 at HO299 BK269 BK288 HI0 HK HB hx308_0 hx308_1 hHeld ⊢
    refine pu_ 0 44 ?_
    refine pu_ 1 45 ?_
    refine pu_ 2 46 ?_
    refine pu_ 7 51 ?_
    refine join_ (σ := Value) 6 (bz_ 15 0x1ff) (fun s_ => [(47, .int .i64 t305), (52, s_), (48, .pointer (some (ad296.add ((t305).toNat * 2)))), (49, .pointer (some ⟨(ad296.add ((t305).toNat * 2)).block, (ad296.add ((t305).toNat * 2)).off + 1, none⟩)), (50, .int .i64 ((rd_T74 l1 t305).f1))]) (fun s_ w' => (w'.cell? (ad296.add ((t305).toNat * 2)) = some (.string ((rd_T74 l1 t305).f0)) ∧ w'.cell? ⟨(ad296.add ((t305).toNat * 2)).block, (ad296.add ((t305).toNat * 2)).off + 1, none⟩ = some (.int .i64 ((rd_T74 l1 t305).f1))) ∧ (Kd.R (Kd.int .i64) 3 w' w.heap.size (fun k_ => some k_ ≠ (s_ : Value).ownBlock) (.slice Ao50 y297.length co50) y297) ∧ (Kd.R (Kd.int .i64) 3 w' w.heap.size (fun k_ => some k_ ≠ (.slice Ao50 y297.length co50 : Value).ownBlock) s_ y309) ∧ (w'.heap[gb269]? = some (.cells #[.string (⟨#[]⟩ : ByteArray), .int .i64 0, .int .i64 0] 40 (0, 0))) ∧ (w'.heap[gb288]? = some (.cells #[.string t273, .int .i64 t304, .int .i64 t285] 40 (0, 0))) ∧ (IsS60 w0 w' g s0_0 t306 t307) ∧ (KeepBut w w' g none) ∧ (Below w0.heap.size w0 w')) ?_ ?_
    rotate_left
    ·intro hCont
     refine two_ (i := 3) (j := 8) (Ni := some 47) (Nj := some 52) (bz_ 15 0x8f) (bz_ 15 0x187) rfl rfl rfl rfl (two_of HT_.out (by kernel_rfl)) (by decide) (by decide) (fun K hK => ?_) (fun K hK => ?_)
     ·skip
      refine gS_ Tryz.func51 #[.pointer (some ⟨g, 0, none⟩), .int .i64 (l1.length : Int)] ?_
      with_reducible refine (FaJ.calls g s0_0 t301 t302 (l1.length : Int) t305 t306 t307 w0 _ ?side1 ?side2 A39.out).mono ?_
      (case side1 => repeat (first | (with_reducible first | exact HI0.out | apply IsS60.alloc | apply IsS60.drewN | apply IsS60.drew | apply IsS60.set_1 | apply IsS60.set_2 | refine IsS60.far ?_ (Aside0.out z7_4_) _) | exact HI0.out))
      (case side2 => repeat (first | (with_reducible first | exact HB.out | apply lA_ | apply lN_ | apply lD_ | refine below_set ?_ (IsS60.ge HI0.out) | refine below_set ?_ GE269.out | refine below_set ?_ GE288.out) | exact HB.out))
      rintro e w55 ⟨rfl, hi, hb, hk⟩
      have HS0_ := keep_cell hk (hHeld.1) z7_13_
      have HS1_ := keep_cell hk (hHeld.2) z7_14_
      refine ⟨_, rfl, ?_⟩
      replace BK269 := aM_ (KeepBut.blk hk (g' := gb269) (o := .cells #[.string (⟨#[]⟩ : ByteArray), .int .i64 0, .int .i64 0] 40 (0, 0)) (kR_ BK269) NB269_0.out (by simp))
      replace BK288 := aM_ (KeepBut.blk hk (g' := gb288) (o := .cells #[.string t273, .int .i64 t304, .int .i64 t285] 40 (0, 0)) (kR_ BK288) NB288_0.out (by simp))
      replace HO299 := aM_ (Kd.R_mono (Kd.R_keep (IsS60.apart (show IsS60 w0 _ g s0_0 t301 t302 from by repeat (first | (with_reducible first | exact HI0.out | apply IsS60.alloc | apply IsS60.drewN | apply IsS60.drew | apply IsS60.set_1 | apply IsS60.set_2 | refine IsS60.far ?_ (Aside0.out z7_4_) _) | exact HI0.out)) (rR_ HO299) (by decide)) hk (fun _ h => h.2)) (fun _ h => h.1))
      replace HK := aM_ (KeepBut.trans z7_7_ hk (.inl rfl))
      replace HB := aM_ (hb)
      replace HI0 := aM_ (hi)
      (try clear hb)
      (try clear hb2)
      (try clear hk)
      (try clear hi)
      refine hK.out _ _ ⟨HS0_, HS1_⟩ (fun hHeld => ?_)
      clear hK K
      refine nm_ 47 ?_
      refine pu_ 4 48 ?_
      refine pu_ 5 49 ?_
      refine tk_ 6 50 ?_
      refine on_ 8 52 fun K hK => ?_
      refine Kd.R_lit_step (Kd.int .i64) _ 3 ?hg (N := 52) ?hd (xs := ([0, 5, (-5)] : List Int)) (inner := [.int .i64 0, .int .i64 5, .int .i64 (-5)]) (ok := fun _ => True) (okp := fun _ => True) ?hr ?hp (fun _ hk => hk) trivial (Below.refl _ _) (Nat.le_refl _) (by simp) ?_; (case hd => rfl); (case hg => rfl); (case hr => first | (go_simp; done) | (go_simp; rfl)); (case hp => exact (Reps.one (show Kd.M (Kd.int .i64) _ _ _ 0 [.int .i64 0] from rfl) (Reps.one (show Kd.M (Kd.int .i64) _ _ _ 5 [.int .i64 5] from rfl) (Reps.one (show Kd.M (Kd.int .i64) _ _ _ (-5) [.int .i64 (-5)] from rfl) (Reps.none _ _)))))
      intro v310 w56 ho57 hb hg_ hnew_
      have HS0_ := (hb.cell (World.block_lt_of_cell? _ _ (hHeld.1))).trans (hHeld.1)
      have HS1_ := (hb.cell (World.block_lt_of_cell? _ _ (hHeld.2))).trans (hHeld.2)
      clear hg_ hnew_
      (first | rw [← Ny309.out] at ho57 | (simp only [Int.reduceToNat] at ho57; rw [← Ny309.out] at ho57))
      have HO311 := aM_ (Kd.R_lower (Kd.R_new' ho57 (Kd.R_lt (rR_ HO299))) (keep_size (w := w) (g := g) (row := none) z7_7_))
      replace HO299 := rE_ HO299 ho57 hb
      replace BK269 := kB_ BK269 hb
      replace BK288 := kB_ BK288 hb
      replace HK := aM_ (KeepBut.trans z7_7_ (KeepBut.of_below hb g none) (.inl rfl))
      replace HB := aM_ (below_step z7_8_ hb)
      replace HI0 := aM_ (IsS60.below z7_3_ hb)
      clear hb ho57
      refine hK.out _ _ ⟨HS0_, HS1_⟩ (fun hHeld => ?_)
      clear hK K
      refine nm_ 52 ?_
      exact norm_ z7_11_ (hCont (v310) _ ⟨hHeld, (rM_ HO299 (fun _ hk => hk.2)), (rM_ HO311 (fun _ hk => hk.2)), (kR_ BK269), (kR_ BK288), z7_3_, z7_7_, z7_8_⟩)
     ·skip
      refine Kd.R_lit_step (Kd.int .i64) _ 3 ?hg (N := 52) ?hd (xs := ([0, 5, (-5)] : List Int)) (inner := [.int .i64 0, .int .i64 5, .int .i64 (-5)]) (ok := fun _ => True) (okp := fun _ => True) ?hr ?hp (fun _ hk => hk) trivial (Below.refl _ _) (Nat.le_refl _) (by simp) ?_; (case hd => rfl); (case hg => rfl); (case hr => first | (go_simp; done) | (go_simp; rfl)); (case hp => exact (Reps.one (show Kd.M (Kd.int .i64) _ _ _ 0 [.int .i64 0] from rfl) (Reps.one (show Kd.M (Kd.int .i64) _ _ _ 5 [.int .i64 5] from rfl) (Reps.one (show Kd.M (Kd.int .i64) _ _ _ (-5) [.int .i64 (-5)] from rfl) (Reps.none _ _)))))
      intro v310 w55 ho56 hb hg_ hnew_
      have HS0_ := (hb.cell (World.block_lt_of_cell? _ _ (hHeld.1))).trans (hHeld.1)
      have HS1_ := (hb.cell (World.block_lt_of_cell? _ _ (hHeld.2))).trans (hHeld.2)
      clear hg_ hnew_
      (first | rw [← Ny309.out] at ho56 | (simp only [Int.reduceToNat] at ho56; rw [← Ny309.out] at ho56))
      have HO311 := aM_ (Kd.R_lower (Kd.R_new' ho56 (Kd.R_lt (rR_ HO299))) (keep_size (w := w) (g := g) (row := none) z7_7_))
      replace HO299 := rE_ HO299 ho56 hb
      replace BK269 := kB_ BK269 hb
      replace BK288 := kB_ BK288 hb
      replace HK := aM_ (KeepBut.trans z7_7_ (KeepBut.of_below hb g none) (.inl rfl))
      replace HB := aM_ (below_step z7_8_ hb)
      replace HI0 := aM_ (IsS60.below z7_3_ hb)
      clear hb ho56
      refine hK.out _ _ ⟨HS0_, HS1_⟩ (fun hHeld => ?_)
      clear hK K
      refine nm_ 52 ?_
      refine on_ 3 47 fun K hK => ?_
      refine gS_ Tryz.func51 #[.pointer (some ⟨g, 0, none⟩), .int .i64 (l1.length : Int)] ?_
      with_reducible refine (FaJ.calls g s0_0 t301 t302 (l1.length : Int) t305 t306 t307 w0 _ ?side1 ?side2 A39.out).mono ?_
      (case side1 => repeat (first | (with_reducible first | exact HI0.out | apply IsS60.alloc | apply IsS60.drewN | apply IsS60.drew | apply IsS60.set_1 | apply IsS60.set_2 | refine IsS60.far ?_ (Aside0.out z7_4_) _) | exact HI0.out))
      (case side2 => repeat (first | (with_reducible first | exact HB.out | apply lA_ | apply lN_ | apply lD_ | refine below_set ?_ (IsS60.ge HI0.out) | refine below_set ?_ GE269.out | refine below_set ?_ GE288.out) | exact HB.out))
      rintro e w57 ⟨rfl, hi, hb, hk⟩
      have HS0_ := keep_cell hk (hHeld.1) z7_13_
      have HS1_ := keep_cell hk (hHeld.2) z7_14_
      refine ⟨_, rfl, ?_⟩
      replace BK269 := aM_ (KeepBut.blk hk (g' := gb269) (o := .cells #[.string (⟨#[]⟩ : ByteArray), .int .i64 0, .int .i64 0] 40 (0, 0)) (kR_ BK269) NB269_0.out (by simp))
      replace BK288 := aM_ (KeepBut.blk hk (g' := gb288) (o := .cells #[.string t273, .int .i64 t304, .int .i64 t285] 40 (0, 0)) (kR_ BK288) NB288_0.out (by simp))
      replace HO299 := aM_ (Kd.R_mono (Kd.R_keep (IsS60.apart (show IsS60 w0 _ g s0_0 t301 t302 from by repeat (first | (with_reducible first | exact HI0.out | apply IsS60.alloc | apply IsS60.drewN | apply IsS60.drew | apply IsS60.set_1 | apply IsS60.set_2 | refine IsS60.far ?_ (Aside0.out z7_4_) _) | exact HI0.out)) (rR_ HO299) (by decide)) hk (fun _ h => h.2)) (fun _ h => h.1))
      replace HO311 := aM_ (Kd.R_mono (Kd.R_keep (IsS60.apart (show IsS60 w0 _ g s0_0 t301 t302 from by repeat (first | (with_reducible first | exact HI0.out | apply IsS60.alloc | apply IsS60.drewN | apply IsS60.drew | apply IsS60.set_1 | apply IsS60.set_2 | refine IsS60.far ?_ (Aside0.out z7_4_) _) | exact HI0.out)) (rR_ HO311) (by decide)) hk (fun _ h => h.2)) (fun _ h => h.1))
      replace HK := aM_ (KeepBut.trans z7_7_ hk (.inl rfl))
      replace HB := aM_ (hb)
      replace HI0 := aM_ (hi)
      (try clear hb)
      (try clear hb2)
      (try clear hk)
      (try clear hi)
      refine hK.out _ _ ⟨HS0_, HS1_⟩ (fun hHeld => ?_)
      clear hK K
      refine nm_ 47 ?_
      refine pu_ 4 48 ?_
      refine pu_ 5 49 ?_
      refine tk_ 6 50 ?_
      exact norm_ z7_11_ (hCont (v310) _ ⟨hHeld, (rM_ HO299 (fun _ hk => hk.2)), (rM_ HO311 (fun _ hk => hk.2)), (kR_ BK269), (kR_ BK288), z7_3_, z7_7_, z7_8_⟩)
    rintro v310 w58 ⟨hS_, h0_, h1_, h2_, h3_, h4_, h5_, h6_⟩
    try dsimp only at h0_ h1_ h2_ h3_ h4_ h5_ h6_
    have n0_ := aM_ h0_; have n1_ := aM_ h1_; have n2_ := aM_ h2_; have n3_ := aM_ h3_; have n4_ := aM_ h4_; have n5_ := aM_ h5_; have n6_ := aM_ h6_
    clear HO299
    clear BK269
    clear BK288
    clear HI0
    clear HK
    clear HB
    clear h0_ h1_ h2_ h3_ h4_ h5_ h6_
    have HO299 := n0_
    have HO311 := n1_
    have BK269 := n2_
    have BK288 := n3_
    have HI0 := n4_
    have HK := n5_
    have HB := n6_
    clear n0_ n1_ n2_ n3_ n4_ n5_ n6_
    have hHeld : w58.cell? (ad296.add ((t305).toNat * 2)) = some (.string ((rd_T74 l1 t305).f0)) ∧ w58.cell? ⟨(ad296.add ((t305).toNat * 2)).block, (ad296.add ((t305).toNat * 2)).off + 1, none⟩ = some (.int .i64 ((rd_T74 l1 t305).f1)) := hS_
    obtain ⟨Ao59, co59, eo59⟩ := rS_ HO311
    (first | subst eo59 | (injection eo59 with f1_ f2_ f3_; have f4_ := f1_.symm; have f5_ := f3_.symm; clear f1_ f2_ f3_; subst f4_; subst f5_))
    refine norm_ (a' := ?_) ?_ ?_
    rotate_left
    ·simp only [putAll, Act.put, List.setIfInBounds_toArray, List.set_cons_zero, List.set_cons_succ]
     rfl
    refine on_ 9 53 fun K hK => ?_
    refine gS_ Tryz.func70 #[.pointer (some ⟨g, 0, none⟩), .slice Ao59 y309.length co59] ?_
    with_reducible refine (FaZ.calls g s0_0 t306 t307 _ _ y309 t312 t313 t314 w0 _ ?side1 ?side2 ?side3 ?side4 ?side5 A42.out).mono ?_
    (case side1 => repeat (first | (with_reducible first | exact HI0.out | apply IsS60.alloc | apply IsS60.drewN | apply IsS60.drew | apply IsS60.set_1 | apply IsS60.set_2 | refine IsS60.far ?_ (Aside0.out z7_4_) _) | exact HI0.out))
    (case side2 => repeat (first | (with_reducible first | exact HB.out | apply lA_ | apply lN_ | apply lD_ | refine below_set ?_ (IsS60.ge HI0.out) | refine below_set ?_ GE269.out | refine below_set ?_ GE288.out) | exact HB.out))
    (case side3 => exact cR_ HO311)
    (case side4 => exact (Kd.R_reads' HO311.out).2.1)
    (case side5 => exact far_slice (IsS60.own_ne HI0.out HO311.out (by decide)))
    rintro e w60 ⟨rfl, hi, hb, hk⟩
    have HS0_ := keep_cell hk (hHeld.1) z7_13_
    have HS1_ := keep_cell hk (hHeld.2) z7_14_
    refine ⟨_, rfl, ?_⟩
    replace BK269 := aM_ (KeepBut.blk hk (g' := gb269) (o := .cells #[.string (⟨#[]⟩ : ByteArray), .int .i64 0, .int .i64 0] 40 (0, 0)) (kR_ BK269) NB269_0.out (by simp))
    replace BK288 := aM_ (KeepBut.blk hk (g' := gb288) (o := .cells #[.string t273, .int .i64 t304, .int .i64 t285] 40 (0, 0)) (kR_ BK288) NB288_0.out (by simp))
    replace HO299 := aM_ (Kd.R_mono (Kd.R_keep (IsS60.apart (show IsS60 w0 _ g s0_0 t306 t307 from by repeat (first | (with_reducible first | exact HI0.out | apply IsS60.alloc | apply IsS60.drewN | apply IsS60.drew | apply IsS60.set_1 | apply IsS60.set_2 | refine IsS60.far ?_ (Aside0.out z7_4_) _) | exact HI0.out)) (rR_ HO299) (by decide)) hk (fun _ h => h.2)) (fun _ h => h.1))
    replace HO311 := aM_ (Kd.R_mono (Kd.R_keep (IsS60.apart (show IsS60 w0 _ g s0_0 t306 t307 from by repeat (first | (with_reducible first | exact HI0.out | apply IsS60.alloc | apply IsS60.drewN | apply IsS60.drew | apply IsS60.set_1 | apply IsS60.set_2 | refine IsS60.far ?_ (Aside0.out z7_4_) _) | exact HI0.out)) (rR_ HO311) (by decide)) hk (fun _ h => h.2)) (fun _ h => h.1))
    replace HK := aM_ (KeepBut.trans z7_7_ hk (.inl rfl))
    replace HB := aM_ (hb)
    replace HI0 := aM_ (hi)
    (try clear hb)
    (try clear hb2)
    (try clear hk)
    (try clear hi)
    refine hK.out _ _ ⟨HS0_, HS1_⟩ (fun hHeld => ?_)
    clear hK K
    refine nm_ 53 ?_
    refine pu_ 10 54 ?_
    refine on_ 11 55 fun K hK => ?_
    refine gS_ Tryz.func71 #[.int .i64 90, .int .i64 (wrap64 (((rd_T74 l1 t305).f1) + t312))] ?_
    with_reducible refine (Fbk.calls 90 (wrap64 (((rd_T74 l1 t305).f1) + t312)) t315 _ A43.out).mono ?_
    rintro e w' ⟨rfl, ⟨nd, rfl⟩⟩
    refine ⟨_, rfl, ?_⟩
    refine hK.out _ _ ⟨hHeld.1, hHeld.2⟩ (fun hHeld => ?_)
    clear hK K
    refine nm_ 55 ?_
    refine on_ 12 56 fun K hK => ?_
    refine gS_ Tryz.func69 #[.int .i64 (-90), .int .i64 t315] ?_
    with_reducible refine (Fbh.calls (-90) t315 t316 _ A44.out).mono ?_
    rintro e w' ⟨rfl, ⟨nd, rfl⟩⟩
    refine ⟨_, rfl, ?_⟩
    refine hK.out _ _ ⟨hHeld.1, hHeld.2⟩ (fun hHeld => ?_)
    clear hK K
    refine nm_ 56 ?_
    refine pu_ 13 57 ?_
    refine one_ (i := 14) (N := none) (bz_ 15 0x7fff) rfl rfl (one_of HT_.out (by kernel_rfl)) (by decide) (fun K hK => ?_)
    have hs61 : w60.cell? ⟨gb288, 2, none⟩ = some (.int .i64 t285) := (blk_cell BK288.out 2).trans rfl
    have hfs61 := blk_frozen BK288.out 2
    have hns61_0 := NB269_288.out
    have hms61_0 := NB288_269.out
    refine skip_ (w1 := ?_) (by rfl) rfl ?_ ?_
    rotate_left
    ·go_simp
     rfl
    refine hK.out _ _ ⟨((cell_far (p := ⟨gb288, _, none⟩) (by first | exact Nat.ne_of_lt (Nat.lt_of_lt_of_le hlt308_0 GW288.out) | (rw [add_block]; exact Nat.ne_of_lt (Nat.lt_of_lt_of_le hlt308_0 GW288.out)) | (show (Addr.add _ _).block ≠ _; rw [add_block]; exact Nat.ne_of_lt (Nat.lt_of_lt_of_le hlt308_0 GW288.out)) | (dsimp only; exact Nat.ne_of_lt (Nat.lt_of_lt_of_le hlt308_0 GW288.out))) _).trans (hHeld.1)), ((cell_far (p := ⟨gb288, _, none⟩) (by first | exact Nat.ne_of_lt (Nat.lt_of_lt_of_le hlt308_1 GW288.out) | (rw [add_block]; exact Nat.ne_of_lt (Nat.lt_of_lt_of_le hlt308_1 GW288.out)) | (show (Addr.add _ _).block ≠ _; rw [add_block]; exact Nat.ne_of_lt (Nat.lt_of_lt_of_le hlt308_1 GW288.out)) | (dsimp only; exact Nat.ne_of_lt (Nat.lt_of_lt_of_le hlt308_1 GW288.out))) _).trans (hHeld.2))⟩ (fun hHeld => ?_)
    clear hK K
    refine dn_ ?_
    try go_wp2
    go_meet
    case rel => exact ⟨_, (t313), (t314), (t304), (t316), H', ⟨by have := HJ5.out; first | omega | exact Nat.le_refl _⟩, ⟨z7_12_⟩, ⟨by (with_reducible repeat (first | apply kN_ | apply kD_ | apply kA_)); refine blk_put (cs := #[.string t273, .int .i64 t304, .int .i64 t285]) ?_ 2 _ rfl; (with_reducible repeat (first | apply kN_ | apply kD_ | apply kA_)); exact BK288.out⟩, ⟨z7_3_⟩, ⟨z7_7_⟩, ⟨z7_8_⟩⟩
   case rest =>
    clear HC31
    obtain ⟨kq, x1001_30, x1002_30, x289001_30, x289002_30, HA, HJ30, BK269, BK288, HI0, HK, HB⟩ := hcut
    cases kq with
    | zero => exact absurd HA.out (by simp [Fag.j1])
    | succ kj30 =>
     have H := HA.out
     clear HA
     simp only [Fag.j1] at H
     replace H := ob_ H; obtain ⟨⟨t317, t318, t319⟩, A62, H⟩ := H; try dsimp only at H
     have HC63 := aM_ H
     clear H
     go_upto_if 60 with (first | ((with_reducible refine gC_ 51 ?_); refine gM_ (some 59) Tryz.func51 #[.pointer (some ⟨g, 0, none⟩), .int .i64 40] ?_; (with_reducible refine (FaJ.calls g s0_0 x1001_30 x1002_30 40 t317 t318 t319 w0 _ ?_ ?_ A62.out).mono ?_); exact z7_3_; exact z7_8_; rintro e w64 ⟨rfl, hi, hb, hk⟩; refine ⟨_, rfl, ?_⟩; replace BK269 := aM_ (KeepBut.blk hk (g' := gb269) (o := .cells #[.string (⟨#[]⟩ : ByteArray), .int .i64 0, .int .i64 0] 40 (0, 0)) (kR_ BK269) NB269_0.out (by simp)); replace BK288 := aM_ (KeepBut.blk hk (g' := gb288) (o := .cells #[.string t273, .int .i64 x289001_30, .int .i64 x289002_30] 40 (0, 0)) (kR_ BK288) NB288_0.out (by simp)); replace HK := aM_ (KeepBut.trans z7_7_ hk (.inl rfl)); replace HB := aM_ (hb); replace HI0 := aM_ (hi); (try clear hb); (try clear hk); (try clear hi)))
     (try simp only [Act.put, List.setIfInBounds_toArray, List.set_cons_zero, List.set_cons_succ])
     have H := HC63.out
     clear HC63
     by_cases c65 : t317 = 0
     ·rw [if_pos c65] at H
      have c65b0 : (t317 == 0) = true := beq_iff_eq.mpr c65
      have c65b1 : (t317 != 0) = false := bne_eq_false_iff_eq.mpr c65
      clear c65
      (first | rw [c65b0] | (simp only [i64_w, i32_w]; rw [c65b0]) | skip)
      obtain ⟨y320, hy320⟩ : ∃ y_ : List ByteArray, y_ = (([(⟨#[]⟩ : ByteArray), (⟨#[103, 105, 118, 101]⟩ : ByteArray), (⟨#[78, 73, 78, 69, 76, 69, 84, 84, 82]⟩ : ByteArray)] : List ByteArray)) := ⟨_, rfl⟩
      rw [← hy320] at H
      have Ny320 := aM_ hy320; clear hy320
      replace H := ob_ H; obtain ⟨⟨t323, t324, t325⟩, A66, H⟩ := H; try dsimp only at H
      simp only [Option.some.injEq, Prod.mk.injEq] at H
      obtain ⟨rfl, rfl, rfl, rfl, rfl⟩ := H
      go_wp2_with (first | ((with_reducible refine gD_ 63 ?_); refine rl_ Kd.string 9 63 ([(⟨#[]⟩ : ByteArray), (⟨#[103, 105, 118, 101]⟩ : ByteArray), (⟨#[78, 73, 78, 69, 76, 69, 84, 84, 82]⟩ : ByteArray)] : List ByteArray) [.string (⟨#[]⟩ : ByteArray), .string (⟨#[103, 105, 118, 101]⟩ : ByteArray), .string (⟨#[78, 73, 78, 69, 76, 69, 84, 84, 82]⟩ : ByteArray)] (Reps.one (show Kd.M Kd.string _ _ _ (⟨#[]⟩ : ByteArray) [.string (⟨#[]⟩ : ByteArray)] from rfl) (Reps.one (show Kd.M Kd.string _ _ _ (⟨#[103, 105, 118, 101]⟩ : ByteArray) [.string (⟨#[103, 105, 118, 101]⟩ : ByteArray)] from rfl) (Reps.one (show Kd.M Kd.string _ _ _ (⟨#[78, 73, 78, 69, 76, 69, 84, 84, 82]⟩ : ByteArray) [.string (⟨#[78, 73, 78, 69, 76, 69, 84, 84, 82]⟩ : ByteArray)] from rfl) (Reps.none _ _)))) ?_; intro v321 w67 ho68 hb hg_ hnew_; clear hg_ hnew_; (first | rw [← Ny320.out] at ho68 | (simp only [Int.reduceToNat] at ho68; rw [← Ny320.out] at ho68)); have HO322 := aM_ (Kd.R_lower ho68 (keep_size (w := w) (g := g) (row := none) z7_7_)); replace BK269 := kB_ BK269 hb; replace BK288 := kB_ BK288 hb; replace HK := aM_ (KeepBut.trans z7_7_ (KeepBut.of_below hb g none) (.inl rfl)); replace HB := aM_ (below_step z7_8_ hb); replace HI0 := aM_ (IsS60.below z7_3_ hb); clear hb ho68; obtain ⟨Ao69, co69, eo69⟩ := rS_ HO322; subst eo69) | ((with_reducible refine gC_ 33 ?_); refine gM_ (some 64) Tryz.func33 #[.pointer (some ⟨g, 0, none⟩), .slice Ao69 y320.length co69] ?_; (with_reducible refine (Fba.calls g s0_0 t318 t319 _ _ y320 t323 t324 t325 w0 _ ?_ ?_ ?_ ?_ ?_ A66.out).mono ?_); exact z7_3_; exact z7_8_; exact cR_ HO322; exact (Kd.R_reads' HO322.out).2.1; exact far_slice (IsS60.own_ne HI0.out HO322.out (by decide)); rintro e w70 ⟨rfl, hi, hb, hk⟩; refine ⟨_, rfl, ?_⟩; replace BK269 := aM_ (KeepBut.blk hk (g' := gb269) (o := .cells #[.string (⟨#[]⟩ : ByteArray), .int .i64 0, .int .i64 0] 40 (0, 0)) (kR_ BK269) NB269_0.out (by simp)); replace BK288 := aM_ (KeepBut.blk hk (g' := gb288) (o := .cells #[.string t273, .int .i64 x289001_30, .int .i64 x289002_30] 40 (0, 0)) (kR_ BK288) NB288_0.out (by simp)); replace HO322 := aM_ (Kd.R_mono (Kd.R_keep (IsS60.apart (show IsS60 w0 _ g s0_0 t318 t319 from by repeat (first | (with_reducible first | exact HI0.out | apply IsS60.alloc | apply IsS60.drewN | apply IsS60.drew | apply IsS60.set_1 | apply IsS60.set_2 | refine IsS60.far ?_ (Aside0.out z7_4_) _) | exact HI0.out)) (rR_ HO322) (by decide)) hk (fun _ h => h.2)) (fun _ h => h.1)); replace HK := aM_ (KeepBut.trans z7_7_ hk (.inl rfl)); replace HB := aM_ (hb); replace HI0 := aM_ (hi); (try clear hb); (try clear hk); (try clear hi); have hnb71 := NB288_269.out; have hnc71 := NB269_288.out; have hnb72 := NB288_0.out; have hnc72 := NB0_288.out; have hz73 := cf3_ BK288.out; have hnb74 := NB269_0.out; have hnc74 := NB0_269.out; have hz75 := cf3_ BK269.out))
      refine bodyPost_ret (results_cell_row rfl _ _ gb269 40 #[.string t323, .int .i64 x289001_30, .int .i64 x289002_30] (0, 0) _ rfl (by (with_reducible repeat (first | apply kN_ | apply kD_ | apply kA_)); refine blk_put (cs := #[.string t323, .int .i64 x289001_30, .int .i64 0]) ?_ 2 _ rfl; (with_reducible repeat (first | apply kN_ | apply kD_ | apply kA_)); refine blk_put (cs := #[.string t323, .int .i64 0, .int .i64 0]) ?_ 1 _ rfl; (with_reducible repeat (first | apply kN_ | apply kD_ | apply kA_)); refine blk_put (cs := #[.string (⟨#[]⟩ : ByteArray), .int .i64 0, .int .i64 0]) ?_ 0 _ rfl; exact kR_ BK269) Tryz.underlying40 rfl (by kernel_rfl)) rfl ?_
      exact ⟨rT_, z7_3_, z7_8_, z7_7_⟩
     rw [if_neg c65] at H
     have c65b0 : (t317 == 0) = false := beq_eq_false_iff_ne.mpr c65
     have c65b1 : (t317 != 0) = true := bne_iff_ne.mpr c65
     (first | rw [c65b0] | (simp only [i64_w, i32_w]; rw [c65b0]) | skip)
     by_cases c76 : t317 = 1
     ·rw [if_pos c76] at H
      have c76b0 : (t317 == 1) = true := beq_iff_eq.mpr c76
      have c76b1 : (t317 != 1) = false := bne_eq_false_iff_eq.mpr c76
      clear c76
      obtain ⟨y326, hy326⟩ : ∃ y_ : List Int, y_ = (([(-91), 91, x289002_30, (-9223372036854775808)] : List Int)) := ⟨_, rfl⟩
      rw [← hy326] at H
      have Ny326 := aM_ hy326; clear hy326
      replace H := ob_ H; obtain ⟨⟨t329, t330, t331⟩, A77, H⟩ := H; try dsimp only at H
      simp only [Option.some.injEq, Prod.mk.injEq] at H
      obtain ⟨rfl, rfl, rfl, rfl, rfl⟩ := H
      have hnb78 := NB288_269.out
      have hnc78 := NB269_288.out
      have hnb79 := NB288_0.out
      have hnc79 := NB0_288.out
      have hz80 := cf3_ BK288.out
      go_wp2_with (first | ((with_reducible refine gD_ 71 ?_); refine rl_ (Kd.int .i64) 3 71 ([(-91), 91, x289002_30, (-9223372036854775808)] : List Int) [.int .i64 (-91), .int .i64 91, .int .i64 x289002_30, .int .i64 (-9223372036854775808)] (Reps.one (show Kd.M (Kd.int .i64) _ _ _ (-91) [.int .i64 (-91)] from rfl) (Reps.one (show Kd.M (Kd.int .i64) _ _ _ 91 [.int .i64 91] from rfl) (Reps.one (show Kd.M (Kd.int .i64) _ _ _ x289002_30 [.int .i64 x289002_30] from rfl) (Reps.one (show Kd.M (Kd.int .i64) _ _ _ (-9223372036854775808) [.int .i64 (-9223372036854775808)] from rfl) (Reps.none _ _))))) ?_; intro v327 w81 ho82 hb hg_ hnew_; clear hg_ hnew_; (first | rw [← Ny326.out] at ho82 | (simp only [Int.reduceToNat] at ho82; rw [← Ny326.out] at ho82)); have HO328 := aM_ (Kd.R_lower ho82 (keep_size (w := w) (g := g) (row := none) z7_7_)); replace BK269 := kB_ BK269 hb; replace BK288 := kB_ BK288 hb; replace HK := aM_ (KeepBut.trans z7_7_ (KeepBut.of_below hb g none) (.inl rfl)); replace HB := aM_ (below_step z7_8_ hb); replace HI0 := aM_ (IsS60.below z7_3_ hb); clear hb ho82; obtain ⟨Ao83, co83, eo83⟩ := rS_ HO328; subst eo83) | ((with_reducible refine gC_ 70 ?_); refine gM_ (some 72) Tryz.func70 #[.pointer (some ⟨g, 0, none⟩), .slice Ao83 y326.length co83] ?_; (with_reducible refine (FaZ.calls g s0_0 t318 t319 _ _ y326 t329 t330 t331 w0 _ ?_ ?_ ?_ ?_ ?_ A77.out).mono ?_); exact z7_3_; exact z7_8_; exact cR_ HO328; exact (Kd.R_reads' HO328.out).2.1; exact far_slice (IsS60.own_ne HI0.out HO328.out (by decide)); rintro e w84 ⟨rfl, hi, hb, hk⟩; refine ⟨_, rfl, ?_⟩; replace BK269 := aM_ (KeepBut.blk hk (g' := gb269) (o := .cells #[.string (⟨#[]⟩ : ByteArray), .int .i64 0, .int .i64 0] 40 (0, 0)) (kR_ BK269) NB269_0.out (by simp)); replace BK288 := aM_ (KeepBut.blk hk (g' := gb288) (o := .cells #[.string t273, .int .i64 x289001_30, .int .i64 x289002_30] 40 (0, 0)) (kR_ BK288) NB288_0.out (by simp)); replace HO328 := aM_ (Kd.R_mono (Kd.R_keep (IsS60.apart (show IsS60 w0 _ g s0_0 t318 t319 from by repeat (first | (with_reducible first | exact HI0.out | apply IsS60.alloc | apply IsS60.drewN | apply IsS60.drew | apply IsS60.set_1 | apply IsS60.set_2 | refine IsS60.far ?_ (Aside0.out z7_4_) _) | exact HI0.out)) (rR_ HO328) (by decide)) hk (fun _ h => h.2)) (fun _ h => h.1)); replace HK := aM_ (KeepBut.trans z7_7_ hk (.inl rfl)); replace HB := aM_ (hb); replace HI0 := aM_ (hi); (try clear hb); (try clear hk); (try clear hi); have hz85 := cf3_ BK288.out; have hnb86 := NB269_0.out; have hnc86 := NB0_269.out; have hz87 := cf3_ BK269.out))
      refine bodyPost_ret (results_cell_row rfl _ _ gb269 40 #[.string t273, .int .i64 t329, .int .i64 x289002_30] (0, 0) _ rfl (by (with_reducible repeat (first | apply kN_ | apply kD_ | apply kA_)); refine blk_put (cs := #[.string t273, .int .i64 t329, .int .i64 0]) ?_ 2 _ rfl; (with_reducible repeat (first | apply kN_ | apply kD_ | apply kA_)); refine blk_put (cs := #[.string t273, .int .i64 0, .int .i64 0]) ?_ 1 _ rfl; (with_reducible repeat (first | apply kN_ | apply kD_ | apply kA_)); refine blk_put (cs := #[.string (⟨#[]⟩ : ByteArray), .int .i64 0, .int .i64 0]) ?_ 0 _ rfl; exact kR_ BK269) Tryz.underlying40 rfl (by kernel_rfl)) rfl ?_
      exact ⟨rT_, z7_3_, z7_8_, z7_7_⟩
     rw [if_neg c76] at H
     have c76b0 : (t317 == 1) = false := beq_eq_false_iff_ne.mpr c76
     have c76b1 : (t317 != 1) = true := bne_iff_ne.mpr c76
     by_cases c88 : t317 = 2
     rotate_left
     ·rw [if_neg c88] at H
      have c88b0 : (t317 == 2) = false := beq_eq_false_iff_ne.mpr c88
      have c88b1 : (t317 != 2) = true := bne_iff_ne.mpr c88
      simp only [Option.some.injEq, Prod.mk.injEq] at H
      obtain ⟨rfl, rfl, rfl, rfl, rfl⟩ := H
      have hnb99 := NB288_269.out
      have hnc99 := NB269_288.out
      have hnb100 := NB288_0.out
      have hnc100 := NB0_288.out
      have hz101 := cf3_ BK288.out
      clear BK288
      have hnb102 := NB269_0.out
      have hnc102 := NB0_269.out
      have hz103 := cf3_ BK269.out
      go_wp2
      refine bodyPost_ret (results_cell_row rfl _ _ gb269 40 #[.string t273, .int .i64 x289001_30, .int .i64 x289002_30] (0, 0) _ rfl (by (with_reducible repeat (first | apply kN_ | apply kD_ | apply kA_)); refine blk_put (cs := #[.string t273, .int .i64 x289001_30, .int .i64 0]) ?_ 2 _ rfl; (with_reducible repeat (first | apply kN_ | apply kD_ | apply kA_)); refine blk_put (cs := #[.string t273, .int .i64 0, .int .i64 0]) ?_ 1 _ rfl; (with_reducible repeat (first | apply kN_ | apply kD_ | apply kA_)); refine blk_put (cs := #[.string (⟨#[]⟩ : ByteArray), .int .i64 0, .int .i64 0]) ?_ 0 _ rfl; (with_reducible repeat (first | apply kN_ | apply kD_ | apply kA_)); exact BK269.out) Tryz.underlying40 rfl (by kernel_rfl)) rfl ?_
      exact ⟨rT_, z7_3_, z7_2_, z7_1_⟩
     rw [if_pos c88] at H
     have c88b0 : (t317 == 2) = true := beq_iff_eq.mpr c88
     have c88b1 : (t317 != 2) = false := bne_eq_false_iff_eq.mpr c88
     clear c88
     obtain ⟨y332, hy332⟩ : ∃ y_ : List Int, y_ = (([(-91), 91] : List Int)) := ⟨_, rfl⟩
     rw [← hy332] at H
     have Ny332 := aM_ hy332; clear hy332
     replace H := ob_ H; obtain ⟨⟨t335, t336, t337⟩, A89, H⟩ := H; try dsimp only at H
     simp only [Option.some.injEq, Prod.mk.injEq] at H
     obtain ⟨rfl, rfl, rfl, rfl, rfl⟩ := H
     go_wp2_with (first | ((with_reducible refine gD_ 77 ?_); refine rl_ (Kd.int .i64) 3 77 ([(-91), 91] : List Int) [.int .i64 (-91), .int .i64 91] (Reps.one (show Kd.M (Kd.int .i64) _ _ _ (-91) [.int .i64 (-91)] from rfl) (Reps.one (show Kd.M (Kd.int .i64) _ _ _ 91 [.int .i64 91] from rfl) (Reps.none _ _))) ?_; intro v333 w90 ho91 hb hg_ hnew_; clear hg_ hnew_; (first | rw [← Ny332.out] at ho91 | (simp only [Int.reduceToNat] at ho91; rw [← Ny332.out] at ho91)); have HO334 := aM_ (Kd.R_lower ho91 (keep_size (w := w) (g := g) (row := none) z7_7_)); replace BK269 := kB_ BK269 hb; replace BK288 := kB_ BK288 hb; replace HK := aM_ (KeepBut.trans z7_7_ (KeepBut.of_below hb g none) (.inl rfl)); replace HB := aM_ (below_step z7_8_ hb); replace HI0 := aM_ (IsS60.below z7_3_ hb); clear hb ho91; obtain ⟨Ao92, co92, eo92⟩ := rS_ HO334; subst eo92) | ((with_reducible refine gC_ 70 ?_); refine gM_ (some 78) Tryz.func70 #[.pointer (some ⟨g, 0, none⟩), .slice Ao92 y332.length co92] ?_; (with_reducible refine (FaZ.calls g s0_0 t318 t319 _ _ y332 t335 t336 t337 w0 _ ?_ ?_ ?_ ?_ ?_ A89.out).mono ?_); exact z7_3_; exact z7_8_; exact cR_ HO334; exact (Kd.R_reads' HO334.out).2.1; exact far_slice (IsS60.own_ne HI0.out HO334.out (by decide)); rintro e w93 ⟨rfl, hi, hb, hk⟩; refine ⟨_, rfl, ?_⟩; replace BK269 := aM_ (KeepBut.blk hk (g' := gb269) (o := .cells #[.string (⟨#[]⟩ : ByteArray), .int .i64 0, .int .i64 0] 40 (0, 0)) (kR_ BK269) NB269_0.out (by simp)); replace BK288 := aM_ (KeepBut.blk hk (g' := gb288) (o := .cells #[.string t273, .int .i64 x289001_30, .int .i64 x289002_30] 40 (0, 0)) (kR_ BK288) NB288_0.out (by simp)); replace HO334 := aM_ (Kd.R_mono (Kd.R_keep (IsS60.apart (show IsS60 w0 _ g s0_0 t318 t319 from by repeat (first | (with_reducible first | exact HI0.out | apply IsS60.alloc | apply IsS60.drewN | apply IsS60.drew | apply IsS60.set_1 | apply IsS60.set_2 | refine IsS60.far ?_ (Aside0.out z7_4_) _) | exact HI0.out)) (rR_ HO334) (by decide)) hk (fun _ h => h.2)) (fun _ h => h.1)); replace HK := aM_ (KeepBut.trans z7_7_ hk (.inl rfl)); replace HB := aM_ (hb); replace HI0 := aM_ (hi); (try clear hb); (try clear hk); (try clear hi); have hnb94 := NB288_269.out; have hnc94 := NB269_288.out; have hnb95 := NB288_0.out; have hnc95 := NB0_288.out; have hz96 := cf3_ BK288.out; have hnb97 := NB269_0.out; have hnc97 := NB0_269.out; have hz98 := cf3_ BK269.out))
     refine bodyPost_ret (results_cell_row rfl _ _ gb269 40 #[.string t273, .int .i64 x289001_30, .int .i64 t335] (0, 0) _ rfl (by (with_reducible repeat (first | apply kN_ | apply kD_ | apply kA_)); refine blk_put (cs := #[.string t273, .int .i64 x289001_30, .int .i64 0]) ?_ 2 _ rfl; (with_reducible repeat (first | apply kN_ | apply kD_ | apply kA_)); refine blk_put (cs := #[.string t273, .int .i64 0, .int .i64 0]) ?_ 1 _ rfl; (with_reducible repeat (first | apply kN_ | apply kD_ | apply kA_)); refine blk_put (cs := #[.string (⟨#[]⟩ : ByteArray), .int .i64 0, .int .i64 0]) ?_ 0 _ rfl; exact kR_ BK269) Tryz.underlying40 rfl (by kernel_rfl)) rfl ?_
     exact ⟨rT_, z7_3_, z7_8_, z7_7_⟩

end Go.Proofs.YtbfkpgmdbafmhaaGreat.PFnVerbRuns
