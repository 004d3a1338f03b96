/- Printed for this claim: functions of the program as Lean functions, and that the calls answer so. -/
import Derived.Test.YtfkdlfbjkdkffaaGreatDoorPFnVerbsx0
import Derived.Test.YtfkdlfbjkdkffaaGreatDoorPFnVerbsx2
import Derived.Test.YtfkdlfbjkdkffaaGreatDoorPFnVerbsx3
import Derived.Test.YtfkdlfbjkdkffaaGreatDoorPFnVerbsx6
import Derived.Test.YtfkdlfbjkdkffaaGreatDoorPFnVerbsx10
import Derived.Test.YtfkdlfbjkdkffaaGreatDoorPFnVerbsxD0
namespace Go.Proofs.YtfkdlfbjkdkffaaGreatDoor.PFnVerbs
open Go.RowKit Go.Proofs.YtfkdlfbjkdkffaaGreatDoorW.PrintWords Go.Proofs.YtfkdlfbjkdkffaaGreatDoorW.PrintLast Go.Proofs.YtfkdlfbjkdkffaaGreatDoorW.PrintMore
attribute [local go_sem] max2_int min2_int max_two min_two max_three min_three max_four min_four isSome_setCell   -- for this text's walks alone
set_option linter.unusedVariables false
set_option linter.unusedSimpArgs false

theorem z11_0_ {p : Prop} (h : p := by repeat (first | (with_reducible first | exact HK.out | apply KeepBut.set_ | apply keep_drewN | apply keep_drew | apply keep_alloc) | exact HK.out)) : p := h
theorem z11_1_ {p : Prop} (h : p := by repeat (first | (with_reducible first | exact HK.out | apply KeepBut.set_ | apply keep_drewN | apply keep_drew | apply keep_alloc | refine keep_far ?_ GW354.out _) | exact HK.out)) : p := h
theorem z11_2_ {p : Prop} (h : p := by repeat (first | (with_reducible first | exact HB.out | apply lA_ | apply lN_ | apply lD_ | refine below_set ?_ (IsS70.ge HI0.out) | refine below_set ?_ GE354.out) | exact HB.out)) : p := h
theorem z11_3_ {p : Prop} (h : p := by repeat (first | (with_reducible first | exact HI0.out | apply IsS70.alloc | apply IsS70.drewN | apply IsS70.drew | apply IsS70.set_1 | apply IsS70.set_2 | refine IsS70.far ?_ (Aside0.out (by assumption)) _) | exact HI0.out)) : p := h
theorem z11_4_ {p : Prop} (h : p := by assumption) : p := h
theorem z11_5_ {p : Prop} (h : p := by first | rfl | (simp; done) | (simp [*]; done)) : p := h
theorem z11_6_ {p : Prop} (h : p := by (with_reducible repeat (first | apply kN_ | apply kD_ | apply kA_)); refine blk_put (cs := #[.string t358, .int .i64 t364, .int .i64 0]) ?_ 2 _ rfl; (with_reducible repeat (first | apply kN_ | apply kD_ | apply kA_)); refine blk_put (cs := #[.string t358, .int .i64 0, .int .i64 0]) ?_ 1 _ rfl; (with_reducible repeat (first | apply kN_ | apply kD_ | apply kA_)); refine blk_put (cs := #[.string (⟨#[]⟩ : ByteArray), .int .i64 0, .int .i64 0]) ?_ 0 _ rfl; (with_reducible repeat (first | apply kN_ | apply kD_ | apply kA_)); exact BK373.out) : p := h
theorem z11_7_ {p : Prop} (h : p := by repeat (first | (with_reducible first | exact HK.out | apply KeepBut.set_ | apply keep_drewN | apply keep_drew | apply keep_alloc | refine keep_far ?_ GW354.out _ | refine keep_far ?_ GW373.out _) | exact HK.out)) : p := h
theorem z11_8_ {p : Prop} (h : p := by repeat (first | (with_reducible first | exact HB.out | apply lA_ | apply lN_ | apply lD_ | refine below_set ?_ (IsS70.ge HI0.out) | refine below_set ?_ GE354.out | refine below_set ?_ GE373.out) | exact HB.out)) : p := h
theorem z11_9_ {p : Prop} (h : p := by first | (rw [add_block]; exact hne381_0) | (show (Addr.add _ _).block ≠ _; rw [add_block]; exact hne381_0) | exact hne381_0) : p := h
theorem z11_10_ {p : Prop} (h : p := by first | (rw [add_block]; exact hne381_1) | (show (Addr.add _ _).block ≠ _; rw [add_block]; exact hne381_1) | exact hne381_1) : p := h
theorem z11_11_ {p : Prop} (h : p := by simp only [putAll, Act.put, List.setIfInBounds_toArray, List.set_cons_zero, List.set_cons_succ]) : p := h
theorem z11_12_ {p : Prop} (h : p := by (with_reducible repeat (first | apply kN_ | apply kD_ | apply kA_)); refine blk_far ?_ NB354_373.out _; (with_reducible repeat (first | apply kN_ | apply kD_ | apply kA_)); exact BK354.out) : p := h
theorem z11_13_ {p : Prop} (h : p := by first | (rw [add_block]; exact hne393_0) | (show (Addr.add _ _).block ≠ _; rw [add_block]; exact hne393_0) | exact hne393_0) : p := h
theorem z11_14_ {p : Prop} (h : p := by first | (rw [add_block]; exact hne393_1) | (show (Addr.add _ _).block ≠ _; rw [add_block]; exact hne393_1) | exact hne393_1) : p := h
/-! ### spec_l1Cur_verb: function 52 -/
def spec_l1Cur_verb.T4 : Bool × List (List Nat × List Nat) := (true, [([], []), ([], []), ([], []), ([1, 2], [1, 2]), ([0, 3], [0, 3]), ([4], [4]), ([5], [5]), ([], []), ([], []), ([7, 8, 3], [7, 8]), ([6, 9], [6, 9]), ([10, 9], [10]), ([11, 11], [11]), ([0, 1, 2, 3, 4, 5, 6, 7, 8, 9, 10, 11, 12], []), ([13, 12, 12, 0, 1, 2, 3, 4, 5, 6, 7, 8, 9, 10, 11, 12], [12, 13])])
def spec_l1Cur_verb.B4 : List Nat := [0, 0, 0, 6, 15, 31, 63, 0, 0, 398, 1023, 2047, 4095, 8191, 16383]
theorem spec_l1Cur_verb.tab4 : rtab .any (opsOf Tryz.f52 4) = spec_l1Cur_verb.T4 := by kernel_rfl
theorem spec_l1Cur_verb.bits4 : waitsOk spec_l1Cur_verb.T4.2 spec_l1Cur_verb.B4 = true := by kernel_rfl
def spec_l1Cur_verb.T5 : Bool × List (List Nat × List Nat) := (true, [([], []), ([], []), ([], []), ([1, 2], [1, 2]), ([0, 3], [0, 3]), ([4], [4]), ([5], [5]), ([], []), ([], []), ([7, 8, 3], [7, 8]), ([6, 9], [6, 9]), ([10, 9], [10]), ([11, 11], [11]), ([0, 1, 2, 3, 4, 5, 6, 7, 8, 9, 10, 11, 12], []), ([13, 12, 12, 0, 1, 2, 3, 4, 5, 6, 7, 8, 9, 10, 11, 12], [12, 13])])
def spec_l1Cur_verb.B5 : List Nat := [0, 0, 0, 6, 15, 31, 63, 0, 0, 398, 1023, 2047, 4095, 8191, 16383]
theorem spec_l1Cur_verb.tab5 : rtab .any (opsOf Tryz.f52 5) = spec_l1Cur_verb.T5 := by kernel_rfl
theorem spec_l1Cur_verb.bits5 : waitsOk spec_l1Cur_verb.T5.2 spec_l1Cur_verb.B5 = true := by kernel_rfl
set_option maxHeartbeats 8000000 in
set_option maxRecDepth 100000 in
theorem spec_l1Cur_verb.calls (k : Nat) (g : Nat) (s0_0 : List Int) (s0_1 : Int) (s0_2 : Int) (A1 : Option Addr) (c1 : Nat) (l1 : List (S58)) (r1 : ByteArray) (r2 : Int) (r3 : Int) (r4 : Int) (r5 : Int) (w0 w : World) (hI : IsS70 w0 w g s0_0 s0_1 s0_2) (hB : Below w0.heap.size w0 w) (hr1 : ∀ W_, KeepBut w W_ g none → Kd.C k58 W_ A1 l1.length l1) (hc1 : l1.length ≤ c1) (h : spec_l1Cur_verb.f k s0_0 s0_1 s0_2 l1 = some (r1, r2, r3, r4, r5)) :
 Calls Tryz.prog 52 #[.pointer (some ⟨g, 0, none⟩), .slice A1 l1.length c1] w fun e w' => e = .returned (.agg #[.string r1, .int .i64 r2, .int .i64 r3]) ∧ IsS70 w0 w' g s0_0 r4 r5 ∧ Below w0.heap.size w0 w' ∧ KeepBut w w' g none := by
 have hu27 := Tryz.underlying27
 have HR1 := Aside0.mk hr1
 have HC1 := Aside0.mk hc1
 clear hr1 hc1
 have HI0 := Aside0.mk hI
 have HK := Aside0.mk (KeepBut.refl w g none)
 have HL := Aside0.mk hB.size
 clear hI
 have HW0 := Aside0.mk hB.size
 have HB := Aside0.mk hB
 clear hB
 have H : ((spec_l1Cur_of.f s0_0 s0_1 s0_2 (([(⟨#[71, 73, 86, 69]⟩ : ByteArray), (⟨#[71, 73, 86, 69]⟩ : ByteArray), (⟨#[65, 83, 75]⟩ : ByteArray), (⟨#[83, 72, 79, 87]⟩ : ByteArray), (⟨#[84, 69, 76, 76]⟩ : ByteArray)] : List ByteArray))).bind fun bt358 => ((spec_l1Cur_among.f s0_0 bt358.2.1 bt358.2.2 (([(-90), (-40), 0, 30, 90] : List Int))).bind fun bt364 => ((spec_l1Cur_among.f s0_0 bt364.2.1 bt364.2.2 (([(-80), (-35), 5, 40, 85] : List Int))).bind fun bt370 => (if (l1.length : Int) > 1 then ((spec_loGood.f k l1).bind fun t374 => (if t374 = true then ((spec_l1Cur_one.f s0_0 bt370.2.1 bt370.2.2 4).bind fun bt375 => (spec_l1Cur_verb.j0 k l1 (l1.length : Int) (!bt375.1) s0_0 bt375.2.1 bt375.2.2 bt358.1 bt364.1 bt370.1)) else (spec_l1Cur_verb.j0 k l1 (l1.length : Int) false s0_0 bt370.2.1 bt370.2.2 bt358.1 bt364.1 bt370.1))) else (spec_l1Cur_verb.j0 k l1 (l1.length : Int) false s0_0 bt370.2.1 bt370.2.2 bt358.1 bt364.1 bt370.1))))) = some (r1, r2, r3, r4, r5) := h
 clear h
 obtain ⟨y355, hy355⟩ : ∃ y_ : List ByteArray, y_ = (([(⟨#[71, 73, 86, 69]⟩ : ByteArray), (⟨#[71, 73, 86, 69]⟩ : ByteArray), (⟨#[65, 83, 75]⟩ : ByteArray), (⟨#[83, 72, 79, 87]⟩ : ByteArray), (⟨#[84, 69, 76, 76]⟩ : ByteArray)] : List ByteArray)) := ⟨_, rfl⟩
 rw [← hy355] at H
 have Ny355 := Aside0.mk hy355; clear hy355
 replace H := ob_ H; obtain ⟨⟨t358, t359, t360⟩, A3, H⟩ := H; try dsimp only at H
 obtain ⟨y361, hy361⟩ : ∃ y_ : List Int, y_ = (([(-90), (-40), 0, 30, 90] : List Int)) := ⟨_, rfl⟩
 rw [← hy361] at H
 have Ny361 := Aside0.mk hy361; clear hy361
 replace H := ob_ H; obtain ⟨⟨t364, t365, t366⟩, A4, H⟩ := H; try dsimp only at H
 obtain ⟨y367, hy367⟩ : ∃ y_ : List Int, y_ = (([(-80), (-35), 5, 40, 85] : List Int)) := ⟨_, rfl⟩
 rw [← hy367] at H
 have Ny367 := Aside0.mk hy367; clear hy367
 replace H := ob_ H; obtain ⟨⟨t370, t371, t372⟩, A5, H⟩ := H; try dsimp only at H
 have HC6 := Aside0.mk H
 clear H
 go_enter Tryz.func52, Tryz.ntmps52
 go_upto_region 3 with (first | ((with_reducible refine gate_dst (N := 4) rfl ?_); refine bx_ 4 #[.string (⟨#[]⟩ : ByteArray), .int .i64 0, .int .i64 0] 27 fun gb354 hg w7 hbox hb => ?_; have BK354 := aM_ (hbox); have GW354 := aM_ ((by rw [hg]; exact (keep_size (w := w) (g := g) (row := none) z11_0_) : w.heap.size ≤ gb354)); have GE354 := aM_ ((Nat.le_trans HW0.out (by rw [hg]; exact (keep_size (w := w) (g := g) (row := none) z11_0_) : w.heap.size ≤ gb354) : w0.heap.size ≤ gb354)); have NB0_354 := aM_ ((by rw [hg]; exact Nat.ne_of_lt (IsS70.lt (show IsS70 w0 _ g s0_0 s0_1 s0_2 from by repeat (first | (with_reducible first | exact HI0.out | apply IsS70.alloc | apply IsS70.drewN | apply IsS70.drew | apply IsS70.set_1 | apply IsS70.set_2) | exact HI0.out))) : g ≠ gb354)); have NB354_0 := aM_ ((by rw [hg]; exact Nat.ne_of_gt (IsS70.lt (show IsS70 w0 _ g s0_0 s0_1 s0_2 from by repeat (first | (with_reducible first | exact HI0.out | apply IsS70.alloc | apply IsS70.drewN | apply IsS70.drew | apply IsS70.set_1 | apply IsS70.set_2) | exact HI0.out))) : gb354 ≠ g)); replace HK := aM_ (KeepBut.trans z11_0_ (KeepBut.of_below hb g none) (.inl rfl)); replace HB := aM_ (below_step (by repeat (first | (with_reducible first | exact HB.out | apply lA_ | apply lN_ | apply lD_ | refine below_set ?_ (IsS70.ge HI0.out)) | exact HB.out)) hb); replace HI0 := aM_ (IsS70.below (by repeat (first | (with_reducible first | exact HI0.out | apply IsS70.alloc | apply IsS70.drewN | apply IsS70.drew | apply IsS70.set_1 | apply IsS70.set_2) | exact HI0.out)) hb); clear hb hbox hg) | ((with_reducible refine gate_dst (N := 8) rfl ?_); refine rl_ Kd.string 9 8 ([(⟨#[71, 73, 86, 69]⟩ : ByteArray), (⟨#[71, 73, 86, 69]⟩ : ByteArray), (⟨#[65, 83, 75]⟩ : ByteArray), (⟨#[83, 72, 79, 87]⟩ : ByteArray), (⟨#[84, 69, 76, 76]⟩ : ByteArray)] : List ByteArray) [.string (⟨#[71, 73, 86, 69]⟩ : ByteArray), .string (⟨#[71, 73, 86, 69]⟩ : ByteArray), .string (⟨#[65, 83, 75]⟩ : ByteArray), .string (⟨#[83, 72, 79, 87]⟩ : ByteArray), .string (⟨#[84, 69, 76, 76]⟩ : ByteArray)] (Reps.one (show Kd.M Kd.string _ _ _ (⟨#[71, 73, 86, 69]⟩ : ByteArray) [.string (⟨#[71, 73, 86, 69]⟩ : ByteArray)] from rfl) (Reps.one (show Kd.M Kd.string _ _ _ (⟨#[71, 73, 86, 69]⟩ : ByteArray) [.string (⟨#[71, 73, 86, 69]⟩ : ByteArray)] from rfl) (Reps.one (show Kd.M Kd.string _ _ _ (⟨#[65, 83, 75]⟩ : ByteArray) [.string (⟨#[65, 83, 75]⟩ : ByteArray)] from rfl) (Reps.one (show Kd.M Kd.string _ _ _ (⟨#[83, 72, 79, 87]⟩ : ByteArray) [.string (⟨#[83, 72, 79, 87]⟩ : ByteArray)] from rfl) (Reps.one (show Kd.M Kd.string _ _ _ (⟨#[84, 69, 76, 76]⟩ : ByteArray) [.string (⟨#[84, 69, 76, 76]⟩ : ByteArray)] from rfl) (Reps.none _ _)))))) ?_; intro v356 w8 ho9 hb hg_ hnew_; clear hg_ hnew_; (first | rw [← Ny355.out] at ho9 | (simp only [Int.reduceToNat] at ho9; rw [← Ny355.out] at ho9)); have HO357 := aM_ (Kd.R_lower ho9 (keep_size (w := w) (g := g) (row := none) z11_1_)); replace BK354 := aM_ (blk_below (g := gb354) (kR_ BK354) hb); replace HK := aM_ (KeepBut.trans z11_1_ (KeepBut.of_below hb g none) (.inl rfl)); replace HB := aM_ (below_step z11_2_ hb); replace HI0 := aM_ (IsS70.below z11_3_ hb); clear hb ho9; obtain ⟨Ao10, co10, eo10⟩ := Kd.R_slice HO357.out; subst eo10) | ((with_reducible refine gC_ 44 ?_); refine gM_ (some 9) Tryz.func44 #[.pointer (some ⟨g, 0, none⟩), .slice Ao10 y355.length co10] ?_; (with_reducible refine (spec_l1Cur_of.calls g s0_0 s0_1 s0_2 _ _ y355 t358 t359 t360 w0 _ ?side1 ?side2 ?side3 ?side4 ?side5 A3.out).mono ?_); (case side1 => exact z11_3_); (case side2 => exact z11_2_); (case side3 => exact cR_ HO357); (case side4 => exact (Kd.R_reads' HO357.out).2.1); (case side5 => exact far_slice (IsS70.own_ne HI0.out HO357.out (by decide))); rintro e w11 ⟨rfl, hi, hb, hk⟩; refine ⟨_, rfl, ?_⟩; replace BK354 := aM_ (KeepBut.blk hk (g' := gb354) (o := .cells #[.string (⟨#[]⟩ : ByteArray), .int .i64 0, .int .i64 0] 27 (0, 0)) (kR_ BK354) NB354_0.out (by simp)); replace HO357 := aM_ (Kd.R_mono (Kd.R_keep (IsS70.apart (show IsS70 w0 _ g s0_0 s0_1 s0_2 from by repeat (first | (with_reducible first | exact HI0.out | apply IsS70.alloc | apply IsS70.drewN | apply IsS70.drew | apply IsS70.set_1 | apply IsS70.set_2 | refine IsS70.far ?_ (Aside0.out z11_4_) _) | exact HI0.out)) (rR_ HO357) (by decide)) hk (fun _ h => h.2)) (fun _ h => h.1)); replace HK := aM_ (KeepBut.trans z11_1_ hk (.inl rfl)); replace HB := aM_ (hb); replace HI0 := aM_ (hi); (try clear hb); (try clear hk); (try clear hi)) | ((with_reducible refine gate_dst (N := 11) rfl ?_); refine rl_ (Kd.int .i64) 3 11 ([(-90), (-40), 0, 30, 90] : List Int) [.int .i64 (-90), .int .i64 (-40), .int .i64 0, .int .i64 30, .int .i64 90] (Reps.one (show Kd.M (Kd.int .i64) _ _ _ (-90) [.int .i64 (-90)] from rfl) (Reps.one (show Kd.M (Kd.int .i64) _ _ _ (-40) [.int .i64 (-40)] from rfl) (Reps.one (show Kd.M (Kd.int .i64) _ _ _ 0 [.int .i64 0] from rfl) (Reps.one (show Kd.M (Kd.int .i64) _ _ _ 30 [.int .i64 30] from rfl) (Reps.one (show Kd.M (Kd.int .i64) _ _ _ 90 [.int .i64 90] from rfl) (Reps.none _ _)))))) ?_; intro v362 w12 ho13 hb hg_ hnew_; clear hg_ hnew_; (first | rw [← Ny361.out] at ho13 | (simp only [Int.reduceToNat] at ho13; rw [← Ny361.out] at ho13)); have HO363 := aM_ (Kd.R_lower ho13 (keep_size (w := w) (g := g) (row := none) z11_1_)); replace HO357 := aM_ (Kd.R_below (rR_ HO357) hb); replace BK354 := aM_ (blk_below (g := gb354) (kR_ BK354) hb); replace HK := aM_ (KeepBut.trans z11_1_ (KeepBut.of_below hb g none) (.inl rfl)); replace HB := aM_ (below_step z11_2_ hb); replace HI0 := aM_ (IsS70.below z11_3_ hb); clear hb ho13; obtain ⟨Ao14, co14, eo14⟩ := Kd.R_slice HO363.out; subst eo14) | ((with_reducible refine gC_ 78 ?_); refine gM_ (some 12) Tryz.func78 #[.pointer (some ⟨g, 0, none⟩), .slice Ao14 y361.length co14] ?_; (with_reducible refine (spec_l1Cur_among.calls g s0_0 t359 t360 _ _ y361 t364 t365 t366 w0 _ ?side1 ?side2 ?side3 ?side4 ?side5 A4.out).mono ?_); (case side1 => exact z11_3_); (case side2 => exact z11_2_); (case side3 => exact cR_ HO363); (case side4 => exact (Kd.R_reads' HO363.out).2.1); (case side5 => exact far_slice (IsS70.own_ne HI0.out HO363.out (by decide))); rintro e w15 ⟨rfl, hi, hb, hk⟩; refine ⟨_, rfl, ?_⟩; replace BK354 := aM_ (KeepBut.blk hk (g' := gb354) (o := .cells #[.string (⟨#[]⟩ : ByteArray), .int .i64 0, .int .i64 0] 27 (0, 0)) (kR_ BK354) NB354_0.out (by simp)); replace HO357 := aM_ (Kd.R_mono (Kd.R_keep (IsS70.apart (show IsS70 w0 _ g s0_0 t359 t360 from by repeat (first | (with_reducible first | exact HI0.out | apply IsS70.alloc | apply IsS70.drewN | apply IsS70.drew | apply IsS70.set_1 | apply IsS70.set_2 | refine IsS70.far ?_ (Aside0.out z11_4_) _) | exact HI0.out)) (rR_ HO357) (by decide)) hk (fun _ h => h.2)) (fun _ h => h.1)); replace HO363 := aM_ (Kd.R_mono (Kd.R_keep (IsS70.apart (show IsS70 w0 _ g s0_0 t359 t360 from by repeat (first | (with_reducible first | exact HI0.out | apply IsS70.alloc | apply IsS70.drewN | apply IsS70.drew | apply IsS70.set_1 | apply IsS70.set_2 | refine IsS70.far ?_ (Aside0.out z11_4_) _) | exact HI0.out)) (rR_ HO363) (by decide)) hk (fun _ h => h.2)) (fun _ h => h.1)); replace HK := aM_ (KeepBut.trans z11_1_ hk (.inl rfl)); replace HB := aM_ (hb); replace HI0 := aM_ (hi); (try clear hb); (try clear hk); (try clear hi)) | ((with_reducible refine gate_dst (N := 14) rfl ?_); refine rl_ (Kd.int .i64) 3 14 ([(-80), (-35), 5, 40, 85] : List Int) [.int .i64 (-80), .int .i64 (-35), .int .i64 5, .int .i64 40, .int .i64 85] (Reps.one (show Kd.M (Kd.int .i64) _ _ _ (-80) [.int .i64 (-80)] from rfl) (Reps.one (show Kd.M (Kd.int .i64) _ _ _ (-35) [.int .i64 (-35)] from rfl) (Reps.one (show Kd.M (Kd.int .i64) _ _ _ 5 [.int .i64 5] from rfl) (Reps.one (show Kd.M (Kd.int .i64) _ _ _ 40 [.int .i64 40] from rfl) (Reps.one (show Kd.M (Kd.int .i64) _ _ _ 85 [.int .i64 85] from rfl) (Reps.none _ _)))))) ?_; intro v368 w16 ho17 hb hg_ hnew_; clear hg_ hnew_; (first | rw [← Ny367.out] at ho17 | (simp only [Int.reduceToNat] at ho17; rw [← Ny367.out] at ho17)); have HO369 := aM_ (Kd.R_lower (Kd.R_new' ho17 (Kd.R_lt (rR_ HO363))) (keep_size (w := w) (g := g) (row := none) z11_1_)); replace HO357 := aM_ (Kd.R_below (rR_ HO357) hb); replace HO363 := aM_ (Kd.R_elder' (rR_ HO363) (Kd.R_base ho17) hb); replace BK354 := aM_ (blk_below (g := gb354) (kR_ BK354) hb); replace HK := aM_ (KeepBut.trans z11_1_ (KeepBut.of_below hb g none) (.inl rfl)); replace HB := aM_ (below_step z11_2_ hb); replace HI0 := aM_ (IsS70.below z11_3_ hb); clear hb ho17; obtain ⟨Ao18, co18, eo18⟩ := Kd.R_slice HO369.out; subst eo18) | ((with_reducible refine gC_ 78 ?_); refine gM_ (some 15) Tryz.func78 #[.pointer (some ⟨g, 0, none⟩), .slice Ao18 y367.length co18] ?_; (with_reducible refine (spec_l1Cur_among.calls g s0_0 t365 t366 _ _ y367 t370 t371 t372 w0 _ ?side1 ?side2 ?side3 ?side4 ?side5 A5.out).mono ?_); (case side1 => exact z11_3_); (case side2 => exact z11_2_); (case side3 => exact cR_ HO369); (case side4 => exact (Kd.R_reads' HO369.out).2.1); (case side5 => exact far_slice (IsS70.own_ne HI0.out HO369.out (by decide))); rintro e w19 ⟨rfl, hi, hb, hk⟩; refine ⟨_, rfl, ?_⟩; replace BK354 := aM_ (KeepBut.blk hk (g' := gb354) (o := .cells #[.string (⟨#[]⟩ : ByteArray), .int .i64 0, .int .i64 0] 27 (0, 0)) (kR_ BK354) NB354_0.out (by simp)); replace HO357 := aM_ (Kd.R_mono (Kd.R_keep (IsS70.apart (show IsS70 w0 _ g s0_0 t365 t366 from by repeat (first | (with_reducible first | exact HI0.out | apply IsS70.alloc | apply IsS70.drewN | apply IsS70.drew | apply IsS70.set_1 | apply IsS70.set_2 | refine IsS70.far ?_ (Aside0.out z11_4_) _) | exact HI0.out)) (rR_ HO357) (by decide)) hk (fun _ h => h.2)) (fun _ h => h.1)); replace HO363 := aM_ (Kd.R_mono (Kd.R_keep (IsS70.apart (show IsS70 w0 _ g s0_0 t365 t366 from by repeat (first | (with_reducible first | exact HI0.out | apply IsS70.alloc | apply IsS70.drewN | apply IsS70.drew | apply IsS70.set_1 | apply IsS70.set_2 | refine IsS70.far ?_ (Aside0.out z11_4_) _) | exact HI0.out)) (rR_ HO363) (by decide)) hk (fun _ h => h.2)) (fun _ h => h.1)); replace HO369 := aM_ (Kd.R_mono (Kd.R_keep (IsS70.apart (show IsS70 w0 _ g s0_0 t365 t366 from by repeat (first | (with_reducible first | exact HI0.out | apply IsS70.alloc | apply IsS70.drewN | apply IsS70.drew | apply IsS70.set_1 | apply IsS70.set_2 | refine IsS70.far ?_ (Aside0.out z11_4_) _) | exact HI0.out)) (rR_ HO369) (by decide)) hk (fun _ h => h.2)) (fun _ h => h.1)); replace HK := aM_ (KeepBut.trans z11_1_ hk (.inl rfl)); replace HB := aM_ (hb); replace HI0 := aM_ (hi); (try clear hb); (try clear hk); (try clear hi)) | ((with_reducible refine gate_dst (N := 5) rfl ?_); refine bx_ 5 #[.string (⟨#[]⟩ : ByteArray), .int .i64 0, .int .i64 0] 27 fun gb373 hg w20 hbox hb => ?_; have BK373 := aM_ (hbox); have GW373 := aM_ ((by rw [hg]; exact (keep_size (w := w) (g := g) (row := none) z11_1_) : w.heap.size ≤ gb373)); have GE373 := aM_ ((Nat.le_trans HW0.out (by rw [hg]; exact (keep_size (w := w) (g := g) (row := none) z11_1_) : w.heap.size ≤ gb373) : w0.heap.size ≤ gb373)); have NB354_373 := aM_ (nR_ BK354 hg); have NB373_354 := aM_ (mR_ BK354 hg); have NB0_373 := aM_ ((by rw [hg]; exact Nat.ne_of_lt (IsS70.lt (show IsS70 w0 _ g s0_0 t371 t372 from by repeat (first | (with_reducible first | exact HI0.out | apply IsS70.alloc | apply IsS70.drewN | apply IsS70.drew | apply IsS70.set_1 | apply IsS70.set_2 | refine IsS70.far ?_ (Aside0.out z11_4_) _) | exact HI0.out))) : g ≠ gb373)); have NB373_0 := aM_ ((by rw [hg]; exact Nat.ne_of_gt (IsS70.lt (show IsS70 w0 _ g s0_0 t371 t372 from by repeat (first | (with_reducible first | exact HI0.out | apply IsS70.alloc | apply IsS70.drewN | apply IsS70.drew | apply IsS70.set_1 | apply IsS70.set_2 | refine IsS70.far ?_ (Aside0.out z11_4_) _) | exact HI0.out))) : gb373 ≠ g)); replace HO357 := aM_ (Kd.R_below (rR_ HO357) hb); replace HO363 := aM_ (Kd.R_below (rR_ HO363) hb); replace HO369 := aM_ (Kd.R_below (rR_ HO369) hb); replace BK354 := aM_ (blk_below (g := gb354) (kR_ BK354) hb); replace HK := aM_ (KeepBut.trans z11_1_ (KeepBut.of_below hb g none) (.inl rfl)); replace HB := aM_ (below_step z11_2_ hb); replace HI0 := aM_ (IsS70.below z11_3_ hb); clear hb hbox hg; have hnb21 := NB373_354.out; have hnc21 := NB354_373.out; have hnb22 := NB373_0.out; have hnc22 := NB0_373.out; have hz23 := cf3_ BK373.out))
 (try simp only [Act.put, List.setIfInBounds_toArray, List.set_cons_zero, List.set_cons_succ])
 go_cut [29] (fun v29 wc => ∃ (kq : Nat) (x29_5 : Bool) (x1001_5 : Int) (x1002_5 : Int), v29 = .bool x29_5 ∧ Aside0 (spec_l1Cur_verb.j0 kq l1 (l1.length : Int) x29_5 s0_0 x1001_5 x1002_5 t358 t364 t370 = some (r1, r2, r3, r4, r5)) ∧ Aside0 (kq ≤ k) ∧ Aside0 (wc.heap[gb354]? = some (.cells #[.string (⟨#[]⟩ : ByteArray), .int .i64 0, .int .i64 0] 27 (0, 0))) ∧ Aside0 (wc.heap[gb373]? = some (.cells #[.string t358, .int .i64 t364, .int .i64 t370] 27 (0, 0))) ∧ Aside0 (IsS70 w0 wc g s0_0 x1001_5 x1002_5) ∧ Aside0 (KeepBut w wc g none) ∧ Aside0 (Below w0.heap.size w0 wc))
 case first =>
  have H := HC6.out
  clear HC6
  by_cases c24 : (l1.length : Int) > 1
  rotate_left
  ·rw [if_neg c24] at H
   have c24b0 : decide (1 < (l1.length : Int)) = false := decide_eq_false c24
   have c24b1 : decide (1 < l1.length) = false := decide_eq_false (by omega)
   clear c24
   (first | rw [c24b0] | (simp only [i64_w, i32_w]; rw [c24b0]) | skip)
   have H' := Aside0.mk H
   clear H
   go_wp2
   go_meet
   case rel => exact ⟨_, (false), (t371), (t372), z11_5_, H', ⟨oR_⟩, ⟨by (with_reducible repeat (first | apply kN_ | apply kD_ | apply kA_)); refine blk_far ?_ NB354_373.out _; (with_reducible repeat (first | apply kN_ | apply kD_ | apply kA_)); refine blk_far ?_ NB354_373.out _; (with_reducible repeat (first | apply kN_ | apply kD_ | apply kA_)); refine blk_far ?_ NB354_373.out _; (with_reducible repeat (first | apply kN_ | apply kD_ | apply kA_)); exact BK354.out⟩, ⟨z11_6_⟩, ⟨z11_3_⟩, ⟨z11_7_⟩, ⟨z11_8_⟩⟩
  rw [if_pos c24] at H
  have c24b0 : decide (1 < (l1.length : Int)) = true := decide_eq_true c24
  have c24b1 : decide (1 < l1.length) = true := decide_eq_true (by omega)
  clear c24
  (first | rw [c24b0] | (simp only [i64_w, i32_w]; rw [c24b0]) | skip)
  replace H := ob_ H; obtain ⟨t374, A25, H⟩ := H; try dsimp only at H
  by_cases c26 : t374 = true
  rotate_left
  ·replace c26 := Bool.eq_false_iff.mpr c26
   subst c26
   replace H := in_ H (show ¬ (false = true) by decide)
   have H' := Aside0.mk H
   clear H
   go_wp2_with (first | (go_at_call 50; (with_reducible refine (spec_loGood.calls k _ _ l1 false _ ?side1 ?side2 A25.out).mono ?_); (case side1 => exact Kd.C_foot_now HR1.out z11_7_); (case side2 => exact HC1.out); rintro e w30 ⟨rfl, hb⟩; replace HO357 := aM_ (Kd.R_below (by (with_reducible repeat (first | apply rA_ | apply rN_ | apply rD_)); exact (Kd.R_mono (Kd.R_far (p := ⟨gb373, 2, none⟩) (Kd.R_far (p := ⟨gb373, 1, none⟩) (Kd.R_far (p := ⟨gb373, 0, none⟩) (Kd.R_types HO357.out BK373.out (by decide)) (fun _ hk => hk.2) (.string t358)) (fun _ hk => hk.2) (.int .i64 t364)) (fun _ hk => hk.2) (.int .i64 t370)) (fun _ h_ => h_.1))) hb); replace HO363 := aM_ (Kd.R_below (by (with_reducible repeat (first | apply rA_ | apply rN_ | apply rD_)); exact (Kd.R_mono (Kd.R_far (p := ⟨gb373, 2, none⟩) (Kd.R_far (p := ⟨gb373, 1, none⟩) (Kd.R_far (p := ⟨gb373, 0, none⟩) (Kd.R_types HO363.out BK373.out (by decide)) (fun _ hk => hk.2) (.string t358)) (fun _ hk => hk.2) (.int .i64 t364)) (fun _ hk => hk.2) (.int .i64 t370)) (fun _ h_ => h_.1))) hb); replace HO369 := aM_ (Kd.R_below (by (with_reducible repeat (first | apply rA_ | apply rN_ | apply rD_)); exact (Kd.R_mono (Kd.R_far (p := ⟨gb373, 2, none⟩) (Kd.R_far (p := ⟨gb373, 1, none⟩) (Kd.R_far (p := ⟨gb373, 0, none⟩) (Kd.R_types HO369.out BK373.out (by decide)) (fun _ hk => hk.2) (.string t358)) (fun _ hk => hk.2) (.int .i64 t364)) (fun _ hk => hk.2) (.int .i64 t370)) (fun _ h_ => h_.1))) hb); replace BK354 := aM_ (blk_below (g := gb354) (kR_ BK354) hb); replace BK373 := aM_ (blk_below (g := gb373) (o := .cells #[.string t358, .int .i64 t364, .int .i64 t370] 27 (0, 0)) z11_6_ hb); replace HK := aM_ (KeepBut.trans z11_7_ (KeepBut.of_below hb g none) (.inl rfl)); replace HB := aM_ (below_step z11_8_ hb); replace HI0 := aM_ (IsS70.below (show IsS70 w0 (((w20.setCell ⟨gb373, 0, none⟩ (.string t358)).setCell ⟨gb373, 1, none⟩ (.int .i64 t364)).setCell ⟨gb373, 2, none⟩ (.int .i64 t370)) g s0_0 t371 t372 from by repeat (first | (with_reducible first | exact HI0.out | apply IsS70.alloc | apply IsS70.drewN | apply IsS70.drew | apply IsS70.set_1 | apply IsS70.set_2 | refine IsS70.far ?_ (Aside0.out z11_4_) _) | exact HI0.out)) hb); (try clear hb); (try clear hk)))
   go_meet
   case rel => exact ⟨_, (false), (t371), (t372), z11_5_, H', ⟨oR_⟩, ⟨kP_⟩, ⟨kP_⟩, ⟨z11_3_⟩, ⟨z11_7_⟩, ⟨z11_8_⟩⟩
  subst c26
  replace H := ip_ H rfl
  replace H := ob_ H; obtain ⟨⟨t375, t376, t377⟩, A27, H⟩ := H; try dsimp only at H
  have H' := Aside0.mk H
  clear H
  go_wp2_with (first | (go_at_call 50; (with_reducible refine (spec_loGood.calls k _ _ l1 true _ ?side1 ?side2 A25.out).mono ?_); (case side1 => exact Kd.C_foot_now HR1.out z11_7_); (case side2 => exact HC1.out); rintro e w28 ⟨rfl, hb⟩; replace HO357 := aM_ (Kd.R_below (by (with_reducible repeat (first | apply rA_ | apply rN_ | apply rD_)); exact (Kd.R_mono (Kd.R_far (p := ⟨gb373, 2, none⟩) (Kd.R_far (p := ⟨gb373, 1, none⟩) (Kd.R_far (p := ⟨gb373, 0, none⟩) (Kd.R_types HO357.out BK373.out (by decide)) (fun _ hk => hk.2) (.string t358)) (fun _ hk => hk.2) (.int .i64 t364)) (fun _ hk => hk.2) (.int .i64 t370)) (fun _ h_ => h_.1))) hb); replace HO363 := aM_ (Kd.R_below (by (with_reducible repeat (first | apply rA_ | apply rN_ | apply rD_)); exact (Kd.R_mono (Kd.R_far (p := ⟨gb373, 2, none⟩) (Kd.R_far (p := ⟨gb373, 1, none⟩) (Kd.R_far (p := ⟨gb373, 0, none⟩) (Kd.R_types HO363.out BK373.out (by decide)) (fun _ hk => hk.2) (.string t358)) (fun _ hk => hk.2) (.int .i64 t364)) (fun _ hk => hk.2) (.int .i64 t370)) (fun _ h_ => h_.1))) hb); replace HO369 := aM_ (Kd.R_below (by (with_reducible repeat (first | apply rA_ | apply rN_ | apply rD_)); exact (Kd.R_mono (Kd.R_far (p := ⟨gb373, 2, none⟩) (Kd.R_far (p := ⟨gb373, 1, none⟩) (Kd.R_far (p := ⟨gb373, 0, none⟩) (Kd.R_types HO369.out BK373.out (by decide)) (fun _ hk => hk.2) (.string t358)) (fun _ hk => hk.2) (.int .i64 t364)) (fun _ hk => hk.2) (.int .i64 t370)) (fun _ h_ => h_.1))) hb); replace BK354 := aM_ (blk_below (g := gb354) (kR_ BK354) hb); replace BK373 := aM_ (blk_below (g := gb373) (o := .cells #[.string t358, .int .i64 t364, .int .i64 t370] 27 (0, 0)) z11_6_ hb); replace HK := aM_ (KeepBut.trans z11_7_ (KeepBut.of_below hb g none) (.inl rfl)); replace HB := aM_ (below_step z11_8_ hb); replace HI0 := aM_ (IsS70.below (show IsS70 w0 (((w20.setCell ⟨gb373, 0, none⟩ (.string t358)).setCell ⟨gb373, 1, none⟩ (.int .i64 t364)).setCell ⟨gb373, 2, none⟩ (.int .i64 t370)) g s0_0 t371 t372 from by repeat (first | (with_reducible first | exact HI0.out | apply IsS70.alloc | apply IsS70.drewN | apply IsS70.drew | apply IsS70.set_1 | apply IsS70.set_2 | refine IsS70.far ?_ (Aside0.out z11_4_) _) | exact HI0.out)) hb); (try clear hb); (try clear hk); (try clear hi)) | (go_at_call 76; (with_reducible refine (spec_l1Cur_one.calls g s0_0 t371 t372 4 t375 t376 t377 w0 _ ?side1 ?side2 A27.out).mono ?_); (case side1 => exact z11_3_); (case side2 => exact z11_8_); rintro e w29 ⟨rfl, hi, hb, hk⟩; replace BK354 := aM_ (KeepBut.blk hk (g' := gb354) (o := .cells #[.string (⟨#[]⟩ : ByteArray), .int .i64 0, .int .i64 0] 27 (0, 0)) (kR_ BK354) NB354_0.out (by simp)); replace HO357 := aM_ (Kd.R_mono (Kd.R_keep (IsS70.apart (show IsS70 w0 _ g s0_0 t371 t372 from by repeat (first | (with_reducible first | exact HI0.out | apply IsS70.alloc | apply IsS70.drewN | apply IsS70.drew | apply IsS70.set_1 | apply IsS70.set_2 | refine IsS70.far ?_ (Aside0.out z11_4_) _) | exact HI0.out)) (rR_ HO357) (by decide)) hk (fun _ h => h.2)) (fun _ h => h.1)); replace HO363 := aM_ (Kd.R_mono (Kd.R_keep (IsS70.apart (show IsS70 w0 _ g s0_0 t371 t372 from by repeat (first | (with_reducible first | exact HI0.out | apply IsS70.alloc | apply IsS70.drewN | apply IsS70.drew | apply IsS70.set_1 | apply IsS70.set_2 | refine IsS70.far ?_ (Aside0.out z11_4_) _) | exact HI0.out)) (rR_ HO363) (by decide)) hk (fun _ h => h.2)) (fun _ h => h.1)); replace HO369 := aM_ (Kd.R_mono (Kd.R_keep (IsS70.apart (show IsS70 w0 _ g s0_0 t371 t372 from by repeat (first | (with_reducible first | exact HI0.out | apply IsS70.alloc | apply IsS70.drewN | apply IsS70.drew | apply IsS70.set_1 | apply IsS70.set_2 | refine IsS70.far ?_ (Aside0.out z11_4_) _) | exact HI0.out)) (rR_ HO369) (by decide)) hk (fun _ h => h.2)) (fun _ h => h.1)); replace BK373 := aM_ (KeepBut.blk hk (g' := gb373) (o := .cells #[.string t358, .int .i64 t364, .int .i64 t370] 27 (0, 0)) (kR_ BK373) NB373_0.out (by simp)); replace HK := aM_ (KeepBut.trans z11_7_ hk (.inl rfl)); replace HB := aM_ (hb); replace HI0 := aM_ (hi); (try clear hb); (try clear hk); (try clear hi)))
  go_meet
  case rel => exact ⟨_, (!t375), (t376), (t377), z11_5_, H', ⟨oR_⟩, ⟨kP_⟩, ⟨kP_⟩, ⟨z11_3_⟩, ⟨z11_7_⟩, ⟨z11_8_⟩⟩
 case rest =>
  clear HC6
  (try clear c1);(try clear hcz23_0);(try clear hcz23_1);(try clear hcz23_2);(try clear hfz23_0);(try clear hfz23_1);(try clear hfz23_2)
  obtain ⟨kq, x29_5, x1001_5, x1002_5, rfl, HA, HJ5, BK354, BK373, HI0, HK, HB⟩ := hcut
  cases kq with
  | zero => exact absurd HA.out (by simp [spec_l1Cur_verb.j0])
  | succ kj5 =>
   have H := HA.out
   clear HA
   simp only [spec_l1Cur_verb.j0] at H
   have HC31 := Aside0.mk H
   clear H
   go_upto_if 29 with (fail)
   go_cut [] (fun wc => ∃ (kq : Nat) (x1001_30 : Int) (x1002_30 : Int) (x374001_30 : Int) (x374002_30 : Int), Aside0 (spec_l1Cur_verb.j1 kq s0_0 x1001_30 x1002_30 t358 x374001_30 x374002_30 = some (r1, r2, r3, r4, r5)) ∧ Aside0 (kq ≤ kj5) ∧ Aside0 (wc.heap[gb354]? = some (.cells #[.string (⟨#[]⟩ : ByteArray), .int .i64 0, .int .i64 0] 27 (0, 0))) ∧ Aside0 (wc.heap[gb373]? = some (.cells #[.string t358, .int .i64 x374001_30, .int .i64 x374002_30] 27 (0, 0))) ∧ Aside0 (IsS70 w0 wc g s0_0 x1001_30 x1002_30) ∧ Aside0 (KeepBut w wc g none) ∧ Aside0 (Below w0.heap.size w0 wc))
   case first =>
    have H := HC31.out
    clear HC31
    by_cases c32 : x29_5 = true
    rotate_left
    ·replace c32 := Bool.eq_false_iff.mpr c32
     subst c32
     replace H := in_ H (show ¬ (false = true) by decide)
     have H' := Aside0.mk H
     clear H
     go_wp2
     go_meet
     case rel => exact ⟨_, (x1001_5), (x1002_5), (t364), (t370), H', ⟨by have := HJ5.out; first | omega | exact Nat.le_refl _⟩, ⟨kP_⟩, ⟨kP_⟩, ⟨z11_3_⟩, ⟨z11_7_⟩, ⟨z11_8_⟩⟩
    subst c32
    replace H := ip_ H rfl
    replace H := ob_ H; obtain ⟨⟨t378, t379, t380⟩, A33, H⟩ := H; try dsimp only at H
    replace H := ig_ H; obtain ⟨c34b0, H⟩ := H
    (first | rw [c34b0] | (simp only [i64_w, i32_w]; rw [c34b0]) | skip)
    replace H := ig_ H; obtain ⟨c35b0, H⟩ := H
    obtain ⟨y382, hy382⟩ : ∃ y_ : List Int, y_ = (([0, 5, (-5), 20, 21] : List Int)) := ⟨_, rfl⟩
    rw [← hy382] at H
    have Ny382 := Aside0.mk hy382; clear hy382
    replace H := ob_ H; obtain ⟨⟨t385, t386, t387⟩, A36, H⟩ := H; try dsimp only at H
    replace H := ob_ H; obtain ⟨t388, A37, H⟩ := H; try dsimp only at H
    replace H := ob_ H; obtain ⟨t389, A38, H⟩ := H; try dsimp only at H
    replace H := ob_ H; obtain ⟨⟨t390, t391, t392⟩, A39, H⟩ := H; try dsimp only at H
    replace H := ig_ H; obtain ⟨c40b0, H⟩ := H
    replace H := ig_ H; obtain ⟨c41b0, H⟩ := H
    obtain ⟨y394, hy394⟩ : ∃ y_ : List Int, y_ = (([0, 5, (-5)] : List Int)) := ⟨_, rfl⟩
    rw [← hy394] at H
    have Ny394 := Aside0.mk hy394; clear hy394
    replace H := ob_ H; obtain ⟨⟨t397, t398, t399⟩, A42, H⟩ := H; try dsimp only at H
    replace H := ob_ H; obtain ⟨t400, A43, H⟩ := H; try dsimp only at H
    replace H := ob_ H; obtain ⟨t401, A44, H⟩ := H; try dsimp only at H
    have H' := Aside0.mk H
    clear H
    try go_wp2
    replace BK354 := aM_ (blk_drew BK354.out)
    replace BK373 := aM_ (blk_drew BK373.out)
    replace HI0 := aM_ (IsS70.drew HI0.out)
    replace HK := aM_ (keep_drew HK.out)
    replace HB := aM_ (below_drew1 HB.out)
    have p381 : 0 ≤ (t378 : Int) := ode_
    have q381 : t378 < (l1.length : Int) := ode_
    obtain ⟨ad381, e381, hx381_0, hx381_1⟩ := at_T58 (Kd.C_foot_now HR1.out HK.out) t378 p381 q381
    have hw381_1 := hx381_1
    have hw381_0 := hx381_0
    cases e381
    have hne381_1 := (show (⟨(ad381.add ((t378).toNat * 2)).block, (ad381.add ((t378).toNat * 2)).off + 1, none⟩ : Addr).block ≠ g from by first | (rw [add_block]; exact Kd.foot_ne HR1.out (by omega) (by decide)) | (show (Addr.add _ _).block ≠ _; rw [add_block]; exact Kd.foot_ne HR1.out (by omega) (by decide)) | exact Kd.foot_ne HR1.out (by omega) (by decide) | (dsimp only; exact Kd.foot_ne HR1.out (by omega) (by decide)))
    have hlt381_1 := (Kd.foot_lt HR1.out (by omega) (by decide))
    have hne381_0 := (show ((ad381.add ((t378).toNat * 2)) : Addr).block ≠ g from by first | (rw [add_block]; exact Kd.foot_ne HR1.out (by omega) (by decide)) | (show (Addr.add _ _).block ≠ _; rw [add_block]; exact Kd.foot_ne HR1.out (by omega) (by decide)) | exact Kd.foot_ne HR1.out (by omega) (by decide) | (dsimp only; exact Kd.foot_ne HR1.out (by omega) (by decide)))
    have hlt381_0 := (Kd.foot_lt HR1.out (by omega) (by decide))
    replace p381 := eq_true p381
    replace q381 := eq_true q381
    refine st_ 15 (fun w' => w'.cell? (ad381.add ((t378).toNat * 2)) = some (.string ((rd_T58 l1 t378).f0)) ∧ w'.cell? ⟨(ad381.add ((t378).toNat * 2)).block, (ad381.add ((t378).toNat * 2)).off + 1, none⟩ = some (.int .i64 ((rd_T58 l1 t378).f1))) [] spec_l1Cur_verb.tab4 spec_l1Cur_verb.bits4 ⟨hx381_0, hx381_1⟩ fun hHeld HT_ HW_ => ?_
    generalize wc.drew = w45 at BK354 BK373 HI0 HK HB hx381_0 hx381_1 hHeld ⊢
    refine pu_ 0 30 ?_
    refine pu_ 1 31 ?_
    refine pu_ 2 32 ?_
    refine pu_ 7 37 ?_
    refine join_ (σ := Value) 6 (bz_ 15 0x1ff) (fun s_ => [(33, .int .i64 t378), (38, s_), (34, .pointer (some (ad381.add ((t378).toNat * 2)))), (35, .pointer (some ⟨(ad381.add ((t378).toNat * 2)).block, (ad381.add ((t378).toNat * 2)).off + 1, none⟩)), (36, .int .i64 ((rd_T58 l1 t378).f1))]) (fun s_ w' => (w'.cell? (ad381.add ((t378).toNat * 2)) = some (.string ((rd_T58 l1 t378).f0)) ∧ w'.cell? ⟨(ad381.add ((t378).toNat * 2)).block, (ad381.add ((t378).toNat * 2)).off + 1, none⟩ = some (.int .i64 ((rd_T58 l1 t378).f1))) ∧ (Kd.R (Kd.int .i64) 3 w' w.heap.size (fun _ => True) s_ y382) ∧ (w'.heap[gb354]? = some (.cells #[.string (⟨#[]⟩ : ByteArray), .int .i64 0, .int .i64 0] 27 (0, 0))) ∧ (w'.heap[gb373]? = some (.cells #[.string t358, .int .i64 t364, .int .i64 t370] 27 (0, 0))) ∧ (IsS70 w0 w' g s0_0 t379 t380) ∧ (KeepBut w w' g none) ∧ (Below w0.heap.size w0 w')) ?_ ?_
    rotate_left
    ·intro hCont
     refine two_ (i := 3) (j := 8) (Ni := some 33) (Nj := some 38) (bz_ 15 0x8f) (bz_ 15 0x187) rfl rfl rfl rfl (two_of HT_.out (by kernel_rfl)) (by decide) (by decide) (fun K hK => ?_) (fun K hK => ?_)
     ·skip
      refine gS_ Tryz.func59 #[.pointer (some ⟨g, 0, none⟩), .int .i64 (l1.length : Int)] ?_
      with_reducible refine (spec_l1Cur_pick.calls g s0_0 x1001_5 x1002_5 (l1.length : Int) t378 t379 t380 w0 _ ?side1 ?side2 A33.out).mono ?_
      (case side1 => repeat (first | (with_reducible first | exact HI0.out | apply IsS70.alloc | apply IsS70.drewN | apply IsS70.drew | apply IsS70.set_1 | apply IsS70.set_2 | refine IsS70.far ?_ (Aside0.out z11_4_) _) | exact HI0.out))
      (case side2 => repeat (first | (with_reducible first | exact HB.out | apply lA_ | apply lN_ | apply lD_ | refine below_set ?_ (IsS70.ge HI0.out) | refine below_set ?_ GE354.out | refine below_set ?_ GE373.out) | exact HB.out))
      rintro e w46 ⟨rfl, hi, hb, hk⟩
      have HS0_ := keep_cell hk (hHeld.1) z11_9_
      have HS1_ := keep_cell hk (hHeld.2) z11_10_
      refine ⟨_, rfl, ?_⟩
      replace BK354 := aM_ (KeepBut.blk hk (g' := gb354) (o := .cells #[.string (⟨#[]⟩ : ByteArray), .int .i64 0, .int .i64 0] 27 (0, 0)) (kR_ BK354) NB354_0.out (by simp))
      replace BK373 := aM_ (KeepBut.blk hk (g' := gb373) (o := .cells #[.string t358, .int .i64 t364, .int .i64 t370] 27 (0, 0)) (kR_ BK373) NB373_0.out (by simp))
      replace HK := aM_ (KeepBut.trans z11_7_ hk (.inl rfl))
      replace HB := aM_ (hb)
      replace HI0 := aM_ (hi)
      (try clear hb)
      (try clear hb2)
      (try clear hk)
      (try clear hi)
      refine hK.out _ _ ⟨HS0_, HS1_⟩ (fun hHeld => ?_)
      clear hK K
      refine nm_ 33 ?_
      refine pu_ 4 34 ?_
      refine pu_ 5 35 ?_
      refine tk_ 6 36 ?_
      refine on_ 8 38 fun K hK => ?_
      refine Kd.R_lit_step (Kd.int .i64) _ 3 ?hg (N := 38) ?hd (xs := ([0, 5, (-5), 20, 21] : List Int)) (inner := [.int .i64 0, .int .i64 5, .int .i64 (-5), .int .i64 20, .int .i64 21]) (ok := fun _ => True) (okp := fun _ => True) ?hr ?hp (fun _ hk => hk) trivial (Below.refl _ _) (Nat.le_refl _) (by simp) ?_; (case hd => rfl); (case hg => rfl); (case hr => first | (go_simp; done) | (go_simp; rfl)); (case hp => exact (Reps.one (show Kd.M (Kd.int .i64) _ _ _ 0 [.int .i64 0] from rfl) (Reps.one (show Kd.M (Kd.int .i64) _ _ _ 5 [.int .i64 5] from rfl) (Reps.one (show Kd.M (Kd.int .i64) _ _ _ (-5) [.int .i64 (-5)] from rfl) (Reps.one (show Kd.M (Kd.int .i64) _ _ _ 20 [.int .i64 20] from rfl) (Reps.one (show Kd.M (Kd.int .i64) _ _ _ 21 [.int .i64 21] from rfl) (Reps.none _ _)))))))
      intro v383 w47 ho48 hb hg_ hnew_
      have HS0_ := (hb.cell (World.block_lt_of_cell? _ _ (hHeld.1))).trans (hHeld.1)
      have HS1_ := (hb.cell (World.block_lt_of_cell? _ _ (hHeld.2))).trans (hHeld.2)
      clear hg_ hnew_
      (first | rw [← Ny382.out] at ho48 | (simp only [Int.reduceToNat] at ho48; rw [← Ny382.out] at ho48))
      have HO384 := aM_ (Kd.R_lower ho48 (keep_size (w := w) (g := g) (row := none) z11_7_))
      replace BK354 := aM_ (blk_below (g := gb354) (kR_ BK354) hb)
      replace BK373 := aM_ (blk_below (g := gb373) (kR_ BK373) hb)
      replace HK := aM_ (KeepBut.trans z11_7_ (KeepBut.of_below hb g none) (.inl rfl))
      replace HB := aM_ (below_step z11_8_ hb)
      replace HI0 := aM_ (IsS70.below z11_3_ hb)
      clear hb ho48
      refine hK.out _ _ ⟨HS0_, HS1_⟩ (fun hHeld => ?_)
      clear hK K
      refine nm_ 38 ?_
      exact norm_ z11_11_ (hCont (v383) _ ⟨hHeld, (rR_ HO384), (kR_ BK354), (kR_ BK373), z11_3_, z11_7_, z11_8_⟩)
     ·skip
      refine Kd.R_lit_step (Kd.int .i64) _ 3 ?hg (N := 38) ?hd (xs := ([0, 5, (-5), 20, 21] : List Int)) (inner := [.int .i64 0, .int .i64 5, .int .i64 (-5), .int .i64 20, .int .i64 21]) (ok := fun _ => True) (okp := fun _ => True) ?hr ?hp (fun _ hk => hk) trivial (Below.refl _ _) (Nat.le_refl _) (by simp) ?_; (case hd => rfl); (case hg => rfl); (case hr => first | (go_simp; done) | (go_simp; rfl)); (case hp => exact (Reps.one (show Kd.M (Kd.int .i64) _ _ _ 0 [.int .i64 0] from rfl) (Reps.one (show Kd.M (Kd.int .i64) _ _ _ 5 [.int .i64 5] from rfl) (Reps.one (show Kd.M (Kd.int .i64) _ _ _ (-5) [.int .i64 (-5)] from rfl) (Reps.one (show Kd.M (Kd.int .i64) _ _ _ 20 [.int .i64 20] from rfl) (Reps.one (show Kd.M (Kd.int .i64) _ _ _ 21 [.int .i64 21] from rfl) (Reps.none _ _)))))))
      intro v383 w46 ho47 hb hg_ hnew_
      have HS0_ := (hb.cell (World.block_lt_of_cell? _ _ (hHeld.1))).trans (hHeld.1)
      have HS1_ := (hb.cell (World.block_lt_of_cell? _ _ (hHeld.2))).trans (hHeld.2)
      clear hg_ hnew_
      (first | rw [← Ny382.out] at ho47 | (simp only [Int.reduceToNat] at ho47; rw [← Ny382.out] at ho47))
      have HO384 := aM_ (Kd.R_lower ho47 (keep_size (w := w) (g := g) (row := none) z11_7_))
      replace BK354 := aM_ (blk_below (g := gb354) (kR_ BK354) hb)
      replace BK373 := aM_ (blk_below (g := gb373) (kR_ BK373) hb)
      replace HK := aM_ (KeepBut.trans z11_7_ (KeepBut.of_below hb g none) (.inl rfl))
      replace HB := aM_ (below_step z11_8_ hb)
      replace HI0 := aM_ (IsS70.below z11_3_ hb)
      clear hb ho47
      refine hK.out _ _ ⟨HS0_, HS1_⟩ (fun hHeld => ?_)
      clear hK K
      refine nm_ 38 ?_
      refine on_ 3 33 fun K hK => ?_
      refine gS_ Tryz.func59 #[.pointer (some ⟨g, 0, none⟩), .int .i64 (l1.length : Int)] ?_
      with_reducible refine (spec_l1Cur_pick.calls g s0_0 x1001_5 x1002_5 (l1.length : Int) t378 t379 t380 w0 _ ?side1 ?side2 A33.out).mono ?_
      (case side1 => repeat (first | (with_reducible first | exact HI0.out | apply IsS70.alloc | apply IsS70.drewN | apply IsS70.drew | apply IsS70.set_1 | apply IsS70.set_2 | refine IsS70.far ?_ (Aside0.out z11_4_) _) | exact HI0.out))
      (case side2 => repeat (first | (with_reducible first | exact HB.out | apply lA_ | apply lN_ | apply lD_ | refine below_set ?_ (IsS70.ge HI0.out) | refine below_set ?_ GE354.out | refine below_set ?_ GE373.out) | exact HB.out))
      rintro e w48 ⟨rfl, hi, hb, hk⟩
      have HS0_ := keep_cell hk (hHeld.1) z11_9_
      have HS1_ := keep_cell hk (hHeld.2) z11_10_
      refine ⟨_, rfl, ?_⟩
      replace BK354 := aM_ (KeepBut.blk hk (g' := gb354) (o := .cells #[.string (⟨#[]⟩ : ByteArray), .int .i64 0, .int .i64 0] 27 (0, 0)) (kR_ BK354) NB354_0.out (by simp))
      replace BK373 := aM_ (KeepBut.blk hk (g' := gb373) (o := .cells #[.string t358, .int .i64 t364, .int .i64 t370] 27 (0, 0)) (kR_ BK373) NB373_0.out (by simp))
      replace HO384 := aM_ (Kd.R_mono (Kd.R_keep (IsS70.apart (show IsS70 w0 _ g s0_0 x1001_5 x1002_5 from by repeat (first | (with_reducible first | exact HI0.out | apply IsS70.alloc | apply IsS70.drewN | apply IsS70.drew | apply IsS70.set_1 | apply IsS70.set_2 | refine IsS70.far ?_ (Aside0.out z11_4_) _) | exact HI0.out)) (rR_ HO384) (by decide)) hk (fun _ h => h.2)) (fun _ h => h.1))
      replace HK := aM_ (KeepBut.trans z11_7_ hk (.inl rfl))
      replace HB := aM_ (hb)
      replace HI0 := aM_ (hi)
      (try clear hb)
      (try clear hb2)
      (try clear hk)
      (try clear hi)
      refine hK.out _ _ ⟨HS0_, HS1_⟩ (fun hHeld => ?_)
      clear hK K
      refine nm_ 33 ?_
      refine pu_ 4 34 ?_
      refine pu_ 5 35 ?_
      refine tk_ 6 36 ?_
      exact norm_ z11_11_ (hCont (v383) _ ⟨hHeld, (rR_ HO384), (kR_ BK354), (kR_ BK373), z11_3_, z11_7_, z11_8_⟩)
    rintro v383 w49 ⟨hS_, h0_, h1_, h2_, h3_, h4_, h5_⟩
    have n0_ : Aside0 (Kd.R (Kd.int .i64) 3 w49 w.heap.size (fun _ => True) v383 y382) := ⟨h0_⟩
    have n1_ : Aside0 (w49.heap[gb354]? = some (.cells #[.string (⟨#[]⟩ : ByteArray), .int .i64 0, .int .i64 0] 27 (0, 0))) := ⟨h1_⟩
    have n2_ : Aside0 (w49.heap[gb373]? = some (.cells #[.string t358, .int .i64 t364, .int .i64 t370] 27 (0, 0))) := ⟨h2_⟩
    have n3_ : Aside0 (IsS70 w0 w49 g s0_0 t379 t380) := ⟨h3_⟩
    have n4_ : Aside0 (KeepBut w w49 g none) := ⟨h4_⟩
    have n5_ : Aside0 (Below w0.heap.size w0 w49) := ⟨h5_⟩
    clear BK354
    clear BK373
    clear HI0
    clear HK
    clear HB
    clear h0_ h1_ h2_ h3_ h4_ h5_
    have HO384 := n0_
    have BK354 := n1_
    have BK373 := n2_
    have HI0 := n3_
    have HK := n4_
    have HB := n5_
    clear n0_ n1_ n2_ n3_ n4_ n5_
    have hHeld : w49.cell? (ad381.add ((t378).toNat * 2)) = some (.string ((rd_T58 l1 t378).f0)) ∧ w49.cell? ⟨(ad381.add ((t378).toNat * 2)).block, (ad381.add ((t378).toNat * 2)).off + 1, none⟩ = some (.int .i64 ((rd_T58 l1 t378).f1)) := hS_
    obtain ⟨Ao50, co50, eo50⟩ := Kd.R_slice HO384.out
    (first | subst eo50 | (injection eo50 with f1_ f2_ f3_; have f4_ := f1_.symm; have f5_ := f3_.symm; clear f1_ f2_ f3_; subst f4_; subst f5_))
    refine norm_ (a' := ?_) ?_ ?_
    rotate_left
    ·simp only [putAll, Act.put, List.setIfInBounds_toArray, List.set_cons_zero, List.set_cons_succ]
     rfl
    refine on_ 9 39 fun K hK => ?_
    refine gS_ Tryz.func78 #[.pointer (some ⟨g, 0, none⟩), .slice Ao50 y382.length co50] ?_
    with_reducible refine (spec_l1Cur_among.calls g s0_0 t379 t380 _ _ y382 t385 t386 t387 w0 _ ?side1 ?side2 ?side3 ?side4 ?side5 A36.out).mono ?_
    (case side1 => repeat (first | (with_reducible first | exact HI0.out | apply IsS70.alloc | apply IsS70.drewN | apply IsS70.drew | apply IsS70.set_1 | apply IsS70.set_2 | refine IsS70.far ?_ (Aside0.out z11_4_) _) | exact HI0.out))
    (case side2 => repeat (first | (with_reducible first | exact HB.out | apply lA_ | apply lN_ | apply lD_ | refine below_set ?_ (IsS70.ge HI0.out) | refine below_set ?_ GE354.out | refine below_set ?_ GE373.out) | exact HB.out))
    (case side3 => exact cR_ HO384)
    (case side4 => exact (Kd.R_reads' HO384.out).2.1)
    (case side5 => exact far_slice (IsS70.own_ne HI0.out HO384.out (by decide)))
    rintro e w51 ⟨rfl, hi, hb, hk⟩
    have HS0_ := keep_cell hk (hHeld.1) z11_9_
    have HS1_ := keep_cell hk (hHeld.2) z11_10_
    refine ⟨_, rfl, ?_⟩
    replace BK354 := aM_ (KeepBut.blk hk (g' := gb354) (o := .cells #[.string (⟨#[]⟩ : ByteArray), .int .i64 0, .int .i64 0] 27 (0, 0)) (kR_ BK354) NB354_0.out (by simp))
    replace BK373 := aM_ (KeepBut.blk hk (g' := gb373) (o := .cells #[.string t358, .int .i64 t364, .int .i64 t370] 27 (0, 0)) (kR_ BK373) NB373_0.out (by simp))
    replace HO384 := aM_ (Kd.R_mono (Kd.R_keep (IsS70.apart (show IsS70 w0 _ g s0_0 t379 t380 from by repeat (first | (with_reducible first | exact HI0.out | apply IsS70.alloc | apply IsS70.drewN | apply IsS70.drew | apply IsS70.set_1 | apply IsS70.set_2 | refine IsS70.far ?_ (Aside0.out z11_4_) _) | exact HI0.out)) (rR_ HO384) (by decide)) hk (fun _ h => h.2)) (fun _ h => h.1))
    replace HK := aM_ (KeepBut.trans z11_7_ hk (.inl rfl))
    replace HB := aM_ (hb)
    replace HI0 := aM_ (hi)
    (try clear hb)
    (try clear hb2)
    (try clear hk)
    (try clear hi)
    refine hK.out _ _ ⟨HS0_, HS1_⟩ (fun hHeld => ?_)
    clear hK K
    refine nm_ 39 ?_
    refine pu_ 10 40 ?_
    refine on_ 11 41 fun K hK => ?_
    refine gS_ Tryz.func94 #[.int .i64 90, .int .i64 (wrap64 (((rd_T58 l1 t378).f1) + t385))] ?_
    with_reducible refine (spec_l1Least.calls 90 (wrap64 (((rd_T58 l1 t378).f1) + t385)) t388 _ A37.out).mono ?_
    rintro e w' ⟨rfl, ⟨nd, rfl⟩⟩
    refine ⟨_, rfl, ?_⟩
    refine hK.out _ _ ⟨hHeld.1, hHeld.2⟩ (fun hHeld => ?_)
    clear hK K
    refine nm_ 41 ?_
    refine on_ 12 42 fun K hK => ?_
    refine gS_ Tryz.func93 #[.int .i64 (-90), .int .i64 t388] ?_
    with_reducible refine (spec_l1Most.calls (-90) t388 t389 _ A38.out).mono ?_
    rintro e w' ⟨rfl, ⟨nd, rfl⟩⟩
    refine ⟨_, rfl, ?_⟩
    refine hK.out _ _ ⟨hHeld.1, hHeld.2⟩ (fun hHeld => ?_)
    clear hK K
    refine nm_ 42 ?_
    refine pu_ 13 43 ?_
    refine one_ (i := 14) (N := none) (bz_ 15 0x7fff) rfl rfl (one_of HT_.out (by kernel_rfl)) (by decide) (fun K hK => ?_)
    have hs52 : w51.cell? ⟨gb373, 1, none⟩ = some (.int .i64 t364) := (blk_cell BK373.out 1).trans rfl
    have hfs52 := blk_frozen BK373.out 1
    have hns52_0 := NB354_373.out
    have hms52_0 := NB373_354.out
    refine skip_ (w1 := ?_) (by rfl) rfl ?_ ?_
    rotate_left
    ·go_simp
     rfl
    refine hK.out _ _ ⟨((cell_far (p := ⟨gb373, _, none⟩) (by first | exact Nat.ne_of_lt (Nat.lt_of_lt_of_le hlt381_0 GW373.out) | (rw [add_block]; exact Nat.ne_of_lt (Nat.lt_of_lt_of_le hlt381_0 GW373.out)) | (show (Addr.add _ _).block ≠ _; rw [add_block]; exact Nat.ne_of_lt (Nat.lt_of_lt_of_le hlt381_0 GW373.out)) | (dsimp only; exact Nat.ne_of_lt (Nat.lt_of_lt_of_le hlt381_0 GW373.out))) _).trans (hHeld.1)), ((cell_far (p := ⟨gb373, _, none⟩) (by first | exact Nat.ne_of_lt (Nat.lt_of_lt_of_le hlt381_1 GW373.out) | (rw [add_block]; exact Nat.ne_of_lt (Nat.lt_of_lt_of_le hlt381_1 GW373.out)) | (show (Addr.add _ _).block ≠ _; rw [add_block]; exact Nat.ne_of_lt (Nat.lt_of_lt_of_le hlt381_1 GW373.out)) | (dsimp only; exact Nat.ne_of_lt (Nat.lt_of_lt_of_le hlt381_1 GW373.out))) _).trans (hHeld.2))⟩ (fun hHeld => ?_)
    clear hK K
    refine dn_ ?_
    try go_wp2
    have n0_ : Aside0 (Kd.R (Kd.int .i64) 3 (w51.setCell ⟨gb373, 1, none⟩ (.int .i64 t389)) w.heap.size (fun _ => True) (.slice Ao50 y382.length co50) y382) := ⟨by (with_reducible repeat (first | apply rA_ | apply rN_ | apply rD_)); exact Kd.R_mono (Kd.R_far (p := ⟨gb373, 1, none⟩) (Kd.R_types HO384.out BK373.out (by decide)) (fun _ hk => hk.2) (.int .i64 t389)) (fun _ hk => trivial)⟩
    have n1_ : Aside0 ((w51.setCell ⟨gb373, 1, none⟩ (.int .i64 t389)).heap[gb354]? = some (.cells #[.string (⟨#[]⟩ : ByteArray), .int .i64 0, .int .i64 0] 27 (0, 0))) := ⟨z11_12_⟩
    have n2_ : Aside0 ((w51.setCell ⟨gb373, 1, none⟩ (.int .i64 t389)).heap[gb373]? = some (.cells #[.string t358, .int .i64 t389, .int .i64 t370] 27 (0, 0))) := ⟨by (with_reducible repeat (first | apply kN_ | apply kD_ | apply kA_)); refine blk_put (cs := #[.string t358, .int .i64 t364, .int .i64 t370]) ?_ 1 _ rfl; (with_reducible repeat (first | apply kN_ | apply kD_ | apply kA_)); exact BK373.out⟩
    have n3_ : Aside0 (IsS70 w0 (w51.setCell ⟨gb373, 1, none⟩ (.int .i64 t389)) g s0_0 t386 t387) := ⟨z11_3_⟩
    have n4_ : Aside0 (KeepBut w (w51.setCell ⟨gb373, 1, none⟩ (.int .i64 t389)) g none) := ⟨z11_7_⟩
    have n5_ : Aside0 (Below w0.heap.size w0 (w51.setCell ⟨gb373, 1, none⟩ (.int .i64 t389))) := ⟨z11_8_⟩
    (try clear HO384)
    (try clear BK354)
    (try clear BK373)
    (try clear HI0)
    (try clear HK)
    (try clear HB)
    repeat rw [sd_]
    generalize (w51.setCell ⟨gb373, 1, none⟩ (.int .i64 t389)) = w53 at n0_ n1_ n2_ n3_ n4_ n5_ ⊢
    have HO384 := n0_
    have BK354 := n1_
    have BK373 := n2_
    have HI0 := n3_
    have HK := n4_
    have HB := n5_
    clear n0_ n1_ n2_ n3_ n4_ n5_
    (try (rw [drewN_self w53]; generalize hq_ : World.drewN w53 _ = w53; have n0_ : Aside0 (Kd.R (Kd.int .i64) 3 w53 w.heap.size (fun _ => True) (.slice Ao50 y382.length co50) y382) := ⟨by rw [← hq_]; exact (rR_ HO384)⟩; have n1_ : Aside0 (w53.heap[gb354]? = some (.cells #[.string (⟨#[]⟩ : ByteArray), .int .i64 0, .int .i64 0] 27 (0, 0))) := ⟨by rw [← hq_]; exact (kR_ BK354)⟩; have n2_ : Aside0 (w53.heap[gb373]? = some (.cells #[.string t358, .int .i64 t389, .int .i64 t370] 27 (0, 0))) := ⟨by rw [← hq_]; exact (kR_ BK373)⟩; have n3_ : Aside0 (IsS70 w0 w53 g s0_0 t386 t387) := ⟨by rw [← hq_]; exact z11_3_⟩; have n4_ : Aside0 (KeepBut w w53 g none) := ⟨by rw [← hq_]; exact z11_7_⟩; have n5_ : Aside0 (Below w0.heap.size w0 w53) := ⟨by rw [← hq_]; exact z11_8_⟩; clear HO384 BK354 BK373 HI0 HK HB hq_; have HO384 := n0_; have BK354 := n1_; have BK373 := n2_; have HI0 := n3_; have HK := n4_; have HB := n5_; clear n0_ n1_ n2_ n3_ n4_ n5_))
    replace HO384 := aM_ (Kd.R_drew HO384.out)
    replace BK354 := aM_ (blk_drew BK354.out)
    replace BK373 := aM_ (blk_drew BK373.out)
    replace HI0 := aM_ (IsS70.drew HI0.out)
    replace HK := aM_ (keep_drew HK.out)
    replace HB := aM_ (below_drew1 HB.out)
    have p393 : 0 ≤ (t390 : Int) := ode_
    have q393 : t390 < (l1.length : Int) := ode_
    obtain ⟨ad393, e393, hx393_0, hx393_1⟩ := at_T58 (Kd.C_foot_now HR1.out HK.out) t390 p393 q393
    have hw393_1 := hx393_1
    have hw393_0 := hx393_0
    obtain rfl : ad381 = ad393 := (by injection e393)
    have hne393_1 := (show (⟨(ad381.add ((t390).toNat * 2)).block, (ad381.add ((t390).toNat * 2)).off + 1, none⟩ : Addr).block ≠ g from by first | (rw [add_block]; exact Kd.foot_ne HR1.out (by omega) (by decide)) | (show (Addr.add _ _).block ≠ _; rw [add_block]; exact Kd.foot_ne HR1.out (by omega) (by decide)) | exact Kd.foot_ne HR1.out (by omega) (by decide) | (dsimp only; exact Kd.foot_ne HR1.out (by omega) (by decide)))
    have hlt393_1 := (Kd.foot_lt HR1.out (by omega) (by decide))
    have hne393_0 := (show ((ad381.add ((t390).toNat * 2)) : Addr).block ≠ g from by first | (rw [add_block]; exact Kd.foot_ne HR1.out (by omega) (by decide)) | (show (Addr.add _ _).block ≠ _; rw [add_block]; exact Kd.foot_ne HR1.out (by omega) (by decide)) | exact Kd.foot_ne HR1.out (by omega) (by decide) | (dsimp only; exact Kd.foot_ne HR1.out (by omega) (by decide)))
    have hlt393_0 := (Kd.foot_lt HR1.out (by omega) (by decide))
    replace p393 := eq_true p393
    replace q393 := eq_true q393
    refine st_ 15 (fun w' => w'.cell? (ad381.add ((t390).toNat * 2)) = some (.string ((rd_T58 l1 t390).f0)) ∧ w'.cell? ⟨(ad381.add ((t390).toNat * 2)).block, (ad381.add ((t390).toNat * 2)).off + 1, none⟩ = some (.int .i64 ((rd_T58 l1 t390).f1))) [] spec_l1Cur_verb.tab5 spec_l1Cur_verb.bits5 ⟨hx393_0, hx393_1⟩ fun hHeld HT_ HW_ => ?_
    generalize w53.drew = w54 at HO384 BK354 BK373 HI0 HK HB hx393_0 hx393_1 hHeld ⊢
    refine pu_ 0 44 ?_
    refine pu_ 1 45 ?_
    refine pu_ 2 46 ?_
    refine pu_ 7 51 ?_
    refine join_ (σ := Value) 6 (bz_ 15 0x1ff) (fun s_ => [(47, .int .i64 t390), (52, s_), (48, .pointer (some (ad381.add ((t390).toNat * 2)))), (49, .pointer (some ⟨(ad381.add ((t390).toNat * 2)).block, (ad381.add ((t390).toNat * 2)).off + 1, none⟩)), (50, .int .i64 ((rd_T58 l1 t390).f1))]) (fun s_ w' => (w'.cell? (ad381.add ((t390).toNat * 2)) = some (.string ((rd_T58 l1 t390).f0)) ∧ w'.cell? ⟨(ad381.add ((t390).toNat * 2)).block, (ad381.add ((t390).toNat * 2)).off + 1, none⟩ = some (.int .i64 ((rd_T58 l1 t390).f1))) ∧ (Kd.R (Kd.int .i64) 3 w' w.heap.size (fun k_ => some k_ ≠ (s_ : Value).ownBlock) (.slice Ao50 y382.length co50) y382) ∧ (Kd.R (Kd.int .i64) 3 w' w.heap.size (fun k_ => some k_ ≠ (.slice Ao50 y382.length co50 : Value).ownBlock) s_ y394) ∧ (w'.heap[gb354]? = some (.cells #[.string (⟨#[]⟩ : ByteArray), .int .i64 0, .int .i64 0] 27 (0, 0))) ∧ (w'.heap[gb373]? = some (.cells #[.string t358, .int .i64 t389, .int .i64 t370] 27 (0, 0))) ∧ (IsS70 w0 w' g s0_0 t391 t392) ∧ (KeepBut w w' g none) ∧ (Below w0.heap.size w0 w')) ?_ ?_
    rotate_left
    ·intro hCont
     refine two_ (i := 3) (j := 8) (Ni := some 47) (Nj := some 52) (bz_ 15 0x8f) (bz_ 15 0x187) rfl rfl rfl rfl (two_of HT_.out (by kernel_rfl)) (by decide) (by decide) (fun K hK => ?_) (fun K hK => ?_)
     ·skip
      refine gS_ Tryz.func59 #[.pointer (some ⟨g, 0, none⟩), .int .i64 (l1.length : Int)] ?_
      with_reducible refine (spec_l1Cur_pick.calls g s0_0 t386 t387 (l1.length : Int) t390 t391 t392 w0 _ ?side1 ?side2 A39.out).mono ?_
      (case side1 => repeat (first | (with_reducible first | exact HI0.out | apply IsS70.alloc | apply IsS70.drewN | apply IsS70.drew | apply IsS70.set_1 | apply IsS70.set_2 | refine IsS70.far ?_ (Aside0.out z11_4_) _) | exact HI0.out))
      (case side2 => repeat (first | (with_reducible first | exact HB.out | apply lA_ | apply lN_ | apply lD_ | refine below_set ?_ (IsS70.ge HI0.out) | refine below_set ?_ GE354.out | refine below_set ?_ GE373.out) | exact HB.out))
      rintro e w55 ⟨rfl, hi, hb, hk⟩
      have HS0_ := keep_cell hk (hHeld.1) z11_13_
      have HS1_ := keep_cell hk (hHeld.2) z11_14_
      refine ⟨_, rfl, ?_⟩
      replace BK354 := aM_ (KeepBut.blk hk (g' := gb354) (o := .cells #[.string (⟨#[]⟩ : ByteArray), .int .i64 0, .int .i64 0] 27 (0, 0)) (kR_ BK354) NB354_0.out (by simp))
      replace BK373 := aM_ (KeepBut.blk hk (g' := gb373) (o := .cells #[.string t358, .int .i64 t389, .int .i64 t370] 27 (0, 0)) (kR_ BK373) NB373_0.out (by simp))
      replace HO384 := aM_ (Kd.R_mono (Kd.R_keep (IsS70.apart (show IsS70 w0 _ g s0_0 t386 t387 from by repeat (first | (with_reducible first | exact HI0.out | apply IsS70.alloc | apply IsS70.drewN | apply IsS70.drew | apply IsS70.set_1 | apply IsS70.set_2 | refine IsS70.far ?_ (Aside0.out z11_4_) _) | exact HI0.out)) (rR_ HO384) (by decide)) hk (fun _ h => h.2)) (fun _ h => h.1))
      replace HK := aM_ (KeepBut.trans z11_7_ hk (.inl rfl))
      replace HB := aM_ (hb)
      replace HI0 := aM_ (hi)
      (try clear hb)
      (try clear hb2)
      (try clear hk)
      (try clear hi)
      refine hK.out _ _ ⟨HS0_, HS1_⟩ (fun hHeld => ?_)
      clear hK K
      refine nm_ 47 ?_
      refine pu_ 4 48 ?_
      refine pu_ 5 49 ?_
      refine tk_ 6 50 ?_
      refine on_ 8 52 fun K hK => ?_
      refine Kd.R_lit_step (Kd.int .i64) _ 3 ?hg (N := 52) ?hd (xs := ([0, 5, (-5)] : List Int)) (inner := [.int .i64 0, .int .i64 5, .int .i64 (-5)]) (ok := fun _ => True) (okp := fun _ => True) ?hr ?hp (fun _ hk => hk) trivial (Below.refl _ _) (Nat.le_refl _) (by simp) ?_; (case hd => rfl); (case hg => rfl); (case hr => first | (go_simp; done) | (go_simp; rfl)); (case hp => exact (Reps.one (show Kd.M (Kd.int .i64) _ _ _ 0 [.int .i64 0] from rfl) (Reps.one (show Kd.M (Kd.int .i64) _ _ _ 5 [.int .i64 5] from rfl) (Reps.one (show Kd.M (Kd.int .i64) _ _ _ (-5) [.int .i64 (-5)] from rfl) (Reps.none _ _)))))
      intro v395 w56 ho57 hb hg_ hnew_
      have HS0_ := (hb.cell (World.block_lt_of_cell? _ _ (hHeld.1))).trans (hHeld.1)
      have HS1_ := (hb.cell (World.block_lt_of_cell? _ _ (hHeld.2))).trans (hHeld.2)
      clear hg_ hnew_
      (first | rw [← Ny394.out] at ho57 | (simp only [Int.reduceToNat] at ho57; rw [← Ny394.out] at ho57))
      have HO396 := aM_ (Kd.R_lower (Kd.R_new' ho57 (Kd.R_lt (rR_ HO384))) (keep_size (w := w) (g := g) (row := none) z11_7_))
      replace HO384 := aM_ (Kd.R_elder' (rR_ HO384) (Kd.R_base ho57) hb)
      replace BK354 := aM_ (blk_below (g := gb354) (kR_ BK354) hb)
      replace BK373 := aM_ (blk_below (g := gb373) (kR_ BK373) hb)
      replace HK := aM_ (KeepBut.trans z11_7_ (KeepBut.of_below hb g none) (.inl rfl))
      replace HB := aM_ (below_step z11_8_ hb)
      replace HI0 := aM_ (IsS70.below z11_3_ hb)
      clear hb ho57
      refine hK.out _ _ ⟨HS0_, HS1_⟩ (fun hHeld => ?_)
      clear hK K
      refine nm_ 52 ?_
      exact norm_ z11_11_ (hCont (v395) _ ⟨hHeld, (rM_ HO384 (fun _ hk => hk.2)), (rM_ HO396 (fun _ hk => hk.2)), (kR_ BK354), (kR_ BK373), z11_3_, z11_7_, z11_8_⟩)
     ·skip
      refine Kd.R_lit_step (Kd.int .i64) _ 3 ?hg (N := 52) ?hd (xs := ([0, 5, (-5)] : List Int)) (inner := [.int .i64 0, .int .i64 5, .int .i64 (-5)]) (ok := fun _ => True) (okp := fun _ => True) ?hr ?hp (fun _ hk => hk) trivial (Below.refl _ _) (Nat.le_refl _) (by simp) ?_; (case hd => rfl); (case hg => rfl); (case hr => first | (go_simp; done) | (go_simp; rfl)); (case hp => exact (Reps.one (show Kd.M (Kd.int .i64) _ _ _ 0 [.int .i64 0] from rfl) (Reps.one (show Kd.M (Kd.int .i64) _ _ _ 5 [.int .i64 5] from rfl) (Reps.one (show Kd.M (Kd.int .i64) _ _ _ (-5) [.int .i64 (-5)] from rfl) (Reps.none _ _)))))
      intro v395 w55 ho56 hb hg_ hnew_
      have HS0_ := (hb.cell (World.block_lt_of_cell? _ _ (hHeld.1))).trans (hHeld.1)
      have HS1_ := (hb.cell (World.block_lt_of_cell? _ _ (hHeld.2))).trans (hHeld.2)
      clear hg_ hnew_
      (first | rw [← Ny394.out] at ho56 | (simp only [Int.reduceToNat] at ho56; rw [← Ny394.out] at ho56))
      have HO396 := aM_ (Kd.R_lower (Kd.R_new' ho56 (Kd.R_lt (rR_ HO384))) (keep_size (w := w) (g := g) (row := none) z11_7_))
      replace HO384 := aM_ (Kd.R_elder' (rR_ HO384) (Kd.R_base ho56) hb)
      replace BK354 := aM_ (blk_below (g := gb354) (kR_ BK354) hb)
      replace BK373 := aM_ (blk_below (g := gb373) (kR_ BK373) hb)
      replace HK := aM_ (KeepBut.trans z11_7_ (KeepBut.of_below hb g none) (.inl rfl))
      replace HB := aM_ (below_step z11_8_ hb)
      replace HI0 := aM_ (IsS70.below z11_3_ hb)
      clear hb ho56
      refine hK.out _ _ ⟨HS0_, HS1_⟩ (fun hHeld => ?_)
      clear hK K
      refine nm_ 52 ?_
      refine on_ 3 47 fun K hK => ?_
      refine gS_ Tryz.func59 #[.pointer (some ⟨g, 0, none⟩), .int .i64 (l1.length : Int)] ?_
      with_reducible refine (spec_l1Cur_pick.calls g s0_0 t386 t387 (l1.length : Int) t390 t391 t392 w0 _ ?side1 ?side2 A39.out).mono ?_
      (case side1 => repeat (first | (with_reducible first | exact HI0.out | apply IsS70.alloc | apply IsS70.drewN | apply IsS70.drew | apply IsS70.set_1 | apply IsS70.set_2 | refine IsS70.far ?_ (Aside0.out z11_4_) _) | exact HI0.out))
      (case side2 => repeat (first | (with_reducible first | exact HB.out | apply lA_ | apply lN_ | apply lD_ | refine below_set ?_ (IsS70.ge HI0.out) | refine below_set ?_ GE354.out | refine below_set ?_ GE373.out) | exact HB.out))
      rintro e w57 ⟨rfl, hi, hb, hk⟩
      have HS0_ := keep_cell hk (hHeld.1) z11_13_
      have HS1_ := keep_cell hk (hHeld.2) z11_14_
      refine ⟨_, rfl, ?_⟩
      replace BK354 := aM_ (KeepBut.blk hk (g' := gb354) (o := .cells #[.string (⟨#[]⟩ : ByteArray), .int .i64 0, .int .i64 0] 27 (0, 0)) (kR_ BK354) NB354_0.out (by simp))
      replace BK373 := aM_ (KeepBut.blk hk (g' := gb373) (o := .cells #[.string t358, .int .i64 t389, .int .i64 t370] 27 (0, 0)) (kR_ BK373) NB373_0.out (by simp))
      replace HO384 := aM_ (Kd.R_mono (Kd.R_keep (IsS70.apart (show IsS70 w0 _ g s0_0 t386 t387 from by repeat (first | (with_reducible first | exact HI0.out | apply IsS70.alloc | apply IsS70.drewN | apply IsS70.drew | apply IsS70.set_1 | apply IsS70.set_2 | refine IsS70.far ?_ (Aside0.out z11_4_) _) | exact HI0.out)) (rR_ HO384) (by decide)) hk (fun _ h => h.2)) (fun _ h => h.1))
      replace HO396 := aM_ (Kd.R_mono (Kd.R_keep (IsS70.apart (show IsS70 w0 _ g s0_0 t386 t387 from by repeat (first | (with_reducible first | exact HI0.out | apply IsS70.alloc | apply IsS70.drewN | apply IsS70.drew | apply IsS70.set_1 | apply IsS70.set_2 | refine IsS70.far ?_ (Aside0.out z11_4_) _) | exact HI0.out)) (rR_ HO396) (by decide)) hk (fun _ h => h.2)) (fun _ h => h.1))
      replace HK := aM_ (KeepBut.trans z11_7_ hk (.inl rfl))
      replace HB := aM_ (hb)
      replace HI0 := aM_ (hi)
      (try clear hb)
      (try clear hb2)
      (try clear hk)
      (try clear hi)
      refine hK.out _ _ ⟨HS0_, HS1_⟩ (fun hHeld => ?_)
      clear hK K
      refine nm_ 47 ?_
      refine pu_ 4 48 ?_
      refine pu_ 5 49 ?_
      refine tk_ 6 50 ?_
      exact norm_ z11_11_ (hCont (v395) _ ⟨hHeld, (rM_ HO384 (fun _ hk => hk.2)), (rM_ HO396 (fun _ hk => hk.2)), (kR_ BK354), (kR_ BK373), z11_3_, z11_7_, z11_8_⟩)
    rintro v395 w58 ⟨hS_, h0_, h1_, h2_, h3_, h4_, h5_, h6_⟩
    have n0_ : Aside0 (Kd.R (Kd.int .i64) 3 w58 w.heap.size (fun k_ => some k_ ≠ (v395 : Value).ownBlock) (.slice Ao50 y382.length co50) y382) := ⟨h0_⟩
    have n1_ : Aside0 (Kd.R (Kd.int .i64) 3 w58 w.heap.size (fun k_ => some k_ ≠ (.slice Ao50 y382.length co50 : Value).ownBlock) v395 y394) := ⟨h1_⟩
    have n2_ : Aside0 (w58.heap[gb354]? = some (.cells #[.string (⟨#[]⟩ : ByteArray), .int .i64 0, .int .i64 0] 27 (0, 0))) := ⟨h2_⟩
    have n3_ : Aside0 (w58.heap[gb373]? = some (.cells #[.string t358, .int .i64 t389, .int .i64 t370] 27 (0, 0))) := ⟨h3_⟩
    have n4_ : Aside0 (IsS70 w0 w58 g s0_0 t391 t392) := ⟨h4_⟩
    have n5_ : Aside0 (KeepBut w w58 g none) := ⟨h5_⟩
    have n6_ : Aside0 (Below w0.heap.size w0 w58) := ⟨h6_⟩
    clear HO384
    clear BK354
    clear BK373
    clear HI0
    clear HK
    clear HB
    clear h0_ h1_ h2_ h3_ h4_ h5_ h6_
    have HO384 := n0_
    have HO396 := n1_
    have BK354 := n2_
    have BK373 := n3_
    have HI0 := n4_
    have HK := n5_
    have HB := n6_
    clear n0_ n1_ n2_ n3_ n4_ n5_ n6_
    have hHeld : w58.cell? (ad381.add ((t390).toNat * 2)) = some (.string ((rd_T58 l1 t390).f0)) ∧ w58.cell? ⟨(ad381.add ((t390).toNat * 2)).block, (ad381.add ((t390).toNat * 2)).off + 1, none⟩ = some (.int .i64 ((rd_T58 l1 t390).f1)) := hS_
    obtain ⟨Ao59, co59, eo59⟩ := Kd.R_slice HO396.out
    (first | subst eo59 | (injection eo59 with f1_ f2_ f3_; have f4_ := f1_.symm; have f5_ := f3_.symm; clear f1_ f2_ f3_; subst f4_; subst f5_))
    refine norm_ (a' := ?_) ?_ ?_
    rotate_left
    ·simp only [putAll, Act.put, List.setIfInBounds_toArray, List.set_cons_zero, List.set_cons_succ]
     rfl
    refine on_ 9 53 fun K hK => ?_
    refine gS_ Tryz.func78 #[.pointer (some ⟨g, 0, none⟩), .slice Ao59 y394.length co59] ?_
    with_reducible refine (spec_l1Cur_among.calls g s0_0 t391 t392 _ _ y394 t397 t398 t399 w0 _ ?side1 ?side2 ?side3 ?side4 ?side5 A42.out).mono ?_
    (case side1 => repeat (first | (with_reducible first | exact HI0.out | apply IsS70.alloc | apply IsS70.drewN | apply IsS70.drew | apply IsS70.set_1 | apply IsS70.set_2 | refine IsS70.far ?_ (Aside0.out z11_4_) _) | exact HI0.out))
    (case side2 => repeat (first | (with_reducible first | exact HB.out | apply lA_ | apply lN_ | apply lD_ | refine below_set ?_ (IsS70.ge HI0.out) | refine below_set ?_ GE354.out | refine below_set ?_ GE373.out) | exact HB.out))
    (case side3 => exact cR_ HO396)
    (case side4 => exact (Kd.R_reads' HO396.out).2.1)
    (case side5 => exact far_slice (IsS70.own_ne HI0.out HO396.out (by decide)))
    rintro e w60 ⟨rfl, hi, hb, hk⟩
    have HS0_ := keep_cell hk (hHeld.1) z11_13_
    have HS1_ := keep_cell hk (hHeld.2) z11_14_
    refine ⟨_, rfl, ?_⟩
    replace BK354 := aM_ (KeepBut.blk hk (g' := gb354) (o := .cells #[.string (⟨#[]⟩ : ByteArray), .int .i64 0, .int .i64 0] 27 (0, 0)) (kR_ BK354) NB354_0.out (by simp))
    replace BK373 := aM_ (KeepBut.blk hk (g' := gb373) (o := .cells #[.string t358, .int .i64 t389, .int .i64 t370] 27 (0, 0)) (kR_ BK373) NB373_0.out (by simp))
    replace HO384 := aM_ (Kd.R_mono (Kd.R_keep (IsS70.apart (show IsS70 w0 _ g s0_0 t391 t392 from by repeat (first | (with_reducible first | exact HI0.out | apply IsS70.alloc | apply IsS70.drewN | apply IsS70.drew | apply IsS70.set_1 | apply IsS70.set_2 | refine IsS70.far ?_ (Aside0.out z11_4_) _) | exact HI0.out)) (rR_ HO384) (by decide)) hk (fun _ h => h.2)) (fun _ h => h.1))
    replace HO396 := aM_ (Kd.R_mono (Kd.R_keep (IsS70.apart (show IsS70 w0 _ g s0_0 t391 t392 from by repeat (first | (with_reducible first | exact HI0.out | apply IsS70.alloc | apply IsS70.drewN | apply IsS70.drew | apply IsS70.set_1 | apply IsS70.set_2 | refine IsS70.far ?_ (Aside0.out z11_4_) _) | exact HI0.out)) (rR_ HO396) (by decide)) hk (fun _ h => h.2)) (fun _ h => h.1))
    replace HK := aM_ (KeepBut.trans z11_7_ hk (.inl rfl))
    replace HB := aM_ (hb)
    replace HI0 := aM_ (hi)
    (try clear hb)
    (try clear hb2)
    (try clear hk)
    (try clear hi)
    refine hK.out _ _ ⟨HS0_, HS1_⟩ (fun hHeld => ?_)
    clear hK K
    refine nm_ 53 ?_
    refine pu_ 10 54 ?_
    refine on_ 11 55 fun K hK => ?_
    refine gS_ Tryz.func94 #[.int .i64 90, .int .i64 (wrap64 (((rd_T58 l1 t390).f1) + t397))] ?_
    with_reducible refine (spec_l1Least.calls 90 (wrap64 (((rd_T58 l1 t390).f1) + t397)) t400 _ A43.out).mono ?_
    rintro e w' ⟨rfl, ⟨nd, rfl⟩⟩
    refine ⟨_, rfl, ?_⟩
    refine hK.out _ _ ⟨hHeld.1, hHeld.2⟩ (fun hHeld => ?_)
    clear hK K
    refine nm_ 55 ?_
    refine on_ 12 56 fun K hK => ?_
    refine gS_ Tryz.func93 #[.int .i64 (-90), .int .i64 t400] ?_
    with_reducible refine (spec_l1Most.calls (-90) t400 t401 _ A44.out).mono ?_
    rintro e w' ⟨rfl, ⟨nd, rfl⟩⟩
    refine ⟨_, rfl, ?_⟩
    refine hK.out _ _ ⟨hHeld.1, hHeld.2⟩ (fun hHeld => ?_)
    clear hK K
    refine nm_ 56 ?_
    refine pu_ 13 57 ?_
    refine one_ (i := 14) (N := none) (bz_ 15 0x7fff) rfl rfl (one_of HT_.out (by kernel_rfl)) (by decide) (fun K hK => ?_)
    have hs61 : w60.cell? ⟨gb373, 2, none⟩ = some (.int .i64 t370) := (blk_cell BK373.out 2).trans rfl
    have hfs61 := blk_frozen BK373.out 2
    have hns61_0 := NB354_373.out
    have hms61_0 := NB373_354.out
    refine skip_ (w1 := ?_) (by rfl) rfl ?_ ?_
    rotate_left
    ·go_simp
     rfl
    refine hK.out _ _ ⟨((cell_far (p := ⟨gb373, _, none⟩) (by first | exact Nat.ne_of_lt (Nat.lt_of_lt_of_le hlt393_0 GW373.out) | (rw [add_block]; exact Nat.ne_of_lt (Nat.lt_of_lt_of_le hlt393_0 GW373.out)) | (show (Addr.add _ _).block ≠ _; rw [add_block]; exact Nat.ne_of_lt (Nat.lt_of_lt_of_le hlt393_0 GW373.out)) | (dsimp only; exact Nat.ne_of_lt (Nat.lt_of_lt_of_le hlt393_0 GW373.out))) _).trans (hHeld.1)), ((cell_far (p := ⟨gb373, _, none⟩) (by first | exact Nat.ne_of_lt (Nat.lt_of_lt_of_le hlt393_1 GW373.out) | (rw [add_block]; exact Nat.ne_of_lt (Nat.lt_of_lt_of_le hlt393_1 GW373.out)) | (show (Addr.add _ _).block ≠ _; rw [add_block]; exact Nat.ne_of_lt (Nat.lt_of_lt_of_le hlt393_1 GW373.out)) | (dsimp only; exact Nat.ne_of_lt (Nat.lt_of_lt_of_le hlt393_1 GW373.out))) _).trans (hHeld.2))⟩ (fun hHeld => ?_)
    clear hK K
    refine dn_ ?_
    try go_wp2
    go_meet
    case rel => exact ⟨_, (t398), (t399), (t389), (t401), H', ⟨by have := HJ5.out; first | omega | exact Nat.le_refl _⟩, ⟨z11_12_⟩, ⟨by (with_reducible repeat (first | apply kN_ | apply kD_ | apply kA_)); refine blk_put (cs := #[.string t358, .int .i64 t389, .int .i64 t370]) ?_ 2 _ rfl; (with_reducible repeat (first | apply kN_ | apply kD_ | apply kA_)); exact BK373.out⟩, ⟨z11_3_⟩, ⟨z11_7_⟩, ⟨z11_8_⟩⟩
   case rest =>
    clear HC31
    obtain ⟨kq, x1001_30, x1002_30, x374001_30, x374002_30, HA, HJ30, BK354, BK373, HI0, HK, HB⟩ := hcut
    cases kq with
    | zero => exact absurd HA.out (by simp [spec_l1Cur_verb.j1])
    | succ kj30 =>
     have H := HA.out
     clear HA
     simp only [spec_l1Cur_verb.j1] at H
     replace H := ob_ H; obtain ⟨⟨t402, t403, t404⟩, A62, H⟩ := H; try dsimp only at H
     have HC63 := Aside0.mk H
     clear H
     go_upto_if 60 with (first | ((with_reducible refine gC_ 59 ?_); refine gM_ (some 59) Tryz.func59 #[.pointer (some ⟨g, 0, none⟩), .int .i64 40] ?_; (with_reducible refine (spec_l1Cur_pick.calls g s0_0 x1001_30 x1002_30 40 t402 t403 t404 w0 _ ?side1 ?side2 A62.out).mono ?_); (case side1 => exact z11_3_); (case side2 => exact z11_8_); rintro e w64 ⟨rfl, hi, hb, hk⟩; refine ⟨_, rfl, ?_⟩; replace BK354 := aM_ (KeepBut.blk hk (g' := gb354) (o := .cells #[.string (⟨#[]⟩ : ByteArray), .int .i64 0, .int .i64 0] 27 (0, 0)) (kR_ BK354) NB354_0.out (by simp)); replace BK373 := aM_ (KeepBut.blk hk (g' := gb373) (o := .cells #[.string t358, .int .i64 x374001_30, .int .i64 x374002_30] 27 (0, 0)) (kR_ BK373) NB373_0.out (by simp)); replace HK := aM_ (KeepBut.trans z11_7_ hk (.inl rfl)); replace HB := aM_ (hb); replace HI0 := aM_ (hi); (try clear hb); (try clear hk); (try clear hi)))
     (try simp only [Act.put, List.setIfInBounds_toArray, List.set_cons_zero, List.set_cons_succ])
     have H := HC63.out
     clear HC63
     by_cases c65 : t402 = 0
     ·rw [if_pos c65] at H
      have c65b0 : (t402 == 0) = true := beq_iff_eq.mpr c65
      have c65b1 : (t402 != 0) = false := bne_eq_false_iff_eq.mpr c65
      clear c65
      (first | rw [c65b0] | (simp only [i64_w, i32_w]; rw [c65b0]) | skip)
      obtain ⟨y405, hy405⟩ : ∃ y_ : List ByteArray, y_ = (([(⟨#[]⟩ : ByteArray), (⟨#[103, 105, 118, 101]⟩ : ByteArray), (⟨#[78, 73, 78, 69, 76, 69, 84, 84, 82]⟩ : ByteArray)] : List ByteArray)) := ⟨_, rfl⟩
      rw [← hy405] at H
      have Ny405 := Aside0.mk hy405; clear hy405
      replace H := ob_ H; obtain ⟨⟨t408, t409, t410⟩, A66, H⟩ := H; try dsimp only at H
      simp only [Option.some.injEq, Prod.mk.injEq] at H
      obtain ⟨rfl, rfl, rfl, rfl, rfl⟩ := H
      go_wp2_with (first | ((with_reducible refine gate_dst (N := 63) rfl ?_); refine rl_ Kd.string 9 63 ([(⟨#[]⟩ : ByteArray), (⟨#[103, 105, 118, 101]⟩ : ByteArray), (⟨#[78, 73, 78, 69, 76, 69, 84, 84, 82]⟩ : ByteArray)] : List ByteArray) [.string (⟨#[]⟩ : ByteArray), .string (⟨#[103, 105, 118, 101]⟩ : ByteArray), .string (⟨#[78, 73, 78, 69, 76, 69, 84, 84, 82]⟩ : ByteArray)] (Reps.one (show Kd.M Kd.string _ _ _ (⟨#[]⟩ : ByteArray) [.string (⟨#[]⟩ : ByteArray)] from rfl) (Reps.one (show Kd.M Kd.string _ _ _ (⟨#[103, 105, 118, 101]⟩ : ByteArray) [.string (⟨#[103, 105, 118, 101]⟩ : ByteArray)] from rfl) (Reps.one (show Kd.M Kd.string _ _ _ (⟨#[78, 73, 78, 69, 76, 69, 84, 84, 82]⟩ : ByteArray) [.string (⟨#[78, 73, 78, 69, 76, 69, 84, 84, 82]⟩ : ByteArray)] from rfl) (Reps.none _ _)))) ?_; intro v406 w67 ho68 hb hg_ hnew_; clear hg_ hnew_; (first | rw [← Ny405.out] at ho68 | (simp only [Int.reduceToNat] at ho68; rw [← Ny405.out] at ho68)); have HO407 := aM_ (Kd.R_lower ho68 (keep_size (w := w) (g := g) (row := none) z11_7_)); replace BK354 := aM_ (blk_below (g := gb354) (kR_ BK354) hb); replace BK373 := aM_ (blk_below (g := gb373) (kR_ BK373) hb); replace HK := aM_ (KeepBut.trans z11_7_ (KeepBut.of_below hb g none) (.inl rfl)); replace HB := aM_ (below_step z11_8_ hb); replace HI0 := aM_ (IsS70.below z11_3_ hb); clear hb ho68; obtain ⟨Ao69, co69, eo69⟩ := Kd.R_slice HO407.out; subst eo69) | ((with_reducible refine gC_ 44 ?_); refine gM_ (some 64) Tryz.func44 #[.pointer (some ⟨g, 0, none⟩), .slice Ao69 y405.length co69] ?_; (with_reducible refine (spec_l1Cur_of.calls g s0_0 t403 t404 _ _ y405 t408 t409 t410 w0 _ ?side1 ?side2 ?side3 ?side4 ?side5 A66.out).mono ?_); (case side1 => exact z11_3_); (case side2 => exact z11_8_); (case side3 => exact cR_ HO407); (case side4 => exact (Kd.R_reads' HO407.out).2.1); (case side5 => exact far_slice (IsS70.own_ne HI0.out HO407.out (by decide))); rintro e w70 ⟨rfl, hi, hb, hk⟩; refine ⟨_, rfl, ?_⟩; replace BK354 := aM_ (KeepBut.blk hk (g' := gb354) (o := .cells #[.string (⟨#[]⟩ : ByteArray), .int .i64 0, .int .i64 0] 27 (0, 0)) (kR_ BK354) NB354_0.out (by simp)); replace BK373 := aM_ (KeepBut.blk hk (g' := gb373) (o := .cells #[.string t358, .int .i64 x374001_30, .int .i64 x374002_30] 27 (0, 0)) (kR_ BK373) NB373_0.out (by simp)); replace HO407 := aM_ (Kd.R_mono (Kd.R_keep (IsS70.apart (show IsS70 w0 _ g s0_0 t403 t404 from by repeat (first | (with_reducible first | exact HI0.out | apply IsS70.alloc | apply IsS70.drewN | apply IsS70.drew | apply IsS70.set_1 | apply IsS70.set_2 | refine IsS70.far ?_ (Aside0.out z11_4_) _) | exact HI0.out)) (rR_ HO407) (by decide)) hk (fun _ h => h.2)) (fun _ h => h.1)); replace HK := aM_ (KeepBut.trans z11_7_ hk (.inl rfl)); replace HB := aM_ (hb); replace HI0 := aM_ (hi); (try clear hb); (try clear hk); (try clear hi); have hnb71 := NB373_354.out; have hnc71 := NB354_373.out; have hnb72 := NB373_0.out; have hnc72 := NB0_373.out; have hz73 := cf3_ BK373.out; have hnb74 := NB354_0.out; have hnc74 := NB0_354.out; have hz75 := cf3_ BK354.out))
      refine bodyPost_ret (results_cell_row rfl _ _ gb354 27 #[.string t408, .int .i64 x374001_30, .int .i64 x374002_30] (0, 0) _ rfl (by (with_reducible repeat (first | apply kN_ | apply kD_ | apply kA_)); refine blk_put (cs := #[.string t408, .int .i64 x374001_30, .int .i64 0]) ?_ 2 _ rfl; (with_reducible repeat (first | apply kN_ | apply kD_ | apply kA_)); refine blk_put (cs := #[.string t408, .int .i64 0, .int .i64 0]) ?_ 1 _ rfl; (with_reducible repeat (first | apply kN_ | apply kD_ | apply kA_)); refine blk_put (cs := #[.string (⟨#[]⟩ : ByteArray), .int .i64 0, .int .i64 0]) ?_ 0 _ rfl; (with_reducible repeat (first | apply kN_ | apply kD_ | apply kA_)); refine blk_far ?_ NB354_373.out _; (with_reducible repeat (first | apply kN_ | apply kD_ | apply kA_)); exact BK354.out) Tryz.underlying27 rfl (by kernel_rfl)) rfl ?_
      exact ⟨rT_, z11_3_, z11_8_, z11_7_⟩
     rw [if_neg c65] at H
     have c65b0 : (t402 == 0) = false := beq_eq_false_iff_ne.mpr c65
     have c65b1 : (t402 != 0) = true := bne_iff_ne.mpr c65
     (first | rw [c65b0] | (simp only [i64_w, i32_w]; rw [c65b0]) | skip)
     by_cases c76 : t402 = 1
     ·rw [if_pos c76] at H
      have c76b0 : (t402 == 1) = true := beq_iff_eq.mpr c76
      have c76b1 : (t402 != 1) = false := bne_eq_false_iff_eq.mpr c76
      clear c76
      obtain ⟨y411, hy411⟩ : ∃ y_ : List Int, y_ = (([(-91), 91, x374002_30, (-9223372036854775808)] : List Int)) := ⟨_, rfl⟩
      rw [← hy411] at H
      have Ny411 := Aside0.mk hy411; clear hy411
      replace H := ob_ H; obtain ⟨⟨t414, t415, t416⟩, A77, H⟩ := H; try dsimp only at H
      simp only [Option.some.injEq, Prod.mk.injEq] at H
      obtain ⟨rfl, rfl, rfl, rfl, rfl⟩ := H
      have hnb78 := NB373_354.out
      have hnc78 := NB354_373.out
      have hnb79 := NB373_0.out
      have hnc79 := NB0_373.out
      have hz80 := cf3_ BK373.out
      go_wp2_with (first | ((with_reducible refine gate_dst (N := 71) rfl ?_); refine rl_ (Kd.int .i64) 3 71 ([(-91), 91, x374002_30, (-9223372036854775808)] : List Int) [.int .i64 (-91), .int .i64 91, .int .i64 x374002_30, .int .i64 (-9223372036854775808)] (Reps.one (show Kd.M (Kd.int .i64) _ _ _ (-91) [.int .i64 (-91)] from rfl) (Reps.one (show Kd.M (Kd.int .i64) _ _ _ 91 [.int .i64 91] from rfl) (Reps.one (show Kd.M (Kd.int .i64) _ _ _ x374002_30 [.int .i64 x374002_30] from rfl) (Reps.one (show Kd.M (Kd.int .i64) _ _ _ (-9223372036854775808) [.int .i64 (-9223372036854775808)] from rfl) (Reps.none _ _))))) ?_; intro v412 w81 ho82 hb hg_ hnew_; clear hg_ hnew_; (first | rw [← Ny411.out] at ho82 | (simp only [Int.reduceToNat] at ho82; rw [← Ny411.out] at ho82)); have HO413 := aM_ (Kd.R_lower ho82 (keep_size (w := w) (g := g) (row := none) z11_7_)); replace BK354 := aM_ (blk_below (g := gb354) (kR_ BK354) hb); replace BK373 := aM_ (blk_below (g := gb373) (kR_ BK373) hb); replace HK := aM_ (KeepBut.trans z11_7_ (KeepBut.of_below hb g none) (.inl rfl)); replace HB := aM_ (below_step z11_8_ hb); replace HI0 := aM_ (IsS70.below z11_3_ hb); clear hb ho82; obtain ⟨Ao83, co83, eo83⟩ := Kd.R_slice HO413.out; subst eo83) | ((with_reducible refine gC_ 78 ?_); refine gM_ (some 72) Tryz.func78 #[.pointer (some ⟨g, 0, none⟩), .slice Ao83 y411.length co83] ?_; (with_reducible refine (spec_l1Cur_among.calls g s0_0 t403 t404 _ _ y411 t414 t415 t416 w0 _ ?side1 ?side2 ?side3 ?side4 ?side5 A77.out).mono ?_); (case side1 => exact z11_3_); (case side2 => exact z11_8_); (case side3 => exact cR_ HO413); (case side4 => exact (Kd.R_reads' HO413.out).2.1); (case side5 => exact far_slice (IsS70.own_ne HI0.out HO413.out (by decide))); rintro e w84 ⟨rfl, hi, hb, hk⟩; refine ⟨_, rfl, ?_⟩; replace BK354 := aM_ (KeepBut.blk hk (g' := gb354) (o := .cells #[.string (⟨#[]⟩ : ByteArray), .int .i64 0, .int .i64 0] 27 (0, 0)) (kR_ BK354) NB354_0.out (by simp)); replace BK373 := aM_ (KeepBut.blk hk (g' := gb373) (o := .cells #[.string t358, .int .i64 x374001_30, .int .i64 x374002_30] 27 (0, 0)) (kR_ BK373) NB373_0.out (by simp)); replace HO413 := aM_ (Kd.R_mono (Kd.R_keep (IsS70.apart (show IsS70 w0 _ g s0_0 t403 t404 from by repeat (first | (with_reducible first | exact HI0.out | apply IsS70.alloc | apply IsS70.drewN | apply IsS70.drew | apply IsS70.set_1 | apply IsS70.set_2 | refine IsS70.far ?_ (Aside0.out z11_4_) _) | exact HI0.out)) (rR_ HO413) (by decide)) hk (fun _ h => h.2)) (fun _ h => h.1)); replace HK := aM_ (KeepBut.trans z11_7_ hk (.inl rfl)); replace HB := aM_ (hb); replace HI0 := aM_ (hi); (try clear hb); (try clear hk); (try clear hi); have hz85 := cf3_ BK373.out; have hnb86 := NB354_0.out; have hnc86 := NB0_354.out; have hz87 := cf3_ BK354.out))
      refine bodyPost_ret (results_cell_row rfl _ _ gb354 27 #[.string t358, .int .i64 t414, .int .i64 x374002_30] (0, 0) _ rfl (by (with_reducible repeat (first | apply kN_ | apply kD_ | apply kA_)); refine blk_put (cs := #[.string t358, .int .i64 t414, .int .i64 0]) ?_ 2 _ rfl; (with_reducible repeat (first | apply kN_ | apply kD_ | apply kA_)); refine blk_put (cs := #[.string t358, .int .i64 0, .int .i64 0]) ?_ 1 _ rfl; (with_reducible repeat (first | apply kN_ | apply kD_ | apply kA_)); refine blk_put (cs := #[.string (⟨#[]⟩ : ByteArray), .int .i64 0, .int .i64 0]) ?_ 0 _ rfl; (with_reducible repeat (first | apply kN_ | apply kD_ | apply kA_)); refine blk_far ?_ NB354_373.out _; (with_reducible repeat (first | apply kN_ | apply kD_ | apply kA_)); exact BK354.out) Tryz.underlying27 rfl (by kernel_rfl)) rfl ?_
      exact ⟨rT_, z11_3_, z11_8_, z11_7_⟩
     rw [if_neg c76] at H
     have c76b0 : (t402 == 1) = false := beq_eq_false_iff_ne.mpr c76
     have c76b1 : (t402 != 1) = true := bne_iff_ne.mpr c76
     by_cases c88 : t402 = 2
     rotate_left
     ·rw [if_neg c88] at H
      have c88b0 : (t402 == 2) = false := beq_eq_false_iff_ne.mpr c88
      have c88b1 : (t402 != 2) = true := bne_iff_ne.mpr c88
      simp only [Option.some.injEq, Prod.mk.injEq] at H
      obtain ⟨rfl, rfl, rfl, rfl, rfl⟩ := H
      have hnb99 := NB373_354.out
      have hnc99 := NB354_373.out
      have hnb100 := NB373_0.out
      have hnc100 := NB0_373.out
      have hz101 := cf3_ BK373.out
      clear BK373
      have hnb102 := NB354_0.out
      have hnc102 := NB0_354.out
      have hz103 := cf3_ BK354.out
      go_wp2
      refine bodyPost_ret (results_cell_row rfl _ _ gb354 27 #[.string t358, .int .i64 x374001_30, .int .i64 x374002_30] (0, 0) _ rfl (by (with_reducible repeat (first | apply kN_ | apply kD_ | apply kA_)); refine blk_put (cs := #[.string t358, .int .i64 x374001_30, .int .i64 0]) ?_ 2 _ rfl; (with_reducible repeat (first | apply kN_ | apply kD_ | apply kA_)); refine blk_put (cs := #[.string t358, .int .i64 0, .int .i64 0]) ?_ 1 _ rfl; (with_reducible repeat (first | apply kN_ | apply kD_ | apply kA_)); refine blk_put (cs := #[.string (⟨#[]⟩ : ByteArray), .int .i64 0, .int .i64 0]) ?_ 0 _ rfl; (with_reducible repeat (first | apply kN_ | apply kD_ | apply kA_)); exact BK354.out) Tryz.underlying27 rfl (by kernel_rfl)) rfl ?_
      exact ⟨rT_, z11_3_, z11_2_, z11_1_⟩
     rw [if_pos c88] at H
     have c88b0 : (t402 == 2) = true := beq_iff_eq.mpr c88
     have c88b1 : (t402 != 2) = false := bne_eq_false_iff_eq.mpr c88
     clear c88
     obtain ⟨y417, hy417⟩ : ∃ y_ : List Int, y_ = (([(-91), 91] : List Int)) := ⟨_, rfl⟩
     rw [← hy417] at H
     have Ny417 := Aside0.mk hy417; clear hy417
     replace H := ob_ H; obtain ⟨⟨t420, t421, t422⟩, A89, H⟩ := H; try dsimp only at H
     simp only [Option.some.injEq, Prod.mk.injEq] at H
     obtain ⟨rfl, rfl, rfl, rfl, rfl⟩ := H
     go_wp2_with (first | ((with_reducible refine gate_dst (N := 77) rfl ?_); refine rl_ (Kd.int .i64) 3 77 ([(-91), 91] : List Int) [.int .i64 (-91), .int .i64 91] (Reps.one (show Kd.M (Kd.int .i64) _ _ _ (-91) [.int .i64 (-91)] from rfl) (Reps.one (show Kd.M (Kd.int .i64) _ _ _ 91 [.int .i64 91] from rfl) (Reps.none _ _))) ?_; intro v418 w90 ho91 hb hg_ hnew_; clear hg_ hnew_; (first | rw [← Ny417.out] at ho91 | (simp only [Int.reduceToNat] at ho91; rw [← Ny417.out] at ho91)); have HO419 := aM_ (Kd.R_lower ho91 (keep_size (w := w) (g := g) (row := none) z11_7_)); replace BK354 := aM_ (blk_below (g := gb354) (kR_ BK354) hb); replace BK373 := aM_ (blk_below (g := gb373) (kR_ BK373) hb); replace HK := aM_ (KeepBut.trans z11_7_ (KeepBut.of_below hb g none) (.inl rfl)); replace HB := aM_ (below_step z11_8_ hb); replace HI0 := aM_ (IsS70.below z11_3_ hb); clear hb ho91; obtain ⟨Ao92, co92, eo92⟩ := Kd.R_slice HO419.out; subst eo92) | ((with_reducible refine gC_ 78 ?_); refine gM_ (some 78) Tryz.func78 #[.pointer (some ⟨g, 0, none⟩), .slice Ao92 y417.length co92] ?_; (with_reducible refine (spec_l1Cur_among.calls g s0_0 t403 t404 _ _ y417 t420 t421 t422 w0 _ ?side1 ?side2 ?side3 ?side4 ?side5 A89.out).mono ?_); (case side1 => exact z11_3_); (case side2 => exact z11_8_); (case side3 => exact cR_ HO419); (case side4 => exact (Kd.R_reads' HO419.out).2.1); (case side5 => exact far_slice (IsS70.own_ne HI0.out HO419.out (by decide))); rintro e w93 ⟨rfl, hi, hb, hk⟩; refine ⟨_, rfl, ?_⟩; replace BK354 := aM_ (KeepBut.blk hk (g' := gb354) (o := .cells #[.string (⟨#[]⟩ : ByteArray), .int .i64 0, .int .i64 0] 27 (0, 0)) (kR_ BK354) NB354_0.out (by simp)); replace BK373 := aM_ (KeepBut.blk hk (g' := gb373) (o := .cells #[.string t358, .int .i64 x374001_30, .int .i64 x374002_30] 27 (0, 0)) (kR_ BK373) NB373_0.out (by simp)); replace HO419 := aM_ (Kd.R_mono (Kd.R_keep (IsS70.apart (show IsS70 w0 _ g s0_0 t403 t404 from by repeat (first | (with_reducible first | exact HI0.out | apply IsS70.alloc | apply IsS70.drewN | apply IsS70.drew | apply IsS70.set_1 | apply IsS70.set_2 | refine IsS70.far ?_ (Aside0.out z11_4_) _) | exact HI0.out)) (rR_ HO419) (by decide)) hk (fun _ h => h.2)) (fun _ h => h.1)); replace HK := aM_ (KeepBut.trans z11_7_ hk (.inl rfl)); replace HB := aM_ (hb); replace HI0 := aM_ (hi); (try clear hb); (try clear hk); (try clear hi); have hnb94 := NB373_354.out; have hnc94 := NB354_373.out; have hnb95 := NB373_0.out; have hnc95 := NB0_373.out; have hz96 := cf3_ BK373.out; have hnb97 := NB354_0.out; have hnc97 := NB0_354.out; have hz98 := cf3_ BK354.out))
     refine bodyPost_ret (results_cell_row rfl _ _ gb354 27 #[.string t358, .int .i64 x374001_30, .int .i64 t420] (0, 0) _ rfl (by (with_reducible repeat (first | apply kN_ | apply kD_ | apply kA_)); refine blk_put (cs := #[.string t358, .int .i64 x374001_30, .int .i64 0]) ?_ 2 _ rfl; (with_reducible repeat (first | apply kN_ | apply kD_ | apply kA_)); refine blk_put (cs := #[.string t358, .int .i64 0, .int .i64 0]) ?_ 1 _ rfl; (with_reducible repeat (first | apply kN_ | apply kD_ | apply kA_)); refine blk_put (cs := #[.string (⟨#[]⟩ : ByteArray), .int .i64 0, .int .i64 0]) ?_ 0 _ rfl; (with_reducible repeat (first | apply kN_ | apply kD_ | apply kA_)); refine blk_far ?_ NB354_373.out _; (with_reducible repeat (first | apply kN_ | apply kD_ | apply kA_)); exact BK354.out) Tryz.underlying27 rfl (by kernel_rfl)) rfl ?_
     exact ⟨rT_, z11_3_, z11_8_, z11_7_⟩

end Go.Proofs.YtfkdlfbjkdkffaaGreatDoor.PFnVerbs
