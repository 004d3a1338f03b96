/- Printed for this claim: functions of the program as Lean functions, and that the calls answer so. -/
import Derived.Test.YtbfkpgmdbafmhaaDoorPFnShapesx0
import Derived.Test.YtbfkpgmdbafmhaaDoorPFnShapesx1
import Derived.Test.YtbfkpgmdbafmhaaDoorPFnShapesx2
import Derived.Test.YtbfkpgmdbafmhaaDoorPFnShapesx5
import Derived.Test.YtbfkpgmdbafmhaaDoorPFnShapesx7
import Derived.Test.YtbfkpgmdbafmhaaDoorPFnShapesx9
import Derived.Test.YtbfkpgmdbafmhaaDoorPFnShapesx10
import Derived.Test.YtbfkpgmdbafmhaaDoorPFnShapesx11
import Derived.Test.YtbfkpgmdbafmhaaDoorPFnShapesx12
import Derived.Test.YtbfkpgmdbafmhaaDoorPFnShapesx13
import Derived.Test.YtbfkpgmdbafmhaaDoorPFnShapesx14
import Derived.Test.YtbfkpgmdbafmhaaDoorPFnShapesxD0
import Derived.Test.YtbfkpgmdbafmhaaDoorPFnShapesxD1
namespace Go.Proofs.YtbfkpgmdbafmhaaDoor.PFnShapes
open Go.RowKit Go.Proofs.YtbfkpgmdbafmhaaDoorW.PrintWords Go.Proofs.YtbfkpgmdbafmhaaDoorW.PrintLast Go.Proofs.YtbfkpgmdbafmhaaDoorW.PrintMore
attribute [local go_sem] max2_int min2_int max_two min_two max_three min_three max_four min_four isSome_setCell   -- for this text's walks alone
set_option linter.unusedVariables false
set_option linter.unusedSimpArgs false

attribute [local go_sem high] eqA25
theorem okThen_ {α β : Type} (a : α) (w : World) (f : α → World → Result β) : (Result.ok a w).andThen f = f a w := by cases w; rfl
attribute [local simp high] okThen_
theorem z15_0_ {p : Prop} (h : p := by (with_reducible repeat (first | apply kN_ | apply kD_ | apply kA_)); refine blk_far ?_ NB614_615.out _; (with_reducible repeat (first | apply kN_ | apply kD_ | apply kA_)); refine blk_far ?_ NB614_615.out _; (with_reducible repeat (first | apply kN_ | apply kD_ | apply kA_)); refine blk_far ?_ NB614_615.out _; (with_reducible repeat (first | apply kN_ | apply kD_ | apply kA_)); refine blk_far ?_ NB614_615.out _; (with_reducible repeat (first | apply kN_ | apply kD_ | apply kA_)); refine blk_far ?_ NB614_615.out _; (with_reducible repeat (first | apply kN_ | apply kD_ | apply kA_)); refine blk_far ?_ NB614_615.out _; (with_reducible repeat (first | apply kN_ | apply kD_ | apply kA_)); refine blk_put (cs := #[.int .i64 t602, .int .i64 t603, .int .i64 t604, .int .i64 t605, .int .i64 t606, .bool false]) ?_ 5 _ rfl; (with_reducible repeat (first | apply kN_ | apply kD_ | apply kA_)); refine blk_put (cs := #[.int .i64 t602, .int .i64 t603, .int .i64 t604, .int .i64 t605, .int .i64 0, .bool false]) ?_ 4 _ rfl; (with_reducible repeat (first | apply kN_ | apply kD_ | apply kA_)); refine blk_put (cs := #[.int .i64 t602, .int .i64 t603, .int .i64 t604, .int .i64 0, .int .i64 0, .bool false]) ?_ 3 _ rfl; (with_reducible repeat (first | apply kN_ | apply kD_ | apply kA_)); refine blk_put (cs := #[.int .i64 t602, .int .i64 t603, .int .i64 0, .int .i64 0, .int .i64 0, .bool false]) ?_ 2 _ rfl; (with_reducible repeat (first | apply kN_ | apply kD_ | apply kA_)); refine blk_put (cs := #[.int .i64 t602, .int .i64 0, .int .i64 0, .int .i64 0, .int .i64 0, .bool false]) ?_ 1 _ rfl; (with_reducible repeat (first | apply kN_ | apply kD_ | apply kA_)); refine blk_put (cs := #[.int .i64 0, .int .i64 0, .int .i64 0, .int .i64 0, .int .i64 0, .bool false]) ?_ 0 _ rfl; (with_reducible repeat (first | apply kN_ | apply kD_ | apply kA_)); exact BK614.out) : p := h
theorem z15_1_ {p : Prop} (h : p := by (with_reducible repeat (first | apply kN_ | apply kD_ | apply kA_)); refine blk_put (cs := #[.int .i64 t608, .int .i64 t609, .int .i64 t610, .int .i64 t611, .int .i64 t612, .bool false]) ?_ 5 _ rfl; (with_reducible repeat (first | apply kN_ | apply kD_ | apply kA_)); refine blk_put (cs := #[.int .i64 t608, .int .i64 t609, .int .i64 t610, .int .i64 t611, .int .i64 0, .bool false]) ?_ 4 _ rfl; (with_reducible repeat (first | apply kN_ | apply kD_ | apply kA_)); refine blk_put (cs := #[.int .i64 t608, .int .i64 t609, .int .i64 t610, .int .i64 0, .int .i64 0, .bool false]) ?_ 3 _ rfl; (with_reducible repeat (first | apply kN_ | apply kD_ | apply kA_)); refine blk_put (cs := #[.int .i64 t608, .int .i64 t609, .int .i64 0, .int .i64 0, .int .i64 0, .bool false]) ?_ 2 _ rfl; (with_reducible repeat (first | apply kN_ | apply kD_ | apply kA_)); refine blk_put (cs := #[.int .i64 t608, .int .i64 0, .int .i64 0, .int .i64 0, .int .i64 0, .bool false]) ?_ 1 _ rfl; (with_reducible repeat (first | apply kN_ | apply kD_ | apply kA_)); refine blk_put (cs := #[.int .i64 0, .int .i64 0, .int .i64 0, .int .i64 0, .int .i64 0, .bool false]) ?_ 0 _ rfl; (with_reducible repeat (first | apply kN_ | apply kD_ | apply kA_)); refine blk_far ?_ NB615_614.out _; (with_reducible repeat (first | apply kN_ | apply kD_ | apply kA_)); refine blk_far ?_ NB615_614.out _; (with_reducible repeat (first | apply kN_ | apply kD_ | apply kA_)); refine blk_far ?_ NB615_614.out _; (with_reducible repeat (first | apply kN_ | apply kD_ | apply kA_)); refine blk_far ?_ NB615_614.out _; (with_reducible repeat (first | apply kN_ | apply kD_ | apply kA_)); refine blk_far ?_ NB615_614.out _; (with_reducible repeat (first | apply kN_ | apply kD_ | apply kA_)); refine blk_far ?_ NB615_614.out _; (with_reducible repeat (first | apply kN_ | apply kD_ | apply kA_)); exact BK615.out) : p := h
theorem z15_2_ {p : Prop} (h : p := by first | rfl | (simp; done) | (simp [*]; done)) : p := h
theorem z15_3_ {p : Prop} (h : p := by exact rM_ HO622 (fun _ hk => ⟨hk.1.1.1.2, ⟨hk.1.1.2, ⟨hk.1.2, hk.2⟩⟩⟩)) : p := h
theorem z15_4o_ {p : Prop} (h : p := by (with_reducible repeat (first | apply kN_ | apply kD_ | apply kA_)); refine blk_far ?_ NB614_643.out _; (with_reducible repeat (first | apply kN_ | apply kD_ | apply kA_)); refine blk_far ?_ NB614_643.out _; (with_reducible repeat (first | apply kN_ | apply kD_ | apply kA_)); refine blk_far ?_ NB614_643.out _; (with_reducible repeat (first | apply kN_ | apply kD_ | apply kA_)); refine blk_far ?_ NB614_643.out _; (with_reducible repeat (first | apply kN_ | apply kD_ | apply kA_)); refine blk_far ?_ NB614_643.out _; (with_reducible repeat (first | apply kN_ | apply kD_ | apply kA_)); refine blk_far ?_ NB614_643.out _; (with_reducible repeat (first | apply kN_ | apply kD_ | apply kA_)); exact BK614.out) : p := h
theorem z15_4_ {p : Prop} (h : p := by exact kR_ BK614) : p := h
theorem z15_5o_ {p : Prop} (h : p := by (with_reducible repeat (first | apply kN_ | apply kD_ | apply kA_)); refine blk_far ?_ NB615_643.out _; (with_reducible repeat (first | apply kN_ | apply kD_ | apply kA_)); refine blk_far ?_ NB615_643.out _; (with_reducible repeat (first | apply kN_ | apply kD_ | apply kA_)); refine blk_far ?_ NB615_643.out _; (with_reducible repeat (first | apply kN_ | apply kD_ | apply kA_)); refine blk_far ?_ NB615_643.out _; (with_reducible repeat (first | apply kN_ | apply kD_ | apply kA_)); refine blk_far ?_ NB615_643.out _; (with_reducible repeat (first | apply kN_ | apply kD_ | apply kA_)); refine blk_far ?_ NB615_643.out _; (with_reducible repeat (first | apply kN_ | apply kD_ | apply kA_)); exact BK615.out) : p := h
theorem z15_5_ {p : Prop} (h : p := by exact kR_ BK615) : p := h
theorem z15_6o_ {p : Prop} (h : p := by (with_reducible repeat (first | apply kN_ | apply kD_ | apply kA_)); refine blk_far ?_ NB635_643.out _; (with_reducible repeat (first | apply kN_ | apply kD_ | apply kA_)); refine blk_far ?_ NB635_643.out _; (with_reducible repeat (first | apply kN_ | apply kD_ | apply kA_)); refine blk_far ?_ NB635_643.out _; (with_reducible repeat (first | apply kN_ | apply kD_ | apply kA_)); refine blk_far ?_ NB635_643.out _; (with_reducible repeat (first | apply kN_ | apply kD_ | apply kA_)); refine blk_far ?_ NB635_643.out _; (with_reducible repeat (first | apply kN_ | apply kD_ | apply kA_)); refine blk_far ?_ NB635_643.out _; (with_reducible repeat (first | apply kN_ | apply kD_ | apply kA_)); exact BK635.out) : p := h
theorem z15_6_ {p : Prop} (h : p := by exact kR_ BK635) : p := h
theorem z15_7o_ {p : Prop} (h : p := by (with_reducible repeat (first | apply kN_ | apply kD_ | apply kA_)); refine blk_put (cs := #[.int .i64 t636, .int .i64 t637, .int .i64 t638, .int .i64 t639, .int .i64 t640, .bool false]) ?_ 5 _ rfl; (with_reducible repeat (first | apply kN_ | apply kD_ | apply kA_)); refine blk_put (cs := #[.int .i64 t636, .int .i64 t637, .int .i64 t638, .int .i64 t639, .int .i64 0, .bool false]) ?_ 4 _ rfl; (with_reducible repeat (first | apply kN_ | apply kD_ | apply kA_)); refine blk_put (cs := #[.int .i64 t636, .int .i64 t637, .int .i64 t638, .int .i64 0, .int .i64 0, .bool false]) ?_ 3 _ rfl; (with_reducible repeat (first | apply kN_ | apply kD_ | apply kA_)); refine blk_put (cs := #[.int .i64 t636, .int .i64 t637, .int .i64 0, .int .i64 0, .int .i64 0, .bool false]) ?_ 2 _ rfl; (with_reducible repeat (first | apply kN_ | apply kD_ | apply kA_)); refine blk_put (cs := #[.int .i64 t636, .int .i64 0, .int .i64 0, .int .i64 0, .int .i64 0, .bool false]) ?_ 1 _ rfl; (with_reducible repeat (first | apply kN_ | apply kD_ | apply kA_)); refine blk_put (cs := #[.int .i64 0, .int .i64 0, .int .i64 0, .int .i64 0, .int .i64 0, .bool false]) ?_ 0 _ rfl; (with_reducible repeat (first | apply kN_ | apply kD_ | apply kA_)); exact BK643.out) : p := h
theorem z15_7_ {p : Prop} (h : p := by exact kR_ BK643) : p := h
theorem z15_8o_ {p : Prop} (h : p := by (with_reducible repeat (first | apply rA_ | apply rN_ | apply rD_)); exact (Kd.R_mono (Kd.R_far (p := ⟨gb643, 5, none⟩) (Kd.R_far (p := ⟨gb643, 4, none⟩) (Kd.R_far (p := ⟨gb643, 3, none⟩) (Kd.R_far (p := ⟨gb643, 2, none⟩) (Kd.R_far (p := ⟨gb643, 1, none⟩) (Kd.R_far (p := ⟨gb643, 0, none⟩) (Kd.R_mono HO618.out (fun k_ hk => (⟨hk, hk.2⟩ : _ ∧ k_ ≠ gb643))) (fun _ hk => hk.2) (.int .i64 t636)) (fun _ hk => hk.2) (.int .i64 t637)) (fun _ hk => hk.2) (.int .i64 t638)) (fun _ hk => hk.2) (.int .i64 t639)) (fun _ hk => hk.2) (.int .i64 t640)) (fun _ hk => hk.2) (.bool t641)) (fun _ h_ => h_.1))) : p := h
theorem z15_8_ {p : Prop} (h : p := by exact rR_ HO618) : p := h
theorem z15_9o_ {p : Prop} (h : p := by (with_reducible repeat (first | apply rA_ | apply rN_ | apply rD_)); exact (Kd.R_mono (Kd.R_far (p := ⟨gb643, 5, none⟩) (Kd.R_far (p := ⟨gb643, 4, none⟩) (Kd.R_far (p := ⟨gb643, 3, none⟩) (Kd.R_far (p := ⟨gb643, 2, none⟩) (Kd.R_far (p := ⟨gb643, 1, none⟩) (Kd.R_far (p := ⟨gb643, 0, none⟩) (Kd.R_mono HO622.out (fun k_ hk => (⟨hk, hk.2⟩ : _ ∧ k_ ≠ gb643))) (fun _ hk => hk.2) (.int .i64 t636)) (fun _ hk => hk.2) (.int .i64 t637)) (fun _ hk => hk.2) (.int .i64 t638)) (fun _ hk => hk.2) (.int .i64 t639)) (fun _ hk => hk.2) (.int .i64 t640)) (fun _ hk => hk.2) (.bool t641)) (fun _ h_ => h_.1))) : p := h
theorem z15_9_ {p : Prop} (h : p := by exact rR_ HO622) : p := h
theorem z15_10_ {p : Prop} (h : p := by have := HJ11.out; first | omega | exact Nat.le_refl _) : p := h
theorem z15_11_ {p : Prop} (h : p := by have := HJ11.out; have := HJ156.out; have := HK3.out; first | omega | exact Nat.le_refl _) : p := h
theorem z15_12_ {p : Prop} (h : p := by (try simp only [List.map_toArray, List.map_cons, List.map_nil]); first | done | (simp only [hji206]; rfl) | rfl) : p := h
theorem z15_13_ {p : Prop} (h : p := by first | rfl | (simp [errW_none, errW_some] <;> rfl) | (simp only [← hji206]; first | rfl | (simp [errW_none, errW_some] <;> rfl)) | (simp [*, errW_none, errW_some] <;> rfl)) : p := h
theorem z15_14_ {p : Prop} (h : p := by repeat (first | exact (Kd.C_below HR1.out HB.out) | (with_reducible first | apply cA_ | apply cN_ | apply cD_))) : p := h
theorem z15_15_ {p : Prop} (h : p := by have := HJ11.out; have := HJ153.out; first | omega | exact Nat.le_refl _) : p := h
theorem z15_16_ {p : Prop} (h : p := by (with_reducible repeat (first | apply kN_ | apply kD_ | apply kA_)); refine blk_far ?_ NB670_691.out _; (with_reducible repeat (first | apply kN_ | apply kD_ | apply kA_)); refine blk_far ?_ NB670_691.out _; (with_reducible repeat (first | apply kN_ | apply kD_ | apply kA_)); refine blk_far ?_ NB670_691.out _; (with_reducible repeat (first | apply kN_ | apply kD_ | apply kA_)); refine blk_far ?_ NB670_691.out _; (with_reducible repeat (first | apply kN_ | apply kD_ | apply kA_)); refine blk_far ?_ NB670_691.out _; (with_reducible repeat (first | apply kN_ | apply kD_ | apply kA_)); refine blk_far ?_ NB670_691.out _; (with_reducible repeat (first | apply kN_ | apply kD_ | apply kA_)); exact BK670.out) : p := h
/-! ### laws_FnShapes: function 3 -/
def laws_FnShapes.T14 : Bool × List (List Nat × List Nat) := (true, [([], []), ([0], [0]), ([1], [1]), ([2], [2]), ([2], [2]), ([3, 4, 2], [2, 3, 4]), ([2, 5], [2, 5]), ([6, 2], [6]), ([7], [7]), ([8, 7], [7, 8]), ([7], [7]), ([7], [7]), ([10, 11, 7], [7, 10, 11]), ([9, 12, 7], [7, 9, 12]), ([7, 13], [7, 13]), ([14, 7], [14]), ([15], [15]), ([16, 15], [15, 16]), ([17, 15], [15, 17]), ([15, 18], [15, 18]), ([19, 15], [19]), ([20], [20]), ([21, 20], [20, 21]), ([22, 20], [20, 22]), ([20], [20]), ([23, 24, 20], [20, 23, 24]), ([20, 25], [20, 25]), ([26, 20], [26]), ([27], [27]), ([27], [27]), ([29, 27], [27, 29]), ([30, 27], [27, 30]), ([28, 31, 27], [27, 28, 31]), ([32, 27], [27, 32]), ([27], [27]), ([33, 34, 27], [27, 33, 34]), ([27, 35], [27, 35]), ([36, 27], [36]), ([37], [37]), ([38, 37], [37, 38]), ([37], [37]), ([39, 40, 37], [37, 39, 40]), ([37, 41], [37, 41]), ([42, 37], [42]), ([43], [43]), ([44, 43, 43], [43, 44]), ([45, 43], [43, 45]), ([43, 46], [43, 46])])
def laws_FnShapes.B14 : List Nat := [0, 1, 3, 7, 7, 31, 63, 127, 255, 511, 255, 255, 3327, 8191, 16383, 32767, 65535, 131071, 262143, 524287, 1048575, 2097151, 4194303, 8388607, 2097151, 33554431, 67108863, 134217727, 268435455, 268435455, 805306367, 1879048191, 4294967295, 8589934591, 268435455, 34359738367, 68719476735, 137438953471, 274877906943, 549755813887, 274877906943, 2199023255551, 4398046511103, 8796093022207, 17592186044415, 35184372088831, 70368744177663, 140737488355327]
theorem laws_FnShapes.tab14 : rtab .any (opsOf Tryd.f3 14) = laws_FnShapes.T14 := by kernel_rfl
theorem laws_FnShapes.bits14 : waitsOk laws_FnShapes.T14.2 laws_FnShapes.B14 = true := by kernel_rfl
def laws_FnShapes.T19 : Bool × List (List Nat × List Nat) := (true, [([], []), ([], []), ([0, 1], [0, 1]), ([2], [2]), ([], []), ([], []), ([5], [5]), ([4, 6], [4, 6]), ([7], [7]), ([3, 8], [3, 8]), ([9], [9]), ([10], [10]), ([10], [10]), ([11, 12, 10], [10, 11, 12]), ([13, 10], [10, 13]), ([14, 10, 10], [10, 14]), ([15, 10], [10, 15]), ([10, 16], [10, 16])])
def laws_FnShapes.B19 : List Nat := [0, 0, 3, 7, 0, 0, 32, 112, 240, 511, 1023, 2047, 2047, 8191, 16383, 32767, 65535, 131071]
theorem laws_FnShapes.tab19 : rtab .any (opsOf Tryd.f3 19) = laws_FnShapes.T19 := by kernel_rfl
theorem laws_FnShapes.bits19 : waitsOk laws_FnShapes.T19.2 laws_FnShapes.B19 = true := by kernel_rfl
def laws_FnShapes.T21 : Bool × List (List Nat × List Nat) := (true, [([], []), ([], []), ([1], [1]), ([0, 2], [0, 2]), ([3], [3]), ([], []), ([], []), ([5, 6], [5, 6]), ([7], [7]), ([4, 8], [4, 8]), ([9], [9]), ([10], [10]), ([10], [10]), ([11, 9, 0, 1, 2, 3, 4, 5, 6, 7, 8, 9, 10, 11], [11]), ([12, 13, 0, 1, 2, 3, 4, 5, 6, 7, 8, 9, 10, 11, 12, 13], [12])])
def laws_FnShapes.B21 : List Nat := [0, 0, 2, 7, 15, 0, 0, 96, 224, 511, 1023, 2047, 2047, 4095, 16383]
theorem laws_FnShapes.tab21 : rtab .any (opsOf Tryd.f3 21) = laws_FnShapes.T21 := by kernel_rfl
theorem laws_FnShapes.bits21 : waitsOk laws_FnShapes.T21.2 laws_FnShapes.B21 = true := by kernel_rfl
set_option maxHeartbeats 64000000 in
set_option maxRecDepth 100000 in
theorem laws_FnShapes.calls (k : Nat) (A0 : Option Addr) (c0 : Nat) (l0 : List Int) (A1 : Option Addr) (c1 : Nat) (l1 : List Int) (r : Bool) (w : World) (hr0 : Kd.C (Kd.int .u8) w A0 l0.length l0) (hc0 : l0.length ≤ c0) (hr1 : Kd.C (Kd.int .u8) w A1 l1.length l1) (hc1 : l1.length ≤ c1) (h : laws_FnShapes.f k l0 l1 = some r) :
 Calls Tryd.prog 3 #[.slice A0 l0.length c0, .slice A1 l1.length c1] w fun e w' => e = .returned (.bool r) ∧ Below w.heap.size w w' := by
 have hu25 := Tryd.underlying25
 have HR0 := Aside0.mk hr0
 have HC0 := Aside0.mk hc0
 clear hr0 hc0
 have HR1 := Aside0.mk hr1
 have HC1 := Aside0.mk hc1
 clear hr1 hc1
 have HB := Aside0.mk (Below.refl w.heap.size w)
 have H : ((laws_big.f l0 l1).bind fun t601 => (if t601 = true then (some true) else ((spec_DrawShapeWay.f k l0).bind fun bt602 => ((impl_ShapeWay.f k bt602.1 bt602.2.1 bt602.2.2.1 bt602.2.2.2.1 bt602.2.2.2.2.1 bt602.2.2.2.2.2.1 bt602.2.2.2.2.2.2.1 bt602.2.2.2.2.2.2.2.1 bt602.2.2.2.2.2.2.2.2.1 bt602.2.2.2.2.2.2.2.2.2.1 bt602.2.2.2.2.2.2.2.2.2.2.1 bt602.2.2.2.2.2.2.2.2.2.2.2).bind fun bt616 => ((spec_ShapeWay.f k bt602.1 bt602.2.1 bt602.2.2.1 bt602.2.2.2.1 bt602.2.2.2.2.1 bt602.2.2.2.2.2.1 bt602.2.2.2.2.2.2.1 bt602.2.2.2.2.2.2.2.1 bt602.2.2.2.2.2.2.2.2.1 bt602.2.2.2.2.2.2.2.2.2.1 bt602.2.2.2.2.2.2.2.2.2.2.1 bt602.2.2.2.2.2.2.2.2.2.2.2).bind fun bt620 => ((impl_ShapeDistance.f k bt602.1 bt602.2.1 bt602.2.2.1 bt602.2.2.2.1 bt602.2.2.2.2.1 bt602.2.2.2.2.2.1 bt602.2.2.2.2.2.2.1 bt602.2.2.2.2.2.2.2.1 bt602.2.2.2.2.2.2.2.2.1 bt602.2.2.2.2.2.2.2.2.2.1 bt602.2.2.2.2.2.2.2.2.2.2.1 bt602.2.2.2.2.2.2.2.2.2.2.2).bind fun bt624 => ((spec_ShapeDistance.f k bt602.1 bt602.2.1 bt602.2.2.1 bt602.2.2.2.1 bt602.2.2.2.2.1 bt602.2.2.2.2.2.1 bt602.2.2.2.2.2.2.1 bt602.2.2.2.2.2.2.2.1 bt602.2.2.2.2.2.2.2.2.1 bt602.2.2.2.2.2.2.2.2.2.1 bt602.2.2.2.2.2.2.2.2.2.2.1 bt602.2.2.2.2.2.2.2.2.2.2.2).bind fun bt626 => ((impl_BetweenShapes.f k bt602.1 bt602.2.1 bt602.2.2.1 bt602.2.2.2.1 bt602.2.2.2.2.1 bt602.2.2.2.2.2.1 bt602.2.2.2.2.2.2.1 bt602.2.2.2.2.2.2.2.1 bt602.2.2.2.2.2.2.2.2.1 bt602.2.2.2.2.2.2.2.2.2.1 bt602.2.2.2.2.2.2.2.2.2.2.1 bt602.2.2.2.2.2.2.2.2.2.2.2).bind fun bt628 => ((spec_BetweenShapes.f k bt602.1 bt602.2.1 bt602.2.2.1 bt602.2.2.2.1 bt602.2.2.2.2.1 bt602.2.2.2.2.2.1 bt602.2.2.2.2.2.2.1 bt602.2.2.2.2.2.2.2.1 bt602.2.2.2.2.2.2.2.2.1 bt602.2.2.2.2.2.2.2.2.2.1 bt602.2.2.2.2.2.2.2.2.2.2.1 bt602.2.2.2.2.2.2.2.2.2.2.2).bind fun bt636 => (if (bt616.2 != bt620.2) = true then (laws_FnShapes.j0 k l1 bt616.2 bt620.1 bt626.1 true bt602.1 bt602.2.1 bt602.2.2.1 bt602.2.2.2.1 bt602.2.2.2.2.1 bt602.2.2.2.2.2.1 bt602.2.2.2.2.2.2.1 bt602.2.2.2.2.2.2.2.1 bt602.2.2.2.2.2.2.2.2.1 bt602.2.2.2.2.2.2.2.2.2.1 bt602.2.2.2.2.2.2.2.2.2.2.1 bt602.2.2.2.2.2.2.2.2.2.2.2 bt628.1 bt628.2.1 bt628.2.2.1 bt628.2.2.2.1 bt628.2.2.2.2.1 bt628.2.2.2.2.2.1 bt636.1 bt636.2.1 bt636.2.2.1 bt636.2.2.2.1 bt636.2.2.2.2.1 bt636.2.2.2.2.2.1) else ((laws_pSameShapes.f k bt616.1 bt620.1).bind fun t644 => (if t644 = true then (if (bt624.2 != bt626.2) = true then (laws_FnShapes.j0 k l1 bt616.2 bt620.1 bt626.1 true bt602.1 bt602.2.1 bt602.2.2.1 bt602.2.2.2.1 bt602.2.2.2.2.1 bt602.2.2.2.2.2.1 bt602.2.2.2.2.2.2.1 bt602.2.2.2.2.2.2.2.1 bt602.2.2.2.2.2.2.2.2.1 bt602.2.2.2.2.2.2.2.2.2.1 bt602.2.2.2.2.2.2.2.2.2.2.1 bt602.2.2.2.2.2.2.2.2.2.2.2 bt628.1 bt628.2.1 bt628.2.2.1 bt628.2.2.2.1 bt628.2.2.2.2.1 bt628.2.2.2.2.2.1 bt636.1 bt636.2.1 bt636.2.2.1 bt636.2.2.2.1 bt636.2.2.2.2.1 bt636.2.2.2.2.2.1) else (if bt624.1 = bt626.1 then (if (bt628.2.2.2.2.2.2 != bt636.2.2.2.2.2.2) = true then (laws_FnShapes.j0 k l1 bt616.2 bt620.1 bt626.1 true bt602.1 bt602.2.1 bt602.2.2.1 bt602.2.2.2.1 bt602.2.2.2.2.1 bt602.2.2.2.2.2.1 bt602.2.2.2.2.2.2.1 bt602.2.2.2.2.2.2.2.1 bt602.2.2.2.2.2.2.2.2.1 bt602.2.2.2.2.2.2.2.2.2.1 bt602.2.2.2.2.2.2.2.2.2.2.1 bt602.2.2.2.2.2.2.2.2.2.2.2 bt628.1 bt628.2.1 bt628.2.2.1 bt628.2.2.2.1 bt628.2.2.2.2.1 bt628.2.2.2.2.2.1 bt636.1 bt636.2.1 bt636.2.2.1 bt636.2.2.2.1 bt636.2.2.2.2.1 bt636.2.2.2.2.2.1) else (if (!(bt628.1 == bt636.1) || (!(bt628.2.1 == bt636.2.1) || (!(bt628.2.2.1 == bt636.2.2.1) || (!(bt628.2.2.2.1 == bt636.2.2.2.1) || (!(bt628.2.2.2.2.1 == bt636.2.2.2.2.1) || (!(bt628.2.2.2.2.2.1 == bt636.2.2.2.2.2.1))))))) = true then (laws_FnShapes.j0 k l1 bt616.2 bt620.1 bt626.1 true bt602.1 bt602.2.1 bt602.2.2.1 bt602.2.2.2.1 bt602.2.2.2.2.1 bt602.2.2.2.2.2.1 bt602.2.2.2.2.2.2.1 bt602.2.2.2.2.2.2.2.1 bt602.2.2.2.2.2.2.2.2.1 bt602.2.2.2.2.2.2.2.2.2.1 bt602.2.2.2.2.2.2.2.2.2.2.1 bt602.2.2.2.2.2.2.2.2.2.2.2 bt628.1 bt628.2.1 bt628.2.2.1 bt628.2.2.2.1 bt628.2.2.2.2.1 bt628.2.2.2.2.2.1 bt636.1 bt636.2.1 bt636.2.2.1 bt636.2.2.2.1 bt636.2.2.2.2.1 bt636.2.2.2.2.2.1) else ((impl_IsShape.f k bt602.1 bt602.2.1 bt602.2.2.1 bt602.2.2.2.1 bt602.2.2.2.2.1 bt602.2.2.2.2.2.1).bind fun t645 => (if t645 = true then ((impl_IsShape.f k bt602.2.2.2.2.2.2.1 bt602.2.2.2.2.2.2.2.1 bt602.2.2.2.2.2.2.2.2.1 bt602.2.2.2.2.2.2.2.2.2.1 bt602.2.2.2.2.2.2.2.2.2.2.1 bt602.2.2.2.2.2.2.2.2.2.2.2).bind fun t646 => (if (bt616.2 != t646) = true then (laws_FnShapes.j0 k l1 bt616.2 bt620.1 bt626.1 true bt602.1 bt602.2.1 bt602.2.2.1 bt602.2.2.2.1 bt602.2.2.2.2.1 bt602.2.2.2.2.2.1 bt602.2.2.2.2.2.2.1 bt602.2.2.2.2.2.2.2.1 bt602.2.2.2.2.2.2.2.2.1 bt602.2.2.2.2.2.2.2.2.2.1 bt602.2.2.2.2.2.2.2.2.2.2.1 bt602.2.2.2.2.2.2.2.2.2.2.2 bt628.1 bt628.2.1 bt628.2.2.1 bt628.2.2.2.1 bt628.2.2.2.2.1 bt628.2.2.2.2.2.1 bt636.1 bt636.2.1 bt636.2.2.1 bt636.2.2.2.1 bt636.2.2.2.2.1 bt636.2.2.2.2.2.1) else (if (bt624.2 != bt616.2) = true then (laws_FnShapes.j0 k l1 bt616.2 bt620.1 bt626.1 true bt602.1 bt602.2.1 bt602.2.2.1 bt602.2.2.2.1 bt602.2.2.2.2.1 bt602.2.2.2.2.2.1 bt602.2.2.2.2.2.2.1 bt602.2.2.2.2.2.2.2.1 bt602.2.2.2.2.2.2.2.2.1 bt602.2.2.2.2.2.2.2.2.2.1 bt602.2.2.2.2.2.2.2.2.2.2.1 bt602.2.2.2.2.2.2.2.2.2.2.2 bt628.1 bt628.2.1 bt628.2.2.1 bt628.2.2.2.1 bt628.2.2.2.2.1 bt628.2.2.2.2.2.1 bt636.1 bt636.2.1 bt636.2.2.1 bt636.2.2.2.1 bt636.2.2.2.2.1 bt636.2.2.2.2.2.1) else (laws_FnShapes.j0 k l1 bt616.2 bt620.1 bt626.1 (bt628.2.2.2.2.2.2 != bt616.2) bt602.1 bt602.2.1 bt602.2.2.1 bt602.2.2.2.1 bt602.2.2.2.2.1 bt602.2.2.2.2.2.1 bt602.2.2.2.2.2.2.1 bt602.2.2.2.2.2.2.2.1 bt602.2.2.2.2.2.2.2.2.1 bt602.2.2.2.2.2.2.2.2.2.1 bt602.2.2.2.2.2.2.2.2.2.2.1 bt602.2.2.2.2.2.2.2.2.2.2.2 bt628.1 bt628.2.1 bt628.2.2.1 bt628.2.2.2.1 bt628.2.2.2.2.1 bt628.2.2.2.2.2.1 bt636.1 bt636.2.1 bt636.2.2.1 bt636.2.2.2.1 bt636.2.2.2.2.1 bt636.2.2.2.2.2.1)))) else (if (bt616.2 != false) = true then (laws_FnShapes.j0 k l1 bt616.2 bt620.1 bt626.1 true bt602.1 bt602.2.1 bt602.2.2.1 bt602.2.2.2.1 bt602.2.2.2.2.1 bt602.2.2.2.2.2.1 bt602.2.2.2.2.2.2.1 bt602.2.2.2.2.2.2.2.1 bt602.2.2.2.2.2.2.2.2.1 bt602.2.2.2.2.2.2.2.2.2.1 bt602.2.2.2.2.2.2.2.2.2.2.1 bt602.2.2.2.2.2.2.2.2.2.2.2 bt628.1 bt628.2.1 bt628.2.2.1 bt628.2.2.2.1 bt628.2.2.2.2.1 bt628.2.2.2.2.2.1 bt636.1 bt636.2.1 bt636.2.2.1 bt636.2.2.2.1 bt636.2.2.2.2.1 bt636.2.2.2.2.2.1) else (if (bt624.2 != bt616.2) = true then (laws_FnShapes.j0 k l1 bt616.2 bt620.1 bt626.1 true bt602.1 bt602.2.1 bt602.2.2.1 bt602.2.2.2.1 bt602.2.2.2.2.1 bt602.2.2.2.2.2.1 bt602.2.2.2.2.2.2.1 bt602.2.2.2.2.2.2.2.1 bt602.2.2.2.2.2.2.2.2.1 bt602.2.2.2.2.2.2.2.2.2.1 bt602.2.2.2.2.2.2.2.2.2.2.1 bt602.2.2.2.2.2.2.2.2.2.2.2 bt628.1 bt628.2.1 bt628.2.2.1 bt628.2.2.2.1 bt628.2.2.2.2.1 bt628.2.2.2.2.2.1 bt636.1 bt636.2.1 bt636.2.2.1 bt636.2.2.2.1 bt636.2.2.2.2.1 bt636.2.2.2.2.2.1) else (laws_FnShapes.j0 k l1 bt616.2 bt620.1 bt626.1 (bt628.2.2.2.2.2.2 != bt616.2) bt602.1 bt602.2.1 bt602.2.2.1 bt602.2.2.2.1 bt602.2.2.2.2.1 bt602.2.2.2.2.2.1 bt602.2.2.2.2.2.2.1 bt602.2.2.2.2.2.2.2.1 bt602.2.2.2.2.2.2.2.2.1 bt602.2.2.2.2.2.2.2.2.2.1 bt602.2.2.2.2.2.2.2.2.2.2.1 bt602.2.2.2.2.2.2.2.2.2.2.2 bt628.1 bt628.2.1 bt628.2.2.1 bt628.2.2.2.1 bt628.2.2.2.2.1 bt628.2.2.2.2.2.1 bt636.1 bt636.2.1 bt636.2.2.1 bt636.2.2.2.1 bt636.2.2.2.2.1 bt636.2.2.2.2.2.1))))))) else (laws_FnShapes.j0 k l1 bt616.2 bt620.1 bt626.1 true bt602.1 bt602.2.1 bt602.2.2.1 bt602.2.2.2.1 bt602.2.2.2.2.1 bt602.2.2.2.2.2.1 bt602.2.2.2.2.2.2.1 bt602.2.2.2.2.2.2.2.1 bt602.2.2.2.2.2.2.2.2.1 bt602.2.2.2.2.2.2.2.2.2.1 bt602.2.2.2.2.2.2.2.2.2.2.1 bt602.2.2.2.2.2.2.2.2.2.2.2 bt628.1 bt628.2.1 bt628.2.2.1 bt628.2.2.2.1 bt628.2.2.2.2.1 bt628.2.2.2.2.2.1 bt636.1 bt636.2.1 bt636.2.2.1 bt636.2.2.2.1 bt636.2.2.2.2.1 bt636.2.2.2.2.2.1))) else (laws_FnShapes.j0 k l1 bt616.2 bt620.1 bt626.1 true bt602.1 bt602.2.1 bt602.2.2.1 bt602.2.2.2.1 bt602.2.2.2.2.1 bt602.2.2.2.2.2.1 bt602.2.2.2.2.2.2.1 bt602.2.2.2.2.2.2.2.1 bt602.2.2.2.2.2.2.2.2.1 bt602.2.2.2.2.2.2.2.2.2.1 bt602.2.2.2.2.2.2.2.2.2.2.1 bt602.2.2.2.2.2.2.2.2.2.2.2 bt628.1 bt628.2.1 bt628.2.2.1 bt628.2.2.2.1 bt628.2.2.2.2.1 bt628.2.2.2.2.2.1 bt636.1 bt636.2.1 bt636.2.2.1 bt636.2.2.2.1 bt636.2.2.2.2.1 bt636.2.2.2.2.2.1))))))))))))) = some r := h
 clear h
 replace H := ob_ H; obtain ⟨t601, A3, H⟩ := H; try dsimp only at H
 by_cases c4 : t601 = true
 ·subst c4
  replace H := ip_ H rfl
  as_aux_lemma =>
   obtain rfl := Option.some.inj H
   go_enter Tryd.func3, Tryd.ntmps3
   go_wp2_with (first | ((with_reducible refine gC_ 4 ?_); refine gM_ (some 42) Tryd.func4 #[.slice A0 l0.length c0, .slice A1 l1.length c1] ?_; (with_reducible refine (laws_big.calls _ _ l0 _ _ l1 true _ ?side1 ?side2 ?side3 ?side4 A3.out).mono ?_); (case side1 => exact cC_ HR0); (case side2 => exact HC0.out); (case side3 => exact cC_ HR1); (case side4 => exact HC1.out); rintro e w' ⟨rfl, ⟨nd, rfl⟩⟩; refine ⟨_, rfl, ?_⟩))
   go_ret
   exact ⟨rT_, hB_⟩
 replace c4 := Bool.eq_false_iff.mpr c4
 subst c4
 replace H := in_ H (show ¬ (false = true) by decide)
 replace H := ob_ H; obtain ⟨⟨t602, t603, t604, t605, t606, t607, t608, t609, t610, t611, t612, t613⟩, A5, H⟩ := H; try dsimp only at H
 replace H := ob_ H; obtain ⟨⟨t616, t619⟩, A6, H⟩ := H; try dsimp only at H
 replace H := ob_ H; obtain ⟨⟨t620, t623⟩, A7, H⟩ := H; try dsimp only at H
 replace H := ob_ H; obtain ⟨⟨t624, t625⟩, A8, H⟩ := H; try dsimp only at H
 replace H := ob_ H; obtain ⟨⟨t626, t627⟩, A9, H⟩ := H; try dsimp only at H
 replace H := ob_ H; obtain ⟨⟨t628, t629, t630, t631, t632, t633, t634⟩, A10, H⟩ := H; try dsimp only at H
 replace H := ob_ H; obtain ⟨⟨t636, t637, t638, t639, t640, t641, t642⟩, A11, H⟩ := H; try dsimp only at H
 have HC12 := Aside0.mk H
 clear H
 go_enter Tryd.func3, Tryd.ntmps3
 go_upto_region 10 with (first | ((with_reducible refine gC_ 4 ?_); refine gM_ (some 42) Tryd.func4 #[.slice A0 l0.length c0, .slice A1 l1.length c1] ?_; (with_reducible refine (laws_big.calls _ _ l0 _ _ l1 false _ ?side1 ?side2 ?side3 ?side4 A3.out).mono ?_); (case side1 => exact cC_ HR0); (case side2 => exact HC0.out); (case side3 => exact cC_ HR1); (case side4 => exact HC1.out); rintro e w' ⟨rfl, ⟨nd, rfl⟩⟩; refine ⟨_, rfl, ?_⟩) | ((with_reducible refine gC_ 5 ?_); refine gM_ (some 45) Tryd.func5 #[.slice A0 l0.length c0] ?_; (with_reducible refine (spec_DrawShapeWay.calls k _ _ l0 t602 t603 t604 t605 t606 t607 t608 t609 t610 t611 t612 t613 _ ?side1 ?side2 A5.out).mono ?_); (case side1 => exact cC_ HR0); (case side2 => exact HC0.out); rintro e w13 ⟨rfl, hb⟩; refine ⟨_, rfl, ?_⟩; replace HB := aM_ (below_step hB_ hb); (try clear hb); (try clear hk)) | ((with_reducible refine gate_dst (N := 5) rfl ?_); (try (refine gate_guard (by rfl) ?_; dsimp only)); refine bx_ 5 #[.int .i64 0, .int .i64 0, .int .i64 0, .int .i64 0, .int .i64 0, .bool false] 25 fun gb614 hg w14 hbox hb => ?_; have BK614 := aM_ (hbox); have GW614 := aM_ (gw_ w hg); have GE614 := aM_ (gw_ w hg); replace HB := aM_ (below_step hB_ hb); clear hb hbox hg) | ((with_reducible refine gate_dst (N := 6) rfl ?_); (try (refine gate_guard (by rfl) ?_; dsimp only)); refine bx_ 6 #[.int .i64 0, .int .i64 0, .int .i64 0, .int .i64 0, .int .i64 0, .bool false] 25 fun gb615 hg w15 hbox hb => ?_; have BK615 := aM_ (hbox); have GW615 := aM_ (gw_ w hg); have GE615 := aM_ (gw_ w hg); have NB614_615 := aM_ (nR_ BK614 hg); have NB615_614 := aM_ (mR_ BK614 hg); replace BK614 := aM_ (blk_below (g := gb614) (kR_ BK614) hb); replace HB := aM_ (below_step hB_ hb); clear hb hbox hg; have hnb16 := NB614_615.out; have hnc16 := NB615_614.out; have hz17 := cf6_ BK614.out; have hz18 := cf6_ BK615.out) | ((with_reducible refine gC_ 6 ?_); refine gM_ (some 51) Tryd.func6 #[.agg #[.int .i64 t602, .int .i64 t603, .int .i64 t604, .int .i64 t605, .int .i64 t606, .bool t607], .agg #[.int .i64 t608, .int .i64 t609, .int .i64 t610, .int .i64 t611, .int .i64 t612, .bool t613]] ?_; (with_reducible refine (impl_ShapeWay.calls k t602 t603 t604 t605 t606 t607 t608 t609 t610 t611 t612 t613 t616 t619 _ A6.out).mono ?_); rintro e w19 ⟨v617, rfl, ho0, hb⟩; refine ⟨_, rfl, ?_⟩; have HO618 := aM_ (Kd.R_lower (Kd.R_newB (Kd.R_newB ho0 (g := gb614) (o := .cells #[.int .i64 t602, .int .i64 t603, .int .i64 t604, .int .i64 t605, .int .i64 t606, .bool t607] 25 (0, 0)) z15_0_) (g := gb615) (o := .cells #[.int .i64 t608, .int .i64 t609, .int .i64 t610, .int .i64 t611, .int .i64 t612, .bool t613] 25 (0, 0)) z15_1_) (below_size hB_)); replace BK614 := aM_ (blk_below (g := gb614) (o := .cells #[.int .i64 t602, .int .i64 t603, .int .i64 t604, .int .i64 t605, .int .i64 t606, .bool t607] 25 (0, 0)) z15_0_ hb); replace BK615 := aM_ (blk_below (g := gb615) (o := .cells #[.int .i64 t608, .int .i64 t609, .int .i64 t610, .int .i64 t611, .int .i64 t612, .bool t613] 25 (0, 0)) z15_1_ hb); replace HB := aM_ (below_step hB_ hb); (try clear hb); (try clear hk); (try clear ho0); have hz20 := cf6_ BK614.out; have hz21 := cf6_ BK615.out) | ((with_reducible refine gC_ 7 ?_); refine gM_ (some 57) Tryd.func7 #[.agg #[.int .i64 t602, .int .i64 t603, .int .i64 t604, .int .i64 t605, .int .i64 t606, .bool t607], .agg #[.int .i64 t608, .int .i64 t609, .int .i64 t610, .int .i64 t611, .int .i64 t612, .bool t613]] ?_; (with_reducible refine (spec_ShapeWay.calls k t602 t603 t604 t605 t606 t607 t608 t609 t610 t611 t612 t613 t620 t623 _ A7.out).mono ?_); rintro e w22 ⟨v621, rfl, ho0, hb⟩; refine ⟨_, rfl, ?_⟩; have HO622 := aM_ (Kd.R_lower (Kd.R_newB (Kd.R_newB (Kd.R_new' ho0 (Kd.R_lt (rR_ HO618))) (g := gb614) kP_) (g := gb615) kP_) (below_size hB_)); replace HO618 := aM_ (Kd.R_elder' (rR_ HO618) (Kd.R_base ho0) hb); replace BK614 := aM_ (blk_below (g := gb614) (kR_ BK614) hb); replace BK615 := aM_ (blk_below (g := gb615) (kR_ BK615) hb); replace HB := aM_ (below_step hB_ hb); (try clear hb); (try clear hk); (try clear ho0); have hz23 := cf6_ BK614.out; have hz24 := cf6_ BK615.out) | ((with_reducible refine gC_ 8 ?_); refine gM_ (some 63) Tryd.func8 #[.agg #[.int .i64 t602, .int .i64 t603, .int .i64 t604, .int .i64 t605, .int .i64 t606, .bool t607], .agg #[.int .i64 t608, .int .i64 t609, .int .i64 t610, .int .i64 t611, .int .i64 t612, .bool t613]] ?_; (with_reducible refine (impl_ShapeDistance.calls k t602 t603 t604 t605 t606 t607 t608 t609 t610 t611 t612 t613 t624 t625 _ A8.out).mono ?_); rintro e w25 ⟨rfl, hb⟩; refine ⟨_, rfl, ?_⟩; replace HO618 := aM_ (Kd.R_below (rR_ HO618) hb); replace HO622 := aM_ (Kd.R_below (rR_ HO622) hb); replace BK614 := aM_ (blk_below (g := gb614) (kR_ BK614) hb); replace BK615 := aM_ (blk_below (g := gb615) (kR_ BK615) hb); replace HB := aM_ (below_step hB_ hb); (try clear hb); (try clear hk); have hz26 := cf6_ BK614.out; have hz27 := cf6_ BK615.out) | ((with_reducible refine gC_ 9 ?_); refine gM_ (some 69) Tryd.func9 #[.agg #[.int .i64 t602, .int .i64 t603, .int .i64 t604, .int .i64 t605, .int .i64 t606, .bool t607], .agg #[.int .i64 t608, .int .i64 t609, .int .i64 t610, .int .i64 t611, .int .i64 t612, .bool t613]] ?_; (with_reducible refine (spec_ShapeDistance.calls k t602 t603 t604 t605 t606 t607 t608 t609 t610 t611 t612 t613 t626 t627 _ A9.out).mono ?_); rintro e w28 ⟨rfl, hb⟩; refine ⟨_, rfl, ?_⟩; replace HO618 := aM_ (Kd.R_below (rR_ HO618) hb); replace HO622 := aM_ (Kd.R_below (rR_ HO622) hb); replace BK614 := aM_ (blk_below (g := gb614) (kR_ BK614) hb); replace BK615 := aM_ (blk_below (g := gb615) (kR_ BK615) hb); replace HB := aM_ (below_step hB_ hb); (try clear hb); (try clear hk); have hz29 := cf6_ BK614.out; have hz30 := cf6_ BK615.out) | ((with_reducible refine gC_ 10 ?_); refine gM_ (some 75) Tryd.func10 #[.agg #[.int .i64 t602, .int .i64 t603, .int .i64 t604, .int .i64 t605, .int .i64 t606, .bool t607], .agg #[.int .i64 t608, .int .i64 t609, .int .i64 t610, .int .i64 t611, .int .i64 t612, .bool t613]] ?_; (with_reducible refine (impl_BetweenShapes.calls k t602 t603 t604 t605 t606 t607 t608 t609 t610 t611 t612 t613 t628 t629 t630 t631 t632 t633 t634 _ A10.out).mono ?_); rintro e w31 ⟨rfl, hb⟩; refine ⟨_, rfl, ?_⟩; replace HO618 := aM_ (Kd.R_below (rR_ HO618) hb); replace HO622 := aM_ (Kd.R_below (rR_ HO622) hb); replace BK614 := aM_ (blk_below (g := gb614) (kR_ BK614) hb); replace BK615 := aM_ (blk_below (g := gb615) (kR_ BK615) hb); replace HB := aM_ (below_step hB_ hb); (try clear hb); (try clear hk)) | ((with_reducible refine gate_dst (N := 15) rfl ?_); (try (refine gate_guard (by rfl) ?_; dsimp only)); refine bx_ 15 #[.int .i64 0, .int .i64 0, .int .i64 0, .int .i64 0, .int .i64 0, .bool false] 25 fun gb635 hg w32 hbox hb => ?_; have BK635 := aM_ (hbox); have GW635 := aM_ (gw_ w hg); have GE635 := aM_ (gw_ w hg); have NB614_635 := aM_ (nR_ BK614 hg); have NB635_614 := aM_ (mR_ BK614 hg); have NB615_635 := aM_ (nR_ BK615 hg); have NB635_615 := aM_ (mR_ BK615 hg); replace HO618 := aM_ (Kd.R_below (Kd.R_elderB (rR_ HO618) gb635 (Nat.le_of_eq hg.symm)) hb); replace HO622 := aM_ (Kd.R_below (Kd.R_elderB (rR_ HO622) gb635 (Nat.le_of_eq hg.symm)) hb); replace BK614 := aM_ (blk_below (g := gb614) (kR_ BK614) hb); replace BK615 := aM_ (blk_below (g := gb615) (kR_ BK615) hb); replace HB := aM_ (below_step hB_ hb); clear hb hbox hg; have hnb33 := NB635_614.out; have hnc33 := NB614_635.out; have hnb34 := NB635_615.out; have hnc34 := NB615_635.out; have hz35 := cf6_ BK635.out; have hz36 := cf6_ BK614.out; have hz37 := cf6_ BK615.out) | ((with_reducible refine gC_ 11 ?_); refine gM_ (some 81) Tryd.func11 #[.agg #[.int .i64 t602, .int .i64 t603, .int .i64 t604, .int .i64 t605, .int .i64 t606, .bool t607], .agg #[.int .i64 t608, .int .i64 t609, .int .i64 t610, .int .i64 t611, .int .i64 t612, .bool t613]] ?_; (with_reducible refine (spec_BetweenShapes.calls k t602 t603 t604 t605 t606 t607 t608 t609 t610 t611 t612 t613 t636 t637 t638 t639 t640 t641 t642 _ A11.out).mono ?_); rintro e w38 ⟨rfl, hb⟩; refine ⟨_, rfl, ?_⟩; replace HO618 := aM_ (Kd.R_below (by (with_reducible repeat (first | apply rA_ | apply rN_ | apply rD_)); exact (Kd.R_mono (Kd.R_far (p := ⟨gb635, 5, none⟩) (Kd.R_far (p := ⟨gb635, 4, none⟩) (Kd.R_far (p := ⟨gb635, 3, none⟩) (Kd.R_far (p := ⟨gb635, 2, none⟩) (Kd.R_far (p := ⟨gb635, 1, none⟩) (Kd.R_far (p := ⟨gb635, 0, none⟩) (Kd.R_mono HO618.out (fun k_ hk => (⟨hk, hk.2⟩ : _ ∧ k_ ≠ gb635))) (fun _ hk => hk.2) (.int .i64 t628)) (fun _ hk => hk.2) (.int .i64 t629)) (fun _ hk => hk.2) (.int .i64 t630)) (fun _ hk => hk.2) (.int .i64 t631)) (fun _ hk => hk.2) (.int .i64 t632)) (fun _ hk => hk.2) (.bool t633)) (fun _ h_ => h_.1))) hb); replace HO622 := aM_ (Kd.R_below (by (with_reducible repeat (first | apply rA_ | apply rN_ | apply rD_)); exact (Kd.R_mono (Kd.R_far (p := ⟨gb635, 5, none⟩) (Kd.R_far (p := ⟨gb635, 4, none⟩) (Kd.R_far (p := ⟨gb635, 3, none⟩) (Kd.R_far (p := ⟨gb635, 2, none⟩) (Kd.R_far (p := ⟨gb635, 1, none⟩) (Kd.R_far (p := ⟨gb635, 0, none⟩) (Kd.R_mono HO622.out (fun k_ hk => (⟨hk, hk.2⟩ : _ ∧ k_ ≠ gb635))) (fun _ hk => hk.2) (.int .i64 t628)) (fun _ hk => hk.2) (.int .i64 t629)) (fun _ hk => hk.2) (.int .i64 t630)) (fun _ hk => hk.2) (.int .i64 t631)) (fun _ hk => hk.2) (.int .i64 t632)) (fun _ hk => hk.2) (.bool t633)) (fun _ h_ => h_.1))) hb); replace BK614 := aM_ (blk_below (g := gb614) (kR_ BK614) hb); replace BK615 := aM_ (blk_below (g := gb615) (kR_ BK615) hb); replace BK635 := aM_ (blk_below (g := gb635) (o := .cells #[.int .i64 t628, .int .i64 t629, .int .i64 t630, .int .i64 t631, .int .i64 t632, .bool t633] 25 (0, 0)) (by (with_reducible repeat (first | apply kN_ | apply kD_ | apply kA_)); refine blk_put (cs := #[.int .i64 t628, .int .i64 t629, .int .i64 t630, .int .i64 t631, .int .i64 t632, .bool false]) ?_ 5 _ rfl; (with_reducible repeat (first | apply kN_ | apply kD_ | apply kA_)); refine blk_put (cs := #[.int .i64 t628, .int .i64 t629, .int .i64 t630, .int .i64 t631, .int .i64 0, .bool false]) ?_ 4 _ rfl; (with_reducible repeat (first | apply kN_ | apply kD_ | apply kA_)); refine blk_put (cs := #[.int .i64 t628, .int .i64 t629, .int .i64 t630, .int .i64 0, .int .i64 0, .bool false]) ?_ 3 _ rfl; (with_reducible repeat (first | apply kN_ | apply kD_ | apply kA_)); refine blk_put (cs := #[.int .i64 t628, .int .i64 t629, .int .i64 0, .int .i64 0, .int .i64 0, .bool false]) ?_ 2 _ rfl; (with_reducible repeat (first | apply kN_ | apply kD_ | apply kA_)); refine blk_put (cs := #[.int .i64 t628, .int .i64 0, .int .i64 0, .int .i64 0, .int .i64 0, .bool false]) ?_ 1 _ rfl; (with_reducible repeat (first | apply kN_ | apply kD_ | apply kA_)); refine blk_put (cs := #[.int .i64 0, .int .i64 0, .int .i64 0, .int .i64 0, .int .i64 0, .bool false]) ?_ 0 _ rfl; (with_reducible repeat (first | apply kN_ | apply kD_ | apply kA_)); exact BK635.out) hb); replace HB := aM_ (below_step hB_ hb); (try clear hb); (try clear hk)) | ((with_reducible refine gate_dst (N := 17) rfl ?_); (try (refine gate_guard (by rfl) ?_; dsimp only)); refine bx_ 17 #[.int .i64 0, .int .i64 0, .int .i64 0, .int .i64 0, .int .i64 0, .bool false] 25 fun gb643 hg w39 hbox hb => ?_; have BK643 := aM_ (hbox); have GW643 := aM_ (gw_ w hg); have GE643 := aM_ (gw_ w hg); have NB614_643 := aM_ (nR_ BK614 hg); have NB643_614 := aM_ (mR_ BK614 hg); have NB615_643 := aM_ (nR_ BK615 hg); have NB643_615 := aM_ (mR_ BK615 hg); have NB635_643 := aM_ (nR_ BK635 hg); have NB643_635 := aM_ (mR_ BK635 hg); replace HO618 := aM_ (Kd.R_below (Kd.R_elderB (rR_ HO618) gb643 (Nat.le_of_eq hg.symm)) hb); replace HO622 := aM_ (Kd.R_below (Kd.R_elderB (rR_ HO622) gb643 (Nat.le_of_eq hg.symm)) hb); replace BK614 := aM_ (blk_below (g := gb614) (kR_ BK614) hb); replace BK615 := aM_ (blk_below (g := gb615) (kR_ BK615) hb); replace BK635 := aM_ (blk_below (g := gb635) (kR_ BK635) hb); replace HB := aM_ (below_step hB_ hb); clear hb hbox hg; have hnb40 := NB643_614.out; have hnc40 := NB614_643.out; have hnb41 := NB643_615.out; have hnc41 := NB615_643.out; have hnb42 := NB643_635.out; have hnc42 := NB635_643.out; have hz43 := cf6_ BK643.out))
 (try simp only [Act.put, List.setIfInBounds_toArray, List.set_cons_zero, List.set_cons_succ])
 go_cut [132] (fun v132 wc => ∃ (kq : Nat) (x132_11 : Bool), v132 = .bool x132_11 ∧ Aside0 (laws_FnShapes.j0 kq l1 t619 t620 t626 x132_11 t602 t603 t604 t605 t606 t607 t608 t609 t610 t611 t612 t613 t628 t629 t630 t631 t632 t633 t636 t637 t638 t639 t640 t641 = some r) ∧ Aside0 (kq ≤ k) ∧ Aside0 (Kd.R k25 25 wc w.heap.size (fun k_ => k_ ≠ gb614 ∧ k_ ≠ gb615 ∧ k_ ≠ gb635 ∧ k_ ≠ gb643) v621 t620) ∧ Aside0 (wc.heap[gb614]? = some (.cells #[.int .i64 t602, .int .i64 t603, .int .i64 t604, .int .i64 t605, .int .i64 t606, .bool t607] 25 (0, 0))) ∧ Aside0 (wc.heap[gb615]? = some (.cells #[.int .i64 t608, .int .i64 t609, .int .i64 t610, .int .i64 t611, .int .i64 t612, .bool t613] 25 (0, 0))) ∧ Aside0 (wc.heap[gb635]? = some (.cells #[.int .i64 t628, .int .i64 t629, .int .i64 t630, .int .i64 t631, .int .i64 t632, .bool t633] 25 (0, 0))) ∧ Aside0 (wc.heap[gb643]? = some (.cells #[.int .i64 t636, .int .i64 t637, .int .i64 t638, .int .i64 t639, .int .i64 t640, .bool t641] 25 (0, 0))) ∧ Aside0 (Below w.heap.size w wc))
 case first =>
  as_aux_lemma =>
   have H := HC12.out
   clear HC12
   have n618_ : Aside0 (Kd.R k25 25 (((((((w39.setCell ⟨gb643, 0, none⟩ (.int .i64 t636)).setCell ⟨gb643, 1, none⟩ (.int .i64 t637)).setCell ⟨gb643, 2, none⟩ (.int .i64 t638)).setCell ⟨gb643, 3, none⟩ (.int .i64 t639)).setCell ⟨gb643, 4, none⟩ (.int .i64 t640)).setCell ⟨gb643, 5, none⟩ (.bool t641)) : World) w.heap.size (fun k_ => (((((True ∧ k_ ≠ gb614) ∧ k_ ≠ gb615) ∧ some k_ ≠ (v621 : Value).ownBlock) ∧ k_ ≠ gb635) ∧ k_ ≠ gb643)) v617 t616) := ⟨z15_8o_⟩
   have n622_ : Aside0 (Kd.R k25 25 (((((((w39.setCell ⟨gb643, 0, none⟩ (.int .i64 t636)).setCell ⟨gb643, 1, none⟩ (.int .i64 t637)).setCell ⟨gb643, 2, none⟩ (.int .i64 t638)).setCell ⟨gb643, 3, none⟩ (.int .i64 t639)).setCell ⟨gb643, 4, none⟩ (.int .i64 t640)).setCell ⟨gb643, 5, none⟩ (.bool t641)) : World) w.heap.size (fun k_ => (((((True ∧ some k_ ≠ (v617 : Value).ownBlock) ∧ k_ ≠ gb614) ∧ k_ ≠ gb615) ∧ k_ ≠ gb635) ∧ k_ ≠ gb643)) v621 t620) := ⟨z15_9o_⟩
   have n614_ : Aside0 ((((((((w39.setCell ⟨gb643, 0, none⟩ (.int .i64 t636)).setCell ⟨gb643, 1, none⟩ (.int .i64 t637)).setCell ⟨gb643, 2, none⟩ (.int .i64 t638)).setCell ⟨gb643, 3, none⟩ (.int .i64 t639)).setCell ⟨gb643, 4, none⟩ (.int .i64 t640)).setCell ⟨gb643, 5, none⟩ (.bool t641)) : World).heap[gb614]? = some (.cells #[.int .i64 t602, .int .i64 t603, .int .i64 t604, .int .i64 t605, .int .i64 t606, .bool t607] 25 (0, 0))) := ⟨z15_4o_⟩
   have n615_ : Aside0 ((((((((w39.setCell ⟨gb643, 0, none⟩ (.int .i64 t636)).setCell ⟨gb643, 1, none⟩ (.int .i64 t637)).setCell ⟨gb643, 2, none⟩ (.int .i64 t638)).setCell ⟨gb643, 3, none⟩ (.int .i64 t639)).setCell ⟨gb643, 4, none⟩ (.int .i64 t640)).setCell ⟨gb643, 5, none⟩ (.bool t641)) : World).heap[gb615]? = some (.cells #[.int .i64 t608, .int .i64 t609, .int .i64 t610, .int .i64 t611, .int .i64 t612, .bool t613] 25 (0, 0))) := ⟨z15_5o_⟩
   have n635_ : Aside0 ((((((((w39.setCell ⟨gb643, 0, none⟩ (.int .i64 t636)).setCell ⟨gb643, 1, none⟩ (.int .i64 t637)).setCell ⟨gb643, 2, none⟩ (.int .i64 t638)).setCell ⟨gb643, 3, none⟩ (.int .i64 t639)).setCell ⟨gb643, 4, none⟩ (.int .i64 t640)).setCell ⟨gb643, 5, none⟩ (.bool t641)) : World).heap[gb635]? = some (.cells #[.int .i64 t628, .int .i64 t629, .int .i64 t630, .int .i64 t631, .int .i64 t632, .bool t633] 25 (0, 0))) := ⟨z15_6o_⟩
   have n643_ : Aside0 ((((((((w39.setCell ⟨gb643, 0, none⟩ (.int .i64 t636)).setCell ⟨gb643, 1, none⟩ (.int .i64 t637)).setCell ⟨gb643, 2, none⟩ (.int .i64 t638)).setCell ⟨gb643, 3, none⟩ (.int .i64 t639)).setCell ⟨gb643, 4, none⟩ (.int .i64 t640)).setCell ⟨gb643, 5, none⟩ (.bool t641)) : World).heap[gb643]? = some (.cells #[.int .i64 t636, .int .i64 t637, .int .i64 t638, .int .i64 t639, .int .i64 t640, .bool t641] 25 (0, 0))) := ⟨z15_7o_⟩
   have nB_ : Aside0 (Below w.heap.size w (((((((w39.setCell ⟨gb643, 0, none⟩ (.int .i64 t636)).setCell ⟨gb643, 1, none⟩ (.int .i64 t637)).setCell ⟨gb643, 2, none⟩ (.int .i64 t638)).setCell ⟨gb643, 3, none⟩ (.int .i64 t639)).setCell ⟨gb643, 4, none⟩ (.int .i64 t640)).setCell ⟨gb643, 5, none⟩ (.bool t641)) : World)) := ⟨hB_⟩
   generalize (((((((w39.setCell ⟨gb643, 0, none⟩ (.int .i64 t636)).setCell ⟨gb643, 1, none⟩ (.int .i64 t637)).setCell ⟨gb643, 2, none⟩ (.int .i64 t638)).setCell ⟨gb643, 3, none⟩ (.int .i64 t639)).setCell ⟨gb643, 4, none⟩ (.int .i64 t640)).setCell ⟨gb643, 5, none⟩ (.bool t641)) : World) = w40 at n618_ n622_ n614_ n615_ n635_ n643_ nB_ ⊢
   clear BK614 BK615 BK635 BK643 HO618 HO622 HB
   have HO618 := n618_; have HO622 := n622_; have BK614 := n614_; have BK615 := n615_; have BK635 := n635_; have BK643 := n643_; have HB := nB_
   clear n618_ n622_ n614_ n615_ n635_ n643_ nB_
   clear hnb16 hnc16 hz17 hz18 hz20 hz21 hz23 hz24 hz26 hz27 hz29 hz30 hnb33 hnc33 hnb34 hnc34 hz35 hz36 hz37 hnb40 hnc40 hnb41 hnc41 hnb42 hnc42 hz43
   by_cases c44 : (t619 != t623) = true
   ·rw [if_pos c44] at H
    have c44b0 : (t619 != t623) = true := c44
    (try (have c44b1 : decide (t619 = t623) = false := by simpa using c44))
    (try (have c44b2 : (t619 == t623) = false := by simpa using c44))
    (try (have c44b3 : ¬ (t619 = t623) := by simpa using c44))
    clear c44
    (first | rw [c44b0] | (simp only [i64_w, i32_w]; rw [c44b0]) | skip)
    as_aux_lemma =>
     have H' := Aside0.mk H
     clear H
     go_wp2
     go_meet
     case rel => exact ⟨_, (true), z15_2_, H', ⟨oR_⟩, ⟨z15_3_⟩, ⟨z15_4_⟩, ⟨z15_5_⟩, ⟨z15_6_⟩, ⟨z15_7_⟩, ⟨hB_⟩⟩
   rw [if_neg c44] at H
   have c44b0 : (t619 != t623) = false := by simpa using c44
   (try (have c44b1 : decide (t619 = t623) = true := by simpa using c44))
   (try (have c44b2 : (t619 == t623) = true := by simpa using c44))
   clear c44
   (first | rw [c44b0] | (simp only [i64_w, i32_w]; rw [c44b0]) | skip)
   replace H := ob_ H; obtain ⟨t644, A45, H⟩ := H; try dsimp only at H
   by_cases c46 : t644 = true
   rotate_left
   ·replace c46 := Bool.eq_false_iff.mpr c46
    subst c46
    replace H := in_ H (show ¬ (false = true) by decide)
    as_aux_lemma =>
     have H' := Aside0.mk H
     clear H
     obtain ⟨Ao151, co151, eo151⟩ := Kd.R_slice HO618.out
     subst eo151
     obtain ⟨Ao152, co152, eo152⟩ := Kd.R_slice HO622.out
     subst eo152
     go_wp2_with (first | (go_at_call 12; (with_reducible refine (laws_pSameShapes.calls k _ _ t616 _ _ t620 false _ ?side1 ?side2 ?side3 ?side4 A45.out).mono ?_); (case side1 => refine (Kd.R_reads' (e := 25) (base := w.heap.size) (ok := fun k_ => (((((True ∧ k_ ≠ gb614) ∧ k_ ≠ gb615) ∧ some k_ ≠ (.slice Ao152 t620.length co152 : Value).ownBlock) ∧ k_ ≠ gb635) ∧ k_ ≠ gb643)) (n := t616.length) (c := co151) ?_).2.2; exact z15_8_); (case side2 => exact (Kd.R_reads' HO618.out).2.1); (case side3 => refine (Kd.R_reads' (e := 25) (base := w.heap.size) (ok := fun k_ => (((((True ∧ some k_ ≠ (.slice Ao151 t616.length co151 : Value).ownBlock) ∧ k_ ≠ gb614) ∧ k_ ≠ gb615) ∧ k_ ≠ gb635) ∧ k_ ≠ gb643)) (n := t620.length) (c := co152) ?_).2.2; exact z15_9_); (case side4 => exact (Kd.R_reads' HO622.out).2.1); rintro e w' ⟨rfl, ⟨nd, rfl⟩⟩))
     go_meet
     case rel => exact ⟨_, (true), z15_2_, H', ⟨oR_⟩, ⟨z15_3_⟩, ⟨z15_4_⟩, ⟨z15_5_⟩, ⟨z15_6_⟩, ⟨z15_7_⟩, ⟨hB_⟩⟩
   subst c46
   replace H := ip_ H rfl
   by_cases c47 : (t625 != t627) = true
   ·rw [if_pos c47] at H
    have c47b0 : (t625 != t627) = true := c47
    (try (have c47b1 : decide (t625 = t627) = false := by simpa using c47))
    (try (have c47b2 : (t625 == t627) = false := by simpa using c47))
    (try (have c47b3 : ¬ (t625 = t627) := by simpa using c47))
    clear c47
    as_aux_lemma =>
     have H' := Aside0.mk H
     clear H
     obtain ⟨Ao48, co48, eo48⟩ := Kd.R_slice HO618.out
     subst eo48
     obtain ⟨Ao49, co49, eo49⟩ := Kd.R_slice HO622.out
     subst eo49
     go_wp2_with (first | (go_at_call 12; (with_reducible refine (laws_pSameShapes.calls k _ _ t616 _ _ t620 true _ ?side1 ?side2 ?side3 ?side4 A45.out).mono ?_); (case side1 => refine (Kd.R_reads' (e := 25) (base := w.heap.size) (ok := fun k_ => (((((True ∧ k_ ≠ gb614) ∧ k_ ≠ gb615) ∧ some k_ ≠ (.slice Ao49 t620.length co49 : Value).ownBlock) ∧ k_ ≠ gb635) ∧ k_ ≠ gb643)) (n := t616.length) (c := co48) ?_).2.2; exact z15_8_); (case side2 => exact (Kd.R_reads' HO618.out).2.1); (case side3 => refine (Kd.R_reads' (e := 25) (base := w.heap.size) (ok := fun k_ => (((((True ∧ some k_ ≠ (.slice Ao48 t616.length co48 : Value).ownBlock) ∧ k_ ≠ gb614) ∧ k_ ≠ gb615) ∧ k_ ≠ gb635) ∧ k_ ≠ gb643)) (n := t620.length) (c := co49) ?_).2.2; exact z15_9_); (case side4 => exact (Kd.R_reads' HO622.out).2.1); rintro e w' ⟨rfl, ⟨nd, rfl⟩⟩))
     go_meet
     case rel => exact ⟨_, (true), z15_2_, H', ⟨oR_⟩, ⟨z15_3_⟩, ⟨z15_4_⟩, ⟨z15_5_⟩, ⟨z15_6_⟩, ⟨z15_7_⟩, ⟨hB_⟩⟩
   rw [if_neg c47] at H
   have c47b0 : (t625 != t627) = false := by simpa using c47
   (try (have c47b1 : decide (t625 = t627) = true := by simpa using c47))
   (try (have c47b2 : (t625 == t627) = true := by simpa using c47))
   clear c47
   by_cases c50 : t624 = t626
   rotate_left
   ·rw [if_neg c50] at H
    have c50b0 : (t624 == t626) = false := beq_eq_false_iff_ne.mpr c50
    have c50b1 : (t624 != t626) = true := bne_iff_ne.mpr c50
    as_aux_lemma =>
     have H' := Aside0.mk H
     clear H
     obtain ⟨Ao149, co149, eo149⟩ := Kd.R_slice HO618.out
     subst eo149
     obtain ⟨Ao150, co150, eo150⟩ := Kd.R_slice HO622.out
     subst eo150
     go_wp2_with (first | (go_at_call 12; (with_reducible refine (laws_pSameShapes.calls k _ _ t616 _ _ t620 true _ ?side1 ?side2 ?side3 ?side4 A45.out).mono ?_); (case side1 => refine (Kd.R_reads' (e := 25) (base := w.heap.size) (ok := fun k_ => (((((True ∧ k_ ≠ gb614) ∧ k_ ≠ gb615) ∧ some k_ ≠ (.slice Ao150 t620.length co150 : Value).ownBlock) ∧ k_ ≠ gb635) ∧ k_ ≠ gb643)) (n := t616.length) (c := co149) ?_).2.2; exact z15_8_); (case side2 => exact (Kd.R_reads' HO618.out).2.1); (case side3 => refine (Kd.R_reads' (e := 25) (base := w.heap.size) (ok := fun k_ => (((((True ∧ some k_ ≠ (.slice Ao149 t616.length co149 : Value).ownBlock) ∧ k_ ≠ gb614) ∧ k_ ≠ gb615) ∧ k_ ≠ gb635) ∧ k_ ≠ gb643)) (n := t620.length) (c := co150) ?_).2.2; exact z15_9_); (case side4 => exact (Kd.R_reads' HO622.out).2.1); rintro e w' ⟨rfl, ⟨nd, rfl⟩⟩))
     go_meet
     case rel => exact ⟨_, (true), z15_2_, H', ⟨oR_⟩, ⟨z15_3_⟩, ⟨z15_4_⟩, ⟨z15_5_⟩, ⟨z15_6_⟩, ⟨z15_7_⟩, ⟨hB_⟩⟩
   rw [if_pos c50] at H
   have c50b0 : (t624 == t626) = true := beq_iff_eq.mpr c50
   have c50b1 : (t624 != t626) = false := bne_eq_false_iff_eq.mpr c50
   clear c50
   by_cases c51 : (t634 != t642) = true
   ·rw [if_pos c51] at H
    have c51b0 : (t634 != t642) = true := c51
    (try (have c51b1 : decide (t634 = t642) = false := by simpa using c51))
    (try (have c51b2 : (t634 == t642) = false := by simpa using c51))
    (try (have c51b3 : ¬ (t634 = t642) := by simpa using c51))
    clear c51
    as_aux_lemma =>
     have H' := Aside0.mk H
     clear H
     obtain ⟨Ao52, co52, eo52⟩ := Kd.R_slice HO618.out
     subst eo52
     obtain ⟨Ao53, co53, eo53⟩ := Kd.R_slice HO622.out
     subst eo53
     go_wp2_with (first | (go_at_call 12; (with_reducible refine (laws_pSameShapes.calls k _ _ t616 _ _ t620 true _ ?side1 ?side2 ?side3 ?side4 A45.out).mono ?_); (case side1 => refine (Kd.R_reads' (e := 25) (base := w.heap.size) (ok := fun k_ => (((((True ∧ k_ ≠ gb614) ∧ k_ ≠ gb615) ∧ some k_ ≠ (.slice Ao53 t620.length co53 : Value).ownBlock) ∧ k_ ≠ gb635) ∧ k_ ≠ gb643)) (n := t616.length) (c := co52) ?_).2.2; exact z15_8_); (case side2 => exact (Kd.R_reads' HO618.out).2.1); (case side3 => refine (Kd.R_reads' (e := 25) (base := w.heap.size) (ok := fun k_ => (((((True ∧ some k_ ≠ (.slice Ao52 t616.length co52 : Value).ownBlock) ∧ k_ ≠ gb614) ∧ k_ ≠ gb615) ∧ k_ ≠ gb635) ∧ k_ ≠ gb643)) (n := t620.length) (c := co53) ?_).2.2; exact z15_9_); (case side4 => exact (Kd.R_reads' HO622.out).2.1); rintro e w' ⟨rfl, ⟨nd, rfl⟩⟩))
     go_meet
     case rel => exact ⟨_, (true), z15_2_, H', ⟨oR_⟩, ⟨z15_3_⟩, ⟨z15_4_⟩, ⟨z15_5_⟩, ⟨z15_6_⟩, ⟨z15_7_⟩, ⟨hB_⟩⟩
   rw [if_neg c51] at H
   have c51b0 : (t634 != t642) = false := by simpa using c51
   (try (have c51b1 : decide (t634 = t642) = true := by simpa using c51))
   (try (have c51b2 : (t634 == t642) = true := by simpa using c51))
   clear c51
   by_cases c54 : (!(t628 == t636) || (!(t629 == t637) || (!(t630 == t638) || (!(t631 == t639) || (!(t632 == t640) || (!(t633 == t641))))))) = true
   ·rw [if_pos c54] at H
    have c54b0 : (!(t628 == t636) || (!(t629 == t637) || (!(t630 == t638) || (!(t631 == t639) || (!(t632 == t640) || (!(t633 == t641))))))) = true := c54
    clear c54
    as_aux_lemma =>
     have H' := Aside0.mk H
     clear H
     obtain ⟨Ao55, co55, eo55⟩ := Kd.R_slice HO618.out
     subst eo55
     obtain ⟨Ao56, co56, eo56⟩ := Kd.R_slice HO622.out
     subst eo56
     go_wp2_with (first | (go_at_call 12; (with_reducible refine (laws_pSameShapes.calls k _ _ t616 _ _ t620 true _ ?side1 ?side2 ?side3 ?side4 A45.out).mono ?_); (case side1 => refine (Kd.R_reads' (e := 25) (base := w.heap.size) (ok := fun k_ => (((((True ∧ k_ ≠ gb614) ∧ k_ ≠ gb615) ∧ some k_ ≠ (.slice Ao56 t620.length co56 : Value).ownBlock) ∧ k_ ≠ gb635) ∧ k_ ≠ gb643)) (n := t616.length) (c := co55) ?_).2.2; exact z15_8_); (case side2 => exact (Kd.R_reads' HO618.out).2.1); (case side3 => refine (Kd.R_reads' (e := 25) (base := w.heap.size) (ok := fun k_ => (((((True ∧ some k_ ≠ (.slice Ao55 t616.length co55 : Value).ownBlock) ∧ k_ ≠ gb614) ∧ k_ ≠ gb615) ∧ k_ ≠ gb635) ∧ k_ ≠ gb643)) (n := t620.length) (c := co56) ?_).2.2; exact z15_9_); (case side4 => exact (Kd.R_reads' HO622.out).2.1); rintro e w' ⟨rfl, ⟨nd, rfl⟩⟩; have hnb57 := NB635_614.out; have hnc57 := NB614_635.out; have hnb58 := NB635_615.out; have hnc58 := NB615_635.out; have hnb59 := NB635_643.out; have hnc59 := NB643_635.out; have hz60 := cf6_ BK635.out; have hnb61 := NB643_614.out; have hnc61 := NB614_643.out; have hnb62 := NB643_615.out; have hnc62 := NB615_643.out; have hz63 := cf6_ BK643.out))
     go_meet
     case rel => exact ⟨_, (true), z15_2_, H', ⟨oR_⟩, ⟨z15_3_⟩, ⟨z15_4_⟩, ⟨z15_5_⟩, ⟨z15_6_⟩, ⟨z15_7_⟩, ⟨hB_⟩⟩
   rw [if_neg c54] at H
   have c54b0 : (!(t628 == t636) || (!(t629 == t637) || (!(t630 == t638) || (!(t631 == t639) || (!(t632 == t640) || (!(t633 == t641))))))) = false := by simpa using c54
   clear c54
   replace H := ob_ H; obtain ⟨t645, A64, H⟩ := H; try dsimp only at H
   by_cases c65 : t645 = true
   rotate_left
   ·replace c65 := Bool.eq_false_iff.mpr c65
    subst c65
    replace H := in_ H (show ¬ (false = true) by decide)
    by_cases c111 : (t619 != false) = true
    ·rw [if_pos c111] at H
     have c111b0 : (t619 != false) = true := c111
     (try (have c111b1 : decide (t619 = false) = false := by simpa using c111))
     (try (have c111b2 : (t619 == false) = false := by simpa using c111))
     (try (have c111b3 : ¬ (t619 = false) := by simpa using c111))
     clear c111
     obtain rfl : t619 = true := by simpa using c111b0
     as_aux_lemma =>
      have H' := Aside0.mk H
      clear H
      obtain ⟨Ao112, co112, eo112⟩ := Kd.R_slice HO618.out
      subst eo112
      obtain ⟨Ao113, co113, eo113⟩ := Kd.R_slice HO622.out
      subst eo113
      go_wp2_with (first | (go_at_call 12; (with_reducible refine (laws_pSameShapes.calls k _ _ t616 _ _ t620 true _ ?side1 ?side2 ?side3 ?side4 A45.out).mono ?_); (case side1 => refine (Kd.R_reads' (e := 25) (base := w.heap.size) (ok := fun k_ => (((((True ∧ k_ ≠ gb614) ∧ k_ ≠ gb615) ∧ some k_ ≠ (.slice Ao113 t620.length co113 : Value).ownBlock) ∧ k_ ≠ gb635) ∧ k_ ≠ gb643)) (n := t616.length) (c := co112) ?_).2.2; exact z15_8_); (case side2 => exact (Kd.R_reads' HO618.out).2.1); (case side3 => refine (Kd.R_reads' (e := 25) (base := w.heap.size) (ok := fun k_ => (((((True ∧ some k_ ≠ (.slice Ao112 t616.length co112 : Value).ownBlock) ∧ k_ ≠ gb614) ∧ k_ ≠ gb615) ∧ k_ ≠ gb635) ∧ k_ ≠ gb643)) (n := t620.length) (c := co113) ?_).2.2; exact z15_9_); (case side4 => exact (Kd.R_reads' HO622.out).2.1); rintro e w' ⟨rfl, ⟨nd, rfl⟩⟩; have hnb114 := NB635_614.out; have hnc114 := NB614_635.out; have hnb115 := NB635_615.out; have hnc115 := NB615_635.out; have hnb116 := NB635_643.out; have hnc116 := NB643_635.out; have hz117 := cf6_ BK635.out; have hnb118 := NB643_614.out; have hnc118 := NB614_643.out; have hnb119 := NB643_615.out; have hnc119 := NB615_643.out; have hz120 := cf6_ BK643.out; have hnb121 := NB614_615.out; have hnc121 := NB615_614.out; have hz122 := cf6_ BK614.out) | (go_at_call 13; (with_reducible refine (impl_IsShape.calls k t602 t603 t604 t605 t606 t607 false _ A64.out).mono ?_); rintro e w123 ⟨rfl, hb⟩; replace HO618 := aM_ (Kd.R_below z15_8_ hb); replace HO622 := aM_ (Kd.R_below z15_9_ hb); replace BK614 := aM_ (blk_below (g := gb614) (kR_ BK614) hb); replace BK615 := aM_ (blk_below (g := gb615) (kR_ BK615) hb); replace BK635 := aM_ (blk_below (g := gb635) (kR_ BK635) hb); replace BK643 := aM_ (blk_below (g := gb643) (o := .cells #[.int .i64 t636, .int .i64 t637, .int .i64 t638, .int .i64 t639, .int .i64 t640, .bool t641] 25 (0, 0)) z15_7_ hb); replace HB := aM_ (below_step hB_ hb); (try clear hb); (try clear hk)))
      go_meet
      case rel => exact ⟨_, (true), z15_2_, H', ⟨oR_⟩, ⟨(rM_ HO622 (fun _ hk => ⟨hk.1.1.1.2, ⟨hk.1.1.2, ⟨hk.1.2, hk.2⟩⟩⟩))⟩, ⟨kP_⟩, ⟨kP_⟩, ⟨kP_⟩, ⟨kP_⟩, ⟨hB_⟩⟩
    rw [if_neg c111] at H
    have c111b0 : (t619 != false) = false := by simpa using c111
    (try (have c111b1 : decide (t619 = false) = true := by simpa using c111))
    (try (have c111b2 : (t619 == false) = true := by simpa using c111))
    clear c111
    by_cases c124 : (t625 != t619) = true
    rotate_left
    ·rw [if_neg c124] at H
     have c124b0 : (t625 != t619) = false := by simpa using c124
     (try (have c124b1 : decide (t625 = t619) = true := by simpa using c124))
     (try (have c124b2 : (t625 == t619) = true := by simpa using c124))
     clear c124
     as_aux_lemma =>
      have H' := Aside0.mk H
      clear H
      obtain ⟨Ao137, co137, eo137⟩ := Kd.R_slice HO618.out
      subst eo137
      obtain ⟨Ao138, co138, eo138⟩ := Kd.R_slice HO622.out
      subst eo138
      go_wp2_with (first | (go_at_call 12; (with_reducible refine (laws_pSameShapes.calls k _ _ t616 _ _ t620 true _ ?side1 ?side2 ?side3 ?side4 A45.out).mono ?_); (case side1 => refine (Kd.R_reads' (e := 25) (base := w.heap.size) (ok := fun k_ => (((((True ∧ k_ ≠ gb614) ∧ k_ ≠ gb615) ∧ some k_ ≠ (.slice Ao138 t620.length co138 : Value).ownBlock) ∧ k_ ≠ gb635) ∧ k_ ≠ gb643)) (n := t616.length) (c := co137) ?_).2.2; exact z15_8_); (case side2 => exact (Kd.R_reads' HO618.out).2.1); (case side3 => refine (Kd.R_reads' (e := 25) (base := w.heap.size) (ok := fun k_ => (((((True ∧ some k_ ≠ (.slice Ao137 t616.length co137 : Value).ownBlock) ∧ k_ ≠ gb614) ∧ k_ ≠ gb615) ∧ k_ ≠ gb635) ∧ k_ ≠ gb643)) (n := t620.length) (c := co138) ?_).2.2; exact z15_9_); (case side4 => exact (Kd.R_reads' HO622.out).2.1); rintro e w' ⟨rfl, ⟨nd, rfl⟩⟩; have hnb139 := NB635_614.out; have hnc139 := NB614_635.out; have hnb140 := NB635_615.out; have hnc140 := NB615_635.out; have hnb141 := NB635_643.out; have hnc141 := NB643_635.out; have hz142 := cf6_ BK635.out; have hnb143 := NB643_614.out; have hnc143 := NB614_643.out; have hnb144 := NB643_615.out; have hnc144 := NB615_643.out; have hz145 := cf6_ BK643.out; have hnb146 := NB614_615.out; have hnc146 := NB615_614.out; have hz147 := cf6_ BK614.out) | (go_at_call 13; (with_reducible refine (impl_IsShape.calls k t602 t603 t604 t605 t606 t607 false _ A64.out).mono ?_); rintro e w148 ⟨rfl, hb⟩; replace HO618 := aM_ (Kd.R_below z15_8_ hb); replace HO622 := aM_ (Kd.R_below z15_9_ hb); replace BK614 := aM_ (blk_below (g := gb614) (kR_ BK614) hb); replace BK615 := aM_ (blk_below (g := gb615) (kR_ BK615) hb); replace BK635 := aM_ (blk_below (g := gb635) (kR_ BK635) hb); replace BK643 := aM_ (blk_below (g := gb643) (o := .cells #[.int .i64 t636, .int .i64 t637, .int .i64 t638, .int .i64 t639, .int .i64 t640, .bool t641] 25 (0, 0)) z15_7_ hb); replace HB := aM_ (below_step hB_ hb); (try clear hb); (try clear hk)))
      go_meet
      case rel => exact ⟨_, ((t634 != t619)), z15_2_, H', ⟨oR_⟩, ⟨(rM_ HO622 (fun _ hk => ⟨hk.1.1.1.2, ⟨hk.1.1.2, ⟨hk.1.2, hk.2⟩⟩⟩))⟩, ⟨kP_⟩, ⟨kP_⟩, ⟨kP_⟩, ⟨kP_⟩, ⟨hB_⟩⟩
    rw [if_pos c124] at H
    have c124b0 : (t625 != t619) = true := c124
    (try (have c124b1 : decide (t625 = t619) = false := by simpa using c124))
    (try (have c124b2 : (t625 == t619) = false := by simpa using c124))
    (try (have c124b3 : ¬ (t625 = t619) := by simpa using c124))
    clear c124
    as_aux_lemma =>
     have H' := Aside0.mk H
     clear H
     obtain ⟨Ao125, co125, eo125⟩ := Kd.R_slice HO618.out
     subst eo125
     obtain ⟨Ao126, co126, eo126⟩ := Kd.R_slice HO622.out
     subst eo126
     go_wp2_with (first | (go_at_call 12; (with_reducible refine (laws_pSameShapes.calls k _ _ t616 _ _ t620 true _ ?side1 ?side2 ?side3 ?side4 A45.out).mono ?_); (case side1 => refine (Kd.R_reads' (e := 25) (base := w.heap.size) (ok := fun k_ => (((((True ∧ k_ ≠ gb614) ∧ k_ ≠ gb615) ∧ some k_ ≠ (.slice Ao126 t620.length co126 : Value).ownBlock) ∧ k_ ≠ gb635) ∧ k_ ≠ gb643)) (n := t616.length) (c := co125) ?_).2.2; exact z15_8_); (case side2 => exact (Kd.R_reads' HO618.out).2.1); (case side3 => refine (Kd.R_reads' (e := 25) (base := w.heap.size) (ok := fun k_ => (((((True ∧ some k_ ≠ (.slice Ao125 t616.length co125 : Value).ownBlock) ∧ k_ ≠ gb614) ∧ k_ ≠ gb615) ∧ k_ ≠ gb635) ∧ k_ ≠ gb643)) (n := t620.length) (c := co126) ?_).2.2; exact z15_9_); (case side4 => exact (Kd.R_reads' HO622.out).2.1); rintro e w' ⟨rfl, ⟨nd, rfl⟩⟩; have hnb127 := NB635_614.out; have hnc127 := NB614_635.out; have hnb128 := NB635_615.out; have hnc128 := NB615_635.out; have hnb129 := NB635_643.out; have hnc129 := NB643_635.out; have hz130 := cf6_ BK635.out; have hnb131 := NB643_614.out; have hnc131 := NB614_643.out; have hnb132 := NB643_615.out; have hnc132 := NB615_643.out; have hz133 := cf6_ BK643.out; have hnb134 := NB614_615.out; have hnc134 := NB615_614.out; have hz135 := cf6_ BK614.out) | (go_at_call 13; (with_reducible refine (impl_IsShape.calls k t602 t603 t604 t605 t606 t607 false _ A64.out).mono ?_); rintro e w136 ⟨rfl, hb⟩; replace HO618 := aM_ (Kd.R_below z15_8_ hb); replace HO622 := aM_ (Kd.R_below z15_9_ hb); replace BK614 := aM_ (blk_below (g := gb614) (kR_ BK614) hb); replace BK615 := aM_ (blk_below (g := gb615) (kR_ BK615) hb); replace BK635 := aM_ (blk_below (g := gb635) (kR_ BK635) hb); replace BK643 := aM_ (blk_below (g := gb643) (o := .cells #[.int .i64 t636, .int .i64 t637, .int .i64 t638, .int .i64 t639, .int .i64 t640, .bool t641] 25 (0, 0)) z15_7_ hb); replace HB := aM_ (below_step hB_ hb); (try clear hb); (try clear hk)))
     go_meet
     case rel => exact ⟨_, (true), z15_2_, H', ⟨oR_⟩, ⟨(rM_ HO622 (fun _ hk => ⟨hk.1.1.1.2, ⟨hk.1.1.2, ⟨hk.1.2, hk.2⟩⟩⟩))⟩, ⟨kP_⟩, ⟨kP_⟩, ⟨kP_⟩, ⟨kP_⟩, ⟨hB_⟩⟩
   subst c65
   replace H := ip_ H rfl
   replace H := ob_ H; obtain ⟨t646, A66, H⟩ := H; try dsimp only at H
   by_cases c67 : (t619 != t646) = true
   ·rw [if_pos c67] at H
    have c67b0 : (t619 != t646) = true := c67
    (try (have c67b1 : decide (t619 = t646) = false := by simpa using c67))
    (try (have c67b2 : (t619 == t646) = false := by simpa using c67))
    (try (have c67b3 : ¬ (t619 = t646) := by simpa using c67))
    clear c67
    as_aux_lemma =>
     have H' := Aside0.mk H
     clear H
     obtain ⟨Ao68, co68, eo68⟩ := Kd.R_slice HO618.out
     subst eo68
     obtain ⟨Ao69, co69, eo69⟩ := Kd.R_slice HO622.out
     subst eo69
     go_wp2_with (first | (go_at_call 12; (with_reducible refine (laws_pSameShapes.calls k _ _ t616 _ _ t620 true _ ?side1 ?side2 ?side3 ?side4 A45.out).mono ?_); (case side1 => refine (Kd.R_reads' (e := 25) (base := w.heap.size) (ok := fun k_ => (((((True ∧ k_ ≠ gb614) ∧ k_ ≠ gb615) ∧ some k_ ≠ (.slice Ao69 t620.length co69 : Value).ownBlock) ∧ k_ ≠ gb635) ∧ k_ ≠ gb643)) (n := t616.length) (c := co68) ?_).2.2; exact z15_8_); (case side2 => exact (Kd.R_reads' HO618.out).2.1); (case side3 => refine (Kd.R_reads' (e := 25) (base := w.heap.size) (ok := fun k_ => (((((True ∧ some k_ ≠ (.slice Ao68 t616.length co68 : Value).ownBlock) ∧ k_ ≠ gb614) ∧ k_ ≠ gb615) ∧ k_ ≠ gb635) ∧ k_ ≠ gb643)) (n := t620.length) (c := co69) ?_).2.2; exact z15_9_); (case side4 => exact (Kd.R_reads' HO622.out).2.1); rintro e w' ⟨rfl, ⟨nd, rfl⟩⟩; have hnb70 := NB635_614.out; have hnc70 := NB614_635.out; have hnb71 := NB635_615.out; have hnc71 := NB615_635.out; have hnb72 := NB635_643.out; have hnc72 := NB643_635.out; have hz73 := cf6_ BK635.out; have hnb74 := NB643_614.out; have hnc74 := NB614_643.out; have hnb75 := NB643_615.out; have hnc75 := NB615_643.out; have hz76 := cf6_ BK643.out; have hnb77 := NB614_615.out; have hnc77 := NB615_614.out; have hz78 := cf6_ BK614.out) | (go_at_call 13; (with_reducible refine (impl_IsShape.calls k t602 t603 t604 t605 t606 t607 true _ A64.out).mono ?_); rintro e w79 ⟨rfl, hb⟩; replace HO618 := aM_ (Kd.R_below z15_8_ hb); replace HO622 := aM_ (Kd.R_below z15_9_ hb); replace BK614 := aM_ (blk_below (g := gb614) (kR_ BK614) hb); replace BK615 := aM_ (blk_below (g := gb615) (kR_ BK615) hb); replace BK635 := aM_ (blk_below (g := gb635) (kR_ BK635) hb); replace BK643 := aM_ (blk_below (g := gb643) (o := .cells #[.int .i64 t636, .int .i64 t637, .int .i64 t638, .int .i64 t639, .int .i64 t640, .bool t641] 25 (0, 0)) z15_7_ hb); replace HB := aM_ (below_step hB_ hb); (try clear hb); (try clear hk); have hz80 := cf6_ BK615.out) | (go_at_call 13; (with_reducible refine (impl_IsShape.calls k t608 t609 t610 t611 t612 t613 t646 _ A66.out).mono ?_); rintro e w81 ⟨rfl, hb⟩; replace HO618 := aM_ (Kd.R_below (rR_ HO618) hb); replace HO622 := aM_ (Kd.R_below (rR_ HO622) hb); replace BK614 := aM_ (blk_below (g := gb614) (kR_ BK614) hb); replace BK615 := aM_ (blk_below (g := gb615) (kR_ BK615) hb); replace BK635 := aM_ (blk_below (g := gb635) (kR_ BK635) hb); replace BK643 := aM_ (blk_below (g := gb643) (kR_ BK643) hb); replace HB := aM_ (below_step hB_ hb); (try clear hb); (try clear hk)))
     go_meet
     case rel => exact ⟨_, (true), z15_2_, H', ⟨oR_⟩, ⟨(rM_ HO622 (fun _ hk => ⟨hk.1.1.1.2, ⟨hk.1.1.2, ⟨hk.1.2, hk.2⟩⟩⟩))⟩, ⟨kP_⟩, ⟨kP_⟩, ⟨kP_⟩, ⟨kP_⟩, ⟨hB_⟩⟩
   rw [if_neg c67] at H
   have c67b0 : (t619 != t646) = false := by simpa using c67
   (try (have c67b1 : decide (t619 = t646) = true := by simpa using c67))
   (try (have c67b2 : (t619 == t646) = true := by simpa using c67))
   clear c67
   by_cases c82 : (t625 != t619) = true
   rotate_left
   ·rw [if_neg c82] at H
    have c82b0 : (t625 != t619) = false := by simpa using c82
    (try (have c82b1 : decide (t625 = t619) = true := by simpa using c82))
    (try (have c82b2 : (t625 == t619) = true := by simpa using c82))
    clear c82
    as_aux_lemma =>
     have H' := Aside0.mk H
     clear H
     obtain ⟨Ao97, co97, eo97⟩ := Kd.R_slice HO618.out
     subst eo97
     obtain ⟨Ao98, co98, eo98⟩ := Kd.R_slice HO622.out
     subst eo98
     go_wp2_with (first | (go_at_call 12; (with_reducible refine (laws_pSameShapes.calls k _ _ t616 _ _ t620 true _ ?side1 ?side2 ?side3 ?side4 A45.out).mono ?_); (case side1 => refine (Kd.R_reads' (e := 25) (base := w.heap.size) (ok := fun k_ => (((((True ∧ k_ ≠ gb614) ∧ k_ ≠ gb615) ∧ some k_ ≠ (.slice Ao98 t620.length co98 : Value).ownBlock) ∧ k_ ≠ gb635) ∧ k_ ≠ gb643)) (n := t616.length) (c := co97) ?_).2.2; exact z15_8_); (case side2 => exact (Kd.R_reads' HO618.out).2.1); (case side3 => refine (Kd.R_reads' (e := 25) (base := w.heap.size) (ok := fun k_ => (((((True ∧ some k_ ≠ (.slice Ao97 t616.length co97 : Value).ownBlock) ∧ k_ ≠ gb614) ∧ k_ ≠ gb615) ∧ k_ ≠ gb635) ∧ k_ ≠ gb643)) (n := t620.length) (c := co98) ?_).2.2; exact z15_9_); (case side4 => exact (Kd.R_reads' HO622.out).2.1); rintro e w' ⟨rfl, ⟨nd, rfl⟩⟩; have hnb99 := NB635_614.out; have hnc99 := NB614_635.out; have hnb100 := NB635_615.out; have hnc100 := NB615_635.out; have hnb101 := NB635_643.out; have hnc101 := NB643_635.out; have hz102 := cf6_ BK635.out; have hnb103 := NB643_614.out; have hnc103 := NB614_643.out; have hnb104 := NB643_615.out; have hnc104 := NB615_643.out; have hz105 := cf6_ BK643.out; have hnb106 := NB614_615.out; have hnc106 := NB615_614.out; have hz107 := cf6_ BK614.out) | (go_at_call 13; (with_reducible refine (impl_IsShape.calls k t602 t603 t604 t605 t606 t607 true _ A64.out).mono ?_); rintro e w108 ⟨rfl, hb⟩; replace HO618 := aM_ (Kd.R_below z15_8_ hb); replace HO622 := aM_ (Kd.R_below z15_9_ hb); replace BK614 := aM_ (blk_below (g := gb614) (kR_ BK614) hb); replace BK615 := aM_ (blk_below (g := gb615) (kR_ BK615) hb); replace BK635 := aM_ (blk_below (g := gb635) (kR_ BK635) hb); replace BK643 := aM_ (blk_below (g := gb643) (o := .cells #[.int .i64 t636, .int .i64 t637, .int .i64 t638, .int .i64 t639, .int .i64 t640, .bool t641] 25 (0, 0)) z15_7_ hb); replace HB := aM_ (below_step hB_ hb); (try clear hb); (try clear hk); have hz109 := cf6_ BK615.out) | (go_at_call 13; (with_reducible refine (impl_IsShape.calls k t608 t609 t610 t611 t612 t613 t646 _ A66.out).mono ?_); rintro e w110 ⟨rfl, hb⟩; replace HO618 := aM_ (Kd.R_below (rR_ HO618) hb); replace HO622 := aM_ (Kd.R_below (rR_ HO622) hb); replace BK614 := aM_ (blk_below (g := gb614) (kR_ BK614) hb); replace BK615 := aM_ (blk_below (g := gb615) (kR_ BK615) hb); replace BK635 := aM_ (blk_below (g := gb635) (kR_ BK635) hb); replace BK643 := aM_ (blk_below (g := gb643) (kR_ BK643) hb); replace HB := aM_ (below_step hB_ hb); (try clear hb); (try clear hk)))
     go_meet
     case rel => exact ⟨_, ((t634 != t619)), z15_2_, H', ⟨oR_⟩, ⟨(rM_ HO622 (fun _ hk => ⟨hk.1.1.1.2, ⟨hk.1.1.2, ⟨hk.1.2, hk.2⟩⟩⟩))⟩, ⟨kP_⟩, ⟨kP_⟩, ⟨kP_⟩, ⟨kP_⟩, ⟨hB_⟩⟩
   rw [if_pos c82] at H
   have c82b0 : (t625 != t619) = true := c82
   (try (have c82b1 : decide (t625 = t619) = false := by simpa using c82))
   (try (have c82b2 : (t625 == t619) = false := by simpa using c82))
   (try (have c82b3 : ¬ (t625 = t619) := by simpa using c82))
   clear c82
   as_aux_lemma =>
    have H' := Aside0.mk H
    clear H
    obtain ⟨Ao83, co83, eo83⟩ := Kd.R_slice HO618.out
    subst eo83
    obtain ⟨Ao84, co84, eo84⟩ := Kd.R_slice HO622.out
    subst eo84
    go_wp2_with (first | (go_at_call 12; (with_reducible refine (laws_pSameShapes.calls k _ _ t616 _ _ t620 true _ ?side1 ?side2 ?side3 ?side4 A45.out).mono ?_); (case side1 => refine (Kd.R_reads' (e := 25) (base := w.heap.size) (ok := fun k_ => (((((True ∧ k_ ≠ gb614) ∧ k_ ≠ gb615) ∧ some k_ ≠ (.slice Ao84 t620.length co84 : Value).ownBlock) ∧ k_ ≠ gb635) ∧ k_ ≠ gb643)) (n := t616.length) (c := co83) ?_).2.2; exact z15_8_); (case side2 => exact (Kd.R_reads' HO618.out).2.1); (case side3 => refine (Kd.R_reads' (e := 25) (base := w.heap.size) (ok := fun k_ => (((((True ∧ some k_ ≠ (.slice Ao83 t616.length co83 : Value).ownBlock) ∧ k_ ≠ gb614) ∧ k_ ≠ gb615) ∧ k_ ≠ gb635) ∧ k_ ≠ gb643)) (n := t620.length) (c := co84) ?_).2.2; exact z15_9_); (case side4 => exact (Kd.R_reads' HO622.out).2.1); rintro e w' ⟨rfl, ⟨nd, rfl⟩⟩; have hnb85 := NB635_614.out; have hnc85 := NB614_635.out; have hnb86 := NB635_615.out; have hnc86 := NB615_635.out; have hnb87 := NB635_643.out; have hnc87 := NB643_635.out; have hz88 := cf6_ BK635.out; have hnb89 := NB643_614.out; have hnc89 := NB614_643.out; have hnb90 := NB643_615.out; have hnc90 := NB615_643.out; have hz91 := cf6_ BK643.out; have hnb92 := NB614_615.out; have hnc92 := NB615_614.out; have hz93 := cf6_ BK614.out) | (go_at_call 13; (with_reducible refine (impl_IsShape.calls k t602 t603 t604 t605 t606 t607 true _ A64.out).mono ?_); rintro e w94 ⟨rfl, hb⟩; replace HO618 := aM_ (Kd.R_below z15_8_ hb); replace HO622 := aM_ (Kd.R_below z15_9_ hb); replace BK614 := aM_ (blk_below (g := gb614) (kR_ BK614) hb); replace BK615 := aM_ (blk_below (g := gb615) (kR_ BK615) hb); replace BK635 := aM_ (blk_below (g := gb635) (kR_ BK635) hb); replace BK643 := aM_ (blk_below (g := gb643) (o := .cells #[.int .i64 t636, .int .i64 t637, .int .i64 t638, .int .i64 t639, .int .i64 t640, .bool t641] 25 (0, 0)) z15_7_ hb); replace HB := aM_ (below_step hB_ hb); (try clear hb); (try clear hk); have hz95 := cf6_ BK615.out) | (go_at_call 13; (with_reducible refine (impl_IsShape.calls k t608 t609 t610 t611 t612 t613 t646 _ A66.out).mono ?_); rintro e w96 ⟨rfl, hb⟩; replace HO618 := aM_ (Kd.R_below (rR_ HO618) hb); replace HO622 := aM_ (Kd.R_below (rR_ HO622) hb); replace BK614 := aM_ (blk_below (g := gb614) (kR_ BK614) hb); replace BK615 := aM_ (blk_below (g := gb615) (kR_ BK615) hb); replace BK635 := aM_ (blk_below (g := gb635) (kR_ BK635) hb); replace BK643 := aM_ (blk_below (g := gb643) (kR_ BK643) hb); replace HB := aM_ (below_step hB_ hb); (try clear hb); (try clear hk)))
    go_meet
    case rel => exact ⟨_, (true), z15_2_, H', ⟨oR_⟩, ⟨(rM_ HO622 (fun _ hk => ⟨hk.1.1.1.2, ⟨hk.1.1.2, ⟨hk.1.2, hk.2⟩⟩⟩))⟩, ⟨kP_⟩, ⟨kP_⟩, ⟨kP_⟩, ⟨kP_⟩, ⟨hB_⟩⟩
 case rest =>
  as_aux_lemma =>
   clear hnb16 hnc16 hz17 hz18 hz20 hz21 hz23 hz24 hz26 hz27 hz29 hz30 hnb33 hnc33 hnb34 hnc34 hz35 hz36 hz37 hnb40 hnc40 hnb41 hnc41 hnb42 hnc42 hz43
   clear HC12
   (try clear c1);(try clear c4);(try clear hcz17_0);(try clear hcz17_1);(try clear hcz17_2);(try clear hcz17_3);(try clear hcz17_4);(try clear hcz17_5);(try clear hcz18_0);(try clear hcz18_1);(try clear hcz18_2);(try clear hcz18_3);(try clear hcz18_4);(try clear hcz18_5);(try clear hcz20_0);(try clear hcz20_1);(try clear hcz20_2);(try clear hcz20_3);(try clear hcz20_4);(try clear hcz20_5);(try clear hcz21_0);(try clear hcz21_1);(try clear hcz21_2);(try clear hcz21_3);(try clear hcz21_4);(try clear hcz21_5);(try clear hcz23_0);(try clear hcz23_1);(try clear hcz23_2);(try clear hcz23_3);(try clear hcz23_4);(try clear hcz23_5);(try clear hcz24_0);(try clear hcz24_1);(try clear hcz24_2);(try clear hcz24_3);(try clear hcz24_4);(try clear hcz24_5);(try clear hcz26_0);(try clear hcz26_1);(try clear hcz26_2);(try clear hcz26_3);(try clear hcz26_4);(try clear hcz26_5);(try clear hcz27_0);(try clear hcz27_1);(try clear hcz27_2);(try clear hcz27_3);(try clear hcz27_4);(try clear hcz27_5);(try clear hcz29_0);(try clear hcz29_1);(try clear hcz29_2);(try clear hcz29_3);(try clear hcz29_4);(try clear hcz29_5);(try clear hcz30_0);(try clear hcz30_1);(try clear hcz30_2);(try clear hcz30_3);(try clear hcz30_4);(try clear hcz30_5);(try clear hcz35_0);(try clear hcz35_1);(try clear hcz35_2);(try clear hcz35_3);(try clear hcz35_4);(try clear hcz35_5);(try clear hcz36_0);(try clear hcz36_1);(try clear hcz36_2);(try clear hcz36_3);(try clear hcz36_4);(try clear hcz36_5);(try clear hcz37_0);(try clear hcz37_1);(try clear hcz37_2);(try clear hcz37_3);(try clear hcz37_4);(try clear hcz37_5);(try clear hcz43_0);(try clear hcz43_1);(try clear hcz43_2);(try clear hcz43_3);(try clear hcz43_4);(try clear hcz43_5);(try clear hfz17_0);(try clear hfz17_1);(try clear hfz17_2);(try clear hfz17_3);(try clear hfz17_4);(try clear hfz17_5);(try clear hfz18_0);(try clear hfz18_1);(try clear hfz18_2);(try clear hfz18_3);(try clear hfz18_4);(try clear hfz18_5);(try clear hfz20_0);(try clear hfz20_1);(try clear hfz20_2);(try clear hfz20_3);(try clear hfz20_4);(try clear hfz20_5);(try clear hfz21_0);(try clear hfz21_1);(try clear hfz21_2);(try clear hfz21_3);(try clear hfz21_4);(try clear hfz21_5);(try clear hfz23_0);(try clear hfz23_1);(try clear hfz23_2);(try clear hfz23_3);(try clear hfz23_4);(try clear hfz23_5);(try clear hfz24_0);(try clear hfz24_1);(try clear hfz24_2);(try clear hfz24_3);(try clear hfz24_4);(try clear hfz24_5);(try clear hfz26_0);(try clear hfz26_1);(try clear hfz26_2);(try clear hfz26_3);(try clear hfz26_4);(try clear hfz26_5);(try clear hfz27_0);(try clear hfz27_1);(try clear hfz27_2);(try clear hfz27_3);(try clear hfz27_4);(try clear hfz27_5);(try clear hfz29_0);(try clear hfz29_1);(try clear hfz29_2);(try clear hfz29_3);(try clear hfz29_4);(try clear hfz29_5);(try clear hfz30_0);(try clear hfz30_1);(try clear hfz30_2);(try clear hfz30_3);(try clear hfz30_4);(try clear hfz30_5);(try clear hfz35_0);(try clear hfz35_1);(try clear hfz35_2);(try clear hfz35_3);(try clear hfz35_4)
   (try clear hfz35_5);(try clear hfz36_0);(try clear hfz36_1);(try clear hfz36_2);(try clear hfz36_3);(try clear hfz36_4);(try clear hfz36_5);(try clear hfz37_0);(try clear hfz37_1);(try clear hfz37_2);(try clear hfz37_3);(try clear hfz37_4);(try clear hfz37_5);(try clear hfz43_0);(try clear hfz43_1);(try clear hfz43_2);(try clear hfz43_3);(try clear hfz43_4);(try clear hfz43_5)
   obtain ⟨kq, x132_11, rfl, HA, HJ11, HO_9, BK614, BK615, BK635, BK643, HB⟩ := hcut
   cases kq with
   | zero => exact absurd HA.out (by simp [laws_FnShapes.j0])
   | succ kj11 =>
    as_aux_lemma =>
     have H := HA.out
     clear HA
     simp only [laws_FnShapes.j0] at H
     by_cases c153 : x132_11 = true
     ·subst c153
      replace H := ip_ H rfl
      as_aux_lemma =>
       obtain rfl := Option.some.inj H
       go_wp2
       go_ret
       exact ⟨rT_, hB_⟩
     replace c153 := Bool.eq_false_iff.mpr c153
     subst c153
     replace H := in_ H (show ¬ (false = true) by decide)
     have HC154 := Aside0.mk H
     clear H
     go_upto_if 133 with (fail)
     go_cut [] (fun wc => ∃ (kq : Nat), Aside0 (laws_FnShapes.j4 kq l1 = some r) ∧ Aside0 (kq ≤ kj11) ∧ Aside0 (Below w.heap.size w wc))
     case first =>
      as_aux_lemma =>
       have H := HC154.out
       clear HC154
       by_cases c155 : t619 = true
       rotate_left
       ·replace c155 := Bool.eq_false_iff.mpr c155
        subst c155
        replace H := in_ H (show ¬ (false = true) by decide)
        as_aux_lemma =>
         have H' := Aside0.mk H
         clear H
         go_wp2
         go_meet
         case rel => exact ⟨_, H', ⟨z15_10_⟩, ⟨hB_⟩⟩
       subst c155
       replace H := ip_ H rfl
       replace H := ob_ H; obtain ⟨⟨t647, t648⟩, A156, H⟩ := H; try dsimp only at H
       have HC157 := Aside0.mk H
       clear H
       have hnb158 := NB615_614.out
       have hnc158 := NB614_615.out
       have hnb159 := NB615_635.out
       have hnc159 := NB635_615.out
       have hnb160 := NB615_643.out
       have hnc160 := NB643_615.out
       have hz161 := cf6_ BK615.out
       have hnb162 := NB614_635.out
       have hnc162 := NB635_614.out
       have hnb163 := NB614_643.out
       have hnc163 := NB643_614.out
       have hz164 := cf6_ BK614.out
       go_upto_region 14 with (first | ((with_reducible refine gC_ 8 ?_); refine gM_ (some 137) Tryd.func8 #[.agg #[.int .i64 t608, .int .i64 t609, .int .i64 t610, .int .i64 t611, .int .i64 t612, .bool t613], .agg #[.int .i64 t602, .int .i64 t603, .int .i64 t604, .int .i64 t605, .int .i64 t606, .bool t607]] ?_; (with_reducible refine (impl_ShapeDistance.calls kj11 t608 t609 t610 t611 t612 t613 t602 t603 t604 t605 t606 t607 t647 t648 _ A156.out).mono ?_); rintro e w165 ⟨rfl, hb⟩; refine ⟨_, rfl, ?_⟩; replace HO_9 := aM_ (Kd.R_below (rR_ HO_9) hb); replace BK614 := aM_ (blk_below (g := gb614) (kR_ BK614) hb); replace BK615 := aM_ (blk_below (g := gb615) (kR_ BK615) hb); replace BK635 := aM_ (blk_below (g := gb635) (kR_ BK635) hb); replace BK643 := aM_ (blk_below (g := gb643) (kR_ BK643) hb); replace HB := aM_ (below_step hB_ hb); (try clear hb)))
       (try simp only [Act.put, List.setIfInBounds_toArray, List.set_cons_zero, List.set_cons_succ])
       go_cut [187] (fun v187 wc => ∃ (kq : Nat) (x187_156 : Bool), v187 = .bool x187_156 ∧ Aside0 (laws_FnShapes.j1 kq l1 t620 x187_156 t602 t603 t604 t605 t606 t607 t628 t629 t630 t631 t632 t633 t636 t637 t638 t639 t640 t641 = some r) ∧ Aside0 (kq ≤ kj11) ∧ Aside0 (Kd.R k25 25 wc w.heap.size (fun k_ => k_ ≠ gb614 ∧ k_ ≠ gb615 ∧ k_ ≠ gb635 ∧ k_ ≠ gb643) v621 t620) ∧ Aside0 (wc.heap[gb614]? = some (.cells #[.int .i64 t602, .int .i64 t603, .int .i64 t604, .int .i64 t605, .int .i64 t606, .bool t607] 25 (0, 0))) ∧ Aside0 (wc.heap[gb615]? = some (.cells #[.int .i64 t608, .int .i64 t609, .int .i64 t610, .int .i64 t611, .int .i64 t612, .bool t613] 25 (0, 0))) ∧ Aside0 (wc.heap[gb635]? = some (.cells #[.int .i64 t628, .int .i64 t629, .int .i64 t630, .int .i64 t631, .int .i64 t632, .bool t633] 25 (0, 0))) ∧ Aside0 (wc.heap[gb643]? = some (.cells #[.int .i64 t636, .int .i64 t637, .int .i64 t638, .int .i64 t639, .int .i64 t640, .bool t641] 25 (0, 0))) ∧ Aside0 (Below w.heap.size w wc))
       case first =>
        as_aux_lemma =>
         have H := HC157.out
         clear HC157
         by_cases c166 : t648 = true
         rotate_left
         ·replace c166 := Bool.eq_false_iff.mpr c166
          subst c166
          replace H := in_ H (show ¬ (false = true) by decide)
          as_aux_lemma =>
           have H' := Aside0.mk H
           clear H
           try go_wp2
           replace HO_9 := aM_ (Kd.R_drew HO_9.out)
           replace BK614 := aM_ (blk_drew BK614.out)
           replace BK615 := aM_ (blk_drew BK615.out)
           replace BK635 := aM_ (blk_drew BK635.out)
           replace BK643 := aM_ (blk_drew BK643.out)
           replace HB := aM_ (below_drew1 HB.out)
           refine st_ 48 (fun w' => True) [] laws_FnShapes.tab14 laws_FnShapes.bits14 trivial fun hHeld HT_ HW_ => ?_
           generalize w165.drew = w191 at HO_9 BK614 BK615 BK635 BK643 HB hHeld ⊢
           refine pu_ 0 140 ?_
           refine pu_ 1 141 ?_
           refine pu_ 2 142 ?_
           refine pv_ 3 143 ?_
           refine pv_ 4 144 ?_
           refine pv_ 5 145 ?_
           refine pu_ 6 146 ?_
           refine pu_ 7 147 ?_
           refine pv_ 8 148 ?_
           refine pv_ 9 149 ?_
           refine pv_ 10 150 ?_
           refine pv_ 11 151 ?_
           refine pv_ 12 152 ?_
           refine pv_ 13 153 ?_
           refine pu_ 14 154 ?_
           refine pu_ 15 155 ?_
           refine pv_ 16 156 ?_
           refine pv_ 17 157 ?_
           refine pv_ 18 158 ?_
           refine pu_ 19 159 ?_
           refine pu_ 20 160 ?_
           refine pv_ 21 161 ?_
           refine pv_ 22 162 ?_
           refine pv_ 23 163 ?_
           refine pv_ 24 164 ?_
           refine pv_ 25 165 ?_
           refine pu_ 26 166 ?_
           refine pu_ 27 167 ?_
           refine pv_ 28 168 ?_
           refine pv_ 29 169 ?_
           refine pv_ 30 170 ?_
           refine pv_ 31 171 ?_
           refine pv_ 32 172 ?_
           refine pv_ 33 173 ?_
           refine pv_ 34 174 ?_
           refine pv_ 35 175 ?_
           refine pu_ 36 176 ?_
           refine pu_ 37 177 ?_
           refine pv_ 38 178 ?_
           refine pv_ 39 179 ?_
           refine pv_ 40 180 ?_
           refine pv_ 41 181 ?_
           refine pu_ 42 182 ?_
           refine pu_ 43 183 ?_
           refine pv_ 44 184 ?_
           refine pv_ 45 185 ?_
           refine pv_ 46 186 ?_
           refine pu_ 47 187 ?_
           refine dn_ ?_
           try go_wp2
           go_meet
           case rel => exact ⟨_, (true), z15_2_, H', ⟨z15_10_⟩, ⟨(rR_ HO_9)⟩, ⟨kP_⟩, ⟨kP_⟩, ⟨kP_⟩, ⟨kP_⟩, ⟨hB_⟩⟩
         subst c166
         replace H := ip_ H rfl
         as_aux_lemma =>
          by_cases c167 : t647 = t626
          rotate_left
          ·rw [if_neg c167] at H
           have c167b0 : (t647 == t626) = false := beq_eq_false_iff_ne.mpr c167
           have c167b1 : (t647 != t626) = true := bne_iff_ne.mpr c167
           (first | rw [c167b0] | (simp only [i64_w, i32_w]; rw [c167b0]) | skip)
           as_aux_lemma =>
            have H' := Aside0.mk H
            clear H
            try go_wp2
            replace HO_9 := aM_ (Kd.R_drew HO_9.out)
            replace BK614 := aM_ (blk_drew BK614.out)
            replace BK615 := aM_ (blk_drew BK615.out)
            replace BK635 := aM_ (blk_drew BK635.out)
            replace BK643 := aM_ (blk_drew BK643.out)
            replace HB := aM_ (below_drew1 HB.out)
            refine st_ 48 (fun w' => True) [] laws_FnShapes.tab14 laws_FnShapes.bits14 trivial fun hHeld HT_ HW_ => ?_
            generalize w165.drew = w190 at HO_9 BK614 BK615 BK635 BK643 HB hHeld ⊢
            refine pu_ 0 140 ?_
            refine pu_ 1 141 ?_
            refine pu_ 2 142 ?_
            refine pu_ 3 143 ?_
            refine pu_ 4 144 ?_
            refine pu_ 5 145 ?_
            refine pu_ 6 146 ?_
            refine pu_ 7 147 ?_
            refine pv_ 8 148 ?_
            refine pv_ 9 149 ?_
            refine pv_ 10 150 ?_
            refine pv_ 11 151 ?_
            refine pv_ 12 152 ?_
            refine pv_ 13 153 ?_
            refine pu_ 14 154 ?_
            refine pu_ 15 155 ?_
            refine pv_ 16 156 ?_
            refine pv_ 17 157 ?_
            refine pv_ 18 158 ?_
            refine pu_ 19 159 ?_
            refine pu_ 20 160 ?_
            refine pv_ 21 161 ?_
            refine pv_ 22 162 ?_
            refine pv_ 23 163 ?_
            refine pv_ 24 164 ?_
            refine pv_ 25 165 ?_
            refine pu_ 26 166 ?_
            refine pu_ 27 167 ?_
            refine pv_ 28 168 ?_
            refine pv_ 29 169 ?_
            refine pv_ 30 170 ?_
            refine pv_ 31 171 ?_
            refine pv_ 32 172 ?_
            refine pv_ 33 173 ?_
            refine pv_ 34 174 ?_
            refine pv_ 35 175 ?_
            refine pu_ 36 176 ?_
            refine pu_ 37 177 ?_
            refine pv_ 38 178 ?_
            refine pv_ 39 179 ?_
            refine pv_ 40 180 ?_
            refine pv_ 41 181 ?_
            refine pu_ 42 182 ?_
            refine pu_ 43 183 ?_
            refine pv_ 44 184 ?_
            refine pv_ 45 185 ?_
            refine pv_ 46 186 ?_
            refine pu_ 47 187 ?_
            refine dn_ ?_
            try go_wp2
            go_meet
            case rel => exact ⟨_, (true), z15_2_, H', ⟨z15_10_⟩, ⟨(rR_ HO_9)⟩, ⟨kP_⟩, ⟨kP_⟩, ⟨kP_⟩, ⟨kP_⟩, ⟨hB_⟩⟩
          rw [if_pos c167] at H
          have c167b0 : (t647 == t626) = true := beq_iff_eq.mpr c167
          have c167b1 : (t647 != t626) = false := bne_eq_false_iff_eq.mpr c167
          clear c167
          (first | rw [c167b0] | (simp only [i64_w, i32_w]; rw [c167b0]) | skip)
          as_aux_lemma =>
           by_cases c168 : ((t626 == 0) != (t602 == t608 && (t603 == t609 && (t604 == t610 && (t605 == t611 && (t606 == t612 && (t607 == t613))))))) = true
           ·rw [if_pos c168] at H
            have c168b0 : ((t626 == 0) != (t602 == t608 && (t603 == t609 && (t604 == t610 && (t605 == t611 && (t606 == t612 && (t607 == t613))))))) = true := c168
            (try (have c168b1 : decide ((t626 == 0) = (t602 == t608 && (t603 == t609 && (t604 == t610 && (t605 == t611 && (t606 == t612 && (t607 == t613))))))) = false := by simpa using c168))
            (try (have c168b2 : ((t626 == 0) == (t602 == t608 && (t603 == t609 && (t604 == t610 && (t605 == t611 && (t606 == t612 && (t607 == t613))))))) = false := by simpa using c168))
            (try (have c168b3 : ¬ ((t626 == 0) = (t602 == t608 && (t603 == t609 && (t604 == t610 && (t605 == t611 && (t606 == t612 && (t607 == t613))))))) := by simpa using c168))
            clear c168
            as_aux_lemma =>
             have H' := Aside0.mk H
             clear H
             try go_wp2
             replace HO_9 := aM_ (Kd.R_drew HO_9.out)
             replace BK614 := aM_ (blk_drew BK614.out)
             replace BK615 := aM_ (blk_drew BK615.out)
             replace BK635 := aM_ (blk_drew BK635.out)
             replace BK643 := aM_ (blk_drew BK643.out)
             replace HB := aM_ (below_drew1 HB.out)
             refine st_ 48 (fun w' => w'.cell? ⟨gb614, 0, none⟩ = some (.int .i64 t602) ∧ w'.cell? ⟨gb614, 1, none⟩ = some (.int .i64 t603) ∧ w'.cell? ⟨gb614, 2, none⟩ = some (.int .i64 t604) ∧ w'.cell? ⟨gb614, 3, none⟩ = some (.int .i64 t605) ∧ w'.cell? ⟨gb614, 4, none⟩ = some (.int .i64 t606) ∧ w'.cell? ⟨gb614, 5, none⟩ = some (.bool t607) ∧ w'.cell? ⟨gb615, 0, none⟩ = some (.int .i64 t608) ∧ w'.cell? ⟨gb615, 1, none⟩ = some (.int .i64 t609) ∧ w'.cell? ⟨gb615, 2, none⟩ = some (.int .i64 t610) ∧ w'.cell? ⟨gb615, 3, none⟩ = some (.int .i64 t611) ∧ w'.cell? ⟨gb615, 4, none⟩ = some (.int .i64 t612) ∧ w'.cell? ⟨gb615, 5, none⟩ = some (.bool t613)) [] laws_FnShapes.tab14 laws_FnShapes.bits14 ⟨(blk_cell BK614.out 0).trans rfl, (blk_cell BK614.out 1).trans rfl, (blk_cell BK614.out 2).trans rfl, (blk_cell BK614.out 3).trans rfl, (blk_cell BK614.out 4).trans rfl, (blk_cell BK614.out 5).trans rfl, (blk_cell BK615.out 0).trans rfl, (blk_cell BK615.out 1).trans rfl, (blk_cell BK615.out 2).trans rfl, (blk_cell BK615.out 3).trans rfl, (blk_cell BK615.out 4).trans rfl, (blk_cell BK615.out 5).trans rfl⟩ fun hHeld HT_ HW_ => ?_
             generalize w165.drew = w169 at HO_9 BK614 BK615 BK635 BK643 HB hHeld ⊢
             refine pu_ 0 140 ?_
             refine pu_ 1 141 ?_
             refine pu_ 2 142 ?_
             refine pu_ 3 143 ?_
             refine pu_ 4 144 ?_
             refine pu_ 5 145 ?_
             refine pu_ 6 146 ?_
             refine pu_ 7 147 ?_
             refine pu_ 8 148 ?_
             refine pu_ 9 149 ?_
             refine tk_ 10 150 ?_
             refine tk_ 11 151 ?_
             refine pu_ 12 152 ?_
             refine pu_ 13 153 ?_
             refine pu_ 14 154 ?_
             refine pu_ 15 155 ?_
             refine pv_ 16 156 ?_
             refine pv_ 17 157 ?_
             refine pv_ 18 158 ?_
             refine pu_ 19 159 ?_
             refine pu_ 20 160 ?_
             refine pv_ 21 161 ?_
             refine pv_ 22 162 ?_
             refine pv_ 23 163 ?_
             refine pv_ 24 164 ?_
             refine pv_ 25 165 ?_
             refine pu_ 26 166 ?_
             refine pu_ 27 167 ?_
             refine pv_ 28 168 ?_
             refine pv_ 29 169 ?_
             refine pv_ 30 170 ?_
             refine pv_ 31 171 ?_
             refine pv_ 32 172 ?_
             refine pv_ 33 173 ?_
             refine pv_ 34 174 ?_
             refine pv_ 35 175 ?_
             refine pu_ 36 176 ?_
             refine pu_ 37 177 ?_
             refine pv_ 38 178 ?_
             refine pv_ 39 179 ?_
             refine pv_ 40 180 ?_
             refine pv_ 41 181 ?_
             refine pu_ 42 182 ?_
             refine pu_ 43 183 ?_
             refine pv_ 44 184 ?_
             refine pv_ 45 185 ?_
             refine pv_ 46 186 ?_
             refine pu_ 47 187 ?_
             refine dn_ ?_
             try go_wp2
             go_meet
             case rel => exact ⟨_, (true), z15_2_, H', ⟨z15_10_⟩, ⟨(rR_ HO_9)⟩, ⟨kP_⟩, ⟨kP_⟩, ⟨kP_⟩, ⟨kP_⟩, ⟨hB_⟩⟩
           rw [if_neg c168] at H
           have c168b0 : ((t626 == 0) != (t602 == t608 && (t603 == t609 && (t604 == t610 && (t605 == t611 && (t606 == t612 && (t607 == t613))))))) = false := by simpa using c168
           (try (have c168b1 : decide ((t626 == 0) = (t602 == t608 && (t603 == t609 && (t604 == t610 && (t605 == t611 && (t606 == t612 && (t607 == t613))))))) = true := by simpa using c168))
           (try (have c168b2 : ((t626 == 0) == (t602 == t608 && (t603 == t609 && (t604 == t610 && (t605 == t611 && (t606 == t612 && (t607 == t613))))))) = true := by simpa using c168))
           clear c168
           as_aux_lemma =>
            by_cases c170 : (t620.length : Int) = 0
            ·rw [if_pos c170] at H
             have c170b0 : ((t620.length : Int) == 0) = true := beq_iff_eq.mpr c170
             have c170b1 : ((t620.length : Int) != 0) = false := bne_eq_false_iff_eq.mpr c170
             clear c170
             as_aux_lemma =>
              have H' := Aside0.mk H
              clear H
              try go_wp2
              replace HO_9 := aM_ (Kd.R_drew HO_9.out)
              replace BK614 := aM_ (blk_drew BK614.out)
              replace BK615 := aM_ (blk_drew BK615.out)
              replace BK635 := aM_ (blk_drew BK635.out)
              replace BK643 := aM_ (blk_drew BK643.out)
              replace HB := aM_ (below_drew1 HB.out)
              obtain ⟨Ao172, co172, eo172⟩ := Kd.R_slice HO_9.out
              (first | subst eo172 | (injection eo172 with f1_ f2_ f3_; have f4_ := f1_.symm; have f5_ := f3_.symm; clear f1_ f2_ f3_; subst f4_; subst f5_))
              refine st_ 48 (fun w' => w'.cell? ⟨gb614, 0, none⟩ = some (.int .i64 t602) ∧ w'.cell? ⟨gb614, 1, none⟩ = some (.int .i64 t603) ∧ w'.cell? ⟨gb614, 2, none⟩ = some (.int .i64 t604) ∧ w'.cell? ⟨gb614, 3, none⟩ = some (.int .i64 t605) ∧ w'.cell? ⟨gb614, 4, none⟩ = some (.int .i64 t606) ∧ w'.cell? ⟨gb614, 5, none⟩ = some (.bool t607) ∧ w'.cell? ⟨gb615, 0, none⟩ = some (.int .i64 t608) ∧ w'.cell? ⟨gb615, 1, none⟩ = some (.int .i64 t609) ∧ w'.cell? ⟨gb615, 2, none⟩ = some (.int .i64 t610) ∧ w'.cell? ⟨gb615, 3, none⟩ = some (.int .i64 t611) ∧ w'.cell? ⟨gb615, 4, none⟩ = some (.int .i64 t612) ∧ w'.cell? ⟨gb615, 5, none⟩ = some (.bool t613)) [] laws_FnShapes.tab14 laws_FnShapes.bits14 ⟨(blk_cell BK614.out 0).trans rfl, (blk_cell BK614.out 1).trans rfl, (blk_cell BK614.out 2).trans rfl, (blk_cell BK614.out 3).trans rfl, (blk_cell BK614.out 4).trans rfl, (blk_cell BK614.out 5).trans rfl, (blk_cell BK615.out 0).trans rfl, (blk_cell BK615.out 1).trans rfl, (blk_cell BK615.out 2).trans rfl, (blk_cell BK615.out 3).trans rfl, (blk_cell BK615.out 4).trans rfl, (blk_cell BK615.out 5).trans rfl⟩ fun hHeld HT_ HW_ => ?_
              generalize w165.drew = w171 at HO_9 BK614 BK615 BK635 BK643 HB hHeld ⊢
              refine pu_ 0 140 ?_
              refine pu_ 1 141 ?_
              refine pu_ 2 142 ?_
              refine pu_ 3 143 ?_
              refine pu_ 4 144 ?_
              refine pu_ 5 145 ?_
              refine pu_ 6 146 ?_
              refine pu_ 7 147 ?_
              refine pu_ 8 148 ?_
              refine pu_ 9 149 ?_
              refine tk_ 10 150 ?_
              refine tk_ 11 151 ?_
              refine pu_ 12 152 ?_
              refine pu_ 13 153 ?_
              refine pu_ 14 154 ?_
              refine pu_ 15 155 ?_
              refine pu_ 16 156 ?_
              refine pu_ 17 157 ?_
              refine pu_ 18 158 ?_
              refine pu_ 19 159 ?_
              refine pu_ 20 160 ?_
              refine pv_ 21 161 ?_
              refine pv_ 22 162 ?_
              refine pv_ 23 163 ?_
              refine pv_ 24 164 ?_
              refine pv_ 25 165 ?_
              refine pu_ 26 166 ?_
              refine pu_ 27 167 ?_
              refine pv_ 28 168 ?_
              refine pv_ 29 169 ?_
              refine pv_ 30 170 ?_
              refine pv_ 31 171 ?_
              refine pv_ 32 172 ?_
              refine pv_ 33 173 ?_
              refine pv_ 34 174 ?_
              refine pv_ 35 175 ?_
              refine pu_ 36 176 ?_
              refine pu_ 37 177 ?_
              refine pv_ 38 178 ?_
              refine pv_ 39 179 ?_
              refine pv_ 40 180 ?_
              refine pv_ 41 181 ?_
              refine pu_ 42 182 ?_
              refine pu_ 43 183 ?_
              refine pv_ 44 184 ?_
              refine pv_ 45 185 ?_
              refine pv_ 46 186 ?_
              refine pu_ 47 187 ?_
              refine dn_ ?_
              try go_wp2
              go_meet
              case rel => exact ⟨_, (true), z15_2_, H', ⟨z15_10_⟩, ⟨(rR_ HO_9)⟩, ⟨kP_⟩, ⟨kP_⟩, ⟨kP_⟩, ⟨kP_⟩, ⟨hB_⟩⟩
            rw [if_neg c170] at H
            have c170b0 : ((t620.length : Int) == 0) = false := beq_eq_false_iff_ne.mpr c170
            have c170b1 : ((t620.length : Int) != 0) = true := bne_iff_ne.mpr c170
            have c170b2 : ¬ (t620 = []) := fun h_ => c170 (by rw [h_]; rfl)
            as_aux_lemma =>
             by_cases c173 : 0 < (t620.length : Int)
             rotate_left
             ·rw [if_neg c173] at H
              exact absurd H (by simp)
             rw [if_pos c173] at H
             have c173b0 : decide (0 < (t620.length : Int)) = true := decide_eq_true c173
             have c173b1 : decide (0 < t620.length) = true := decide_eq_true (by omega)
             clear c173
             by_cases c174 : (!(((rd_T25 t620 0).f0) == t602) || (!(((rd_T25 t620 0).f1) == t603) || (!(((rd_T25 t620 0).f2) == t604) || (!(((rd_T25 t620 0).f3) == t605) || (!(((rd_T25 t620 0).f4) == t606) || (!(((rd_T25 t620 0).f5) == t607))))))) = true
             ·rw [if_pos c174] at H
              have c174b0 : (!(((rd_T25 t620 0).f0) == t602) || (!(((rd_T25 t620 0).f1) == t603) || (!(((rd_T25 t620 0).f2) == t604) || (!(((rd_T25 t620 0).f3) == t605) || (!(((rd_T25 t620 0).f4) == t606) || (!(((rd_T25 t620 0).f5) == t607))))))) = true := c174
              clear c174
              as_aux_lemma =>
               have H' := Aside0.mk H
               clear H
               try go_wp2
               replace HO_9 := aM_ (Kd.R_drew HO_9.out)
               replace BK614 := aM_ (blk_drew BK614.out)
               replace BK615 := aM_ (blk_drew BK615.out)
               replace BK635 := aM_ (blk_drew BK635.out)
               replace BK643 := aM_ (blk_drew BK643.out)
               replace HB := aM_ (below_drew1 HB.out)
               obtain ⟨Ao176, co176, eo176⟩ := Kd.R_slice HO_9.out
               (first | subst eo176 | (injection eo176 with f1_ f2_ f3_; have f4_ := f1_.symm; have f5_ := f3_.symm; clear f1_ f2_ f3_; subst f4_; subst f5_))
               have p649 : 0 ≤ (0 : Int) := (by omega)
               have q649 : 0 < (t620.length : Int) := ode_
               obtain ⟨ad649, e649, hx649_0, hx649_1, hx649_2, hx649_3, hx649_4, hx649_5⟩ := at_T25 (Kd.R_reads' HO_9.out).2.2 0 p649 q649
               cases e649
               have qi649 : (0 < t620.length) = True := eq_true (by omega)
               (try rw [show ((0 : Int)).toNat = 0 from rfl] at hx649_0)
               (try rw [show 0 * 6 = 0 from rfl] at hx649_0)
               (try rw [Addr.add_zero'] at hx649_0)
               (try rw [show ((0 : Int)).toNat = 0 from rfl] at hx649_1)
               (try rw [show 0 * 6 = 0 from rfl] at hx649_1)
               (try rw [Addr.add_zero'] at hx649_1)
               (try rw [show ((0 : Int)).toNat = 0 from rfl] at hx649_2)
               (try rw [show 0 * 6 = 0 from rfl] at hx649_2)
               (try rw [Addr.add_zero'] at hx649_2)
               (try rw [show ((0 : Int)).toNat = 0 from rfl] at hx649_3)
               (try rw [show 0 * 6 = 0 from rfl] at hx649_3)
               (try rw [Addr.add_zero'] at hx649_3)
               (try rw [show ((0 : Int)).toNat = 0 from rfl] at hx649_4)
               (try rw [show 0 * 6 = 0 from rfl] at hx649_4)
               (try rw [Addr.add_zero'] at hx649_4)
               (try rw [show ((0 : Int)).toNat = 0 from rfl] at hx649_5)
               (try rw [show 0 * 6 = 0 from rfl] at hx649_5)
               (try rw [Addr.add_zero'] at hx649_5)
               replace p649 := eq_true p649
               replace q649 := eq_true q649
               refine st_ 48 (fun w' => w'.cell? ⟨gb614, 0, none⟩ = some (.int .i64 t602) ∧ w'.cell? ⟨gb614, 1, none⟩ = some (.int .i64 t603) ∧ w'.cell? ⟨gb614, 2, none⟩ = some (.int .i64 t604) ∧ w'.cell? ⟨gb614, 3, none⟩ = some (.int .i64 t605) ∧ w'.cell? ⟨gb614, 4, none⟩ = some (.int .i64 t606) ∧ w'.cell? ⟨gb614, 5, none⟩ = some (.bool t607) ∧ w'.cell? ⟨gb615, 0, none⟩ = some (.int .i64 t608) ∧ w'.cell? ⟨gb615, 1, none⟩ = some (.int .i64 t609) ∧ w'.cell? ⟨gb615, 2, none⟩ = some (.int .i64 t610) ∧ w'.cell? ⟨gb615, 3, none⟩ = some (.int .i64 t611) ∧ w'.cell? ⟨gb615, 4, none⟩ = some (.int .i64 t612) ∧ w'.cell? ⟨gb615, 5, none⟩ = some (.bool t613) ∧ w'.cell? ad649 = some (.int .i64 ((rd_T25 t620 0).f0)) ∧ w'.cell? ⟨ad649.block, ad649.off + 1, none⟩ = some (.int .i64 ((rd_T25 t620 0).f1)) ∧ w'.cell? ⟨ad649.block, ad649.off + 2, none⟩ = some (.int .i64 ((rd_T25 t620 0).f2)) ∧ w'.cell? ⟨ad649.block, ad649.off + 3, none⟩ = some (.int .i64 ((rd_T25 t620 0).f3)) ∧ w'.cell? ⟨ad649.block, ad649.off + 4, none⟩ = some (.int .i64 ((rd_T25 t620 0).f4)) ∧ w'.cell? ⟨ad649.block, ad649.off + 5, none⟩ = some (.bool ((rd_T25 t620 0).f5))) [] laws_FnShapes.tab14 laws_FnShapes.bits14 ⟨(blk_cell BK614.out 0).trans rfl, (blk_cell BK614.out 1).trans rfl, (blk_cell BK614.out 2).trans rfl, (blk_cell BK614.out 3).trans rfl, (blk_cell BK614.out 4).trans rfl, (blk_cell BK614.out 5).trans rfl, (blk_cell BK615.out 0).trans rfl, (blk_cell BK615.out 1).trans rfl, (blk_cell BK615.out 2).trans rfl, (blk_cell BK615.out 3).trans rfl, (blk_cell BK615.out 4).trans rfl, (blk_cell BK615.out 5).trans rfl, hx649_0, hx649_1, hx649_2, hx649_3, hx649_4, hx649_5⟩ fun hHeld HT_ HW_ => ?_
               generalize w165.drew = w175 at HO_9 BK614 BK615 BK635 BK643 HB hx649_0 hx649_1 hx649_2 hx649_3 hx649_4 hx649_5 hHeld ⊢
               refine pu_ 0 140 ?_
               refine pu_ 1 141 ?_
               refine pu_ 2 142 ?_
               refine pu_ 3 143 ?_
               refine pu_ 4 144 ?_
               refine pu_ 5 145 ?_
               refine pu_ 6 146 ?_
               refine pu_ 7 147 ?_
               refine pu_ 8 148 ?_
               refine pu_ 9 149 ?_
               refine tk_ 10 150 ?_
               refine tk_ 11 151 ?_
               refine pu_ 12 152 ?_
               refine pu_ 13 153 ?_
               refine pu_ 14 154 ?_
               refine pu_ 15 155 ?_
               refine pu_ 16 156 ?_
               refine pu_ 17 157 ?_
               refine pu_ 18 158 ?_
               refine pu_ 19 159 ?_
               refine pu_ 20 160 ?_
               refine pu_ 21 161 ?_
               refine pu_ 22 162 ?_
               refine tk_ 23 163 ?_
               refine tk_ 24 164 ?_
               refine pu_ 25 165 ?_
               refine pu_ 26 166 ?_
               refine pu_ 27 167 ?_
               refine pv_ 28 168 ?_
               refine pv_ 29 169 ?_
               refine pv_ 30 170 ?_
               refine pv_ 31 171 ?_
               refine pv_ 32 172 ?_
               refine pv_ 33 173 ?_
               refine pv_ 34 174 ?_
               refine pv_ 35 175 ?_
               refine pu_ 36 176 ?_
               refine pu_ 37 177 ?_
               refine pv_ 38 178 ?_
               refine pv_ 39 179 ?_
               refine pv_ 40 180 ?_
               refine pv_ 41 181 ?_
               refine pu_ 42 182 ?_
               refine pu_ 43 183 ?_
               refine pv_ 44 184 ?_
               refine pv_ 45 185 ?_
               refine pv_ 46 186 ?_
               refine pu_ 47 187 ?_
               refine dn_ ?_
               try go_wp2
               go_meet
               case rel => exact ⟨_, (true), z15_2_, H', ⟨z15_10_⟩, ⟨(rR_ HO_9)⟩, ⟨kP_⟩, ⟨kP_⟩, ⟨kP_⟩, ⟨kP_⟩, ⟨hB_⟩⟩
             rw [if_neg c174] at H
             have c174b0 : (!(((rd_T25 t620 0).f0) == t602) || (!(((rd_T25 t620 0).f1) == t603) || (!(((rd_T25 t620 0).f2) == t604) || (!(((rd_T25 t620 0).f3) == t605) || (!(((rd_T25 t620 0).f4) == t606) || (!(((rd_T25 t620 0).f5) == t607))))))) = false := by simpa using c174
             clear c174
             obtain ⟨ji177, hji177⟩ : ∃ j_ : Int, (wrap64 ((t620.length : Int) - 1)) = j_ := ⟨_, rfl⟩
             replace H : (if 0 ≤ (ji177) then (if (ji177) < (t620.length : Int) then (if (!(((rd_T25 t620 (ji177)).f0) == t608) || (!(((rd_T25 t620 (ji177)).f1) == t609) || (!(((rd_T25 t620 (ji177)).f2) == t610) || (!(((rd_T25 t620 (ji177)).f3) == t611) || (!(((rd_T25 t620 (ji177)).f4) == t612) || (!(((rd_T25 t620 (ji177)).f5) == t613))))))) = true then (laws_FnShapes.j1 kj11 l1 t620 true t602 t603 t604 t605 t606 t607 t628 t629 t630 t631 t632 t633 t636 t637 t638 t639 t640 t641) else (if (t620.length : Int) < t626 then (laws_FnShapes.j1 kj11 l1 t620 true t602 t603 t604 t605 t606 t607 t628 t629 t630 t631 t632 t633 t636 t637 t638 t639 t640 t641) else ((impl_IsShape.f kj11 t628 t629 t630 t631 t632 t633).bind fun t651 => (laws_FnShapes.j1 kj11 l1 t620 (!t651) t602 t603 t604 t605 t606 t607 t628 t629 t630 t631 t632 t633 t636 t637 t638 t639 t640 t641)))) else (none)) else (none)) = some r := by first | (rw [hji177] at H; exact H) | (simp only [hji177] at H ⊢; exact H)
             have hji177w : (IntKind.i64.wrap ((t620.length : Int) - 1)) = ji177 := (i64_w _).trans hji177
             as_aux_lemma =>
              replace H := ig_ H; obtain ⟨c178b0, H⟩ := H
              replace H := ig_ H; obtain ⟨c179b0, H⟩ := H
              by_cases c180 : (!(((rd_T25 t620 (ji177)).f0) == t608) || (!(((rd_T25 t620 (ji177)).f1) == t609) || (!(((rd_T25 t620 (ji177)).f2) == t610) || (!(((rd_T25 t620 (ji177)).f3) == t611) || (!(((rd_T25 t620 (ji177)).f4) == t612) || (!(((rd_T25 t620 (ji177)).f5) == t613))))))) = true
              ·rw [if_pos c180] at H
               have c180b0 : (!(((rd_T25 t620 (ji177)).f0) == t608) || (!(((rd_T25 t620 (ji177)).f1) == t609) || (!(((rd_T25 t620 (ji177)).f2) == t610) || (!(((rd_T25 t620 (ji177)).f3) == t611) || (!(((rd_T25 t620 (ji177)).f4) == t612) || (!(((rd_T25 t620 (ji177)).f5) == t613))))))) = true := c180
               clear c180
               as_aux_lemma =>
                have H' := Aside0.mk H
                clear H
                try go_wp2
                replace HO_9 := aM_ (Kd.R_drew HO_9.out)
                replace BK614 := aM_ (blk_drew BK614.out)
                replace BK615 := aM_ (blk_drew BK615.out)
                replace BK635 := aM_ (blk_drew BK635.out)
                replace BK643 := aM_ (blk_drew BK643.out)
                replace HB := aM_ (below_drew1 HB.out)
                obtain ⟨Ao182, co182, eo182⟩ := Kd.R_slice HO_9.out
                (first | subst eo182 | (injection eo182 with f1_ f2_ f3_; have f4_ := f1_.symm; have f5_ := f3_.symm; clear f1_ f2_ f3_; subst f4_; subst f5_))
                have p649 : 0 ≤ (0 : Int) := (by omega)
                have q649 : 0 < (t620.length : Int) := ode_
                obtain ⟨ad649, e649, hx649_0, hx649_1, hx649_2, hx649_3, hx649_4, hx649_5⟩ := at_T25 (Kd.R_reads' HO_9.out).2.2 0 p649 q649
                cases e649
                have qi649 : (0 < t620.length) = True := eq_true (by omega)
                (try rw [show ((0 : Int)).toNat = 0 from rfl] at hx649_0)
                (try rw [show 0 * 6 = 0 from rfl] at hx649_0)
                (try rw [Addr.add_zero'] at hx649_0)
                (try rw [show ((0 : Int)).toNat = 0 from rfl] at hx649_1)
                (try rw [show 0 * 6 = 0 from rfl] at hx649_1)
                (try rw [Addr.add_zero'] at hx649_1)
                (try rw [show ((0 : Int)).toNat = 0 from rfl] at hx649_2)
                (try rw [show 0 * 6 = 0 from rfl] at hx649_2)
                (try rw [Addr.add_zero'] at hx649_2)
                (try rw [show ((0 : Int)).toNat = 0 from rfl] at hx649_3)
                (try rw [show 0 * 6 = 0 from rfl] at hx649_3)
                (try rw [Addr.add_zero'] at hx649_3)
                (try rw [show ((0 : Int)).toNat = 0 from rfl] at hx649_4)
                (try rw [show 0 * 6 = 0 from rfl] at hx649_4)
                (try rw [Addr.add_zero'] at hx649_4)
                (try rw [show ((0 : Int)).toNat = 0 from rfl] at hx649_5)
                (try rw [show 0 * 6 = 0 from rfl] at hx649_5)
                (try rw [Addr.add_zero'] at hx649_5)
                replace p649 := eq_true p649
                replace q649 := eq_true q649
                have p650 : 0 ≤ ((ji177) : Int) := ode_
                have q650 : (ji177) < (t620.length : Int) := ode_
                obtain ⟨ad650, e650, hx650_0, hx650_1, hx650_2, hx650_3, hx650_4, hx650_5⟩ := at_T25 (Kd.R_reads' HO_9.out).2.2 (ji177) p650 q650
                obtain rfl : ad649 = ad650 := (by injection e650)
                replace p650 := eq_true p650
                replace q650 := eq_true q650
                refine st_ 48 (fun w' => w'.cell? ⟨gb614, 0, none⟩ = some (.int .i64 t602) ∧ w'.cell? ⟨gb614, 1, none⟩ = some (.int .i64 t603) ∧ w'.cell? ⟨gb614, 2, none⟩ = some (.int .i64 t604) ∧ w'.cell? ⟨gb614, 3, none⟩ = some (.int .i64 t605) ∧ w'.cell? ⟨gb614, 4, none⟩ = some (.int .i64 t606) ∧ w'.cell? ⟨gb614, 5, none⟩ = some (.bool t607) ∧ w'.cell? ⟨gb615, 0, none⟩ = some (.int .i64 t608) ∧ w'.cell? ⟨gb615, 1, none⟩ = some (.int .i64 t609) ∧ w'.cell? ⟨gb615, 2, none⟩ = some (.int .i64 t610) ∧ w'.cell? ⟨gb615, 3, none⟩ = some (.int .i64 t611) ∧ w'.cell? ⟨gb615, 4, none⟩ = some (.int .i64 t612) ∧ w'.cell? ⟨gb615, 5, none⟩ = some (.bool t613) ∧ w'.cell? ad649 = some (.int .i64 ((rd_T25 t620 0).f0)) ∧ w'.cell? ⟨ad649.block, ad649.off + 1, none⟩ = some (.int .i64 ((rd_T25 t620 0).f1)) ∧ w'.cell? ⟨ad649.block, ad649.off + 2, none⟩ = some (.int .i64 ((rd_T25 t620 0).f2)) ∧ w'.cell? ⟨ad649.block, ad649.off + 3, none⟩ = some (.int .i64 ((rd_T25 t620 0).f3)) ∧ w'.cell? ⟨ad649.block, ad649.off + 4, none⟩ = some (.int .i64 ((rd_T25 t620 0).f4)) ∧ w'.cell? ⟨ad649.block, ad649.off + 5, none⟩ = some (.bool ((rd_T25 t620 0).f5)) ∧ w'.cell? (ad649.add (((ji177)).toNat * 6)) = some (.int .i64 ((rd_T25 t620 (ji177)).f0)) ∧ w'.cell? ⟨(ad649.add (((ji177)).toNat * 6)).block, (ad649.add (((ji177)).toNat * 6)).off + 1, none⟩ = some (.int .i64 ((rd_T25 t620 (ji177)).f1)) ∧ w'.cell? ⟨(ad649.add (((ji177)).toNat * 6)).block, (ad649.add (((ji177)).toNat * 6)).off + 2, none⟩ = some (.int .i64 ((rd_T25 t620 (ji177)).f2)) ∧ w'.cell? ⟨(ad649.add (((ji177)).toNat * 6)).block, (ad649.add (((ji177)).toNat * 6)).off + 3, none⟩ = some (.int .i64 ((rd_T25 t620 (ji177)).f3)) ∧ w'.cell? ⟨(ad649.add (((ji177)).toNat * 6)).block, (ad649.add (((ji177)).toNat * 6)).off + 4, none⟩ = some (.int .i64 ((rd_T25 t620 (ji177)).f4)) ∧ w'.cell? ⟨(ad649.add (((ji177)).toNat * 6)).block, (ad649.add (((ji177)).toNat * 6)).off + 5, none⟩ = some (.bool ((rd_T25 t620 (ji177)).f5))) [] laws_FnShapes.tab14 laws_FnShapes.bits14 ⟨(blk_cell BK614.out 0).trans rfl, (blk_cell BK614.out 1).trans rfl, (blk_cell BK614.out 2).trans rfl, (blk_cell BK614.out 3).trans rfl, (blk_cell BK614.out 4).trans rfl, (blk_cell BK614.out 5).trans rfl, (blk_cell BK615.out 0).trans rfl, (blk_cell BK615.out 1).trans rfl, (blk_cell BK615.out 2).trans rfl, (blk_cell BK615.out 3).trans rfl, (blk_cell BK615.out 4).trans rfl, (blk_cell BK615.out 5).trans rfl, hx649_0, hx649_1, hx649_2, hx649_3, hx649_4, hx649_5, hx650_0, hx650_1, hx650_2, hx650_3, hx650_4, hx650_5⟩ fun hHeld HT_ HW_ => ?_
                generalize w165.drew = w181 at HO_9 BK614 BK615 BK635 BK643 HB hx649_0 hx649_1 hx649_2 hx649_3 hx649_4 hx649_5 hx650_0 hx650_1 hx650_2 hx650_3 hx650_4 hx650_5 hHeld ⊢
                refine pu_ 0 140 ?_
                refine pu_ 1 141 ?_
                refine pu_ 2 142 ?_
                refine pu_ 3 143 ?_
                refine pu_ 4 144 ?_
                refine pu_ 5 145 ?_
                refine pu_ 6 146 ?_
                refine pu_ 7 147 ?_
                refine pu_ 8 148 ?_
                refine pu_ 9 149 ?_
                refine tk_ 10 150 ?_
                refine tk_ 11 151 ?_
                refine pu_ 12 152 ?_
                refine pu_ 13 153 ?_
                refine pu_ 14 154 ?_
                refine pu_ 15 155 ?_
                refine pu_ 16 156 ?_
                refine pu_ 17 157 ?_
                refine pu_ 18 158 ?_
                refine pu_ 19 159 ?_
                refine pu_ 20 160 ?_
                refine pu_ 21 161 ?_
                refine pu_ 22 162 ?_
                refine tk_ 23 163 ?_
                refine tk_ 24 164 ?_
                refine pu_ 25 165 ?_
                refine pu_ 26 166 ?_
                refine pu_ 27 167 ?_
                refine pu_ 28 168 ?_
                refine pu_ 29 169 ?_
                refine pu_ 30 170 ?_
                refine pu_ 31 171 ?_
                refine pu_ 32 172 ?_
                refine tk_ 33 173 ?_
                refine tk_ 34 174 ?_
                refine pu_ 35 175 ?_
                refine pu_ 36 176 ?_
                refine pu_ 37 177 ?_
                refine pv_ 38 178 ?_
                refine pv_ 39 179 ?_
                refine pv_ 40 180 ?_
                refine pv_ 41 181 ?_
                refine pu_ 42 182 ?_
                refine pu_ 43 183 ?_
                refine pv_ 44 184 ?_
                refine pv_ 45 185 ?_
                refine pv_ 46 186 ?_
                refine pu_ 47 187 ?_
                refine dn_ ?_
                try go_wp2
                go_meet
                case rel => exact ⟨_, (true), z15_2_, H', ⟨z15_10_⟩, ⟨(rR_ HO_9)⟩, ⟨kP_⟩, ⟨kP_⟩, ⟨kP_⟩, ⟨kP_⟩, ⟨hB_⟩⟩
              rw [if_neg c180] at H
              have c180b0 : (!(((rd_T25 t620 (ji177)).f0) == t608) || (!(((rd_T25 t620 (ji177)).f1) == t609) || (!(((rd_T25 t620 (ji177)).f2) == t610) || (!(((rd_T25 t620 (ji177)).f3) == t611) || (!(((rd_T25 t620 (ji177)).f4) == t612) || (!(((rd_T25 t620 (ji177)).f5) == t613))))))) = false := by simpa using c180
              clear c180
              as_aux_lemma =>
               replace H := iT_ H; obtain ⟨c183b0, H⟩ | ⟨c183b0, H⟩ := H
               ·as_aux_lemma =>
                 have H' := Aside0.mk H
                 clear H
                 try go_wp2
                 replace HO_9 := aM_ (Kd.R_drew HO_9.out)
                 replace BK614 := aM_ (blk_drew BK614.out)
                 replace BK615 := aM_ (blk_drew BK615.out)
                 replace BK635 := aM_ (blk_drew BK635.out)
                 replace BK643 := aM_ (blk_drew BK643.out)
                 replace HB := aM_ (below_drew1 HB.out)
                 obtain ⟨Ao185, co185, eo185⟩ := Kd.R_slice HO_9.out
                 (first | subst eo185 | (injection eo185 with f1_ f2_ f3_; have f4_ := f1_.symm; have f5_ := f3_.symm; clear f1_ f2_ f3_; subst f4_; subst f5_))
                 have p649 : 0 ≤ (0 : Int) := (by omega)
                 have q649 : 0 < (t620.length : Int) := ode_
                 obtain ⟨ad649, e649, hx649_0, hx649_1, hx649_2, hx649_3, hx649_4, hx649_5⟩ := at_T25 (Kd.R_reads' HO_9.out).2.2 0 p649 q649
                 cases e649
                 have qi649 : (0 < t620.length) = True := eq_true (by omega)
                 (try rw [show ((0 : Int)).toNat = 0 from rfl] at hx649_0)
                 (try rw [show 0 * 6 = 0 from rfl] at hx649_0)
                 (try rw [Addr.add_zero'] at hx649_0)
                 (try rw [show ((0 : Int)).toNat = 0 from rfl] at hx649_1)
                 (try rw [show 0 * 6 = 0 from rfl] at hx649_1)
                 (try rw [Addr.add_zero'] at hx649_1)
                 (try rw [show ((0 : Int)).toNat = 0 from rfl] at hx649_2)
                 (try rw [show 0 * 6 = 0 from rfl] at hx649_2)
                 (try rw [Addr.add_zero'] at hx649_2)
                 (try rw [show ((0 : Int)).toNat = 0 from rfl] at hx649_3)
                 (try rw [show 0 * 6 = 0 from rfl] at hx649_3)
                 (try rw [Addr.add_zero'] at hx649_3)
                 (try rw [show ((0 : Int)).toNat = 0 from rfl] at hx649_4)
                 (try rw [show 0 * 6 = 0 from rfl] at hx649_4)
                 (try rw [Addr.add_zero'] at hx649_4)
                 (try rw [show ((0 : Int)).toNat = 0 from rfl] at hx649_5)
                 (try rw [show 0 * 6 = 0 from rfl] at hx649_5)
                 (try rw [Addr.add_zero'] at hx649_5)
                 replace p649 := eq_true p649
                 replace q649 := eq_true q649
                 have p650 : 0 ≤ ((ji177) : Int) := ode_
                 have q650 : (ji177) < (t620.length : Int) := ode_
                 obtain ⟨ad650, e650, hx650_0, hx650_1, hx650_2, hx650_3, hx650_4, hx650_5⟩ := at_T25 (Kd.R_reads' HO_9.out).2.2 (ji177) p650 q650
                 obtain rfl : ad649 = ad650 := (by injection e650)
                 replace p650 := eq_true p650
                 replace q650 := eq_true q650
                 refine st_ 48 (fun w' => w'.cell? ⟨gb614, 0, none⟩ = some (.int .i64 t602) ∧ w'.cell? ⟨gb614, 1, none⟩ = some (.int .i64 t603) ∧ w'.cell? ⟨gb614, 2, none⟩ = some (.int .i64 t604) ∧ w'.cell? ⟨gb614, 3, none⟩ = some (.int .i64 t605) ∧ w'.cell? ⟨gb614, 4, none⟩ = some (.int .i64 t606) ∧ w'.cell? ⟨gb614, 5, none⟩ = some (.bool t607) ∧ w'.cell? ⟨gb615, 0, none⟩ = some (.int .i64 t608) ∧ w'.cell? ⟨gb615, 1, none⟩ = some (.int .i64 t609) ∧ w'.cell? ⟨gb615, 2, none⟩ = some (.int .i64 t610) ∧ w'.cell? ⟨gb615, 3, none⟩ = some (.int .i64 t611) ∧ w'.cell? ⟨gb615, 4, none⟩ = some (.int .i64 t612) ∧ w'.cell? ⟨gb615, 5, none⟩ = some (.bool t613) ∧ w'.cell? ad649 = some (.int .i64 ((rd_T25 t620 0).f0)) ∧ w'.cell? ⟨ad649.block, ad649.off + 1, none⟩ = some (.int .i64 ((rd_T25 t620 0).f1)) ∧ w'.cell? ⟨ad649.block, ad649.off + 2, none⟩ = some (.int .i64 ((rd_T25 t620 0).f2)) ∧ w'.cell? ⟨ad649.block, ad649.off + 3, none⟩ = some (.int .i64 ((rd_T25 t620 0).f3)) ∧ w'.cell? ⟨ad649.block, ad649.off + 4, none⟩ = some (.int .i64 ((rd_T25 t620 0).f4)) ∧ w'.cell? ⟨ad649.block, ad649.off + 5, none⟩ = some (.bool ((rd_T25 t620 0).f5)) ∧ w'.cell? (ad649.add (((ji177)).toNat * 6)) = some (.int .i64 ((rd_T25 t620 (ji177)).f0)) ∧ w'.cell? ⟨(ad649.add (((ji177)).toNat * 6)).block, (ad649.add (((ji177)).toNat * 6)).off + 1, none⟩ = some (.int .i64 ((rd_T25 t620 (ji177)).f1)) ∧ w'.cell? ⟨(ad649.add (((ji177)).toNat * 6)).block, (ad649.add (((ji177)).toNat * 6)).off + 2, none⟩ = some (.int .i64 ((rd_T25 t620 (ji177)).f2)) ∧ w'.cell? ⟨(ad649.add (((ji177)).toNat * 6)).block, (ad649.add (((ji177)).toNat * 6)).off + 3, none⟩ = some (.int .i64 ((rd_T25 t620 (ji177)).f3)) ∧ w'.cell? ⟨(ad649.add (((ji177)).toNat * 6)).block, (ad649.add (((ji177)).toNat * 6)).off + 4, none⟩ = some (.int .i64 ((rd_T25 t620 (ji177)).f4)) ∧ w'.cell? ⟨(ad649.add (((ji177)).toNat * 6)).block, (ad649.add (((ji177)).toNat * 6)).off + 5, none⟩ = some (.bool ((rd_T25 t620 (ji177)).f5))) [] laws_FnShapes.tab14 laws_FnShapes.bits14 ⟨(blk_cell BK614.out 0).trans rfl, (blk_cell BK614.out 1).trans rfl, (blk_cell BK614.out 2).trans rfl, (blk_cell BK614.out 3).trans rfl, (blk_cell BK614.out 4).trans rfl, (blk_cell BK614.out 5).trans rfl, (blk_cell BK615.out 0).trans rfl, (blk_cell BK615.out 1).trans rfl, (blk_cell BK615.out 2).trans rfl, (blk_cell BK615.out 3).trans rfl, (blk_cell BK615.out 4).trans rfl, (blk_cell BK615.out 5).trans rfl, hx649_0, hx649_1, hx649_2, hx649_3, hx649_4, hx649_5, hx650_0, hx650_1, hx650_2, hx650_3, hx650_4, hx650_5⟩ fun hHeld HT_ HW_ => ?_
                 generalize w165.drew = w184 at HO_9 BK614 BK615 BK635 BK643 HB hx649_0 hx649_1 hx649_2 hx649_3 hx649_4 hx649_5 hx650_0 hx650_1 hx650_2 hx650_3 hx650_4 hx650_5 hHeld ⊢
                 refine pu_ 0 140 ?_
                 refine pu_ 1 141 ?_
                 refine pu_ 2 142 ?_
                 refine pu_ 3 143 ?_
                 refine pu_ 4 144 ?_
                 refine pu_ 5 145 ?_
                 refine pu_ 6 146 ?_
                 refine pu_ 7 147 ?_
                 refine pu_ 8 148 ?_
                 refine pu_ 9 149 ?_
                 refine tk_ 10 150 ?_
                 refine tk_ 11 151 ?_
                 refine pu_ 12 152 ?_
                 refine pu_ 13 153 ?_
                 refine pu_ 14 154 ?_
                 refine pu_ 15 155 ?_
                 refine pu_ 16 156 ?_
                 refine pu_ 17 157 ?_
                 refine pu_ 18 158 ?_
                 refine pu_ 19 159 ?_
                 refine pu_ 20 160 ?_
                 refine pu_ 21 161 ?_
                 refine pu_ 22 162 ?_
                 refine tk_ 23 163 ?_
                 refine tk_ 24 164 ?_
                 refine pu_ 25 165 ?_
                 refine pu_ 26 166 ?_
                 refine pu_ 27 167 ?_
                 refine pu_ 28 168 ?_
                 refine pu_ 29 169 ?_
                 refine pu_ 30 170 ?_
                 refine pu_ 31 171 ?_
                 refine pu_ 32 172 ?_
                 refine tk_ 33 173 ?_
                 refine tk_ 34 174 ?_
                 refine pu_ 35 175 ?_
                 refine pu_ 36 176 ?_
                 refine pu_ 37 177 ?_
                 refine pu_ 38 178 ?_
                 refine pu_ 39 179 ?_
                 refine pu_ 40 180 ?_
                 refine pu_ 41 181 ?_
                 refine pu_ 42 182 ?_
                 refine pu_ 43 183 ?_
                 refine pv_ 44 184 ?_
                 refine pv_ 45 185 ?_
                 refine pv_ 46 186 ?_
                 refine pu_ 47 187 ?_
                 refine dn_ ?_
                 try go_wp2
                 go_meet
                 case rel => exact ⟨_, (true), z15_2_, H', ⟨z15_10_⟩, ⟨(rR_ HO_9)⟩, ⟨kP_⟩, ⟨kP_⟩, ⟨kP_⟩, ⟨kP_⟩, ⟨hB_⟩⟩
               replace H := ob_ H; obtain ⟨t651, A186, H⟩ := H; try dsimp only at H
               as_aux_lemma =>
                have H' := Aside0.mk H
                clear H
                try go_wp2
                replace HO_9 := aM_ (Kd.R_drew HO_9.out)
                replace BK614 := aM_ (blk_drew BK614.out)
                replace BK615 := aM_ (blk_drew BK615.out)
                replace BK635 := aM_ (blk_drew BK635.out)
                replace BK643 := aM_ (blk_drew BK643.out)
                replace HB := aM_ (below_drew1 HB.out)
                obtain ⟨Ao188, co188, eo188⟩ := Kd.R_slice HO_9.out
                (first | subst eo188 | (injection eo188 with f1_ f2_ f3_; have f4_ := f1_.symm; have f5_ := f3_.symm; clear f1_ f2_ f3_; subst f4_; subst f5_))
                have p649 : 0 ≤ (0 : Int) := (by omega)
                have q649 : 0 < (t620.length : Int) := ode_
                obtain ⟨ad649, e649, hx649_0, hx649_1, hx649_2, hx649_3, hx649_4, hx649_5⟩ := at_T25 (Kd.R_reads' HO_9.out).2.2 0 p649 q649
                cases e649
                have qi649 : (0 < t620.length) = True := eq_true (by omega)
                (try rw [show ((0 : Int)).toNat = 0 from rfl] at hx649_0)
                (try rw [show 0 * 6 = 0 from rfl] at hx649_0)
                (try rw [Addr.add_zero'] at hx649_0)
                (try rw [show ((0 : Int)).toNat = 0 from rfl] at hx649_1)
                (try rw [show 0 * 6 = 0 from rfl] at hx649_1)
                (try rw [Addr.add_zero'] at hx649_1)
                (try rw [show ((0 : Int)).toNat = 0 from rfl] at hx649_2)
                (try rw [show 0 * 6 = 0 from rfl] at hx649_2)
                (try rw [Addr.add_zero'] at hx649_2)
                (try rw [show ((0 : Int)).toNat = 0 from rfl] at hx649_3)
                (try rw [show 0 * 6 = 0 from rfl] at hx649_3)
                (try rw [Addr.add_zero'] at hx649_3)
                (try rw [show ((0 : Int)).toNat = 0 from rfl] at hx649_4)
                (try rw [show 0 * 6 = 0 from rfl] at hx649_4)
                (try rw [Addr.add_zero'] at hx649_4)
                (try rw [show ((0 : Int)).toNat = 0 from rfl] at hx649_5)
                (try rw [show 0 * 6 = 0 from rfl] at hx649_5)
                (try rw [Addr.add_zero'] at hx649_5)
                replace p649 := eq_true p649
                replace q649 := eq_true q649
                have p650 : 0 ≤ ((ji177) : Int) := ode_
                have q650 : (ji177) < (t620.length : Int) := ode_
                obtain ⟨ad650, e650, hx650_0, hx650_1, hx650_2, hx650_3, hx650_4, hx650_5⟩ := at_T25 (Kd.R_reads' HO_9.out).2.2 (ji177) p650 q650
                obtain rfl : ad649 = ad650 := (by injection e650)
                replace p650 := eq_true p650
                replace q650 := eq_true q650
                refine st_ 48 (fun w' => w'.cell? ⟨gb614, 0, none⟩ = some (.int .i64 t602) ∧ w'.cell? ⟨gb614, 1, none⟩ = some (.int .i64 t603) ∧ w'.cell? ⟨gb614, 2, none⟩ = some (.int .i64 t604) ∧ w'.cell? ⟨gb614, 3, none⟩ = some (.int .i64 t605) ∧ w'.cell? ⟨gb614, 4, none⟩ = some (.int .i64 t606) ∧ w'.cell? ⟨gb614, 5, none⟩ = some (.bool t607) ∧ w'.cell? ⟨gb615, 0, none⟩ = some (.int .i64 t608) ∧ w'.cell? ⟨gb615, 1, none⟩ = some (.int .i64 t609) ∧ w'.cell? ⟨gb615, 2, none⟩ = some (.int .i64 t610) ∧ w'.cell? ⟨gb615, 3, none⟩ = some (.int .i64 t611) ∧ w'.cell? ⟨gb615, 4, none⟩ = some (.int .i64 t612) ∧ w'.cell? ⟨gb615, 5, none⟩ = some (.bool t613) ∧ w'.cell? ⟨gb635, 0, none⟩ = some (.int .i64 t628) ∧ w'.cell? ⟨gb635, 1, none⟩ = some (.int .i64 t629) ∧ w'.cell? ⟨gb635, 2, none⟩ = some (.int .i64 t630) ∧ w'.cell? ⟨gb635, 3, none⟩ = some (.int .i64 t631) ∧ w'.cell? ⟨gb635, 4, none⟩ = some (.int .i64 t632) ∧ w'.cell? ⟨gb635, 5, none⟩ = some (.bool t633) ∧ w'.cell? ad649 = some (.int .i64 ((rd_T25 t620 0).f0)) ∧ w'.cell? ⟨ad649.block, ad649.off + 1, none⟩ = some (.int .i64 ((rd_T25 t620 0).f1)) ∧ w'.cell? ⟨ad649.block, ad649.off + 2, none⟩ = some (.int .i64 ((rd_T25 t620 0).f2)) ∧ w'.cell? ⟨ad649.block, ad649.off + 3, none⟩ = some (.int .i64 ((rd_T25 t620 0).f3)) ∧ w'.cell? ⟨ad649.block, ad649.off + 4, none⟩ = some (.int .i64 ((rd_T25 t620 0).f4)) ∧ w'.cell? ⟨ad649.block, ad649.off + 5, none⟩ = some (.bool ((rd_T25 t620 0).f5)) ∧ w'.cell? (ad649.add (((ji177)).toNat * 6)) = some (.int .i64 ((rd_T25 t620 (ji177)).f0)) ∧ w'.cell? ⟨(ad649.add (((ji177)).toNat * 6)).block, (ad649.add (((ji177)).toNat * 6)).off + 1, none⟩ = some (.int .i64 ((rd_T25 t620 (ji177)).f1)) ∧ w'.cell? ⟨(ad649.add (((ji177)).toNat * 6)).block, (ad649.add (((ji177)).toNat * 6)).off + 2, none⟩ = some (.int .i64 ((rd_T25 t620 (ji177)).f2)) ∧ w'.cell? ⟨(ad649.add (((ji177)).toNat * 6)).block, (ad649.add (((ji177)).toNat * 6)).off + 3, none⟩ = some (.int .i64 ((rd_T25 t620 (ji177)).f3)) ∧ w'.cell? ⟨(ad649.add (((ji177)).toNat * 6)).block, (ad649.add (((ji177)).toNat * 6)).off + 4, none⟩ = some (.int .i64 ((rd_T25 t620 (ji177)).f4)) ∧ w'.cell? ⟨(ad649.add (((ji177)).toNat * 6)).block, (ad649.add (((ji177)).toNat * 6)).off + 5, none⟩ = some (.bool ((rd_T25 t620 (ji177)).f5))) [] laws_FnShapes.tab14 laws_FnShapes.bits14 ⟨(blk_cell BK614.out 0).trans rfl, (blk_cell BK614.out 1).trans rfl, (blk_cell BK614.out 2).trans rfl, (blk_cell BK614.out 3).trans rfl, (blk_cell BK614.out 4).trans rfl, (blk_cell BK614.out 5).trans rfl, (blk_cell BK615.out 0).trans rfl, (blk_cell BK615.out 1).trans rfl, (blk_cell BK615.out 2).trans rfl, (blk_cell BK615.out 3).trans rfl, (blk_cell BK615.out 4).trans rfl, (blk_cell BK615.out 5).trans rfl, (blk_cell BK635.out 0).trans rfl, (blk_cell BK635.out 1).trans rfl, (blk_cell BK635.out 2).trans rfl, (blk_cell BK635.out 3).trans rfl, (blk_cell BK635.out 4).trans rfl, (blk_cell BK635.out 5).trans rfl, hx649_0, hx649_1, hx649_2, hx649_3, hx649_4, hx649_5, hx650_0, hx650_1, hx650_2, hx650_3, hx650_4, hx650_5⟩ fun hHeld HT_ HW_ => ?_
                generalize w165.drew = w187 at HO_9 BK614 BK615 BK635 BK643 HB hx649_0 hx649_1 hx649_2 hx649_3 hx649_4 hx649_5 hx650_0 hx650_1 hx650_2 hx650_3 hx650_4 hx650_5 hHeld ⊢
                refine pu_ 0 140 ?_
                refine pu_ 1 141 ?_
                refine pu_ 2 142 ?_
                refine pu_ 3 143 ?_
                refine pu_ 4 144 ?_
                refine pu_ 5 145 ?_
                refine pu_ 6 146 ?_
                refine pu_ 7 147 ?_
                refine pu_ 8 148 ?_
                refine pu_ 9 149 ?_
                refine tk_ 10 150 ?_
                refine tk_ 11 151 ?_
                refine pu_ 12 152 ?_
                refine pu_ 13 153 ?_
                refine pu_ 14 154 ?_
                refine pu_ 15 155 ?_
                refine pu_ 16 156 ?_
                refine pu_ 17 157 ?_
                refine pu_ 18 158 ?_
                refine pu_ 19 159 ?_
                refine pu_ 20 160 ?_
                refine pu_ 21 161 ?_
                refine pu_ 22 162 ?_
                refine tk_ 23 163 ?_
                refine tk_ 24 164 ?_
                refine pu_ 25 165 ?_
                refine pu_ 26 166 ?_
                refine pu_ 27 167 ?_
                refine pu_ 28 168 ?_
                refine pu_ 29 169 ?_
                refine pu_ 30 170 ?_
                refine pu_ 31 171 ?_
                refine pu_ 32 172 ?_
                refine tk_ 33 173 ?_
                refine tk_ 34 174 ?_
                refine pu_ 35 175 ?_
                refine pu_ 36 176 ?_
                refine pu_ 37 177 ?_
                refine pu_ 38 178 ?_
                refine pu_ 39 179 ?_
                refine pu_ 40 180 ?_
                refine pu_ 41 181 ?_
                refine pu_ 42 182 ?_
                refine pu_ 43 183 ?_
                refine tk_ 44 184 ?_
                refine on_ 45 185 fun K hK => ?_
                refine gS_ Tryd.func13 #[.agg #[.int .i64 t628, .int .i64 t629, .int .i64 t630, .int .i64 t631, .int .i64 t632, .bool t633]] ?_
                with_reducible refine (impl_IsShape.calls kj11 t628 t629 t630 t631 t632 t633 t651 _ A186.out).mono ?_
                rintro e w189 ⟨rfl, hb⟩
                have HS18_ := (hb.cell (World.block_lt_of_cell? _ _ (hHeld.2.2.2.2.2.2.2.2.2.2.2.2.2.2.2.2.2.2.1))).trans (hHeld.2.2.2.2.2.2.2.2.2.2.2.2.2.2.2.2.2.2.1)
                have HS19_ := (hb.cell (World.block_lt_of_cell? _ _ (hHeld.2.2.2.2.2.2.2.2.2.2.2.2.2.2.2.2.2.2.2.1))).trans (hHeld.2.2.2.2.2.2.2.2.2.2.2.2.2.2.2.2.2.2.2.1)
                have HS20_ := (hb.cell (World.block_lt_of_cell? _ _ (hHeld.2.2.2.2.2.2.2.2.2.2.2.2.2.2.2.2.2.2.2.2.1))).trans (hHeld.2.2.2.2.2.2.2.2.2.2.2.2.2.2.2.2.2.2.2.2.1)
                have HS21_ := (hb.cell (World.block_lt_of_cell? _ _ (hHeld.2.2.2.2.2.2.2.2.2.2.2.2.2.2.2.2.2.2.2.2.2.1))).trans (hHeld.2.2.2.2.2.2.2.2.2.2.2.2.2.2.2.2.2.2.2.2.2.1)
                have HS22_ := (hb.cell (World.block_lt_of_cell? _ _ (hHeld.2.2.2.2.2.2.2.2.2.2.2.2.2.2.2.2.2.2.2.2.2.2.1))).trans (hHeld.2.2.2.2.2.2.2.2.2.2.2.2.2.2.2.2.2.2.2.2.2.2.1)
                have HS23_ := (hb.cell (World.block_lt_of_cell? _ _ (hHeld.2.2.2.2.2.2.2.2.2.2.2.2.2.2.2.2.2.2.2.2.2.2.2.1))).trans (hHeld.2.2.2.2.2.2.2.2.2.2.2.2.2.2.2.2.2.2.2.2.2.2.2.1)
                have HS24_ := (hb.cell (World.block_lt_of_cell? _ _ (hHeld.2.2.2.2.2.2.2.2.2.2.2.2.2.2.2.2.2.2.2.2.2.2.2.2.1))).trans (hHeld.2.2.2.2.2.2.2.2.2.2.2.2.2.2.2.2.2.2.2.2.2.2.2.2.1)
                have HS25_ := (hb.cell (World.block_lt_of_cell? _ _ (hHeld.2.2.2.2.2.2.2.2.2.2.2.2.2.2.2.2.2.2.2.2.2.2.2.2.2.1))).trans (hHeld.2.2.2.2.2.2.2.2.2.2.2.2.2.2.2.2.2.2.2.2.2.2.2.2.2.1)
                have HS26_ := (hb.cell (World.block_lt_of_cell? _ _ (hHeld.2.2.2.2.2.2.2.2.2.2.2.2.2.2.2.2.2.2.2.2.2.2.2.2.2.2.1))).trans (hHeld.2.2.2.2.2.2.2.2.2.2.2.2.2.2.2.2.2.2.2.2.2.2.2.2.2.2.1)
                have HS27_ := (hb.cell (World.block_lt_of_cell? _ _ (hHeld.2.2.2.2.2.2.2.2.2.2.2.2.2.2.2.2.2.2.2.2.2.2.2.2.2.2.2.1))).trans (hHeld.2.2.2.2.2.2.2.2.2.2.2.2.2.2.2.2.2.2.2.2.2.2.2.2.2.2.2.1)
                have HS28_ := (hb.cell (World.block_lt_of_cell? _ _ (hHeld.2.2.2.2.2.2.2.2.2.2.2.2.2.2.2.2.2.2.2.2.2.2.2.2.2.2.2.2.1))).trans (hHeld.2.2.2.2.2.2.2.2.2.2.2.2.2.2.2.2.2.2.2.2.2.2.2.2.2.2.2.2.1)
                have HS29_ := (hb.cell (World.block_lt_of_cell? _ _ (hHeld.2.2.2.2.2.2.2.2.2.2.2.2.2.2.2.2.2.2.2.2.2.2.2.2.2.2.2.2.2))).trans (hHeld.2.2.2.2.2.2.2.2.2.2.2.2.2.2.2.2.2.2.2.2.2.2.2.2.2.2.2.2.2)
                refine ⟨_, rfl, ?_⟩
                replace HO_9 := aM_ (Kd.R_below (rR_ HO_9) hb)
                replace BK614 := aM_ (blk_below (g := gb614) (kR_ BK614) hb)
                replace BK615 := aM_ (blk_below (g := gb615) (kR_ BK615) hb)
                replace BK635 := aM_ (blk_below (g := gb635) (kR_ BK635) hb)
                replace BK643 := aM_ (blk_below (g := gb643) (kR_ BK643) hb)
                replace HB := aM_ (below_step hB_ hb)
                (try clear hb)
                (try clear hb2)
                (try clear hk)
                (try clear hi)
                refine hK.out _ _ ⟨(blk_cell BK614.out 0).trans rfl, (blk_cell BK614.out 1).trans rfl, (blk_cell BK614.out 2).trans rfl, (blk_cell BK614.out 3).trans rfl, (blk_cell BK614.out 4).trans rfl, (blk_cell BK614.out 5).trans rfl, (blk_cell BK615.out 0).trans rfl, (blk_cell BK615.out 1).trans rfl, (blk_cell BK615.out 2).trans rfl, (blk_cell BK615.out 3).trans rfl, (blk_cell BK615.out 4).trans rfl, (blk_cell BK615.out 5).trans rfl, (blk_cell BK635.out 0).trans rfl, (blk_cell BK635.out 1).trans rfl, (blk_cell BK635.out 2).trans rfl, (blk_cell BK635.out 3).trans rfl, (blk_cell BK635.out 4).trans rfl, (blk_cell BK635.out 5).trans rfl, HS18_, HS19_, HS20_, HS21_, HS22_, HS23_, HS24_, HS25_, HS26_, HS27_, HS28_, HS29_⟩ (fun hHeld => ?_)
                clear hK K
                refine nm_ 185 ?_
                refine pu_ 46 186 ?_
                refine pu_ 47 187 ?_
                refine dn_ ?_
                try go_wp2
                go_meet
                case rel => exact ⟨_, (!t651), z15_2_, H', ⟨z15_10_⟩, ⟨(rR_ HO_9)⟩, ⟨kP_⟩, ⟨kP_⟩, ⟨kP_⟩, ⟨kP_⟩, ⟨hB_⟩⟩
       case rest =>
        as_aux_lemma =>
         clear HC157
         (try clear c1)
         obtain ⟨kq, x187_156, rfl, HA, HJ156, HO_9, BK614, BK615, BK635, BK643, HB⟩ := hcut
         cases kq with
         | zero => exact absurd HA.out (by simp [laws_FnShapes.j1])
         | succ kj156 =>
          as_aux_lemma =>
           have H := HA.out
           clear HA
           simp only [laws_FnShapes.j1] at H
           by_cases c192 : x187_156 = true
           ·subst c192
            replace H := ip_ H rfl
            as_aux_lemma =>
             obtain rfl := Option.some.inj H
             go_wp2
             go_ret
             exact ⟨rT_, hB_⟩
           replace c192 := Bool.eq_false_iff.mpr c192
           subst c192
           replace H := in_ H (show ¬ (false = true) by decide)
           have H' := Aside0.mk H
           clear H
           go_wp2
           go_loopg [21] kj156 (fun kq v21 w' => ∃ (x21_3 : Int), v21 = .int .i64 x21_3 ∧ Aside0 (laws_FnShapes.l0 kq l1 t620 x21_3 t602 t603 t604 t605 t606 t607 t628 t629 t630 t631 t632 t633 t636 t637 t638 t639 t640 t641 = some r) ∧ Aside0 (kq ≤ kj156) ∧ Aside0 (Kd.R k25 25 w' w.heap.size (fun k_ => k_ ≠ gb614 ∧ k_ ≠ gb615 ∧ k_ ≠ gb635 ∧ k_ ≠ gb643) v621 t620) ∧ Aside0 (w'.heap[gb614]? = some (.cells #[.int .i64 t602, .int .i64 t603, .int .i64 t604, .int .i64 t605, .int .i64 t606, .bool t607] 25 (0, 0))) ∧ Aside0 (w'.heap[gb615]? = some (.cells #[.int .i64 t608, .int .i64 t609, .int .i64 t610, .int .i64 t611, .int .i64 t612, .bool t613] 25 (0, 0))) ∧ Aside0 (w'.heap[gb635]? = some (.cells #[.int .i64 t628, .int .i64 t629, .int .i64 t630, .int .i64 t631, .int .i64 t632, .bool t633] 25 (0, 0))) ∧ Aside0 (w'.heap[gb643]? = some (.cells #[.int .i64 t636, .int .i64 t637, .int .i64 t638, .int .i64 t639, .int .i64 t640, .bool t641] 25 (0, 0))) ∧ Aside0 (Below w.heap.size w w'))
           case atStart => exact ⟨(1), z15_2_, H', ⟨Nat.le_refl _⟩, ⟨(rR_ HO_9)⟩, ⟨kP_⟩, ⟨kP_⟩, ⟨kP_⟩, ⟨kP_⟩, ⟨hB_⟩⟩
           case round =>
            as_aux_lemma =>
             clear H'
             (try clear c1);(try clear c192)
             obtain ⟨x21_3, rfl, HA, HK3, HO_9, BK614, BK615, BK635, BK643, HB⟩ := hrel
             cases gk with
             | zero => exact absurd HA.out (by simp [laws_FnShapes.l0])
             | succ k3 =>
              as_aux_lemma =>
               have H := HA.out
               clear HA
               simp only [laws_FnShapes.l0] at H
               replace H := iF_ H; obtain ⟨c193b0, H⟩ | ⟨c193b0, H⟩ := H
               ·replace H := ob_ H; obtain ⟨⟨t660, t661⟩, A220, H⟩ := H; try dsimp only at H
                replace H := ob_ H; obtain ⟨⟨t662, t663⟩, A221, H⟩ := H; try dsimp only at H
                by_cases c222 : t661 = true
                rotate_left
                ·replace c222 := Bool.eq_false_iff.mpr c222
                 subst c222
                 replace H := in_ H (show ¬ (false = true) by decide)
                 as_aux_lemma =>
                  obtain rfl := Option.some.inj H
                  obtain ⟨Ao264, co264, eo264⟩ := Kd.R_slice HO_9.out
                  subst eo264
                  have hnb265 := NB614_615.out
                  have hnc265 := NB615_614.out
                  have hnb266 := NB614_635.out
                  have hnc266 := NB635_614.out
                  have hnb267 := NB614_643.out
                  have hnc267 := NB643_614.out
                  have hz268 := cf6_ BK614.out
                  have hnb269 := NB635_615.out
                  have hnc269 := NB615_635.out
                  have hnb270 := NB635_643.out
                  have hnc270 := NB643_635.out
                  have hz271 := cf6_ BK635.out
                  go_wp2_with (first | ((with_reducible refine gC_ 8 ?_); refine gM_ (some 234) Tryd.func8 #[.agg #[.int .i64 t602, .int .i64 t603, .int .i64 t604, .int .i64 t605, .int .i64 t606, .bool t607], .agg #[.int .i64 t628, .int .i64 t629, .int .i64 t630, .int .i64 t631, .int .i64 t632, .bool t633]] ?_; (with_reducible refine (impl_ShapeDistance.calls k3 t602 t603 t604 t605 t606 t607 t628 t629 t630 t631 t632 t633 t660 false _ A220.out).mono ?_); rintro e w272 ⟨rfl, hb⟩; refine ⟨_, rfl, ?_⟩; replace HO_9 := aM_ (Kd.R_below (rR_ HO_9) hb); replace BK614 := aM_ (blk_below (g := gb614) (kR_ BK614) hb); replace BK615 := aM_ (blk_below (g := gb615) (kR_ BK615) hb); replace BK635 := aM_ (blk_below (g := gb635) (kR_ BK635) hb); replace BK643 := aM_ (blk_below (g := gb643) (kR_ BK643) hb); replace HB := aM_ (below_step hB_ hb); (try clear hb); have hz273 := cf6_ BK614.out; have hnb274 := NB643_615.out; have hnc274 := NB615_643.out; have hz275 := cf6_ BK643.out) | ((with_reducible refine gC_ 9 ?_); refine gM_ (some 240) Tryd.func9 #[.agg #[.int .i64 t602, .int .i64 t603, .int .i64 t604, .int .i64 t605, .int .i64 t606, .bool t607], .agg #[.int .i64 t636, .int .i64 t637, .int .i64 t638, .int .i64 t639, .int .i64 t640, .bool t641]] ?_; (with_reducible refine (spec_ShapeDistance.calls k3 t602 t603 t604 t605 t606 t607 t636 t637 t638 t639 t640 t641 t662 t663 _ A221.out).mono ?_); rintro e w276 ⟨rfl, hb⟩; refine ⟨_, rfl, ?_⟩; replace HO_9 := aM_ (Kd.R_below (rR_ HO_9) hb); replace BK614 := aM_ (blk_below (g := gb614) (kR_ BK614) hb); replace BK615 := aM_ (blk_below (g := gb615) (kR_ BK615) hb); replace BK635 := aM_ (blk_below (g := gb635) (kR_ BK635) hb); replace BK643 := aM_ (blk_below (g := gb643) (kR_ BK643) hb); replace HB := aM_ (below_step hB_ hb); (try clear hb)))
                  go_ret
                  exact ⟨rT_, hB_⟩
                subst c222
                replace H := ip_ H rfl
                by_cases c223 : t663 = true
                rotate_left
                ·replace c223 := Bool.eq_false_iff.mpr c223
                 subst c223
                 replace H := in_ H (show ¬ (false = true) by decide)
                 as_aux_lemma =>
                  obtain rfl := Option.some.inj H
                  obtain ⟨Ao251, co251, eo251⟩ := Kd.R_slice HO_9.out
                  subst eo251
                  have hnb252 := NB614_615.out
                  have hnc252 := NB615_614.out
                  have hnb253 := NB614_635.out
                  have hnc253 := NB635_614.out
                  have hnb254 := NB614_643.out
                  have hnc254 := NB643_614.out
                  have hz255 := cf6_ BK614.out
                  have hnb256 := NB635_615.out
                  have hnc256 := NB615_635.out
                  have hnb257 := NB635_643.out
                  have hnc257 := NB643_635.out
                  have hz258 := cf6_ BK635.out
                  go_wp2_with (first | ((with_reducible refine gC_ 8 ?_); refine gM_ (some 234) Tryd.func8 #[.agg #[.int .i64 t602, .int .i64 t603, .int .i64 t604, .int .i64 t605, .int .i64 t606, .bool t607], .agg #[.int .i64 t628, .int .i64 t629, .int .i64 t630, .int .i64 t631, .int .i64 t632, .bool t633]] ?_; (with_reducible refine (impl_ShapeDistance.calls k3 t602 t603 t604 t605 t606 t607 t628 t629 t630 t631 t632 t633 t660 true _ A220.out).mono ?_); rintro e w259 ⟨rfl, hb⟩; refine ⟨_, rfl, ?_⟩; replace HO_9 := aM_ (Kd.R_below (rR_ HO_9) hb); replace BK614 := aM_ (blk_below (g := gb614) (kR_ BK614) hb); replace BK615 := aM_ (blk_below (g := gb615) (kR_ BK615) hb); replace BK635 := aM_ (blk_below (g := gb635) (kR_ BK635) hb); replace BK643 := aM_ (blk_below (g := gb643) (kR_ BK643) hb); replace HB := aM_ (below_step hB_ hb); (try clear hb); have hz260 := cf6_ BK614.out; have hnb261 := NB643_615.out; have hnc261 := NB615_643.out; have hz262 := cf6_ BK643.out) | ((with_reducible refine gC_ 9 ?_); refine gM_ (some 240) Tryd.func9 #[.agg #[.int .i64 t602, .int .i64 t603, .int .i64 t604, .int .i64 t605, .int .i64 t606, .bool t607], .agg #[.int .i64 t636, .int .i64 t637, .int .i64 t638, .int .i64 t639, .int .i64 t640, .bool t641]] ?_; (with_reducible refine (spec_ShapeDistance.calls k3 t602 t603 t604 t605 t606 t607 t636 t637 t638 t639 t640 t641 t662 false _ A221.out).mono ?_); rintro e w263 ⟨rfl, hb⟩; refine ⟨_, rfl, ?_⟩; replace HO_9 := aM_ (Kd.R_below (rR_ HO_9) hb); replace BK614 := aM_ (blk_below (g := gb614) (kR_ BK614) hb); replace BK615 := aM_ (blk_below (g := gb615) (kR_ BK615) hb); replace BK635 := aM_ (blk_below (g := gb635) (kR_ BK635) hb); replace BK643 := aM_ (blk_below (g := gb643) (kR_ BK643) hb); replace HB := aM_ (below_step hB_ hb); (try clear hb)))
                  go_ret
                  exact ⟨rT_, hB_⟩
                subst c223
                replace H := ip_ H rfl
                by_cases c224 : t660 = t662
                rotate_left
                ·rw [if_neg c224] at H
                 have c224b0 : (t660 == t662) = false := beq_eq_false_iff_ne.mpr c224
                 have c224b1 : (t660 != t662) = true := bne_iff_ne.mpr c224
                 as_aux_lemma =>
                  obtain rfl := Option.some.inj H
                  obtain ⟨Ao238, co238, eo238⟩ := Kd.R_slice HO_9.out
                  subst eo238
                  have hnb239 := NB614_615.out
                  have hnc239 := NB615_614.out
                  have hnb240 := NB614_635.out
                  have hnc240 := NB635_614.out
                  have hnb241 := NB614_643.out
                  have hnc241 := NB643_614.out
                  have hz242 := cf6_ BK614.out
                  have hnb243 := NB635_615.out
                  have hnc243 := NB615_635.out
                  have hnb244 := NB635_643.out
                  have hnc244 := NB643_635.out
                  have hz245 := cf6_ BK635.out
                  go_wp2_with (first | ((with_reducible refine gC_ 8 ?_); refine gM_ (some 234) Tryd.func8 #[.agg #[.int .i64 t602, .int .i64 t603, .int .i64 t604, .int .i64 t605, .int .i64 t606, .bool t607], .agg #[.int .i64 t628, .int .i64 t629, .int .i64 t630, .int .i64 t631, .int .i64 t632, .bool t633]] ?_; (with_reducible refine (impl_ShapeDistance.calls k3 t602 t603 t604 t605 t606 t607 t628 t629 t630 t631 t632 t633 t660 true _ A220.out).mono ?_); rintro e w246 ⟨rfl, hb⟩; refine ⟨_, rfl, ?_⟩; replace HO_9 := aM_ (Kd.R_below (rR_ HO_9) hb); replace BK614 := aM_ (blk_below (g := gb614) (kR_ BK614) hb); replace BK615 := aM_ (blk_below (g := gb615) (kR_ BK615) hb); replace BK635 := aM_ (blk_below (g := gb635) (kR_ BK635) hb); replace BK643 := aM_ (blk_below (g := gb643) (kR_ BK643) hb); replace HB := aM_ (below_step hB_ hb); (try clear hb); have hz247 := cf6_ BK614.out; have hnb248 := NB643_615.out; have hnc248 := NB615_643.out; have hz249 := cf6_ BK643.out) | ((with_reducible refine gC_ 9 ?_); refine gM_ (some 240) Tryd.func9 #[.agg #[.int .i64 t602, .int .i64 t603, .int .i64 t604, .int .i64 t605, .int .i64 t606, .bool t607], .agg #[.int .i64 t636, .int .i64 t637, .int .i64 t638, .int .i64 t639, .int .i64 t640, .bool t641]] ?_; (with_reducible refine (spec_ShapeDistance.calls k3 t602 t603 t604 t605 t606 t607 t636 t637 t638 t639 t640 t641 t662 true _ A221.out).mono ?_); rintro e w250 ⟨rfl, hb⟩; refine ⟨_, rfl, ?_⟩; replace HO_9 := aM_ (Kd.R_below (rR_ HO_9) hb); replace BK614 := aM_ (blk_below (g := gb614) (kR_ BK614) hb); replace BK615 := aM_ (blk_below (g := gb615) (kR_ BK615) hb); replace BK635 := aM_ (blk_below (g := gb635) (kR_ BK635) hb); replace BK643 := aM_ (blk_below (g := gb643) (kR_ BK643) hb); replace HB := aM_ (below_step hB_ hb); (try clear hb)))
                  go_ret
                  exact ⟨rT_, hB_⟩
                rw [if_pos c224] at H
                have c224b0 : (t660 == t662) = true := beq_iff_eq.mpr c224
                have c224b1 : (t660 != t662) = false := bne_eq_false_iff_eq.mpr c224
                clear c224
                as_aux_lemma =>
                 have H' := Aside0.mk H
                 clear H
                 obtain ⟨Ao225, co225, eo225⟩ := Kd.R_slice HO_9.out
                 subst eo225
                 have hnb226 := NB614_615.out
                 have hnc226 := NB615_614.out
                 have hnb227 := NB614_635.out
                 have hnc227 := NB635_614.out
                 have hnb228 := NB614_643.out
                 have hnc228 := NB643_614.out
                 have hz229 := cf6_ BK614.out
                 have hnb230 := NB635_615.out
                 have hnc230 := NB615_635.out
                 have hnb231 := NB635_643.out
                 have hnc231 := NB643_635.out
                 have hz232 := cf6_ BK635.out
                 go_wp2_with (first | ((with_reducible refine gC_ 8 ?_); refine gM_ (some 234) Tryd.func8 #[.agg #[.int .i64 t602, .int .i64 t603, .int .i64 t604, .int .i64 t605, .int .i64 t606, .bool t607], .agg #[.int .i64 t628, .int .i64 t629, .int .i64 t630, .int .i64 t631, .int .i64 t632, .bool t633]] ?_; (with_reducible refine (impl_ShapeDistance.calls k3 t602 t603 t604 t605 t606 t607 t628 t629 t630 t631 t632 t633 t660 true _ A220.out).mono ?_); rintro e w233 ⟨rfl, hb⟩; refine ⟨_, rfl, ?_⟩; replace HO_9 := aM_ (Kd.R_below (rR_ HO_9) hb); replace BK614 := aM_ (blk_below (g := gb614) (kR_ BK614) hb); replace BK615 := aM_ (blk_below (g := gb615) (kR_ BK615) hb); replace BK635 := aM_ (blk_below (g := gb635) (kR_ BK635) hb); replace BK643 := aM_ (blk_below (g := gb643) (kR_ BK643) hb); replace HB := aM_ (below_step hB_ hb); (try clear hb); have hz234 := cf6_ BK614.out; have hnb235 := NB643_615.out; have hnc235 := NB615_643.out; have hz236 := cf6_ BK643.out) | ((with_reducible refine gC_ 9 ?_); refine gM_ (some 240) Tryd.func9 #[.agg #[.int .i64 t602, .int .i64 t603, .int .i64 t604, .int .i64 t605, .int .i64 t606, .bool t607], .agg #[.int .i64 t636, .int .i64 t637, .int .i64 t638, .int .i64 t639, .int .i64 t640, .bool t641]] ?_; (with_reducible refine (spec_ShapeDistance.calls k3 t602 t603 t604 t605 t606 t607 t636 t637 t638 t639 t640 t641 t662 true _ A221.out).mono ?_); rintro e w237 ⟨rfl, hb⟩; refine ⟨_, rfl, ?_⟩; replace HO_9 := aM_ (Kd.R_below (rR_ HO_9) hb); replace BK614 := aM_ (blk_below (g := gb614) (kR_ BK614) hb); replace BK615 := aM_ (blk_below (g := gb615) (kR_ BK615) hb); replace BK635 := aM_ (blk_below (g := gb635) (kR_ BK635) hb); replace BK643 := aM_ (blk_below (g := gb643) (kR_ BK643) hb); replace HB := aM_ (below_step hB_ hb); (try clear hb)))
                 go_meet
                 case rel => exact ⟨_, H', ⟨z15_11_⟩, ⟨hB_⟩⟩
               have HC194 := Aside0.mk H
               clear H
               obtain ⟨Ao195, co195, eo195⟩ := Kd.R_slice HO_9.out
               subst eo195
               go_upto_region 19 with (fail)
               go_cut [211] (fun v211 wc => ∃ (kq : Nat) (x211_193 : Bool), v211 = .bool x211_193 ∧ Aside0 (laws_FnShapes.j3 kq l1 t620 x21_3 x211_193 t602 t603 t604 t605 t606 t607 t628 t629 t630 t631 t632 t633 t636 t637 t638 t639 t640 t641 = some r) ∧ Aside0 (kq ≤ k3) ∧ Aside0 (Kd.R k25 25 wc w.heap.size (fun k_ => k_ ≠ gb614 ∧ k_ ≠ gb615 ∧ k_ ≠ gb635 ∧ k_ ≠ gb643) (.slice Ao195 t620.length co195) t620) ∧ Aside0 (wc.heap[gb614]? = some (.cells #[.int .i64 t602, .int .i64 t603, .int .i64 t604, .int .i64 t605, .int .i64 t606, .bool t607] 25 (0, 0))) ∧ Aside0 (wc.heap[gb615]? = some (.cells #[.int .i64 t608, .int .i64 t609, .int .i64 t610, .int .i64 t611, .int .i64 t612, .bool t613] 25 (0, 0))) ∧ Aside0 (wc.heap[gb635]? = some (.cells #[.int .i64 t628, .int .i64 t629, .int .i64 t630, .int .i64 t631, .int .i64 t632, .bool t633] 25 (0, 0))) ∧ Aside0 (wc.heap[gb643]? = some (.cells #[.int .i64 t636, .int .i64 t637, .int .i64 t638, .int .i64 t639, .int .i64 t640, .bool t641] 25 (0, 0))) ∧ Aside0 (Below w.heap.size w wc))
               case first =>
                as_aux_lemma =>
                 have H := HC194.out
                 clear HC194
                 replace H := ig_ H; obtain ⟨c196b0, H⟩ := H
                 (first | rw [c196b0] | (simp only [i64_w, i32_w]; rw [c196b0]) | skip)
                 obtain ⟨ji197, hji197⟩ : ∃ j_ : Int, (wrap64 (x21_3 - 1)) = j_ := ⟨_, rfl⟩
                 replace H : (if 0 ≤ (ji197) then (if (ji197) < (t620.length : Int) then (if (((rd_T25 t620 x21_3).f0) == ((rd_T25 t620 (ji197)).f0) && (((rd_T25 t620 x21_3).f1) == ((rd_T25 t620 (ji197)).f1) && (((rd_T25 t620 x21_3).f2) == ((rd_T25 t620 (ji197)).f2) && (((rd_T25 t620 x21_3).f3) == ((rd_T25 t620 (ji197)).f3) && (((rd_T25 t620 x21_3).f4) == ((rd_T25 t620 (ji197)).f4) && (((rd_T25 t620 x21_3).f5) == ((rd_T25 t620 (ji197)).f5))))))) = true then (laws_FnShapes.j3 k3 l1 t620 x21_3 true t602 t603 t604 t605 t606 t607 t628 t629 t630 t631 t632 t633 t636 t637 t638 t639 t640 t641) else ((impl_IsShape.f k3 ((rd_T25 t620 x21_3).f0) ((rd_T25 t620 x21_3).f1) ((rd_T25 t620 x21_3).f2) ((rd_T25 t620 x21_3).f3) ((rd_T25 t620 x21_3).f4) ((rd_T25 t620 x21_3).f5)).bind fun t655 => (laws_FnShapes.j3 k3 l1 t620 x21_3 (!t655) t602 t603 t604 t605 t606 t607 t628 t629 t630 t631 t632 t633 t636 t637 t638 t639 t640 t641))) else (none)) else (none)) = some r := by first | (rw [hji197] at H; exact H) | (simp only [hji197] at H ⊢; exact H)
                 have hji197w : (IntKind.i64.wrap (x21_3 - 1)) = ji197 := (i64_w _).trans hji197
                 replace H := ig_ H; obtain ⟨c198b0, H⟩ := H
                 replace H := ig_ H; obtain ⟨c199b0, H⟩ := H
                 by_cases c200 : (((rd_T25 t620 x21_3).f0) == ((rd_T25 t620 (ji197)).f0) && (((rd_T25 t620 x21_3).f1) == ((rd_T25 t620 (ji197)).f1) && (((rd_T25 t620 x21_3).f2) == ((rd_T25 t620 (ji197)).f2) && (((rd_T25 t620 x21_3).f3) == ((rd_T25 t620 (ji197)).f3) && (((rd_T25 t620 x21_3).f4) == ((rd_T25 t620 (ji197)).f4) && (((rd_T25 t620 x21_3).f5) == ((rd_T25 t620 (ji197)).f5))))))) = true
                 ·rw [if_pos c200] at H
                  have c200b0 : (((rd_T25 t620 x21_3).f0) == ((rd_T25 t620 (ji197)).f0) && (((rd_T25 t620 x21_3).f1) == ((rd_T25 t620 (ji197)).f1) && (((rd_T25 t620 x21_3).f2) == ((rd_T25 t620 (ji197)).f2) && (((rd_T25 t620 x21_3).f3) == ((rd_T25 t620 (ji197)).f3) && (((rd_T25 t620 x21_3).f4) == ((rd_T25 t620 (ji197)).f4) && (((rd_T25 t620 x21_3).f5) == ((rd_T25 t620 (ji197)).f5))))))) = true := c200
                  (try (have c200b1 : decide (((rd_T25 t620 x21_3).f0) = ((rd_T25 t620 (ji197)).f0) && (((rd_T25 t620 x21_3).f1) == ((rd_T25 t620 (ji197)).f1) && (((rd_T25 t620 x21_3).f2) == ((rd_T25 t620 (ji197)).f2) && (((rd_T25 t620 x21_3).f3) == ((rd_T25 t620 (ji197)).f3) && (((rd_T25 t620 x21_3).f4) == ((rd_T25 t620 (ji197)).f4) && (((rd_T25 t620 x21_3).f5) == ((rd_T25 t620 (ji197)).f5))))))) = true := by simpa using c200))
                  (try (have c200b2 : (((rd_T25 t620 x21_3).f0) == ((rd_T25 t620 (ji197)).f0) && (((rd_T25 t620 x21_3).f1) == ((rd_T25 t620 (ji197)).f1) && (((rd_T25 t620 x21_3).f2) == ((rd_T25 t620 (ji197)).f2) && (((rd_T25 t620 x21_3).f3) == ((rd_T25 t620 (ji197)).f3) && (((rd_T25 t620 x21_3).f4) == ((rd_T25 t620 (ji197)).f4) && (((rd_T25 t620 x21_3).f5) == ((rd_T25 t620 (ji197)).f5))))))) = true := by simpa using c200))
                  clear c200
                  as_aux_lemma =>
                   have H' := Aside0.mk H
                   clear H
                   try go_wp2
                   replace HO_9 := aM_ (Kd.R_drew HO_9.out)
                   replace BK614 := aM_ (blk_drew BK614.out)
                   replace BK615 := aM_ (blk_drew BK615.out)
                   replace BK635 := aM_ (blk_drew BK635.out)
                   replace BK643 := aM_ (blk_drew BK643.out)
                   replace HB := aM_ (below_drew1 HB.out)
                   obtain ⟨⟨ad652, e652, hx652_0, hx652_1, hx652_2, hx652_3, hx652_4, hx652_5⟩, p652, q652⟩ := at2_ (at_T25 (Kd.R_reads' HO_9.out).2.2 x21_3); cases e652
                   have p653 : 0 ≤ ((ji197) : Int) := ode_
                   have q653 : (ji197) < (t620.length : Int) := ode_
                   obtain ⟨ad653, e653, hx653_0, hx653_1, hx653_2, hx653_3, hx653_4, hx653_5⟩ := at_T25 (Kd.R_reads' HO_9.out).2.2 (ji197) p653 q653
                   obtain rfl : ad652 = ad653 := (by injection e653)
                   replace p653 := eq_true p653
                   replace q653 := eq_true q653
                   refine st_ 18 (fun w' => w'.cell? (ad652.add ((x21_3).toNat * 6)) = some (.int .i64 ((rd_T25 t620 x21_3).f0)) ∧ w'.cell? ⟨(ad652.add ((x21_3).toNat * 6)).block, (ad652.add ((x21_3).toNat * 6)).off + 1, none⟩ = some (.int .i64 ((rd_T25 t620 x21_3).f1)) ∧ w'.cell? ⟨(ad652.add ((x21_3).toNat * 6)).block, (ad652.add ((x21_3).toNat * 6)).off + 2, none⟩ = some (.int .i64 ((rd_T25 t620 x21_3).f2)) ∧ w'.cell? ⟨(ad652.add ((x21_3).toNat * 6)).block, (ad652.add ((x21_3).toNat * 6)).off + 3, none⟩ = some (.int .i64 ((rd_T25 t620 x21_3).f3)) ∧ w'.cell? ⟨(ad652.add ((x21_3).toNat * 6)).block, (ad652.add ((x21_3).toNat * 6)).off + 4, none⟩ = some (.int .i64 ((rd_T25 t620 x21_3).f4)) ∧ w'.cell? ⟨(ad652.add ((x21_3).toNat * 6)).block, (ad652.add ((x21_3).toNat * 6)).off + 5, none⟩ = some (.bool ((rd_T25 t620 x21_3).f5)) ∧ w'.cell? (ad652.add (((ji197)).toNat * 6)) = some (.int .i64 ((rd_T25 t620 (ji197)).f0)) ∧ w'.cell? ⟨(ad652.add (((ji197)).toNat * 6)).block, (ad652.add (((ji197)).toNat * 6)).off + 1, none⟩ = some (.int .i64 ((rd_T25 t620 (ji197)).f1)) ∧ w'.cell? ⟨(ad652.add (((ji197)).toNat * 6)).block, (ad652.add (((ji197)).toNat * 6)).off + 2, none⟩ = some (.int .i64 ((rd_T25 t620 (ji197)).f2)) ∧ w'.cell? ⟨(ad652.add (((ji197)).toNat * 6)).block, (ad652.add (((ji197)).toNat * 6)).off + 3, none⟩ = some (.int .i64 ((rd_T25 t620 (ji197)).f3)) ∧ w'.cell? ⟨(ad652.add (((ji197)).toNat * 6)).block, (ad652.add (((ji197)).toNat * 6)).off + 4, none⟩ = some (.int .i64 ((rd_T25 t620 (ji197)).f4)) ∧ w'.cell? ⟨(ad652.add (((ji197)).toNat * 6)).block, (ad652.add (((ji197)).toNat * 6)).off + 5, none⟩ = some (.bool ((rd_T25 t620 (ji197)).f5))) [] laws_FnShapes.tab19 laws_FnShapes.bits19 ⟨hx652_0, hx652_1, hx652_2, hx652_3, hx652_4, hx652_5, hx653_0, hx653_1, hx653_2, hx653_3, hx653_4, hx653_5⟩ fun hHeld HT_ HW_ => ?_
                   generalize wr.drew = w201 at HO_9 BK614 BK615 BK635 BK643 HB hx652_0 hx652_1 hx652_2 hx652_3 hx652_4 hx652_5 hx653_0 hx653_1 hx653_2 hx653_3 hx653_4 hx653_5 hHeld ⊢
                   refine pu_ 0 194 ?_
                   refine pu_ 1 195 ?_
                   refine pu_ 2 196 ?_
                   refine pu_ 4 198 ?_
                   refine pu_ 5 199 ?_
                   refine pu_ 6 200 ?_
                   refine pu_ 7 201 ?_
                   refine tk_ 3 197 ?_
                   refine tk_ 8 202 ?_
                   refine pu_ 9 203 ?_
                   refine pu_ 10 204 ?_
                   refine pv_ 11 205 ?_
                   refine pv_ 12 206 ?_
                   refine pv_ 13 207 ?_
                   refine pv_ 14 208 ?_
                   refine pv_ 15 209 ?_
                   refine pv_ 16 210 ?_
                   refine pu_ 17 211 ?_
                   refine dn_ ?_
                   try go_wp2
                   go_meet
                   case rel => exact ⟨_, (true), z15_2_, H', ⟨z15_11_⟩, ⟨(rR_ HO_9)⟩, ⟨kP_⟩, ⟨kP_⟩, ⟨kP_⟩, ⟨kP_⟩, ⟨hB_⟩⟩
                 rw [if_neg c200] at H
                 have c200b0 : (((rd_T25 t620 x21_3).f0) == ((rd_T25 t620 (ji197)).f0) && (((rd_T25 t620 x21_3).f1) == ((rd_T25 t620 (ji197)).f1) && (((rd_T25 t620 x21_3).f2) == ((rd_T25 t620 (ji197)).f2) && (((rd_T25 t620 x21_3).f3) == ((rd_T25 t620 (ji197)).f3) && (((rd_T25 t620 x21_3).f4) == ((rd_T25 t620 (ji197)).f4) && (((rd_T25 t620 x21_3).f5) == ((rd_T25 t620 (ji197)).f5))))))) = false := by simpa using c200
                 (try (have c200b1 : decide (((rd_T25 t620 x21_3).f0) = ((rd_T25 t620 (ji197)).f0) && (((rd_T25 t620 x21_3).f1) == ((rd_T25 t620 (ji197)).f1) && (((rd_T25 t620 x21_3).f2) == ((rd_T25 t620 (ji197)).f2) && (((rd_T25 t620 x21_3).f3) == ((rd_T25 t620 (ji197)).f3) && (((rd_T25 t620 x21_3).f4) == ((rd_T25 t620 (ji197)).f4) && (((rd_T25 t620 x21_3).f5) == ((rd_T25 t620 (ji197)).f5))))))) = false := by simpa using c200))
                 (try (have c200b2 : (((rd_T25 t620 x21_3).f0) == ((rd_T25 t620 (ji197)).f0) && (((rd_T25 t620 x21_3).f1) == ((rd_T25 t620 (ji197)).f1) && (((rd_T25 t620 x21_3).f2) == ((rd_T25 t620 (ji197)).f2) && (((rd_T25 t620 x21_3).f3) == ((rd_T25 t620 (ji197)).f3) && (((rd_T25 t620 x21_3).f4) == ((rd_T25 t620 (ji197)).f4) && (((rd_T25 t620 x21_3).f5) == ((rd_T25 t620 (ji197)).f5))))))) = false := by simpa using c200))
                 (try (have c200b3 : ¬ (((rd_T25 t620 x21_3).f0) = ((rd_T25 t620 (ji197)).f0) && (((rd_T25 t620 x21_3).f1) == ((rd_T25 t620 (ji197)).f1) && (((rd_T25 t620 x21_3).f2) == ((rd_T25 t620 (ji197)).f2) && (((rd_T25 t620 x21_3).f3) == ((rd_T25 t620 (ji197)).f3) && (((rd_T25 t620 x21_3).f4) == ((rd_T25 t620 (ji197)).f4) && (((rd_T25 t620 x21_3).f5) == ((rd_T25 t620 (ji197)).f5))))))) := by simpa using c200))
                 clear c200
                 replace H := ob_ H; obtain ⟨t655, A202, H⟩ := H; try dsimp only at H
                 as_aux_lemma =>
                  have H' := Aside0.mk H
                  clear H
                  try go_wp2
                  replace HO_9 := aM_ (Kd.R_drew HO_9.out)
                  replace BK614 := aM_ (blk_drew BK614.out)
                  replace BK615 := aM_ (blk_drew BK615.out)
                  replace BK635 := aM_ (blk_drew BK635.out)
                  replace BK643 := aM_ (blk_drew BK643.out)
                  replace HB := aM_ (below_drew1 HB.out)
                  obtain ⟨⟨ad652, e652, hx652_0, hx652_1, hx652_2, hx652_3, hx652_4, hx652_5⟩, p652, q652⟩ := at2_ (at_T25 (Kd.R_reads' HO_9.out).2.2 x21_3); cases e652
                  have p653 : 0 ≤ ((ji197) : Int) := ode_
                  have q653 : (ji197) < (t620.length : Int) := ode_
                  obtain ⟨ad653, e653, hx653_0, hx653_1, hx653_2, hx653_3, hx653_4, hx653_5⟩ := at_T25 (Kd.R_reads' HO_9.out).2.2 (ji197) p653 q653
                  obtain rfl : ad652 = ad653 := (by injection e653)
                  replace p653 := eq_true p653
                  replace q653 := eq_true q653
                  have p654 : 0 ≤ (x21_3 : Int) := ode_
                  have q654 : x21_3 < (t620.length : Int) := ode_
                  obtain ⟨ad654, e654, hx654_0, hx654_1, hx654_2, hx654_3, hx654_4, hx654_5⟩ := at_T25 (Kd.R_reads' HO_9.out).2.2 x21_3 p654 q654
                  obtain rfl : ad652 = ad654 := (by injection e654)
                  replace p654 := eq_true p654
                  replace q654 := eq_true q654
                  refine st_ 18 (fun w' => w'.cell? (ad652.add ((x21_3).toNat * 6)) = some (.int .i64 ((rd_T25 t620 x21_3).f0)) ∧ w'.cell? ⟨(ad652.add ((x21_3).toNat * 6)).block, (ad652.add ((x21_3).toNat * 6)).off + 1, none⟩ = some (.int .i64 ((rd_T25 t620 x21_3).f1)) ∧ w'.cell? ⟨(ad652.add ((x21_3).toNat * 6)).block, (ad652.add ((x21_3).toNat * 6)).off + 2, none⟩ = some (.int .i64 ((rd_T25 t620 x21_3).f2)) ∧ w'.cell? ⟨(ad652.add ((x21_3).toNat * 6)).block, (ad652.add ((x21_3).toNat * 6)).off + 3, none⟩ = some (.int .i64 ((rd_T25 t620 x21_3).f3)) ∧ w'.cell? ⟨(ad652.add ((x21_3).toNat * 6)).block, (ad652.add ((x21_3).toNat * 6)).off + 4, none⟩ = some (.int .i64 ((rd_T25 t620 x21_3).f4)) ∧ w'.cell? ⟨(ad652.add ((x21_3).toNat * 6)).block, (ad652.add ((x21_3).toNat * 6)).off + 5, none⟩ = some (.bool ((rd_T25 t620 x21_3).f5)) ∧ w'.cell? (ad652.add (((ji197)).toNat * 6)) = some (.int .i64 ((rd_T25 t620 (ji197)).f0)) ∧ w'.cell? ⟨(ad652.add (((ji197)).toNat * 6)).block, (ad652.add (((ji197)).toNat * 6)).off + 1, none⟩ = some (.int .i64 ((rd_T25 t620 (ji197)).f1)) ∧ w'.cell? ⟨(ad652.add (((ji197)).toNat * 6)).block, (ad652.add (((ji197)).toNat * 6)).off + 2, none⟩ = some (.int .i64 ((rd_T25 t620 (ji197)).f2)) ∧ w'.cell? ⟨(ad652.add (((ji197)).toNat * 6)).block, (ad652.add (((ji197)).toNat * 6)).off + 3, none⟩ = some (.int .i64 ((rd_T25 t620 (ji197)).f3)) ∧ w'.cell? ⟨(ad652.add (((ji197)).toNat * 6)).block, (ad652.add (((ji197)).toNat * 6)).off + 4, none⟩ = some (.int .i64 ((rd_T25 t620 (ji197)).f4)) ∧ w'.cell? ⟨(ad652.add (((ji197)).toNat * 6)).block, (ad652.add (((ji197)).toNat * 6)).off + 5, none⟩ = some (.bool ((rd_T25 t620 (ji197)).f5)) ∧ w'.cell? (ad652.add ((x21_3).toNat * 6)) = some (.int .i64 ((rd_T25 t620 x21_3).f0)) ∧ w'.cell? ⟨(ad652.add ((x21_3).toNat * 6)).block, (ad652.add ((x21_3).toNat * 6)).off + 1, none⟩ = some (.int .i64 ((rd_T25 t620 x21_3).f1)) ∧ w'.cell? ⟨(ad652.add ((x21_3).toNat * 6)).block, (ad652.add ((x21_3).toNat * 6)).off + 2, none⟩ = some (.int .i64 ((rd_T25 t620 x21_3).f2)) ∧ w'.cell? ⟨(ad652.add ((x21_3).toNat * 6)).block, (ad652.add ((x21_3).toNat * 6)).off + 3, none⟩ = some (.int .i64 ((rd_T25 t620 x21_3).f3)) ∧ w'.cell? ⟨(ad652.add ((x21_3).toNat * 6)).block, (ad652.add ((x21_3).toNat * 6)).off + 4, none⟩ = some (.int .i64 ((rd_T25 t620 x21_3).f4)) ∧ w'.cell? ⟨(ad652.add ((x21_3).toNat * 6)).block, (ad652.add ((x21_3).toNat * 6)).off + 5, none⟩ = some (.bool ((rd_T25 t620 x21_3).f5))) [] laws_FnShapes.tab19 laws_FnShapes.bits19 ⟨hx652_0, hx652_1, hx652_2, hx652_3, hx652_4, hx652_5, hx653_0, hx653_1, hx653_2, hx653_3, hx653_4, hx653_5, hx654_0, hx654_1, hx654_2, hx654_3, hx654_4, hx654_5⟩ fun hHeld HT_ HW_ => ?_
                  generalize wr.drew = w203 at HO_9 BK614 BK615 BK635 BK643 HB hx652_0 hx652_1 hx652_2 hx652_3 hx652_4 hx652_5 hx653_0 hx653_1 hx653_2 hx653_3 hx653_4 hx653_5 hx654_0 hx654_1 hx654_2 hx654_3 hx654_4 hx654_5 hHeld ⊢
                  refine pu_ 0 194 ?_
                  refine pu_ 1 195 ?_
                  refine pu_ 2 196 ?_
                  refine pu_ 4 198 ?_
                  refine pu_ 5 199 ?_
                  refine pu_ 6 200 ?_
                  refine pu_ 7 201 ?_
                  refine tk_ 3 197 ?_
                  refine tk_ 8 202 ?_
                  refine pu_ 9 203 ?_
                  refine pu_ 10 204 ?_
                  refine pu_ 11 205 ?_
                  refine pu_ 12 206 ?_
                  refine pu_ 13 207 ?_
                  refine tk_ 14 208 ?_
                  refine on_ 15 209 fun K hK => ?_
                  refine gS_ Tryd.func13 #[.agg #[.int .i64 ((rd_T25 t620 x21_3).f0), .int .i64 ((rd_T25 t620 x21_3).f1), .int .i64 ((rd_T25 t620 x21_3).f2), .int .i64 ((rd_T25 t620 x21_3).f3), .int .i64 ((rd_T25 t620 x21_3).f4), .bool ((rd_T25 t620 x21_3).f5)]] ?_
                  with_reducible refine (impl_IsShape.calls k3 ((rd_T25 t620 x21_3).f0) ((rd_T25 t620 x21_3).f1) ((rd_T25 t620 x21_3).f2) ((rd_T25 t620 x21_3).f3) ((rd_T25 t620 x21_3).f4) ((rd_T25 t620 x21_3).f5) t655 _ A202.out).mono ?_
                  rintro e w204 ⟨rfl, hb⟩
                  have HS0_ := (hb.cell (World.block_lt_of_cell? _ _ (hHeld.1))).trans (hHeld.1)
                  have HS1_ := (hb.cell (World.block_lt_of_cell? _ _ (hHeld.2.1))).trans (hHeld.2.1)
                  have HS2_ := (hb.cell (World.block_lt_of_cell? _ _ (hHeld.2.2.1))).trans (hHeld.2.2.1)
                  have HS3_ := (hb.cell (World.block_lt_of_cell? _ _ (hHeld.2.2.2.1))).trans (hHeld.2.2.2.1)
                  have HS4_ := (hb.cell (World.block_lt_of_cell? _ _ (hHeld.2.2.2.2.1))).trans (hHeld.2.2.2.2.1)
                  have HS5_ := (hb.cell (World.block_lt_of_cell? _ _ (hHeld.2.2.2.2.2.1))).trans (hHeld.2.2.2.2.2.1)
                  have HS6_ := (hb.cell (World.block_lt_of_cell? _ _ (hHeld.2.2.2.2.2.2.1))).trans (hHeld.2.2.2.2.2.2.1)
                  have HS7_ := (hb.cell (World.block_lt_of_cell? _ _ (hHeld.2.2.2.2.2.2.2.1))).trans (hHeld.2.2.2.2.2.2.2.1)
                  have HS8_ := (hb.cell (World.block_lt_of_cell? _ _ (hHeld.2.2.2.2.2.2.2.2.1))).trans (hHeld.2.2.2.2.2.2.2.2.1)
                  have HS9_ := (hb.cell (World.block_lt_of_cell? _ _ (hHeld.2.2.2.2.2.2.2.2.2.1))).trans (hHeld.2.2.2.2.2.2.2.2.2.1)
                  have HS10_ := (hb.cell (World.block_lt_of_cell? _ _ (hHeld.2.2.2.2.2.2.2.2.2.2.1))).trans (hHeld.2.2.2.2.2.2.2.2.2.2.1)
                  have HS11_ := (hb.cell (World.block_lt_of_cell? _ _ (hHeld.2.2.2.2.2.2.2.2.2.2.2.1))).trans (hHeld.2.2.2.2.2.2.2.2.2.2.2.1)
                  have HS12_ := (hb.cell (World.block_lt_of_cell? _ _ (hHeld.2.2.2.2.2.2.2.2.2.2.2.2.1))).trans (hHeld.2.2.2.2.2.2.2.2.2.2.2.2.1)
                  have HS13_ := (hb.cell (World.block_lt_of_cell? _ _ (hHeld.2.2.2.2.2.2.2.2.2.2.2.2.2.1))).trans (hHeld.2.2.2.2.2.2.2.2.2.2.2.2.2.1)
                  have HS14_ := (hb.cell (World.block_lt_of_cell? _ _ (hHeld.2.2.2.2.2.2.2.2.2.2.2.2.2.2.1))).trans (hHeld.2.2.2.2.2.2.2.2.2.2.2.2.2.2.1)
                  have HS15_ := (hb.cell (World.block_lt_of_cell? _ _ (hHeld.2.2.2.2.2.2.2.2.2.2.2.2.2.2.2.1))).trans (hHeld.2.2.2.2.2.2.2.2.2.2.2.2.2.2.2.1)
                  have HS16_ := (hb.cell (World.block_lt_of_cell? _ _ (hHeld.2.2.2.2.2.2.2.2.2.2.2.2.2.2.2.2.1))).trans (hHeld.2.2.2.2.2.2.2.2.2.2.2.2.2.2.2.2.1)
                  have HS17_ := (hb.cell (World.block_lt_of_cell? _ _ (hHeld.2.2.2.2.2.2.2.2.2.2.2.2.2.2.2.2.2))).trans (hHeld.2.2.2.2.2.2.2.2.2.2.2.2.2.2.2.2.2)
                  refine ⟨_, rfl, ?_⟩
                  replace HO_9 := aM_ (Kd.R_below (rR_ HO_9) hb)
                  replace BK614 := aM_ (blk_below (g := gb614) (kR_ BK614) hb)
                  replace BK615 := aM_ (blk_below (g := gb615) (kR_ BK615) hb)
                  replace BK635 := aM_ (blk_below (g := gb635) (kR_ BK635) hb)
                  replace BK643 := aM_ (blk_below (g := gb643) (kR_ BK643) hb)
                  replace HB := aM_ (below_step hB_ hb)
                  (try clear hb)
                  (try clear hb2)
                  (try clear hk)
                  (try clear hi)
                  refine hK.out _ _ ⟨HS0_, HS1_, HS2_, HS3_, HS4_, HS5_, HS6_, HS7_, HS8_, HS9_, HS10_, HS11_, HS12_, HS13_, HS14_, HS15_, HS16_, HS17_⟩ (fun hHeld => ?_)
                  clear hK K
                  refine nm_ 209 ?_
                  refine pu_ 16 210 ?_
                  refine pu_ 17 211 ?_
                  refine dn_ ?_
                  try go_wp2
                  go_meet
                  case rel => exact ⟨_, (!t655), z15_2_, H', ⟨z15_11_⟩, ⟨(rR_ HO_9)⟩, ⟨kP_⟩, ⟨kP_⟩, ⟨kP_⟩, ⟨kP_⟩, ⟨hB_⟩⟩
               case rest =>
                as_aux_lemma =>
                 clear HC194
                 (try clear c1);(try clear c192);(try clear c193);(try clear c193b0)
                 obtain ⟨kq, x211_193, rfl, HA, HJ193, HO_9, BK614, BK615, BK635, BK643, HB⟩ := hcut
                 cases kq with
                 | zero => exact absurd HA.out (by simp [laws_FnShapes.j3])
                 | succ kj193 =>
                  as_aux_lemma =>
                   have H := HA.out
                   clear HA
                   simp only [laws_FnShapes.j3] at H
                   by_cases c205 : x211_193 = true
                   ·subst c205
                    replace H := ip_ H rfl
                    as_aux_lemma =>
                     obtain rfl := Option.some.inj H
                     go_wp2
                     go_ret
                     exact ⟨rT_, hB_⟩
                   replace c205 := Bool.eq_false_iff.mpr c205
                   subst c205
                   replace H := in_ H (show ¬ (false = true) by decide)
                   obtain ⟨ji206, hji206⟩ : ∃ j_ : Int, (wrap64 (x21_3 - 1)) = j_ := ⟨_, rfl⟩
                   replace H : (if 0 ≤ (ji206) then (if (ji206) < (t620.length : Int) then (if 0 ≤ x21_3 then (if x21_3 < (t620.length : Int) then ((impl_ShapeDistance.f kj193 ((rd_T25 t620 (ji206)).f0) ((rd_T25 t620 (ji206)).f1) ((rd_T25 t620 (ji206)).f2) ((rd_T25 t620 (ji206)).f3) ((rd_T25 t620 (ji206)).f4) ((rd_T25 t620 (ji206)).f5) ((rd_T25 t620 x21_3).f0) ((rd_T25 t620 x21_3).f1) ((rd_T25 t620 x21_3).f2) ((rd_T25 t620 x21_3).f3) ((rd_T25 t620 x21_3).f4) ((rd_T25 t620 x21_3).f5)).bind fun bt658 => (if bt658.2 = true then (if bt658.1 > 2 then (some false) else (laws_FnShapes.l0 kj193 l1 t620 (wrap64 (x21_3 + 1)) t602 t603 t604 t605 t606 t607 t628 t629 t630 t631 t632 t633 t636 t637 t638 t639 t640 t641)) else (some false))) else (none)) else (none)) else (none)) else (none)) = some r := by first | (rw [hji206] at H; exact H) | (simp only [hji206] at H ⊢; exact H)
                   have hji206w : (IntKind.i64.wrap (x21_3 - 1)) = ji206 := (i64_w _).trans hji206
                   replace H := ig_ H; obtain ⟨c207b0, H⟩ := H
                   replace H := ig_ H; obtain ⟨c208b0, H⟩ := H
                   replace H := ig_ H; obtain ⟨c209b0, H⟩ := H
                   replace H := ig_ H; obtain ⟨c210b0, H⟩ := H
                   replace H := ob_ H; obtain ⟨⟨t658, t659⟩, A211, H⟩ := H; try dsimp only at H
                   by_cases c212 : t659 = true
                   rotate_left
                   ·replace c212 := Bool.eq_false_iff.mpr c212
                    subst c212
                    replace H := in_ H (show ¬ (false = true) by decide)
                    as_aux_lemma =>
                     obtain rfl := Option.some.inj H
                     try go_wp2
                     replace HO_9 := aM_ (Kd.R_drew HO_9.out)
                     replace BK614 := aM_ (blk_drew BK614.out)
                     replace BK615 := aM_ (blk_drew BK615.out)
                     replace BK635 := aM_ (blk_drew BK635.out)
                     replace BK643 := aM_ (blk_drew BK643.out)
                     replace HB := aM_ (below_drew1 HB.out)
                     obtain ⟨⟨ad656, e656, hx656_0, hx656_1, hx656_2, hx656_3, hx656_4, hx656_5⟩, p656, q656⟩ := at2_ (at_T25 (Kd.R_reads' HO_9.out).2.2 (ji206)); cases e656
                     have p657 : 0 ≤ (x21_3 : Int) := ode_
                     have q657 : x21_3 < (t620.length : Int) := ode_
                     obtain ⟨ad657, e657, hx657_0, hx657_1, hx657_2, hx657_3, hx657_4, hx657_5⟩ := at_T25 (Kd.R_reads' HO_9.out).2.2 x21_3 p657 q657
                     obtain rfl : ad656 = ad657 := (by injection e657)
                     replace p657 := eq_true p657
                     replace q657 := eq_true q657
                     refine st_ 15 (fun w' => w'.cell? (ad656.add (((ji206)).toNat * 6)) = some (.int .i64 ((rd_T25 t620 (ji206)).f0)) ∧ w'.cell? ⟨(ad656.add (((ji206)).toNat * 6)).block, (ad656.add (((ji206)).toNat * 6)).off + 1, none⟩ = some (.int .i64 ((rd_T25 t620 (ji206)).f1)) ∧ w'.cell? ⟨(ad656.add (((ji206)).toNat * 6)).block, (ad656.add (((ji206)).toNat * 6)).off + 2, none⟩ = some (.int .i64 ((rd_T25 t620 (ji206)).f2)) ∧ w'.cell? ⟨(ad656.add (((ji206)).toNat * 6)).block, (ad656.add (((ji206)).toNat * 6)).off + 3, none⟩ = some (.int .i64 ((rd_T25 t620 (ji206)).f3)) ∧ w'.cell? ⟨(ad656.add (((ji206)).toNat * 6)).block, (ad656.add (((ji206)).toNat * 6)).off + 4, none⟩ = some (.int .i64 ((rd_T25 t620 (ji206)).f4)) ∧ w'.cell? ⟨(ad656.add (((ji206)).toNat * 6)).block, (ad656.add (((ji206)).toNat * 6)).off + 5, none⟩ = some (.bool ((rd_T25 t620 (ji206)).f5)) ∧ w'.cell? (ad656.add ((x21_3).toNat * 6)) = some (.int .i64 ((rd_T25 t620 x21_3).f0)) ∧ w'.cell? ⟨(ad656.add ((x21_3).toNat * 6)).block, (ad656.add ((x21_3).toNat * 6)).off + 1, none⟩ = some (.int .i64 ((rd_T25 t620 x21_3).f1)) ∧ w'.cell? ⟨(ad656.add ((x21_3).toNat * 6)).block, (ad656.add ((x21_3).toNat * 6)).off + 2, none⟩ = some (.int .i64 ((rd_T25 t620 x21_3).f2)) ∧ w'.cell? ⟨(ad656.add ((x21_3).toNat * 6)).block, (ad656.add ((x21_3).toNat * 6)).off + 3, none⟩ = some (.int .i64 ((rd_T25 t620 x21_3).f3)) ∧ w'.cell? ⟨(ad656.add ((x21_3).toNat * 6)).block, (ad656.add ((x21_3).toNat * 6)).off + 4, none⟩ = some (.int .i64 ((rd_T25 t620 x21_3).f4)) ∧ w'.cell? ⟨(ad656.add ((x21_3).toNat * 6)).block, (ad656.add ((x21_3).toNat * 6)).off + 5, none⟩ = some (.bool ((rd_T25 t620 x21_3).f5))) [] laws_FnShapes.tab21 laws_FnShapes.bits21 ⟨hx656_0, hx656_1, hx656_2, hx656_3, hx656_4, hx656_5, hx657_0, hx657_1, hx657_2, hx657_3, hx657_4, hx657_5⟩ fun hHeld HT_ HW_ => ?_
                     generalize wc.drew = w218 at HO_9 BK614 BK615 BK635 BK643 HB hx656_0 hx656_1 hx656_2 hx656_3 hx656_4 hx656_5 hx657_0 hx657_1 hx657_2 hx657_3 hx657_4 hx657_5 hHeld ⊢
                     refine pu_ 0 213 ?_
                     refine pu_ 1 214 ?_
                     refine pu_ 2 215 ?_
                     refine pu_ 3 216 ?_
                     refine pu_ 5 218 ?_
                     refine pu_ 6 219 ?_
                     refine pu_ 7 220 ?_
                     refine tk_ 4 217 ?_
                     refine tk_ 8 221 ?_
                     refine on_ 9 222 fun K hK => ?_
                     refine goes_ Tryd.func8 (by kernel_rfl) rfl #[.agg #[.int .i64 ((rd_T25 t620 (ji206)).f0), .int .i64 ((rd_T25 t620 (ji206)).f1), .int .i64 ((rd_T25 t620 (ji206)).f2), .int .i64 ((rd_T25 t620 (ji206)).f3), .int .i64 ((rd_T25 t620 (ji206)).f4), .bool ((rd_T25 t620 (ji206)).f5)], .agg #[.int .i64 ((rd_T25 t620 x21_3).f0), .int .i64 ((rd_T25 t620 x21_3).f1), .int .i64 ((rd_T25 t620 x21_3).f2), .int .i64 ((rd_T25 t620 x21_3).f3), .int .i64 ((rd_T25 t620 x21_3).f4), .bool ((rd_T25 t620 x21_3).f5)]] (by rfl) rfl rfl z15_12_ ?_
                     with_reducible refine (impl_ShapeDistance.calls kj193 ((rd_T25 t620 (ji206)).f0) ((rd_T25 t620 (ji206)).f1) ((rd_T25 t620 (ji206)).f2) ((rd_T25 t620 (ji206)).f3) ((rd_T25 t620 (ji206)).f4) ((rd_T25 t620 (ji206)).f5) ((rd_T25 t620 x21_3).f0) ((rd_T25 t620 x21_3).f1) ((rd_T25 t620 x21_3).f2) ((rd_T25 t620 x21_3).f3) ((rd_T25 t620 x21_3).f4) ((rd_T25 t620 x21_3).f5) t658 false _ A211.out).mono ?_
                     rintro e w219 ⟨rfl, hb⟩
                     have HS0_ := (hb.cell (World.block_lt_of_cell? _ _ (hHeld.1))).trans (hHeld.1)
                     have HS1_ := (hb.cell (World.block_lt_of_cell? _ _ (hHeld.2.1))).trans (hHeld.2.1)
                     have HS2_ := (hb.cell (World.block_lt_of_cell? _ _ (hHeld.2.2.1))).trans (hHeld.2.2.1)
                     have HS3_ := (hb.cell (World.block_lt_of_cell? _ _ (hHeld.2.2.2.1))).trans (hHeld.2.2.2.1)
                     have HS4_ := (hb.cell (World.block_lt_of_cell? _ _ (hHeld.2.2.2.2.1))).trans (hHeld.2.2.2.2.1)
                     have HS5_ := (hb.cell (World.block_lt_of_cell? _ _ (hHeld.2.2.2.2.2.1))).trans (hHeld.2.2.2.2.2.1)
                     have HS6_ := (hb.cell (World.block_lt_of_cell? _ _ (hHeld.2.2.2.2.2.2.1))).trans (hHeld.2.2.2.2.2.2.1)
                     have HS7_ := (hb.cell (World.block_lt_of_cell? _ _ (hHeld.2.2.2.2.2.2.2.1))).trans (hHeld.2.2.2.2.2.2.2.1)
                     have HS8_ := (hb.cell (World.block_lt_of_cell? _ _ (hHeld.2.2.2.2.2.2.2.2.1))).trans (hHeld.2.2.2.2.2.2.2.2.1)
                     have HS9_ := (hb.cell (World.block_lt_of_cell? _ _ (hHeld.2.2.2.2.2.2.2.2.2.1))).trans (hHeld.2.2.2.2.2.2.2.2.2.1)
                     have HS10_ := (hb.cell (World.block_lt_of_cell? _ _ (hHeld.2.2.2.2.2.2.2.2.2.2.1))).trans (hHeld.2.2.2.2.2.2.2.2.2.2.1)
                     have HS11_ := (hb.cell (World.block_lt_of_cell? _ _ (hHeld.2.2.2.2.2.2.2.2.2.2.2))).trans (hHeld.2.2.2.2.2.2.2.2.2.2.2)
                     refine ⟨_, rfl, ?_⟩
                     replace HO_9 := aM_ (Kd.R_below (rR_ HO_9) hb)
                     replace BK614 := aM_ (blk_below (g := gb614) (kR_ BK614) hb)
                     replace BK615 := aM_ (blk_below (g := gb615) (kR_ BK615) hb)
                     replace BK635 := aM_ (blk_below (g := gb635) (kR_ BK635) hb)
                     replace BK643 := aM_ (blk_below (g := gb643) (kR_ BK643) hb)
                     replace HB := aM_ (below_step hB_ hb)
                     (try clear hb)
                     (try clear hb2)
                     (try clear hk)
                     (try clear hi)
                     refine hK.out _ _ ⟨HS0_, HS1_, HS2_, HS3_, HS4_, HS5_, HS6_, HS7_, HS8_, HS9_, HS10_, HS11_⟩ (fun hHeld => ?_)
                     clear hK K
                     refine nm_ 222 ?_
                     refine pu_ 10 212 ?_
                     refine pu_ 11 223 ?_
                     refine pu_ 12 224 ?_
                     refine pu_ 13 22 ?_
                     refine pu_ 14 23 ?_
                     refine dn_ ?_
                     try go_wp2
                     go_ret
                     exact ⟨z15_13_, hB_⟩
                   subst c212
                   replace H := ip_ H rfl
                   as_aux_lemma =>
                    by_cases c213 : t658 > 2
                    ·rw [if_pos c213] at H
                     have c213b0 : decide (2 < t658) = true := decide_eq_true c213
                     clear c213
                     as_aux_lemma =>
                      obtain rfl := Option.some.inj H
                      try go_wp2
                      replace HO_9 := aM_ (Kd.R_drew HO_9.out)
                      replace BK614 := aM_ (blk_drew BK614.out)
                      replace BK615 := aM_ (blk_drew BK615.out)
                      replace BK635 := aM_ (blk_drew BK635.out)
                      replace BK643 := aM_ (blk_drew BK643.out)
                      replace HB := aM_ (below_drew1 HB.out)
                      obtain ⟨⟨ad656, e656, hx656_0, hx656_1, hx656_2, hx656_3, hx656_4, hx656_5⟩, p656, q656⟩ := at2_ (at_T25 (Kd.R_reads' HO_9.out).2.2 (ji206)); cases e656
                      have p657 : 0 ≤ (x21_3 : Int) := ode_
                      have q657 : x21_3 < (t620.length : Int) := ode_
                      obtain ⟨ad657, e657, hx657_0, hx657_1, hx657_2, hx657_3, hx657_4, hx657_5⟩ := at_T25 (Kd.R_reads' HO_9.out).2.2 x21_3 p657 q657
                      obtain rfl : ad656 = ad657 := (by injection e657)
                      replace p657 := eq_true p657
                      replace q657 := eq_true q657
                      refine st_ 15 (fun w' => w'.cell? (ad656.add (((ji206)).toNat * 6)) = some (.int .i64 ((rd_T25 t620 (ji206)).f0)) ∧ w'.cell? ⟨(ad656.add (((ji206)).toNat * 6)).block, (ad656.add (((ji206)).toNat * 6)).off + 1, none⟩ = some (.int .i64 ((rd_T25 t620 (ji206)).f1)) ∧ w'.cell? ⟨(ad656.add (((ji206)).toNat * 6)).block, (ad656.add (((ji206)).toNat * 6)).off + 2, none⟩ = some (.int .i64 ((rd_T25 t620 (ji206)).f2)) ∧ w'.cell? ⟨(ad656.add (((ji206)).toNat * 6)).block, (ad656.add (((ji206)).toNat * 6)).off + 3, none⟩ = some (.int .i64 ((rd_T25 t620 (ji206)).f3)) ∧ w'.cell? ⟨(ad656.add (((ji206)).toNat * 6)).block, (ad656.add (((ji206)).toNat * 6)).off + 4, none⟩ = some (.int .i64 ((rd_T25 t620 (ji206)).f4)) ∧ w'.cell? ⟨(ad656.add (((ji206)).toNat * 6)).block, (ad656.add (((ji206)).toNat * 6)).off + 5, none⟩ = some (.bool ((rd_T25 t620 (ji206)).f5)) ∧ w'.cell? (ad656.add ((x21_3).toNat * 6)) = some (.int .i64 ((rd_T25 t620 x21_3).f0)) ∧ w'.cell? ⟨(ad656.add ((x21_3).toNat * 6)).block, (ad656.add ((x21_3).toNat * 6)).off + 1, none⟩ = some (.int .i64 ((rd_T25 t620 x21_3).f1)) ∧ w'.cell? ⟨(ad656.add ((x21_3).toNat * 6)).block, (ad656.add ((x21_3).toNat * 6)).off + 2, none⟩ = some (.int .i64 ((rd_T25 t620 x21_3).f2)) ∧ w'.cell? ⟨(ad656.add ((x21_3).toNat * 6)).block, (ad656.add ((x21_3).toNat * 6)).off + 3, none⟩ = some (.int .i64 ((rd_T25 t620 x21_3).f3)) ∧ w'.cell? ⟨(ad656.add ((x21_3).toNat * 6)).block, (ad656.add ((x21_3).toNat * 6)).off + 4, none⟩ = some (.int .i64 ((rd_T25 t620 x21_3).f4)) ∧ w'.cell? ⟨(ad656.add ((x21_3).toNat * 6)).block, (ad656.add ((x21_3).toNat * 6)).off + 5, none⟩ = some (.bool ((rd_T25 t620 x21_3).f5))) [] laws_FnShapes.tab21 laws_FnShapes.bits21 ⟨hx656_0, hx656_1, hx656_2, hx656_3, hx656_4, hx656_5, hx657_0, hx657_1, hx657_2, hx657_3, hx657_4, hx657_5⟩ fun hHeld HT_ HW_ => ?_
                      generalize wc.drew = w214 at HO_9 BK614 BK615 BK635 BK643 HB hx656_0 hx656_1 hx656_2 hx656_3 hx656_4 hx656_5 hx657_0 hx657_1 hx657_2 hx657_3 hx657_4 hx657_5 hHeld ⊢
                      refine pu_ 0 213 ?_
                      refine pu_ 1 214 ?_
                      refine pu_ 2 215 ?_
                      refine pu_ 3 216 ?_
                      refine pu_ 5 218 ?_
                      refine pu_ 6 219 ?_
                      refine pu_ 7 220 ?_
                      refine tk_ 4 217 ?_
                      refine tk_ 8 221 ?_
                      refine on_ 9 222 fun K hK => ?_
                      refine goes_ Tryd.func8 (by kernel_rfl) rfl #[.agg #[.int .i64 ((rd_T25 t620 (ji206)).f0), .int .i64 ((rd_T25 t620 (ji206)).f1), .int .i64 ((rd_T25 t620 (ji206)).f2), .int .i64 ((rd_T25 t620 (ji206)).f3), .int .i64 ((rd_T25 t620 (ji206)).f4), .bool ((rd_T25 t620 (ji206)).f5)], .agg #[.int .i64 ((rd_T25 t620 x21_3).f0), .int .i64 ((rd_T25 t620 x21_3).f1), .int .i64 ((rd_T25 t620 x21_3).f2), .int .i64 ((rd_T25 t620 x21_3).f3), .int .i64 ((rd_T25 t620 x21_3).f4), .bool ((rd_T25 t620 x21_3).f5)]] (by rfl) rfl rfl z15_12_ ?_
                      with_reducible refine (impl_ShapeDistance.calls kj193 ((rd_T25 t620 (ji206)).f0) ((rd_T25 t620 (ji206)).f1) ((rd_T25 t620 (ji206)).f2) ((rd_T25 t620 (ji206)).f3) ((rd_T25 t620 (ji206)).f4) ((rd_T25 t620 (ji206)).f5) ((rd_T25 t620 x21_3).f0) ((rd_T25 t620 x21_3).f1) ((rd_T25 t620 x21_3).f2) ((rd_T25 t620 x21_3).f3) ((rd_T25 t620 x21_3).f4) ((rd_T25 t620 x21_3).f5) t658 true _ A211.out).mono ?_
                      rintro e w215 ⟨rfl, hb⟩
                      have HS0_ := (hb.cell (World.block_lt_of_cell? _ _ (hHeld.1))).trans (hHeld.1)
                      have HS1_ := (hb.cell (World.block_lt_of_cell? _ _ (hHeld.2.1))).trans (hHeld.2.1)
                      have HS2_ := (hb.cell (World.block_lt_of_cell? _ _ (hHeld.2.2.1))).trans (hHeld.2.2.1)
                      have HS3_ := (hb.cell (World.block_lt_of_cell? _ _ (hHeld.2.2.2.1))).trans (hHeld.2.2.2.1)
                      have HS4_ := (hb.cell (World.block_lt_of_cell? _ _ (hHeld.2.2.2.2.1))).trans (hHeld.2.2.2.2.1)
                      have HS5_ := (hb.cell (World.block_lt_of_cell? _ _ (hHeld.2.2.2.2.2.1))).trans (hHeld.2.2.2.2.2.1)
                      have HS6_ := (hb.cell (World.block_lt_of_cell? _ _ (hHeld.2.2.2.2.2.2.1))).trans (hHeld.2.2.2.2.2.2.1)
                      have HS7_ := (hb.cell (World.block_lt_of_cell? _ _ (hHeld.2.2.2.2.2.2.2.1))).trans (hHeld.2.2.2.2.2.2.2.1)
                      have HS8_ := (hb.cell (World.block_lt_of_cell? _ _ (hHeld.2.2.2.2.2.2.2.2.1))).trans (hHeld.2.2.2.2.2.2.2.2.1)
                      have HS9_ := (hb.cell (World.block_lt_of_cell? _ _ (hHeld.2.2.2.2.2.2.2.2.2.1))).trans (hHeld.2.2.2.2.2.2.2.2.2.1)
                      have HS10_ := (hb.cell (World.block_lt_of_cell? _ _ (hHeld.2.2.2.2.2.2.2.2.2.2.1))).trans (hHeld.2.2.2.2.2.2.2.2.2.2.1)
                      have HS11_ := (hb.cell (World.block_lt_of_cell? _ _ (hHeld.2.2.2.2.2.2.2.2.2.2.2))).trans (hHeld.2.2.2.2.2.2.2.2.2.2.2)
                      refine ⟨_, rfl, ?_⟩
                      replace HO_9 := aM_ (Kd.R_below (rR_ HO_9) hb)
                      replace BK614 := aM_ (blk_below (g := gb614) (kR_ BK614) hb)
                      replace BK615 := aM_ (blk_below (g := gb615) (kR_ BK615) hb)
                      replace BK635 := aM_ (blk_below (g := gb635) (kR_ BK635) hb)
                      replace BK643 := aM_ (blk_below (g := gb643) (kR_ BK643) hb)
                      replace HB := aM_ (below_step hB_ hb)
                      (try clear hb)
                      (try clear hb2)
                      (try clear hk)
                      (try clear hi)
                      refine hK.out _ _ ⟨HS0_, HS1_, HS2_, HS3_, HS4_, HS5_, HS6_, HS7_, HS8_, HS9_, HS10_, HS11_⟩ (fun hHeld => ?_)
                      clear hK K
                      refine nm_ 222 ?_
                      refine pu_ 10 212 ?_
                      refine pu_ 11 223 ?_
                      refine pu_ 12 224 ?_
                      refine pu_ 13 22 ?_
                      refine pu_ 14 23 ?_
                      refine dn_ ?_
                      try go_wp2
                      go_ret
                      exact ⟨z15_13_, hB_⟩
                    rw [if_neg c213] at H
                    have c213b0 : decide (2 < t658) = false := decide_eq_false c213
                    clear c213
                    as_aux_lemma =>
                     have H' := Aside0.mk H
                     clear H
                     try go_wp2
                     replace HO_9 := aM_ (Kd.R_drew HO_9.out)
                     replace BK614 := aM_ (blk_drew BK614.out)
                     replace BK615 := aM_ (blk_drew BK615.out)
                     replace BK635 := aM_ (blk_drew BK635.out)
                     replace BK643 := aM_ (blk_drew BK643.out)
                     replace HB := aM_ (below_drew1 HB.out)
                     obtain ⟨⟨ad656, e656, hx656_0, hx656_1, hx656_2, hx656_3, hx656_4, hx656_5⟩, p656, q656⟩ := at2_ (at_T25 (Kd.R_reads' HO_9.out).2.2 (ji206)); cases e656
                     have p657 : 0 ≤ (x21_3 : Int) := ode_
                     have q657 : x21_3 < (t620.length : Int) := ode_
                     obtain ⟨ad657, e657, hx657_0, hx657_1, hx657_2, hx657_3, hx657_4, hx657_5⟩ := at_T25 (Kd.R_reads' HO_9.out).2.2 x21_3 p657 q657
                     obtain rfl : ad656 = ad657 := (by injection e657)
                     replace p657 := eq_true p657
                     replace q657 := eq_true q657
                     refine st_ 15 (fun w' => w'.cell? (ad656.add (((ji206)).toNat * 6)) = some (.int .i64 ((rd_T25 t620 (ji206)).f0)) ∧ w'.cell? ⟨(ad656.add (((ji206)).toNat * 6)).block, (ad656.add (((ji206)).toNat * 6)).off + 1, none⟩ = some (.int .i64 ((rd_T25 t620 (ji206)).f1)) ∧ w'.cell? ⟨(ad656.add (((ji206)).toNat * 6)).block, (ad656.add (((ji206)).toNat * 6)).off + 2, none⟩ = some (.int .i64 ((rd_T25 t620 (ji206)).f2)) ∧ w'.cell? ⟨(ad656.add (((ji206)).toNat * 6)).block, (ad656.add (((ji206)).toNat * 6)).off + 3, none⟩ = some (.int .i64 ((rd_T25 t620 (ji206)).f3)) ∧ w'.cell? ⟨(ad656.add (((ji206)).toNat * 6)).block, (ad656.add (((ji206)).toNat * 6)).off + 4, none⟩ = some (.int .i64 ((rd_T25 t620 (ji206)).f4)) ∧ w'.cell? ⟨(ad656.add (((ji206)).toNat * 6)).block, (ad656.add (((ji206)).toNat * 6)).off + 5, none⟩ = some (.bool ((rd_T25 t620 (ji206)).f5)) ∧ w'.cell? (ad656.add ((x21_3).toNat * 6)) = some (.int .i64 ((rd_T25 t620 x21_3).f0)) ∧ w'.cell? ⟨(ad656.add ((x21_3).toNat * 6)).block, (ad656.add ((x21_3).toNat * 6)).off + 1, none⟩ = some (.int .i64 ((rd_T25 t620 x21_3).f1)) ∧ w'.cell? ⟨(ad656.add ((x21_3).toNat * 6)).block, (ad656.add ((x21_3).toNat * 6)).off + 2, none⟩ = some (.int .i64 ((rd_T25 t620 x21_3).f2)) ∧ w'.cell? ⟨(ad656.add ((x21_3).toNat * 6)).block, (ad656.add ((x21_3).toNat * 6)).off + 3, none⟩ = some (.int .i64 ((rd_T25 t620 x21_3).f3)) ∧ w'.cell? ⟨(ad656.add ((x21_3).toNat * 6)).block, (ad656.add ((x21_3).toNat * 6)).off + 4, none⟩ = some (.int .i64 ((rd_T25 t620 x21_3).f4)) ∧ w'.cell? ⟨(ad656.add ((x21_3).toNat * 6)).block, (ad656.add ((x21_3).toNat * 6)).off + 5, none⟩ = some (.bool ((rd_T25 t620 x21_3).f5))) [] laws_FnShapes.tab21 laws_FnShapes.bits21 ⟨hx656_0, hx656_1, hx656_2, hx656_3, hx656_4, hx656_5, hx657_0, hx657_1, hx657_2, hx657_3, hx657_4, hx657_5⟩ fun hHeld HT_ HW_ => ?_
                     generalize wc.drew = w216 at HO_9 BK614 BK615 BK635 BK643 HB hx656_0 hx656_1 hx656_2 hx656_3 hx656_4 hx656_5 hx657_0 hx657_1 hx657_2 hx657_3 hx657_4 hx657_5 hHeld ⊢
                     refine pu_ 0 213 ?_
                     refine pu_ 1 214 ?_
                     refine pu_ 2 215 ?_
                     refine pu_ 3 216 ?_
                     refine pu_ 5 218 ?_
                     refine pu_ 6 219 ?_
                     refine pu_ 7 220 ?_
                     refine tk_ 4 217 ?_
                     refine tk_ 8 221 ?_
                     refine on_ 9 222 fun K hK => ?_
                     refine goes_ Tryd.func8 (by kernel_rfl) rfl #[.agg #[.int .i64 ((rd_T25 t620 (ji206)).f0), .int .i64 ((rd_T25 t620 (ji206)).f1), .int .i64 ((rd_T25 t620 (ji206)).f2), .int .i64 ((rd_T25 t620 (ji206)).f3), .int .i64 ((rd_T25 t620 (ji206)).f4), .bool ((rd_T25 t620 (ji206)).f5)], .agg #[.int .i64 ((rd_T25 t620 x21_3).f0), .int .i64 ((rd_T25 t620 x21_3).f1), .int .i64 ((rd_T25 t620 x21_3).f2), .int .i64 ((rd_T25 t620 x21_3).f3), .int .i64 ((rd_T25 t620 x21_3).f4), .bool ((rd_T25 t620 x21_3).f5)]] (by rfl) rfl rfl z15_12_ ?_
                     with_reducible refine (impl_ShapeDistance.calls kj193 ((rd_T25 t620 (ji206)).f0) ((rd_T25 t620 (ji206)).f1) ((rd_T25 t620 (ji206)).f2) ((rd_T25 t620 (ji206)).f3) ((rd_T25 t620 (ji206)).f4) ((rd_T25 t620 (ji206)).f5) ((rd_T25 t620 x21_3).f0) ((rd_T25 t620 x21_3).f1) ((rd_T25 t620 x21_3).f2) ((rd_T25 t620 x21_3).f3) ((rd_T25 t620 x21_3).f4) ((rd_T25 t620 x21_3).f5) t658 true _ A211.out).mono ?_
                     rintro e w217 ⟨rfl, hb⟩
                     have HS0_ := (hb.cell (World.block_lt_of_cell? _ _ (hHeld.1))).trans (hHeld.1)
                     have HS1_ := (hb.cell (World.block_lt_of_cell? _ _ (hHeld.2.1))).trans (hHeld.2.1)
                     have HS2_ := (hb.cell (World.block_lt_of_cell? _ _ (hHeld.2.2.1))).trans (hHeld.2.2.1)
                     have HS3_ := (hb.cell (World.block_lt_of_cell? _ _ (hHeld.2.2.2.1))).trans (hHeld.2.2.2.1)
                     have HS4_ := (hb.cell (World.block_lt_of_cell? _ _ (hHeld.2.2.2.2.1))).trans (hHeld.2.2.2.2.1)
                     have HS5_ := (hb.cell (World.block_lt_of_cell? _ _ (hHeld.2.2.2.2.2.1))).trans (hHeld.2.2.2.2.2.1)
                     have HS6_ := (hb.cell (World.block_lt_of_cell? _ _ (hHeld.2.2.2.2.2.2.1))).trans (hHeld.2.2.2.2.2.2.1)
                     have HS7_ := (hb.cell (World.block_lt_of_cell? _ _ (hHeld.2.2.2.2.2.2.2.1))).trans (hHeld.2.2.2.2.2.2.2.1)
                     have HS8_ := (hb.cell (World.block_lt_of_cell? _ _ (hHeld.2.2.2.2.2.2.2.2.1))).trans (hHeld.2.2.2.2.2.2.2.2.1)
                     have HS9_ := (hb.cell (World.block_lt_of_cell? _ _ (hHeld.2.2.2.2.2.2.2.2.2.1))).trans (hHeld.2.2.2.2.2.2.2.2.2.1)
                     have HS10_ := (hb.cell (World.block_lt_of_cell? _ _ (hHeld.2.2.2.2.2.2.2.2.2.2.1))).trans (hHeld.2.2.2.2.2.2.2.2.2.2.1)
                     have HS11_ := (hb.cell (World.block_lt_of_cell? _ _ (hHeld.2.2.2.2.2.2.2.2.2.2.2))).trans (hHeld.2.2.2.2.2.2.2.2.2.2.2)
                     refine ⟨_, rfl, ?_⟩
                     replace HO_9 := aM_ (Kd.R_below (rR_ HO_9) hb)
                     replace BK614 := aM_ (blk_below (g := gb614) (kR_ BK614) hb)
                     replace BK615 := aM_ (blk_below (g := gb615) (kR_ BK615) hb)
                     replace BK635 := aM_ (blk_below (g := gb635) (kR_ BK635) hb)
                     replace BK643 := aM_ (blk_below (g := gb643) (kR_ BK643) hb)
                     replace HB := aM_ (below_step hB_ hb)
                     (try clear hb)
                     (try clear hb2)
                     (try clear hk)
                     (try clear hi)
                     refine hK.out _ _ ⟨HS0_, HS1_, HS2_, HS3_, HS4_, HS5_, HS6_, HS7_, HS8_, HS9_, HS10_, HS11_⟩ (fun hHeld => ?_)
                     clear hK K
                     refine nm_ 222 ?_
                     refine pu_ 10 212 ?_
                     refine pu_ 11 223 ?_
                     refine pu_ 12 224 ?_
                     refine pu_ 13 22 ?_
                     refine pu_ 14 23 ?_
                     refine dn_ ?_
                     try go_wp2
                     go_roundg kj193
                     case measure => have := HJ11.out; have := HJ156.out; have := HK3.out; have := HJ193.out; omega
                     case rel => exact ⟨(wrap64 (x21_3 + 1)), z15_2_, H', ⟨by have := HJ11.out; have := HJ156.out; have := HK3.out; have := HJ193.out; omega⟩, ⟨(rR_ HO_9)⟩, ⟨kP_⟩, ⟨kP_⟩, ⟨kP_⟩, ⟨kP_⟩, ⟨hB_⟩⟩
     case rest =>
      as_aux_lemma =>
       clear HC154
       (try clear c1)
       obtain ⟨kq, HA, HJ153, HB⟩ := hcut
       cases kq with
       | zero => exact absurd HA.out (by simp [laws_FnShapes.j4])
       | succ kj153 =>
        as_aux_lemma =>
         have H := HA.out
         clear HA
         simp only [laws_FnShapes.j4] at H
         replace H := ob_ H; obtain ⟨⟨t664, t665, t666, t667, t668, t669⟩, A277, H⟩ := H; try dsimp only at H
         replace H := ob_ H; obtain ⟨⟨t671, t672⟩, A278, H⟩ := H; try dsimp only at H
         replace H := ob_ H; obtain ⟨⟨t673, t674⟩, A279, H⟩ := H; try dsimp only at H
         replace H := ob_ H; obtain ⟨t675, A280, H⟩ := H; try dsimp only at H
         replace H := ob_ H; obtain ⟨⟨t676, t677, t678, t679, t680, t681, t682⟩, A281, H⟩ := H; try dsimp only at H
         replace H := ob_ H; obtain ⟨⟨t684, t685, t686, t687, t688, t689, t690⟩, A282, H⟩ := H; try dsimp only at H
         have HC283 := Aside0.mk H
         clear H
         go_upto_region 34 with (first | ((with_reducible refine gC_ 14 ?_); refine gM_ (some 255) Tryd.func14 #[.slice A1 l1.length c1] ?_; (with_reducible refine (spec_DrawShapeText.calls kj153 _ _ l1 t664 t665 t666 t667 t668 t669 _ ?side1 ?side2 A277.out).mono ?_); (case side1 => exact z15_14_); (case side2 => exact HC1.out); rintro e w284 ⟨rfl, hb⟩; refine ⟨_, rfl, ?_⟩; replace HB := aM_ (below_step hB_ hb); (try clear hb)) | ((with_reducible refine gate_dst (N := 28) rfl ?_); (try (refine gate_guard (by rfl) ?_; dsimp only)); refine bx_ 28 #[.int .i64 0, .int .i64 0, .int .i64 0, .int .i64 0, .int .i64 0, .bool false] 25 fun gb670 hg w285 hbox hb => ?_; have BK670 := aM_ (hbox); have GW670 := aM_ (gw_ w hg); have GE670 := aM_ (gw_ w hg); replace HB := aM_ (below_step hB_ hb); clear hb hbox hg; have hz286 := cf6_ BK670.out) | ((with_reducible refine gC_ 15 ?_); refine gM_ (some 258) Tryd.func15 #[.agg #[.int .i64 t664, .int .i64 t665, .int .i64 t666, .int .i64 t667, .int .i64 t668, .bool t669]] ?_; (with_reducible refine (impl_ShapeText.calls kj153 t664 t665 t666 t667 t668 t669 t671 t672 _ A278.out).mono ?_); rintro e w287 ⟨rfl, hb⟩; refine ⟨_, rfl, ?_⟩; replace BK670 := aM_ (blk_below (g := gb670) (o := .cells #[.int .i64 t664, .int .i64 t665, .int .i64 t666, .int .i64 t667, .int .i64 t668, .bool t669] 25 (0, 0)) (by (with_reducible repeat (first | apply kN_ | apply kD_ | apply kA_)); refine blk_put (cs := #[.int .i64 t664, .int .i64 t665, .int .i64 t666, .int .i64 t667, .int .i64 t668, .bool false]) ?_ 5 _ rfl; (with_reducible repeat (first | apply kN_ | apply kD_ | apply kA_)); refine blk_put (cs := #[.int .i64 t664, .int .i64 t665, .int .i64 t666, .int .i64 t667, .int .i64 0, .bool false]) ?_ 4 _ rfl; (with_reducible repeat (first | apply kN_ | apply kD_ | apply kA_)); refine blk_put (cs := #[.int .i64 t664, .int .i64 t665, .int .i64 t666, .int .i64 0, .int .i64 0, .bool false]) ?_ 3 _ rfl; (with_reducible repeat (first | apply kN_ | apply kD_ | apply kA_)); refine blk_put (cs := #[.int .i64 t664, .int .i64 t665, .int .i64 0, .int .i64 0, .int .i64 0, .bool false]) ?_ 2 _ rfl; (with_reducible repeat (first | apply kN_ | apply kD_ | apply kA_)); refine blk_put (cs := #[.int .i64 t664, .int .i64 0, .int .i64 0, .int .i64 0, .int .i64 0, .bool false]) ?_ 1 _ rfl; (with_reducible repeat (first | apply kN_ | apply kD_ | apply kA_)); refine blk_put (cs := #[.int .i64 0, .int .i64 0, .int .i64 0, .int .i64 0, .int .i64 0, .bool false]) ?_ 0 _ rfl; (with_reducible repeat (first | apply kN_ | apply kD_ | apply kA_)); exact BK670.out) hb); replace HB := aM_ (below_step hB_ hb); (try clear hb); have hz288 := cf6_ BK670.out) | ((with_reducible refine gC_ 16 ?_); refine gM_ (some 263) Tryd.func16 #[.agg #[.int .i64 t664, .int .i64 t665, .int .i64 t666, .int .i64 t667, .int .i64 t668, .bool t669]] ?_; (with_reducible refine (spec_ShapeText.calls kj153 t664 t665 t666 t667 t668 t669 t673 t674 _ A279.out).mono ?_); rintro e w289 ⟨rfl, hb⟩; refine ⟨_, rfl, ?_⟩; replace BK670 := aM_ (blk_below (g := gb670) (kR_ BK670) hb); replace HB := aM_ (below_step hB_ hb); (try clear hb)) | ((with_reducible refine gC_ 17 ?_); refine gM_ (some 267) Tryd.func17 #[.slice A1 l1.length c1] ?_; (with_reducible refine (spec_DrawParseShape.calls kj153 _ _ l1 t675 _ ?side1 ?side2 A280.out).mono ?_); (case side1 => exact z15_14_); (case side2 => exact HC1.out); rintro e w290 ⟨rfl, hb⟩; refine ⟨_, rfl, ?_⟩; replace BK670 := aM_ (blk_below (g := gb670) (kR_ BK670) hb); replace HB := aM_ (below_step hB_ hb); (try clear hb)) | ((with_reducible refine gC_ 18 ?_); refine gM_ (some 270) Tryd.func18 #[.string t675] ?_; (with_reducible refine (impl_ParseShape.calls kj153 t675 t676 t677 t678 t679 t680 t681 t682 _ A281.out).mono ?_); rintro e w291 ⟨rfl, hb⟩; refine ⟨_, rfl, ?_⟩; replace BK670 := aM_ (blk_below (g := gb670) (kR_ BK670) hb); replace HB := aM_ (below_step hB_ hb); (try clear hb)) | ((with_reducible refine gate_dst (N := 34) rfl ?_); (try (refine gate_guard (by rfl) ?_; dsimp only)); refine bx_ 34 #[.int .i64 0, .int .i64 0, .int .i64 0, .int .i64 0, .int .i64 0, .bool false] 25 fun gb683 hg w292 hbox hb => ?_; have BK683 := aM_ (hbox); have GW683 := aM_ (gw_ w hg); have GE683 := aM_ (gw_ w hg); have NB670_683 := aM_ (nR_ BK670 hg); have NB683_670 := aM_ (mR_ BK670 hg); replace BK670 := aM_ (blk_below (g := gb670) (kR_ BK670) hb); replace HB := aM_ (below_step hB_ hb); clear hb hbox hg; have hnb293 := NB683_670.out; have hnc293 := NB670_683.out; have hz294 := cf6_ BK683.out) | ((with_reducible refine gC_ 19 ?_); refine gM_ (some 275) Tryd.func19 #[.string t675] ?_; (with_reducible refine (spec_ParseShape.calls kj153 t675 t684 t685 t686 t687 t688 t689 t690 _ A282.out).mono ?_); rintro e w295 ⟨rfl, hb⟩; refine ⟨_, rfl, ?_⟩; replace BK670 := aM_ (blk_below (g := gb670) (kR_ BK670) hb); replace BK683 := aM_ (blk_below (g := gb683) (o := .cells #[.int .i64 t676, .int .i64 t677, .int .i64 t678, .int .i64 t679, .int .i64 t680, .bool t681] 25 (0, 0)) (by (with_reducible repeat (first | apply kN_ | apply kD_ | apply kA_)); refine blk_put (cs := #[.int .i64 t676, .int .i64 t677, .int .i64 t678, .int .i64 t679, .int .i64 t680, .bool false]) ?_ 5 _ rfl; (with_reducible repeat (first | apply kN_ | apply kD_ | apply kA_)); refine blk_put (cs := #[.int .i64 t676, .int .i64 t677, .int .i64 t678, .int .i64 t679, .int .i64 0, .bool false]) ?_ 4 _ rfl; (with_reducible repeat (first | apply kN_ | apply kD_ | apply kA_)); refine blk_put (cs := #[.int .i64 t676, .int .i64 t677, .int .i64 t678, .int .i64 0, .int .i64 0, .bool false]) ?_ 3 _ rfl; (with_reducible repeat (first | apply kN_ | apply kD_ | apply kA_)); refine blk_put (cs := #[.int .i64 t676, .int .i64 t677, .int .i64 0, .int .i64 0, .int .i64 0, .bool false]) ?_ 2 _ rfl; (with_reducible repeat (first | apply kN_ | apply kD_ | apply kA_)); refine blk_put (cs := #[.int .i64 t676, .int .i64 0, .int .i64 0, .int .i64 0, .int .i64 0, .bool false]) ?_ 1 _ rfl; (with_reducible repeat (first | apply kN_ | apply kD_ | apply kA_)); refine blk_put (cs := #[.int .i64 0, .int .i64 0, .int .i64 0, .int .i64 0, .int .i64 0, .bool false]) ?_ 0 _ rfl; (with_reducible repeat (first | apply kN_ | apply kD_ | apply kA_)); exact BK683.out) hb); replace HB := aM_ (below_step hB_ hb); (try clear hb)) | ((with_reducible refine gate_dst (N := 36) rfl ?_); (try (refine gate_guard (by rfl) ?_; dsimp only)); refine bx_ 36 #[.int .i64 0, .int .i64 0, .int .i64 0, .int .i64 0, .int .i64 0, .bool false] 25 fun gb691 hg w296 hbox hb => ?_; have BK691 := aM_ (hbox); have GW691 := aM_ (gw_ w hg); have GE691 := aM_ (gw_ w hg); have NB670_691 := aM_ (nR_ BK670 hg); have NB691_670 := aM_ (mR_ BK670 hg); have NB683_691 := aM_ (nR_ BK683 hg); have NB691_683 := aM_ (mR_ BK683 hg); replace BK670 := aM_ (blk_below (g := gb670) (kR_ BK670) hb); replace BK683 := aM_ (blk_below (g := gb683) (kR_ BK683) hb); replace HB := aM_ (below_step hB_ hb); clear hb hbox hg; have hnb297 := NB691_670.out; have hnc297 := NB670_691.out; have hnb298 := NB691_683.out; have hnc298 := NB683_691.out; have hz299 := cf6_ BK691.out))
         (try simp only [Act.put, List.setIfInBounds_toArray, List.set_cons_zero, List.set_cons_succ])
         go_cut [295] (fun v295 wc => ∃ (kq : Nat) (x295_282 : Bool), v295 = .bool x295_282 ∧ Aside0 (laws_FnShapes.j5 kq t671 t672 x295_282 t664 t665 t666 t667 t668 t669 = some r) ∧ Aside0 (kq ≤ kj153) ∧ Aside0 (wc.heap[gb670]? = some (.cells #[.int .i64 t664, .int .i64 t665, .int .i64 t666, .int .i64 t667, .int .i64 t668, .bool t669] 25 (0, 0))) ∧ Aside0 (Below w.heap.size w wc))
         case first =>
          as_aux_lemma =>
           have H := HC283.out
           clear HC283
           by_cases c300 : (t672 != t674) = true
           ·rw [if_pos c300] at H
            have c300b0 : (t672 != t674) = true := c300
            (try (have c300b1 : decide (t672 = t674) = false := by simpa using c300))
            (try (have c300b2 : (t672 == t674) = false := by simpa using c300))
            (try (have c300b3 : ¬ (t672 = t674) := by simpa using c300))
            clear c300
            (first | rw [c300b0] | (simp only [i64_w, i32_w]; rw [c300b0]) | skip)
            as_aux_lemma =>
             have H' := Aside0.mk H
             clear H
             go_wp2
             go_meet
             case rel => exact ⟨_, (true), z15_2_, H', ⟨z15_15_⟩, ⟨z15_16_⟩, ⟨hB_⟩⟩
           rw [if_neg c300] at H
           have c300b0 : (t672 != t674) = false := by simpa using c300
           (try (have c300b1 : decide (t672 = t674) = true := by simpa using c300))
           (try (have c300b2 : (t672 == t674) = true := by simpa using c300))
           clear c300
           (first | rw [c300b0] | (simp only [i64_w, i32_w]; rw [c300b0]) | skip)
           by_cases c301 : t671.toList = t673.toList
           rotate_left
           ·rw [if_neg c301] at H
            have c301b0 : (t671.toList == t673.toList) = false := beq_eq_false_iff_ne.mpr c301
            have c301b1 : (t671.toList != t673.toList) = true := bne_iff_ne.mpr c301
            as_aux_lemma =>
             have H' := Aside0.mk H
             clear H
             go_wp2
             go_meet
             case rel => exact ⟨_, (true), z15_2_, H', ⟨z15_15_⟩, ⟨z15_16_⟩, ⟨hB_⟩⟩
           rw [if_pos c301] at H
           have c301b0 : (t671.toList == t673.toList) = true := beq_iff_eq.mpr c301
           have c301b1 : (t671.toList != t673.toList) = false := bne_eq_false_iff_eq.mpr c301
           clear c301
           by_cases c302 : (t682 != t690) = true
           ·rw [if_pos c302] at H
            have c302b0 : (t682 != t690) = true := c302
            (try (have c302b1 : decide (t682 = t690) = false := by simpa using c302))
            (try (have c302b2 : (t682 == t690) = false := by simpa using c302))
            (try (have c302b3 : ¬ (t682 = t690) := by simpa using c302))
            clear c302
            as_aux_lemma =>
             have H' := Aside0.mk H
             clear H
             go_wp2
             go_meet
             case rel => exact ⟨_, (true), z15_2_, H', ⟨z15_15_⟩, ⟨z15_16_⟩, ⟨hB_⟩⟩
           rw [if_neg c302] at H
           have c302b0 : (t682 != t690) = false := by simpa using c302
           (try (have c302b1 : decide (t682 = t690) = true := by simpa using c302))
           (try (have c302b2 : (t682 == t690) = true := by simpa using c302))
           clear c302
           as_aux_lemma =>
            have H' := Aside0.mk H
            clear H
            have hnb303 := NB683_670.out
            have hnc303 := NB670_683.out
            have hnb304 := NB683_691.out
            have hnc304 := NB691_683.out
            have hz305 := cf6_ BK683.out
            clear BK683
            have hnb306 := NB691_670.out
            have hnc306 := NB670_691.out
            have hz307 := cf6_ BK691.out
            go_wp2
            go_meet
            case rel => exact ⟨_, ((!(t676 == t684) || (!(t677 == t685) || (!(t678 == t686) || (!(t679 == t687) || (!(t680 == t688) || (!(t681 == t689)))))))), z15_2_, H', ⟨z15_15_⟩, ⟨z15_16_⟩, ⟨hB_⟩⟩
         case rest =>
          as_aux_lemma =>
           clear HC283
           (try clear c1);(try clear hcz286_0);(try clear hcz286_1);(try clear hcz286_2);(try clear hcz286_3);(try clear hcz286_4);(try clear hcz286_5);(try clear hcz288_0);(try clear hcz288_1);(try clear hcz288_2);(try clear hcz288_3);(try clear hcz288_4);(try clear hcz288_5);(try clear hcz294_0);(try clear hcz294_1);(try clear hcz294_2);(try clear hcz294_3);(try clear hcz294_4);(try clear hcz294_5);(try clear hcz299_0);(try clear hcz299_1);(try clear hcz299_2);(try clear hcz299_3);(try clear hcz299_4);(try clear hcz299_5);(try clear hfz286_0);(try clear hfz286_1);(try clear hfz286_2);(try clear hfz286_3);(try clear hfz286_4);(try clear hfz286_5);(try clear hfz288_0);(try clear hfz288_1);(try clear hfz288_2);(try clear hfz288_3);(try clear hfz288_4);(try clear hfz288_5);(try clear hfz294_0);(try clear hfz294_1);(try clear hfz294_2);(try clear hfz294_3);(try clear hfz294_4);(try clear hfz294_5);(try clear hfz299_0);(try clear hfz299_1);(try clear hfz299_2);(try clear hfz299_3);(try clear hfz299_4);(try clear hfz299_5)
           obtain ⟨kq, x295_282, rfl, HA, HJ282, BK670, HB⟩ := hcut
           cases kq with
           | zero => exact absurd HA.out (by simp [laws_FnShapes.j5])
           | succ kj282 =>
            as_aux_lemma =>
             have H := HA.out
             clear HA
             simp only [laws_FnShapes.j5] at H
             by_cases c308 : x295_282 = true
             ·subst c308
              replace H := ip_ H rfl
              as_aux_lemma =>
               obtain rfl := Option.some.inj H
               go_wp2
               go_ret
               exact ⟨rT_, hB_⟩
             replace c308 := Bool.eq_false_iff.mpr c308
             subst c308
             replace H := in_ H (show ¬ (false = true) by decide)
             by_cases c309 : t672 = true
             rotate_left
             ·replace c309 := Bool.eq_false_iff.mpr c309
              subst c309
              replace H := in_ H (show ¬ (false = true) by decide)
              as_aux_lemma =>
               obtain rfl := Option.some.inj H
               go_wp2
               go_ret
               exact ⟨rT_, hB_⟩
             subst c309
             replace H := ip_ H rfl
             replace H := ob_ H; obtain ⟨⟨t692, t693, t694, t695, t696, t697, t698⟩, A310, H⟩ := H; try dsimp only at H
             by_cases c311 : t698 = true
             rotate_left
             ·replace c311 := Bool.eq_false_iff.mpr c311
              subst c311
              replace H := in_ H (show ¬ (false = true) by decide)
              as_aux_lemma =>
               obtain rfl := Option.some.inj H
               clear BK670
               go_wp2_with (first | ((with_reducible refine gC_ 18 ?_); refine gM_ (some 299) Tryd.func18 #[.string t671] ?_; (with_reducible refine (impl_ParseShape.calls kj282 t671 t692 t693 t694 t695 t696 t697 false _ A310.out).mono ?_); rintro e w317 ⟨rfl, hb⟩; refine ⟨_, rfl, ?_⟩; replace HB := aM_ (below_step hB_ hb); (try clear hb)) | ((with_reducible refine gate_dst (N := 38) rfl ?_); (try (refine gate_guard (by rfl) ?_; dsimp only)); refine bx_ 38 #[.int .i64 0, .int .i64 0, .int .i64 0, .int .i64 0, .int .i64 0, .bool false] 25 fun gb699 hg w318 hbox hb => ?_; have BK699 := aM_ (hbox); have GW699 := aM_ (gw_ w hg); have GE699 := aM_ (gw_ w hg); replace HB := aM_ (below_step hB_ hb); clear hb hbox hg; have hz319 := cf6_ BK699.out))
               go_ret
               exact ⟨rT_, hB_⟩
             subst c311
             replace H := ip_ H rfl
             as_aux_lemma =>
              obtain rfl := Option.some.inj H
              go_wp2_with (first | ((with_reducible refine gC_ 18 ?_); refine gM_ (some 299) Tryd.func18 #[.string t671] ?_; (with_reducible refine (impl_ParseShape.calls kj282 t671 t692 t693 t694 t695 t696 t697 true _ A310.out).mono ?_); rintro e w312 ⟨rfl, hb⟩; refine ⟨_, rfl, ?_⟩; replace BK670 := aM_ (blk_below (g := gb670) (kR_ BK670) hb); replace HB := aM_ (below_step hB_ hb); (try clear hb)) | ((with_reducible refine gate_dst (N := 38) rfl ?_); (try (refine gate_guard (by rfl) ?_; dsimp only)); refine bx_ 38 #[.int .i64 0, .int .i64 0, .int .i64 0, .int .i64 0, .int .i64 0, .bool false] 25 fun gb699 hg w313 hbox hb => ?_; have BK699 := aM_ (hbox); have GW699 := aM_ (gw_ w hg); have GE699 := aM_ (gw_ w hg); have NB670_699 := aM_ (nR_ BK670 hg); have NB699_670 := aM_ (mR_ BK670 hg); replace BK670 := aM_ (blk_below (g := gb670) (kR_ BK670) hb); replace HB := aM_ (below_step hB_ hb); clear hb hbox hg; have hnb314 := NB699_670.out; have hnc314 := NB670_699.out; have hz315 := cf6_ BK699.out; have hz316 := cf6_ BK670.out))
              go_ret
              exact ⟨rT_, hB_⟩
theorem laws_FnShapes.walk : True := trivial

end Go.Proofs.YtbfkpgmdbafmhaaDoor.PFnShapes
