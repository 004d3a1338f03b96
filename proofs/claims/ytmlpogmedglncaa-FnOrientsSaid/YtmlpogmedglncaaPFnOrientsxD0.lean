/- Written by a program of this claim's author, out of the loaded program as Lean prints it: the functions as Lean functions, and that the calls answer so. -/
import Derived.Test.YtmlpogmedglncaaPFnOrientsx0
namespace Go.Proofs.Ytmlpogmedglncaa.PFnOrients
open Go.RowKit Go.Proofs.YtmlpogmedglncaaW.PrintWords Go.Proofs.YtmlpogmedglncaaW.PrintLast Go.Proofs.YtmlpogmedglncaaW.PrintMore
attribute [local go_sem] max2_int min2_int max_two min_two max_three min_three max_four min_four   -- for this text's walks alone
set_option linter.unusedVariables false
set_option linter.unusedSimpArgs false

def laws_big.f (l0 : List Int) (l1 : List Int) : Option (Bool) := if (l0.length : Int) > 1048576 then (some true) else (some (decide ((l1.length : Int) > (wrap64 (1048576 - (l0.length : Int))))))
def spec_l1Cur_next.f (s0_0 : List Int) (s0_1 : Int) (s0_2 : Int) : Option (Int × Int × Int) := if s0_1 < (s0_0.length : Int) then (if 0 ≤ s0_1 then (if (wrap64 (s0_1 + 1)) ≤ (s0_0.length : Int) then (some (wrap64 (rd s0_0 s0_1), wrap64 (s0_1 + 1), IntKind.u64.wrap ((IntKind.u64.wrap ((IntKind.u64.wrap (s0_2 * 6364136223846793005)) + (IntKind.u64.wrap (wrap64 (rd s0_0 s0_1))))) + 1442695040888963407))) else (some (wrap64 (Go.bits .and .u64 ((IntKind.u64.wrap ((IntKind.u64.wrap ((IntKind.u64.wrap (s0_2 * 6364136223846793005)) + (IntKind.u64.wrap (wrap64 (rd s0_0 s0_1))))) + 1442695040888963407)) / 1099511627776) 255), wrap64 (s0_1 + 1), IntKind.u64.wrap ((IntKind.u64.wrap ((IntKind.u64.wrap (s0_2 * 6364136223846793005)) + (IntKind.u64.wrap (wrap64 (rd s0_0 s0_1))))) + 1442695040888963407)))) else (none)) else (if (wrap64 (s0_1 + 1)) ≤ (s0_0.length : Int) then (some (0, wrap64 (s0_1 + 1), IntKind.u64.wrap ((IntKind.u64.wrap ((IntKind.u64.wrap (s0_2 * 6364136223846793005)))) + 1442695040888963407))) else (some (wrap64 (Go.bits .and .u64 ((IntKind.u64.wrap ((IntKind.u64.wrap ((IntKind.u64.wrap (s0_2 * 6364136223846793005)))) + 1442695040888963407)) / 1099511627776) 255), wrap64 (s0_1 + 1), IntKind.u64.wrap ((IntKind.u64.wrap ((IntKind.u64.wrap (s0_2 * 6364136223846793005)))) + 1442695040888963407))))
def spec_l1Cur_pick.f (s0_0 : List Int) (s0_1 : Int) (s0_2 : Int) (a1 : Int) : Option (Int × Int × Int) := if a1 ≤ 1 then (some (0, s0_1, s0_2)) else ((spec_l1Cur_next.f s0_0 s0_1 s0_2).bind fun bt102 => (if a1 > 200 then ((spec_l1Cur_next.f s0_0 bt102.2.1 bt102.2.2).bind fun bt105 => (if a1 = 0 then (none) else (some (Int.tmod (wrap64 ((wrap64 (bt102.1 * 256)) + bt105.1)) a1, bt105.2.1, bt105.2.2)))) else (if a1 = 0 then (none) else (some (Int.tmod bt102.1 a1, bt102.2.1, bt102.2.2)))))
def spec_orOpposite.f (a0 : Int) : Option (Int) := if (Int.tmod a0 2) = 0 then (some (wrap64 (a0 + 1))) else (some (wrap64 (a0 - 1)))
def spec_l1In.f (a0 : Int) (a1 : Int) (a2 : Int) : Option (Bool) := if a0 ≥ a1 then (some (decide (a0 ≤ a2))) else (some false)
def spec_orDir.f (a0 : Int) : Option (Bool) := (spec_l1In.f a0 0 5).bind fun t108 => (some t108)
def spec_orGood.f (a0_0 : Int) (a0_1 : Int) : Option (Bool) := (spec_orDir.f a0_0).bind fun t110 => (if t110 = true then ((spec_orDir.f a0_1).bind fun t111 => (if t111 = true then (if a0_0 = a0_1 then (some false) else ((spec_orOpposite.f a0_1).bind fun t112 => (some (a0_0 != t112)))) else (some false))) else (some false))
mutual
def spec_AllOrients.l0 : Nat → List (S39) → Int → Option ((List (S39)))
  | 0, _, _ => none
  | k + 1, x1, x2 => if x2 ≤ 5 then (spec_AllOrients.l1 k x1 x2 0) else (some x1)
def spec_AllOrients.l1 : Nat → List (S39) → Int → Int → Option ((List (S39)))
  | 0, _, _, _ => none
  | k + 1, x1, x2, x3 => if x3 ≤ 5 then ((spec_orGood.f x2 x3).bind fun t114 => (if t114 = true then (if x1.length < 8796093022208 then (spec_AllOrients.l1 k (x1 ++ [(⟨x2, x3⟩ : S39)]) x2 (wrap64 (x3 + 1))) else (none)) else (spec_AllOrients.l1 k x1 x2 (wrap64 (x3 + 1))))) else (spec_AllOrients.l0 k x1 (wrap64 (x2 + 1)))
end
def spec_AllOrients.f (k : Nat)  : Option ((List (S39))) := spec_AllOrients.l0 k ([] : List (S39)) 0
theorem spec_AllOrients.mono_l : ∀ k, (∀ y0 y1, LeO (spec_AllOrients.l0 k y0 y1) (spec_AllOrients.l0 (k + 1) y0 y1)) ∧ (∀ y0 y1 y2, LeO (spec_AllOrients.l1 k y0 y1 y2) (spec_AllOrients.l1 (k + 1) y0 y1 y2))
  | 0 => ⟨fun _ _ r h => by simp [spec_AllOrients.l0] at h, fun _ _ _ r h => by simp [spec_AllOrients.l1] at h⟩
  | k + 1 => by
    obtain ⟨ih0, ih1⟩ := spec_AllOrients.mono_l k
    refine ⟨?_, ?_⟩
    · intro y0 y1
      unfold spec_AllOrients.l0
      repeat' first
      | (with_reducible exact ih0 _ _)
      | (with_reducible exact ih1 _ _ _)
      | (with_reducible exact LeO.refl _)
      | (with_reducible exact LeO.none _)
      | (with_reducible refine LeO.ite ?_ ?_)
      | (with_reducible refine LeO.bind ?_ (fun _ => ?_))
    · intro y0 y1 y2
      unfold spec_AllOrients.l1
      repeat' first
      | (with_reducible exact ih0 _ _)
      | (with_reducible exact ih1 _ _ _)
      | (with_reducible exact LeO.refl _)
      | (with_reducible exact LeO.none _)
      | (with_reducible refine LeO.ite ?_ ?_)
      | (with_reducible refine LeO.bind ?_ (fun _ => ?_))
theorem spec_AllOrients.mono : ∀ k, LeO (spec_AllOrients.f k ) (spec_AllOrients.f (k + 1) ) := by
  intro  k
  obtain ⟨ih0, ih1⟩ := spec_AllOrients.mono_l k
  unfold spec_AllOrients.f
  repeat' first
      | (with_reducible exact ih0 _ _)
      | (with_reducible exact ih1 _ _ _)
      | (with_reducible exact LeO.refl _)
      | (with_reducible exact LeO.none _)
      | (with_reducible refine LeO.ite ?_ ?_)
      | (with_reducible refine LeO.bind ?_ (fun _ => ?_))
noncomputable def spec_AllOrients.L0 (x1 : List (S39)) (x2 : Int) : Option ((List (S39))) := lim fun k => spec_AllOrients.l0 k x1 x2
theorem spec_AllOrients.L0_lim (x1 : List (S39)) (x2 : Int) : Lim (fun k => spec_AllOrients.l0 k x1 x2) (spec_AllOrients.L0 x1 x2) := ⟨fun k => (spec_AllOrients.mono_l k).1 x1 x2, rfl⟩
noncomputable def spec_AllOrients.L1 (x1 : List (S39)) (x2 : Int) (x3 : Int) : Option ((List (S39))) := lim fun k => spec_AllOrients.l1 k x1 x2 x3
theorem spec_AllOrients.L1_lim (x1 : List (S39)) (x2 : Int) (x3 : Int) : Lim (fun k => spec_AllOrients.l1 k x1 x2 x3) (spec_AllOrients.L1 x1 x2 x3) := ⟨fun k => (spec_AllOrients.mono_l k).2 x1 x2 x3, rfl⟩
noncomputable def spec_AllOrients.F  : Option ((List (S39))) := lim fun k => spec_AllOrients.f k 
theorem spec_AllOrients.F_lim  : Lim (fun k => spec_AllOrients.f k ) (spec_AllOrients.F ) := ⟨spec_AllOrients.mono , rfl⟩
theorem spec_AllOrients.L0_eq (x1 : List (S39)) (x2 : Int) : spec_AllOrients.L0 x1 x2 = (if x2 ≤ 5 then (spec_AllOrients.L1 x1 x2 0) else (some x1)) := by
  refine Lim.succ_eq (spec_AllOrients.L0_lim x1 x2).mon ?_
  simp only [spec_AllOrients.l0]
  repeat' first
  | (with_reducible exact spec_AllOrients.L0_lim _ _)
  | (with_reducible exact spec_AllOrients.L1_lim _ _ _)
  | (with_reducible refine Lim.ite ?_ ?_)
  | (with_reducible refine Lim.bind ?_ (fun _ => ?_))
  | (with_reducible exact Lim.const _)
theorem spec_AllOrients.L1_eq (x1 : List (S39)) (x2 : Int) (x3 : Int) : spec_AllOrients.L1 x1 x2 x3 = (if x3 ≤ 5 then ((spec_orGood.f x2 x3).bind fun t114 => (if t114 = true then (if x1.length < 8796093022208 then (spec_AllOrients.L1 (x1 ++ [(⟨x2, x3⟩ : S39)]) x2 (wrap64 (x3 + 1))) else (none)) else (spec_AllOrients.L1 x1 x2 (wrap64 (x3 + 1))))) else (spec_AllOrients.L0 x1 (wrap64 (x2 + 1)))) := by
  refine Lim.succ_eq (spec_AllOrients.L1_lim x1 x2 x3).mon ?_
  simp only [spec_AllOrients.l1]
  repeat' first
  | (with_reducible exact spec_AllOrients.L0_lim _ _)
  | (with_reducible exact spec_AllOrients.L1_lim _ _ _)
  | (with_reducible refine Lim.ite ?_ ?_)
  | (with_reducible refine Lim.bind ?_ (fun _ => ?_))
  | (with_reducible exact Lim.const _)
theorem spec_AllOrients.F_eq  : spec_AllOrients.F  = (spec_AllOrients.L0 ([] : List (S39)) 0) := by
  refine Lim.eq_ ?_
  simp only [spec_AllOrients.f]
  repeat' first
  | (with_reducible exact spec_AllOrients.L0_lim _ _)
  | (with_reducible exact spec_AllOrients.L1_lim _ _ _)
  | (with_reducible refine Lim.ite ?_ ?_)
  | (with_reducible refine Lim.bind ?_ (fun _ => ?_))
  | (with_reducible exact Lim.const _)
def spec_l1Cur_orient.f (k : Nat) (s0_0 : List Int) (s0_1 : Int) (s0_2 : Int) : Option (Int × Int × Int × Int) := (spec_AllOrients.f k).bind fun t119 => ((spec_l1Cur_pick.f s0_0 s0_1 s0_2 (t119.length : Int)).bind fun bt122 => (if 0 ≤ bt122.1 then (if bt122.1 < (t119.length : Int) then (some ((rd_T39 t119 bt122.1).f0, (rd_T39 t119 bt122.1).f1, bt122.2.1, bt122.2.2)) else (none)) else (none)))
theorem spec_l1Cur_orient.mono : ∀ a0 a1 a2 k, LeO (spec_l1Cur_orient.f k a0 a1 a2) (spec_l1Cur_orient.f (k + 1) a0 a1 a2) := by
  intro a0 a1 a2 k
  unfold spec_l1Cur_orient.f
  repeat' first
      | (with_reducible exact spec_AllOrients.mono _)
      | (with_reducible exact LeO.refl _)
      | (with_reducible exact LeO.none _)
      | (with_reducible refine LeO.ite ?_ ?_)
      | (with_reducible refine LeO.bind ?_ (fun _ => ?_))
noncomputable def spec_l1Cur_orient.F (s0_0 : List Int) (s0_1 : Int) (s0_2 : Int) : Option (Int × Int × Int × Int) := lim fun k => spec_l1Cur_orient.f k s0_0 s0_1 s0_2
theorem spec_l1Cur_orient.F_lim (s0_0 : List Int) (s0_1 : Int) (s0_2 : Int) : Lim (fun k => spec_l1Cur_orient.f k s0_0 s0_1 s0_2) (spec_l1Cur_orient.F s0_0 s0_1 s0_2) := ⟨spec_l1Cur_orient.mono s0_0 s0_1 s0_2, rfl⟩
theorem spec_l1Cur_orient.F_eq (s0_0 : List Int) (s0_1 : Int) (s0_2 : Int) : spec_l1Cur_orient.F s0_0 s0_1 s0_2 = ((spec_AllOrients.F).bind fun t119 => ((spec_l1Cur_pick.f s0_0 s0_1 s0_2 (t119.length : Int)).bind fun bt122 => (if 0 ≤ bt122.1 then (if bt122.1 < (t119.length : Int) then (some ((rd_T39 t119 bt122.1).f0, (rd_T39 t119 bt122.1).f1, bt122.2.1, bt122.2.2)) else (none)) else (none)))) := by
  refine Lim.eq_ ?_
  simp only [spec_l1Cur_orient.f]
  repeat' first
  | (with_reducible exact spec_AllOrients.F_lim)
  | (with_reducible refine Lim.ite ?_ ?_)
  | (with_reducible refine Lim.bind ?_ (fun _ => ?_))
  | (with_reducible exact Lim.const _)
def spec_l1Cur_one.f (s0_0 : List Int) (s0_1 : Int) (s0_2 : Int) (a1 : Int) : Option (Bool × Int × Int) := (spec_l1Cur_pick.f s0_0 s0_1 s0_2 a1).bind fun bt126 => (some ((bt126.1 == 0), bt126.2.1, bt126.2.2))
def spec_l1Cur_anyOrient.f (k : Nat) (s0_0 : List Int) (s0_1 : Int) (s0_2 : Int) : Option (Int × Int × Int × Int) := (spec_l1Cur_one.f s0_0 s0_1 s0_2 16).bind fun bt130 => (if bt130.1 = true then ((spec_l1Cur_pick.f s0_0 bt130.2.1 bt130.2.2 8).bind fun bt133 => ((spec_l1Cur_pick.f s0_0 bt133.2.1 bt133.2.2 8).bind fun bt136 => (some (wrap64 (bt133.1 - 1), wrap64 (bt136.1 - 1), bt136.2.1, bt136.2.2)))) else ((spec_l1Cur_orient.f k s0_0 bt130.2.1 bt130.2.2).bind fun bt139 => (some (bt139.1, bt139.2.1, bt139.2.2.1, bt139.2.2.2))))
theorem spec_l1Cur_anyOrient.mono : ∀ a0 a1 a2 k, LeO (spec_l1Cur_anyOrient.f k a0 a1 a2) (spec_l1Cur_anyOrient.f (k + 1) a0 a1 a2) := by
  intro a0 a1 a2 k
  unfold spec_l1Cur_anyOrient.f
  repeat' first
      | (with_reducible exact spec_l1Cur_orient.mono _ _ _ _)
      | (with_reducible exact LeO.refl _)
      | (with_reducible exact LeO.none _)
      | (with_reducible refine LeO.ite ?_ ?_)
      | (with_reducible refine LeO.bind ?_ (fun _ => ?_))
noncomputable def spec_l1Cur_anyOrient.F (s0_0 : List Int) (s0_1 : Int) (s0_2 : Int) : Option (Int × Int × Int × Int) := lim fun k => spec_l1Cur_anyOrient.f k s0_0 s0_1 s0_2
theorem spec_l1Cur_anyOrient.F_lim (s0_0 : List Int) (s0_1 : Int) (s0_2 : Int) : Lim (fun k => spec_l1Cur_anyOrient.f k s0_0 s0_1 s0_2) (spec_l1Cur_anyOrient.F s0_0 s0_1 s0_2) := ⟨spec_l1Cur_anyOrient.mono s0_0 s0_1 s0_2, rfl⟩
theorem spec_l1Cur_anyOrient.F_eq (s0_0 : List Int) (s0_1 : Int) (s0_2 : Int) : spec_l1Cur_anyOrient.F s0_0 s0_1 s0_2 = ((spec_l1Cur_one.f s0_0 s0_1 s0_2 16).bind fun bt130 => (if bt130.1 = true then ((spec_l1Cur_pick.f s0_0 bt130.2.1 bt130.2.2 8).bind fun bt133 => ((spec_l1Cur_pick.f s0_0 bt133.2.1 bt133.2.2 8).bind fun bt136 => (some (wrap64 (bt133.1 - 1), wrap64 (bt136.1 - 1), bt136.2.1, bt136.2.2)))) else ((spec_l1Cur_orient.F s0_0 bt130.2.1 bt130.2.2).bind fun bt139 => (some (bt139.1, bt139.2.1, bt139.2.2.1, bt139.2.2.2))))) := by
  refine Lim.eq_ ?_
  simp only [spec_l1Cur_anyOrient.f]
  repeat' first
  | (with_reducible exact spec_l1Cur_orient.F_lim _ _ _)
  | (with_reducible refine Lim.ite ?_ ?_)
  | (with_reducible refine Lim.bind ?_ (fun _ => ?_))
  | (with_reducible exact Lim.const _)
def spec_DrawIsOrient.f (k : Nat) (l0 : List Int) : Option (Int × Int) := (spec_l1Cur_anyOrient.f k l0 0 0).bind fun bt145 => (some (bt145.1, bt145.2.1))
theorem spec_DrawIsOrient.mono : ∀ a0 k, LeO (spec_DrawIsOrient.f k a0) (spec_DrawIsOrient.f (k + 1) a0) := by
  intro a0 k
  unfold spec_DrawIsOrient.f
  repeat' first
      | (with_reducible exact spec_l1Cur_anyOrient.mono _ _ _ _)
      | (with_reducible exact LeO.refl _)
      | (with_reducible exact LeO.none _)
      | (with_reducible refine LeO.ite ?_ ?_)
      | (with_reducible refine LeO.bind ?_ (fun _ => ?_))
noncomputable def spec_DrawIsOrient.F (l0 : List Int) : Option (Int × Int) := lim fun k => spec_DrawIsOrient.f k l0
theorem spec_DrawIsOrient.F_lim (l0 : List Int) : Lim (fun k => spec_DrawIsOrient.f k l0) (spec_DrawIsOrient.F l0) := ⟨spec_DrawIsOrient.mono l0, rfl⟩
theorem spec_DrawIsOrient.F_eq (l0 : List Int) : spec_DrawIsOrient.F l0 = ((spec_l1Cur_anyOrient.F l0 0 0).bind fun bt145 => (some (bt145.1, bt145.2.1))) := by
  refine Lim.eq_ ?_
  simp only [spec_DrawIsOrient.f]
  repeat' first
  | (with_reducible exact spec_l1Cur_anyOrient.F_lim _ _ _)
  | (with_reducible refine Lim.ite ?_ ?_)
  | (with_reducible refine Lim.bind ?_ (fun _ => ?_))
  | (with_reducible exact Lim.const _)
def spec_DrawMirrorOrient.f (k : Nat) (l0 : List Int) : Option (Int × Int) := (spec_DrawIsOrient.f k l0).bind fun bt150 => (some (bt150.1, bt150.2))
theorem spec_DrawMirrorOrient.mono : ∀ a0 k, LeO (spec_DrawMirrorOrient.f k a0) (spec_DrawMirrorOrient.f (k + 1) a0) := by
  intro a0 k
  unfold spec_DrawMirrorOrient.f
  repeat' first
      | (with_reducible exact spec_DrawIsOrient.mono _ _)
      | (with_reducible exact LeO.refl _)
      | (with_reducible exact LeO.none _)
      | (with_reducible refine LeO.ite ?_ ?_)
      | (with_reducible refine LeO.bind ?_ (fun _ => ?_))
noncomputable def spec_DrawMirrorOrient.F (l0 : List Int) : Option (Int × Int) := lim fun k => spec_DrawMirrorOrient.f k l0
theorem spec_DrawMirrorOrient.F_lim (l0 : List Int) : Lim (fun k => spec_DrawMirrorOrient.f k l0) (spec_DrawMirrorOrient.F l0) := ⟨spec_DrawMirrorOrient.mono l0, rfl⟩
theorem spec_DrawMirrorOrient.F_eq (l0 : List Int) : spec_DrawMirrorOrient.F l0 = ((spec_DrawIsOrient.F l0).bind fun bt150 => (some (bt150.1, bt150.2))) := by
  refine Lim.eq_ ?_
  simp only [spec_DrawMirrorOrient.f]
  repeat' first
  | (with_reducible exact spec_DrawIsOrient.F_lim _)
  | (with_reducible refine Lim.ite ?_ ?_)
  | (with_reducible refine Lim.bind ?_ (fun _ => ?_))
  | (with_reducible exact Lim.const _)
def impl_within.f (a0 : Int) (a1 : Int) (a2 : Int) : Option (Bool) := if a0 ≥ a1 then (some (decide (a0 ≤ a2))) else (some false)
def impl_IsOrient.f (a0_0 : Int) (a0_1 : Int) : Option (Bool) := (impl_within.f a0_0 0 5).bind fun t153 => (if t153 = true then ((impl_within.f a0_1 0 5).bind fun t154 => (if t154 = true then (some ((wrap64 (Int.tdiv a0_0 2)) != (wrap64 (Int.tdiv a0_1 2)))) else (some false))) else (some false))
def impl_Orient_mirrored_1.f (a0 : Int) : Option (Int) := if a0 = 2 then (some (Go.bits .xor .i64 a0 1)) else (if a0 = 3 then (some (Go.bits .xor .i64 a0 1)) else (some a0))
def impl_Orient_mirrored.f (a0_0 : Int) (a0_1 : Int) : Option (Int × Int) := (impl_Orient_mirrored_1.f a0_0).bind fun t157 => ((impl_Orient_mirrored_1.f a0_1).bind fun t158 => (some (t157, t158)))
def impl_MirrorOrient.f (a0_0 : Int) (a0_1 : Int) : Option (Int × Int × Bool) := (impl_IsOrient.f a0_0 a0_1).bind fun t161 => (if t161 = true then ((impl_Orient_mirrored.f a0_0 a0_1).bind fun bt162 => (some (bt162.1, bt162.2, true))) else (some (0, 0, false)))
def spec_orSwap.f (a0 : Int) : Option (Int) := if a0 = 2 then ((spec_orOpposite.f a0).bind fun t164 => (some t164)) else (if a0 = 3 then ((spec_orOpposite.f a0).bind fun t165 => (some t165)) else (some a0))
def spec_orMirror.f (a0_0 : Int) (a0_1 : Int) : Option (Int × Int) := (spec_orSwap.f a0_0).bind fun t168 => ((spec_orSwap.f a0_1).bind fun t169 => (some (t168, t169)))
def spec_MirrorOrient.f (a0_0 : Int) (a0_1 : Int) : Option (Int × Int × Bool) := (spec_orGood.f a0_0 a0_1).bind fun t172 => (if t172 = true then ((spec_orMirror.f a0_0 a0_1).bind fun bt173 => (some (bt173.1, bt173.2, true))) else (some (0, 0, false)))
def impl_SeenOrient_1.f (a0 : Int) : Option (Int) := if a0 ≥ 2 then (some (Go.bits .xor .i64 a0 1)) else (some a0)
def impl_SeenOrient.f (a0_0 : Int) (a0_1 : Int) : Option (Int × Int × Bool) := (impl_IsOrient.f a0_0 a0_1).bind fun t177 => (if t177 = true then ((impl_SeenOrient_1.f a0_0).bind fun t178 => ((impl_SeenOrient_1.f a0_1).bind fun t179 => (some (t178, t179, true)))) else (some (0, 0, false)))
def spec_orSeen.f (a0 : Int) : Option (Int) := if a0 = 0 then (some a0) else (if a0 = 1 then (some a0) else ((spec_orOpposite.f a0).bind fun t180 => (some t180)))
def spec_SeenOrient.f (a0_0 : Int) (a0_1 : Int) : Option (Int × Int × Bool) := (spec_orGood.f a0_0 a0_1).bind fun t183 => (if t183 = true then ((spec_orSeen.f a0_0).bind fun t184 => ((spec_orSeen.f a0_1).bind fun t185 => (some (t184, t185, true)))) else (some (0, 0, false)))
mutual
def impl_AllOrients.l0 : Nat → List (S39) → Int → Option ((List (S39)))
  | 0, _, _ => none
  | k + 1, x1, x5 => if x5 < 6 then (impl_AllOrients.l1 k x1 x5 x5 0) else (some x1)
def impl_AllOrients.l1 : Nat → List (S39) → Int → Int → Int → Option ((List (S39)))
  | 0, _, _, _, _ => none
  | k + 1, x1, x2, x5, x8 => if x8 < 6 then ((impl_IsOrient.f x2 x8).bind fun t187 => (if t187 = true then (if x1.length < 8796093022208 then (impl_AllOrients.l1 k (x1 ++ [(⟨x2, x8⟩ : S39)]) x2 x5 (wrap64 (x8 + 1))) else (none)) else (impl_AllOrients.l1 k x1 x2 x5 (wrap64 (x8 + 1))))) else (impl_AllOrients.l0 k x1 (wrap64 (x5 + 1)))
end
def impl_AllOrients.f (k : Nat)  : Option ((List (S39))) := impl_AllOrients.l0 k ([] : List (S39)) 0
theorem impl_AllOrients.mono_l : ∀ k, (∀ y0 y1, LeO (impl_AllOrients.l0 k y0 y1) (impl_AllOrients.l0 (k + 1) y0 y1)) ∧ (∀ y0 y1 y2 y3, LeO (impl_AllOrients.l1 k y0 y1 y2 y3) (impl_AllOrients.l1 (k + 1) y0 y1 y2 y3))
  | 0 => ⟨fun _ _ r h => by simp [impl_AllOrients.l0] at h, fun _ _ _ _ r h => by simp [impl_AllOrients.l1] at h⟩
  | k + 1 => by
    obtain ⟨ih0, ih1⟩ := impl_AllOrients.mono_l k
    refine ⟨?_, ?_⟩
    · intro y0 y1
      unfold impl_AllOrients.l0
      repeat' first
      | (with_reducible exact ih0 _ _)
      | (with_reducible exact ih1 _ _ _ _)
      | (with_reducible exact LeO.refl _)
      | (with_reducible exact LeO.none _)
      | (with_reducible refine LeO.ite ?_ ?_)
      | (with_reducible refine LeO.bind ?_ (fun _ => ?_))
    · intro y0 y1 y2 y3
      unfold impl_AllOrients.l1
      repeat' first
      | (with_reducible exact ih0 _ _)
      | (with_reducible exact ih1 _ _ _ _)
      | (with_reducible exact LeO.refl _)
      | (with_reducible exact LeO.none _)
      | (with_reducible refine LeO.ite ?_ ?_)
      | (with_reducible refine LeO.bind ?_ (fun _ => ?_))
theorem impl_AllOrients.mono : ∀ k, LeO (impl_AllOrients.f k ) (impl_AllOrients.f (k + 1) ) := by
  intro  k
  obtain ⟨ih0, ih1⟩ := impl_AllOrients.mono_l k
  unfold impl_AllOrients.f
  repeat' first
      | (with_reducible exact ih0 _ _)
      | (with_reducible exact ih1 _ _ _ _)
      | (with_reducible exact LeO.refl _)
      | (with_reducible exact LeO.none _)
      | (with_reducible refine LeO.ite ?_ ?_)
      | (with_reducible refine LeO.bind ?_ (fun _ => ?_))
noncomputable def impl_AllOrients.L0 (x1 : List (S39)) (x5 : Int) : Option ((List (S39))) := lim fun k => impl_AllOrients.l0 k x1 x5
theorem impl_AllOrients.L0_lim (x1 : List (S39)) (x5 : Int) : Lim (fun k => impl_AllOrients.l0 k x1 x5) (impl_AllOrients.L0 x1 x5) := ⟨fun k => (impl_AllOrients.mono_l k).1 x1 x5, rfl⟩
noncomputable def impl_AllOrients.L1 (x1 : List (S39)) (x2 : Int) (x5 : Int) (x8 : Int) : Option ((List (S39))) := lim fun k => impl_AllOrients.l1 k x1 x2 x5 x8
theorem impl_AllOrients.L1_lim (x1 : List (S39)) (x2 : Int) (x5 : Int) (x8 : Int) : Lim (fun k => impl_AllOrients.l1 k x1 x2 x5 x8) (impl_AllOrients.L1 x1 x2 x5 x8) := ⟨fun k => (impl_AllOrients.mono_l k).2 x1 x2 x5 x8, rfl⟩
noncomputable def impl_AllOrients.F  : Option ((List (S39))) := lim fun k => impl_AllOrients.f k 
theorem impl_AllOrients.F_lim  : Lim (fun k => impl_AllOrients.f k ) (impl_AllOrients.F ) := ⟨impl_AllOrients.mono , rfl⟩
theorem impl_AllOrients.L0_eq (x1 : List (S39)) (x5 : Int) : impl_AllOrients.L0 x1 x5 = (if x5 < 6 then (impl_AllOrients.L1 x1 x5 x5 0) else (some x1)) := by
  refine Lim.succ_eq (impl_AllOrients.L0_lim x1 x5).mon ?_
  simp only [impl_AllOrients.l0]
  repeat' first
  | (with_reducible exact impl_AllOrients.L0_lim _ _)
  | (with_reducible exact impl_AllOrients.L1_lim _ _ _ _)
  | (with_reducible refine Lim.ite ?_ ?_)
  | (with_reducible refine Lim.bind ?_ (fun _ => ?_))
  | (with_reducible exact Lim.const _)
theorem impl_AllOrients.L1_eq (x1 : List (S39)) (x2 : Int) (x5 : Int) (x8 : Int) : impl_AllOrients.L1 x1 x2 x5 x8 = (if x8 < 6 then ((impl_IsOrient.f x2 x8).bind fun t187 => (if t187 = true then (if x1.length < 8796093022208 then (impl_AllOrients.L1 (x1 ++ [(⟨x2, x8⟩ : S39)]) x2 x5 (wrap64 (x8 + 1))) else (none)) else (impl_AllOrients.L1 x1 x2 x5 (wrap64 (x8 + 1))))) else (impl_AllOrients.L0 x1 (wrap64 (x5 + 1)))) := by
  refine Lim.succ_eq (impl_AllOrients.L1_lim x1 x2 x5 x8).mon ?_
  simp only [impl_AllOrients.l1]
  repeat' first
  | (with_reducible exact impl_AllOrients.L0_lim _ _)
  | (with_reducible exact impl_AllOrients.L1_lim _ _ _ _)
  | (with_reducible refine Lim.ite ?_ ?_)
  | (with_reducible refine Lim.bind ?_ (fun _ => ?_))
  | (with_reducible exact Lim.const _)
theorem impl_AllOrients.F_eq  : impl_AllOrients.F  = (impl_AllOrients.L0 ([] : List (S39)) 0) := by
  refine Lim.eq_ ?_
  simp only [impl_AllOrients.f]
  repeat' first
  | (with_reducible exact impl_AllOrients.L0_lim _ _)
  | (with_reducible exact impl_AllOrients.L1_lim _ _ _ _)
  | (with_reducible refine Lim.ite ?_ ?_)
  | (with_reducible refine Lim.bind ?_ (fun _ => ?_))
  | (with_reducible exact Lim.const _)
def laws_pSameOrients.l0 : Nat → List (S39) → List (S39) → Int → Int → Option (Bool)
  | 0, _, _, _, _ => none
  | k + 1, x0, x1, x12, x13 => if x13 < x12 then (if 0 ≤ x13 then (if x13 < (x0.length : Int) then (if x13 < (x1.length : Int) then (if (!(((rd_T39 x0 x13).f0) == ((rd_T39 x1 x13).f0)) || (!(((rd_T39 x0 x13).f1) == ((rd_T39 x1 x13).f1)))) = true then (some false) else (laws_pSameOrients.l0 k x0 x1 x12 (wrap64 (x13 + 1)))) else (none)) else (none)) else (none)) else (some true)
def laws_pSameOrients.f (k : Nat) (l0 : List (S39)) (l1 : List (S39)) : Option (Bool) := if (l0.length : Int) = (l1.length : Int) then (laws_pSameOrients.l0 k l0 l1 (l0.length : Int) 0) else (some false)
theorem laws_pSameOrients.mono_l : ∀ k, (∀ y0 y1 y2 y3, LeO (laws_pSameOrients.l0 k y0 y1 y2 y3) (laws_pSameOrients.l0 (k + 1) y0 y1 y2 y3))
  | 0 => fun _ _ _ _ r h => by simp [laws_pSameOrients.l0] at h
  | k + 1 => by
    have ih0 := laws_pSameOrients.mono_l k
    · intro y0 y1 y2 y3
      unfold laws_pSameOrients.l0
      repeat' first
      | (with_reducible exact ih0 _ _ _ _)
      | (with_reducible exact LeO.refl _)
      | (with_reducible exact LeO.none _)
      | (with_reducible refine LeO.ite ?_ ?_)
      | (with_reducible refine LeO.bind ?_ (fun _ => ?_))
theorem laws_pSameOrients.mono : ∀ a0 a1 k, LeO (laws_pSameOrients.f k a0 a1) (laws_pSameOrients.f (k + 1) a0 a1) := by
  intro a0 a1 k
  have ih0 := laws_pSameOrients.mono_l k
  unfold laws_pSameOrients.f
  repeat' first
      | (with_reducible exact ih0 _ _ _ _)
      | (with_reducible exact LeO.refl _)
      | (with_reducible exact LeO.none _)
      | (with_reducible refine LeO.ite ?_ ?_)
      | (with_reducible refine LeO.bind ?_ (fun _ => ?_))
noncomputable def laws_pSameOrients.L0 (x0 : List (S39)) (x1 : List (S39)) (x12 : Int) (x13 : Int) : Option (Bool) := lim fun k => laws_pSameOrients.l0 k x0 x1 x12 x13
theorem laws_pSameOrients.L0_lim (x0 : List (S39)) (x1 : List (S39)) (x12 : Int) (x13 : Int) : Lim (fun k => laws_pSameOrients.l0 k x0 x1 x12 x13) (laws_pSameOrients.L0 x0 x1 x12 x13) := ⟨fun k => (laws_pSameOrients.mono_l k) x0 x1 x12 x13, rfl⟩
noncomputable def laws_pSameOrients.F (l0 : List (S39)) (l1 : List (S39)) : Option (Bool) := lim fun k => laws_pSameOrients.f k l0 l1
theorem laws_pSameOrients.F_lim (l0 : List (S39)) (l1 : List (S39)) : Lim (fun k => laws_pSameOrients.f k l0 l1) (laws_pSameOrients.F l0 l1) := ⟨laws_pSameOrients.mono l0 l1, rfl⟩
theorem laws_pSameOrients.L0_eq (x0 : List (S39)) (x1 : List (S39)) (x12 : Int) (x13 : Int) : laws_pSameOrients.L0 x0 x1 x12 x13 = (if x13 < x12 then (if 0 ≤ x13 then (if x13 < (x0.length : Int) then (if x13 < (x1.length : Int) then (if (!(((rd_T39 x0 x13).f0) == ((rd_T39 x1 x13).f0)) || (!(((rd_T39 x0 x13).f1) == ((rd_T39 x1 x13).f1)))) = true then (some false) else (laws_pSameOrients.L0 x0 x1 x12 (wrap64 (x13 + 1)))) else (none)) else (none)) else (none)) else (some true)) := by
  refine Lim.succ_eq (laws_pSameOrients.L0_lim x0 x1 x12 x13).mon ?_
  simp only [laws_pSameOrients.l0]
  repeat' first
  | (with_reducible exact laws_pSameOrients.L0_lim _ _ _ _)
  | (with_reducible refine Lim.ite ?_ ?_)
  | (with_reducible refine Lim.bind ?_ (fun _ => ?_))
  | (with_reducible exact Lim.const _)
theorem laws_pSameOrients.F_eq (l0 : List (S39)) (l1 : List (S39)) : laws_pSameOrients.F l0 l1 = (if (l0.length : Int) = (l1.length : Int) then (laws_pSameOrients.L0 l0 l1 (l0.length : Int) 0) else (some false)) := by
  refine Lim.eq_ ?_
  simp only [laws_pSameOrients.f]
  repeat' first
  | (with_reducible exact laws_pSameOrients.L0_lim _ _ _ _)
  | (with_reducible refine Lim.ite ?_ ?_)
  | (with_reducible refine Lim.bind ?_ (fun _ => ?_))
  | (with_reducible exact Lim.const _)
def spec_DrawLeastTurns.f (k : Nat) (l0 : List Int) : Option (Int × Int × Int × Int) := (spec_l1Cur_anyOrient.f k l0 0 0).bind fun bt196 => ((spec_l1Cur_anyOrient.f k l0 bt196.2.2.1 bt196.2.2.2).bind fun bt200 => (some (bt196.1, bt196.2.1, bt200.1, bt200.2.1)))
theorem spec_DrawLeastTurns.mono : ∀ a0 k, LeO (spec_DrawLeastTurns.f k a0) (spec_DrawLeastTurns.f (k + 1) a0) := by
  intro a0 k
  unfold spec_DrawLeastTurns.f
  repeat' first
      | (with_reducible exact spec_l1Cur_anyOrient.mono _ _ _ _)
      | (with_reducible exact LeO.refl _)
      | (with_reducible exact LeO.none _)
      | (with_reducible refine LeO.ite ?_ ?_)
      | (with_reducible refine LeO.bind ?_ (fun _ => ?_))
noncomputable def spec_DrawLeastTurns.F (l0 : List Int) : Option (Int × Int × Int × Int) := lim fun k => spec_DrawLeastTurns.f k l0
theorem spec_DrawLeastTurns.F_lim (l0 : List Int) : Lim (fun k => spec_DrawLeastTurns.f k l0) (spec_DrawLeastTurns.F l0) := ⟨spec_DrawLeastTurns.mono l0, rfl⟩
theorem spec_DrawLeastTurns.F_eq (l0 : List Int) : spec_DrawLeastTurns.F l0 = ((spec_l1Cur_anyOrient.F l0 0 0).bind fun bt196 => ((spec_l1Cur_anyOrient.F l0 bt196.2.2.1 bt196.2.2.2).bind fun bt200 => (some (bt196.1, bt196.2.1, bt200.1, bt200.2.1)))) := by
  refine Lim.eq_ ?_
  simp only [spec_DrawLeastTurns.f]
  repeat' first
  | (with_reducible exact spec_l1Cur_anyOrient.F_lim _ _ _)
  | (with_reducible refine Lim.ite ?_ ?_)
  | (with_reducible refine Lim.bind ?_ (fun _ => ?_))
  | (with_reducible exact Lim.const _)
def spec_DrawPalmsMeet.f (k : Nat) (l0 : List Int) : Option (Int × Int × Int × Int) := (spec_DrawLeastTurns.f k l0).bind fun bt206 => (some (bt206.1, bt206.2.1, bt206.2.2.1, bt206.2.2.2))
theorem spec_DrawPalmsMeet.mono : ∀ a0 k, LeO (spec_DrawPalmsMeet.f k a0) (spec_DrawPalmsMeet.f (k + 1) a0) := by
  intro a0 k
  unfold spec_DrawPalmsMeet.f
  repeat' first
      | (with_reducible exact spec_DrawLeastTurns.mono _ _)
      | (with_reducible exact LeO.refl _)
      | (with_reducible exact LeO.none _)
      | (with_reducible refine LeO.ite ?_ ?_)
      | (with_reducible refine LeO.bind ?_ (fun _ => ?_))
noncomputable def spec_DrawPalmsMeet.F (l0 : List Int) : Option (Int × Int × Int × Int) := lim fun k => spec_DrawPalmsMeet.f k l0
theorem spec_DrawPalmsMeet.F_lim (l0 : List Int) : Lim (fun k => spec_DrawPalmsMeet.f k l0) (spec_DrawPalmsMeet.F l0) := ⟨spec_DrawPalmsMeet.mono l0, rfl⟩
theorem spec_DrawPalmsMeet.F_eq (l0 : List Int) : spec_DrawPalmsMeet.F l0 = ((spec_DrawLeastTurns.F l0).bind fun bt206 => (some (bt206.1, bt206.2.1, bt206.2.2.1, bt206.2.2.2))) := by
  refine Lim.eq_ ?_
  simp only [spec_DrawPalmsMeet.f]
  repeat' first
  | (with_reducible exact spec_DrawLeastTurns.F_lim _)
  | (with_reducible refine Lim.ite ?_ ?_)
  | (with_reducible refine Lim.bind ?_ (fun _ => ?_))
  | (with_reducible exact Lim.const _)
def impl_PalmsMeet.f (a0_0 : Int) (a0_1 : Int) (a1_0 : Int) (a1_1 : Int) : Option (Bool × Bool) := (impl_IsOrient.f a0_0 a0_1).bind fun t212 => (if t212 = true then ((impl_IsOrient.f a1_0 a1_1).bind fun t213 => (if t213 = true then (some (((Go.bits .xor .i64 a0_0 1) == a1_0), true)) else (some (false, false)))) else (some (false, false)))
def spec_PalmsMeet.f (a0_0 : Int) (a0_1 : Int) (a1_0 : Int) (a1_1 : Int) : Option (Bool × Bool) := (spec_orGood.f a0_0 a0_1).bind fun t216 => (if t216 = true then ((spec_orGood.f a1_0 a1_1).bind fun t217 => (if t217 = true then ((spec_orOpposite.f a1_0).bind fun t218 => (some ((a0_0 == t218), true))) else (some (false, false)))) else (some (false, false)))
def impl_OppositeDir.f (a0 : Int) : Option (Int × Bool) := (impl_within.f a0 0 5).bind fun t219 => (if t219 = true then (some (Go.bits .xor .i64 a0 1, true)) else (some (0, false)))
def spec_l1Cur_among.f (s0_0 : List Int) (s0_1 : Int) (s0_2 : Int) (l1 : List Int) : Option (Int × Int × Int) := (spec_l1Cur_pick.f s0_0 s0_1 s0_2 (l1.length : Int)).bind fun bt220 => (if 0 ≤ bt220.1 then (if bt220.1 < (l1.length : Int) then (some (rd l1 bt220.1, bt220.2.1, bt220.2.2)) else (none)) else (none))
def spec_l1Cur_dirOf.f (s0_0 : List Int) (s0_1 : Int) (s0_2 : Int) : Option (Int × Int × Int) := (spec_l1Cur_among.f s0_0 s0_1 s0_2 (([0, 3, (-1), 6, (-9223372036854775808)] : List Int))).bind fun bt227 => ((spec_l1Cur_among.f s0_0 bt227.2.1 bt227.2.2 (([0, 1, 2, 3, 4, 5, bt227.1] : List Int))).bind fun bt233 => (some (bt233.1, bt233.2.1, bt233.2.2)))
def spec_DrawOppositeDir.f (l0 : List Int) : Option (Int) := (spec_l1Cur_dirOf.f l0 0 0).bind fun bt237 => (some bt237.1)
def spec_OppositeDir.f (a0 : Int) : Option (Int × Bool) := (spec_orDir.f a0).bind fun t240 => (if t240 = true then ((spec_orOpposite.f a0).bind fun t241 => (some (t241, true))) else (some (0, false)))
mutual
def spec_l1Cur_spoilt.l0 : Nat → ByteArray → ByteArray → Int → List Int → Int → Int → Option (ByteArray × Int × Int)
  | 0, _, _, _, _, _, _ => none
  | k + 1, x1, x2, x7, x1000, x1001, x1002 => if x7 > 0 then (spec_l1Cur_spoilt.j1 k x1 x2 x7 (decide ((x1.size : Int) > 0)) x1000 x1001 x1002) else (spec_l1Cur_spoilt.j1 k x1 x2 x7 false x1000 x1001 x1002)
def spec_l1Cur_spoilt.j1 : Nat → ByteArray → ByteArray → Int → Bool → List Int → Int → Int → Option (ByteArray × Int × Int)
  | 0, _, _, _, _, _, _, _ => none
  | k + 1, x1, x2, x7, x19, x1000, x1001, x1002 => if x19 = true then ((spec_l1Cur_pick.f x1000 x1001 x1002 (x1.size : Int)).bind fun bt245 => ((spec_l1Cur_pick.f x1000 bt245.2.1 bt245.2.2 (x2.size : Int)).bind fun bt248 => (if 0 ≤ bt248.1 then (if bt248.1 < (x2.size : Int) then ((some (([bt x2 bt248.1] : List Int) : List Int)).bind fun y251 => ((spec_l1Cur_pick.f x1000 bt248.2.1 bt248.2.2 3).bind fun bt254 => (if bt254.1 = 0 then (if 0 ≤ bt245.1 then (if bt245.1 ≤ (x1.size : Int) then (if (x1.extract 0 (bt245.1 : Int).toNat).size + (strOfNums y251).size ≤ 9223372036854775807 then (if ((x1.extract 0 (bt245.1 : Int).toNat) ++ (strOfNums y251)).size + (x1.extract (bt245.1 : Int).toNat x1.size).size ≤ 9223372036854775807 then (spec_l1Cur_spoilt.l0 k (((x1.extract 0 (bt245.1 : Int).toNat) ++ (strOfNums y251)) ++ (x1.extract (bt245.1 : Int).toNat x1.size)) x2 (wrap64 (x7 - 1)) x1000 bt254.2.1 bt254.2.2) else (none)) else (none)) else (none)) else (none)) else (if bt254.1 = 1 then (if 0 ≤ bt245.1 then (if bt245.1 ≤ (x1.size : Int) then (if (x1.extract 0 (bt245.1 : Int).toNat).size + (strOfNums y251).size ≤ 9223372036854775807 then (if 0 ≤ (wrap64 (bt245.1 + 1)) then (if (wrap64 (bt245.1 + 1)) ≤ (x1.size : Int) then (if ((x1.extract 0 (bt245.1 : Int).toNat) ++ (strOfNums y251)).size + (x1.extract ((wrap64 (bt245.1 + 1)) : Int).toNat x1.size).size ≤ 9223372036854775807 then (spec_l1Cur_spoilt.l0 k (((x1.extract 0 (bt245.1 : Int).toNat) ++ (strOfNums y251)) ++ (x1.extract ((wrap64 (bt245.1 + 1)) : Int).toNat x1.size)) x2 (wrap64 (x7 - 1)) x1000 bt254.2.1 bt254.2.2) else (none)) else (none)) else (none)) else (none)) else (none)) else (none)) else (if 0 ≤ bt245.1 then (if bt245.1 ≤ (x1.size : Int) then (if 0 ≤ (wrap64 (bt245.1 + 1)) then (if (wrap64 (bt245.1 + 1)) ≤ (x1.size : Int) then (if (x1.extract 0 (bt245.1 : Int).toNat).size + (x1.extract ((wrap64 (bt245.1 + 1)) : Int).toNat x1.size).size ≤ 9223372036854775807 then (spec_l1Cur_spoilt.l0 k ((x1.extract 0 (bt245.1 : Int).toNat) ++ (x1.extract ((wrap64 (bt245.1 + 1)) : Int).toNat x1.size)) x2 (wrap64 (x7 - 1)) x1000 bt254.2.1 bt254.2.2) else (none)) else (none)) else (none)) else (none)) else (none)))))) else (none)) else (none)))) else (some (x1, x1001, x1002))
end
def spec_l1Cur_spoilt.f (k : Nat) (s0_0 : List Int) (s0_1 : Int) (s0_2 : Int) (a1 : ByteArray) (a2 : ByteArray) : Option (ByteArray × Int × Int) := (spec_l1Cur_pick.f s0_0 s0_1 s0_2 2).bind fun bt242 => (spec_l1Cur_spoilt.l0 k a1 a2 (wrap64 (1 + bt242.1)) s0_0 bt242.2.1 bt242.2.2)
theorem spec_l1Cur_spoilt.mono_l : ∀ k, (∀ y0 y1 y2 y3 y4 y5, LeO (spec_l1Cur_spoilt.l0 k y0 y1 y2 y3 y4 y5) (spec_l1Cur_spoilt.l0 (k + 1) y0 y1 y2 y3 y4 y5)) ∧ (∀ y0 y1 y2 y3 y4 y5 y6, LeO (spec_l1Cur_spoilt.j1 k y0 y1 y2 y3 y4 y5 y6) (spec_l1Cur_spoilt.j1 (k + 1) y0 y1 y2 y3 y4 y5 y6))
  | 0 => ⟨fun _ _ _ _ _ _ r h => by simp [spec_l1Cur_spoilt.l0] at h, fun _ _ _ _ _ _ _ r h => by simp [spec_l1Cur_spoilt.j1] at h⟩
  | k + 1 => by
    obtain ⟨ih0, ih1⟩ := spec_l1Cur_spoilt.mono_l k
    refine ⟨?_, ?_⟩
    · intro y0 y1 y2 y3 y4 y5
      unfold spec_l1Cur_spoilt.l0
      repeat' first
      | (with_reducible exact ih0 _ _ _ _ _ _)
      | (with_reducible exact ih1 _ _ _ _ _ _ _)
      | (with_reducible exact LeO.refl _)
      | (with_reducible exact LeO.none _)
      | (with_reducible refine LeO.ite ?_ ?_)
      | (with_reducible refine LeO.bind ?_ (fun _ => ?_))
    · intro y0 y1 y2 y3 y4 y5 y6
      unfold spec_l1Cur_spoilt.j1
      repeat' first
      | (with_reducible exact ih0 _ _ _ _ _ _)
      | (with_reducible exact ih1 _ _ _ _ _ _ _)
      | (with_reducible exact LeO.refl _)
      | (with_reducible exact LeO.none _)
      | (with_reducible refine LeO.ite ?_ ?_)
      | (with_reducible refine LeO.bind ?_ (fun _ => ?_))
theorem spec_l1Cur_spoilt.mono : ∀ a0 a1 a2 a3 a4 k, LeO (spec_l1Cur_spoilt.f k a0 a1 a2 a3 a4) (spec_l1Cur_spoilt.f (k + 1) a0 a1 a2 a3 a4) := by
  intro a0 a1 a2 a3 a4 k
  obtain ⟨ih0, ih1⟩ := spec_l1Cur_spoilt.mono_l k
  unfold spec_l1Cur_spoilt.f
  repeat' first
      | (with_reducible exact ih0 _ _ _ _ _ _)
      | (with_reducible exact ih1 _ _ _ _ _ _ _)
      | (with_reducible exact LeO.refl _)
      | (with_reducible exact LeO.none _)
      | (with_reducible refine LeO.ite ?_ ?_)
      | (with_reducible refine LeO.bind ?_ (fun _ => ?_))
noncomputable def spec_l1Cur_spoilt.L0 (x1 : ByteArray) (x2 : ByteArray) (x7 : Int) (x1000 : List Int) (x1001 : Int) (x1002 : Int) : Option (ByteArray × Int × Int) := lim fun k => spec_l1Cur_spoilt.l0 k x1 x2 x7 x1000 x1001 x1002
theorem spec_l1Cur_spoilt.L0_lim (x1 : ByteArray) (x2 : ByteArray) (x7 : Int) (x1000 : List Int) (x1001 : Int) (x1002 : Int) : Lim (fun k => spec_l1Cur_spoilt.l0 k x1 x2 x7 x1000 x1001 x1002) (spec_l1Cur_spoilt.L0 x1 x2 x7 x1000 x1001 x1002) := ⟨fun k => (spec_l1Cur_spoilt.mono_l k).1 x1 x2 x7 x1000 x1001 x1002, rfl⟩
noncomputable def spec_l1Cur_spoilt.J1 (x1 : ByteArray) (x2 : ByteArray) (x7 : Int) (x19 : Bool) (x1000 : List Int) (x1001 : Int) (x1002 : Int) : Option (ByteArray × Int × Int) := lim fun k => spec_l1Cur_spoilt.j1 k x1 x2 x7 x19 x1000 x1001 x1002
theorem spec_l1Cur_spoilt.J1_lim (x1 : ByteArray) (x2 : ByteArray) (x7 : Int) (x19 : Bool) (x1000 : List Int) (x1001 : Int) (x1002 : Int) : Lim (fun k => spec_l1Cur_spoilt.j1 k x1 x2 x7 x19 x1000 x1001 x1002) (spec_l1Cur_spoilt.J1 x1 x2 x7 x19 x1000 x1001 x1002) := ⟨fun k => (spec_l1Cur_spoilt.mono_l k).2 x1 x2 x7 x19 x1000 x1001 x1002, rfl⟩
noncomputable def spec_l1Cur_spoilt.F (s0_0 : List Int) (s0_1 : Int) (s0_2 : Int) (a1 : ByteArray) (a2 : ByteArray) : Option (ByteArray × Int × Int) := lim fun k => spec_l1Cur_spoilt.f k s0_0 s0_1 s0_2 a1 a2
theorem spec_l1Cur_spoilt.F_lim (s0_0 : List Int) (s0_1 : Int) (s0_2 : Int) (a1 : ByteArray) (a2 : ByteArray) : Lim (fun k => spec_l1Cur_spoilt.f k s0_0 s0_1 s0_2 a1 a2) (spec_l1Cur_spoilt.F s0_0 s0_1 s0_2 a1 a2) := ⟨spec_l1Cur_spoilt.mono s0_0 s0_1 s0_2 a1 a2, rfl⟩
theorem spec_l1Cur_spoilt.L0_eq (x1 : ByteArray) (x2 : ByteArray) (x7 : Int) (x1000 : List Int) (x1001 : Int) (x1002 : Int) : spec_l1Cur_spoilt.L0 x1 x2 x7 x1000 x1001 x1002 = (if x7 > 0 then (spec_l1Cur_spoilt.J1 x1 x2 x7 (decide ((x1.size : Int) > 0)) x1000 x1001 x1002) else (spec_l1Cur_spoilt.J1 x1 x2 x7 false x1000 x1001 x1002)) := by
  refine Lim.succ_eq (spec_l1Cur_spoilt.L0_lim x1 x2 x7 x1000 x1001 x1002).mon ?_
  simp only [spec_l1Cur_spoilt.l0]
  repeat' first
  | (with_reducible exact spec_l1Cur_spoilt.L0_lim _ _ _ _ _ _)
  | (with_reducible exact spec_l1Cur_spoilt.J1_lim _ _ _ _ _ _ _)
  | (with_reducible refine Lim.ite ?_ ?_)
  | (with_reducible refine Lim.bind ?_ (fun _ => ?_))
  | (with_reducible exact Lim.const _)
theorem spec_l1Cur_spoilt.J1_eq (x1 : ByteArray) (x2 : ByteArray) (x7 : Int) (x19 : Bool) (x1000 : List Int) (x1001 : Int) (x1002 : Int) : spec_l1Cur_spoilt.J1 x1 x2 x7 x19 x1000 x1001 x1002 = (if x19 = true then ((spec_l1Cur_pick.f x1000 x1001 x1002 (x1.size : Int)).bind fun bt245 => ((spec_l1Cur_pick.f x1000 bt245.2.1 bt245.2.2 (x2.size : Int)).bind fun bt248 => (if 0 ≤ bt248.1 then (if bt248.1 < (x2.size : Int) then ((some (([bt x2 bt248.1] : List Int) : List Int)).bind fun y251 => ((spec_l1Cur_pick.f x1000 bt248.2.1 bt248.2.2 3).bind fun bt254 => (if bt254.1 = 0 then (if 0 ≤ bt245.1 then (if bt245.1 ≤ (x1.size : Int) then (if (x1.extract 0 (bt245.1 : Int).toNat).size + (strOfNums y251).size ≤ 9223372036854775807 then (if ((x1.extract 0 (bt245.1 : Int).toNat) ++ (strOfNums y251)).size + (x1.extract (bt245.1 : Int).toNat x1.size).size ≤ 9223372036854775807 then (spec_l1Cur_spoilt.L0 (((x1.extract 0 (bt245.1 : Int).toNat) ++ (strOfNums y251)) ++ (x1.extract (bt245.1 : Int).toNat x1.size)) x2 (wrap64 (x7 - 1)) x1000 bt254.2.1 bt254.2.2) else (none)) else (none)) else (none)) else (none)) else (if bt254.1 = 1 then (if 0 ≤ bt245.1 then (if bt245.1 ≤ (x1.size : Int) then (if (x1.extract 0 (bt245.1 : Int).toNat).size + (strOfNums y251).size ≤ 9223372036854775807 then (if 0 ≤ (wrap64 (bt245.1 + 1)) then (if (wrap64 (bt245.1 + 1)) ≤ (x1.size : Int) then (if ((x1.extract 0 (bt245.1 : Int).toNat) ++ (strOfNums y251)).size + (x1.extract ((wrap64 (bt245.1 + 1)) : Int).toNat x1.size).size ≤ 9223372036854775807 then (spec_l1Cur_spoilt.L0 (((x1.extract 0 (bt245.1 : Int).toNat) ++ (strOfNums y251)) ++ (x1.extract ((wrap64 (bt245.1 + 1)) : Int).toNat x1.size)) x2 (wrap64 (x7 - 1)) x1000 bt254.2.1 bt254.2.2) else (none)) else (none)) else (none)) else (none)) else (none)) else (none)) else (if 0 ≤ bt245.1 then (if bt245.1 ≤ (x1.size : Int) then (if 0 ≤ (wrap64 (bt245.1 + 1)) then (if (wrap64 (bt245.1 + 1)) ≤ (x1.size : Int) then (if (x1.extract 0 (bt245.1 : Int).toNat).size + (x1.extract ((wrap64 (bt245.1 + 1)) : Int).toNat x1.size).size ≤ 9223372036854775807 then (spec_l1Cur_spoilt.L0 ((x1.extract 0 (bt245.1 : Int).toNat) ++ (x1.extract ((wrap64 (bt245.1 + 1)) : Int).toNat x1.size)) x2 (wrap64 (x7 - 1)) x1000 bt254.2.1 bt254.2.2) else (none)) else (none)) else (none)) else (none)) else (none)))))) else (none)) else (none)))) else (some (x1, x1001, x1002))) := by
  refine Lim.succ_eq (spec_l1Cur_spoilt.J1_lim x1 x2 x7 x19 x1000 x1001 x1002).mon ?_
  simp only [spec_l1Cur_spoilt.j1]
  repeat' first
  | (with_reducible exact spec_l1Cur_spoilt.L0_lim _ _ _ _ _ _)
  | (with_reducible exact spec_l1Cur_spoilt.J1_lim _ _ _ _ _ _ _)
  | (with_reducible refine Lim.ite ?_ ?_)
  | (with_reducible refine Lim.bind ?_ (fun _ => ?_))
  | (with_reducible exact Lim.const _)
theorem spec_l1Cur_spoilt.F_eq (s0_0 : List Int) (s0_1 : Int) (s0_2 : Int) (a1 : ByteArray) (a2 : ByteArray) : spec_l1Cur_spoilt.F s0_0 s0_1 s0_2 a1 a2 = ((spec_l1Cur_pick.f s0_0 s0_1 s0_2 2).bind fun bt242 => (spec_l1Cur_spoilt.L0 a1 a2 (wrap64 (1 + bt242.1)) s0_0 bt242.2.1 bt242.2.2)) := by
  refine Lim.eq_ ?_
  simp only [spec_l1Cur_spoilt.f]
  repeat' first
  | (with_reducible exact spec_l1Cur_spoilt.L0_lim _ _ _ _ _ _)
  | (with_reducible exact spec_l1Cur_spoilt.J1_lim _ _ _ _ _ _ _)
  | (with_reducible refine Lim.ite ?_ ?_)
  | (with_reducible refine Lim.bind ?_ (fun _ => ?_))
  | (with_reducible exact Lim.const _)
def spec_l1Cur_of.f (s0_0 : List Int) (s0_1 : Int) (s0_2 : Int) (l1 : List ByteArray) : Option (ByteArray × Int × Int) := (spec_l1Cur_pick.f s0_0 s0_1 s0_2 (l1.length : Int)).bind fun bt257 => (if 0 ≤ bt257.1 then (if bt257.1 < (l1.length : Int) then (some (rdOf ByteArray.empty l1 bt257.1, bt257.2.1, bt257.2.2)) else (none)) else (none))
def spec_orText.f (a0_0 : Int) (a0_1 : Int) : Option (ByteArray) := if 0 ≤ a0_0 then (if a0_0 ≤ (wrap64 (a0_0 + 1)) then (if (wrap64 (a0_0 + 1)) ≤ 6 then (if 0 ≤ a0_1 then (if a0_1 ≤ (wrap64 (a0_1 + 1)) then (if (wrap64 (a0_1 + 1)) ≤ 6 then (if ((⟨#[117, 100, 108, 114, 102, 98]⟩ : ByteArray).extract (a0_0 : Int).toNat ((wrap64 (a0_0 + 1)) : Int).toNat).size + ((⟨#[117, 100, 108, 114, 102, 98]⟩ : ByteArray).extract (a0_1 : Int).toNat ((wrap64 (a0_1 + 1)) : Int).toNat).size ≤ 9223372036854775807 then (some (((⟨#[117, 100, 108, 114, 102, 98]⟩ : ByteArray).extract (a0_0 : Int).toNat ((wrap64 (a0_0 + 1)) : Int).toNat) ++ ((⟨#[117, 100, 108, 114, 102, 98]⟩ : ByteArray).extract (a0_1 : Int).toNat ((wrap64 (a0_1 + 1)) : Int).toNat))) else (none)) else (none)) else (none)) else (none)) else (none)) else (none)) else (none)
def spec_DrawParseOrient.f (k : Nat) (l0 : List Int) : Option (ByteArray) := (spec_l1Cur_orient.f k l0 0 0).bind fun bt263 => ((spec_orText.f bt263.1 bt263.2.1).bind fun t267 => ((spec_l1Cur_pick.f l0 bt263.2.2.1 bt263.2.2.2 5).bind fun bt268 => (if bt268.1 = 0 then ((spec_l1Cur_spoilt.f k l0 bt268.2.1 bt268.2.2 t267 (⟨#[117, 100, 108, 114, 102, 98]⟩ : ByteArray)).bind fun bt271 => (some bt271.1)) else (if bt268.1 = 1 then ((spec_l1Cur_of.f l0 bt268.2.1 bt268.2.2 (([(⟨#[]⟩ : ByteArray), (⟨#[102, 117]⟩ : ByteArray), (⟨#[117, 117]⟩ : ByteArray), (⟨#[117, 100]⟩ : ByteArray), (⟨#[102]⟩ : ByteArray), (⟨#[102, 117, 117]⟩ : ByteArray), (⟨#[70, 85]⟩ : ByteArray), (⟨#[120, 117]⟩ : ByteArray)] : List ByteArray))).bind fun bt277 => (some bt277.1)) else (some t267)))))
theorem spec_DrawParseOrient.mono : ∀ a0 k, LeO (spec_DrawParseOrient.f k a0) (spec_DrawParseOrient.f (k + 1) a0) := by
  intro a0 k
  unfold spec_DrawParseOrient.f
  repeat' first
      | (with_reducible exact spec_l1Cur_orient.mono _ _ _ _)
      | (with_reducible exact spec_l1Cur_spoilt.mono _ _ _ _ _ _)
      | (with_reducible exact LeO.refl _)
      | (with_reducible exact LeO.none _)
      | (with_reducible refine LeO.ite ?_ ?_)
      | (with_reducible refine LeO.bind ?_ (fun _ => ?_))
noncomputable def spec_DrawParseOrient.F (l0 : List Int) : Option (ByteArray) := lim fun k => spec_DrawParseOrient.f k l0
theorem spec_DrawParseOrient.F_lim (l0 : List Int) : Lim (fun k => spec_DrawParseOrient.f k l0) (spec_DrawParseOrient.F l0) := ⟨spec_DrawParseOrient.mono l0, rfl⟩
theorem spec_DrawParseOrient.F_eq (l0 : List Int) : spec_DrawParseOrient.F l0 = ((spec_l1Cur_orient.F l0 0 0).bind fun bt263 => ((spec_orText.f bt263.1 bt263.2.1).bind fun t267 => ((spec_l1Cur_pick.f l0 bt263.2.2.1 bt263.2.2.2 5).bind fun bt268 => (if bt268.1 = 0 then ((spec_l1Cur_spoilt.F l0 bt268.2.1 bt268.2.2 t267 (⟨#[117, 100, 108, 114, 102, 98]⟩ : ByteArray)).bind fun bt271 => (some bt271.1)) else (if bt268.1 = 1 then ((spec_l1Cur_of.f l0 bt268.2.1 bt268.2.2 (([(⟨#[]⟩ : ByteArray), (⟨#[102, 117]⟩ : ByteArray), (⟨#[117, 117]⟩ : ByteArray), (⟨#[117, 100]⟩ : ByteArray), (⟨#[102]⟩ : ByteArray), (⟨#[102, 117, 117]⟩ : ByteArray), (⟨#[70, 85]⟩ : ByteArray), (⟨#[120, 117]⟩ : ByteArray)] : List ByteArray))).bind fun bt277 => (some bt277.1)) else (some t267)))))) := by
  refine Lim.eq_ ?_
  simp only [spec_DrawParseOrient.f]
  repeat' first
  | (with_reducible exact spec_l1Cur_orient.F_lim _ _ _)
  | (with_reducible exact spec_l1Cur_spoilt.F_lim _ _ _ _ _)
  | (with_reducible refine Lim.ite ?_ ?_)
  | (with_reducible refine Lim.bind ?_ (fun _ => ?_))
  | (with_reducible exact Lim.const _)
def stringslite_IndexByte.f (a0 : ByteArray) (a1 : Int) : Option (Int) := some (Lib.indexByte a0.data.toList a1.toNat.toUInt8)
def strings_IndexByte.f (a0 : ByteArray) (a1 : Int) : Option (Int) := (stringslite_IndexByte.f a0 a1).bind fun t280 => (some t280)
def impl_ParseOrient.f (a0 : ByteArray) : Option (Int × Int × Bool) := if (a0.size : Int) = 2 then (if 0 < (a0.size : Int) then ((strings_IndexByte.f (⟨#[117, 100, 108, 114, 102, 98]⟩ : ByteArray) (bt a0 0)).bind fun t282 => (if 1 < (a0.size : Int) then ((strings_IndexByte.f (⟨#[117, 100, 108, 114, 102, 98]⟩ : ByteArray) (bt a0 1)).bind fun t283 => ((impl_IsOrient.f t282 t283).bind fun t285 => (if t285 = true then (some (t282, t283, true)) else (some (0, 0, false))))) else (none))) else (none)) else (some (0, 0, false))
def spec_orLetter.l0 : Nat → Int → Int → Option (Int)
  | 0, _, _ => none
  | k + 1, x0, x3 => if x3 < 6 then (if 0 ≤ x3 then (if (bt (⟨#[117, 100, 108, 114, 102, 98]⟩ : ByteArray) x3) = x0 then (some x3) else (spec_orLetter.l0 k x0 (wrap64 (x3 + 1)))) else (none)) else (some (-1))
def spec_orLetter.f (k : Nat) (a0 : Int) : Option (Int) := spec_orLetter.l0 k a0 0
theorem spec_orLetter.mono_l : ∀ k, (∀ y0 y1, LeO (spec_orLetter.l0 k y0 y1) (spec_orLetter.l0 (k + 1) y0 y1))
  | 0 => fun _ _ r h => by simp [spec_orLetter.l0] at h
  | k + 1 => by
    have ih0 := spec_orLetter.mono_l k
    · intro y0 y1
      unfold spec_orLetter.l0
      repeat' first
      | (with_reducible exact ih0 _ _)
      | (with_reducible exact LeO.refl _)
      | (with_reducible exact LeO.none _)
      | (with_reducible refine LeO.ite ?_ ?_)
      | (with_reducible refine LeO.bind ?_ (fun _ => ?_))
theorem spec_orLetter.mono : ∀ a0 k, LeO (spec_orLetter.f k a0) (spec_orLetter.f (k + 1) a0) := by
  intro a0 k
  have ih0 := spec_orLetter.mono_l k
  unfold spec_orLetter.f
  repeat' first
      | (with_reducible exact ih0 _ _)
      | (with_reducible exact LeO.refl _)
      | (with_reducible exact LeO.none _)
      | (with_reducible refine LeO.ite ?_ ?_)
      | (with_reducible refine LeO.bind ?_ (fun _ => ?_))
noncomputable def spec_orLetter.L0 (x0 : Int) (x3 : Int) : Option (Int) := lim fun k => spec_orLetter.l0 k x0 x3
theorem spec_orLetter.L0_lim (x0 : Int) (x3 : Int) : Lim (fun k => spec_orLetter.l0 k x0 x3) (spec_orLetter.L0 x0 x3) := ⟨fun k => (spec_orLetter.mono_l k) x0 x3, rfl⟩
noncomputable def spec_orLetter.F (a0 : Int) : Option (Int) := lim fun k => spec_orLetter.f k a0
theorem spec_orLetter.F_lim (a0 : Int) : Lim (fun k => spec_orLetter.f k a0) (spec_orLetter.F a0) := ⟨spec_orLetter.mono a0, rfl⟩
theorem spec_orLetter.L0_eq (x0 : Int) (x3 : Int) : spec_orLetter.L0 x0 x3 = (if x3 < 6 then (if 0 ≤ x3 then (if (bt (⟨#[117, 100, 108, 114, 102, 98]⟩ : ByteArray) x3) = x0 then (some x3) else (spec_orLetter.L0 x0 (wrap64 (x3 + 1)))) else (none)) else (some (-1))) := by
  refine Lim.succ_eq (spec_orLetter.L0_lim x0 x3).mon ?_
  simp only [spec_orLetter.l0]
  repeat' first
  | (with_reducible exact spec_orLetter.L0_lim _ _)
  | (with_reducible refine Lim.ite ?_ ?_)
  | (with_reducible refine Lim.bind ?_ (fun _ => ?_))
  | (with_reducible exact Lim.const _)
theorem spec_orLetter.F_eq (a0 : Int) : spec_orLetter.F a0 = (spec_orLetter.L0 a0 0) := by
  refine Lim.eq_ ?_
  simp only [spec_orLetter.f]
  repeat' first
  | (with_reducible exact spec_orLetter.L0_lim _ _)
  | (with_reducible refine Lim.ite ?_ ?_)
  | (with_reducible refine Lim.bind ?_ (fun _ => ?_))
  | (with_reducible exact Lim.const _)
def spec_orParse.f (k : Nat) (a0 : ByteArray) : Option (Int × Int × Bool) := if (a0.size : Int) = 2 then (if 0 < (a0.size : Int) then ((spec_orLetter.f k (bt a0 0)).bind fun t287 => (if 1 < (a0.size : Int) then ((spec_orLetter.f k (bt a0 1)).bind fun t288 => ((spec_orGood.f t287 t288).bind fun t290 => (if t290 = true then (some (t287, t288, true)) else (some (0, 0, false))))) else (none))) else (none)) else (some (0, 0, false))
theorem spec_orParse.mono : ∀ a0 k, LeO (spec_orParse.f k a0) (spec_orParse.f (k + 1) a0) := by
  intro a0 k
  unfold spec_orParse.f
  repeat' first
      | (with_reducible exact spec_orLetter.mono _ _)
      | (with_reducible exact LeO.refl _)
      | (with_reducible exact LeO.none _)
      | (with_reducible refine LeO.ite ?_ ?_)
      | (with_reducible refine LeO.bind ?_ (fun _ => ?_))
noncomputable def spec_orParse.F (a0 : ByteArray) : Option (Int × Int × Bool) := lim fun k => spec_orParse.f k a0
theorem spec_orParse.F_lim (a0 : ByteArray) : Lim (fun k => spec_orParse.f k a0) (spec_orParse.F a0) := ⟨spec_orParse.mono a0, rfl⟩
theorem spec_orParse.F_eq (a0 : ByteArray) : spec_orParse.F a0 = (if (a0.size : Int) = 2 then (if 0 < (a0.size : Int) then ((spec_orLetter.F (bt a0 0)).bind fun t287 => (if 1 < (a0.size : Int) then ((spec_orLetter.F (bt a0 1)).bind fun t288 => ((spec_orGood.f t287 t288).bind fun t290 => (if t290 = true then (some (t287, t288, true)) else (some (0, 0, false))))) else (none))) else (none)) else (some (0, 0, false))) := by
  refine Lim.eq_ ?_
  simp only [spec_orParse.f]
  repeat' first
  | (with_reducible exact spec_orLetter.F_lim _)
  | (with_reducible refine Lim.ite ?_ ?_)
  | (with_reducible refine Lim.bind ?_ (fun _ => ?_))
  | (with_reducible exact Lim.const _)
def spec_ParseOrient.f (k : Nat) (a0 : ByteArray) : Option (Int × Int × Bool) := (spec_orParse.f k a0).bind fun bt292 => (some (bt292.1, bt292.2.1, bt292.2.2))
theorem spec_ParseOrient.mono : ∀ a0 k, LeO (spec_ParseOrient.f k a0) (spec_ParseOrient.f (k + 1) a0) := by
  intro a0 k
  unfold spec_ParseOrient.f
  repeat' first
      | (with_reducible exact spec_orParse.mono _ _)
      | (with_reducible exact LeO.refl _)
      | (with_reducible exact LeO.none _)
      | (with_reducible refine LeO.ite ?_ ?_)
      | (with_reducible refine LeO.bind ?_ (fun _ => ?_))
noncomputable def spec_ParseOrient.F (a0 : ByteArray) : Option (Int × Int × Bool) := lim fun k => spec_ParseOrient.f k a0
theorem spec_ParseOrient.F_lim (a0 : ByteArray) : Lim (fun k => spec_ParseOrient.f k a0) (spec_ParseOrient.F a0) := ⟨spec_ParseOrient.mono a0, rfl⟩
theorem spec_ParseOrient.F_eq (a0 : ByteArray) : spec_ParseOrient.F a0 = ((spec_orParse.F a0).bind fun bt292 => (some (bt292.1, bt292.2.1, bt292.2.2))) := by
  refine Lim.eq_ ?_
  simp only [spec_ParseOrient.f]
  repeat' first
  | (with_reducible exact spec_orParse.F_lim _)
  | (with_reducible refine Lim.ite ?_ ?_)
  | (with_reducible refine Lim.bind ?_ (fun _ => ?_))
  | (with_reducible exact Lim.const _)
def spec_DrawOrientText.f (k : Nat) (l0 : List Int) : Option (Int × Int) := (spec_DrawIsOrient.f k l0).bind fun bt296 => (some (bt296.1, bt296.2))
theorem spec_DrawOrientText.mono : ∀ a0 k, LeO (spec_DrawOrientText.f k a0) (spec_DrawOrientText.f (k + 1) a0) := by
  intro a0 k
  unfold spec_DrawOrientText.f
  repeat' first
      | (with_reducible exact spec_DrawIsOrient.mono _ _)
      | (with_reducible exact LeO.refl _)
      | (with_reducible exact LeO.none _)
      | (with_reducible refine LeO.ite ?_ ?_)
      | (with_reducible refine LeO.bind ?_ (fun _ => ?_))
noncomputable def spec_DrawOrientText.F (l0 : List Int) : Option (Int × Int) := lim fun k => spec_DrawOrientText.f k l0
theorem spec_DrawOrientText.F_lim (l0 : List Int) : Lim (fun k => spec_DrawOrientText.f k l0) (spec_DrawOrientText.F l0) := ⟨spec_DrawOrientText.mono l0, rfl⟩
theorem spec_DrawOrientText.F_eq (l0 : List Int) : spec_DrawOrientText.F l0 = ((spec_DrawIsOrient.F l0).bind fun bt296 => (some (bt296.1, bt296.2))) := by
  refine Lim.eq_ ?_
  simp only [spec_DrawOrientText.f]
  repeat' first
  | (with_reducible exact spec_DrawIsOrient.F_lim _)
  | (with_reducible refine Lim.ite ?_ ?_)
  | (with_reducible refine Lim.bind ?_ (fun _ => ?_))
  | (with_reducible exact Lim.const _)
def impl_Orient_text.f (a0_0 : Int) (a0_1 : Int) : Option (ByteArray) := if 0 ≤ a0_0 then (if a0_0 ≤ (wrap64 (a0_0 + 1)) then (if (wrap64 (a0_0 + 1)) ≤ 6 then (if 0 ≤ a0_1 then (if a0_1 ≤ (wrap64 (a0_1 + 1)) then (if (wrap64 (a0_1 + 1)) ≤ 6 then (if ((⟨#[117, 100, 108, 114, 102, 98]⟩ : ByteArray).extract (a0_0 : Int).toNat ((wrap64 (a0_0 + 1)) : Int).toNat).size + ((⟨#[117, 100, 108, 114, 102, 98]⟩ : ByteArray).extract (a0_1 : Int).toNat ((wrap64 (a0_1 + 1)) : Int).toNat).size ≤ 9223372036854775807 then (some (((⟨#[117, 100, 108, 114, 102, 98]⟩ : ByteArray).extract (a0_0 : Int).toNat ((wrap64 (a0_0 + 1)) : Int).toNat) ++ ((⟨#[117, 100, 108, 114, 102, 98]⟩ : ByteArray).extract (a0_1 : Int).toNat ((wrap64 (a0_1 + 1)) : Int).toNat))) else (none)) else (none)) else (none)) else (none)) else (none)) else (none)) else (none)
def impl_OrientText.f (a0_0 : Int) (a0_1 : Int) : Option (ByteArray × Bool) := (impl_IsOrient.f a0_0 a0_1).bind fun t300 => (if t300 = true then ((impl_Orient_text.f a0_0 a0_1).bind fun t301 => (some (t301, true))) else (some ((⟨#[]⟩ : ByteArray), false)))
def spec_OrientText.f (a0_0 : Int) (a0_1 : Int) : Option (ByteArray × Bool) := (spec_orGood.f a0_0 a0_1).bind fun t303 => (if t303 = true then ((spec_orText.f a0_0 a0_1).bind fun t304 => (some (t304, true))) else (some ((⟨#[]⟩ : ByteArray), false)))
mutual
def laws_FnOrients.j0 : Nat → List Int → Bool → List (S39) → Bool → Int → Int → Int → Int → Int → Int → Option (Bool)
  | 0, _, _, _, _, _, _, _, _, _, _ => none
  | k + 1, x1, x7, x15, x118, x309000, x309001, x313000, x313001, x321000, x321001 => if x118 = true then (some false) else (if x7 = true then ((impl_MirrorOrient.f x313000 x313001).bind fun bt333 => ((impl_SeenOrient.f x321000 x321001).bind fun bt337 => (laws_FnOrients.l0 k x1 bt333.2.2 bt337.2.2 false x15 (x15.length : Int) 0 x309000 x309001 x313000 x313001 x321000 x321001 bt333.1 bt333.2.1 bt337.1 bt337.2.1))) else (laws_FnOrients.j2 k x1))
def laws_FnOrients.j2 : Nat → List Int → Option (Bool)
  | 0, _ => none
  | k + 1, x1 => (spec_DrawPalmsMeet.f k x1).bind fun bt345 => ((impl_PalmsMeet.f bt345.1 bt345.2.1 bt345.2.2.1 bt345.2.2.2).bind fun bt351 => ((spec_PalmsMeet.f bt345.1 bt345.2.1 bt345.2.2.1 bt345.2.2.2).bind fun bt353 => (if (bt351.2 != bt353.2) = true then (laws_FnOrients.j3 k x1 bt351.2 bt353.1 true bt345.1 bt345.2.1 bt345.2.2.1 bt345.2.2.2) else (laws_FnOrients.j3 k x1 bt351.2 bt353.1 (bt351.1 != bt353.1) bt345.1 bt345.2.1 bt345.2.2.1 bt345.2.2.2))))
def laws_FnOrients.j3 : Nat → List Int → Bool → Bool → Bool → Int → Int → Int → Int → Option (Bool)
  | 0, _, _, _, _, _, _, _, _ => none
  | k + 1, x1, x26, x27, x197, x350000, x350001, x351000, x351001 => if x197 = true then (some false) else (if x26 = true then ((impl_OppositeDir.f x350000).bind fun bt355 => ((impl_PalmsMeet.f x351000 x351001 x350000 x350001).bind fun bt357 => (if bt355.2 = true then (if (x27 != (bt355.1 == x351000)) = true then (some false) else (if bt357.2 = true then (if (bt357.1 != x27) = true then (some false) else (laws_FnOrients.j4 k x1)) else (some false))) else (some false)))) else (laws_FnOrients.j4 k x1))
def laws_FnOrients.j4 : Nat → List Int → Option (Bool)
  | 0, _ => none
  | k + 1, x1 => (spec_DrawOppositeDir.f x1).bind fun t359 => ((impl_OppositeDir.f t359).bind fun bt360 => ((spec_OppositeDir.f t359).bind fun bt362 => (if (bt360.2 != bt362.2) = true then (laws_FnOrients.j5 k x1 t359 bt360.1 bt360.2 bt362.1 true) else (laws_FnOrients.j5 k x1 t359 bt360.1 bt360.2 bt362.1 (bt360.1 != bt362.1)))))
def laws_FnOrients.j5 : Nat → List Int → Int → Int → Bool → Int → Bool → Option (Bool)
  | 0, _, _, _, _, _, _ => none
  | k + 1, x1, x33, x34, x35, x36, x249 => if x249 = true then (some false) else (if x35 = true then ((impl_OppositeDir.f x34).bind fun bt364 => (if bt364.2 = true then (if bt364.1 = x33 then (if x36 = x33 then (some false) else (laws_FnOrients.j6 k x1)) else (some false)) else (some false))) else (laws_FnOrients.j6 k x1))
def laws_FnOrients.j6 : Nat → List Int → Option (Bool)
  | 0, _ => none
  | k + 1, x1 => (spec_DrawParseOrient.f k x1).bind fun t366 => ((impl_ParseOrient.f t366).bind fun bt367 => ((spec_ParseOrient.f k t366).bind fun bt371 => ((spec_DrawOrientText.f k x1).bind fun bt375 => ((impl_OrientText.f bt375.1 bt375.2).bind fun bt378 => ((spec_OrientText.f bt375.1 bt375.2).bind fun bt380 => (if (bt367.2.2 != bt371.2.2) = true then (laws_FnOrients.j7 k bt378.1 bt378.2 true bt375.1 bt375.2) else (if (!(bt367.1 == bt371.1) || (!(bt367.2.1 == bt371.2.1))) = true then (laws_FnOrients.j7 k bt378.1 bt378.2 true bt375.1 bt375.2) else (if (bt378.2 != bt380.2) = true then (laws_FnOrients.j7 k bt378.1 bt378.2 true bt375.1 bt375.2) else (laws_FnOrients.j7 k bt378.1 bt378.2 (bt378.1.toList != bt380.1.toList) bt375.1 bt375.2)))))))))
def laws_FnOrients.j7 : Nat → ByteArray → Bool → Bool → Int → Int → Option (Bool)
  | 0, _, _, _, _, _ => none
  | k + 1, x46, x47, x309, x378000, x378001 => if x309 = true then (some false) else (if x47 = true then ((impl_ParseOrient.f x46).bind fun bt382 => (if bt382.2.2 = true then (some (bt382.1 == x378000 && (bt382.2.1 == x378001))) else (some false))) else (some true))
def laws_FnOrients.l0 : Nat → List Int → Bool → Bool → Bool → List (S39) → Int → Int → Int → Int → Int → Int → Int → Int → Int → Int → Int → Int → Option (Bool)
  | 0, _, _, _, _, _, _, _, _, _, _, _, _, _, _, _, _, _ => none
  | k + 1, x1, x17, x19, x20, x130, x131, x132, x309000, x309001, x313000, x313001, x321000, x321001, x337000, x337001, x341000, x341001 => if x132 < x131 then (if 0 ≤ x132 then (if x132 < (x130.length : Int) then (if x20 = true then (laws_FnOrients.l0 k x1 x17 x19 true x130 x131 (wrap64 (x132 + 1)) x309000 x309001 x313000 x313001 x321000 x321001 x337000 x337001 x341000 x341001) else (laws_FnOrients.l0 k x1 x17 x19 (((rd_T39 x130 x132).f0) == x309000 && (((rd_T39 x130 x132).f1) == x309001)) x130 x131 (wrap64 (x132 + 1)) x309000 x309001 x313000 x313001 x321000 x321001 x337000 x337001 x341000 x341001)) else (none)) else (none)) else (if x17 = true then (if (!(x337000 == x309000) || (!(x337001 == x309001))) = true then (some false) else (if x19 = true then (if (!(x341000 == x309000) || (!(x341001 == x309001))) = true then (some false) else (if x20 = true then ((impl_IsOrient.f x313000 x313001).bind fun t343 => (if t343 = true then ((impl_IsOrient.f x321000 x321001).bind fun t344 => (if t344 = true then (laws_FnOrients.j2 k x1) else (some false))) else (some false))) else (some false))) else (some false))) else (some false))
end
def laws_FnOrients.f (k : Nat) (l0 : List Int) (l1 : List Int) : Option (Bool) := (laws_big.f l0 l1).bind fun t305 => (if t305 = true then (some true) else ((spec_DrawMirrorOrient.f k l0).bind fun bt306 => ((impl_MirrorOrient.f bt306.1 bt306.2).bind fun bt309 => ((spec_MirrorOrient.f bt306.1 bt306.2).bind fun bt313 => ((impl_SeenOrient.f bt306.1 bt306.2).bind fun bt317 => ((spec_SeenOrient.f bt306.1 bt306.2).bind fun bt321 => ((impl_AllOrients.f k).bind fun t325 => ((spec_AllOrients.f k).bind fun t328 => (if (bt309.2.2 != bt313.2.2) = true then (laws_FnOrients.j0 k l1 bt309.2.2 t328 true bt306.1 bt306.2 bt309.1 bt309.2.1 bt317.1 bt317.2.1) else (if (!(bt309.1 == bt313.1) || (!(bt309.2.1 == bt313.2.1))) = true then (laws_FnOrients.j0 k l1 bt309.2.2 t328 true bt306.1 bt306.2 bt309.1 bt309.2.1 bt317.1 bt317.2.1) else (if (bt317.2.2 != bt321.2.2) = true then (laws_FnOrients.j0 k l1 bt309.2.2 t328 true bt306.1 bt306.2 bt309.1 bt309.2.1 bt317.1 bt317.2.1) else (if (!(bt317.1 == bt321.1) || (!(bt317.2.1 == bt321.2.1))) = true then (laws_FnOrients.j0 k l1 bt309.2.2 t328 true bt306.1 bt306.2 bt309.1 bt309.2.1 bt317.1 bt317.2.1) else ((laws_pSameOrients.f k t325 t328).bind fun t331 => (if t331 = true then ((impl_IsOrient.f bt306.1 bt306.2).bind fun t332 => (if (bt309.2.2 != t332) = true then (laws_FnOrients.j0 k l1 bt309.2.2 t328 true bt306.1 bt306.2 bt309.1 bt309.2.1 bt317.1 bt317.2.1) else (if (bt317.2.2 != bt309.2.2) = true then (laws_FnOrients.j0 k l1 bt309.2.2 t328 true bt306.1 bt306.2 bt309.1 bt309.2.1 bt317.1 bt317.2.1) else (laws_FnOrients.j0 k l1 bt309.2.2 t328 ((t328.length : Int) != 24) bt306.1 bt306.2 bt309.1 bt309.2.1 bt317.1 bt317.2.1)))) else (laws_FnOrients.j0 k l1 bt309.2.2 t328 true bt306.1 bt306.2 bt309.1 bt309.2.1 bt317.1 bt317.2.1)))))))))))))))
theorem laws_FnOrients.mono_l : ∀ k, (∀ y0 y1 y2 y3 y4 y5 y6 y7 y8 y9, LeO (laws_FnOrients.j0 k y0 y1 y2 y3 y4 y5 y6 y7 y8 y9) (laws_FnOrients.j0 (k + 1) y0 y1 y2 y3 y4 y5 y6 y7 y8 y9)) ∧ (∀ y0, LeO (laws_FnOrients.j2 k y0) (laws_FnOrients.j2 (k + 1) y0)) ∧ (∀ y0 y1 y2 y3 y4 y5 y6 y7, LeO (laws_FnOrients.j3 k y0 y1 y2 y3 y4 y5 y6 y7) (laws_FnOrients.j3 (k + 1) y0 y1 y2 y3 y4 y5 y6 y7)) ∧ (∀ y0, LeO (laws_FnOrients.j4 k y0) (laws_FnOrients.j4 (k + 1) y0)) ∧ (∀ y0 y1 y2 y3 y4 y5, LeO (laws_FnOrients.j5 k y0 y1 y2 y3 y4 y5) (laws_FnOrients.j5 (k + 1) y0 y1 y2 y3 y4 y5)) ∧ (∀ y0, LeO (laws_FnOrients.j6 k y0) (laws_FnOrients.j6 (k + 1) y0)) ∧ (∀ y0 y1 y2 y3 y4, LeO (laws_FnOrients.j7 k y0 y1 y2 y3 y4) (laws_FnOrients.j7 (k + 1) y0 y1 y2 y3 y4)) ∧ (∀ y0 y1 y2 y3 y4 y5 y6 y7 y8 y9 y10 y11 y12 y13 y14 y15 y16, LeO (laws_FnOrients.l0 k y0 y1 y2 y3 y4 y5 y6 y7 y8 y9 y10 y11 y12 y13 y14 y15 y16) (laws_FnOrients.l0 (k + 1) y0 y1 y2 y3 y4 y5 y6 y7 y8 y9 y10 y11 y12 y13 y14 y15 y16))
  | 0 => ⟨fun _ _ _ _ _ _ _ _ _ _ r h => by simp [laws_FnOrients.j0] at h, fun _ r h => by simp [laws_FnOrients.j2] at h, fun _ _ _ _ _ _ _ _ r h => by simp [laws_FnOrients.j3] at h, fun _ r h => by simp [laws_FnOrients.j4] at h, fun _ _ _ _ _ _ r h => by simp [laws_FnOrients.j5] at h, fun _ r h => by simp [laws_FnOrients.j6] at h, fun _ _ _ _ _ r h => by simp [laws_FnOrients.j7] at h, fun _ _ _ _ _ _ _ _ _ _ _ _ _ _ _ _ _ r h => by simp [laws_FnOrients.l0] at h⟩
  | k + 1 => by
    obtain ⟨ih0, ih1, ih2, ih3, ih4, ih5, ih6, ih7⟩ := laws_FnOrients.mono_l k
    refine ⟨?_, ?_, ?_, ?_, ?_, ?_, ?_, ?_⟩
    · intro y0 y1 y2 y3 y4 y5 y6 y7 y8 y9
      unfold laws_FnOrients.j0
      repeat' first
      | (with_reducible exact ih0 _ _ _ _ _ _ _ _ _ _)
      | (with_reducible exact ih1 _)
      | (with_reducible exact ih2 _ _ _ _ _ _ _ _)
      | (with_reducible exact ih3 _)
      | (with_reducible exact ih4 _ _ _ _ _ _)
      | (with_reducible exact ih5 _)
      | (with_reducible exact ih6 _ _ _ _ _)
      | (with_reducible exact ih7 _ _ _ _ _ _ _ _ _ _ _ _ _ _ _ _ _)
      | (with_reducible exact impl_AllOrients.mono _)
      | (with_reducible exact laws_pSameOrients.mono _ _ _)
      | (with_reducible exact spec_AllOrients.mono _)
      | (with_reducible exact spec_DrawMirrorOrient.mono _ _)
      | (with_reducible exact spec_DrawOrientText.mono _ _)
      | (with_reducible exact spec_DrawPalmsMeet.mono _ _)
      | (with_reducible exact spec_DrawParseOrient.mono _ _)
      | (with_reducible exact spec_ParseOrient.mono _ _)
      | (with_reducible exact LeO.refl _)
      | (with_reducible exact LeO.none _)
      | (with_reducible refine LeO.ite ?_ ?_)
      | (with_reducible refine LeO.bind ?_ (fun _ => ?_))
    · intro y0
      unfold laws_FnOrients.j2
      repeat' first
      | (with_reducible exact ih0 _ _ _ _ _ _ _ _ _ _)
      | (with_reducible exact ih1 _)
      | (with_reducible exact ih2 _ _ _ _ _ _ _ _)
      | (with_reducible exact ih3 _)
      | (with_reducible exact ih4 _ _ _ _ _ _)
      | (with_reducible exact ih5 _)
      | (with_reducible exact ih6 _ _ _ _ _)
      | (with_reducible exact ih7 _ _ _ _ _ _ _ _ _ _ _ _ _ _ _ _ _)
      | (with_reducible exact impl_AllOrients.mono _)
      | (with_reducible exact laws_pSameOrients.mono _ _ _)
      | (with_reducible exact spec_AllOrients.mono _)
      | (with_reducible exact spec_DrawMirrorOrient.mono _ _)
      | (with_reducible exact spec_DrawOrientText.mono _ _)
      | (with_reducible exact spec_DrawPalmsMeet.mono _ _)
      | (with_reducible exact spec_DrawParseOrient.mono _ _)
      | (with_reducible exact spec_ParseOrient.mono _ _)
      | (with_reducible exact LeO.refl _)
      | (with_reducible exact LeO.none _)
      | (with_reducible refine LeO.ite ?_ ?_)
      | (with_reducible refine LeO.bind ?_ (fun _ => ?_))
    · intro y0 y1 y2 y3 y4 y5 y6 y7
      unfold laws_FnOrients.j3
      repeat' first
      | (with_reducible exact ih0 _ _ _ _ _ _ _ _ _ _)
      | (with_reducible exact ih1 _)
      | (with_reducible exact ih2 _ _ _ _ _ _ _ _)
      | (with_reducible exact ih3 _)
      | (with_reducible exact ih4 _ _ _ _ _ _)
      | (with_reducible exact ih5 _)
      | (with_reducible exact ih6 _ _ _ _ _)
      | (with_reducible exact ih7 _ _ _ _ _ _ _ _ _ _ _ _ _ _ _ _ _)
      | (with_reducible exact impl_AllOrients.mono _)
      | (with_reducible exact laws_pSameOrients.mono _ _ _)
      | (with_reducible exact spec_AllOrients.mono _)
      | (with_reducible exact spec_DrawMirrorOrient.mono _ _)
      | (with_reducible exact spec_DrawOrientText.mono _ _)
      | (with_reducible exact spec_DrawPalmsMeet.mono _ _)
      | (with_reducible exact spec_DrawParseOrient.mono _ _)
      | (with_reducible exact spec_ParseOrient.mono _ _)
      | (with_reducible exact LeO.refl _)
      | (with_reducible exact LeO.none _)
      | (with_reducible refine LeO.ite ?_ ?_)
      | (with_reducible refine LeO.bind ?_ (fun _ => ?_))
    · intro y0
      unfold laws_FnOrients.j4
      repeat' first
      | (with_reducible exact ih0 _ _ _ _ _ _ _ _ _ _)
      | (with_reducible exact ih1 _)
      | (with_reducible exact ih2 _ _ _ _ _ _ _ _)
      | (with_reducible exact ih3 _)
      | (with_reducible exact ih4 _ _ _ _ _ _)
      | (with_reducible exact ih5 _)
      | (with_reducible exact ih6 _ _ _ _ _)
      | (with_reducible exact ih7 _ _ _ _ _ _ _ _ _ _ _ _ _ _ _ _ _)
      | (with_reducible exact impl_AllOrients.mono _)
      | (with_reducible exact laws_pSameOrients.mono _ _ _)
      | (with_reducible exact spec_AllOrients.mono _)
      | (with_reducible exact spec_DrawMirrorOrient.mono _ _)
      | (with_reducible exact spec_DrawOrientText.mono _ _)
      | (with_reducible exact spec_DrawPalmsMeet.mono _ _)
      | (with_reducible exact spec_DrawParseOrient.mono _ _)
      | (with_reducible exact spec_ParseOrient.mono _ _)
      | (with_reducible exact LeO.refl _)
      | (with_reducible exact LeO.none _)
      | (with_reducible refine LeO.ite ?_ ?_)
      | (with_reducible refine LeO.bind ?_ (fun _ => ?_))
    · intro y0 y1 y2 y3 y4 y5
      unfold laws_FnOrients.j5
      repeat' first
      | (with_reducible exact ih0 _ _ _ _ _ _ _ _ _ _)
      | (with_reducible exact ih1 _)
      | (with_reducible exact ih2 _ _ _ _ _ _ _ _)
      | (with_reducible exact ih3 _)
      | (with_reducible exact ih4 _ _ _ _ _ _)
      | (with_reducible exact ih5 _)
      | (with_reducible exact ih6 _ _ _ _ _)
      | (with_reducible exact ih7 _ _ _ _ _ _ _ _ _ _ _ _ _ _ _ _ _)
      | (with_reducible exact impl_AllOrients.mono _)
      | (with_reducible exact laws_pSameOrients.mono _ _ _)
      | (with_reducible exact spec_AllOrients.mono _)
      | (with_reducible exact spec_DrawMirrorOrient.mono _ _)
      | (with_reducible exact spec_DrawOrientText.mono _ _)
      | (with_reducible exact spec_DrawPalmsMeet.mono _ _)
      | (with_reducible exact spec_DrawParseOrient.mono _ _)
      | (with_reducible exact spec_ParseOrient.mono _ _)
      | (with_reducible exact LeO.refl _)
      | (with_reducible exact LeO.none _)
      | (with_reducible refine LeO.ite ?_ ?_)
      | (with_reducible refine LeO.bind ?_ (fun _ => ?_))
    · intro y0
      unfold laws_FnOrients.j6
      repeat' first
      | (with_reducible exact ih0 _ _ _ _ _ _ _ _ _ _)
      | (with_reducible exact ih1 _)
      | (with_reducible exact ih2 _ _ _ _ _ _ _ _)
      | (with_reducible exact ih3 _)
      | (with_reducible exact ih4 _ _ _ _ _ _)
      | (with_reducible exact ih5 _)
      | (with_reducible exact ih6 _ _ _ _ _)
      | (with_reducible exact ih7 _ _ _ _ _ _ _ _ _ _ _ _ _ _ _ _ _)
      | (with_reducible exact impl_AllOrients.mono _)
      | (with_reducible exact laws_pSameOrients.mono _ _ _)
      | (with_reducible exact spec_AllOrients.mono _)
      | (with_reducible exact spec_DrawMirrorOrient.mono _ _)
      | (with_reducible exact spec_DrawOrientText.mono _ _)
      | (with_reducible exact spec_DrawPalmsMeet.mono _ _)
      | (with_reducible exact spec_DrawParseOrient.mono _ _)
      | (with_reducible exact spec_ParseOrient.mono _ _)
      | (with_reducible exact LeO.refl _)
      | (with_reducible exact LeO.none _)
      | (with_reducible refine LeO.ite ?_ ?_)
      | (with_reducible refine LeO.bind ?_ (fun _ => ?_))
    · intro y0 y1 y2 y3 y4
      unfold laws_FnOrients.j7
      repeat' first
      | (with_reducible exact ih0 _ _ _ _ _ _ _ _ _ _)
      | (with_reducible exact ih1 _)
      | (with_reducible exact ih2 _ _ _ _ _ _ _ _)
      | (with_reducible exact ih3 _)
      | (with_reducible exact ih4 _ _ _ _ _ _)
      | (with_reducible exact ih5 _)
      | (with_reducible exact ih6 _ _ _ _ _)
      | (with_reducible exact ih7 _ _ _ _ _ _ _ _ _ _ _ _ _ _ _ _ _)
      | (with_reducible exact impl_AllOrients.mono _)
      | (with_reducible exact laws_pSameOrients.mono _ _ _)
      | (with_reducible exact spec_AllOrients.mono _)
      | (with_reducible exact spec_DrawMirrorOrient.mono _ _)
      | (with_reducible exact spec_DrawOrientText.mono _ _)
      | (with_reducible exact spec_DrawPalmsMeet.mono _ _)
      | (with_reducible exact spec_DrawParseOrient.mono _ _)
      | (with_reducible exact spec_ParseOrient.mono _ _)
      | (with_reducible exact LeO.refl _)
      | (with_reducible exact LeO.none _)
      | (with_reducible refine LeO.ite ?_ ?_)
      | (with_reducible refine LeO.bind ?_ (fun _ => ?_))
    · intro y0 y1 y2 y3 y4 y5 y6 y7 y8 y9 y10 y11 y12 y13 y14 y15 y16
      unfold laws_FnOrients.l0
      repeat' first
      | (with_reducible exact ih0 _ _ _ _ _ _ _ _ _ _)
      | (with_reducible exact ih1 _)
      | (with_reducible exact ih2 _ _ _ _ _ _ _ _)
      | (with_reducible exact ih3 _)
      | (with_reducible exact ih4 _ _ _ _ _ _)
      | (with_reducible exact ih5 _)
      | (with_reducible exact ih6 _ _ _ _ _)
      | (with_reducible exact ih7 _ _ _ _ _ _ _ _ _ _ _ _ _ _ _ _ _)
      | (with_reducible exact impl_AllOrients.mono _)
      | (with_reducible exact laws_pSameOrients.mono _ _ _)
      | (with_reducible exact spec_AllOrients.mono _)
      | (with_reducible exact spec_DrawMirrorOrient.mono _ _)
      | (with_reducible exact spec_DrawOrientText.mono _ _)
      | (with_reducible exact spec_DrawPalmsMeet.mono _ _)
      | (with_reducible exact spec_DrawParseOrient.mono _ _)
      | (with_reducible exact spec_ParseOrient.mono _ _)
      | (with_reducible exact LeO.refl _)
      | (with_reducible exact LeO.none _)
      | (with_reducible refine LeO.ite ?_ ?_)
      | (with_reducible refine LeO.bind ?_ (fun _ => ?_))
theorem laws_FnOrients.mono : ∀ a0 a1 k, LeO (laws_FnOrients.f k a0 a1) (laws_FnOrients.f (k + 1) a0 a1) := by
  intro a0 a1 k
  obtain ⟨ih0, ih1, ih2, ih3, ih4, ih5, ih6, ih7⟩ := laws_FnOrients.mono_l k
  unfold laws_FnOrients.f
  repeat' first
      | (with_reducible exact ih0 _ _ _ _ _ _ _ _ _ _)
      | (with_reducible exact ih1 _)
      | (with_reducible exact ih2 _ _ _ _ _ _ _ _)
      | (with_reducible exact ih3 _)
      | (with_reducible exact ih4 _ _ _ _ _ _)
      | (with_reducible exact ih5 _)
      | (with_reducible exact ih6 _ _ _ _ _)
      | (with_reducible exact ih7 _ _ _ _ _ _ _ _ _ _ _ _ _ _ _ _ _)
      | (with_reducible exact impl_AllOrients.mono _)
      | (with_reducible exact laws_pSameOrients.mono _ _ _)
      | (with_reducible exact spec_AllOrients.mono _)
      | (with_reducible exact spec_DrawMirrorOrient.mono _ _)
      | (with_reducible exact spec_DrawOrientText.mono _ _)
      | (with_reducible exact spec_DrawPalmsMeet.mono _ _)
      | (with_reducible exact spec_DrawParseOrient.mono _ _)
      | (with_reducible exact spec_ParseOrient.mono _ _)
      | (with_reducible exact LeO.refl _)
      | (with_reducible exact LeO.none _)
      | (with_reducible refine LeO.ite ?_ ?_)
      | (with_reducible refine LeO.bind ?_ (fun _ => ?_))
noncomputable def laws_FnOrients.J0 (x1 : List Int) (x7 : Bool) (x15 : List (S39)) (x118 : Bool) (x309000 : Int) (x309001 : Int) (x313000 : Int) (x313001 : Int) (x321000 : Int) (x321001 : Int) : Option (Bool) := lim fun k => laws_FnOrients.j0 k x1 x7 x15 x118 x309000 x309001 x313000 x313001 x321000 x321001
theorem laws_FnOrients.J0_lim (x1 : List Int) (x7 : Bool) (x15 : List (S39)) (x118 : Bool) (x309000 : Int) (x309001 : Int) (x313000 : Int) (x313001 : Int) (x321000 : Int) (x321001 : Int) : Lim (fun k => laws_FnOrients.j0 k x1 x7 x15 x118 x309000 x309001 x313000 x313001 x321000 x321001) (laws_FnOrients.J0 x1 x7 x15 x118 x309000 x309001 x313000 x313001 x321000 x321001) := ⟨fun k => (laws_FnOrients.mono_l k).1 x1 x7 x15 x118 x309000 x309001 x313000 x313001 x321000 x321001, rfl⟩
noncomputable def laws_FnOrients.J2 (x1 : List Int) : Option (Bool) := lim fun k => laws_FnOrients.j2 k x1
theorem laws_FnOrients.J2_lim (x1 : List Int) : Lim (fun k => laws_FnOrients.j2 k x1) (laws_FnOrients.J2 x1) := ⟨fun k => (laws_FnOrients.mono_l k).2.1 x1, rfl⟩
noncomputable def laws_FnOrients.J3 (x1 : List Int) (x26 : Bool) (x27 : Bool) (x197 : Bool) (x350000 : Int) (x350001 : Int) (x351000 : Int) (x351001 : Int) : Option (Bool) := lim fun k => laws_FnOrients.j3 k x1 x26 x27 x197 x350000 x350001 x351000 x351001
theorem laws_FnOrients.J3_lim (x1 : List Int) (x26 : Bool) (x27 : Bool) (x197 : Bool) (x350000 : Int) (x350001 : Int) (x351000 : Int) (x351001 : Int) : Lim (fun k => laws_FnOrients.j3 k x1 x26 x27 x197 x350000 x350001 x351000 x351001) (laws_FnOrients.J3 x1 x26 x27 x197 x350000 x350001 x351000 x351001) := ⟨fun k => (laws_FnOrients.mono_l k).2.2.1 x1 x26 x27 x197 x350000 x350001 x351000 x351001, rfl⟩
noncomputable def laws_FnOrients.J4 (x1 : List Int) : Option (Bool) := lim fun k => laws_FnOrients.j4 k x1
theorem laws_FnOrients.J4_lim (x1 : List Int) : Lim (fun k => laws_FnOrients.j4 k x1) (laws_FnOrients.J4 x1) := ⟨fun k => (laws_FnOrients.mono_l k).2.2.2.1 x1, rfl⟩
noncomputable def laws_FnOrients.J5 (x1 : List Int) (x33 : Int) (x34 : Int) (x35 : Bool) (x36 : Int) (x249 : Bool) : Option (Bool) := lim fun k => laws_FnOrients.j5 k x1 x33 x34 x35 x36 x249
theorem laws_FnOrients.J5_lim (x1 : List Int) (x33 : Int) (x34 : Int) (x35 : Bool) (x36 : Int) (x249 : Bool) : Lim (fun k => laws_FnOrients.j5 k x1 x33 x34 x35 x36 x249) (laws_FnOrients.J5 x1 x33 x34 x35 x36 x249) := ⟨fun k => (laws_FnOrients.mono_l k).2.2.2.2.1 x1 x33 x34 x35 x36 x249, rfl⟩
noncomputable def laws_FnOrients.J6 (x1 : List Int) : Option (Bool) := lim fun k => laws_FnOrients.j6 k x1
theorem laws_FnOrients.J6_lim (x1 : List Int) : Lim (fun k => laws_FnOrients.j6 k x1) (laws_FnOrients.J6 x1) := ⟨fun k => (laws_FnOrients.mono_l k).2.2.2.2.2.1 x1, rfl⟩
noncomputable def laws_FnOrients.J7 (x46 : ByteArray) (x47 : Bool) (x309 : Bool) (x378000 : Int) (x378001 : Int) : Option (Bool) := lim fun k => laws_FnOrients.j7 k x46 x47 x309 x378000 x378001
theorem laws_FnOrients.J7_lim (x46 : ByteArray) (x47 : Bool) (x309 : Bool) (x378000 : Int) (x378001 : Int) : Lim (fun k => laws_FnOrients.j7 k x46 x47 x309 x378000 x378001) (laws_FnOrients.J7 x46 x47 x309 x378000 x378001) := ⟨fun k => (laws_FnOrients.mono_l k).2.2.2.2.2.2.1 x46 x47 x309 x378000 x378001, rfl⟩
noncomputable def laws_FnOrients.L0 (x1 : List Int) (x17 : Bool) (x19 : Bool) (x20 : Bool) (x130 : List (S39)) (x131 : Int) (x132 : Int) (x309000 : Int) (x309001 : Int) (x313000 : Int) (x313001 : Int) (x321000 : Int) (x321001 : Int) (x337000 : Int) (x337001 : Int) (x341000 : Int) (x341001 : Int) : Option (Bool) := lim fun k => laws_FnOrients.l0 k x1 x17 x19 x20 x130 x131 x132 x309000 x309001 x313000 x313001 x321000 x321001 x337000 x337001 x341000 x341001
theorem laws_FnOrients.L0_lim (x1 : List Int) (x17 : Bool) (x19 : Bool) (x20 : Bool) (x130 : List (S39)) (x131 : Int) (x132 : Int) (x309000 : Int) (x309001 : Int) (x313000 : Int) (x313001 : Int) (x321000 : Int) (x321001 : Int) (x337000 : Int) (x337001 : Int) (x341000 : Int) (x341001 : Int) : Lim (fun k => laws_FnOrients.l0 k x1 x17 x19 x20 x130 x131 x132 x309000 x309001 x313000 x313001 x321000 x321001 x337000 x337001 x341000 x341001) (laws_FnOrients.L0 x1 x17 x19 x20 x130 x131 x132 x309000 x309001 x313000 x313001 x321000 x321001 x337000 x337001 x341000 x341001) := ⟨fun k => (laws_FnOrients.mono_l k).2.2.2.2.2.2.2 x1 x17 x19 x20 x130 x131 x132 x309000 x309001 x313000 x313001 x321000 x321001 x337000 x337001 x341000 x341001, rfl⟩
noncomputable def laws_FnOrients.F (l0 : List Int) (l1 : List Int) : Option (Bool) := lim fun k => laws_FnOrients.f k l0 l1
theorem laws_FnOrients.F_lim (l0 : List Int) (l1 : List Int) : Lim (fun k => laws_FnOrients.f k l0 l1) (laws_FnOrients.F l0 l1) := ⟨laws_FnOrients.mono l0 l1, rfl⟩
theorem laws_FnOrients.J0_eq (x1 : List Int) (x7 : Bool) (x15 : List (S39)) (x118 : Bool) (x309000 : Int) (x309001 : Int) (x313000 : Int) (x313001 : Int) (x321000 : Int) (x321001 : Int) : laws_FnOrients.J0 x1 x7 x15 x118 x309000 x309001 x313000 x313001 x321000 x321001 = (if x118 = true then (some false) else (if x7 = true then ((impl_MirrorOrient.f x313000 x313001).bind fun bt333 => ((impl_SeenOrient.f x321000 x321001).bind fun bt337 => (laws_FnOrients.L0 x1 bt333.2.2 bt337.2.2 false x15 (x15.length : Int) 0 x309000 x309001 x313000 x313001 x321000 x321001 bt333.1 bt333.2.1 bt337.1 bt337.2.1))) else (laws_FnOrients.J2 x1))) := by
  refine Lim.succ_eq (laws_FnOrients.J0_lim x1 x7 x15 x118 x309000 x309001 x313000 x313001 x321000 x321001).mon ?_
  simp only [laws_FnOrients.j0]
  repeat' first
  | (with_reducible exact laws_FnOrients.J0_lim _ _ _ _ _ _ _ _ _ _)
  | (with_reducible exact laws_FnOrients.J2_lim _)
  | (with_reducible exact laws_FnOrients.J3_lim _ _ _ _ _ _ _ _)
  | (with_reducible exact laws_FnOrients.J4_lim _)
  | (with_reducible exact laws_FnOrients.J5_lim _ _ _ _ _ _)
  | (with_reducible exact laws_FnOrients.J6_lim _)
  | (with_reducible exact laws_FnOrients.J7_lim _ _ _ _ _)
  | (with_reducible exact laws_FnOrients.L0_lim _ _ _ _ _ _ _ _ _ _ _ _ _ _ _ _ _)
  | (with_reducible exact impl_AllOrients.F_lim)
  | (with_reducible exact laws_pSameOrients.F_lim _ _)
  | (with_reducible exact spec_AllOrients.F_lim)
  | (with_reducible exact spec_DrawMirrorOrient.F_lim _)
  | (with_reducible exact spec_DrawOrientText.F_lim _)
  | (with_reducible exact spec_DrawPalmsMeet.F_lim _)
  | (with_reducible exact spec_DrawParseOrient.F_lim _)
  | (with_reducible exact spec_ParseOrient.F_lim _)
  | (with_reducible refine Lim.ite ?_ ?_)
  | (with_reducible refine Lim.bind ?_ (fun _ => ?_))
  | (with_reducible exact Lim.const _)
theorem laws_FnOrients.J2_eq (x1 : List Int) : laws_FnOrients.J2 x1 = ((spec_DrawPalmsMeet.F x1).bind fun bt345 => ((impl_PalmsMeet.f bt345.1 bt345.2.1 bt345.2.2.1 bt345.2.2.2).bind fun bt351 => ((spec_PalmsMeet.f bt345.1 bt345.2.1 bt345.2.2.1 bt345.2.2.2).bind fun bt353 => (if (bt351.2 != bt353.2) = true then (laws_FnOrients.J3 x1 bt351.2 bt353.1 true bt345.1 bt345.2.1 bt345.2.2.1 bt345.2.2.2) else (laws_FnOrients.J3 x1 bt351.2 bt353.1 (bt351.1 != bt353.1) bt345.1 bt345.2.1 bt345.2.2.1 bt345.2.2.2))))) := by
  refine Lim.succ_eq (laws_FnOrients.J2_lim x1).mon ?_
  simp only [laws_FnOrients.j2]
  repeat' first
  | (with_reducible exact laws_FnOrients.J0_lim _ _ _ _ _ _ _ _ _ _)
  | (with_reducible exact laws_FnOrients.J2_lim _)
  | (with_reducible exact laws_FnOrients.J3_lim _ _ _ _ _ _ _ _)
  | (with_reducible exact laws_FnOrients.J4_lim _)
  | (with_reducible exact laws_FnOrients.J5_lim _ _ _ _ _ _)
  | (with_reducible exact laws_FnOrients.J6_lim _)
  | (with_reducible exact laws_FnOrients.J7_lim _ _ _ _ _)
  | (with_reducible exact laws_FnOrients.L0_lim _ _ _ _ _ _ _ _ _ _ _ _ _ _ _ _ _)
  | (with_reducible exact impl_AllOrients.F_lim)
  | (with_reducible exact laws_pSameOrients.F_lim _ _)
  | (with_reducible exact spec_AllOrients.F_lim)
  | (with_reducible exact spec_DrawMirrorOrient.F_lim _)
  | (with_reducible exact spec_DrawOrientText.F_lim _)
  | (with_reducible exact spec_DrawPalmsMeet.F_lim _)
  | (with_reducible exact spec_DrawParseOrient.F_lim _)
  | (with_reducible exact spec_ParseOrient.F_lim _)
  | (with_reducible refine Lim.ite ?_ ?_)
  | (with_reducible refine Lim.bind ?_ (fun _ => ?_))
  | (with_reducible exact Lim.const _)
theorem laws_FnOrients.J3_eq (x1 : List Int) (x26 : Bool) (x27 : Bool) (x197 : Bool) (x350000 : Int) (x350001 : Int) (x351000 : Int) (x351001 : Int) : laws_FnOrients.J3 x1 x26 x27 x197 x350000 x350001 x351000 x351001 = (if x197 = true then (some false) else (if x26 = true then ((impl_OppositeDir.f x350000).bind fun bt355 => ((impl_PalmsMeet.f x351000 x351001 x350000 x350001).bind fun bt357 => (if bt355.2 = true then (if (x27 != (bt355.1 == x351000)) = true then (some false) else (if bt357.2 = true then (if (bt357.1 != x27) = true then (some false) else (laws_FnOrients.J4 x1)) else (some false))) else (some false)))) else (laws_FnOrients.J4 x1))) := by
  refine Lim.succ_eq (laws_FnOrients.J3_lim x1 x26 x27 x197 x350000 x350001 x351000 x351001).mon ?_
  simp only [laws_FnOrients.j3]
  repeat' first
  | (with_reducible exact laws_FnOrients.J0_lim _ _ _ _ _ _ _ _ _ _)
  | (with_reducible exact laws_FnOrients.J2_lim _)
  | (with_reducible exact laws_FnOrients.J3_lim _ _ _ _ _ _ _ _)
  | (with_reducible exact laws_FnOrients.J4_lim _)
  | (with_reducible exact laws_FnOrients.J5_lim _ _ _ _ _ _)
  | (with_reducible exact laws_FnOrients.J6_lim _)
  | (with_reducible exact laws_FnOrients.J7_lim _ _ _ _ _)
  | (with_reducible exact laws_FnOrients.L0_lim _ _ _ _ _ _ _ _ _ _ _ _ _ _ _ _ _)
  | (with_reducible exact impl_AllOrients.F_lim)
  | (with_reducible exact laws_pSameOrients.F_lim _ _)
  | (with_reducible exact spec_AllOrients.F_lim)
  | (with_reducible exact spec_DrawMirrorOrient.F_lim _)
  | (with_reducible exact spec_DrawOrientText.F_lim _)
  | (with_reducible exact spec_DrawPalmsMeet.F_lim _)
  | (with_reducible exact spec_DrawParseOrient.F_lim _)
  | (with_reducible exact spec_ParseOrient.F_lim _)
  | (with_reducible refine Lim.ite ?_ ?_)
  | (with_reducible refine Lim.bind ?_ (fun _ => ?_))
  | (with_reducible exact Lim.const _)
theorem laws_FnOrients.J4_eq (x1 : List Int) : laws_FnOrients.J4 x1 = ((spec_DrawOppositeDir.f x1).bind fun t359 => ((impl_OppositeDir.f t359).bind fun bt360 => ((spec_OppositeDir.f t359).bind fun bt362 => (if (bt360.2 != bt362.2) = true then (laws_FnOrients.J5 x1 t359 bt360.1 bt360.2 bt362.1 true) else (laws_FnOrients.J5 x1 t359 bt360.1 bt360.2 bt362.1 (bt360.1 != bt362.1)))))) := by
  refine Lim.succ_eq (laws_FnOrients.J4_lim x1).mon ?_
  simp only [laws_FnOrients.j4]
  repeat' first
  | (with_reducible exact laws_FnOrients.J0_lim _ _ _ _ _ _ _ _ _ _)
  | (with_reducible exact laws_FnOrients.J2_lim _)
  | (with_reducible exact laws_FnOrients.J3_lim _ _ _ _ _ _ _ _)
  | (with_reducible exact laws_FnOrients.J4_lim _)
  | (with_reducible exact laws_FnOrients.J5_lim _ _ _ _ _ _)
  | (with_reducible exact laws_FnOrients.J6_lim _)
  | (with_reducible exact laws_FnOrients.J7_lim _ _ _ _ _)
  | (with_reducible exact laws_FnOrients.L0_lim _ _ _ _ _ _ _ _ _ _ _ _ _ _ _ _ _)
  | (with_reducible exact impl_AllOrients.F_lim)
  | (with_reducible exact laws_pSameOrients.F_lim _ _)
  | (with_reducible exact spec_AllOrients.F_lim)
  | (with_reducible exact spec_DrawMirrorOrient.F_lim _)
  | (with_reducible exact spec_DrawOrientText.F_lim _)
  | (with_reducible exact spec_DrawPalmsMeet.F_lim _)
  | (with_reducible exact spec_DrawParseOrient.F_lim _)
  | (with_reducible exact spec_ParseOrient.F_lim _)
  | (with_reducible refine Lim.ite ?_ ?_)
  | (with_reducible refine Lim.bind ?_ (fun _ => ?_))
  | (with_reducible exact Lim.const _)
theorem laws_FnOrients.J5_eq (x1 : List Int) (x33 : Int) (x34 : Int) (x35 : Bool) (x36 : Int) (x249 : Bool) : laws_FnOrients.J5 x1 x33 x34 x35 x36 x249 = (if x249 = true then (some false) else (if x35 = true then ((impl_OppositeDir.f x34).bind fun bt364 => (if bt364.2 = true then (if bt364.1 = x33 then (if x36 = x33 then (some false) else (laws_FnOrients.J6 x1)) else (some false)) else (some false))) else (laws_FnOrients.J6 x1))) := by
  refine Lim.succ_eq (laws_FnOrients.J5_lim x1 x33 x34 x35 x36 x249).mon ?_
  simp only [laws_FnOrients.j5]
  repeat' first
  | (with_reducible exact laws_FnOrients.J0_lim _ _ _ _ _ _ _ _ _ _)
  | (with_reducible exact laws_FnOrients.J2_lim _)
  | (with_reducible exact laws_FnOrients.J3_lim _ _ _ _ _ _ _ _)
  | (with_reducible exact laws_FnOrients.J4_lim _)
  | (with_reducible exact laws_FnOrients.J5_lim _ _ _ _ _ _)
  | (with_reducible exact laws_FnOrients.J6_lim _)
  | (with_reducible exact laws_FnOrients.J7_lim _ _ _ _ _)
  | (with_reducible exact laws_FnOrients.L0_lim _ _ _ _ _ _ _ _ _ _ _ _ _ _ _ _ _)
  | (with_reducible exact impl_AllOrients.F_lim)
  | (with_reducible exact laws_pSameOrients.F_lim _ _)
  | (with_reducible exact spec_AllOrients.F_lim)
  | (with_reducible exact spec_DrawMirrorOrient.F_lim _)
  | (with_reducible exact spec_DrawOrientText.F_lim _)
  | (with_reducible exact spec_DrawPalmsMeet.F_lim _)
  | (with_reducible exact spec_DrawParseOrient.F_lim _)
  | (with_reducible exact spec_ParseOrient.F_lim _)
  | (with_reducible refine Lim.ite ?_ ?_)
  | (with_reducible refine Lim.bind ?_ (fun _ => ?_))
  | (with_reducible exact Lim.const _)
theorem laws_FnOrients.J6_eq (x1 : List Int) : laws_FnOrients.J6 x1 = ((spec_DrawParseOrient.F x1).bind fun t366 => ((impl_ParseOrient.f t366).bind fun bt367 => ((spec_ParseOrient.F t366).bind fun bt371 => ((spec_DrawOrientText.F x1).bind fun bt375 => ((impl_OrientText.f bt375.1 bt375.2).bind fun bt378 => ((spec_OrientText.f bt375.1 bt375.2).bind fun bt380 => (if (bt367.2.2 != bt371.2.2) = true then (laws_FnOrients.J7 bt378.1 bt378.2 true bt375.1 bt375.2) else (if (!(bt367.1 == bt371.1) || (!(bt367.2.1 == bt371.2.1))) = true then (laws_FnOrients.J7 bt378.1 bt378.2 true bt375.1 bt375.2) else (if (bt378.2 != bt380.2) = true then (laws_FnOrients.J7 bt378.1 bt378.2 true bt375.1 bt375.2) else (laws_FnOrients.J7 bt378.1 bt378.2 (bt378.1.toList != bt380.1.toList) bt375.1 bt375.2)))))))))) := by
  refine Lim.succ_eq (laws_FnOrients.J6_lim x1).mon ?_
  simp only [laws_FnOrients.j6]
  repeat' first
  | (with_reducible exact laws_FnOrients.J0_lim _ _ _ _ _ _ _ _ _ _)
  | (with_reducible exact laws_FnOrients.J2_lim _)
  | (with_reducible exact laws_FnOrients.J3_lim _ _ _ _ _ _ _ _)
  | (with_reducible exact laws_FnOrients.J4_lim _)
  | (with_reducible exact laws_FnOrients.J5_lim _ _ _ _ _ _)
  | (with_reducible exact laws_FnOrients.J6_lim _)
  | (with_reducible exact laws_FnOrients.J7_lim _ _ _ _ _)
  | (with_reducible exact laws_FnOrients.L0_lim _ _ _ _ _ _ _ _ _ _ _ _ _ _ _ _ _)
  | (with_reducible exact impl_AllOrients.F_lim)
  | (with_reducible exact laws_pSameOrients.F_lim _ _)
  | (with_reducible exact spec_AllOrients.F_lim)
  | (with_reducible exact spec_DrawMirrorOrient.F_lim _)
  | (with_reducible exact spec_DrawOrientText.F_lim _)
  | (with_reducible exact spec_DrawPalmsMeet.F_lim _)
  | (with_reducible exact spec_DrawParseOrient.F_lim _)
  | (with_reducible exact spec_ParseOrient.F_lim _)
  | (with_reducible refine Lim.ite ?_ ?_)
  | (with_reducible refine Lim.bind ?_ (fun _ => ?_))
  | (with_reducible exact Lim.const _)
theorem laws_FnOrients.J7_eq (x46 : ByteArray) (x47 : Bool) (x309 : Bool) (x378000 : Int) (x378001 : Int) : laws_FnOrients.J7 x46 x47 x309 x378000 x378001 = (if x309 = true then (some false) else (if x47 = true then ((impl_ParseOrient.f x46).bind fun bt382 => (if bt382.2.2 = true then (some (bt382.1 == x378000 && (bt382.2.1 == x378001))) else (some false))) else (some true))) := by
  refine Lim.succ_eq (laws_FnOrients.J7_lim x46 x47 x309 x378000 x378001).mon ?_
  simp only [laws_FnOrients.j7]
  repeat' first
  | (with_reducible exact laws_FnOrients.J0_lim _ _ _ _ _ _ _ _ _ _)
  | (with_reducible exact laws_FnOrients.J2_lim _)
  | (with_reducible exact laws_FnOrients.J3_lim _ _ _ _ _ _ _ _)
  | (with_reducible exact laws_FnOrients.J4_lim _)
  | (with_reducible exact laws_FnOrients.J5_lim _ _ _ _ _ _)
  | (with_reducible exact laws_FnOrients.J6_lim _)
  | (with_reducible exact laws_FnOrients.J7_lim _ _ _ _ _)
  | (with_reducible exact laws_FnOrients.L0_lim _ _ _ _ _ _ _ _ _ _ _ _ _ _ _ _ _)
  | (with_reducible exact impl_AllOrients.F_lim)
  | (with_reducible exact laws_pSameOrients.F_lim _ _)
  | (with_reducible exact spec_AllOrients.F_lim)
  | (with_reducible exact spec_DrawMirrorOrient.F_lim _)
  | (with_reducible exact spec_DrawOrientText.F_lim _)
  | (with_reducible exact spec_DrawPalmsMeet.F_lim _)
  | (with_reducible exact spec_DrawParseOrient.F_lim _)
  | (with_reducible exact spec_ParseOrient.F_lim _)
  | (with_reducible refine Lim.ite ?_ ?_)
  | (with_reducible refine Lim.bind ?_ (fun _ => ?_))
  | (with_reducible exact Lim.const _)
theorem laws_FnOrients.L0_eq (x1 : List Int) (x17 : Bool) (x19 : Bool) (x20 : Bool) (x130 : List (S39)) (x131 : Int) (x132 : Int) (x309000 : Int) (x309001 : Int) (x313000 : Int) (x313001 : Int) (x321000 : Int) (x321001 : Int) (x337000 : Int) (x337001 : Int) (x341000 : Int) (x341001 : Int) : laws_FnOrients.L0 x1 x17 x19 x20 x130 x131 x132 x309000 x309001 x313000 x313001 x321000 x321001 x337000 x337001 x341000 x341001 = (if x132 < x131 then (if 0 ≤ x132 then (if x132 < (x130.length : Int) then (if x20 = true then (laws_FnOrients.L0 x1 x17 x19 true x130 x131 (wrap64 (x132 + 1)) x309000 x309001 x313000 x313001 x321000 x321001 x337000 x337001 x341000 x341001) else (laws_FnOrients.L0 x1 x17 x19 (((rd_T39 x130 x132).f0) == x309000 && (((rd_T39 x130 x132).f1) == x309001)) x130 x131 (wrap64 (x132 + 1)) x309000 x309001 x313000 x313001 x321000 x321001 x337000 x337001 x341000 x341001)) else (none)) else (none)) else (if x17 = true then (if (!(x337000 == x309000) || (!(x337001 == x309001))) = true then (some false) else (if x19 = true then (if (!(x341000 == x309000) || (!(x341001 == x309001))) = true then (some false) else (if x20 = true then ((impl_IsOrient.f x313000 x313001).bind fun t343 => (if t343 = true then ((impl_IsOrient.f x321000 x321001).bind fun t344 => (if t344 = true then (laws_FnOrients.J2 x1) else (some false))) else (some false))) else (some false))) else (some false))) else (some false))) := by
  refine Lim.succ_eq (laws_FnOrients.L0_lim x1 x17 x19 x20 x130 x131 x132 x309000 x309001 x313000 x313001 x321000 x321001 x337000 x337001 x341000 x341001).mon ?_
  simp only [laws_FnOrients.l0]
  repeat' first
  | (with_reducible exact laws_FnOrients.J0_lim _ _ _ _ _ _ _ _ _ _)
  | (with_reducible exact laws_FnOrients.J2_lim _)
  | (with_reducible exact laws_FnOrients.J3_lim _ _ _ _ _ _ _ _)
  | (with_reducible exact laws_FnOrients.J4_lim _)
  | (with_reducible exact laws_FnOrients.J5_lim _ _ _ _ _ _)
  | (with_reducible exact laws_FnOrients.J6_lim _)
  | (with_reducible exact laws_FnOrients.J7_lim _ _ _ _ _)
  | (with_reducible exact laws_FnOrients.L0_lim _ _ _ _ _ _ _ _ _ _ _ _ _ _ _ _ _)
  | (with_reducible exact impl_AllOrients.F_lim)
  | (with_reducible exact laws_pSameOrients.F_lim _ _)
  | (with_reducible exact spec_AllOrients.F_lim)
  | (with_reducible exact spec_DrawMirrorOrient.F_lim _)
  | (with_reducible exact spec_DrawOrientText.F_lim _)
  | (with_reducible exact spec_DrawPalmsMeet.F_lim _)
  | (with_reducible exact spec_DrawParseOrient.F_lim _)
  | (with_reducible exact spec_ParseOrient.F_lim _)
  | (with_reducible refine Lim.ite ?_ ?_)
  | (with_reducible refine Lim.bind ?_ (fun _ => ?_))
  | (with_reducible exact Lim.const _)
theorem laws_FnOrients.F_eq (l0 : List Int) (l1 : List Int) : laws_FnOrients.F l0 l1 = ((laws_big.f l0 l1).bind fun t305 => (if t305 = true then (some true) else ((spec_DrawMirrorOrient.F l0).bind fun bt306 => ((impl_MirrorOrient.f bt306.1 bt306.2).bind fun bt309 => ((spec_MirrorOrient.f bt306.1 bt306.2).bind fun bt313 => ((impl_SeenOrient.f bt306.1 bt306.2).bind fun bt317 => ((spec_SeenOrient.f bt306.1 bt306.2).bind fun bt321 => ((impl_AllOrients.F).bind fun t325 => ((spec_AllOrients.F).bind fun t328 => (if (bt309.2.2 != bt313.2.2) = true then (laws_FnOrients.J0 l1 bt309.2.2 t328 true bt306.1 bt306.2 bt309.1 bt309.2.1 bt317.1 bt317.2.1) else (if (!(bt309.1 == bt313.1) || (!(bt309.2.1 == bt313.2.1))) = true then (laws_FnOrients.J0 l1 bt309.2.2 t328 true bt306.1 bt306.2 bt309.1 bt309.2.1 bt317.1 bt317.2.1) else (if (bt317.2.2 != bt321.2.2) = true then (laws_FnOrients.J0 l1 bt309.2.2 t328 true bt306.1 bt306.2 bt309.1 bt309.2.1 bt317.1 bt317.2.1) else (if (!(bt317.1 == bt321.1) || (!(bt317.2.1 == bt321.2.1))) = true then (laws_FnOrients.J0 l1 bt309.2.2 t328 true bt306.1 bt306.2 bt309.1 bt309.2.1 bt317.1 bt317.2.1) else ((laws_pSameOrients.F t325 t328).bind fun t331 => (if t331 = true then ((impl_IsOrient.f bt306.1 bt306.2).bind fun t332 => (if (bt309.2.2 != t332) = true then (laws_FnOrients.J0 l1 bt309.2.2 t328 true bt306.1 bt306.2 bt309.1 bt309.2.1 bt317.1 bt317.2.1) else (if (bt317.2.2 != bt309.2.2) = true then (laws_FnOrients.J0 l1 bt309.2.2 t328 true bt306.1 bt306.2 bt309.1 bt309.2.1 bt317.1 bt317.2.1) else (laws_FnOrients.J0 l1 bt309.2.2 t328 ((t328.length : Int) != 24) bt306.1 bt306.2 bt309.1 bt309.2.1 bt317.1 bt317.2.1)))) else (laws_FnOrients.J0 l1 bt309.2.2 t328 true bt306.1 bt306.2 bt309.1 bt309.2.1 bt317.1 bt317.2.1)))))))))))))))) := by
  refine Lim.eq_ ?_
  simp only [laws_FnOrients.f]
  repeat' first
  | (with_reducible exact laws_FnOrients.J0_lim _ _ _ _ _ _ _ _ _ _)
  | (with_reducible exact laws_FnOrients.J2_lim _)
  | (with_reducible exact laws_FnOrients.J3_lim _ _ _ _ _ _ _ _)
  | (with_reducible exact laws_FnOrients.J4_lim _)
  | (with_reducible exact laws_FnOrients.J5_lim _ _ _ _ _ _)
  | (with_reducible exact laws_FnOrients.J6_lim _)
  | (with_reducible exact laws_FnOrients.J7_lim _ _ _ _ _)
  | (with_reducible exact laws_FnOrients.L0_lim _ _ _ _ _ _ _ _ _ _ _ _ _ _ _ _ _)
  | (with_reducible exact impl_AllOrients.F_lim)
  | (with_reducible exact laws_pSameOrients.F_lim _ _)
  | (with_reducible exact spec_AllOrients.F_lim)
  | (with_reducible exact spec_DrawMirrorOrient.F_lim _)
  | (with_reducible exact spec_DrawOrientText.F_lim _)
  | (with_reducible exact spec_DrawPalmsMeet.F_lim _)
  | (with_reducible exact spec_DrawParseOrient.F_lim _)
  | (with_reducible exact spec_ParseOrient.F_lim _)
  | (with_reducible refine Lim.ite ?_ ?_)
  | (with_reducible refine Lim.bind ?_ (fun _ => ?_))
  | (with_reducible exact Lim.const _)
def laws_FnOrients.Pure : Prop := ∀ (l0 : List Int) (l1 : List Int), l0.length ≤ maxLen → l0.length * 1 ≤ 140737488351232 → (∀ x ∈ l0, (Lit.int .u8 x).wf = true) → l1.length ≤ maxLen → l1.length * 1 ≤ 140737488351232 → (∀ x ∈ l1, (Lit.int .u8 x).wf = true) → ∃ k, laws_FnOrients.f k l0 l1 = some true
end Go.Proofs.Ytmlpogmedglncaa.PFnOrients
