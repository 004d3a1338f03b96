/- Written by a program of this claim's author, out of the loaded program as Lean prints it: the functions as Lean functions, and that the calls answer so. -/
import Derived.Test.YtmffndjbpealmaaDoorPFnExactCompareHandsx0
namespace Go.Proofs.YtmffndjbpealmaaDoor.PFnExactCompareHands
open Go.RowKit Go.Proofs.YtmffndjbpealmaaDoorW.PrintWords Go.Proofs.YtmffndjbpealmaaDoorW.PrintLast Go.Proofs.YtmffndjbpealmaaDoorW.PrintMore
attribute [local go_sem] max2_int min2_int max_two min_two max_three min_three max_four min_four   -- for this text's walks alone
set_option linter.unusedVariables false
set_option linter.unusedSimpArgs false

def laws_szMove.f (a0_0 : ByteArray) (a0_1 : Int) (a1 : Int) : Option (Int) := if (wrap64 (a1 - (a0_0.size : Int))) < 0 then (some (-1)) else (some (wrap64 (a1 - (a0_0.size : Int))))
def laws_szHand.f (a0_0 : Int) (a0_1 : Int) (a0_2 : Int) (a0_3 : Int) (a0_4 : Int) (a0_5 : Bool) (a0_6 : Int) (a0_7 : Int) (a0_8 : Int) (a0_9 : Int) (a0_10 : Bool) (a0_11 : ByteArray) (a0_12 : Int) (a1 : Int) : Option (Int) := (laws_szMove.f a0_11 a0_12 a1).bind fun t103 => (if t103 < 0 then (some (-1)) else (some t103))
def laws_toShape.f (a0_0 : Int) (a0_1 : Int) (a0_2 : Int) (a0_3 : Int) (a0_4 : Int) (a0_5 : Bool) : Option (Int × Int × Int × Int × Int × Bool) := some (a0_0, a0_1, a0_2, a0_3, a0_4, a0_5)
def laws_toMove.f (a0_0 : ByteArray) (a0_1 : Int) : Option (ByteArray × Int) := some (a0_0, a0_1)
def laws_toOrient.f (a0_0 : Int) (a0_1 : Int) : Option (Int × Int) := some (a0_0, a0_1)
def laws_toPlace.f (a0_0 : Int) (a0_1 : Int) (a0_2 : Bool) : Option (Int × Int × Bool) := some (a0_0, a0_1, a0_2)
def laws_toHand.f (a0_0 : Int) (a0_1 : Int) (a0_2 : Int) (a0_3 : Int) (a0_4 : Int) (a0_5 : Bool) (a0_6 : Int) (a0_7 : Int) (a0_8 : Int) (a0_9 : Int) (a0_10 : Bool) (a0_11 : ByteArray) (a0_12 : Int) : Option (Int × Int × Int × Int × Int × Bool × Int × Int × Int × Int × Bool × ByteArray × Int) := (laws_toShape.f a0_0 a0_1 a0_2 a0_3 a0_4 a0_5).bind fun bt119 => ((laws_toOrient.f a0_6 a0_7).bind fun bt125 => ((laws_toPlace.f a0_8 a0_9 a0_10).bind fun bt127 => ((laws_toMove.f a0_11 a0_12).bind fun bt130 => (some (bt119.1, bt119.2.1, bt119.2.2.1, bt119.2.2.2.1, bt119.2.2.2.2.1, bt119.2.2.2.2.2, bt125.1, bt125.2, bt127.1, bt127.2.1, bt127.2.2, bt130.1, bt130.2)))))
def spec_shFingers.f (a0_0 : Int) (a0_1 : Int) (a0_2 : Int) (a0_3 : Int) (a0_4 : Int) (a0_5 : Bool) : Option (List Int) := some (([a0_1, a0_2, a0_3, a0_4] : List Int))
def spec_l1In.f (a0 : Int) (a1 : Int) (a2 : Int) : Option (Bool) := if a0 ≥ a1 then (some (decide (a0 ≤ a2))) else (some false)
def spec_l1All.l0 : Nat → Int → Int → List Int → Int → Int → Option (Bool)
  | 0, _, _, _, _, _ => none
  | k + 1, x1, x2, x9, x10, x11 => if x11 < x10 then (if 0 ≤ x11 then (if x11 < (x9.length : Int) then ((spec_l1In.f (rd x9 x11) x1 x2).bind fun t137 => (if t137 = true then (spec_l1All.l0 k x1 x2 x9 x10 (wrap64 (x11 + 1))) else (some false))) else (none)) else (none)) else (some true)
def spec_l1All.f (k : Nat) (l0 : List Int) (a1 : Int) (a2 : Int) : Option (Bool) := spec_l1All.l0 k a1 a2 l0 (l0.length : Int) 0
theorem spec_l1All.mono_l : ∀ k, (∀ y0 y1 y2 y3 y4, LeO (spec_l1All.l0 k y0 y1 y2 y3 y4) (spec_l1All.l0 (k + 1) y0 y1 y2 y3 y4))
  | 0 => fun _ _ _ _ _ r h => by simp [spec_l1All.l0] at h
  | k + 1 => by
    have ih0 := spec_l1All.mono_l k
    · intro y0 y1 y2 y3 y4
      unfold spec_l1All.l0
      repeat' first
      | (with_reducible exact ih0 _ _ _ _ _)
      | (with_reducible exact LeO.refl _)
      | (with_reducible exact LeO.none _)
      | (with_reducible refine LeO.ite ?_ ?_)
      | (with_reducible refine LeO.bind ?_ (fun _ => ?_))
      | exact ih0 _ _ _ _ _
      | exact LeO.none _
      | refine LeO.ite ?_ ?_
      | refine LeO.bind ?_ (fun _ => ?_)
theorem spec_l1All.mono : ∀ a0 a1 a2 k, LeO (spec_l1All.f k a0 a1 a2) (spec_l1All.f (k + 1) a0 a1 a2) := by
  intro a0 a1 a2 k
  have ih0 := spec_l1All.mono_l k
  unfold spec_l1All.f
  repeat' first
      | (with_reducible exact ih0 _ _ _ _ _)
      | (with_reducible exact LeO.refl _)
      | (with_reducible exact LeO.none _)
      | (with_reducible refine LeO.ite ?_ ?_)
      | (with_reducible refine LeO.bind ?_ (fun _ => ?_))
      | exact ih0 _ _ _ _ _
      | exact LeO.none _
      | refine LeO.ite ?_ ?_
      | refine LeO.bind ?_ (fun _ => ?_)
noncomputable def spec_l1All.L0 (x1 : Int) (x2 : Int) (x9 : List Int) (x10 : Int) (x11 : Int) : Option (Bool) := lim fun k => spec_l1All.l0 k x1 x2 x9 x10 x11
theorem spec_l1All.L0_lim (x1 : Int) (x2 : Int) (x9 : List Int) (x10 : Int) (x11 : Int) : Lim (fun k => spec_l1All.l0 k x1 x2 x9 x10 x11) (spec_l1All.L0 x1 x2 x9 x10 x11) := ⟨fun k => (spec_l1All.mono_l k) x1 x2 x9 x10 x11, rfl⟩
noncomputable def spec_l1All.F (l0 : List Int) (a1 : Int) (a2 : Int) : Option (Bool) := lim fun k => spec_l1All.f k l0 a1 a2
theorem spec_l1All.F_lim (l0 : List Int) (a1 : Int) (a2 : Int) : Lim (fun k => spec_l1All.f k l0 a1 a2) (spec_l1All.F l0 a1 a2) := ⟨spec_l1All.mono l0 a1 a2, rfl⟩
theorem spec_l1All.L0_eq (x1 : Int) (x2 : Int) (x9 : List Int) (x10 : Int) (x11 : Int) : spec_l1All.L0 x1 x2 x9 x10 x11 = (if x11 < x10 then (if 0 ≤ x11 then (if x11 < (x9.length : Int) then ((spec_l1In.f (rd x9 x11) x1 x2).bind fun t137 => (if t137 = true then (spec_l1All.L0 x1 x2 x9 x10 (wrap64 (x11 + 1))) else (some false))) else (none)) else (none)) else (some true)) := by
  refine Lim.succ_eq (spec_l1All.L0_lim x1 x2 x9 x10 x11).mon ?_
  simp only [spec_l1All.l0]
  repeat' first
  | (with_reducible exact spec_l1All.L0_lim _ _ _ _ _)
  | (with_reducible refine Lim.ite ?_ ?_)
  | (with_reducible refine Lim.bind ?_ (fun _ => ?_))
  | (with_reducible exact Lim.const _)
theorem spec_l1All.F_eq (l0 : List Int) (a1 : Int) (a2 : Int) : spec_l1All.F l0 a1 a2 = (spec_l1All.L0 a1 a2 l0 (l0.length : Int) 0) := by
  refine Lim.eq_ ?_
  simp only [spec_l1All.f]
  repeat' first
  | (with_reducible exact spec_l1All.L0_lim _ _ _ _ _)
  | (with_reducible refine Lim.ite ?_ ?_)
  | (with_reducible refine Lim.bind ?_ (fun _ => ?_))
  | (with_reducible exact Lim.const _)
def spec_shWide.l0 : Nat → List Int → Int → Option (Bool)
  | 0, _, _ => none
  | k + 1, x3, x4 => if x4 < 4 then (if 0 ≤ (wrap64 (x4 - 1)) then (if (wrap64 (x4 - 1)) < (x3.length : Int) then (if (rd x3 (wrap64 (x4 - 1))) = 0 then (if 0 ≤ x4 then (if x4 < (x3.length : Int) then (if (rd x3 x4) = 0 then (some true) else (spec_shWide.l0 k x3 (wrap64 (x4 + 1)))) else (none)) else (none)) else (spec_shWide.l0 k x3 (wrap64 (x4 + 1)))) else (none)) else (none)) else (some false)
def spec_shWide.f (k : Nat) (a0_0 : Int) (a0_1 : Int) (a0_2 : Int) (a0_3 : Int) (a0_4 : Int) (a0_5 : Bool) : Option (Bool) := (spec_shFingers.f a0_0 a0_1 a0_2 a0_3 a0_4 a0_5).bind fun t139 => (spec_shWide.l0 k t139 1)
theorem spec_shWide.mono_l : ∀ k, (∀ y0 y1, LeO (spec_shWide.l0 k y0 y1) (spec_shWide.l0 (k + 1) y0 y1))
  | 0 => fun _ _ r h => by simp [spec_shWide.l0] at h
  | k + 1 => by
    have ih0 := spec_shWide.mono_l k
    · intro y0 y1
      unfold spec_shWide.l0
      repeat' first
      | (with_reducible exact ih0 _ _)
      | (with_reducible exact LeO.refl _)
      | (with_reducible exact LeO.none _)
      | (with_reducible refine LeO.ite ?_ ?_)
      | (with_reducible refine LeO.bind ?_ (fun _ => ?_))
      | exact ih0 _ _
      | exact LeO.none _
      | refine LeO.ite ?_ ?_
      | refine LeO.bind ?_ (fun _ => ?_)
theorem spec_shWide.mono : ∀ a0 a1 a2 a3 a4 a5 k, LeO (spec_shWide.f k a0 a1 a2 a3 a4 a5) (spec_shWide.f (k + 1) a0 a1 a2 a3 a4 a5) := by
  intro a0 a1 a2 a3 a4 a5 k
  have ih0 := spec_shWide.mono_l k
  unfold spec_shWide.f
  repeat' first
      | (with_reducible exact ih0 _ _)
      | (with_reducible exact LeO.refl _)
      | (with_reducible exact LeO.none _)
      | (with_reducible refine LeO.ite ?_ ?_)
      | (with_reducible refine LeO.bind ?_ (fun _ => ?_))
      | exact ih0 _ _
      | exact LeO.none _
      | refine LeO.ite ?_ ?_
      | refine LeO.bind ?_ (fun _ => ?_)
noncomputable def spec_shWide.L0 (x3 : List Int) (x4 : Int) : Option (Bool) := lim fun k => spec_shWide.l0 k x3 x4
theorem spec_shWide.L0_lim (x3 : List Int) (x4 : Int) : Lim (fun k => spec_shWide.l0 k x3 x4) (spec_shWide.L0 x3 x4) := ⟨fun k => (spec_shWide.mono_l k) x3 x4, rfl⟩
noncomputable def spec_shWide.F (a0_0 : Int) (a0_1 : Int) (a0_2 : Int) (a0_3 : Int) (a0_4 : Int) (a0_5 : Bool) : Option (Bool) := lim fun k => spec_shWide.f k a0_0 a0_1 a0_2 a0_3 a0_4 a0_5
theorem spec_shWide.F_lim (a0_0 : Int) (a0_1 : Int) (a0_2 : Int) (a0_3 : Int) (a0_4 : Int) (a0_5 : Bool) : Lim (fun k => spec_shWide.f k a0_0 a0_1 a0_2 a0_3 a0_4 a0_5) (spec_shWide.F a0_0 a0_1 a0_2 a0_3 a0_4 a0_5) := ⟨spec_shWide.mono a0_0 a0_1 a0_2 a0_3 a0_4 a0_5, rfl⟩
theorem spec_shWide.L0_eq (x3 : List Int) (x4 : Int) : spec_shWide.L0 x3 x4 = (if x4 < 4 then (if 0 ≤ (wrap64 (x4 - 1)) then (if (wrap64 (x4 - 1)) < (x3.length : Int) then (if (rd x3 (wrap64 (x4 - 1))) = 0 then (if 0 ≤ x4 then (if x4 < (x3.length : Int) then (if (rd x3 x4) = 0 then (some true) else (spec_shWide.L0 x3 (wrap64 (x4 + 1)))) else (none)) else (none)) else (spec_shWide.L0 x3 (wrap64 (x4 + 1)))) else (none)) else (none)) else (some false)) := by
  refine Lim.succ_eq (spec_shWide.L0_lim x3 x4).mon ?_
  simp only [spec_shWide.l0]
  repeat' first
  | (with_reducible exact spec_shWide.L0_lim _ _)
  | (with_reducible refine Lim.ite ?_ ?_)
  | (with_reducible refine Lim.bind ?_ (fun _ => ?_))
  | (with_reducible exact Lim.const _)
theorem spec_shWide.F_eq (a0_0 : Int) (a0_1 : Int) (a0_2 : Int) (a0_3 : Int) (a0_4 : Int) (a0_5 : Bool) : spec_shWide.F a0_0 a0_1 a0_2 a0_3 a0_4 a0_5 = ((spec_shFingers.f a0_0 a0_1 a0_2 a0_3 a0_4 a0_5).bind fun t139 => (spec_shWide.L0 t139 1)) := by
  refine Lim.eq_ ?_
  simp only [spec_shWide.f]
  repeat' first
  | (with_reducible exact spec_shWide.L0_lim _ _)
  | (with_reducible refine Lim.ite ?_ ?_)
  | (with_reducible refine Lim.bind ?_ (fun _ => ?_))
  | (with_reducible exact Lim.const _)
def spec_shGood.f (k : Nat) (a0_0 : Int) (a0_1 : Int) (a0_2 : Int) (a0_3 : Int) (a0_4 : Int) (a0_5 : Bool) : Option (Bool) := (spec_l1In.f a0_0 0 2).bind fun t145 => (if t145 = true then ((spec_shFingers.f a0_0 a0_1 a0_2 a0_3 a0_4 a0_5).bind fun t146 => ((spec_l1All.f k t146 0 2).bind fun t149 => (if t149 = true then (if a0_5 = true then ((spec_shWide.f k a0_0 a0_1 a0_2 a0_3 a0_4 a0_5).bind fun t150 => (some t150)) else (some true)) else (some false)))) else (some false))
theorem spec_shGood.mono : ∀ a0 a1 a2 a3 a4 a5 k, LeO (spec_shGood.f k a0 a1 a2 a3 a4 a5) (spec_shGood.f (k + 1) a0 a1 a2 a3 a4 a5) := by
  intro a0 a1 a2 a3 a4 a5 k
  unfold spec_shGood.f
  repeat' first
      | (with_reducible exact spec_l1All.mono _ _ _ _)
      | (with_reducible exact spec_shWide.mono _ _ _ _ _ _ _)
      | (with_reducible exact LeO.refl _)
      | (with_reducible exact LeO.none _)
      | (with_reducible refine LeO.ite ?_ ?_)
      | (with_reducible refine LeO.bind ?_ (fun _ => ?_))
      | exact spec_l1All.mono _ _ _ _
      | exact spec_shWide.mono _ _ _ _ _ _ _
      | exact LeO.none _
      | refine LeO.ite ?_ ?_
      | refine LeO.bind ?_ (fun _ => ?_)
noncomputable def spec_shGood.F (a0_0 : Int) (a0_1 : Int) (a0_2 : Int) (a0_3 : Int) (a0_4 : Int) (a0_5 : Bool) : Option (Bool) := lim fun k => spec_shGood.f k a0_0 a0_1 a0_2 a0_3 a0_4 a0_5
theorem spec_shGood.F_lim (a0_0 : Int) (a0_1 : Int) (a0_2 : Int) (a0_3 : Int) (a0_4 : Int) (a0_5 : Bool) : Lim (fun k => spec_shGood.f k a0_0 a0_1 a0_2 a0_3 a0_4 a0_5) (spec_shGood.F a0_0 a0_1 a0_2 a0_3 a0_4 a0_5) := ⟨spec_shGood.mono a0_0 a0_1 a0_2 a0_3 a0_4 a0_5, rfl⟩
theorem spec_shGood.F_eq (a0_0 : Int) (a0_1 : Int) (a0_2 : Int) (a0_3 : Int) (a0_4 : Int) (a0_5 : Bool) : spec_shGood.F a0_0 a0_1 a0_2 a0_3 a0_4 a0_5 = ((spec_l1In.f a0_0 0 2).bind fun t145 => (if t145 = true then ((spec_shFingers.f a0_0 a0_1 a0_2 a0_3 a0_4 a0_5).bind fun t146 => ((spec_l1All.F t146 0 2).bind fun t149 => (if t149 = true then (if a0_5 = true then ((spec_shWide.F a0_0 a0_1 a0_2 a0_3 a0_4 a0_5).bind fun t150 => (some t150)) else (some true)) else (some false)))) else (some false))) := by
  refine Lim.eq_ ?_
  simp only [spec_shGood.f]
  repeat' first
  | (with_reducible exact spec_l1All.F_lim _ _ _)
  | (with_reducible exact spec_shWide.F_lim _ _ _ _ _ _)
  | (with_reducible refine Lim.ite ?_ ?_)
  | (with_reducible refine Lim.bind ?_ (fun _ => ?_))
  | (with_reducible exact Lim.const _)
def spec_mvLetters.f  : Option (ByteArray) := some (⟨#[117, 100, 108, 114, 102, 98]⟩ : ByteArray)
def spec_mvIndex.l0 : Nat → Int → Int → Option (Int)
  | 0, _, _ => none
  | k + 1, x0, x3 => (spec_mvLetters.f).bind fun t151 => (if x3 < (t151.size : Int) then ((spec_mvLetters.f).bind fun t152 => (if 0 ≤ x3 then (if x3 < (t152.size : Int) then (if (bt t152 x3) = x0 then (some x3) else (spec_mvIndex.l0 k x0 (wrap64 (x3 + 1)))) else (none)) else (none))) else (some (-1)))
def spec_mvIndex.f (k : Nat) (a0 : Int) : Option (Int) := spec_mvIndex.l0 k a0 0
theorem spec_mvIndex.mono_l : ∀ k, (∀ y0 y1, LeO (spec_mvIndex.l0 k y0 y1) (spec_mvIndex.l0 (k + 1) y0 y1))
  | 0 => fun _ _ r h => by simp [spec_mvIndex.l0] at h
  | k + 1 => by
    have ih0 := spec_mvIndex.mono_l k
    · intro y0 y1
      unfold spec_mvIndex.l0
      repeat' first
      | (with_reducible exact ih0 _ _)
      | (with_reducible exact LeO.refl _)
      | (with_reducible exact LeO.none _)
      | (with_reducible refine LeO.ite ?_ ?_)
      | (with_reducible refine LeO.bind ?_ (fun _ => ?_))
      | exact ih0 _ _
      | exact LeO.none _
      | refine LeO.ite ?_ ?_
      | refine LeO.bind ?_ (fun _ => ?_)
theorem spec_mvIndex.mono : ∀ a0 k, LeO (spec_mvIndex.f k a0) (spec_mvIndex.f (k + 1) a0) := by
  intro a0 k
  have ih0 := spec_mvIndex.mono_l k
  unfold spec_mvIndex.f
  repeat' first
      | (with_reducible exact ih0 _ _)
      | (with_reducible exact LeO.refl _)
      | (with_reducible exact LeO.none _)
      | (with_reducible refine LeO.ite ?_ ?_)
      | (with_reducible refine LeO.bind ?_ (fun _ => ?_))
      | exact ih0 _ _
      | exact LeO.none _
      | refine LeO.ite ?_ ?_
      | refine LeO.bind ?_ (fun _ => ?_)
noncomputable def spec_mvIndex.L0 (x0 : Int) (x3 : Int) : Option (Int) := lim fun k => spec_mvIndex.l0 k x0 x3
theorem spec_mvIndex.L0_lim (x0 : Int) (x3 : Int) : Lim (fun k => spec_mvIndex.l0 k x0 x3) (spec_mvIndex.L0 x0 x3) := ⟨fun k => (spec_mvIndex.mono_l k) x0 x3, rfl⟩
noncomputable def spec_mvIndex.F (a0 : Int) : Option (Int) := lim fun k => spec_mvIndex.f k a0
theorem spec_mvIndex.F_lim (a0 : Int) : Lim (fun k => spec_mvIndex.f k a0) (spec_mvIndex.F a0) := ⟨spec_mvIndex.mono a0, rfl⟩
theorem spec_mvIndex.L0_eq (x0 : Int) (x3 : Int) : spec_mvIndex.L0 x0 x3 = ((spec_mvLetters.f).bind fun t151 => (if x3 < (t151.size : Int) then ((spec_mvLetters.f).bind fun t152 => (if 0 ≤ x3 then (if x3 < (t152.size : Int) then (if (bt t152 x3) = x0 then (some x3) else (spec_mvIndex.L0 x0 (wrap64 (x3 + 1)))) else (none)) else (none))) else (some (-1)))) := by
  refine Lim.succ_eq (spec_mvIndex.L0_lim x0 x3).mon ?_
  simp only [spec_mvIndex.l0]
  repeat' first
  | (with_reducible exact spec_mvIndex.L0_lim _ _)
  | (with_reducible refine Lim.ite ?_ ?_)
  | (with_reducible refine Lim.bind ?_ (fun _ => ?_))
  | (with_reducible exact Lim.const _)
theorem spec_mvIndex.F_eq (a0 : Int) : spec_mvIndex.F a0 = (spec_mvIndex.L0 a0 0) := by
  refine Lim.eq_ ?_
  simp only [spec_mvIndex.f]
  repeat' first
  | (with_reducible exact spec_mvIndex.L0_lim _ _)
  | (with_reducible refine Lim.ite ?_ ?_)
  | (with_reducible refine Lim.bind ?_ (fun _ => ?_))
  | (with_reducible exact Lim.const _)
def spec_mvSteps.l0 : Nat → ByteArray → Int → Option (Bool)
  | 0, _, _ => none
  | k + 1, x0, x3 => if x3 < (x0.size : Int) then (if 0 ≤ x3 then ((spec_mvIndex.f k (bt x0 x3)).bind fun t153 => (if t153 < 0 then (some false) else (spec_mvSteps.l0 k x0 (wrap64 (x3 + 1))))) else (none)) else (some true)
def spec_mvSteps.f (k : Nat) (a0 : ByteArray) : Option (Bool) := spec_mvSteps.l0 k a0 0
theorem spec_mvSteps.mono_l : ∀ k, (∀ y0 y1, LeO (spec_mvSteps.l0 k y0 y1) (spec_mvSteps.l0 (k + 1) y0 y1))
  | 0 => fun _ _ r h => by simp [spec_mvSteps.l0] at h
  | k + 1 => by
    have ih0 := spec_mvSteps.mono_l k
    · intro y0 y1
      unfold spec_mvSteps.l0
      repeat' first
      | (with_reducible exact ih0 _ _)
      | (with_reducible exact spec_mvIndex.mono _ _)
      | (with_reducible exact LeO.refl _)
      | (with_reducible exact LeO.none _)
      | (with_reducible refine LeO.ite ?_ ?_)
      | (with_reducible refine LeO.bind ?_ (fun _ => ?_))
      | exact ih0 _ _
      | exact spec_mvIndex.mono _ _
      | exact LeO.none _
      | refine LeO.ite ?_ ?_
      | refine LeO.bind ?_ (fun _ => ?_)
theorem spec_mvSteps.mono : ∀ a0 k, LeO (spec_mvSteps.f k a0) (spec_mvSteps.f (k + 1) a0) := by
  intro a0 k
  have ih0 := spec_mvSteps.mono_l k
  unfold spec_mvSteps.f
  repeat' first
      | (with_reducible exact ih0 _ _)
      | (with_reducible exact spec_mvIndex.mono _ _)
      | (with_reducible exact LeO.refl _)
      | (with_reducible exact LeO.none _)
      | (with_reducible refine LeO.ite ?_ ?_)
      | (with_reducible refine LeO.bind ?_ (fun _ => ?_))
      | exact ih0 _ _
      | exact spec_mvIndex.mono _ _
      | exact LeO.none _
      | refine LeO.ite ?_ ?_
      | refine LeO.bind ?_ (fun _ => ?_)
noncomputable def spec_mvSteps.L0 (x0 : ByteArray) (x3 : Int) : Option (Bool) := lim fun k => spec_mvSteps.l0 k x0 x3
theorem spec_mvSteps.L0_lim (x0 : ByteArray) (x3 : Int) : Lim (fun k => spec_mvSteps.l0 k x0 x3) (spec_mvSteps.L0 x0 x3) := ⟨fun k => (spec_mvSteps.mono_l k) x0 x3, rfl⟩
noncomputable def spec_mvSteps.F (a0 : ByteArray) : Option (Bool) := lim fun k => spec_mvSteps.f k a0
theorem spec_mvSteps.F_lim (a0 : ByteArray) : Lim (fun k => spec_mvSteps.f k a0) (spec_mvSteps.F a0) := ⟨spec_mvSteps.mono a0, rfl⟩
theorem spec_mvSteps.L0_eq (x0 : ByteArray) (x3 : Int) : spec_mvSteps.L0 x0 x3 = (if x3 < (x0.size : Int) then (if 0 ≤ x3 then ((spec_mvIndex.F (bt x0 x3)).bind fun t153 => (if t153 < 0 then (some false) else (spec_mvSteps.L0 x0 (wrap64 (x3 + 1))))) else (none)) else (some true)) := by
  refine Lim.succ_eq (spec_mvSteps.L0_lim x0 x3).mon ?_
  simp only [spec_mvSteps.l0]
  repeat' first
  | (with_reducible exact spec_mvSteps.L0_lim _ _)
  | (with_reducible exact spec_mvIndex.F_lim _)
  | (with_reducible refine Lim.ite ?_ ?_)
  | (with_reducible refine Lim.bind ?_ (fun _ => ?_))
  | (with_reducible exact Lim.const _)
theorem spec_mvSteps.F_eq (a0 : ByteArray) : spec_mvSteps.F a0 = (spec_mvSteps.L0 a0 0) := by
  refine Lim.eq_ ?_
  simp only [spec_mvSteps.f]
  repeat' first
  | (with_reducible exact spec_mvSteps.L0_lim _ _)
  | (with_reducible exact spec_mvIndex.F_lim _)
  | (with_reducible refine Lim.ite ?_ ?_)
  | (with_reducible refine Lim.bind ?_ (fun _ => ?_))
  | (with_reducible exact Lim.const _)
def spec_mvGood.f (k : Nat) (a0_0 : ByteArray) (a0_1 : Int) : Option (Bool) := if (a0_0.size : Int) ≤ 6 then ((spec_mvSteps.f k a0_0).bind fun t155 => (if t155 = true then ((spec_l1In.f a0_1 1 3).bind fun t156 => (if t156 = true then (if a0_0.toList = ([] : List UInt8) then (some (a0_1 == 1)) else (some true)) else (some false))) else (some false))) else (some false)
theorem spec_mvGood.mono : ∀ a0 a1 k, LeO (spec_mvGood.f k a0 a1) (spec_mvGood.f (k + 1) a0 a1) := by
  intro a0 a1 k
  unfold spec_mvGood.f
  repeat' first
      | (with_reducible exact spec_mvSteps.mono _ _)
      | (with_reducible exact LeO.refl _)
      | (with_reducible exact LeO.none _)
      | (with_reducible refine LeO.ite ?_ ?_)
      | (with_reducible refine LeO.bind ?_ (fun _ => ?_))
      | exact spec_mvSteps.mono _ _
      | exact LeO.none _
      | refine LeO.ite ?_ ?_
      | refine LeO.bind ?_ (fun _ => ?_)
noncomputable def spec_mvGood.F (a0_0 : ByteArray) (a0_1 : Int) : Option (Bool) := lim fun k => spec_mvGood.f k a0_0 a0_1
theorem spec_mvGood.F_lim (a0_0 : ByteArray) (a0_1 : Int) : Lim (fun k => spec_mvGood.f k a0_0 a0_1) (spec_mvGood.F a0_0 a0_1) := ⟨spec_mvGood.mono a0_0 a0_1, rfl⟩
theorem spec_mvGood.F_eq (a0_0 : ByteArray) (a0_1 : Int) : spec_mvGood.F a0_0 a0_1 = (if (a0_0.size : Int) ≤ 6 then ((spec_mvSteps.F a0_0).bind fun t155 => (if t155 = true then ((spec_l1In.f a0_1 1 3).bind fun t156 => (if t156 = true then (if a0_0.toList = ([] : List UInt8) then (some (a0_1 == 1)) else (some true)) else (some false))) else (some false))) else (some false)) := by
  refine Lim.eq_ ?_
  simp only [spec_mvGood.f]
  repeat' first
  | (with_reducible exact spec_mvSteps.F_lim _)
  | (with_reducible refine Lim.ite ?_ ?_)
  | (with_reducible refine Lim.bind ?_ (fun _ => ?_))
  | (with_reducible exact Lim.const _)
def spec_orDir.f (a0 : Int) : Option (Bool) := (spec_l1In.f a0 0 5).bind fun t157 => (some t157)
def spec_orOpposite.f (a0 : Int) : Option (Int) := if (Int.tmod a0 2) = 0 then (some (wrap64 (a0 + 1))) else (some (wrap64 (a0 - 1)))
def spec_orGood.f (a0_0 : Int) (a0_1 : Int) : Option (Bool) := (spec_orDir.f a0_0).bind fun t159 => (if t159 = true then ((spec_orDir.f a0_1).bind fun t160 => (if t160 = true then (if a0_0 = a0_1 then (some false) else ((spec_orOpposite.f a0_1).bind fun t161 => (some (a0_0 != t161)))) else (some false))) else (some false))
def spec_plGood.f (a0_0 : Int) (a0_1 : Int) (a0_2 : Bool) : Option (Bool) := (spec_l1In.f a0_0 0 9).bind fun t163 => (if t163 = true then ((spec_l1In.f a0_1 (-1) 1).bind fun t164 => (if t164 = true then (if a0_0 > 0 then (some true) else (some (!a0_2))) else (some false))) else (some false))
def spec_siHand.f (k : Nat) (a0_0 : Int) (a0_1 : Int) (a0_2 : Int) (a0_3 : Int) (a0_4 : Int) (a0_5 : Bool) (a0_6 : Int) (a0_7 : Int) (a0_8 : Int) (a0_9 : Int) (a0_10 : Bool) (a0_11 : ByteArray) (a0_12 : Int) : Option (Bool) := (spec_shGood.f k a0_0 a0_1 a0_2 a0_3 a0_4 a0_5).bind fun t166 => (if t166 = true then ((spec_orGood.f a0_6 a0_7).bind fun t167 => (if t167 = true then ((spec_plGood.f a0_8 a0_9 a0_10).bind fun t168 => (if t168 = true then ((spec_mvGood.f k a0_11 a0_12).bind fun t169 => (some t169)) else (some false))) else (some false))) else (some false))
theorem spec_siHand.mono : ∀ a0 a1 a2 a3 a4 a5 a6 a7 a8 a9 a10 a11 a12 k, LeO (spec_siHand.f k a0 a1 a2 a3 a4 a5 a6 a7 a8 a9 a10 a11 a12) (spec_siHand.f (k + 1) a0 a1 a2 a3 a4 a5 a6 a7 a8 a9 a10 a11 a12) := by
  intro a0 a1 a2 a3 a4 a5 a6 a7 a8 a9 a10 a11 a12 k
  unfold spec_siHand.f
  repeat' first
      | (with_reducible exact spec_mvGood.mono _ _ _)
      | (with_reducible exact spec_shGood.mono _ _ _ _ _ _ _)
      | (with_reducible exact LeO.refl _)
      | (with_reducible exact LeO.none _)
      | (with_reducible refine LeO.ite ?_ ?_)
      | (with_reducible refine LeO.bind ?_ (fun _ => ?_))
      | exact spec_mvGood.mono _ _ _
      | exact spec_shGood.mono _ _ _ _ _ _ _
      | exact LeO.none _
      | refine LeO.ite ?_ ?_
      | refine LeO.bind ?_ (fun _ => ?_)
noncomputable def spec_siHand.F (a0_0 : Int) (a0_1 : Int) (a0_2 : Int) (a0_3 : Int) (a0_4 : Int) (a0_5 : Bool) (a0_6 : Int) (a0_7 : Int) (a0_8 : Int) (a0_9 : Int) (a0_10 : Bool) (a0_11 : ByteArray) (a0_12 : Int) : Option (Bool) := lim fun k => spec_siHand.f k a0_0 a0_1 a0_2 a0_3 a0_4 a0_5 a0_6 a0_7 a0_8 a0_9 a0_10 a0_11 a0_12
theorem spec_siHand.F_lim (a0_0 : Int) (a0_1 : Int) (a0_2 : Int) (a0_3 : Int) (a0_4 : Int) (a0_5 : Bool) (a0_6 : Int) (a0_7 : Int) (a0_8 : Int) (a0_9 : Int) (a0_10 : Bool) (a0_11 : ByteArray) (a0_12 : Int) : Lim (fun k => spec_siHand.f k a0_0 a0_1 a0_2 a0_3 a0_4 a0_5 a0_6 a0_7 a0_8 a0_9 a0_10 a0_11 a0_12) (spec_siHand.F a0_0 a0_1 a0_2 a0_3 a0_4 a0_5 a0_6 a0_7 a0_8 a0_9 a0_10 a0_11 a0_12) := ⟨spec_siHand.mono a0_0 a0_1 a0_2 a0_3 a0_4 a0_5 a0_6 a0_7 a0_8 a0_9 a0_10 a0_11 a0_12, rfl⟩
theorem spec_siHand.F_eq (a0_0 : Int) (a0_1 : Int) (a0_2 : Int) (a0_3 : Int) (a0_4 : Int) (a0_5 : Bool) (a0_6 : Int) (a0_7 : Int) (a0_8 : Int) (a0_9 : Int) (a0_10 : Bool) (a0_11 : ByteArray) (a0_12 : Int) : spec_siHand.F a0_0 a0_1 a0_2 a0_3 a0_4 a0_5 a0_6 a0_7 a0_8 a0_9 a0_10 a0_11 a0_12 = ((spec_shGood.F a0_0 a0_1 a0_2 a0_3 a0_4 a0_5).bind fun t166 => (if t166 = true then ((spec_orGood.f a0_6 a0_7).bind fun t167 => (if t167 = true then ((spec_plGood.f a0_8 a0_9 a0_10).bind fun t168 => (if t168 = true then ((spec_mvGood.F a0_11 a0_12).bind fun t169 => (some t169)) else (some false))) else (some false))) else (some false))) := by
  refine Lim.eq_ ?_
  simp only [spec_siHand.f]
  repeat' first
  | (with_reducible exact spec_mvGood.F_lim _ _)
  | (with_reducible exact spec_shGood.F_lim _ _ _ _ _ _)
  | (with_reducible refine Lim.ite ?_ ?_)
  | (with_reducible refine Lim.bind ?_ (fun _ => ?_))
  | (with_reducible exact Lim.const _)
def spec_l1Num.f : Nat → Int → Option (ByteArray)
  | 0, _ => none
  | k + 1, a0 => if a0 < 10 then (some (strOfNums (([(wrap64 (48 + a0)) % 256] : List Int)))) else ((spec_l1Num.f k (wrap64 (Int.tdiv a0 10))).bind fun t173 => ((some (([(wrap64 (48 + (Int.tmod a0 10))) % 256] : List Int) : List Int)).bind fun y174 => (if t173.size + (strOfNums y174).size ≤ 9223372036854775807 then (some (t173 ++ (strOfNums y174))) else (none))))
theorem spec_l1Num.mono_l : ∀ k, (∀ y0, LeO (spec_l1Num.f k y0) (spec_l1Num.f (k + 1) y0))
  | 0 => fun _ r h => by simp [spec_l1Num.f] at h
  | k + 1 => by
    have ih0 := spec_l1Num.mono_l k
    · intro y0
      unfold spec_l1Num.f
      repeat' first
      | (with_reducible exact ih0 _)
      | (with_reducible exact LeO.refl _)
      | (with_reducible exact LeO.none _)
      | (with_reducible refine LeO.ite ?_ ?_)
      | (with_reducible refine LeO.bind ?_ (fun _ => ?_))
      | exact ih0 _
      | exact LeO.none _
      | refine LeO.ite ?_ ?_
      | refine LeO.bind ?_ (fun _ => ?_)
theorem spec_l1Num.mono : ∀ a0 k, LeO (spec_l1Num.f k a0) (spec_l1Num.f (k + 1) a0) := by
  intro a0 k
  have ih0 := spec_l1Num.mono_l k
  exact ih0 a0
noncomputable def spec_l1Num.F (a0 : Int) : Option (ByteArray) := lim fun k => spec_l1Num.f k a0
theorem spec_l1Num.F_lim (a0 : Int) : Lim (fun k => spec_l1Num.f k a0) (spec_l1Num.F a0) := ⟨spec_l1Num.mono a0, rfl⟩
theorem spec_l1Num.F_eq (a0 : Int) : spec_l1Num.F a0 = (if a0 < 10 then (some (strOfNums (([(wrap64 (48 + a0)) % 256] : List Int)))) else ((spec_l1Num.F (wrap64 (Int.tdiv a0 10))).bind fun t173 => ((some (([(wrap64 (48 + (Int.tmod a0 10))) % 256] : List Int) : List Int)).bind fun y174 => (if t173.size + (strOfNums y174).size ≤ 9223372036854775807 then (some (t173 ++ (strOfNums y174))) else (none))))) := by
  refine Lim.succ_eq (spec_l1Num.F_lim a0).mon ?_
  simp only [spec_l1Num.f]
  repeat' first
  | (with_reducible exact spec_l1Num.F_lim _)
  | (with_reducible refine Lim.ite ?_ ?_)
  | (with_reducible refine Lim.bind ?_ (fun _ => ?_))
  | (with_reducible exact Lim.const _)
def spec_shText.l0 : Nat → ByteArray → List Int → Int → Int → Int → Int → Int → Int → Int → Bool → Option (ByteArray)
  | 0, _, _, _, _, _, _, _, _, _, _ => none
  | k + 1, x3, x10, x11, x12, x178000, x178001, x178002, x178003, x178004, x178005 => if x12 < x11 then (if 0 ≤ x12 then (if x12 < (x10.length : Int) then ((spec_l1Num.f k (rd x10 x12)).bind fun t183 => (if x3.size + t183.size ≤ 9223372036854775807 then (spec_shText.l0 k (x3 ++ t183) x10 x11 (wrap64 (x12 + 1)) x178000 x178001 x178002 x178003 x178004 x178005) else (none))) else (none)) else (none)) else (if x178005 = true then (if x3.size + 1 ≤ 9223372036854775807 then (some (x3 ++ (⟨#[115]⟩ : ByteArray))) else (none)) else (some x3))
def spec_shText.f (k : Nat) (a0_0 : Int) (a0_1 : Int) (a0_2 : Int) (a0_3 : Int) (a0_4 : Int) (a0_5 : Bool) : Option (ByteArray) := (spec_l1Num.f k a0_0).bind fun t178 => ((spec_shFingers.f a0_0 a0_1 a0_2 a0_3 a0_4 a0_5).bind fun t179 => (spec_shText.l0 k t178 t179 (t179.length : Int) 0 a0_0 a0_1 a0_2 a0_3 a0_4 a0_5))
theorem spec_shText.mono_l : ∀ k, (∀ y0 y1 y2 y3 y4 y5 y6 y7 y8 y9, LeO (spec_shText.l0 k y0 y1 y2 y3 y4 y5 y6 y7 y8 y9) (spec_shText.l0 (k + 1) y0 y1 y2 y3 y4 y5 y6 y7 y8 y9))
  | 0 => fun _ _ _ _ _ _ _ _ _ _ r h => by simp [spec_shText.l0] at h
  | k + 1 => by
    have ih0 := spec_shText.mono_l k
    · intro y0 y1 y2 y3 y4 y5 y6 y7 y8 y9
      unfold spec_shText.l0
      repeat' first
      | (with_reducible exact ih0 _ _ _ _ _ _ _ _ _ _)
      | (with_reducible exact spec_l1Num.mono _ _)
      | (with_reducible exact LeO.refl _)
      | (with_reducible exact LeO.none _)
      | (with_reducible refine LeO.ite ?_ ?_)
      | (with_reducible refine LeO.bind ?_ (fun _ => ?_))
      | exact ih0 _ _ _ _ _ _ _ _ _ _
      | exact spec_l1Num.mono _ _
      | exact LeO.none _
      | refine LeO.ite ?_ ?_
      | refine LeO.bind ?_ (fun _ => ?_)
theorem spec_shText.mono : ∀ a0 a1 a2 a3 a4 a5 k, LeO (spec_shText.f k a0 a1 a2 a3 a4 a5) (spec_shText.f (k + 1) a0 a1 a2 a3 a4 a5) := by
  intro a0 a1 a2 a3 a4 a5 k
  have ih0 := spec_shText.mono_l k
  unfold spec_shText.f
  repeat' first
      | (with_reducible exact ih0 _ _ _ _ _ _ _ _ _ _)
      | (with_reducible exact spec_l1Num.mono _ _)
      | (with_reducible exact LeO.refl _)
      | (with_reducible exact LeO.none _)
      | (with_reducible refine LeO.ite ?_ ?_)
      | (with_reducible refine LeO.bind ?_ (fun _ => ?_))
      | exact ih0 _ _ _ _ _ _ _ _ _ _
      | exact spec_l1Num.mono _ _
      | exact LeO.none _
      | refine LeO.ite ?_ ?_
      | refine LeO.bind ?_ (fun _ => ?_)
noncomputable def spec_shText.L0 (x3 : ByteArray) (x10 : List Int) (x11 : Int) (x12 : Int) (x178000 : Int) (x178001 : Int) (x178002 : Int) (x178003 : Int) (x178004 : Int) (x178005 : Bool) : Option (ByteArray) := lim fun k => spec_shText.l0 k x3 x10 x11 x12 x178000 x178001 x178002 x178003 x178004 x178005
theorem spec_shText.L0_lim (x3 : ByteArray) (x10 : List Int) (x11 : Int) (x12 : Int) (x178000 : Int) (x178001 : Int) (x178002 : Int) (x178003 : Int) (x178004 : Int) (x178005 : Bool) : Lim (fun k => spec_shText.l0 k x3 x10 x11 x12 x178000 x178001 x178002 x178003 x178004 x178005) (spec_shText.L0 x3 x10 x11 x12 x178000 x178001 x178002 x178003 x178004 x178005) := ⟨fun k => (spec_shText.mono_l k) x3 x10 x11 x12 x178000 x178001 x178002 x178003 x178004 x178005, rfl⟩
noncomputable def spec_shText.F (a0_0 : Int) (a0_1 : Int) (a0_2 : Int) (a0_3 : Int) (a0_4 : Int) (a0_5 : Bool) : Option (ByteArray) := lim fun k => spec_shText.f k a0_0 a0_1 a0_2 a0_3 a0_4 a0_5
theorem spec_shText.F_lim (a0_0 : Int) (a0_1 : Int) (a0_2 : Int) (a0_3 : Int) (a0_4 : Int) (a0_5 : Bool) : Lim (fun k => spec_shText.f k a0_0 a0_1 a0_2 a0_3 a0_4 a0_5) (spec_shText.F a0_0 a0_1 a0_2 a0_3 a0_4 a0_5) := ⟨spec_shText.mono a0_0 a0_1 a0_2 a0_3 a0_4 a0_5, rfl⟩
theorem spec_shText.L0_eq (x3 : ByteArray) (x10 : List Int) (x11 : Int) (x12 : Int) (x178000 : Int) (x178001 : Int) (x178002 : Int) (x178003 : Int) (x178004 : Int) (x178005 : Bool) : spec_shText.L0 x3 x10 x11 x12 x178000 x178001 x178002 x178003 x178004 x178005 = (if x12 < x11 then (if 0 ≤ x12 then (if x12 < (x10.length : Int) then ((spec_l1Num.F (rd x10 x12)).bind fun t183 => (if x3.size + t183.size ≤ 9223372036854775807 then (spec_shText.L0 (x3 ++ t183) x10 x11 (wrap64 (x12 + 1)) x178000 x178001 x178002 x178003 x178004 x178005) else (none))) else (none)) else (none)) else (if x178005 = true then (if x3.size + 1 ≤ 9223372036854775807 then (some (x3 ++ (⟨#[115]⟩ : ByteArray))) else (none)) else (some x3))) := by
  refine Lim.succ_eq (spec_shText.L0_lim x3 x10 x11 x12 x178000 x178001 x178002 x178003 x178004 x178005).mon ?_
  simp only [spec_shText.l0]
  repeat' first
  | (with_reducible exact spec_shText.L0_lim _ _ _ _ _ _ _ _ _ _)
  | (with_reducible exact spec_l1Num.F_lim _)
  | (with_reducible refine Lim.ite ?_ ?_)
  | (with_reducible refine Lim.bind ?_ (fun _ => ?_))
  | (with_reducible exact Lim.const _)
theorem spec_shText.F_eq (a0_0 : Int) (a0_1 : Int) (a0_2 : Int) (a0_3 : Int) (a0_4 : Int) (a0_5 : Bool) : spec_shText.F a0_0 a0_1 a0_2 a0_3 a0_4 a0_5 = ((spec_l1Num.F a0_0).bind fun t178 => ((spec_shFingers.f a0_0 a0_1 a0_2 a0_3 a0_4 a0_5).bind fun t179 => (spec_shText.L0 t178 t179 (t179.length : Int) 0 a0_0 a0_1 a0_2 a0_3 a0_4 a0_5))) := by
  refine Lim.eq_ ?_
  simp only [spec_shText.f]
  repeat' first
  | (with_reducible exact spec_shText.L0_lim _ _ _ _ _ _ _ _ _ _)
  | (with_reducible exact spec_l1Num.F_lim _)
  | (with_reducible refine Lim.ite ?_ ?_)
  | (with_reducible refine Lim.bind ?_ (fun _ => ?_))
  | (with_reducible exact Lim.const _)
def spec_mvText.f (k : Nat) (a0_0 : ByteArray) (a0_1 : Int) : Option (ByteArray) := if a0_0.toList = ([] : List UInt8) then (some (⟨#[45]⟩ : ByteArray)) else (if a0_1 > 1 then (if a0_0.size + 1 ≤ 9223372036854775807 then ((spec_l1Num.f k a0_1).bind fun t185 => (if (a0_0 ++ (⟨#[42]⟩ : ByteArray)).size + t185.size ≤ 9223372036854775807 then (some ((a0_0 ++ (⟨#[42]⟩ : ByteArray)) ++ t185)) else (none))) else (none)) else (some a0_0))
theorem spec_mvText.mono : ∀ a0 a1 k, LeO (spec_mvText.f k a0 a1) (spec_mvText.f (k + 1) a0 a1) := by
  intro a0 a1 k
  unfold spec_mvText.f
  repeat' first
      | (with_reducible exact spec_l1Num.mono _ _)
      | (with_reducible exact LeO.refl _)
      | (with_reducible exact LeO.none _)
      | (with_reducible refine LeO.ite ?_ ?_)
      | (with_reducible refine LeO.bind ?_ (fun _ => ?_))
      | exact spec_l1Num.mono _ _
      | exact LeO.none _
      | refine LeO.ite ?_ ?_
      | refine LeO.bind ?_ (fun _ => ?_)
noncomputable def spec_mvText.F (a0_0 : ByteArray) (a0_1 : Int) : Option (ByteArray) := lim fun k => spec_mvText.f k a0_0 a0_1
theorem spec_mvText.F_lim (a0_0 : ByteArray) (a0_1 : Int) : Lim (fun k => spec_mvText.f k a0_0 a0_1) (spec_mvText.F a0_0 a0_1) := ⟨spec_mvText.mono a0_0 a0_1, rfl⟩
theorem spec_mvText.F_eq (a0_0 : ByteArray) (a0_1 : Int) : spec_mvText.F a0_0 a0_1 = (if a0_0.toList = ([] : List UInt8) then (some (⟨#[45]⟩ : ByteArray)) else (if a0_1 > 1 then (if a0_0.size + 1 ≤ 9223372036854775807 then ((spec_l1Num.F a0_1).bind fun t185 => (if (a0_0 ++ (⟨#[42]⟩ : ByteArray)).size + t185.size ≤ 9223372036854775807 then (some ((a0_0 ++ (⟨#[42]⟩ : ByteArray)) ++ t185)) else (none))) else (none)) else (some a0_0))) := by
  refine Lim.eq_ ?_
  simp only [spec_mvText.f]
  repeat' first
  | (with_reducible exact spec_l1Num.F_lim _)
  | (with_reducible refine Lim.ite ?_ ?_)
  | (with_reducible refine Lim.bind ?_ (fun _ => ?_))
  | (with_reducible exact Lim.const _)
def spec_orText.f (a0_0 : Int) (a0_1 : Int) : Option (ByteArray) := if 0 ≤ a0_0 then (if a0_0 ≤ (wrap64 (a0_0 + 1)) then (if (wrap64 (a0_0 + 1)) ≤ 6 then (if 0 ≤ a0_1 then (if a0_1 ≤ (wrap64 (a0_1 + 1)) then (if (wrap64 (a0_1 + 1)) ≤ 6 then (if ((⟨#[117, 100, 108, 114, 102, 98]⟩ : ByteArray).extract (a0_0 : Int).toNat ((wrap64 (a0_0 + 1)) : Int).toNat).size + ((⟨#[117, 100, 108, 114, 102, 98]⟩ : ByteArray).extract (a0_1 : Int).toNat ((wrap64 (a0_1 + 1)) : Int).toNat).size ≤ 9223372036854775807 then (some (((⟨#[117, 100, 108, 114, 102, 98]⟩ : ByteArray).extract (a0_0 : Int).toNat ((wrap64 (a0_0 + 1)) : Int).toNat) ++ ((⟨#[117, 100, 108, 114, 102, 98]⟩ : ByteArray).extract (a0_1 : Int).toNat ((wrap64 (a0_1 + 1)) : Int).toNat))) else (none)) else (none)) else (none)) else (none)) else (none)) else (none)) else (none)
def spec_plNames.f  : Option (List ByteArray) := some (([(⟨#[115, 112, 97, 99, 101]⟩ : ByteArray), (⟨#[104, 101, 97, 100]⟩ : ByteArray), (⟨#[101, 121, 101]⟩ : ByteArray), (⟨#[99, 104, 101, 101, 107]⟩ : ByteArray), (⟨#[109, 111, 117, 116, 104]⟩ : ByteArray), (⟨#[99, 104, 105, 110]⟩ : ByteArray), (⟨#[110, 101, 99, 107]⟩ : ByteArray), (⟨#[99, 104, 101, 115, 116]⟩ : ByteArray), (⟨#[119, 97, 105, 115, 116]⟩ : ByteArray), (⟨#[104, 105, 112]⟩ : ByteArray)] : List ByteArray))
def spec_plText.f (a0_0 : Int) (a0_1 : Int) (a0_2 : Bool) : Option (ByteArray) := (spec_plNames.f).bind fun t191 => (if 0 ≤ a0_0 then (if a0_0 < (t191.length : Int) then (if a0_1 = (-1) then (if (rdOf ByteArray.empty t191 a0_0).size + 1 ≤ 9223372036854775807 then (if a0_2 = true then (if ((rdOf ByteArray.empty t191 a0_0) ++ (⟨#[60]⟩ : ByteArray)).size + 1 ≤ 9223372036854775807 then (some (((rdOf ByteArray.empty t191 a0_0) ++ (⟨#[60]⟩ : ByteArray)) ++ (⟨#[42]⟩ : ByteArray))) else (none)) else (some ((rdOf ByteArray.empty t191 a0_0) ++ (⟨#[60]⟩ : ByteArray)))) else (none)) else (if a0_1 = 1 then (if (rdOf ByteArray.empty t191 a0_0).size + 1 ≤ 9223372036854775807 then (if a0_2 = true then (if ((rdOf ByteArray.empty t191 a0_0) ++ (⟨#[62]⟩ : ByteArray)).size + 1 ≤ 9223372036854775807 then (some (((rdOf ByteArray.empty t191 a0_0) ++ (⟨#[62]⟩ : ByteArray)) ++ (⟨#[42]⟩ : ByteArray))) else (none)) else (some ((rdOf ByteArray.empty t191 a0_0) ++ (⟨#[62]⟩ : ByteArray)))) else (none)) else (if a0_2 = true then (if (rdOf ByteArray.empty t191 a0_0).size + 1 ≤ 9223372036854775807 then (some ((rdOf ByteArray.empty t191 a0_0) ++ (⟨#[42]⟩ : ByteArray))) else (none)) else (some (rdOf ByteArray.empty t191 a0_0))))) else (none)) else (none))
def spec_siText.f (k : Nat) (a0_0 : Int) (a0_1 : Int) (a0_2 : Int) (a0_3 : Int) (a0_4 : Int) (a0_5 : Bool) (a0_6 : Int) (a0_7 : Int) (a0_8 : Int) (a0_9 : Int) (a0_10 : Bool) (a0_11 : ByteArray) (a0_12 : Int) : Option (ByteArray) := (spec_shText.f k a0_0 a0_1 a0_2 a0_3 a0_4 a0_5).bind fun t196 => (if t196.size + 1 ≤ 9223372036854775807 then ((spec_orText.f a0_6 a0_7).bind fun t197 => (if (t196 ++ (⟨#[47]⟩ : ByteArray)).size + t197.size ≤ 9223372036854775807 then (if ((t196 ++ (⟨#[47]⟩ : ByteArray)) ++ t197).size + 1 ≤ 9223372036854775807 then ((spec_plText.f a0_8 a0_9 a0_10).bind fun t198 => (if (((t196 ++ (⟨#[47]⟩ : ByteArray)) ++ t197) ++ (⟨#[47]⟩ : ByteArray)).size + t198.size ≤ 9223372036854775807 then (if ((((t196 ++ (⟨#[47]⟩ : ByteArray)) ++ t197) ++ (⟨#[47]⟩ : ByteArray)) ++ t198).size + 1 ≤ 9223372036854775807 then ((spec_mvText.f k a0_11 a0_12).bind fun t199 => (if (((((t196 ++ (⟨#[47]⟩ : ByteArray)) ++ t197) ++ (⟨#[47]⟩ : ByteArray)) ++ t198) ++ (⟨#[47]⟩ : ByteArray)).size + t199.size ≤ 9223372036854775807 then (some ((((((t196 ++ (⟨#[47]⟩ : ByteArray)) ++ t197) ++ (⟨#[47]⟩ : ByteArray)) ++ t198) ++ (⟨#[47]⟩ : ByteArray)) ++ t199)) else (none))) else (none)) else (none))) else (none)) else (none))) else (none))
theorem spec_siText.mono : ∀ a0 a1 a2 a3 a4 a5 a6 a7 a8 a9 a10 a11 a12 k, LeO (spec_siText.f k a0 a1 a2 a3 a4 a5 a6 a7 a8 a9 a10 a11 a12) (spec_siText.f (k + 1) a0 a1 a2 a3 a4 a5 a6 a7 a8 a9 a10 a11 a12) := by
  intro a0 a1 a2 a3 a4 a5 a6 a7 a8 a9 a10 a11 a12 k
  unfold spec_siText.f
  repeat' first
      | (with_reducible exact spec_mvText.mono _ _ _)
      | (with_reducible exact spec_shText.mono _ _ _ _ _ _ _)
      | (with_reducible exact LeO.refl _)
      | (with_reducible exact LeO.none _)
      | (with_reducible refine LeO.ite ?_ ?_)
      | (with_reducible refine LeO.bind ?_ (fun _ => ?_))
      | exact spec_mvText.mono _ _ _
      | exact spec_shText.mono _ _ _ _ _ _ _
      | exact LeO.none _
      | refine LeO.ite ?_ ?_
      | refine LeO.bind ?_ (fun _ => ?_)
noncomputable def spec_siText.F (a0_0 : Int) (a0_1 : Int) (a0_2 : Int) (a0_3 : Int) (a0_4 : Int) (a0_5 : Bool) (a0_6 : Int) (a0_7 : Int) (a0_8 : Int) (a0_9 : Int) (a0_10 : Bool) (a0_11 : ByteArray) (a0_12 : Int) : Option (ByteArray) := lim fun k => spec_siText.f k a0_0 a0_1 a0_2 a0_3 a0_4 a0_5 a0_6 a0_7 a0_8 a0_9 a0_10 a0_11 a0_12
theorem spec_siText.F_lim (a0_0 : Int) (a0_1 : Int) (a0_2 : Int) (a0_3 : Int) (a0_4 : Int) (a0_5 : Bool) (a0_6 : Int) (a0_7 : Int) (a0_8 : Int) (a0_9 : Int) (a0_10 : Bool) (a0_11 : ByteArray) (a0_12 : Int) : Lim (fun k => spec_siText.f k a0_0 a0_1 a0_2 a0_3 a0_4 a0_5 a0_6 a0_7 a0_8 a0_9 a0_10 a0_11 a0_12) (spec_siText.F a0_0 a0_1 a0_2 a0_3 a0_4 a0_5 a0_6 a0_7 a0_8 a0_9 a0_10 a0_11 a0_12) := ⟨spec_siText.mono a0_0 a0_1 a0_2 a0_3 a0_4 a0_5 a0_6 a0_7 a0_8 a0_9 a0_10 a0_11 a0_12, rfl⟩
theorem spec_siText.F_eq (a0_0 : Int) (a0_1 : Int) (a0_2 : Int) (a0_3 : Int) (a0_4 : Int) (a0_5 : Bool) (a0_6 : Int) (a0_7 : Int) (a0_8 : Int) (a0_9 : Int) (a0_10 : Bool) (a0_11 : ByteArray) (a0_12 : Int) : spec_siText.F a0_0 a0_1 a0_2 a0_3 a0_4 a0_5 a0_6 a0_7 a0_8 a0_9 a0_10 a0_11 a0_12 = ((spec_shText.F a0_0 a0_1 a0_2 a0_3 a0_4 a0_5).bind fun t196 => (if t196.size + 1 ≤ 9223372036854775807 then ((spec_orText.f a0_6 a0_7).bind fun t197 => (if (t196 ++ (⟨#[47]⟩ : ByteArray)).size + t197.size ≤ 9223372036854775807 then (if ((t196 ++ (⟨#[47]⟩ : ByteArray)) ++ t197).size + 1 ≤ 9223372036854775807 then ((spec_plText.f a0_8 a0_9 a0_10).bind fun t198 => (if (((t196 ++ (⟨#[47]⟩ : ByteArray)) ++ t197) ++ (⟨#[47]⟩ : ByteArray)).size + t198.size ≤ 9223372036854775807 then (if ((((t196 ++ (⟨#[47]⟩ : ByteArray)) ++ t197) ++ (⟨#[47]⟩ : ByteArray)) ++ t198).size + 1 ≤ 9223372036854775807 then ((spec_mvText.F a0_11 a0_12).bind fun t199 => (if (((((t196 ++ (⟨#[47]⟩ : ByteArray)) ++ t197) ++ (⟨#[47]⟩ : ByteArray)) ++ t198) ++ (⟨#[47]⟩ : ByteArray)).size + t199.size ≤ 9223372036854775807 then (some ((((((t196 ++ (⟨#[47]⟩ : ByteArray)) ++ t197) ++ (⟨#[47]⟩ : ByteArray)) ++ t198) ++ (⟨#[47]⟩ : ByteArray)) ++ t199)) else (none))) else (none)) else (none))) else (none)) else (none))) else (none))) := by
  refine Lim.eq_ ?_
  simp only [spec_siText.f]
  repeat' first
  | (with_reducible exact spec_mvText.F_lim _ _)
  | (with_reducible exact spec_shText.F_lim _ _ _ _ _ _)
  | (with_reducible refine Lim.ite ?_ ?_)
  | (with_reducible refine Lim.bind ?_ (fun _ => ?_))
  | (with_reducible exact Lim.const _)
def spec_siCompare.f (k : Nat) (a0_0 : Int) (a0_1 : Int) (a0_2 : Int) (a0_3 : Int) (a0_4 : Int) (a0_5 : Bool) (a0_6 : Int) (a0_7 : Int) (a0_8 : Int) (a0_9 : Int) (a0_10 : Bool) (a0_11 : ByteArray) (a0_12 : Int) (a1_0 : Int) (a1_1 : Int) (a1_2 : Int) (a1_3 : Int) (a1_4 : Int) (a1_5 : Bool) (a1_6 : Int) (a1_7 : Int) (a1_8 : Int) (a1_9 : Int) (a1_10 : Bool) (a1_11 : ByteArray) (a1_12 : Int) : Option (Int) := (spec_siText.f k a0_0 a0_1 a0_2 a0_3 a0_4 a0_5 a0_6 a0_7 a0_8 a0_9 a0_10 a0_11 a0_12).bind fun t202 => ((spec_siText.f k a1_0 a1_1 a1_2 a1_3 a1_4 a1_5 a1_6 a1_7 a1_8 a1_9 a1_10 a1_11 a1_12).bind fun t203 => (if (Op.bytesLess t202.toList t203.toList) = true then (some (-1)) else (if (Op.bytesLess t203.toList t202.toList) = true then (some 1) else (some 0))))
theorem spec_siCompare.mono : ∀ a0 a1 a2 a3 a4 a5 a6 a7 a8 a9 a10 a11 a12 a13 a14 a15 a16 a17 a18 a19 a20 a21 a22 a23 a24 a25 k, LeO (spec_siCompare.f k a0 a1 a2 a3 a4 a5 a6 a7 a8 a9 a10 a11 a12 a13 a14 a15 a16 a17 a18 a19 a20 a21 a22 a23 a24 a25) (spec_siCompare.f (k + 1) a0 a1 a2 a3 a4 a5 a6 a7 a8 a9 a10 a11 a12 a13 a14 a15 a16 a17 a18 a19 a20 a21 a22 a23 a24 a25) := by
  intro a0 a1 a2 a3 a4 a5 a6 a7 a8 a9 a10 a11 a12 a13 a14 a15 a16 a17 a18 a19 a20 a21 a22 a23 a24 a25 k
  unfold spec_siCompare.f
  repeat' first
      | (with_reducible exact spec_siText.mono _ _ _ _ _ _ _ _ _ _ _ _ _ _)
      | (with_reducible exact LeO.refl _)
      | (with_reducible exact LeO.none _)
      | (with_reducible refine LeO.ite ?_ ?_)
      | (with_reducible refine LeO.bind ?_ (fun _ => ?_))
      | exact spec_siText.mono _ _ _ _ _ _ _ _ _ _ _ _ _ _
      | exact LeO.none _
      | refine LeO.ite ?_ ?_
      | refine LeO.bind ?_ (fun _ => ?_)
noncomputable def spec_siCompare.F (a0_0 : Int) (a0_1 : Int) (a0_2 : Int) (a0_3 : Int) (a0_4 : Int) (a0_5 : Bool) (a0_6 : Int) (a0_7 : Int) (a0_8 : Int) (a0_9 : Int) (a0_10 : Bool) (a0_11 : ByteArray) (a0_12 : Int) (a1_0 : Int) (a1_1 : Int) (a1_2 : Int) (a1_3 : Int) (a1_4 : Int) (a1_5 : Bool) (a1_6 : Int) (a1_7 : Int) (a1_8 : Int) (a1_9 : Int) (a1_10 : Bool) (a1_11 : ByteArray) (a1_12 : Int) : Option (Int) := lim fun k => spec_siCompare.f k a0_0 a0_1 a0_2 a0_3 a0_4 a0_5 a0_6 a0_7 a0_8 a0_9 a0_10 a0_11 a0_12 a1_0 a1_1 a1_2 a1_3 a1_4 a1_5 a1_6 a1_7 a1_8 a1_9 a1_10 a1_11 a1_12
theorem spec_siCompare.F_lim (a0_0 : Int) (a0_1 : Int) (a0_2 : Int) (a0_3 : Int) (a0_4 : Int) (a0_5 : Bool) (a0_6 : Int) (a0_7 : Int) (a0_8 : Int) (a0_9 : Int) (a0_10 : Bool) (a0_11 : ByteArray) (a0_12 : Int) (a1_0 : Int) (a1_1 : Int) (a1_2 : Int) (a1_3 : Int) (a1_4 : Int) (a1_5 : Bool) (a1_6 : Int) (a1_7 : Int) (a1_8 : Int) (a1_9 : Int) (a1_10 : Bool) (a1_11 : ByteArray) (a1_12 : Int) : Lim (fun k => spec_siCompare.f k a0_0 a0_1 a0_2 a0_3 a0_4 a0_5 a0_6 a0_7 a0_8 a0_9 a0_10 a0_11 a0_12 a1_0 a1_1 a1_2 a1_3 a1_4 a1_5 a1_6 a1_7 a1_8 a1_9 a1_10 a1_11 a1_12) (spec_siCompare.F a0_0 a0_1 a0_2 a0_3 a0_4 a0_5 a0_6 a0_7 a0_8 a0_9 a0_10 a0_11 a0_12 a1_0 a1_1 a1_2 a1_3 a1_4 a1_5 a1_6 a1_7 a1_8 a1_9 a1_10 a1_11 a1_12) := ⟨spec_siCompare.mono a0_0 a0_1 a0_2 a0_3 a0_4 a0_5 a0_6 a0_7 a0_8 a0_9 a0_10 a0_11 a0_12 a1_0 a1_1 a1_2 a1_3 a1_4 a1_5 a1_6 a1_7 a1_8 a1_9 a1_10 a1_11 a1_12, rfl⟩
theorem spec_siCompare.F_eq (a0_0 : Int) (a0_1 : Int) (a0_2 : Int) (a0_3 : Int) (a0_4 : Int) (a0_5 : Bool) (a0_6 : Int) (a0_7 : Int) (a0_8 : Int) (a0_9 : Int) (a0_10 : Bool) (a0_11 : ByteArray) (a0_12 : Int) (a1_0 : Int) (a1_1 : Int) (a1_2 : Int) (a1_3 : Int) (a1_4 : Int) (a1_5 : Bool) (a1_6 : Int) (a1_7 : Int) (a1_8 : Int) (a1_9 : Int) (a1_10 : Bool) (a1_11 : ByteArray) (a1_12 : Int) : spec_siCompare.F a0_0 a0_1 a0_2 a0_3 a0_4 a0_5 a0_6 a0_7 a0_8 a0_9 a0_10 a0_11 a0_12 a1_0 a1_1 a1_2 a1_3 a1_4 a1_5 a1_6 a1_7 a1_8 a1_9 a1_10 a1_11 a1_12 = ((spec_siText.F a0_0 a0_1 a0_2 a0_3 a0_4 a0_5 a0_6 a0_7 a0_8 a0_9 a0_10 a0_11 a0_12).bind fun t202 => ((spec_siText.F a1_0 a1_1 a1_2 a1_3 a1_4 a1_5 a1_6 a1_7 a1_8 a1_9 a1_10 a1_11 a1_12).bind fun t203 => (if (Op.bytesLess t202.toList t203.toList) = true then (some (-1)) else (if (Op.bytesLess t203.toList t202.toList) = true then (some 1) else (some 0))))) := by
  refine Lim.eq_ ?_
  simp only [spec_siCompare.f]
  repeat' first
  | (with_reducible exact spec_siText.F_lim _ _ _ _ _ _ _ _ _ _ _ _ _)
  | (with_reducible refine Lim.ite ?_ ?_)
  | (with_reducible refine Lim.bind ?_ (fun _ => ?_))
  | (with_reducible exact Lim.const _)
def spec_CompareHands.f (k : Nat) (a0_0 : Int) (a0_1 : Int) (a0_2 : Int) (a0_3 : Int) (a0_4 : Int) (a0_5 : Bool) (a0_6 : Int) (a0_7 : Int) (a0_8 : Int) (a0_9 : Int) (a0_10 : Bool) (a0_11 : ByteArray) (a0_12 : Int) (a1_0 : Int) (a1_1 : Int) (a1_2 : Int) (a1_3 : Int) (a1_4 : Int) (a1_5 : Bool) (a1_6 : Int) (a1_7 : Int) (a1_8 : Int) (a1_9 : Int) (a1_10 : Bool) (a1_11 : ByteArray) (a1_12 : Int) : Option (Int × Bool) := (spec_siHand.f k a0_0 a0_1 a0_2 a0_3 a0_4 a0_5 a0_6 a0_7 a0_8 a0_9 a0_10 a0_11 a0_12).bind fun t206 => (if t206 = true then ((spec_siHand.f k a1_0 a1_1 a1_2 a1_3 a1_4 a1_5 a1_6 a1_7 a1_8 a1_9 a1_10 a1_11 a1_12).bind fun t207 => (if t207 = true then ((spec_siCompare.f k a0_0 a0_1 a0_2 a0_3 a0_4 a0_5 a0_6 a0_7 a0_8 a0_9 a0_10 a0_11 a0_12 a1_0 a1_1 a1_2 a1_3 a1_4 a1_5 a1_6 a1_7 a1_8 a1_9 a1_10 a1_11 a1_12).bind fun t208 => (some (t208, true))) else (some (0, false)))) else (some (0, false)))
theorem spec_CompareHands.mono : ∀ a0 a1 a2 a3 a4 a5 a6 a7 a8 a9 a10 a11 a12 a13 a14 a15 a16 a17 a18 a19 a20 a21 a22 a23 a24 a25 k, LeO (spec_CompareHands.f k a0 a1 a2 a3 a4 a5 a6 a7 a8 a9 a10 a11 a12 a13 a14 a15 a16 a17 a18 a19 a20 a21 a22 a23 a24 a25) (spec_CompareHands.f (k + 1) a0 a1 a2 a3 a4 a5 a6 a7 a8 a9 a10 a11 a12 a13 a14 a15 a16 a17 a18 a19 a20 a21 a22 a23 a24 a25) := by
  intro a0 a1 a2 a3 a4 a5 a6 a7 a8 a9 a10 a11 a12 a13 a14 a15 a16 a17 a18 a19 a20 a21 a22 a23 a24 a25 k
  unfold spec_CompareHands.f
  repeat' first
      | (with_reducible exact spec_siCompare.mono _ _ _ _ _ _ _ _ _ _ _ _ _ _ _ _ _ _ _ _ _ _ _ _ _ _ _)
      | (with_reducible exact spec_siHand.mono _ _ _ _ _ _ _ _ _ _ _ _ _ _)
      | (with_reducible exact LeO.refl _)
      | (with_reducible exact LeO.none _)
      | (with_reducible refine LeO.ite ?_ ?_)
      | (with_reducible refine LeO.bind ?_ (fun _ => ?_))
      | exact spec_siCompare.mono _ _ _ _ _ _ _ _ _ _ _ _ _ _ _ _ _ _ _ _ _ _ _ _ _ _ _
      | exact spec_siHand.mono _ _ _ _ _ _ _ _ _ _ _ _ _ _
      | exact LeO.none _
      | refine LeO.ite ?_ ?_
      | refine LeO.bind ?_ (fun _ => ?_)
noncomputable def spec_CompareHands.F (a0_0 : Int) (a0_1 : Int) (a0_2 : Int) (a0_3 : Int) (a0_4 : Int) (a0_5 : Bool) (a0_6 : Int) (a0_7 : Int) (a0_8 : Int) (a0_9 : Int) (a0_10 : Bool) (a0_11 : ByteArray) (a0_12 : Int) (a1_0 : Int) (a1_1 : Int) (a1_2 : Int) (a1_3 : Int) (a1_4 : Int) (a1_5 : Bool) (a1_6 : Int) (a1_7 : Int) (a1_8 : Int) (a1_9 : Int) (a1_10 : Bool) (a1_11 : ByteArray) (a1_12 : Int) : Option (Int × Bool) := lim fun k => spec_CompareHands.f k a0_0 a0_1 a0_2 a0_3 a0_4 a0_5 a0_6 a0_7 a0_8 a0_9 a0_10 a0_11 a0_12 a1_0 a1_1 a1_2 a1_3 a1_4 a1_5 a1_6 a1_7 a1_8 a1_9 a1_10 a1_11 a1_12
theorem spec_CompareHands.F_lim (a0_0 : Int) (a0_1 : Int) (a0_2 : Int) (a0_3 : Int) (a0_4 : Int) (a0_5 : Bool) (a0_6 : Int) (a0_7 : Int) (a0_8 : Int) (a0_9 : Int) (a0_10 : Bool) (a0_11 : ByteArray) (a0_12 : Int) (a1_0 : Int) (a1_1 : Int) (a1_2 : Int) (a1_3 : Int) (a1_4 : Int) (a1_5 : Bool) (a1_6 : Int) (a1_7 : Int) (a1_8 : Int) (a1_9 : Int) (a1_10 : Bool) (a1_11 : ByteArray) (a1_12 : Int) : Lim (fun k => spec_CompareHands.f k a0_0 a0_1 a0_2 a0_3 a0_4 a0_5 a0_6 a0_7 a0_8 a0_9 a0_10 a0_11 a0_12 a1_0 a1_1 a1_2 a1_3 a1_4 a1_5 a1_6 a1_7 a1_8 a1_9 a1_10 a1_11 a1_12) (spec_CompareHands.F a0_0 a0_1 a0_2 a0_3 a0_4 a0_5 a0_6 a0_7 a0_8 a0_9 a0_10 a0_11 a0_12 a1_0 a1_1 a1_2 a1_3 a1_4 a1_5 a1_6 a1_7 a1_8 a1_9 a1_10 a1_11 a1_12) := ⟨spec_CompareHands.mono a0_0 a0_1 a0_2 a0_3 a0_4 a0_5 a0_6 a0_7 a0_8 a0_9 a0_10 a0_11 a0_12 a1_0 a1_1 a1_2 a1_3 a1_4 a1_5 a1_6 a1_7 a1_8 a1_9 a1_10 a1_11 a1_12, rfl⟩
theorem spec_CompareHands.F_eq (a0_0 : Int) (a0_1 : Int) (a0_2 : Int) (a0_3 : Int) (a0_4 : Int) (a0_5 : Bool) (a0_6 : Int) (a0_7 : Int) (a0_8 : Int) (a0_9 : Int) (a0_10 : Bool) (a0_11 : ByteArray) (a0_12 : Int) (a1_0 : Int) (a1_1 : Int) (a1_2 : Int) (a1_3 : Int) (a1_4 : Int) (a1_5 : Bool) (a1_6 : Int) (a1_7 : Int) (a1_8 : Int) (a1_9 : Int) (a1_10 : Bool) (a1_11 : ByteArray) (a1_12 : Int) : spec_CompareHands.F a0_0 a0_1 a0_2 a0_3 a0_4 a0_5 a0_6 a0_7 a0_8 a0_9 a0_10 a0_11 a0_12 a1_0 a1_1 a1_2 a1_3 a1_4 a1_5 a1_6 a1_7 a1_8 a1_9 a1_10 a1_11 a1_12 = ((spec_siHand.F a0_0 a0_1 a0_2 a0_3 a0_4 a0_5 a0_6 a0_7 a0_8 a0_9 a0_10 a0_11 a0_12).bind fun t206 => (if t206 = true then ((spec_siHand.F a1_0 a1_1 a1_2 a1_3 a1_4 a1_5 a1_6 a1_7 a1_8 a1_9 a1_10 a1_11 a1_12).bind fun t207 => (if t207 = true then ((spec_siCompare.F a0_0 a0_1 a0_2 a0_3 a0_4 a0_5 a0_6 a0_7 a0_8 a0_9 a0_10 a0_11 a0_12 a1_0 a1_1 a1_2 a1_3 a1_4 a1_5 a1_6 a1_7 a1_8 a1_9 a1_10 a1_11 a1_12).bind fun t208 => (some (t208, true))) else (some (0, false)))) else (some (0, false)))) := by
  refine Lim.eq_ ?_
  simp only [spec_CompareHands.f]
  repeat' first
  | (with_reducible exact spec_siCompare.F_lim _ _ _ _ _ _ _ _ _ _ _ _ _ _ _ _ _ _ _ _ _ _ _ _ _ _)
  | (with_reducible exact spec_siHand.F_lim _ _ _ _ _ _ _ _ _ _ _ _ _)
  | (with_reducible refine Lim.ite ?_ ?_)
  | (with_reducible refine Lim.bind ?_ (fun _ => ?_))
  | (with_reducible exact Lim.const _)
def impl_Shape_bends.f (a0_0 : Int) (a0_1 : Int) (a0_2 : Int) (a0_3 : Int) (a0_4 : Int) (a0_5 : Bool) : Option (List Int) := some (([a0_1, a0_2, a0_3, a0_4] : List Int))
def impl_within.f (a0 : Int) (a1 : Int) (a2 : Int) : Option (Bool) := if a0 ≥ a1 then (some (decide (a0 ≤ a2))) else (some false)
def impl_allWithin_1.f (a0 : Int) (a1_0 : Int) (a2_0 : Int) : Option (Bool) := (impl_within.f a0 a1_0 a2_0).bind fun t213 => (some (!t213))
def slices_IndexFunc_int_impl_allWithin_1.l0 : Nat → List Int → Int → Int → Int → Int → Option (Int)
  | 0, _, _, _, _, _ => none
  | k + 1, x0, x7, x8, x39000, x40000 => if x8 < x7 then (if 0 ≤ x8 then (if x8 < (x0.length : Int) then ((impl_allWithin_1.f (rd x0 x8) x39000 x40000).bind fun t215 => (if t215 = true then (some x8) else (slices_IndexFunc_int_impl_allWithin_1.l0 k x0 x7 (wrap64 (x8 + 1)) x39000 x40000))) else (none)) else (none)) else (some (-1))
def slices_IndexFunc_int_impl_allWithin_1.f (k : Nat) (l0 : List Int) (a1_0 : Int) (a1_1 : Int) : Option (Int) := slices_IndexFunc_int_impl_allWithin_1.l0 k l0 (l0.length : Int) 0 a1_0 a1_1
theorem slices_IndexFunc_int_impl_allWithin_1.mono_l : ∀ k, (∀ y0 y1 y2 y3 y4, LeO (slices_IndexFunc_int_impl_allWithin_1.l0 k y0 y1 y2 y3 y4) (slices_IndexFunc_int_impl_allWithin_1.l0 (k + 1) y0 y1 y2 y3 y4))
  | 0 => fun _ _ _ _ _ r h => by simp [slices_IndexFunc_int_impl_allWithin_1.l0] at h
  | k + 1 => by
    have ih0 := slices_IndexFunc_int_impl_allWithin_1.mono_l k
    · intro y0 y1 y2 y3 y4
      unfold slices_IndexFunc_int_impl_allWithin_1.l0
      repeat' first
      | (with_reducible exact ih0 _ _ _ _ _)
      | (with_reducible exact LeO.refl _)
      | (with_reducible exact LeO.none _)
      | (with_reducible refine LeO.ite ?_ ?_)
      | (with_reducible refine LeO.bind ?_ (fun _ => ?_))
      | exact ih0 _ _ _ _ _
      | exact LeO.none _
      | refine LeO.ite ?_ ?_
      | refine LeO.bind ?_ (fun _ => ?_)
theorem slices_IndexFunc_int_impl_allWithin_1.mono : ∀ a0 a1 a2 k, LeO (slices_IndexFunc_int_impl_allWithin_1.f k a0 a1 a2) (slices_IndexFunc_int_impl_allWithin_1.f (k + 1) a0 a1 a2) := by
  intro a0 a1 a2 k
  have ih0 := slices_IndexFunc_int_impl_allWithin_1.mono_l k
  unfold slices_IndexFunc_int_impl_allWithin_1.f
  repeat' first
      | (with_reducible exact ih0 _ _ _ _ _)
      | (with_reducible exact LeO.refl _)
      | (with_reducible exact LeO.none _)
      | (with_reducible refine LeO.ite ?_ ?_)
      | (with_reducible refine LeO.bind ?_ (fun _ => ?_))
      | exact ih0 _ _ _ _ _
      | exact LeO.none _
      | refine LeO.ite ?_ ?_
      | refine LeO.bind ?_ (fun _ => ?_)
noncomputable def slices_IndexFunc_int_impl_allWithin_1.L0 (x0 : List Int) (x7 : Int) (x8 : Int) (x39000 : Int) (x40000 : Int) : Option (Int) := lim fun k => slices_IndexFunc_int_impl_allWithin_1.l0 k x0 x7 x8 x39000 x40000
theorem slices_IndexFunc_int_impl_allWithin_1.L0_lim (x0 : List Int) (x7 : Int) (x8 : Int) (x39000 : Int) (x40000 : Int) : Lim (fun k => slices_IndexFunc_int_impl_allWithin_1.l0 k x0 x7 x8 x39000 x40000) (slices_IndexFunc_int_impl_allWithin_1.L0 x0 x7 x8 x39000 x40000) := ⟨fun k => (slices_IndexFunc_int_impl_allWithin_1.mono_l k) x0 x7 x8 x39000 x40000, rfl⟩
noncomputable def slices_IndexFunc_int_impl_allWithin_1.F (l0 : List Int) (a1_0 : Int) (a1_1 : Int) : Option (Int) := lim fun k => slices_IndexFunc_int_impl_allWithin_1.f k l0 a1_0 a1_1
theorem slices_IndexFunc_int_impl_allWithin_1.F_lim (l0 : List Int) (a1_0 : Int) (a1_1 : Int) : Lim (fun k => slices_IndexFunc_int_impl_allWithin_1.f k l0 a1_0 a1_1) (slices_IndexFunc_int_impl_allWithin_1.F l0 a1_0 a1_1) := ⟨slices_IndexFunc_int_impl_allWithin_1.mono l0 a1_0 a1_1, rfl⟩
theorem slices_IndexFunc_int_impl_allWithin_1.L0_eq (x0 : List Int) (x7 : Int) (x8 : Int) (x39000 : Int) (x40000 : Int) : slices_IndexFunc_int_impl_allWithin_1.L0 x0 x7 x8 x39000 x40000 = (if x8 < x7 then (if 0 ≤ x8 then (if x8 < (x0.length : Int) then ((impl_allWithin_1.f (rd x0 x8) x39000 x40000).bind fun t215 => (if t215 = true then (some x8) else (slices_IndexFunc_int_impl_allWithin_1.L0 x0 x7 (wrap64 (x8 + 1)) x39000 x40000))) else (none)) else (none)) else (some (-1))) := by
  refine Lim.succ_eq (slices_IndexFunc_int_impl_allWithin_1.L0_lim x0 x7 x8 x39000 x40000).mon ?_
  simp only [slices_IndexFunc_int_impl_allWithin_1.l0]
  repeat' first
  | (with_reducible exact slices_IndexFunc_int_impl_allWithin_1.L0_lim _ _ _ _ _)
  | (with_reducible refine Lim.ite ?_ ?_)
  | (with_reducible refine Lim.bind ?_ (fun _ => ?_))
  | (with_reducible exact Lim.const _)
theorem slices_IndexFunc_int_impl_allWithin_1.F_eq (l0 : List Int) (a1_0 : Int) (a1_1 : Int) : slices_IndexFunc_int_impl_allWithin_1.F l0 a1_0 a1_1 = (slices_IndexFunc_int_impl_allWithin_1.L0 l0 (l0.length : Int) 0 a1_0 a1_1) := by
  refine Lim.eq_ ?_
  simp only [slices_IndexFunc_int_impl_allWithin_1.f]
  repeat' first
  | (with_reducible exact slices_IndexFunc_int_impl_allWithin_1.L0_lim _ _ _ _ _)
  | (with_reducible refine Lim.ite ?_ ?_)
  | (with_reducible refine Lim.bind ?_ (fun _ => ?_))
  | (with_reducible exact Lim.const _)
def slices_ContainsFunc_int_impl_allWithin_1.f (k : Nat) (l0 : List Int) (a1_0 : Int) (a1_1 : Int) : Option (Bool) := (slices_IndexFunc_int_impl_allWithin_1.f k l0 a1_0 a1_1).bind fun t216 => (some (decide (t216 ≥ 0)))
theorem slices_ContainsFunc_int_impl_allWithin_1.mono : ∀ a0 a1 a2 k, LeO (slices_ContainsFunc_int_impl_allWithin_1.f k a0 a1 a2) (slices_ContainsFunc_int_impl_allWithin_1.f (k + 1) a0 a1 a2) := by
  intro a0 a1 a2 k
  unfold slices_ContainsFunc_int_impl_allWithin_1.f
  repeat' first
      | (with_reducible exact slices_IndexFunc_int_impl_allWithin_1.mono _ _ _ _)
      | (with_reducible exact LeO.refl _)
      | (with_reducible exact LeO.none _)
      | (with_reducible refine LeO.ite ?_ ?_)
      | (with_reducible refine LeO.bind ?_ (fun _ => ?_))
      | exact slices_IndexFunc_int_impl_allWithin_1.mono _ _ _ _
      | exact LeO.none _
      | refine LeO.ite ?_ ?_
      | refine LeO.bind ?_ (fun _ => ?_)
noncomputable def slices_ContainsFunc_int_impl_allWithin_1.F (l0 : List Int) (a1_0 : Int) (a1_1 : Int) : Option (Bool) := lim fun k => slices_ContainsFunc_int_impl_allWithin_1.f k l0 a1_0 a1_1
theorem slices_ContainsFunc_int_impl_allWithin_1.F_lim (l0 : List Int) (a1_0 : Int) (a1_1 : Int) : Lim (fun k => slices_ContainsFunc_int_impl_allWithin_1.f k l0 a1_0 a1_1) (slices_ContainsFunc_int_impl_allWithin_1.F l0 a1_0 a1_1) := ⟨slices_ContainsFunc_int_impl_allWithin_1.mono l0 a1_0 a1_1, rfl⟩
theorem slices_ContainsFunc_int_impl_allWithin_1.F_eq (l0 : List Int) (a1_0 : Int) (a1_1 : Int) : slices_ContainsFunc_int_impl_allWithin_1.F l0 a1_0 a1_1 = ((slices_IndexFunc_int_impl_allWithin_1.F l0 a1_0 a1_1).bind fun t216 => (some (decide (t216 ≥ 0)))) := by
  refine Lim.eq_ ?_
  simp only [slices_ContainsFunc_int_impl_allWithin_1.f]
  repeat' first
  | (with_reducible exact slices_IndexFunc_int_impl_allWithin_1.F_lim _ _ _)
  | (with_reducible refine Lim.ite ?_ ?_)
  | (with_reducible refine Lim.bind ?_ (fun _ => ?_))
  | (with_reducible exact Lim.const _)
def impl_allWithin.f (k : Nat) (l0 : List Int) (a1 : Int) (a2 : Int) : Option (Bool) := (slices_ContainsFunc_int_impl_allWithin_1.f k l0 a1 a2).bind fun t219 => (some (!t219))
theorem impl_allWithin.mono : ∀ a0 a1 a2 k, LeO (impl_allWithin.f k a0 a1 a2) (impl_allWithin.f (k + 1) a0 a1 a2) := by
  intro a0 a1 a2 k
  unfold impl_allWithin.f
  repeat' first
      | (with_reducible exact slices_ContainsFunc_int_impl_allWithin_1.mono _ _ _ _)
      | (with_reducible exact LeO.refl _)
      | (with_reducible exact LeO.none _)
      | (with_reducible refine LeO.ite ?_ ?_)
      | (with_reducible refine LeO.bind ?_ (fun _ => ?_))
      | exact slices_ContainsFunc_int_impl_allWithin_1.mono _ _ _ _
      | exact LeO.none _
      | refine LeO.ite ?_ ?_
      | refine LeO.bind ?_ (fun _ => ?_)
noncomputable def impl_allWithin.F (l0 : List Int) (a1 : Int) (a2 : Int) : Option (Bool) := lim fun k => impl_allWithin.f k l0 a1 a2
theorem impl_allWithin.F_lim (l0 : List Int) (a1 : Int) (a2 : Int) : Lim (fun k => impl_allWithin.f k l0 a1 a2) (impl_allWithin.F l0 a1 a2) := ⟨impl_allWithin.mono l0 a1 a2, rfl⟩
theorem impl_allWithin.F_eq (l0 : List Int) (a1 : Int) (a2 : Int) : impl_allWithin.F l0 a1 a2 = ((slices_ContainsFunc_int_impl_allWithin_1.F l0 a1 a2).bind fun t219 => (some (!t219))) := by
  refine Lim.eq_ ?_
  simp only [impl_allWithin.f]
  repeat' first
  | (with_reducible exact slices_ContainsFunc_int_impl_allWithin_1.F_lim _ _ _)
  | (with_reducible refine Lim.ite ?_ ?_)
  | (with_reducible refine Lim.bind ?_ (fun _ => ?_))
  | (with_reducible exact Lim.const _)
def impl_Shape_maySpread.f (a0_0 : Int) (a0_1 : Int) (a0_2 : Int) (a0_3 : Int) (a0_4 : Int) (a0_5 : Bool) : Option (Bool) := if a0_2 = 0 then (if a0_1 = 0 then (some true) else (if a0_3 = 0 then (some true) else (some false))) else (if a0_3 = 0 then (some (a0_4 == 0)) else (some false))
def impl_IsShape.f (k : Nat) (a0_0 : Int) (a0_1 : Int) (a0_2 : Int) (a0_3 : Int) (a0_4 : Int) (a0_5 : Bool) : Option (Bool) := (some (([a0_0] : List Int) : List Int)).bind fun y222 => ((impl_Shape_bends.f a0_0 a0_1 a0_2 a0_3 a0_4 a0_5).bind fun t225 => (if y222.length + t225.length < 17592186044416 then ((impl_allWithin.f k (y222 ++ t225) 0 2).bind fun t231 => (if t231 = true then (if a0_5 = true then ((impl_Shape_maySpread.f a0_0 a0_1 a0_2 a0_3 a0_4 a0_5).bind fun t232 => (some t232)) else (some true)) else (some false))) else (none)))
theorem impl_IsShape.mono : ∀ a0 a1 a2 a3 a4 a5 k, LeO (impl_IsShape.f k a0 a1 a2 a3 a4 a5) (impl_IsShape.f (k + 1) a0 a1 a2 a3 a4 a5) := by
  intro a0 a1 a2 a3 a4 a5 k
  unfold impl_IsShape.f
  repeat' first
      | (with_reducible exact impl_allWithin.mono _ _ _ _)
      | (with_reducible exact LeO.refl _)
      | (with_reducible exact LeO.none _)
      | (with_reducible refine LeO.ite ?_ ?_)
      | (with_reducible refine LeO.bind ?_ (fun _ => ?_))
      | exact impl_allWithin.mono _ _ _ _
      | exact LeO.none _
      | refine LeO.ite ?_ ?_
      | refine LeO.bind ?_ (fun _ => ?_)
noncomputable def impl_IsShape.F (a0_0 : Int) (a0_1 : Int) (a0_2 : Int) (a0_3 : Int) (a0_4 : Int) (a0_5 : Bool) : Option (Bool) := lim fun k => impl_IsShape.f k a0_0 a0_1 a0_2 a0_3 a0_4 a0_5
theorem impl_IsShape.F_lim (a0_0 : Int) (a0_1 : Int) (a0_2 : Int) (a0_3 : Int) (a0_4 : Int) (a0_5 : Bool) : Lim (fun k => impl_IsShape.f k a0_0 a0_1 a0_2 a0_3 a0_4 a0_5) (impl_IsShape.F a0_0 a0_1 a0_2 a0_3 a0_4 a0_5) := ⟨impl_IsShape.mono a0_0 a0_1 a0_2 a0_3 a0_4 a0_5, rfl⟩
theorem impl_IsShape.F_eq (a0_0 : Int) (a0_1 : Int) (a0_2 : Int) (a0_3 : Int) (a0_4 : Int) (a0_5 : Bool) : impl_IsShape.F a0_0 a0_1 a0_2 a0_3 a0_4 a0_5 = ((some (([a0_0] : List Int) : List Int)).bind fun y222 => ((impl_Shape_bends.f a0_0 a0_1 a0_2 a0_3 a0_4 a0_5).bind fun t225 => (if y222.length + t225.length < 17592186044416 then ((impl_allWithin.F (y222 ++ t225) 0 2).bind fun t231 => (if t231 = true then (if a0_5 = true then ((impl_Shape_maySpread.f a0_0 a0_1 a0_2 a0_3 a0_4 a0_5).bind fun t232 => (some t232)) else (some true)) else (some false))) else (none)))) := by
  refine Lim.eq_ ?_
  simp only [impl_IsShape.f]
  repeat' first
  | (with_reducible exact impl_allWithin.F_lim _ _ _)
  | (with_reducible refine Lim.ite ?_ ?_)
  | (with_reducible refine Lim.bind ?_ (fun _ => ?_))
  | (with_reducible exact Lim.const _)
def stringslite_IndexByte.f (a0 : ByteArray) (a1 : Int) : Option (Int) := some (Lib.indexByte a0.data.toList a1.toNat.toUInt8)
def strings_IndexByte.f (a0 : ByteArray) (a1 : Int) : Option (Int) := (stringslite_IndexByte.f a0 a1).bind fun t233 => (some t233)
def impl_hasOnly.l0 : Nat → ByteArray → ByteArray → Int → Int → Option (Bool)
  | 0, _, _, _, _ => none
  | k + 1, x0, x1, x7, x8 => if x8 < x7 then (if 0 ≤ x8 then (if x8 < (x0.size : Int) then ((strings_IndexByte.f x1 (bt x0 x8)).bind fun t234 => (if t234 < 0 then (some false) else (impl_hasOnly.l0 k x0 x1 x7 (wrap64 (x8 + 1))))) else (none)) else (none)) else (some true)
def impl_hasOnly.f (k : Nat) (a0 : ByteArray) (a1 : ByteArray) : Option (Bool) := impl_hasOnly.l0 k a0 a1 (a0.size : Int) 0
theorem impl_hasOnly.mono_l : ∀ k, (∀ y0 y1 y2 y3, LeO (impl_hasOnly.l0 k y0 y1 y2 y3) (impl_hasOnly.l0 (k + 1) y0 y1 y2 y3))
  | 0 => fun _ _ _ _ r h => by simp [impl_hasOnly.l0] at h
  | k + 1 => by
    have ih0 := impl_hasOnly.mono_l k
    · intro y0 y1 y2 y3
      unfold impl_hasOnly.l0
      repeat' first
      | (with_reducible exact ih0 _ _ _ _)
      | (with_reducible exact LeO.refl _)
      | (with_reducible exact LeO.none _)
      | (with_reducible refine LeO.ite ?_ ?_)
      | (with_reducible refine LeO.bind ?_ (fun _ => ?_))
      | exact ih0 _ _ _ _
      | exact LeO.none _
      | refine LeO.ite ?_ ?_
      | refine LeO.bind ?_ (fun _ => ?_)
theorem impl_hasOnly.mono : ∀ a0 a1 k, LeO (impl_hasOnly.f k a0 a1) (impl_hasOnly.f (k + 1) a0 a1) := by
  intro a0 a1 k
  have ih0 := impl_hasOnly.mono_l k
  unfold impl_hasOnly.f
  repeat' first
      | (with_reducible exact ih0 _ _ _ _)
      | (with_reducible exact LeO.refl _)
      | (with_reducible exact LeO.none _)
      | (with_reducible refine LeO.ite ?_ ?_)
      | (with_reducible refine LeO.bind ?_ (fun _ => ?_))
      | exact ih0 _ _ _ _
      | exact LeO.none _
      | refine LeO.ite ?_ ?_
      | refine LeO.bind ?_ (fun _ => ?_)
noncomputable def impl_hasOnly.L0 (x0 : ByteArray) (x1 : ByteArray) (x7 : Int) (x8 : Int) : Option (Bool) := lim fun k => impl_hasOnly.l0 k x0 x1 x7 x8
theorem impl_hasOnly.L0_lim (x0 : ByteArray) (x1 : ByteArray) (x7 : Int) (x8 : Int) : Lim (fun k => impl_hasOnly.l0 k x0 x1 x7 x8) (impl_hasOnly.L0 x0 x1 x7 x8) := ⟨fun k => (impl_hasOnly.mono_l k) x0 x1 x7 x8, rfl⟩
noncomputable def impl_hasOnly.F (a0 : ByteArray) (a1 : ByteArray) : Option (Bool) := lim fun k => impl_hasOnly.f k a0 a1
theorem impl_hasOnly.F_lim (a0 : ByteArray) (a1 : ByteArray) : Lim (fun k => impl_hasOnly.f k a0 a1) (impl_hasOnly.F a0 a1) := ⟨impl_hasOnly.mono a0 a1, rfl⟩
theorem impl_hasOnly.L0_eq (x0 : ByteArray) (x1 : ByteArray) (x7 : Int) (x8 : Int) : impl_hasOnly.L0 x0 x1 x7 x8 = (if x8 < x7 then (if 0 ≤ x8 then (if x8 < (x0.size : Int) then ((strings_IndexByte.f x1 (bt x0 x8)).bind fun t234 => (if t234 < 0 then (some false) else (impl_hasOnly.L0 x0 x1 x7 (wrap64 (x8 + 1))))) else (none)) else (none)) else (some true)) := by
  refine Lim.succ_eq (impl_hasOnly.L0_lim x0 x1 x7 x8).mon ?_
  simp only [impl_hasOnly.l0]
  repeat' first
  | (with_reducible exact impl_hasOnly.L0_lim _ _ _ _)
  | (with_reducible refine Lim.ite ?_ ?_)
  | (with_reducible refine Lim.bind ?_ (fun _ => ?_))
  | (with_reducible exact Lim.const _)
theorem impl_hasOnly.F_eq (a0 : ByteArray) (a1 : ByteArray) : impl_hasOnly.F a0 a1 = (impl_hasOnly.L0 a0 a1 (a0.size : Int) 0) := by
  refine Lim.eq_ ?_
  simp only [impl_hasOnly.f]
  repeat' first
  | (with_reducible exact impl_hasOnly.L0_lim _ _ _ _)
  | (with_reducible refine Lim.ite ?_ ?_)
  | (with_reducible refine Lim.bind ?_ (fun _ => ?_))
  | (with_reducible exact Lim.const _)
def impl_IsMove.f (k : Nat) (a0_0 : ByteArray) (a0_1 : Int) : Option (Bool) := if (a0_0.size : Int) ≤ 6 then ((impl_hasOnly.f k a0_0 (⟨#[117, 100, 108, 114, 102, 98]⟩ : ByteArray)).bind fun t236 => (if t236 = true then ((impl_within.f a0_1 1 3).bind fun t237 => (if t237 = true then (if a0_0.toList = ([] : List UInt8) then (some (a0_1 == 1)) else (some true)) else (some false))) else (some false))) else (some false)
theorem impl_IsMove.mono : ∀ a0 a1 k, LeO (impl_IsMove.f k a0 a1) (impl_IsMove.f (k + 1) a0 a1) := by
  intro a0 a1 k
  unfold impl_IsMove.f
  repeat' first
      | (with_reducible exact impl_hasOnly.mono _ _ _)
      | (with_reducible exact LeO.refl _)
      | (with_reducible exact LeO.none _)
      | (with_reducible refine LeO.ite ?_ ?_)
      | (with_reducible refine LeO.bind ?_ (fun _ => ?_))
      | exact impl_hasOnly.mono _ _ _
      | exact LeO.none _
      | refine LeO.ite ?_ ?_
      | refine LeO.bind ?_ (fun _ => ?_)
noncomputable def impl_IsMove.F (a0_0 : ByteArray) (a0_1 : Int) : Option (Bool) := lim fun k => impl_IsMove.f k a0_0 a0_1
theorem impl_IsMove.F_lim (a0_0 : ByteArray) (a0_1 : Int) : Lim (fun k => impl_IsMove.f k a0_0 a0_1) (impl_IsMove.F a0_0 a0_1) := ⟨impl_IsMove.mono a0_0 a0_1, rfl⟩
theorem impl_IsMove.F_eq (a0_0 : ByteArray) (a0_1 : Int) : impl_IsMove.F a0_0 a0_1 = (if (a0_0.size : Int) ≤ 6 then ((impl_hasOnly.F a0_0 (⟨#[117, 100, 108, 114, 102, 98]⟩ : ByteArray)).bind fun t236 => (if t236 = true then ((impl_within.f a0_1 1 3).bind fun t237 => (if t237 = true then (if a0_0.toList = ([] : List UInt8) then (some (a0_1 == 1)) else (some true)) else (some false))) else (some false))) else (some false)) := by
  refine Lim.eq_ ?_
  simp only [impl_IsMove.f]
  repeat' first
  | (with_reducible exact impl_hasOnly.F_lim _ _)
  | (with_reducible refine Lim.ite ?_ ?_)
  | (with_reducible refine Lim.bind ?_ (fun _ => ?_))
  | (with_reducible exact Lim.const _)
def impl_IsOrient.f (a0_0 : Int) (a0_1 : Int) : Option (Bool) := (impl_within.f a0_0 0 5).bind fun t239 => (if t239 = true then ((impl_within.f a0_1 0 5).bind fun t240 => (if t240 = true then (some ((wrap64 (Int.tdiv a0_0 2)) != (wrap64 (Int.tdiv a0_1 2)))) else (some false))) else (some false))
def impl_IsPlace.f (a0_0 : Int) (a0_1 : Int) (a0_2 : Bool) : Option (Bool) := (impl_within.f a0_0 0 9).bind fun t242 => (if t242 = true then ((impl_within.f a0_1 (-1) 1).bind fun t243 => (if t243 = true then (if a0_2 = true then (some (!(a0_0 == 0))) else (some (!false))) else (some false))) else (some false))
def impl_IsHand.f (k : Nat) (a0_0 : Int) (a0_1 : Int) (a0_2 : Int) (a0_3 : Int) (a0_4 : Int) (a0_5 : Bool) (a0_6 : Int) (a0_7 : Int) (a0_8 : Int) (a0_9 : Int) (a0_10 : Bool) (a0_11 : ByteArray) (a0_12 : Int) : Option (Bool) := (impl_IsShape.f k a0_0 a0_1 a0_2 a0_3 a0_4 a0_5).bind fun t245 => (if t245 = true then ((impl_IsOrient.f a0_6 a0_7).bind fun t246 => (if t246 = true then ((impl_IsPlace.f a0_8 a0_9 a0_10).bind fun t247 => (if t247 = true then ((impl_IsMove.f k a0_11 a0_12).bind fun t248 => (some t248)) else (some false))) else (some false))) else (some false))
theorem impl_IsHand.mono : ∀ a0 a1 a2 a3 a4 a5 a6 a7 a8 a9 a10 a11 a12 k, LeO (impl_IsHand.f k a0 a1 a2 a3 a4 a5 a6 a7 a8 a9 a10 a11 a12) (impl_IsHand.f (k + 1) a0 a1 a2 a3 a4 a5 a6 a7 a8 a9 a10 a11 a12) := by
  intro a0 a1 a2 a3 a4 a5 a6 a7 a8 a9 a10 a11 a12 k
  unfold impl_IsHand.f
  repeat' first
      | (with_reducible exact impl_IsMove.mono _ _ _)
      | (with_reducible exact impl_IsShape.mono _ _ _ _ _ _ _)
      | (with_reducible exact LeO.refl _)
      | (with_reducible exact LeO.none _)
      | (with_reducible refine LeO.ite ?_ ?_)
      | (with_reducible refine LeO.bind ?_ (fun _ => ?_))
      | exact impl_IsMove.mono _ _ _
      | exact impl_IsShape.mono _ _ _ _ _ _ _
      | exact LeO.none _
      | refine LeO.ite ?_ ?_
      | refine LeO.bind ?_ (fun _ => ?_)
noncomputable def impl_IsHand.F (a0_0 : Int) (a0_1 : Int) (a0_2 : Int) (a0_3 : Int) (a0_4 : Int) (a0_5 : Bool) (a0_6 : Int) (a0_7 : Int) (a0_8 : Int) (a0_9 : Int) (a0_10 : Bool) (a0_11 : ByteArray) (a0_12 : Int) : Option (Bool) := lim fun k => impl_IsHand.f k a0_0 a0_1 a0_2 a0_3 a0_4 a0_5 a0_6 a0_7 a0_8 a0_9 a0_10 a0_11 a0_12
theorem impl_IsHand.F_lim (a0_0 : Int) (a0_1 : Int) (a0_2 : Int) (a0_3 : Int) (a0_4 : Int) (a0_5 : Bool) (a0_6 : Int) (a0_7 : Int) (a0_8 : Int) (a0_9 : Int) (a0_10 : Bool) (a0_11 : ByteArray) (a0_12 : Int) : Lim (fun k => impl_IsHand.f k a0_0 a0_1 a0_2 a0_3 a0_4 a0_5 a0_6 a0_7 a0_8 a0_9 a0_10 a0_11 a0_12) (impl_IsHand.F a0_0 a0_1 a0_2 a0_3 a0_4 a0_5 a0_6 a0_7 a0_8 a0_9 a0_10 a0_11 a0_12) := ⟨impl_IsHand.mono a0_0 a0_1 a0_2 a0_3 a0_4 a0_5 a0_6 a0_7 a0_8 a0_9 a0_10 a0_11 a0_12, rfl⟩
theorem impl_IsHand.F_eq (a0_0 : Int) (a0_1 : Int) (a0_2 : Int) (a0_3 : Int) (a0_4 : Int) (a0_5 : Bool) (a0_6 : Int) (a0_7 : Int) (a0_8 : Int) (a0_9 : Int) (a0_10 : Bool) (a0_11 : ByteArray) (a0_12 : Int) : impl_IsHand.F a0_0 a0_1 a0_2 a0_3 a0_4 a0_5 a0_6 a0_7 a0_8 a0_9 a0_10 a0_11 a0_12 = ((impl_IsShape.F a0_0 a0_1 a0_2 a0_3 a0_4 a0_5).bind fun t245 => (if t245 = true then ((impl_IsOrient.f a0_6 a0_7).bind fun t246 => (if t246 = true then ((impl_IsPlace.f a0_8 a0_9 a0_10).bind fun t247 => (if t247 = true then ((impl_IsMove.F a0_11 a0_12).bind fun t248 => (some t248)) else (some false))) else (some false))) else (some false))) := by
  refine Lim.eq_ ?_
  simp only [impl_IsHand.f]
  repeat' first
  | (with_reducible exact impl_IsMove.F_lim _ _)
  | (with_reducible exact impl_IsShape.F_lim _ _ _ _ _ _)
  | (with_reducible refine Lim.ite ?_ ?_)
  | (with_reducible refine Lim.bind ?_ (fun _ => ?_))
  | (with_reducible exact Lim.const _)
def strconv_Itoa.f (a0 : Int) : Option (ByteArray) := if 0 ≤ a0 ∧ a0 < 100 then some ⟨(Lib.decDigits a0.toNat).toArray⟩ else none
def impl_Shape_text.l0 : Nat → ByteArray → List Int → Int → Int → Int → Int → Int → Int → Int → Bool → Option (ByteArray)
  | 0, _, _, _, _, _, _, _, _, _, _ => none
  | k + 1, x3, x10, x11, x12, x250000, x250001, x250002, x250003, x250004, x250005 => if x12 < x11 then (if 0 ≤ x12 then (if x12 < (x10.length : Int) then ((strconv_Itoa.f (rd x10 x12)).bind fun t255 => (if x3.size + t255.size ≤ 9223372036854775807 then (impl_Shape_text.l0 k (x3 ++ t255) x10 x11 (wrap64 (x12 + 1)) x250000 x250001 x250002 x250003 x250004 x250005) else (none))) else (none)) else (none)) else (if x250005 = true then (if x3.size + 1 ≤ 9223372036854775807 then (some (x3 ++ (⟨#[115]⟩ : ByteArray))) else (none)) else (some x3))
def impl_Shape_text.f (k : Nat) (a0_0 : Int) (a0_1 : Int) (a0_2 : Int) (a0_3 : Int) (a0_4 : Int) (a0_5 : Bool) : Option (ByteArray) := (strconv_Itoa.f a0_0).bind fun t250 => ((impl_Shape_bends.f a0_0 a0_1 a0_2 a0_3 a0_4 a0_5).bind fun t251 => (impl_Shape_text.l0 k t250 t251 (t251.length : Int) 0 a0_0 a0_1 a0_2 a0_3 a0_4 a0_5))
theorem impl_Shape_text.mono_l : ∀ k, (∀ y0 y1 y2 y3 y4 y5 y6 y7 y8 y9, LeO (impl_Shape_text.l0 k y0 y1 y2 y3 y4 y5 y6 y7 y8 y9) (impl_Shape_text.l0 (k + 1) y0 y1 y2 y3 y4 y5 y6 y7 y8 y9))
  | 0 => fun _ _ _ _ _ _ _ _ _ _ r h => by simp [impl_Shape_text.l0] at h
  | k + 1 => by
    have ih0 := impl_Shape_text.mono_l k
    · intro y0 y1 y2 y3 y4 y5 y6 y7 y8 y9
      unfold impl_Shape_text.l0
      repeat' first
      | (with_reducible exact ih0 _ _ _ _ _ _ _ _ _ _)
      | (with_reducible exact LeO.refl _)
      | (with_reducible exact LeO.none _)
      | (with_reducible refine LeO.ite ?_ ?_)
      | (with_reducible refine LeO.bind ?_ (fun _ => ?_))
      | exact ih0 _ _ _ _ _ _ _ _ _ _
      | exact LeO.none _
      | refine LeO.ite ?_ ?_
      | refine LeO.bind ?_ (fun _ => ?_)
theorem impl_Shape_text.mono : ∀ a0 a1 a2 a3 a4 a5 k, LeO (impl_Shape_text.f k a0 a1 a2 a3 a4 a5) (impl_Shape_text.f (k + 1) a0 a1 a2 a3 a4 a5) := by
  intro a0 a1 a2 a3 a4 a5 k
  have ih0 := impl_Shape_text.mono_l k
  unfold impl_Shape_text.f
  repeat' first
      | (with_reducible exact ih0 _ _ _ _ _ _ _ _ _ _)
      | (with_reducible exact LeO.refl _)
      | (with_reducible exact LeO.none _)
      | (with_reducible refine LeO.ite ?_ ?_)
      | (with_reducible refine LeO.bind ?_ (fun _ => ?_))
      | exact ih0 _ _ _ _ _ _ _ _ _ _
      | exact LeO.none _
      | refine LeO.ite ?_ ?_
      | refine LeO.bind ?_ (fun _ => ?_)
noncomputable def impl_Shape_text.L0 (x3 : ByteArray) (x10 : List Int) (x11 : Int) (x12 : Int) (x250000 : Int) (x250001 : Int) (x250002 : Int) (x250003 : Int) (x250004 : Int) (x250005 : Bool) : Option (ByteArray) := lim fun k => impl_Shape_text.l0 k x3 x10 x11 x12 x250000 x250001 x250002 x250003 x250004 x250005
theorem impl_Shape_text.L0_lim (x3 : ByteArray) (x10 : List Int) (x11 : Int) (x12 : Int) (x250000 : Int) (x250001 : Int) (x250002 : Int) (x250003 : Int) (x250004 : Int) (x250005 : Bool) : Lim (fun k => impl_Shape_text.l0 k x3 x10 x11 x12 x250000 x250001 x250002 x250003 x250004 x250005) (impl_Shape_text.L0 x3 x10 x11 x12 x250000 x250001 x250002 x250003 x250004 x250005) := ⟨fun k => (impl_Shape_text.mono_l k) x3 x10 x11 x12 x250000 x250001 x250002 x250003 x250004 x250005, rfl⟩
noncomputable def impl_Shape_text.F (a0_0 : Int) (a0_1 : Int) (a0_2 : Int) (a0_3 : Int) (a0_4 : Int) (a0_5 : Bool) : Option (ByteArray) := lim fun k => impl_Shape_text.f k a0_0 a0_1 a0_2 a0_3 a0_4 a0_5
theorem impl_Shape_text.F_lim (a0_0 : Int) (a0_1 : Int) (a0_2 : Int) (a0_3 : Int) (a0_4 : Int) (a0_5 : Bool) : Lim (fun k => impl_Shape_text.f k a0_0 a0_1 a0_2 a0_3 a0_4 a0_5) (impl_Shape_text.F a0_0 a0_1 a0_2 a0_3 a0_4 a0_5) := ⟨impl_Shape_text.mono a0_0 a0_1 a0_2 a0_3 a0_4 a0_5, rfl⟩
theorem impl_Shape_text.L0_eq (x3 : ByteArray) (x10 : List Int) (x11 : Int) (x12 : Int) (x250000 : Int) (x250001 : Int) (x250002 : Int) (x250003 : Int) (x250004 : Int) (x250005 : Bool) : impl_Shape_text.L0 x3 x10 x11 x12 x250000 x250001 x250002 x250003 x250004 x250005 = (if x12 < x11 then (if 0 ≤ x12 then (if x12 < (x10.length : Int) then ((strconv_Itoa.f (rd x10 x12)).bind fun t255 => (if x3.size + t255.size ≤ 9223372036854775807 then (impl_Shape_text.L0 (x3 ++ t255) x10 x11 (wrap64 (x12 + 1)) x250000 x250001 x250002 x250003 x250004 x250005) else (none))) else (none)) else (none)) else (if x250005 = true then (if x3.size + 1 ≤ 9223372036854775807 then (some (x3 ++ (⟨#[115]⟩ : ByteArray))) else (none)) else (some x3))) := by
  refine Lim.succ_eq (impl_Shape_text.L0_lim x3 x10 x11 x12 x250000 x250001 x250002 x250003 x250004 x250005).mon ?_
  simp only [impl_Shape_text.l0]
  repeat' first
  | (with_reducible exact impl_Shape_text.L0_lim _ _ _ _ _ _ _ _ _ _)
  | (with_reducible refine Lim.ite ?_ ?_)
  | (with_reducible refine Lim.bind ?_ (fun _ => ?_))
  | (with_reducible exact Lim.const _)
theorem impl_Shape_text.F_eq (a0_0 : Int) (a0_1 : Int) (a0_2 : Int) (a0_3 : Int) (a0_4 : Int) (a0_5 : Bool) : impl_Shape_text.F a0_0 a0_1 a0_2 a0_3 a0_4 a0_5 = ((strconv_Itoa.f a0_0).bind fun t250 => ((impl_Shape_bends.f a0_0 a0_1 a0_2 a0_3 a0_4 a0_5).bind fun t251 => (impl_Shape_text.L0 t250 t251 (t251.length : Int) 0 a0_0 a0_1 a0_2 a0_3 a0_4 a0_5))) := by
  refine Lim.eq_ ?_
  simp only [impl_Shape_text.f]
  repeat' first
  | (with_reducible exact impl_Shape_text.L0_lim _ _ _ _ _ _ _ _ _ _)
  | (with_reducible refine Lim.ite ?_ ?_)
  | (with_reducible refine Lim.bind ?_ (fun _ => ?_))
  | (with_reducible exact Lim.const _)
def impl_Move_text.f (a0_0 : ByteArray) (a0_1 : Int) : Option (ByteArray) := if a0_0.toList = ([] : List UInt8) then (some (⟨#[45]⟩ : ByteArray)) else (if a0_1 = 1 then (some a0_0) else (if a0_0.size + 1 ≤ 9223372036854775807 then ((strconv_Itoa.f a0_1).bind fun t257 => (if (a0_0 ++ (⟨#[42]⟩ : ByteArray)).size + t257.size ≤ 9223372036854775807 then (some ((a0_0 ++ (⟨#[42]⟩ : ByteArray)) ++ t257)) else (none))) else (none)))
def strings_Join.f (l0 : List ByteArray) (a1 : ByteArray) : Option (ByteArray × List ByteArray) := if l0.length ≤ 140737488355328 ∧ (Lib.join (l0.map (·.data.toList)) a1.data.toList).length ≤ 140737488355328 then some (joined l0 a1, l0) else none
def impl_Orient_text.f (a0_0 : Int) (a0_1 : Int) : Option (ByteArray) := if 0 ≤ a0_0 then (if a0_0 ≤ (wrap64 (a0_0 + 1)) then (if (wrap64 (a0_0 + 1)) ≤ 6 then (if 0 ≤ a0_1 then (if a0_1 ≤ (wrap64 (a0_1 + 1)) then (if (wrap64 (a0_1 + 1)) ≤ 6 then (if ((⟨#[117, 100, 108, 114, 102, 98]⟩ : ByteArray).extract (a0_0 : Int).toNat ((wrap64 (a0_0 + 1)) : Int).toNat).size + ((⟨#[117, 100, 108, 114, 102, 98]⟩ : ByteArray).extract (a0_1 : Int).toNat ((wrap64 (a0_1 + 1)) : Int).toNat).size ≤ 9223372036854775807 then (some (((⟨#[117, 100, 108, 114, 102, 98]⟩ : ByteArray).extract (a0_0 : Int).toNat ((wrap64 (a0_0 + 1)) : Int).toNat) ++ ((⟨#[117, 100, 108, 114, 102, 98]⟩ : ByteArray).extract (a0_1 : Int).toNat ((wrap64 (a0_1 + 1)) : Int).toNat))) else (none)) else (none)) else (none)) else (none)) else (none)) else (none)) else (none)
def impl_Place_text.nm (n : Nat) : ByteArray := [(⟨#[115, 112, 97, 99, 101]⟩ : ByteArray), ⟨#[104, 101, 97, 100]⟩, ⟨#[101, 121, 101]⟩, ⟨#[99, 104, 101, 101, 107]⟩, ⟨#[109, 111, 117, 116, 104]⟩, ⟨#[99, 104, 105, 110]⟩, ⟨#[110, 101, 99, 107]⟩, ⟨#[99, 104, 101, 115, 116]⟩, ⟨#[119, 97, 105, 115, 116]⟩, ⟨#[104, 105, 112]⟩].getD n ⟨#[]⟩
def impl_Place_text.f (a0_0 : Int) (a0_1 : Int) (a0_2 : Bool) : Option (ByteArray) := if 0 ≤ a0_0 ∧ a0_0 ≤ 9 then (if a0_1 = -1 then some (if a0_2 = true then (impl_Place_text.nm a0_0.toNat ++ ⟨#[60]⟩) ++ ⟨#[42]⟩ else impl_Place_text.nm a0_0.toNat ++ ⟨#[60]⟩) else if a0_1 = 0 then some (if a0_2 = true then (impl_Place_text.nm a0_0.toNat ++ ⟨#[]⟩) ++ ⟨#[42]⟩ else impl_Place_text.nm a0_0.toNat ++ ⟨#[]⟩) else if a0_1 = 1 then some (if a0_2 = true then (impl_Place_text.nm a0_0.toNat ++ ⟨#[62]⟩) ++ ⟨#[42]⟩ else impl_Place_text.nm a0_0.toNat ++ ⟨#[62]⟩) else none) else none
def impl_Hand_text.f (k : Nat) (a0_0 : Int) (a0_1 : Int) (a0_2 : Int) (a0_3 : Int) (a0_4 : Int) (a0_5 : Bool) (a0_6 : Int) (a0_7 : Int) (a0_8 : Int) (a0_9 : Int) (a0_10 : Bool) (a0_11 : ByteArray) (a0_12 : Int) : Option (ByteArray) := (impl_Shape_text.f k a0_0 a0_1 a0_2 a0_3 a0_4 a0_5).bind fun t260 => ((impl_Orient_text.f a0_6 a0_7).bind fun t261 => ((impl_Place_text.f a0_8 a0_9 a0_10).bind fun t262 => ((impl_Move_text.f a0_11 a0_12).bind fun t263 => ((strings_Join.f (([t260, t261, t262, t263] : List ByteArray)) (⟨#[47]⟩ : ByteArray)).bind fun bt267 => (some bt267.1)))))
theorem impl_Hand_text.mono : ∀ a0 a1 a2 a3 a4 a5 a6 a7 a8 a9 a10 a11 a12 k, LeO (impl_Hand_text.f k a0 a1 a2 a3 a4 a5 a6 a7 a8 a9 a10 a11 a12) (impl_Hand_text.f (k + 1) a0 a1 a2 a3 a4 a5 a6 a7 a8 a9 a10 a11 a12) := by
  intro a0 a1 a2 a3 a4 a5 a6 a7 a8 a9 a10 a11 a12 k
  unfold impl_Hand_text.f
  repeat' first
      | (with_reducible exact impl_Shape_text.mono _ _ _ _ _ _ _)
      | (with_reducible exact LeO.refl _)
      | (with_reducible exact LeO.none _)
      | (with_reducible refine LeO.ite ?_ ?_)
      | (with_reducible refine LeO.bind ?_ (fun _ => ?_))
      | exact impl_Shape_text.mono _ _ _ _ _ _ _
      | exact LeO.none _
      | refine LeO.ite ?_ ?_
      | refine LeO.bind ?_ (fun _ => ?_)
noncomputable def impl_Hand_text.F (a0_0 : Int) (a0_1 : Int) (a0_2 : Int) (a0_3 : Int) (a0_4 : Int) (a0_5 : Bool) (a0_6 : Int) (a0_7 : Int) (a0_8 : Int) (a0_9 : Int) (a0_10 : Bool) (a0_11 : ByteArray) (a0_12 : Int) : Option (ByteArray) := lim fun k => impl_Hand_text.f k a0_0 a0_1 a0_2 a0_3 a0_4 a0_5 a0_6 a0_7 a0_8 a0_9 a0_10 a0_11 a0_12
theorem impl_Hand_text.F_lim (a0_0 : Int) (a0_1 : Int) (a0_2 : Int) (a0_3 : Int) (a0_4 : Int) (a0_5 : Bool) (a0_6 : Int) (a0_7 : Int) (a0_8 : Int) (a0_9 : Int) (a0_10 : Bool) (a0_11 : ByteArray) (a0_12 : Int) : Lim (fun k => impl_Hand_text.f k a0_0 a0_1 a0_2 a0_3 a0_4 a0_5 a0_6 a0_7 a0_8 a0_9 a0_10 a0_11 a0_12) (impl_Hand_text.F a0_0 a0_1 a0_2 a0_3 a0_4 a0_5 a0_6 a0_7 a0_8 a0_9 a0_10 a0_11 a0_12) := ⟨impl_Hand_text.mono a0_0 a0_1 a0_2 a0_3 a0_4 a0_5 a0_6 a0_7 a0_8 a0_9 a0_10 a0_11 a0_12, rfl⟩
theorem impl_Hand_text.F_eq (a0_0 : Int) (a0_1 : Int) (a0_2 : Int) (a0_3 : Int) (a0_4 : Int) (a0_5 : Bool) (a0_6 : Int) (a0_7 : Int) (a0_8 : Int) (a0_9 : Int) (a0_10 : Bool) (a0_11 : ByteArray) (a0_12 : Int) : impl_Hand_text.F a0_0 a0_1 a0_2 a0_3 a0_4 a0_5 a0_6 a0_7 a0_8 a0_9 a0_10 a0_11 a0_12 = ((impl_Shape_text.F a0_0 a0_1 a0_2 a0_3 a0_4 a0_5).bind fun t260 => ((impl_Orient_text.f a0_6 a0_7).bind fun t261 => ((impl_Place_text.f a0_8 a0_9 a0_10).bind fun t262 => ((impl_Move_text.f a0_11 a0_12).bind fun t263 => ((strings_Join.f (([t260, t261, t262, t263] : List ByteArray)) (⟨#[47]⟩ : ByteArray)).bind fun bt267 => (some bt267.1)))))) := by
  refine Lim.eq_ ?_
  simp only [impl_Hand_text.f]
  repeat' first
  | (with_reducible exact impl_Shape_text.F_lim _ _ _ _ _ _)
  | (with_reducible refine Lim.ite ?_ ?_)
  | (with_reducible refine Lim.bind ?_ (fun _ => ?_))
  | (with_reducible exact Lim.const _)
def strings_Compare.f (a0 : ByteArray) (a1 : ByteArray) : Option (Int) := some (Lib.compareBytes a0.data.toList a1.data.toList)
def impl_CompareHands.j0 : Nat → Bool → Int → Int → Int → Int → Int → Bool → Int → Int → Int → Int → Bool → ByteArray → Int → Int → Int → Int → Int → Int → Bool → Int → Int → Int → Int → Bool → ByteArray → Int → Option (Int × Bool)
  | 0, _, _, _, _, _, _, _, _, _, _, _, _, _, _, _, _, _, _, _, _, _, _, _, _, _, _, _ => none
  | k + 1, x13, x270000, x270001, x270002, x270003, x270004, x270005, x270006, x270007, x270008, x270009, x270010, x270011, x270012, x271000, x271001, x271002, x271003, x271004, x271005, x271006, x271007, x271008, x271009, x271010, x271011, x271012 => if x13 = true then (some (0, false)) else ((impl_Hand_text.f k x270000 x270001 x270002 x270003 x270004 x270005 x270006 x270007 x270008 x270009 x270010 x270011 x270012).bind fun t273 => ((impl_Hand_text.f k x271000 x271001 x271002 x271003 x271004 x271005 x271006 x271007 x271008 x271009 x271010 x271011 x271012).bind fun t274 => ((strings_Compare.f t273 t274).bind fun t275 => (some (t275, true)))))
def impl_CompareHands.f (k : Nat) (a0_0 : Int) (a0_1 : Int) (a0_2 : Int) (a0_3 : Int) (a0_4 : Int) (a0_5 : Bool) (a0_6 : Int) (a0_7 : Int) (a0_8 : Int) (a0_9 : Int) (a0_10 : Bool) (a0_11 : ByteArray) (a0_12 : Int) (a1_0 : Int) (a1_1 : Int) (a1_2 : Int) (a1_3 : Int) (a1_4 : Int) (a1_5 : Bool) (a1_6 : Int) (a1_7 : Int) (a1_8 : Int) (a1_9 : Int) (a1_10 : Bool) (a1_11 : ByteArray) (a1_12 : Int) : Option (Int × Bool) := (impl_IsHand.f k a0_0 a0_1 a0_2 a0_3 a0_4 a0_5 a0_6 a0_7 a0_8 a0_9 a0_10 a0_11 a0_12).bind fun t271 => (if t271 = true then ((impl_IsHand.f k a1_0 a1_1 a1_2 a1_3 a1_4 a1_5 a1_6 a1_7 a1_8 a1_9 a1_10 a1_11 a1_12).bind fun t272 => (impl_CompareHands.j0 k (!t272) a0_0 a0_1 a0_2 a0_3 a0_4 a0_5 a0_6 a0_7 a0_8 a0_9 a0_10 a0_11 a0_12 a1_0 a1_1 a1_2 a1_3 a1_4 a1_5 a1_6 a1_7 a1_8 a1_9 a1_10 a1_11 a1_12)) else (impl_CompareHands.j0 k true a0_0 a0_1 a0_2 a0_3 a0_4 a0_5 a0_6 a0_7 a0_8 a0_9 a0_10 a0_11 a0_12 a1_0 a1_1 a1_2 a1_3 a1_4 a1_5 a1_6 a1_7 a1_8 a1_9 a1_10 a1_11 a1_12))
theorem impl_CompareHands.mono_l : ∀ k, (∀ y0 y1 y2 y3 y4 y5 y6 y7 y8 y9 y10 y11 y12 y13 y14 y15 y16 y17 y18 y19 y20 y21 y22 y23 y24 y25 y26, LeO (impl_CompareHands.j0 k y0 y1 y2 y3 y4 y5 y6 y7 y8 y9 y10 y11 y12 y13 y14 y15 y16 y17 y18 y19 y20 y21 y22 y23 y24 y25 y26) (impl_CompareHands.j0 (k + 1) y0 y1 y2 y3 y4 y5 y6 y7 y8 y9 y10 y11 y12 y13 y14 y15 y16 y17 y18 y19 y20 y21 y22 y23 y24 y25 y26))
  | 0 => fun _ _ _ _ _ _ _ _ _ _ _ _ _ _ _ _ _ _ _ _ _ _ _ _ _ _ _ r h => by simp [impl_CompareHands.j0] at h
  | k + 1 => by
    have ih0 := impl_CompareHands.mono_l k
    · intro y0 y1 y2 y3 y4 y5 y6 y7 y8 y9 y10 y11 y12 y13 y14 y15 y16 y17 y18 y19 y20 y21 y22 y23 y24 y25 y26
      unfold impl_CompareHands.j0
      repeat' first
      | (with_reducible exact ih0 _ _ _ _ _ _ _ _ _ _ _ _ _ _ _ _ _ _ _ _ _ _ _ _ _ _ _)
      | (with_reducible exact impl_Hand_text.mono _ _ _ _ _ _ _ _ _ _ _ _ _ _)
      | (with_reducible exact impl_IsHand.mono _ _ _ _ _ _ _ _ _ _ _ _ _ _)
      | (with_reducible exact LeO.refl _)
      | (with_reducible exact LeO.none _)
      | (with_reducible refine LeO.ite ?_ ?_)
      | (with_reducible refine LeO.bind ?_ (fun _ => ?_))
      | exact ih0 _ _ _ _ _ _ _ _ _ _ _ _ _ _ _ _ _ _ _ _ _ _ _ _ _ _ _
      | exact impl_Hand_text.mono _ _ _ _ _ _ _ _ _ _ _ _ _ _
      | exact impl_IsHand.mono _ _ _ _ _ _ _ _ _ _ _ _ _ _
      | exact LeO.none _
      | refine LeO.ite ?_ ?_
      | refine LeO.bind ?_ (fun _ => ?_)
theorem impl_CompareHands.mono : ∀ a0 a1 a2 a3 a4 a5 a6 a7 a8 a9 a10 a11 a12 a13 a14 a15 a16 a17 a18 a19 a20 a21 a22 a23 a24 a25 k, LeO (impl_CompareHands.f k a0 a1 a2 a3 a4 a5 a6 a7 a8 a9 a10 a11 a12 a13 a14 a15 a16 a17 a18 a19 a20 a21 a22 a23 a24 a25) (impl_CompareHands.f (k + 1) a0 a1 a2 a3 a4 a5 a6 a7 a8 a9 a10 a11 a12 a13 a14 a15 a16 a17 a18 a19 a20 a21 a22 a23 a24 a25) := by
  intro a0 a1 a2 a3 a4 a5 a6 a7 a8 a9 a10 a11 a12 a13 a14 a15 a16 a17 a18 a19 a20 a21 a22 a23 a24 a25 k
  have ih0 := impl_CompareHands.mono_l k
  unfold impl_CompareHands.f
  repeat' first
      | (with_reducible exact ih0 _ _ _ _ _ _ _ _ _ _ _ _ _ _ _ _ _ _ _ _ _ _ _ _ _ _ _)
      | (with_reducible exact impl_Hand_text.mono _ _ _ _ _ _ _ _ _ _ _ _ _ _)
      | (with_reducible exact impl_IsHand.mono _ _ _ _ _ _ _ _ _ _ _ _ _ _)
      | (with_reducible exact LeO.refl _)
      | (with_reducible exact LeO.none _)
      | (with_reducible refine LeO.ite ?_ ?_)
      | (with_reducible refine LeO.bind ?_ (fun _ => ?_))
      | exact ih0 _ _ _ _ _ _ _ _ _ _ _ _ _ _ _ _ _ _ _ _ _ _ _ _ _ _ _
      | exact impl_Hand_text.mono _ _ _ _ _ _ _ _ _ _ _ _ _ _
      | exact impl_IsHand.mono _ _ _ _ _ _ _ _ _ _ _ _ _ _
      | exact LeO.none _
      | refine LeO.ite ?_ ?_
      | refine LeO.bind ?_ (fun _ => ?_)
noncomputable def impl_CompareHands.J0 (x13 : Bool) (x270000 : Int) (x270001 : Int) (x270002 : Int) (x270003 : Int) (x270004 : Int) (x270005 : Bool) (x270006 : Int) (x270007 : Int) (x270008 : Int) (x270009 : Int) (x270010 : Bool) (x270011 : ByteArray) (x270012 : Int) (x271000 : Int) (x271001 : Int) (x271002 : Int) (x271003 : Int) (x271004 : Int) (x271005 : Bool) (x271006 : Int) (x271007 : Int) (x271008 : Int) (x271009 : Int) (x271010 : Bool) (x271011 : ByteArray) (x271012 : Int) : Option (Int × Bool) := lim fun k => impl_CompareHands.j0 k x13 x270000 x270001 x270002 x270003 x270004 x270005 x270006 x270007 x270008 x270009 x270010 x270011 x270012 x271000 x271001 x271002 x271003 x271004 x271005 x271006 x271007 x271008 x271009 x271010 x271011 x271012
theorem impl_CompareHands.J0_lim (x13 : Bool) (x270000 : Int) (x270001 : Int) (x270002 : Int) (x270003 : Int) (x270004 : Int) (x270005 : Bool) (x270006 : Int) (x270007 : Int) (x270008 : Int) (x270009 : Int) (x270010 : Bool) (x270011 : ByteArray) (x270012 : Int) (x271000 : Int) (x271001 : Int) (x271002 : Int) (x271003 : Int) (x271004 : Int) (x271005 : Bool) (x271006 : Int) (x271007 : Int) (x271008 : Int) (x271009 : Int) (x271010 : Bool) (x271011 : ByteArray) (x271012 : Int) : Lim (fun k => impl_CompareHands.j0 k x13 x270000 x270001 x270002 x270003 x270004 x270005 x270006 x270007 x270008 x270009 x270010 x270011 x270012 x271000 x271001 x271002 x271003 x271004 x271005 x271006 x271007 x271008 x271009 x271010 x271011 x271012) (impl_CompareHands.J0 x13 x270000 x270001 x270002 x270003 x270004 x270005 x270006 x270007 x270008 x270009 x270010 x270011 x270012 x271000 x271001 x271002 x271003 x271004 x271005 x271006 x271007 x271008 x271009 x271010 x271011 x271012) := ⟨fun k => (impl_CompareHands.mono_l k) x13 x270000 x270001 x270002 x270003 x270004 x270005 x270006 x270007 x270008 x270009 x270010 x270011 x270012 x271000 x271001 x271002 x271003 x271004 x271005 x271006 x271007 x271008 x271009 x271010 x271011 x271012, rfl⟩
noncomputable def impl_CompareHands.F (a0_0 : Int) (a0_1 : Int) (a0_2 : Int) (a0_3 : Int) (a0_4 : Int) (a0_5 : Bool) (a0_6 : Int) (a0_7 : Int) (a0_8 : Int) (a0_9 : Int) (a0_10 : Bool) (a0_11 : ByteArray) (a0_12 : Int) (a1_0 : Int) (a1_1 : Int) (a1_2 : Int) (a1_3 : Int) (a1_4 : Int) (a1_5 : Bool) (a1_6 : Int) (a1_7 : Int) (a1_8 : Int) (a1_9 : Int) (a1_10 : Bool) (a1_11 : ByteArray) (a1_12 : Int) : Option (Int × Bool) := lim fun k => impl_CompareHands.f k a0_0 a0_1 a0_2 a0_3 a0_4 a0_5 a0_6 a0_7 a0_8 a0_9 a0_10 a0_11 a0_12 a1_0 a1_1 a1_2 a1_3 a1_4 a1_5 a1_6 a1_7 a1_8 a1_9 a1_10 a1_11 a1_12
theorem impl_CompareHands.F_lim (a0_0 : Int) (a0_1 : Int) (a0_2 : Int) (a0_3 : Int) (a0_4 : Int) (a0_5 : Bool) (a0_6 : Int) (a0_7 : Int) (a0_8 : Int) (a0_9 : Int) (a0_10 : Bool) (a0_11 : ByteArray) (a0_12 : Int) (a1_0 : Int) (a1_1 : Int) (a1_2 : Int) (a1_3 : Int) (a1_4 : Int) (a1_5 : Bool) (a1_6 : Int) (a1_7 : Int) (a1_8 : Int) (a1_9 : Int) (a1_10 : Bool) (a1_11 : ByteArray) (a1_12 : Int) : Lim (fun k => impl_CompareHands.f k a0_0 a0_1 a0_2 a0_3 a0_4 a0_5 a0_6 a0_7 a0_8 a0_9 a0_10 a0_11 a0_12 a1_0 a1_1 a1_2 a1_3 a1_4 a1_5 a1_6 a1_7 a1_8 a1_9 a1_10 a1_11 a1_12) (impl_CompareHands.F a0_0 a0_1 a0_2 a0_3 a0_4 a0_5 a0_6 a0_7 a0_8 a0_9 a0_10 a0_11 a0_12 a1_0 a1_1 a1_2 a1_3 a1_4 a1_5 a1_6 a1_7 a1_8 a1_9 a1_10 a1_11 a1_12) := ⟨impl_CompareHands.mono a0_0 a0_1 a0_2 a0_3 a0_4 a0_5 a0_6 a0_7 a0_8 a0_9 a0_10 a0_11 a0_12 a1_0 a1_1 a1_2 a1_3 a1_4 a1_5 a1_6 a1_7 a1_8 a1_9 a1_10 a1_11 a1_12, rfl⟩
theorem impl_CompareHands.J0_eq (x13 : Bool) (x270000 : Int) (x270001 : Int) (x270002 : Int) (x270003 : Int) (x270004 : Int) (x270005 : Bool) (x270006 : Int) (x270007 : Int) (x270008 : Int) (x270009 : Int) (x270010 : Bool) (x270011 : ByteArray) (x270012 : Int) (x271000 : Int) (x271001 : Int) (x271002 : Int) (x271003 : Int) (x271004 : Int) (x271005 : Bool) (x271006 : Int) (x271007 : Int) (x271008 : Int) (x271009 : Int) (x271010 : Bool) (x271011 : ByteArray) (x271012 : Int) : impl_CompareHands.J0 x13 x270000 x270001 x270002 x270003 x270004 x270005 x270006 x270007 x270008 x270009 x270010 x270011 x270012 x271000 x271001 x271002 x271003 x271004 x271005 x271006 x271007 x271008 x271009 x271010 x271011 x271012 = (if x13 = true then (some (0, false)) else ((impl_Hand_text.F x270000 x270001 x270002 x270003 x270004 x270005 x270006 x270007 x270008 x270009 x270010 x270011 x270012).bind fun t273 => ((impl_Hand_text.F x271000 x271001 x271002 x271003 x271004 x271005 x271006 x271007 x271008 x271009 x271010 x271011 x271012).bind fun t274 => ((strings_Compare.f t273 t274).bind fun t275 => (some (t275, true)))))) := by
  refine Lim.succ_eq (impl_CompareHands.J0_lim x13 x270000 x270001 x270002 x270003 x270004 x270005 x270006 x270007 x270008 x270009 x270010 x270011 x270012 x271000 x271001 x271002 x271003 x271004 x271005 x271006 x271007 x271008 x271009 x271010 x271011 x271012).mon ?_
  simp only [impl_CompareHands.j0]
  repeat' first
  | (with_reducible exact impl_CompareHands.J0_lim _ _ _ _ _ _ _ _ _ _ _ _ _ _ _ _ _ _ _ _ _ _ _ _ _ _ _)
  | (with_reducible exact impl_Hand_text.F_lim _ _ _ _ _ _ _ _ _ _ _ _ _)
  | (with_reducible exact impl_IsHand.F_lim _ _ _ _ _ _ _ _ _ _ _ _ _)
  | (with_reducible refine Lim.ite ?_ ?_)
  | (with_reducible refine Lim.bind ?_ (fun _ => ?_))
  | (with_reducible exact Lim.const _)
theorem impl_CompareHands.F_eq (a0_0 : Int) (a0_1 : Int) (a0_2 : Int) (a0_3 : Int) (a0_4 : Int) (a0_5 : Bool) (a0_6 : Int) (a0_7 : Int) (a0_8 : Int) (a0_9 : Int) (a0_10 : Bool) (a0_11 : ByteArray) (a0_12 : Int) (a1_0 : Int) (a1_1 : Int) (a1_2 : Int) (a1_3 : Int) (a1_4 : Int) (a1_5 : Bool) (a1_6 : Int) (a1_7 : Int) (a1_8 : Int) (a1_9 : Int) (a1_10 : Bool) (a1_11 : ByteArray) (a1_12 : Int) : impl_CompareHands.F a0_0 a0_1 a0_2 a0_3 a0_4 a0_5 a0_6 a0_7 a0_8 a0_9 a0_10 a0_11 a0_12 a1_0 a1_1 a1_2 a1_3 a1_4 a1_5 a1_6 a1_7 a1_8 a1_9 a1_10 a1_11 a1_12 = ((impl_IsHand.F a0_0 a0_1 a0_2 a0_3 a0_4 a0_5 a0_6 a0_7 a0_8 a0_9 a0_10 a0_11 a0_12).bind fun t271 => (if t271 = true then ((impl_IsHand.F a1_0 a1_1 a1_2 a1_3 a1_4 a1_5 a1_6 a1_7 a1_8 a1_9 a1_10 a1_11 a1_12).bind fun t272 => (impl_CompareHands.J0 (!t272) a0_0 a0_1 a0_2 a0_3 a0_4 a0_5 a0_6 a0_7 a0_8 a0_9 a0_10 a0_11 a0_12 a1_0 a1_1 a1_2 a1_3 a1_4 a1_5 a1_6 a1_7 a1_8 a1_9 a1_10 a1_11 a1_12)) else (impl_CompareHands.J0 true a0_0 a0_1 a0_2 a0_3 a0_4 a0_5 a0_6 a0_7 a0_8 a0_9 a0_10 a0_11 a0_12 a1_0 a1_1 a1_2 a1_3 a1_4 a1_5 a1_6 a1_7 a1_8 a1_9 a1_10 a1_11 a1_12))) := by
  refine Lim.eq_ ?_
  simp only [impl_CompareHands.f]
  repeat' first
  | (with_reducible exact impl_CompareHands.J0_lim _ _ _ _ _ _ _ _ _ _ _ _ _ _ _ _ _ _ _ _ _ _ _ _ _ _ _)
  | (with_reducible exact impl_Hand_text.F_lim _ _ _ _ _ _ _ _ _ _ _ _ _)
  | (with_reducible exact impl_IsHand.F_lim _ _ _ _ _ _ _ _ _ _ _ _ _)
  | (with_reducible refine Lim.ite ?_ ?_)
  | (with_reducible refine Lim.bind ?_ (fun _ => ?_))
  | (with_reducible exact Lim.const _)
def laws_FnExactCompareHands.f (k : Nat) (a0_0 : Int) (a0_1 : Int) (a0_2 : Int) (a0_3 : Int) (a0_4 : Int) (a0_5 : Bool) (a0_6 : Int) (a0_7 : Int) (a0_8 : Int) (a0_9 : Int) (a0_10 : Bool) (a0_11 : ByteArray) (a0_12 : Int) (a1_0 : Int) (a1_1 : Int) (a1_2 : Int) (a1_3 : Int) (a1_4 : Int) (a1_5 : Bool) (a1_6 : Int) (a1_7 : Int) (a1_8 : Int) (a1_9 : Int) (a1_10 : Bool) (a1_11 : ByteArray) (a1_12 : Int) : Option (Bool) := (laws_szHand.f a0_0 a0_1 a0_2 a0_3 a0_4 a0_5 a0_6 a0_7 a0_8 a0_9 a0_10 a0_11 a0_12 1048576).bind fun t278 => (if t278 < 0 then (some true) else ((laws_szHand.f a1_0 a1_1 a1_2 a1_3 a1_4 a1_5 a1_6 a1_7 a1_8 a1_9 a1_10 a1_11 a1_12 t278).bind fun t279 => (if t279 < 0 then (some true) else ((laws_toHand.f a0_0 a0_1 a0_2 a0_3 a0_4 a0_5 a0_6 a0_7 a0_8 a0_9 a0_10 a0_11 a0_12).bind fun bt280 => ((laws_toHand.f a1_0 a1_1 a1_2 a1_3 a1_4 a1_5 a1_6 a1_7 a1_8 a1_9 a1_10 a1_11 a1_12).bind fun bt293 => ((spec_CompareHands.f k bt280.1 bt280.2.1 bt280.2.2.1 bt280.2.2.2.1 bt280.2.2.2.2.1 bt280.2.2.2.2.2.1 bt280.2.2.2.2.2.2.1 bt280.2.2.2.2.2.2.2.1 bt280.2.2.2.2.2.2.2.2.1 bt280.2.2.2.2.2.2.2.2.2.1 bt280.2.2.2.2.2.2.2.2.2.2.1 bt280.2.2.2.2.2.2.2.2.2.2.2.1 bt280.2.2.2.2.2.2.2.2.2.2.2.2 bt293.1 bt293.2.1 bt293.2.2.1 bt293.2.2.2.1 bt293.2.2.2.2.1 bt293.2.2.2.2.2.1 bt293.2.2.2.2.2.2.1 bt293.2.2.2.2.2.2.2.1 bt293.2.2.2.2.2.2.2.2.1 bt293.2.2.2.2.2.2.2.2.2.1 bt293.2.2.2.2.2.2.2.2.2.2.1 bt293.2.2.2.2.2.2.2.2.2.2.2.1 bt293.2.2.2.2.2.2.2.2.2.2.2.2).bind fun bt306 => ((laws_toHand.f a0_0 a0_1 a0_2 a0_3 a0_4 a0_5 a0_6 a0_7 a0_8 a0_9 a0_10 a0_11 a0_12).bind fun bt308 => ((laws_toHand.f a1_0 a1_1 a1_2 a1_3 a1_4 a1_5 a1_6 a1_7 a1_8 a1_9 a1_10 a1_11 a1_12).bind fun bt321 => ((impl_CompareHands.f k bt308.1 bt308.2.1 bt308.2.2.1 bt308.2.2.2.1 bt308.2.2.2.2.1 bt308.2.2.2.2.2.1 bt308.2.2.2.2.2.2.1 bt308.2.2.2.2.2.2.2.1 bt308.2.2.2.2.2.2.2.2.1 bt308.2.2.2.2.2.2.2.2.2.1 bt308.2.2.2.2.2.2.2.2.2.2.1 bt308.2.2.2.2.2.2.2.2.2.2.2.1 bt308.2.2.2.2.2.2.2.2.2.2.2.2 bt321.1 bt321.2.1 bt321.2.2.1 bt321.2.2.2.1 bt321.2.2.2.2.1 bt321.2.2.2.2.2.1 bt321.2.2.2.2.2.2.1 bt321.2.2.2.2.2.2.2.1 bt321.2.2.2.2.2.2.2.2.1 bt321.2.2.2.2.2.2.2.2.2.1 bt321.2.2.2.2.2.2.2.2.2.2.1 bt321.2.2.2.2.2.2.2.2.2.2.2.1 bt321.2.2.2.2.2.2.2.2.2.2.2.2).bind fun bt334 => (if bt334.1 = bt306.1 then (if (bt334.2 != bt306.2) = true then (some false) else (some true)) else (some false)))))))))))
theorem laws_FnExactCompareHands.mono : ∀ a0 a1 a2 a3 a4 a5 a6 a7 a8 a9 a10 a11 a12 a13 a14 a15 a16 a17 a18 a19 a20 a21 a22 a23 a24 a25 k, LeO (laws_FnExactCompareHands.f k a0 a1 a2 a3 a4 a5 a6 a7 a8 a9 a10 a11 a12 a13 a14 a15 a16 a17 a18 a19 a20 a21 a22 a23 a24 a25) (laws_FnExactCompareHands.f (k + 1) a0 a1 a2 a3 a4 a5 a6 a7 a8 a9 a10 a11 a12 a13 a14 a15 a16 a17 a18 a19 a20 a21 a22 a23 a24 a25) := by
  intro a0 a1 a2 a3 a4 a5 a6 a7 a8 a9 a10 a11 a12 a13 a14 a15 a16 a17 a18 a19 a20 a21 a22 a23 a24 a25 k
  unfold laws_FnExactCompareHands.f
  repeat' first
      | (with_reducible exact impl_CompareHands.mono _ _ _ _ _ _ _ _ _ _ _ _ _ _ _ _ _ _ _ _ _ _ _ _ _ _ _)
      | (with_reducible exact spec_CompareHands.mono _ _ _ _ _ _ _ _ _ _ _ _ _ _ _ _ _ _ _ _ _ _ _ _ _ _ _)
      | (with_reducible exact LeO.refl _)
      | (with_reducible exact LeO.none _)
      | (with_reducible refine LeO.ite ?_ ?_)
      | (with_reducible refine LeO.bind ?_ (fun _ => ?_))
      | exact impl_CompareHands.mono _ _ _ _ _ _ _ _ _ _ _ _ _ _ _ _ _ _ _ _ _ _ _ _ _ _ _
      | exact spec_CompareHands.mono _ _ _ _ _ _ _ _ _ _ _ _ _ _ _ _ _ _ _ _ _ _ _ _ _ _ _
      | exact LeO.none _
      | refine LeO.ite ?_ ?_
      | refine LeO.bind ?_ (fun _ => ?_)
noncomputable def laws_FnExactCompareHands.F (a0_0 : Int) (a0_1 : Int) (a0_2 : Int) (a0_3 : Int) (a0_4 : Int) (a0_5 : Bool) (a0_6 : Int) (a0_7 : Int) (a0_8 : Int) (a0_9 : Int) (a0_10 : Bool) (a0_11 : ByteArray) (a0_12 : Int) (a1_0 : Int) (a1_1 : Int) (a1_2 : Int) (a1_3 : Int) (a1_4 : Int) (a1_5 : Bool) (a1_6 : Int) (a1_7 : Int) (a1_8 : Int) (a1_9 : Int) (a1_10 : Bool) (a1_11 : ByteArray) (a1_12 : Int) : Option (Bool) := lim fun k => laws_FnExactCompareHands.f k a0_0 a0_1 a0_2 a0_3 a0_4 a0_5 a0_6 a0_7 a0_8 a0_9 a0_10 a0_11 a0_12 a1_0 a1_1 a1_2 a1_3 a1_4 a1_5 a1_6 a1_7 a1_8 a1_9 a1_10 a1_11 a1_12
theorem laws_FnExactCompareHands.F_lim (a0_0 : Int) (a0_1 : Int) (a0_2 : Int) (a0_3 : Int) (a0_4 : Int) (a0_5 : Bool) (a0_6 : Int) (a0_7 : Int) (a0_8 : Int) (a0_9 : Int) (a0_10 : Bool) (a0_11 : ByteArray) (a0_12 : Int) (a1_0 : Int) (a1_1 : Int) (a1_2 : Int) (a1_3 : Int) (a1_4 : Int) (a1_5 : Bool) (a1_6 : Int) (a1_7 : Int) (a1_8 : Int) (a1_9 : Int) (a1_10 : Bool) (a1_11 : ByteArray) (a1_12 : Int) : Lim (fun k => laws_FnExactCompareHands.f k a0_0 a0_1 a0_2 a0_3 a0_4 a0_5 a0_6 a0_7 a0_8 a0_9 a0_10 a0_11 a0_12 a1_0 a1_1 a1_2 a1_3 a1_4 a1_5 a1_6 a1_7 a1_8 a1_9 a1_10 a1_11 a1_12) (laws_FnExactCompareHands.F a0_0 a0_1 a0_2 a0_3 a0_4 a0_5 a0_6 a0_7 a0_8 a0_9 a0_10 a0_11 a0_12 a1_0 a1_1 a1_2 a1_3 a1_4 a1_5 a1_6 a1_7 a1_8 a1_9 a1_10 a1_11 a1_12) := ⟨laws_FnExactCompareHands.mono a0_0 a0_1 a0_2 a0_3 a0_4 a0_5 a0_6 a0_7 a0_8 a0_9 a0_10 a0_11 a0_12 a1_0 a1_1 a1_2 a1_3 a1_4 a1_5 a1_6 a1_7 a1_8 a1_9 a1_10 a1_11 a1_12, rfl⟩
theorem laws_FnExactCompareHands.F_eq (a0_0 : Int) (a0_1 : Int) (a0_2 : Int) (a0_3 : Int) (a0_4 : Int) (a0_5 : Bool) (a0_6 : Int) (a0_7 : Int) (a0_8 : Int) (a0_9 : Int) (a0_10 : Bool) (a0_11 : ByteArray) (a0_12 : Int) (a1_0 : Int) (a1_1 : Int) (a1_2 : Int) (a1_3 : Int) (a1_4 : Int) (a1_5 : Bool) (a1_6 : Int) (a1_7 : Int) (a1_8 : Int) (a1_9 : Int) (a1_10 : Bool) (a1_11 : ByteArray) (a1_12 : Int) : laws_FnExactCompareHands.F a0_0 a0_1 a0_2 a0_3 a0_4 a0_5 a0_6 a0_7 a0_8 a0_9 a0_10 a0_11 a0_12 a1_0 a1_1 a1_2 a1_3 a1_4 a1_5 a1_6 a1_7 a1_8 a1_9 a1_10 a1_11 a1_12 = ((laws_szHand.f a0_0 a0_1 a0_2 a0_3 a0_4 a0_5 a0_6 a0_7 a0_8 a0_9 a0_10 a0_11 a0_12 1048576).bind fun t278 => (if t278 < 0 then (some true) else ((laws_szHand.f a1_0 a1_1 a1_2 a1_3 a1_4 a1_5 a1_6 a1_7 a1_8 a1_9 a1_10 a1_11 a1_12 t278).bind fun t279 => (if t279 < 0 then (some true) else ((laws_toHand.f a0_0 a0_1 a0_2 a0_3 a0_4 a0_5 a0_6 a0_7 a0_8 a0_9 a0_10 a0_11 a0_12).bind fun bt280 => ((laws_toHand.f a1_0 a1_1 a1_2 a1_3 a1_4 a1_5 a1_6 a1_7 a1_8 a1_9 a1_10 a1_11 a1_12).bind fun bt293 => ((spec_CompareHands.F bt280.1 bt280.2.1 bt280.2.2.1 bt280.2.2.2.1 bt280.2.2.2.2.1 bt280.2.2.2.2.2.1 bt280.2.2.2.2.2.2.1 bt280.2.2.2.2.2.2.2.1 bt280.2.2.2.2.2.2.2.2.1 bt280.2.2.2.2.2.2.2.2.2.1 bt280.2.2.2.2.2.2.2.2.2.2.1 bt280.2.2.2.2.2.2.2.2.2.2.2.1 bt280.2.2.2.2.2.2.2.2.2.2.2.2 bt293.1 bt293.2.1 bt293.2.2.1 bt293.2.2.2.1 bt293.2.2.2.2.1 bt293.2.2.2.2.2.1 bt293.2.2.2.2.2.2.1 bt293.2.2.2.2.2.2.2.1 bt293.2.2.2.2.2.2.2.2.1 bt293.2.2.2.2.2.2.2.2.2.1 bt293.2.2.2.2.2.2.2.2.2.2.1 bt293.2.2.2.2.2.2.2.2.2.2.2.1 bt293.2.2.2.2.2.2.2.2.2.2.2.2).bind fun bt306 => ((laws_toHand.f a0_0 a0_1 a0_2 a0_3 a0_4 a0_5 a0_6 a0_7 a0_8 a0_9 a0_10 a0_11 a0_12).bind fun bt308 => ((laws_toHand.f a1_0 a1_1 a1_2 a1_3 a1_4 a1_5 a1_6 a1_7 a1_8 a1_9 a1_10 a1_11 a1_12).bind fun bt321 => ((impl_CompareHands.F bt308.1 bt308.2.1 bt308.2.2.1 bt308.2.2.2.1 bt308.2.2.2.2.1 bt308.2.2.2.2.2.1 bt308.2.2.2.2.2.2.1 bt308.2.2.2.2.2.2.2.1 bt308.2.2.2.2.2.2.2.2.1 bt308.2.2.2.2.2.2.2.2.2.1 bt308.2.2.2.2.2.2.2.2.2.2.1 bt308.2.2.2.2.2.2.2.2.2.2.2.1 bt308.2.2.2.2.2.2.2.2.2.2.2.2 bt321.1 bt321.2.1 bt321.2.2.1 bt321.2.2.2.1 bt321.2.2.2.2.1 bt321.2.2.2.2.2.1 bt321.2.2.2.2.2.2.1 bt321.2.2.2.2.2.2.2.1 bt321.2.2.2.2.2.2.2.2.1 bt321.2.2.2.2.2.2.2.2.2.1 bt321.2.2.2.2.2.2.2.2.2.2.1 bt321.2.2.2.2.2.2.2.2.2.2.2.1 bt321.2.2.2.2.2.2.2.2.2.2.2.2).bind fun bt334 => (if bt334.1 = bt306.1 then (if (bt334.2 != bt306.2) = true then (some false) else (some true)) else (some false)))))))))))) := by
  refine Lim.eq_ ?_
  simp only [laws_FnExactCompareHands.f]
  repeat' first
  | (with_reducible exact impl_CompareHands.F_lim _ _ _ _ _ _ _ _ _ _ _ _ _ _ _ _ _ _ _ _ _ _ _ _ _ _)
  | (with_reducible exact spec_CompareHands.F_lim _ _ _ _ _ _ _ _ _ _ _ _ _ _ _ _ _ _ _ _ _ _ _ _ _ _)
  | (with_reducible refine Lim.ite ?_ ?_)
  | (with_reducible refine Lim.bind ?_ (fun _ => ?_))
  | (with_reducible exact Lim.const _)
def Wf23 (x : S23) : Prop := (Lit.int .i64 x.f0).wf = true ∧ (Lit.int .i64 x.f1).wf = true ∧ (Lit.int .i64 x.f2).wf = true ∧ (Lit.int .i64 x.f3).wf = true ∧ (Lit.int .i64 x.f4).wf = true ∧ True
def Wf25 (x : S25) : Prop := (Lit.int .i64 x.f0).wf = true ∧ (Lit.int .i64 x.f1).wf = true
def Wf27 (x : S27) : Prop := (Lit.int .i64 x.f0).wf = true ∧ (Lit.int .i64 x.f1).wf = true ∧ True
def Wf29 (x : S29) : Prop := x.f0.size ≤ 9223372036854775807 ∧ (Lit.int .i64 x.f1).wf = true
def Wf31 (x : S31) : Prop := Wf23 x.f0 ∧ Wf25 x.f1 ∧ Wf27 x.f2 ∧ Wf29 x.f3
def laws_FnExactCompareHands.Pure : Prop := ∀ (a0_0 : Int) (a0_1 : Int) (a0_2 : Int) (a0_3 : Int) (a0_4 : Int) (a0_5 : Bool) (a0_6 : Int) (a0_7 : Int) (a0_8 : Int) (a0_9 : Int) (a0_10 : Bool) (a0_11 : ByteArray) (a0_12 : Int) (a1_0 : Int) (a1_1 : Int) (a1_2 : Int) (a1_3 : Int) (a1_4 : Int) (a1_5 : Bool) (a1_6 : Int) (a1_7 : Int) (a1_8 : Int) (a1_9 : Int) (a1_10 : Bool) (a1_11 : ByteArray) (a1_12 : Int), Wf31 (⟨(⟨a0_0, a0_1, a0_2, a0_3, a0_4, a0_5⟩ : S23), (⟨a0_6, a0_7⟩ : S25), (⟨a0_8, a0_9, a0_10⟩ : S27), (⟨a0_11, a0_12⟩ : S29)⟩ : S31) → Wf31 (⟨(⟨a1_0, a1_1, a1_2, a1_3, a1_4, a1_5⟩ : S23), (⟨a1_6, a1_7⟩ : S25), (⟨a1_8, a1_9, a1_10⟩ : S27), (⟨a1_11, a1_12⟩ : S29)⟩ : S31) → ∃ k, laws_FnExactCompareHands.f k a0_0 a0_1 a0_2 a0_3 a0_4 a0_5 a0_6 a0_7 a0_8 a0_9 a0_10 a0_11 a0_12 a1_0 a1_1 a1_2 a1_3 a1_4 a1_5 a1_6 a1_7 a1_8 a1_9 a1_10 a1_11 a1_12 = some true
end Go.Proofs.YtmffndjbpealmaaDoor.PFnExactCompareHands
