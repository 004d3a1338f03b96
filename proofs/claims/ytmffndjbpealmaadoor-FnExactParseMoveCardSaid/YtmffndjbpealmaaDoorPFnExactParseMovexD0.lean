/- Written by a program of this claim's author, out of the loaded program as Lean prints it: the functions as Lean functions, and that the calls answer so. -/
import Derived.Test.YtmffndjbpealmaaDoorPFnExactParseMovex0
namespace Go.Proofs.YtmffndjbpealmaaDoor.PFnExactParseMove
open Go.RowKit Go.Proofs.YtmffndjbpealmaaDoorW.PrintWords Go.Proofs.YtmffndjbpealmaaDoorW.PrintLast Go.Proofs.YtmffndjbpealmaaDoorW.PrintMore
attribute [local go_sem] max2_int min2_int max_two min_two max_three min_three max_four min_four   -- for this text's walks alone
set_option linter.unusedVariables false
set_option linter.unusedSimpArgs false

def spec_l1In.f (a0 : Int) (a1 : Int) (a2 : Int) : Option (Bool) := if a0 ≥ a1 then (some (decide (a0 ≤ a2))) else (some false)
def spec_mvLetters.f  : Option (ByteArray) := some (⟨#[117, 100, 108, 114, 102, 98]⟩ : ByteArray)
def spec_mvIndex.l0 : Nat → Int → Int → Option (Int)
  | 0, _, _ => none
  | k + 1, x0, x3 => (spec_mvLetters.f).bind fun t101 => (if x3 < (t101.size : Int) then ((spec_mvLetters.f).bind fun t102 => (if 0 ≤ x3 then (if x3 < (t102.size : Int) then (if (bt t102 x3) = x0 then (some x3) else (spec_mvIndex.l0 k x0 (wrap64 (x3 + 1)))) else (none)) else (none))) else (some (-1)))
def spec_mvIndex.f (k : Nat) (a0 : Int) : Option (Int) := spec_mvIndex.l0 k a0 0
theorem spec_mvIndex.mono_l : ∀ k, (∀ y0 y1, LeO (spec_mvIndex.l0 k y0 y1) (spec_mvIndex.l0 (k + 1) y0 y1))
  | 0 => fun _ _ r h => by simp [spec_mvIndex.l0] at h
  | k + 1 => by
    have ih0 := spec_mvIndex.mono_l k
    · intro y0 y1
      unfold spec_mvIndex.l0
      repeat' first
      | (with_reducible exact ih0 _ _)
      | (with_reducible exact LeO.refl _)
      | (with_reducible exact LeO.none _)
      | (with_reducible refine LeO.ite ?_ ?_)
      | (with_reducible refine LeO.bind ?_ (fun _ => ?_))
      | exact ih0 _ _
      | exact LeO.none _
      | refine LeO.ite ?_ ?_
      | refine LeO.bind ?_ (fun _ => ?_)
theorem spec_mvIndex.mono : ∀ a0 k, LeO (spec_mvIndex.f k a0) (spec_mvIndex.f (k + 1) a0) := by
  intro a0 k
  have ih0 := spec_mvIndex.mono_l k
  unfold spec_mvIndex.f
  repeat' first
      | (with_reducible exact ih0 _ _)
      | (with_reducible exact LeO.refl _)
      | (with_reducible exact LeO.none _)
      | (with_reducible refine LeO.ite ?_ ?_)
      | (with_reducible refine LeO.bind ?_ (fun _ => ?_))
      | exact ih0 _ _
      | exact LeO.none _
      | refine LeO.ite ?_ ?_
      | refine LeO.bind ?_ (fun _ => ?_)
noncomputable def spec_mvIndex.L0 (x0 : Int) (x3 : Int) : Option (Int) := lim fun k => spec_mvIndex.l0 k x0 x3
theorem spec_mvIndex.L0_lim (x0 : Int) (x3 : Int) : Lim (fun k => spec_mvIndex.l0 k x0 x3) (spec_mvIndex.L0 x0 x3) := ⟨fun k => (spec_mvIndex.mono_l k) x0 x3, rfl⟩
noncomputable def spec_mvIndex.F (a0 : Int) : Option (Int) := lim fun k => spec_mvIndex.f k a0
theorem spec_mvIndex.F_lim (a0 : Int) : Lim (fun k => spec_mvIndex.f k a0) (spec_mvIndex.F a0) := ⟨spec_mvIndex.mono a0, rfl⟩
theorem spec_mvIndex.L0_eq (x0 : Int) (x3 : Int) : spec_mvIndex.L0 x0 x3 = ((spec_mvLetters.f).bind fun t101 => (if x3 < (t101.size : Int) then ((spec_mvLetters.f).bind fun t102 => (if 0 ≤ x3 then (if x3 < (t102.size : Int) then (if (bt t102 x3) = x0 then (some x3) else (spec_mvIndex.L0 x0 (wrap64 (x3 + 1)))) else (none)) else (none))) else (some (-1)))) := by
  refine Lim.succ_eq (spec_mvIndex.L0_lim x0 x3).mon ?_
  simp only [spec_mvIndex.l0]
  repeat' first
  | (with_reducible exact spec_mvIndex.L0_lim _ _)
  | (with_reducible refine Lim.ite ?_ ?_)
  | (with_reducible refine Lim.bind ?_ (fun _ => ?_))
  | (with_reducible exact Lim.const _)
theorem spec_mvIndex.F_eq (a0 : Int) : spec_mvIndex.F a0 = (spec_mvIndex.L0 a0 0) := by
  refine Lim.eq_ ?_
  simp only [spec_mvIndex.f]
  repeat' first
  | (with_reducible exact spec_mvIndex.L0_lim _ _)
  | (with_reducible refine Lim.ite ?_ ?_)
  | (with_reducible refine Lim.bind ?_ (fun _ => ?_))
  | (with_reducible exact Lim.const _)
def spec_mvSteps.l0 : Nat → ByteArray → Int → Option (Bool)
  | 0, _, _ => none
  | k + 1, x0, x3 => if x3 < (x0.size : Int) then (if 0 ≤ x3 then ((spec_mvIndex.f k (bt x0 x3)).bind fun t103 => (if t103 < 0 then (some false) else (spec_mvSteps.l0 k x0 (wrap64 (x3 + 1))))) else (none)) else (some true)
def spec_mvSteps.f (k : Nat) (a0 : ByteArray) : Option (Bool) := spec_mvSteps.l0 k a0 0
theorem spec_mvSteps.mono_l : ∀ k, (∀ y0 y1, LeO (spec_mvSteps.l0 k y0 y1) (spec_mvSteps.l0 (k + 1) y0 y1))
  | 0 => fun _ _ r h => by simp [spec_mvSteps.l0] at h
  | k + 1 => by
    have ih0 := spec_mvSteps.mono_l k
    · intro y0 y1
      unfold spec_mvSteps.l0
      repeat' first
      | (with_reducible exact ih0 _ _)
      | (with_reducible exact spec_mvIndex.mono _ _)
      | (with_reducible exact LeO.refl _)
      | (with_reducible exact LeO.none _)
      | (with_reducible refine LeO.ite ?_ ?_)
      | (with_reducible refine LeO.bind ?_ (fun _ => ?_))
      | exact ih0 _ _
      | exact spec_mvIndex.mono _ _
      | exact LeO.none _
      | refine LeO.ite ?_ ?_
      | refine LeO.bind ?_ (fun _ => ?_)
theorem spec_mvSteps.mono : ∀ a0 k, LeO (spec_mvSteps.f k a0) (spec_mvSteps.f (k + 1) a0) := by
  intro a0 k
  have ih0 := spec_mvSteps.mono_l k
  unfold spec_mvSteps.f
  repeat' first
      | (with_reducible exact ih0 _ _)
      | (with_reducible exact spec_mvIndex.mono _ _)
      | (with_reducible exact LeO.refl _)
      | (with_reducible exact LeO.none _)
      | (with_reducible refine LeO.ite ?_ ?_)
      | (with_reducible refine LeO.bind ?_ (fun _ => ?_))
      | exact ih0 _ _
      | exact spec_mvIndex.mono _ _
      | exact LeO.none _
      | refine LeO.ite ?_ ?_
      | refine LeO.bind ?_ (fun _ => ?_)
noncomputable def spec_mvSteps.L0 (x0 : ByteArray) (x3 : Int) : Option (Bool) := lim fun k => spec_mvSteps.l0 k x0 x3
theorem spec_mvSteps.L0_lim (x0 : ByteArray) (x3 : Int) : Lim (fun k => spec_mvSteps.l0 k x0 x3) (spec_mvSteps.L0 x0 x3) := ⟨fun k => (spec_mvSteps.mono_l k) x0 x3, rfl⟩
noncomputable def spec_mvSteps.F (a0 : ByteArray) : Option (Bool) := lim fun k => spec_mvSteps.f k a0
theorem spec_mvSteps.F_lim (a0 : ByteArray) : Lim (fun k => spec_mvSteps.f k a0) (spec_mvSteps.F a0) := ⟨spec_mvSteps.mono a0, rfl⟩
theorem spec_mvSteps.L0_eq (x0 : ByteArray) (x3 : Int) : spec_mvSteps.L0 x0 x3 = (if x3 < (x0.size : Int) then (if 0 ≤ x3 then ((spec_mvIndex.F (bt x0 x3)).bind fun t103 => (if t103 < 0 then (some false) else (spec_mvSteps.L0 x0 (wrap64 (x3 + 1))))) else (none)) else (some true)) := by
  refine Lim.succ_eq (spec_mvSteps.L0_lim x0 x3).mon ?_
  simp only [spec_mvSteps.l0]
  repeat' first
  | (with_reducible exact spec_mvSteps.L0_lim _ _)
  | (with_reducible exact spec_mvIndex.F_lim _)
  | (with_reducible refine Lim.ite ?_ ?_)
  | (with_reducible refine Lim.bind ?_ (fun _ => ?_))
  | (with_reducible exact Lim.const _)
theorem spec_mvSteps.F_eq (a0 : ByteArray) : spec_mvSteps.F a0 = (spec_mvSteps.L0 a0 0) := by
  refine Lim.eq_ ?_
  simp only [spec_mvSteps.f]
  repeat' first
  | (with_reducible exact spec_mvSteps.L0_lim _ _)
  | (with_reducible exact spec_mvIndex.F_lim _)
  | (with_reducible refine Lim.ite ?_ ?_)
  | (with_reducible refine Lim.bind ?_ (fun _ => ?_))
  | (with_reducible exact Lim.const _)
def spec_mvGood.f (k : Nat) (a0_0 : ByteArray) (a0_1 : Int) : Option (Bool) := if (a0_0.size : Int) ≤ 6 then ((spec_mvSteps.f k a0_0).bind fun t105 => (if t105 = true then ((spec_l1In.f a0_1 1 3).bind fun t106 => (if t106 = true then (if a0_0.toList = ([] : List UInt8) then (some (a0_1 == 1)) else (some true)) else (some false))) else (some false))) else (some false)
theorem spec_mvGood.mono : ∀ a0 a1 k, LeO (spec_mvGood.f k a0 a1) (spec_mvGood.f (k + 1) a0 a1) := by
  intro a0 a1 k
  unfold spec_mvGood.f
  repeat' first
      | (with_reducible exact spec_mvSteps.mono _ _)
      | (with_reducible exact LeO.refl _)
      | (with_reducible exact LeO.none _)
      | (with_reducible refine LeO.ite ?_ ?_)
      | (with_reducible refine LeO.bind ?_ (fun _ => ?_))
      | exact spec_mvSteps.mono _ _
      | exact LeO.none _
      | refine LeO.ite ?_ ?_
      | refine LeO.bind ?_ (fun _ => ?_)
noncomputable def spec_mvGood.F (a0_0 : ByteArray) (a0_1 : Int) : Option (Bool) := lim fun k => spec_mvGood.f k a0_0 a0_1
theorem spec_mvGood.F_lim (a0_0 : ByteArray) (a0_1 : Int) : Lim (fun k => spec_mvGood.f k a0_0 a0_1) (spec_mvGood.F a0_0 a0_1) := ⟨spec_mvGood.mono a0_0 a0_1, rfl⟩
theorem spec_mvGood.F_eq (a0_0 : ByteArray) (a0_1 : Int) : spec_mvGood.F a0_0 a0_1 = (if (a0_0.size : Int) ≤ 6 then ((spec_mvSteps.F a0_0).bind fun t105 => (if t105 = true then ((spec_l1In.f a0_1 1 3).bind fun t106 => (if t106 = true then (if a0_0.toList = ([] : List UInt8) then (some (a0_1 == 1)) else (some true)) else (some false))) else (some false))) else (some false)) := by
  refine Lim.eq_ ?_
  simp only [spec_mvGood.f]
  repeat' first
  | (with_reducible exact spec_mvSteps.F_lim _)
  | (with_reducible refine Lim.ite ?_ ?_)
  | (with_reducible refine Lim.bind ?_ (fun _ => ?_))
  | (with_reducible exact Lim.const _)
def spec_l1Num.f : Nat → Int → Option (ByteArray)
  | 0, _ => none
  | k + 1, a0 => if a0 < 10 then (some (strOfNums (([(wrap64 (48 + a0)) % 256] : List Int)))) else ((spec_l1Num.f k (wrap64 (Int.tdiv a0 10))).bind fun t110 => ((some (([(wrap64 (48 + (Int.tmod a0 10))) % 256] : List Int) : List Int)).bind fun y111 => (if t110.size + (strOfNums y111).size ≤ 9223372036854775807 then (some (t110 ++ (strOfNums y111))) else (none))))
theorem spec_l1Num.mono_l : ∀ k, (∀ y0, LeO (spec_l1Num.f k y0) (spec_l1Num.f (k + 1) y0))
  | 0 => fun _ r h => by simp [spec_l1Num.f] at h
  | k + 1 => by
    have ih0 := spec_l1Num.mono_l k
    · intro y0
      unfold spec_l1Num.f
      repeat' first
      | (with_reducible exact ih0 _)
      | (with_reducible exact LeO.refl _)
      | (with_reducible exact LeO.none _)
      | (with_reducible refine LeO.ite ?_ ?_)
      | (with_reducible refine LeO.bind ?_ (fun _ => ?_))
      | exact ih0 _
      | exact LeO.none _
      | refine LeO.ite ?_ ?_
      | refine LeO.bind ?_ (fun _ => ?_)
theorem spec_l1Num.mono : ∀ a0 k, LeO (spec_l1Num.f k a0) (spec_l1Num.f (k + 1) a0) := by
  intro a0 k
  have ih0 := spec_l1Num.mono_l k
  exact ih0 a0
noncomputable def spec_l1Num.F (a0 : Int) : Option (ByteArray) := lim fun k => spec_l1Num.f k a0
theorem spec_l1Num.F_lim (a0 : Int) : Lim (fun k => spec_l1Num.f k a0) (spec_l1Num.F a0) := ⟨spec_l1Num.mono a0, rfl⟩
theorem spec_l1Num.F_eq (a0 : Int) : spec_l1Num.F a0 = (if a0 < 10 then (some (strOfNums (([(wrap64 (48 + a0)) % 256] : List Int)))) else ((spec_l1Num.F (wrap64 (Int.tdiv a0 10))).bind fun t110 => ((some (([(wrap64 (48 + (Int.tmod a0 10))) % 256] : List Int) : List Int)).bind fun y111 => (if t110.size + (strOfNums y111).size ≤ 9223372036854775807 then (some (t110 ++ (strOfNums y111))) else (none))))) := by
  refine Lim.succ_eq (spec_l1Num.F_lim a0).mon ?_
  simp only [spec_l1Num.f]
  repeat' first
  | (with_reducible exact spec_l1Num.F_lim _)
  | (with_reducible refine Lim.ite ?_ ?_)
  | (with_reducible refine Lim.bind ?_ (fun _ => ?_))
  | (with_reducible exact Lim.const _)
def spec_mvText.f (k : Nat) (a0_0 : ByteArray) (a0_1 : Int) : Option (ByteArray) := if a0_0.toList = ([] : List UInt8) then (some (⟨#[45]⟩ : ByteArray)) else (if a0_1 > 1 then (if a0_0.size + 1 ≤ 9223372036854775807 then ((spec_l1Num.f k a0_1).bind fun t115 => (if (a0_0 ++ (⟨#[42]⟩ : ByteArray)).size + t115.size ≤ 9223372036854775807 then (some ((a0_0 ++ (⟨#[42]⟩ : ByteArray)) ++ t115)) else (none))) else (none)) else (some a0_0))
theorem spec_mvText.mono : ∀ a0 a1 k, LeO (spec_mvText.f k a0 a1) (spec_mvText.f (k + 1) a0 a1) := by
  intro a0 a1 k
  unfold spec_mvText.f
  repeat' first
      | (with_reducible exact spec_l1Num.mono _ _)
      | (with_reducible exact LeO.refl _)
      | (with_reducible exact LeO.none _)
      | (with_reducible refine LeO.ite ?_ ?_)
      | (with_reducible refine LeO.bind ?_ (fun _ => ?_))
      | exact spec_l1Num.mono _ _
      | exact LeO.none _
      | refine LeO.ite ?_ ?_
      | refine LeO.bind ?_ (fun _ => ?_)
noncomputable def spec_mvText.F (a0_0 : ByteArray) (a0_1 : Int) : Option (ByteArray) := lim fun k => spec_mvText.f k a0_0 a0_1
theorem spec_mvText.F_lim (a0_0 : ByteArray) (a0_1 : Int) : Lim (fun k => spec_mvText.f k a0_0 a0_1) (spec_mvText.F a0_0 a0_1) := ⟨spec_mvText.mono a0_0 a0_1, rfl⟩
theorem spec_mvText.F_eq (a0_0 : ByteArray) (a0_1 : Int) : spec_mvText.F a0_0 a0_1 = (if a0_0.toList = ([] : List UInt8) then (some (⟨#[45]⟩ : ByteArray)) else (if a0_1 > 1 then (if a0_0.size + 1 ≤ 9223372036854775807 then ((spec_l1Num.F a0_1).bind fun t115 => (if (a0_0 ++ (⟨#[42]⟩ : ByteArray)).size + t115.size ≤ 9223372036854775807 then (some ((a0_0 ++ (⟨#[42]⟩ : ByteArray)) ++ t115)) else (none))) else (none)) else (some a0_0))) := by
  refine Lim.eq_ ?_
  simp only [spec_mvText.f]
  repeat' first
  | (with_reducible exact spec_l1Num.F_lim _)
  | (with_reducible refine Lim.ite ?_ ?_)
  | (with_reducible refine Lim.bind ?_ (fun _ => ?_))
  | (with_reducible exact Lim.const _)
def spec_l1Split.l0 : Nat → ByteArray → Int → List ByteArray → Int → Int → Option (List ByteArray)
  | 0, _, _, _, _, _ => none
  | k + 1, x0, x1, x5, x6, x7 => if x7 < (x0.size : Int) then (if 0 ≤ x7 then (if (bt x0 x7) = x1 then (if 0 ≤ x6 then (if x6 ≤ x7 then (if x7 ≤ (x0.size : Int) then (if x5.length < 8796093022208 then (spec_l1Split.l0 k x0 x1 (x5 ++ [x0.extract (x6 : Int).toNat (x7 : Int).toNat]) (wrap64 (x7 + 1)) (wrap64 (x7 + 1))) else (none)) else (none)) else (none)) else (none)) else (spec_l1Split.l0 k x0 x1 x5 x6 (wrap64 (x7 + 1)))) else (none)) else (if 0 ≤ x6 then (if x6 ≤ (x0.size : Int) then (if x5.length < 8796093022208 then (some (x5 ++ [x0.extract (x6 : Int).toNat x0.size])) else (none)) else (none)) else (none))
def spec_l1Split.f (k : Nat) (a0 : ByteArray) (a1 : Int) : Option (List ByteArray) := spec_l1Split.l0 k a0 a1 ([] : List ByteArray) 0 0
theorem spec_l1Split.mono_l : ∀ k, (∀ y0 y1 y2 y3 y4, LeO (spec_l1Split.l0 k y0 y1 y2 y3 y4) (spec_l1Split.l0 (k + 1) y0 y1 y2 y3 y4))
  | 0 => fun _ _ _ _ _ r h => by simp [spec_l1Split.l0] at h
  | k + 1 => by
    have ih0 := spec_l1Split.mono_l k
    · intro y0 y1 y2 y3 y4
      unfold spec_l1Split.l0
      repeat' first
      | (with_reducible exact ih0 _ _ _ _ _)
      | (with_reducible exact LeO.refl _)
      | (with_reducible exact LeO.none _)
      | (with_reducible refine LeO.ite ?_ ?_)
      | (with_reducible refine LeO.bind ?_ (fun _ => ?_))
      | exact ih0 _ _ _ _ _
      | exact LeO.none _
      | refine LeO.ite ?_ ?_
      | refine LeO.bind ?_ (fun _ => ?_)
theorem spec_l1Split.mono : ∀ a0 a1 k, LeO (spec_l1Split.f k a0 a1) (spec_l1Split.f (k + 1) a0 a1) := by
  intro a0 a1 k
  have ih0 := spec_l1Split.mono_l k
  unfold spec_l1Split.f
  repeat' first
      | (with_reducible exact ih0 _ _ _ _ _)
      | (with_reducible exact LeO.refl _)
      | (with_reducible exact LeO.none _)
      | (with_reducible refine LeO.ite ?_ ?_)
      | (with_reducible refine LeO.bind ?_ (fun _ => ?_))
      | exact ih0 _ _ _ _ _
      | exact LeO.none _
      | refine LeO.ite ?_ ?_
      | refine LeO.bind ?_ (fun _ => ?_)
noncomputable def spec_l1Split.L0 (x0 : ByteArray) (x1 : Int) (x5 : List ByteArray) (x6 : Int) (x7 : Int) : Option (List ByteArray) := lim fun k => spec_l1Split.l0 k x0 x1 x5 x6 x7
theorem spec_l1Split.L0_lim (x0 : ByteArray) (x1 : Int) (x5 : List ByteArray) (x6 : Int) (x7 : Int) : Lim (fun k => spec_l1Split.l0 k x0 x1 x5 x6 x7) (spec_l1Split.L0 x0 x1 x5 x6 x7) := ⟨fun k => (spec_l1Split.mono_l k) x0 x1 x5 x6 x7, rfl⟩
noncomputable def spec_l1Split.F (a0 : ByteArray) (a1 : Int) : Option (List ByteArray) := lim fun k => spec_l1Split.f k a0 a1
theorem spec_l1Split.F_lim (a0 : ByteArray) (a1 : Int) : Lim (fun k => spec_l1Split.f k a0 a1) (spec_l1Split.F a0 a1) := ⟨spec_l1Split.mono a0 a1, rfl⟩
theorem spec_l1Split.L0_eq (x0 : ByteArray) (x1 : Int) (x5 : List ByteArray) (x6 : Int) (x7 : Int) : spec_l1Split.L0 x0 x1 x5 x6 x7 = (if x7 < (x0.size : Int) then (if 0 ≤ x7 then (if (bt x0 x7) = x1 then (if 0 ≤ x6 then (if x6 ≤ x7 then (if x7 ≤ (x0.size : Int) then (if x5.length < 8796093022208 then (spec_l1Split.L0 x0 x1 (x5 ++ [x0.extract (x6 : Int).toNat (x7 : Int).toNat]) (wrap64 (x7 + 1)) (wrap64 (x7 + 1))) else (none)) else (none)) else (none)) else (none)) else (spec_l1Split.L0 x0 x1 x5 x6 (wrap64 (x7 + 1)))) else (none)) else (if 0 ≤ x6 then (if x6 ≤ (x0.size : Int) then (if x5.length < 8796093022208 then (some (x5 ++ [x0.extract (x6 : Int).toNat x0.size])) else (none)) else (none)) else (none))) := by
  refine Lim.succ_eq (spec_l1Split.L0_lim x0 x1 x5 x6 x7).mon ?_
  simp only [spec_l1Split.l0]
  repeat' first
  | (with_reducible exact spec_l1Split.L0_lim _ _ _ _ _)
  | (with_reducible refine Lim.ite ?_ ?_)
  | (with_reducible refine Lim.bind ?_ (fun _ => ?_))
  | (with_reducible exact Lim.const _)
theorem spec_l1Split.F_eq (a0 : ByteArray) (a1 : Int) : spec_l1Split.F a0 a1 = (spec_l1Split.L0 a0 a1 ([] : List ByteArray) 0 0) := by
  refine Lim.eq_ ?_
  simp only [spec_l1Split.f]
  repeat' first
  | (with_reducible exact spec_l1Split.L0_lim _ _ _ _ _)
  | (with_reducible refine Lim.ite ?_ ?_)
  | (with_reducible refine Lim.bind ?_ (fun _ => ?_))
  | (with_reducible exact Lim.const _)
mutual
def spec_l1Read.j0 : Nat → ByteArray → Bool → Option (Int)
  | 0, _, _ => none
  | k + 1, x0, x18 => if x18 = true then (some (-1)) else (spec_l1Read.l0 k x0 0 0)
def spec_l1Read.l0 : Nat → ByteArray → Int → Int → Option (Int)
  | 0, _, _, _ => none
  | k + 1, x0, x3, x4 => if x4 < (x0.size : Int) then (if 0 ≤ x4 then (if (bt x0 x4) < 48 then (some (-1)) else (if (bt x0 x4) > 57 then (some (-1)) else (spec_l1Read.l0 k x0 (wrap64 ((wrap64 (10 * x3)) + (((bt x0 x4) - 48) % 256))) (wrap64 (x4 + 1))))) else (none)) else (some x3)
end
def spec_l1Read.f (k : Nat) (a0 : ByteArray) : Option (Int) := (spec_l1In.f (a0.size : Int) 1 6).bind fun t122 => (if t122 = true then (if 0 < (a0.size : Int) then (if (bt a0 0) = 48 then (spec_l1Read.j0 k a0 (decide ((a0.size : Int) > 1))) else (spec_l1Read.j0 k a0 false)) else (none)) else (spec_l1Read.j0 k a0 true))
theorem spec_l1Read.mono_l : ∀ k, (∀ y0 y1, LeO (spec_l1Read.j0 k y0 y1) (spec_l1Read.j0 (k + 1) y0 y1)) ∧ (∀ y0 y1 y2, LeO (spec_l1Read.l0 k y0 y1 y2) (spec_l1Read.l0 (k + 1) y0 y1 y2))
  | 0 => ⟨fun _ _ r h => by simp [spec_l1Read.j0] at h, fun _ _ _ r h => by simp [spec_l1Read.l0] at h⟩
  | k + 1 => by
    obtain ⟨ih0, ih1⟩ := spec_l1Read.mono_l k
    refine ⟨?_, ?_⟩
    · intro y0 y1
      unfold spec_l1Read.j0
      repeat' first
      | (with_reducible exact ih0 _ _)
      | (with_reducible exact ih1 _ _ _)
      | (with_reducible exact LeO.refl _)
      | (with_reducible exact LeO.none _)
      | (with_reducible refine LeO.ite ?_ ?_)
      | (with_reducible refine LeO.bind ?_ (fun _ => ?_))
      | exact ih0 _ _
      | exact ih1 _ _ _
      | exact LeO.none _
      | refine LeO.ite ?_ ?_
      | refine LeO.bind ?_ (fun _ => ?_)
    · intro y0 y1 y2
      unfold spec_l1Read.l0
      repeat' first
      | (with_reducible exact ih0 _ _)
      | (with_reducible exact ih1 _ _ _)
      | (with_reducible exact LeO.refl _)
      | (with_reducible exact LeO.none _)
      | (with_reducible refine LeO.ite ?_ ?_)
      | (with_reducible refine LeO.bind ?_ (fun _ => ?_))
      | exact ih0 _ _
      | exact ih1 _ _ _
      | exact LeO.none _
      | refine LeO.ite ?_ ?_
      | refine LeO.bind ?_ (fun _ => ?_)
theorem spec_l1Read.mono : ∀ a0 k, LeO (spec_l1Read.f k a0) (spec_l1Read.f (k + 1) a0) := by
  intro a0 k
  obtain ⟨ih0, ih1⟩ := spec_l1Read.mono_l k
  unfold spec_l1Read.f
  repeat' first
      | (with_reducible exact ih0 _ _)
      | (with_reducible exact ih1 _ _ _)
      | (with_reducible exact LeO.refl _)
      | (with_reducible exact LeO.none _)
      | (with_reducible refine LeO.ite ?_ ?_)
      | (with_reducible refine LeO.bind ?_ (fun _ => ?_))
      | exact ih0 _ _
      | exact ih1 _ _ _
      | exact LeO.none _
      | refine LeO.ite ?_ ?_
      | refine LeO.bind ?_ (fun _ => ?_)
noncomputable def spec_l1Read.J0 (x0 : ByteArray) (x18 : Bool) : Option (Int) := lim fun k => spec_l1Read.j0 k x0 x18
theorem spec_l1Read.J0_lim (x0 : ByteArray) (x18 : Bool) : Lim (fun k => spec_l1Read.j0 k x0 x18) (spec_l1Read.J0 x0 x18) := ⟨fun k => (spec_l1Read.mono_l k).1 x0 x18, rfl⟩
noncomputable def spec_l1Read.L0 (x0 : ByteArray) (x3 : Int) (x4 : Int) : Option (Int) := lim fun k => spec_l1Read.l0 k x0 x3 x4
theorem spec_l1Read.L0_lim (x0 : ByteArray) (x3 : Int) (x4 : Int) : Lim (fun k => spec_l1Read.l0 k x0 x3 x4) (spec_l1Read.L0 x0 x3 x4) := ⟨fun k => (spec_l1Read.mono_l k).2 x0 x3 x4, rfl⟩
noncomputable def spec_l1Read.F (a0 : ByteArray) : Option (Int) := lim fun k => spec_l1Read.f k a0
theorem spec_l1Read.F_lim (a0 : ByteArray) : Lim (fun k => spec_l1Read.f k a0) (spec_l1Read.F a0) := ⟨spec_l1Read.mono a0, rfl⟩
theorem spec_l1Read.J0_eq (x0 : ByteArray) (x18 : Bool) : spec_l1Read.J0 x0 x18 = (if x18 = true then (some (-1)) else (spec_l1Read.L0 x0 0 0)) := by
  refine Lim.succ_eq (spec_l1Read.J0_lim x0 x18).mon ?_
  simp only [spec_l1Read.j0]
  repeat' first
  | (with_reducible exact spec_l1Read.J0_lim _ _)
  | (with_reducible exact spec_l1Read.L0_lim _ _ _)
  | (with_reducible refine Lim.ite ?_ ?_)
  | (with_reducible refine Lim.bind ?_ (fun _ => ?_))
  | (with_reducible exact Lim.const _)
theorem spec_l1Read.L0_eq (x0 : ByteArray) (x3 : Int) (x4 : Int) : spec_l1Read.L0 x0 x3 x4 = (if x4 < (x0.size : Int) then (if 0 ≤ x4 then (if (bt x0 x4) < 48 then (some (-1)) else (if (bt x0 x4) > 57 then (some (-1)) else (spec_l1Read.L0 x0 (wrap64 ((wrap64 (10 * x3)) + (((bt x0 x4) - 48) % 256))) (wrap64 (x4 + 1))))) else (none)) else (some x3)) := by
  refine Lim.succ_eq (spec_l1Read.L0_lim x0 x3 x4).mon ?_
  simp only [spec_l1Read.l0]
  repeat' first
  | (with_reducible exact spec_l1Read.J0_lim _ _)
  | (with_reducible exact spec_l1Read.L0_lim _ _ _)
  | (with_reducible refine Lim.ite ?_ ?_)
  | (with_reducible refine Lim.bind ?_ (fun _ => ?_))
  | (with_reducible exact Lim.const _)
theorem spec_l1Read.F_eq (a0 : ByteArray) : spec_l1Read.F a0 = ((spec_l1In.f (a0.size : Int) 1 6).bind fun t122 => (if t122 = true then (if 0 < (a0.size : Int) then (if (bt a0 0) = 48 then (spec_l1Read.J0 a0 (decide ((a0.size : Int) > 1))) else (spec_l1Read.J0 a0 false)) else (none)) else (spec_l1Read.J0 a0 true))) := by
  refine Lim.eq_ ?_
  simp only [spec_l1Read.f]
  repeat' first
  | (with_reducible exact spec_l1Read.J0_lim _ _)
  | (with_reducible exact spec_l1Read.L0_lim _ _ _)
  | (with_reducible refine Lim.ite ?_ ?_)
  | (with_reducible refine Lim.bind ?_ (fun _ => ?_))
  | (with_reducible exact Lim.const _)
mutual
def spec_mvParse.j0 : Nat → ByteArray → List ByteArray → ByteArray → Int → Option (ByteArray × Int × Bool)
  | 0, _, _, _, _ => none
  | k + 1, x0, x4, x129000, x129001 => if (x4.length : Int) = 2 then (if 1 < (x4.length : Int) then ((spec_l1Read.f k (rdOf ByteArray.empty x4 1)).bind fun t130 => (spec_mvParse.j1 k x0 x4 x129000 t130)) else (none)) else (spec_mvParse.j1 k x0 x4 x129000 x129001)
def spec_mvParse.j1 : Nat → ByteArray → List ByteArray → ByteArray → Int → Option (ByteArray × Int × Bool)
  | 0, _, _, _, _ => none
  | k + 1, x0, x4, x129000, x129001 => if (x4.length : Int) > 2 then (some ((⟨#[]⟩ : ByteArray), 0, false)) else ((spec_mvGood.f k x129000 x129001).bind fun t131 => (if t131 = true then ((spec_mvText.f k x129000 x129001).bind fun t132 => (if t132.toList = x0.toList then (some (x129000, x129001, true)) else (some ((⟨#[]⟩ : ByteArray), 0, false)))) else (some ((⟨#[]⟩ : ByteArray), 0, false))))
end
def spec_mvParse.f (k : Nat) (a0 : ByteArray) : Option (ByteArray × Int × Bool) := (spec_l1Split.f k a0 42).bind fun t124 => (if 0 < (t124.length : Int) then (if a0.toList = ([45] : List UInt8) then (spec_mvParse.j0 k a0 t124 (⟨#[]⟩ : ByteArray) 1) else (spec_mvParse.j0 k a0 t124 (rdOf ByteArray.empty t124 0) 1)) else (none))
theorem spec_mvParse.mono_l : ∀ k, (∀ y0 y1 y2 y3, LeO (spec_mvParse.j0 k y0 y1 y2 y3) (spec_mvParse.j0 (k + 1) y0 y1 y2 y3)) ∧ (∀ y0 y1 y2 y3, LeO (spec_mvParse.j1 k y0 y1 y2 y3) (spec_mvParse.j1 (k + 1) y0 y1 y2 y3))
  | 0 => ⟨fun _ _ _ _ r h => by simp [spec_mvParse.j0] at h, fun _ _ _ _ r h => by simp [spec_mvParse.j1] at h⟩
  | k + 1 => by
    obtain ⟨ih0, ih1⟩ := spec_mvParse.mono_l k
    refine ⟨?_, ?_⟩
    · intro y0 y1 y2 y3
      unfold spec_mvParse.j0
      repeat' first
      | (with_reducible exact ih0 _ _ _ _)
      | (with_reducible exact ih1 _ _ _ _)
      | (with_reducible exact spec_l1Read.mono _ _)
      | (with_reducible exact spec_l1Split.mono _ _ _)
      | (with_reducible exact spec_mvGood.mono _ _ _)
      | (with_reducible exact spec_mvText.mono _ _ _)
      | (with_reducible exact LeO.refl _)
      | (with_reducible exact LeO.none _)
      | (with_reducible refine LeO.ite ?_ ?_)
      | (with_reducible refine LeO.bind ?_ (fun _ => ?_))
      | exact ih0 _ _ _ _
      | exact ih1 _ _ _ _
      | exact spec_l1Read.mono _ _
      | exact spec_l1Split.mono _ _ _
      | exact spec_mvGood.mono _ _ _
      | exact spec_mvText.mono _ _ _
      | exact LeO.none _
      | refine LeO.ite ?_ ?_
      | refine LeO.bind ?_ (fun _ => ?_)
    · intro y0 y1 y2 y3
      unfold spec_mvParse.j1
      repeat' first
      | (with_reducible exact ih0 _ _ _ _)
      | (with_reducible exact ih1 _ _ _ _)
      | (with_reducible exact spec_l1Read.mono _ _)
      | (with_reducible exact spec_l1Split.mono _ _ _)
      | (with_reducible exact spec_mvGood.mono _ _ _)
      | (with_reducible exact spec_mvText.mono _ _ _)
      | (with_reducible exact LeO.refl _)
      | (with_reducible exact LeO.none _)
      | (with_reducible refine LeO.ite ?_ ?_)
      | (with_reducible refine LeO.bind ?_ (fun _ => ?_))
      | exact ih0 _ _ _ _
      | exact ih1 _ _ _ _
      | exact spec_l1Read.mono _ _
      | exact spec_l1Split.mono _ _ _
      | exact spec_mvGood.mono _ _ _
      | exact spec_mvText.mono _ _ _
      | exact LeO.none _
      | refine LeO.ite ?_ ?_
      | refine LeO.bind ?_ (fun _ => ?_)
theorem spec_mvParse.mono : ∀ a0 k, LeO (spec_mvParse.f k a0) (spec_mvParse.f (k + 1) a0) := by
  intro a0 k
  obtain ⟨ih0, ih1⟩ := spec_mvParse.mono_l k
  unfold spec_mvParse.f
  repeat' first
      | (with_reducible exact ih0 _ _ _ _)
      | (with_reducible exact ih1 _ _ _ _)
      | (with_reducible exact spec_l1Read.mono _ _)
      | (with_reducible exact spec_l1Split.mono _ _ _)
      | (with_reducible exact spec_mvGood.mono _ _ _)
      | (with_reducible exact spec_mvText.mono _ _ _)
      | (with_reducible exact LeO.refl _)
      | (with_reducible exact LeO.none _)
      | (with_reducible refine LeO.ite ?_ ?_)
      | (with_reducible refine LeO.bind ?_ (fun _ => ?_))
      | exact ih0 _ _ _ _
      | exact ih1 _ _ _ _
      | exact spec_l1Read.mono _ _
      | exact spec_l1Split.mono _ _ _
      | exact spec_mvGood.mono _ _ _
      | exact spec_mvText.mono _ _ _
      | exact LeO.none _
      | refine LeO.ite ?_ ?_
      | refine LeO.bind ?_ (fun _ => ?_)
noncomputable def spec_mvParse.J0 (x0 : ByteArray) (x4 : List ByteArray) (x129000 : ByteArray) (x129001 : Int) : Option (ByteArray × Int × Bool) := lim fun k => spec_mvParse.j0 k x0 x4 x129000 x129001
theorem spec_mvParse.J0_lim (x0 : ByteArray) (x4 : List ByteArray) (x129000 : ByteArray) (x129001 : Int) : Lim (fun k => spec_mvParse.j0 k x0 x4 x129000 x129001) (spec_mvParse.J0 x0 x4 x129000 x129001) := ⟨fun k => (spec_mvParse.mono_l k).1 x0 x4 x129000 x129001, rfl⟩
noncomputable def spec_mvParse.J1 (x0 : ByteArray) (x4 : List ByteArray) (x129000 : ByteArray) (x129001 : Int) : Option (ByteArray × Int × Bool) := lim fun k => spec_mvParse.j1 k x0 x4 x129000 x129001
theorem spec_mvParse.J1_lim (x0 : ByteArray) (x4 : List ByteArray) (x129000 : ByteArray) (x129001 : Int) : Lim (fun k => spec_mvParse.j1 k x0 x4 x129000 x129001) (spec_mvParse.J1 x0 x4 x129000 x129001) := ⟨fun k => (spec_mvParse.mono_l k).2 x0 x4 x129000 x129001, rfl⟩
noncomputable def spec_mvParse.F (a0 : ByteArray) : Option (ByteArray × Int × Bool) := lim fun k => spec_mvParse.f k a0
theorem spec_mvParse.F_lim (a0 : ByteArray) : Lim (fun k => spec_mvParse.f k a0) (spec_mvParse.F a0) := ⟨spec_mvParse.mono a0, rfl⟩
theorem spec_mvParse.J0_eq (x0 : ByteArray) (x4 : List ByteArray) (x129000 : ByteArray) (x129001 : Int) : spec_mvParse.J0 x0 x4 x129000 x129001 = (if (x4.length : Int) = 2 then (if 1 < (x4.length : Int) then ((spec_l1Read.F (rdOf ByteArray.empty x4 1)).bind fun t130 => (spec_mvParse.J1 x0 x4 x129000 t130)) else (none)) else (spec_mvParse.J1 x0 x4 x129000 x129001)) := by
  refine Lim.succ_eq (spec_mvParse.J0_lim x0 x4 x129000 x129001).mon ?_
  simp only [spec_mvParse.j0]
  repeat' first
  | (with_reducible exact spec_mvParse.J0_lim _ _ _ _)
  | (with_reducible exact spec_mvParse.J1_lim _ _ _ _)
  | (with_reducible exact spec_l1Read.F_lim _)
  | (with_reducible exact spec_l1Split.F_lim _ _)
  | (with_reducible exact spec_mvGood.F_lim _ _)
  | (with_reducible exact spec_mvText.F_lim _ _)
  | (with_reducible refine Lim.ite ?_ ?_)
  | (with_reducible refine Lim.bind ?_ (fun _ => ?_))
  | (with_reducible exact Lim.const _)
theorem spec_mvParse.J1_eq (x0 : ByteArray) (x4 : List ByteArray) (x129000 : ByteArray) (x129001 : Int) : spec_mvParse.J1 x0 x4 x129000 x129001 = (if (x4.length : Int) > 2 then (some ((⟨#[]⟩ : ByteArray), 0, false)) else ((spec_mvGood.F x129000 x129001).bind fun t131 => (if t131 = true then ((spec_mvText.F x129000 x129001).bind fun t132 => (if t132.toList = x0.toList then (some (x129000, x129001, true)) else (some ((⟨#[]⟩ : ByteArray), 0, false)))) else (some ((⟨#[]⟩ : ByteArray), 0, false))))) := by
  refine Lim.succ_eq (spec_mvParse.J1_lim x0 x4 x129000 x129001).mon ?_
  simp only [spec_mvParse.j1]
  repeat' first
  | (with_reducible exact spec_mvParse.J0_lim _ _ _ _)
  | (with_reducible exact spec_mvParse.J1_lim _ _ _ _)
  | (with_reducible exact spec_l1Read.F_lim _)
  | (with_reducible exact spec_l1Split.F_lim _ _)
  | (with_reducible exact spec_mvGood.F_lim _ _)
  | (with_reducible exact spec_mvText.F_lim _ _)
  | (with_reducible refine Lim.ite ?_ ?_)
  | (with_reducible refine Lim.bind ?_ (fun _ => ?_))
  | (with_reducible exact Lim.const _)
theorem spec_mvParse.F_eq (a0 : ByteArray) : spec_mvParse.F a0 = ((spec_l1Split.F a0 42).bind fun t124 => (if 0 < (t124.length : Int) then (if a0.toList = ([45] : List UInt8) then (spec_mvParse.J0 a0 t124 (⟨#[]⟩ : ByteArray) 1) else (spec_mvParse.J0 a0 t124 (rdOf ByteArray.empty t124 0) 1)) else (none))) := by
  refine Lim.eq_ ?_
  simp only [spec_mvParse.f]
  repeat' first
  | (with_reducible exact spec_mvParse.J0_lim _ _ _ _)
  | (with_reducible exact spec_mvParse.J1_lim _ _ _ _)
  | (with_reducible exact spec_l1Read.F_lim _)
  | (with_reducible exact spec_l1Split.F_lim _ _)
  | (with_reducible exact spec_mvGood.F_lim _ _)
  | (with_reducible exact spec_mvText.F_lim _ _)
  | (with_reducible refine Lim.ite ?_ ?_)
  | (with_reducible refine Lim.bind ?_ (fun _ => ?_))
  | (with_reducible exact Lim.const _)
def spec_ParseMove.f (k : Nat) (a0 : ByteArray) : Option (ByteArray × Int × Bool) := (spec_mvParse.f k a0).bind fun bt134 => (some (bt134.1, bt134.2.1, bt134.2.2))
theorem spec_ParseMove.mono : ∀ a0 k, LeO (spec_ParseMove.f k a0) (spec_ParseMove.f (k + 1) a0) := by
  intro a0 k
  unfold spec_ParseMove.f
  repeat' first
      | (with_reducible exact spec_mvParse.mono _ _)
      | (with_reducible exact LeO.refl _)
      | (with_reducible exact LeO.none _)
      | (with_reducible refine LeO.ite ?_ ?_)
      | (with_reducible refine LeO.bind ?_ (fun _ => ?_))
      | exact spec_mvParse.mono _ _
      | exact LeO.none _
      | refine LeO.ite ?_ ?_
      | refine LeO.bind ?_ (fun _ => ?_)
noncomputable def spec_ParseMove.F (a0 : ByteArray) : Option (ByteArray × Int × Bool) := lim fun k => spec_ParseMove.f k a0
theorem spec_ParseMove.F_lim (a0 : ByteArray) : Lim (fun k => spec_ParseMove.f k a0) (spec_ParseMove.F a0) := ⟨spec_ParseMove.mono a0, rfl⟩
theorem spec_ParseMove.F_eq (a0 : ByteArray) : spec_ParseMove.F a0 = ((spec_mvParse.F a0).bind fun bt134 => (some (bt134.1, bt134.2.1, bt134.2.2))) := by
  refine Lim.eq_ ?_
  simp only [spec_ParseMove.f]
  repeat' first
  | (with_reducible exact spec_mvParse.F_lim _)
  | (with_reducible refine Lim.ite ?_ ?_)
  | (with_reducible refine Lim.bind ?_ (fun _ => ?_))
  | (with_reducible exact Lim.const _)
def impl_within.f (a0 : Int) (a1 : Int) (a2 : Int) : Option (Bool) := if a0 ≥ a1 then (some (decide (a0 ≤ a2))) else (some false)
def stringslite_IndexByte.f (a0 : ByteArray) (a1 : Int) : Option (Int) := some (Lib.indexByte a0.data.toList a1.toNat.toUInt8)
def strings_IndexByte.f (a0 : ByteArray) (a1 : Int) : Option (Int) := (stringslite_IndexByte.f a0 a1).bind fun t137 => (some t137)
def impl_hasOnly.l0 : Nat → ByteArray → ByteArray → Int → Int → Option (Bool)
  | 0, _, _, _, _ => none
  | k + 1, x0, x1, x7, x8 => if x8 < x7 then (if 0 ≤ x8 then (if x8 < (x0.size : Int) then ((strings_IndexByte.f x1 (bt x0 x8)).bind fun t138 => (if t138 < 0 then (some false) else (impl_hasOnly.l0 k x0 x1 x7 (wrap64 (x8 + 1))))) else (none)) else (none)) else (some true)
def impl_hasOnly.f (k : Nat) (a0 : ByteArray) (a1 : ByteArray) : Option (Bool) := impl_hasOnly.l0 k a0 a1 (a0.size : Int) 0
theorem impl_hasOnly.mono_l : ∀ k, (∀ y0 y1 y2 y3, LeO (impl_hasOnly.l0 k y0 y1 y2 y3) (impl_hasOnly.l0 (k + 1) y0 y1 y2 y3))
  | 0 => fun _ _ _ _ r h => by simp [impl_hasOnly.l0] at h
  | k + 1 => by
    have ih0 := impl_hasOnly.mono_l k
    · intro y0 y1 y2 y3
      unfold impl_hasOnly.l0
      repeat' first
      | (with_reducible exact ih0 _ _ _ _)
      | (with_reducible exact LeO.refl _)
      | (with_reducible exact LeO.none _)
      | (with_reducible refine LeO.ite ?_ ?_)
      | (with_reducible refine LeO.bind ?_ (fun _ => ?_))
      | exact ih0 _ _ _ _
      | exact LeO.none _
      | refine LeO.ite ?_ ?_
      | refine LeO.bind ?_ (fun _ => ?_)
theorem impl_hasOnly.mono : ∀ a0 a1 k, LeO (impl_hasOnly.f k a0 a1) (impl_hasOnly.f (k + 1) a0 a1) := by
  intro a0 a1 k
  have ih0 := impl_hasOnly.mono_l k
  unfold impl_hasOnly.f
  repeat' first
      | (with_reducible exact ih0 _ _ _ _)
      | (with_reducible exact LeO.refl _)
      | (with_reducible exact LeO.none _)
      | (with_reducible refine LeO.ite ?_ ?_)
      | (with_reducible refine LeO.bind ?_ (fun _ => ?_))
      | exact ih0 _ _ _ _
      | exact LeO.none _
      | refine LeO.ite ?_ ?_
      | refine LeO.bind ?_ (fun _ => ?_)
noncomputable def impl_hasOnly.L0 (x0 : ByteArray) (x1 : ByteArray) (x7 : Int) (x8 : Int) : Option (Bool) := lim fun k => impl_hasOnly.l0 k x0 x1 x7 x8
theorem impl_hasOnly.L0_lim (x0 : ByteArray) (x1 : ByteArray) (x7 : Int) (x8 : Int) : Lim (fun k => impl_hasOnly.l0 k x0 x1 x7 x8) (impl_hasOnly.L0 x0 x1 x7 x8) := ⟨fun k => (impl_hasOnly.mono_l k) x0 x1 x7 x8, rfl⟩
noncomputable def impl_hasOnly.F (a0 : ByteArray) (a1 : ByteArray) : Option (Bool) := lim fun k => impl_hasOnly.f k a0 a1
theorem impl_hasOnly.F_lim (a0 : ByteArray) (a1 : ByteArray) : Lim (fun k => impl_hasOnly.f k a0 a1) (impl_hasOnly.F a0 a1) := ⟨impl_hasOnly.mono a0 a1, rfl⟩
theorem impl_hasOnly.L0_eq (x0 : ByteArray) (x1 : ByteArray) (x7 : Int) (x8 : Int) : impl_hasOnly.L0 x0 x1 x7 x8 = (if x8 < x7 then (if 0 ≤ x8 then (if x8 < (x0.size : Int) then ((strings_IndexByte.f x1 (bt x0 x8)).bind fun t138 => (if t138 < 0 then (some false) else (impl_hasOnly.L0 x0 x1 x7 (wrap64 (x8 + 1))))) else (none)) else (none)) else (some true)) := by
  refine Lim.succ_eq (impl_hasOnly.L0_lim x0 x1 x7 x8).mon ?_
  simp only [impl_hasOnly.l0]
  repeat' first
  | (with_reducible exact impl_hasOnly.L0_lim _ _ _ _)
  | (with_reducible refine Lim.ite ?_ ?_)
  | (with_reducible refine Lim.bind ?_ (fun _ => ?_))
  | (with_reducible exact Lim.const _)
theorem impl_hasOnly.F_eq (a0 : ByteArray) (a1 : ByteArray) : impl_hasOnly.F a0 a1 = (impl_hasOnly.L0 a0 a1 (a0.size : Int) 0) := by
  refine Lim.eq_ ?_
  simp only [impl_hasOnly.f]
  repeat' first
  | (with_reducible exact impl_hasOnly.L0_lim _ _ _ _)
  | (with_reducible refine Lim.ite ?_ ?_)
  | (with_reducible refine Lim.bind ?_ (fun _ => ?_))
  | (with_reducible exact Lim.const _)
def impl_IsMove.f (k : Nat) (a0_0 : ByteArray) (a0_1 : Int) : Option (Bool) := if (a0_0.size : Int) ≤ 6 then ((impl_hasOnly.f k a0_0 (⟨#[117, 100, 108, 114, 102, 98]⟩ : ByteArray)).bind fun t140 => (if t140 = true then ((impl_within.f a0_1 1 3).bind fun t141 => (if t141 = true then (if a0_0.toList = ([] : List UInt8) then (some (a0_1 == 1)) else (some true)) else (some false))) else (some false))) else (some false)
theorem impl_IsMove.mono : ∀ a0 a1 k, LeO (impl_IsMove.f k a0 a1) (impl_IsMove.f (k + 1) a0 a1) := by
  intro a0 a1 k
  unfold impl_IsMove.f
  repeat' first
      | (with_reducible exact impl_hasOnly.mono _ _ _)
      | (with_reducible exact LeO.refl _)
      | (with_reducible exact LeO.none _)
      | (with_reducible refine LeO.ite ?_ ?_)
      | (with_reducible refine LeO.bind ?_ (fun _ => ?_))
      | exact impl_hasOnly.mono _ _ _
      | exact LeO.none _
      | refine LeO.ite ?_ ?_
      | refine LeO.bind ?_ (fun _ => ?_)
noncomputable def impl_IsMove.F (a0_0 : ByteArray) (a0_1 : Int) : Option (Bool) := lim fun k => impl_IsMove.f k a0_0 a0_1
theorem impl_IsMove.F_lim (a0_0 : ByteArray) (a0_1 : Int) : Lim (fun k => impl_IsMove.f k a0_0 a0_1) (impl_IsMove.F a0_0 a0_1) := ⟨impl_IsMove.mono a0_0 a0_1, rfl⟩
theorem impl_IsMove.F_eq (a0_0 : ByteArray) (a0_1 : Int) : impl_IsMove.F a0_0 a0_1 = (if (a0_0.size : Int) ≤ 6 then ((impl_hasOnly.F a0_0 (⟨#[117, 100, 108, 114, 102, 98]⟩ : ByteArray)).bind fun t140 => (if t140 = true then ((impl_within.f a0_1 1 3).bind fun t141 => (if t141 = true then (if a0_0.toList = ([] : List UInt8) then (some (a0_1 == 1)) else (some true)) else (some false))) else (some false))) else (some false)) := by
  refine Lim.eq_ ?_
  simp only [impl_IsMove.f]
  repeat' first
  | (with_reducible exact impl_hasOnly.F_lim _ _)
  | (with_reducible refine Lim.ite ?_ ?_)
  | (with_reducible refine Lim.bind ?_ (fun _ => ?_))
  | (with_reducible exact Lim.const _)
def strconv_Itoa.f (a0 : Int) : Option (ByteArray) := if 0 ≤ a0 ∧ a0 < 100 then some ⟨(Lib.decDigits a0.toNat).toArray⟩ else none
def impl_Move_text.f (a0_0 : ByteArray) (a0_1 : Int) : Option (ByteArray) := if a0_0.toList = ([] : List UInt8) then (some (⟨#[45]⟩ : ByteArray)) else (if a0_1 = 1 then (some a0_0) else (if a0_0.size + 1 ≤ 9223372036854775807 then ((strconv_Itoa.f a0_1).bind fun t143 => (if (a0_0 ++ (⟨#[42]⟩ : ByteArray)).size + t143.size ≤ 9223372036854775807 then (some ((a0_0 ++ (⟨#[42]⟩ : ByteArray)) ++ t143)) else (none))) else (none)))
def stringslite_Index.f (a0 : ByteArray) (a1 : ByteArray) : Option (Int) := if a1.size = 1 then some (Lib.indexByte a0.data.toList (a1.data.toList.getD 0 0)) else none
def stringslite_Cut.f (a0 : ByteArray) (a1 : ByteArray) : Option (ByteArray × ByteArray × Bool) := (stringslite_Index.f a0 a1).bind fun t144 => (if t144 ≥ 0 then (if 0 ≤ t144 then (if t144 ≤ (a0.size : Int) then (if 0 ≤ (wrap64 (t144 + (a1.size : Int))) then (if (wrap64 (t144 + (a1.size : Int))) ≤ (a0.size : Int) then (some (a0.extract 0 (t144 : Int).toNat, a0.extract ((wrap64 (t144 + (a1.size : Int))) : Int).toNat a0.size, true)) else (none)) else (none)) else (none)) else (none)) else (some (a0, (⟨#[]⟩ : ByteArray), false)))
def strings_Cut.f (a0 : ByteArray) (a1 : ByteArray) : Option (ByteArray × ByteArray × Bool) := (stringslite_Cut.f a0 a1).bind fun bt145 => (some (bt145.1, bt145.2.1, bt145.2.2))
def impl_decimal.f (a0 : ByteArray) : Option (Int × Bool) := if a0.size ≤ 281474976710656 then some (match Lib.atoiAll a0.data.toList with | .ok v => if Lib.itoa v = a0.data.toList then (v, true) else (0, false) | _ => (0, false)) else none
mutual
def impl_ParseMove.j0 : Nat → ByteArray → ByteArray → Int → Option (ByteArray × Int × Bool)
  | 0, _, _, _ => none
  | k + 1, x0, x153000, x153001 => if x0.toList = ([45] : List UInt8) then (impl_ParseMove.j1 k x0 (⟨#[]⟩ : ByteArray) x153001) else (impl_ParseMove.j1 k x0 x153000 x153001)
def impl_ParseMove.j1 : Nat → ByteArray → ByteArray → Int → Option (ByteArray × Int × Bool)
  | 0, _, _, _ => none
  | k + 1, x0, x153000, x153001 => (impl_IsMove.f k x153000 x153001).bind fun t155 => (if t155 = true then ((impl_Move_text.f x153000 x153001).bind fun t156 => (if t156.toList = x0.toList then (some (x153000, x153001, true)) else (some ((⟨#[]⟩ : ByteArray), 0, false)))) else (some ((⟨#[]⟩ : ByteArray), 0, false)))
end
def impl_ParseMove.f (k : Nat) (a0 : ByteArray) : Option (ByteArray × Int × Bool) := (strings_Cut.f a0 (⟨#[42]⟩ : ByteArray)).bind fun bt149 => (if bt149.2.2 = true then ((impl_decimal.f bt149.2.1).bind fun bt153 => (impl_ParseMove.j0 k a0 bt149.1 bt153.1)) else (impl_ParseMove.j0 k a0 bt149.1 1))
theorem impl_ParseMove.mono_l : ∀ k, (∀ y0 y1 y2, LeO (impl_ParseMove.j0 k y0 y1 y2) (impl_ParseMove.j0 (k + 1) y0 y1 y2)) ∧ (∀ y0 y1 y2, LeO (impl_ParseMove.j1 k y0 y1 y2) (impl_ParseMove.j1 (k + 1) y0 y1 y2))
  | 0 => ⟨fun _ _ _ r h => by simp [impl_ParseMove.j0] at h, fun _ _ _ r h => by simp [impl_ParseMove.j1] at h⟩
  | k + 1 => by
    obtain ⟨ih0, ih1⟩ := impl_ParseMove.mono_l k
    refine ⟨?_, ?_⟩
    · intro y0 y1 y2
      unfold impl_ParseMove.j0
      repeat' first
      | (with_reducible exact ih0 _ _ _)
      | (with_reducible exact ih1 _ _ _)
      | (with_reducible exact impl_IsMove.mono _ _ _)
      | (with_reducible exact LeO.refl _)
      | (with_reducible exact LeO.none _)
      | (with_reducible refine LeO.ite ?_ ?_)
      | (with_reducible refine LeO.bind ?_ (fun _ => ?_))
      | exact ih0 _ _ _
      | exact ih1 _ _ _
      | exact impl_IsMove.mono _ _ _
      | exact LeO.none _
      | refine LeO.ite ?_ ?_
      | refine LeO.bind ?_ (fun _ => ?_)
    · intro y0 y1 y2
      unfold impl_ParseMove.j1
      repeat' first
      | (with_reducible exact ih0 _ _ _)
      | (with_reducible exact ih1 _ _ _)
      | (with_reducible exact impl_IsMove.mono _ _ _)
      | (with_reducible exact LeO.refl _)
      | (with_reducible exact LeO.none _)
      | (with_reducible refine LeO.ite ?_ ?_)
      | (with_reducible refine LeO.bind ?_ (fun _ => ?_))
      | exact ih0 _ _ _
      | exact ih1 _ _ _
      | exact impl_IsMove.mono _ _ _
      | exact LeO.none _
      | refine LeO.ite ?_ ?_
      | refine LeO.bind ?_ (fun _ => ?_)
theorem impl_ParseMove.mono : ∀ a0 k, LeO (impl_ParseMove.f k a0) (impl_ParseMove.f (k + 1) a0) := by
  intro a0 k
  obtain ⟨ih0, ih1⟩ := impl_ParseMove.mono_l k
  unfold impl_ParseMove.f
  repeat' first
      | (with_reducible exact ih0 _ _ _)
      | (with_reducible exact ih1 _ _ _)
      | (with_reducible exact impl_IsMove.mono _ _ _)
      | (with_reducible exact LeO.refl _)
      | (with_reducible exact LeO.none _)
      | (with_reducible refine LeO.ite ?_ ?_)
      | (with_reducible refine LeO.bind ?_ (fun _ => ?_))
      | exact ih0 _ _ _
      | exact ih1 _ _ _
      | exact impl_IsMove.mono _ _ _
      | exact LeO.none _
      | refine LeO.ite ?_ ?_
      | refine LeO.bind ?_ (fun _ => ?_)
noncomputable def impl_ParseMove.J0 (x0 : ByteArray) (x153000 : ByteArray) (x153001 : Int) : Option (ByteArray × Int × Bool) := lim fun k => impl_ParseMove.j0 k x0 x153000 x153001
theorem impl_ParseMove.J0_lim (x0 : ByteArray) (x153000 : ByteArray) (x153001 : Int) : Lim (fun k => impl_ParseMove.j0 k x0 x153000 x153001) (impl_ParseMove.J0 x0 x153000 x153001) := ⟨fun k => (impl_ParseMove.mono_l k).1 x0 x153000 x153001, rfl⟩
noncomputable def impl_ParseMove.J1 (x0 : ByteArray) (x153000 : ByteArray) (x153001 : Int) : Option (ByteArray × Int × Bool) := lim fun k => impl_ParseMove.j1 k x0 x153000 x153001
theorem impl_ParseMove.J1_lim (x0 : ByteArray) (x153000 : ByteArray) (x153001 : Int) : Lim (fun k => impl_ParseMove.j1 k x0 x153000 x153001) (impl_ParseMove.J1 x0 x153000 x153001) := ⟨fun k => (impl_ParseMove.mono_l k).2 x0 x153000 x153001, rfl⟩
noncomputable def impl_ParseMove.F (a0 : ByteArray) : Option (ByteArray × Int × Bool) := lim fun k => impl_ParseMove.f k a0
theorem impl_ParseMove.F_lim (a0 : ByteArray) : Lim (fun k => impl_ParseMove.f k a0) (impl_ParseMove.F a0) := ⟨impl_ParseMove.mono a0, rfl⟩
theorem impl_ParseMove.J0_eq (x0 : ByteArray) (x153000 : ByteArray) (x153001 : Int) : impl_ParseMove.J0 x0 x153000 x153001 = (if x0.toList = ([45] : List UInt8) then (impl_ParseMove.J1 x0 (⟨#[]⟩ : ByteArray) x153001) else (impl_ParseMove.J1 x0 x153000 x153001)) := by
  refine Lim.succ_eq (impl_ParseMove.J0_lim x0 x153000 x153001).mon ?_
  simp only [impl_ParseMove.j0]
  repeat' first
  | (with_reducible exact impl_ParseMove.J0_lim _ _ _)
  | (with_reducible exact impl_ParseMove.J1_lim _ _ _)
  | (with_reducible exact impl_IsMove.F_lim _ _)
  | (with_reducible refine Lim.ite ?_ ?_)
  | (with_reducible refine Lim.bind ?_ (fun _ => ?_))
  | (with_reducible exact Lim.const _)
theorem impl_ParseMove.J1_eq (x0 : ByteArray) (x153000 : ByteArray) (x153001 : Int) : impl_ParseMove.J1 x0 x153000 x153001 = ((impl_IsMove.F x153000 x153001).bind fun t155 => (if t155 = true then ((impl_Move_text.f x153000 x153001).bind fun t156 => (if t156.toList = x0.toList then (some (x153000, x153001, true)) else (some ((⟨#[]⟩ : ByteArray), 0, false)))) else (some ((⟨#[]⟩ : ByteArray), 0, false)))) := by
  refine Lim.succ_eq (impl_ParseMove.J1_lim x0 x153000 x153001).mon ?_
  simp only [impl_ParseMove.j1]
  repeat' first
  | (with_reducible exact impl_ParseMove.J0_lim _ _ _)
  | (with_reducible exact impl_ParseMove.J1_lim _ _ _)
  | (with_reducible exact impl_IsMove.F_lim _ _)
  | (with_reducible refine Lim.ite ?_ ?_)
  | (with_reducible refine Lim.bind ?_ (fun _ => ?_))
  | (with_reducible exact Lim.const _)
theorem impl_ParseMove.F_eq (a0 : ByteArray) : impl_ParseMove.F a0 = ((strings_Cut.f a0 (⟨#[42]⟩ : ByteArray)).bind fun bt149 => (if bt149.2.2 = true then ((impl_decimal.f bt149.2.1).bind fun bt153 => (impl_ParseMove.J0 a0 bt149.1 bt153.1)) else (impl_ParseMove.J0 a0 bt149.1 1))) := by
  refine Lim.eq_ ?_
  simp only [impl_ParseMove.f]
  repeat' first
  | (with_reducible exact impl_ParseMove.J0_lim _ _ _)
  | (with_reducible exact impl_ParseMove.J1_lim _ _ _)
  | (with_reducible exact impl_IsMove.F_lim _ _)
  | (with_reducible refine Lim.ite ?_ ?_)
  | (with_reducible refine Lim.bind ?_ (fun _ => ?_))
  | (with_reducible exact Lim.const _)
def laws_eqMove.f (a0_0 : ByteArray) (a0_1 : Int) (a1_0 : ByteArray) (a1_1 : Int) : Option (Bool) := if a0_0.toList = a1_0.toList then (if a0_1 = a1_1 then (some true) else (some false)) else (some false)
def laws_FnExactParseMove.f (k : Nat) (a0 : ByteArray) : Option (Bool) := if (a0.size : Int) > 1048576 then (some true) else ((spec_ParseMove.f k a0).bind fun bt159 => ((impl_ParseMove.f k a0).bind fun bt163 => ((laws_eqMove.f bt163.1 bt163.2.1 bt159.1 bt159.2.1).bind fun t167 => (if t167 = true then (if (bt163.2.2 != bt159.2.2) = true then (some false) else (some true)) else (some false)))))
theorem laws_FnExactParseMove.mono : ∀ a0 k, LeO (laws_FnExactParseMove.f k a0) (laws_FnExactParseMove.f (k + 1) a0) := by
  intro a0 k
  unfold laws_FnExactParseMove.f
  repeat' first
      | (with_reducible exact impl_ParseMove.mono _ _)
      | (with_reducible exact spec_ParseMove.mono _ _)
      | (with_reducible exact LeO.refl _)
      | (with_reducible exact LeO.none _)
      | (with_reducible refine LeO.ite ?_ ?_)
      | (with_reducible refine LeO.bind ?_ (fun _ => ?_))
      | exact impl_ParseMove.mono _ _
      | exact spec_ParseMove.mono _ _
      | exact LeO.none _
      | refine LeO.ite ?_ ?_
      | refine LeO.bind ?_ (fun _ => ?_)
noncomputable def laws_FnExactParseMove.F (a0 : ByteArray) : Option (Bool) := lim fun k => laws_FnExactParseMove.f k a0
theorem laws_FnExactParseMove.F_lim (a0 : ByteArray) : Lim (fun k => laws_FnExactParseMove.f k a0) (laws_FnExactParseMove.F a0) := ⟨laws_FnExactParseMove.mono a0, rfl⟩
theorem laws_FnExactParseMove.F_eq (a0 : ByteArray) : laws_FnExactParseMove.F a0 = (if (a0.size : Int) > 1048576 then (some true) else ((spec_ParseMove.F a0).bind fun bt159 => ((impl_ParseMove.F a0).bind fun bt163 => ((laws_eqMove.f bt163.1 bt163.2.1 bt159.1 bt159.2.1).bind fun t167 => (if t167 = true then (if (bt163.2.2 != bt159.2.2) = true then (some false) else (some true)) else (some false)))))) := by
  refine Lim.eq_ ?_
  simp only [laws_FnExactParseMove.f]
  repeat' first
  | (with_reducible exact impl_ParseMove.F_lim _)
  | (with_reducible exact spec_ParseMove.F_lim _)
  | (with_reducible refine Lim.ite ?_ ?_)
  | (with_reducible refine Lim.bind ?_ (fun _ => ?_))
  | (with_reducible exact Lim.const _)
def laws_FnExactParseMove.Pure : Prop := ∀ (a0 : ByteArray), (a0.size ≤ 9223372036854775807) → ∃ k, laws_FnExactParseMove.f k a0 = some true
end Go.Proofs.YtmffndjbpealmaaDoor.PFnExactParseMove
