/- Written by a program of this claim's author, out of the loaded program as Lean prints it: the functions as Lean functions, and that the calls answer so. -/
import Derived.Test.YtmffndjbpealmaaDoorPFnExactMoveTextx0
namespace Go.Proofs.YtmffndjbpealmaaDoor.PFnExactMoveText
open Go.RowKit Go.Proofs.YtmffndjbpealmaaDoorW.PrintWords Go.Proofs.YtmffndjbpealmaaDoorW.PrintLast Go.Proofs.YtmffndjbpealmaaDoorW.PrintMore
attribute [local go_sem] max2_int min2_int max_two min_two max_three min_three max_four min_four   -- for this text's walks alone
set_option linter.unusedVariables false
set_option linter.unusedSimpArgs false

def laws_szMove.f (a0_0 : ByteArray) (a0_1 : Int) (a1 : Int) : Option (Int) := if (wrap64 (a1 - (a0_0.size : Int))) < 0 then (some (-1)) else (some (wrap64 (a1 - (a0_0.size : Int))))
def spec_l1In.f (a0 : Int) (a1 : Int) (a2 : Int) : Option (Bool) := if a0 ≥ a1 then (some (decide (a0 ≤ a2))) else (some false)
def spec_mvLetters.f  : Option (ByteArray) := some (⟨#[117, 100, 108, 114, 102, 98]⟩ : ByteArray)
def spec_mvIndex.l0 : Nat → Int → Int → Option (Int)
  | 0, _, _ => none
  | k + 1, x0, x3 => (spec_mvLetters.f).bind fun t102 => (if x3 < (t102.size : Int) then ((spec_mvLetters.f).bind fun t103 => (if 0 ≤ x3 then (if x3 < (t103.size : Int) then (if (bt t103 x3) = x0 then (some x3) else (spec_mvIndex.l0 k x0 (wrap64 (x3 + 1)))) else (none)) else (none))) else (some (-1)))
def spec_mvIndex.f (k : Nat) (a0 : Int) : Option (Int) := spec_mvIndex.l0 k a0 0
theorem spec_mvIndex.mono_l : ∀ k, (∀ y0 y1, LeO (spec_mvIndex.l0 k y0 y1) (spec_mvIndex.l0 (k + 1) y0 y1))
  | 0 => fun _ _ r h => by simp [spec_mvIndex.l0] at h
  | k + 1 => by
    have ih0 := spec_mvIndex.mono_l k
    · intro y0 y1
      unfold spec_mvIndex.l0
      repeat' first
      | (with_reducible exact ih0 _ _)
      | (with_reducible exact LeO.refl _)
      | (with_reducible exact LeO.none _)
      | (with_reducible refine LeO.ite ?_ ?_)
      | (with_reducible refine LeO.bind ?_ (fun _ => ?_))
      | exact ih0 _ _
      | exact LeO.none _
      | refine LeO.ite ?_ ?_
      | refine LeO.bind ?_ (fun _ => ?_)
theorem spec_mvIndex.mono : ∀ a0 k, LeO (spec_mvIndex.f k a0) (spec_mvIndex.f (k + 1) a0) := by
  intro a0 k
  have ih0 := spec_mvIndex.mono_l k
  unfold spec_mvIndex.f
  repeat' first
      | (with_reducible exact ih0 _ _)
      | (with_reducible exact LeO.refl _)
      | (with_reducible exact LeO.none _)
      | (with_reducible refine LeO.ite ?_ ?_)
      | (with_reducible refine LeO.bind ?_ (fun _ => ?_))
      | exact ih0 _ _
      | exact LeO.none _
      | refine LeO.ite ?_ ?_
      | refine LeO.bind ?_ (fun _ => ?_)
noncomputable def spec_mvIndex.L0 (x0 : Int) (x3 : Int) : Option (Int) := lim fun k => spec_mvIndex.l0 k x0 x3
theorem spec_mvIndex.L0_lim (x0 : Int) (x3 : Int) : Lim (fun k => spec_mvIndex.l0 k x0 x3) (spec_mvIndex.L0 x0 x3) := ⟨fun k => (spec_mvIndex.mono_l k) x0 x3, rfl⟩
noncomputable def spec_mvIndex.F (a0 : Int) : Option (Int) := lim fun k => spec_mvIndex.f k a0
theorem spec_mvIndex.F_lim (a0 : Int) : Lim (fun k => spec_mvIndex.f k a0) (spec_mvIndex.F a0) := ⟨spec_mvIndex.mono a0, rfl⟩
theorem spec_mvIndex.L0_eq (x0 : Int) (x3 : Int) : spec_mvIndex.L0 x0 x3 = ((spec_mvLetters.f).bind fun t102 => (if x3 < (t102.size : Int) then ((spec_mvLetters.f).bind fun t103 => (if 0 ≤ x3 then (if x3 < (t103.size : Int) then (if (bt t103 x3) = x0 then (some x3) else (spec_mvIndex.L0 x0 (wrap64 (x3 + 1)))) else (none)) else (none))) else (some (-1)))) := by
  refine Lim.succ_eq (spec_mvIndex.L0_lim x0 x3).mon ?_
  simp only [spec_mvIndex.l0]
  repeat' first
  | (with_reducible exact spec_mvIndex.L0_lim _ _)
  | (with_reducible refine Lim.ite ?_ ?_)
  | (with_reducible refine Lim.bind ?_ (fun _ => ?_))
  | (with_reducible exact Lim.const _)
theorem spec_mvIndex.F_eq (a0 : Int) : spec_mvIndex.F a0 = (spec_mvIndex.L0 a0 0) := by
  refine Lim.eq_ ?_
  simp only [spec_mvIndex.f]
  repeat' first
  | (with_reducible exact spec_mvIndex.L0_lim _ _)
  | (with_reducible refine Lim.ite ?_ ?_)
  | (with_reducible refine Lim.bind ?_ (fun _ => ?_))
  | (with_reducible exact Lim.const _)
def spec_mvSteps.l0 : Nat → ByteArray → Int → Option (Bool)
  | 0, _, _ => none
  | k + 1, x0, x3 => if x3 < (x0.size : Int) then (if 0 ≤ x3 then ((spec_mvIndex.f k (bt x0 x3)).bind fun t104 => (if t104 < 0 then (some false) else (spec_mvSteps.l0 k x0 (wrap64 (x3 + 1))))) else (none)) else (some true)
def spec_mvSteps.f (k : Nat) (a0 : ByteArray) : Option (Bool) := spec_mvSteps.l0 k a0 0
theorem spec_mvSteps.mono_l : ∀ k, (∀ y0 y1, LeO (spec_mvSteps.l0 k y0 y1) (spec_mvSteps.l0 (k + 1) y0 y1))
  | 0 => fun _ _ r h => by simp [spec_mvSteps.l0] at h
  | k + 1 => by
    have ih0 := spec_mvSteps.mono_l k
    · intro y0 y1
      unfold spec_mvSteps.l0
      repeat' first
      | (with_reducible exact ih0 _ _)
      | (with_reducible exact spec_mvIndex.mono _ _)
      | (with_reducible exact LeO.refl _)
      | (with_reducible exact LeO.none _)
      | (with_reducible refine LeO.ite ?_ ?_)
      | (with_reducible refine LeO.bind ?_ (fun _ => ?_))
      | exact ih0 _ _
      | exact spec_mvIndex.mono _ _
      | exact LeO.none _
      | refine LeO.ite ?_ ?_
      | refine LeO.bind ?_ (fun _ => ?_)
theorem spec_mvSteps.mono : ∀ a0 k, LeO (spec_mvSteps.f k a0) (spec_mvSteps.f (k + 1) a0) := by
  intro a0 k
  have ih0 := spec_mvSteps.mono_l k
  unfold spec_mvSteps.f
  repeat' first
      | (with_reducible exact ih0 _ _)
      | (with_reducible exact spec_mvIndex.mono _ _)
      | (with_reducible exact LeO.refl _)
      | (with_reducible exact LeO.none _)
      | (with_reducible refine LeO.ite ?_ ?_)
      | (with_reducible refine LeO.bind ?_ (fun _ => ?_))
      | exact ih0 _ _
      | exact spec_mvIndex.mono _ _
      | exact LeO.none _
      | refine LeO.ite ?_ ?_
      | refine LeO.bind ?_ (fun _ => ?_)
noncomputable def spec_mvSteps.L0 (x0 : ByteArray) (x3 : Int) : Option (Bool) := lim fun k => spec_mvSteps.l0 k x0 x3
theorem spec_mvSteps.L0_lim (x0 : ByteArray) (x3 : Int) : Lim (fun k => spec_mvSteps.l0 k x0 x3) (spec_mvSteps.L0 x0 x3) := ⟨fun k => (spec_mvSteps.mono_l k) x0 x3, rfl⟩
noncomputable def spec_mvSteps.F (a0 : ByteArray) : Option (Bool) := lim fun k => spec_mvSteps.f k a0
theorem spec_mvSteps.F_lim (a0 : ByteArray) : Lim (fun k => spec_mvSteps.f k a0) (spec_mvSteps.F a0) := ⟨spec_mvSteps.mono a0, rfl⟩
theorem spec_mvSteps.L0_eq (x0 : ByteArray) (x3 : Int) : spec_mvSteps.L0 x0 x3 = (if x3 < (x0.size : Int) then (if 0 ≤ x3 then ((spec_mvIndex.F (bt x0 x3)).bind fun t104 => (if t104 < 0 then (some false) else (spec_mvSteps.L0 x0 (wrap64 (x3 + 1))))) else (none)) else (some true)) := by
  refine Lim.succ_eq (spec_mvSteps.L0_lim x0 x3).mon ?_
  simp only [spec_mvSteps.l0]
  repeat' first
  | (with_reducible exact spec_mvSteps.L0_lim _ _)
  | (with_reducible exact spec_mvIndex.F_lim _)
  | (with_reducible refine Lim.ite ?_ ?_)
  | (with_reducible refine Lim.bind ?_ (fun _ => ?_))
  | (with_reducible exact Lim.const _)
theorem spec_mvSteps.F_eq (a0 : ByteArray) : spec_mvSteps.F a0 = (spec_mvSteps.L0 a0 0) := by
  refine Lim.eq_ ?_
  simp only [spec_mvSteps.f]
  repeat' first
  | (with_reducible exact spec_mvSteps.L0_lim _ _)
  | (with_reducible exact spec_mvIndex.F_lim _)
  | (with_reducible refine Lim.ite ?_ ?_)
  | (with_reducible refine Lim.bind ?_ (fun _ => ?_))
  | (with_reducible exact Lim.const _)
def spec_mvGood.f (k : Nat) (a0_0 : ByteArray) (a0_1 : Int) : Option (Bool) := if (a0_0.size : Int) ≤ 6 then ((spec_mvSteps.f k a0_0).bind fun t106 => (if t106 = true then ((spec_l1In.f a0_1 1 3).bind fun t107 => (if t107 = true then (if a0_0.toList = ([] : List UInt8) then (some (a0_1 == 1)) else (some true)) else (some false))) else (some false))) else (some false)
theorem spec_mvGood.mono : ∀ a0 a1 k, LeO (spec_mvGood.f k a0 a1) (spec_mvGood.f (k + 1) a0 a1) := by
  intro a0 a1 k
  unfold spec_mvGood.f
  repeat' first
      | (with_reducible exact spec_mvSteps.mono _ _)
      | (with_reducible exact LeO.refl _)
      | (with_reducible exact LeO.none _)
      | (with_reducible refine LeO.ite ?_ ?_)
      | (with_reducible refine LeO.bind ?_ (fun _ => ?_))
      | exact spec_mvSteps.mono _ _
      | exact LeO.none _
      | refine LeO.ite ?_ ?_
      | refine LeO.bind ?_ (fun _ => ?_)
noncomputable def spec_mvGood.F (a0_0 : ByteArray) (a0_1 : Int) : Option (Bool) := lim fun k => spec_mvGood.f k a0_0 a0_1
theorem spec_mvGood.F_lim (a0_0 : ByteArray) (a0_1 : Int) : Lim (fun k => spec_mvGood.f k a0_0 a0_1) (spec_mvGood.F a0_0 a0_1) := ⟨spec_mvGood.mono a0_0 a0_1, rfl⟩
theorem spec_mvGood.F_eq (a0_0 : ByteArray) (a0_1 : Int) : spec_mvGood.F a0_0 a0_1 = (if (a0_0.size : Int) ≤ 6 then ((spec_mvSteps.F a0_0).bind fun t106 => (if t106 = true then ((spec_l1In.f a0_1 1 3).bind fun t107 => (if t107 = true then (if a0_0.toList = ([] : List UInt8) then (some (a0_1 == 1)) else (some true)) else (some false))) else (some false))) else (some false)) := by
  refine Lim.eq_ ?_
  simp only [spec_mvGood.f]
  repeat' first
  | (with_reducible exact spec_mvSteps.F_lim _)
  | (with_reducible refine Lim.ite ?_ ?_)
  | (with_reducible refine Lim.bind ?_ (fun _ => ?_))
  | (with_reducible exact Lim.const _)
def spec_l1Num.f : Nat → Int → Option (ByteArray)
  | 0, _ => none
  | k + 1, a0 => if a0 < 10 then (some (strOfNums (([(wrap64 (48 + a0)) % 256] : List Int)))) else ((spec_l1Num.f k (wrap64 (Int.tdiv a0 10))).bind fun t111 => ((some (([(wrap64 (48 + (Int.tmod a0 10))) % 256] : List Int) : List Int)).bind fun y112 => (if t111.size + (strOfNums y112).size ≤ 9223372036854775807 then (some (t111 ++ (strOfNums y112))) else (none))))
theorem spec_l1Num.mono_l : ∀ k, (∀ y0, LeO (spec_l1Num.f k y0) (spec_l1Num.f (k + 1) y0))
  | 0 => fun _ r h => by simp [spec_l1Num.f] at h
  | k + 1 => by
    have ih0 := spec_l1Num.mono_l k
    · intro y0
      unfold spec_l1Num.f
      repeat' first
      | (with_reducible exact ih0 _)
      | (with_reducible exact LeO.refl _)
      | (with_reducible exact LeO.none _)
      | (with_reducible refine LeO.ite ?_ ?_)
      | (with_reducible refine LeO.bind ?_ (fun _ => ?_))
      | exact ih0 _
      | exact LeO.none _
      | refine LeO.ite ?_ ?_
      | refine LeO.bind ?_ (fun _ => ?_)
theorem spec_l1Num.mono : ∀ a0 k, LeO (spec_l1Num.f k a0) (spec_l1Num.f (k + 1) a0) := by
  intro a0 k
  have ih0 := spec_l1Num.mono_l k
  exact ih0 a0
noncomputable def spec_l1Num.F (a0 : Int) : Option (ByteArray) := lim fun k => spec_l1Num.f k a0
theorem spec_l1Num.F_lim (a0 : Int) : Lim (fun k => spec_l1Num.f k a0) (spec_l1Num.F a0) := ⟨spec_l1Num.mono a0, rfl⟩
theorem spec_l1Num.F_eq (a0 : Int) : spec_l1Num.F a0 = (if a0 < 10 then (some (strOfNums (([(wrap64 (48 + a0)) % 256] : List Int)))) else ((spec_l1Num.F (wrap64 (Int.tdiv a0 10))).bind fun t111 => ((some (([(wrap64 (48 + (Int.tmod a0 10))) % 256] : List Int) : List Int)).bind fun y112 => (if t111.size + (strOfNums y112).size ≤ 9223372036854775807 then (some (t111 ++ (strOfNums y112))) else (none))))) := by
  refine Lim.succ_eq (spec_l1Num.F_lim a0).mon ?_
  simp only [spec_l1Num.f]
  repeat' first
  | (with_reducible exact spec_l1Num.F_lim _)
  | (with_reducible refine Lim.ite ?_ ?_)
  | (with_reducible refine Lim.bind ?_ (fun _ => ?_))
  | (with_reducible exact Lim.const _)
def spec_mvText.f (k : Nat) (a0_0 : ByteArray) (a0_1 : Int) : Option (ByteArray) := if a0_0.toList = ([] : List UInt8) then (some (⟨#[45]⟩ : ByteArray)) else (if a0_1 > 1 then (if a0_0.size + 1 ≤ 9223372036854775807 then ((spec_l1Num.f k a0_1).bind fun t116 => (if (a0_0 ++ (⟨#[42]⟩ : ByteArray)).size + t116.size ≤ 9223372036854775807 then (some ((a0_0 ++ (⟨#[42]⟩ : ByteArray)) ++ t116)) else (none))) else (none)) else (some a0_0))
theorem spec_mvText.mono : ∀ a0 a1 k, LeO (spec_mvText.f k a0 a1) (spec_mvText.f (k + 1) a0 a1) := by
  intro a0 a1 k
  unfold spec_mvText.f
  repeat' first
      | (with_reducible exact spec_l1Num.mono _ _)
      | (with_reducible exact LeO.refl _)
      | (with_reducible exact LeO.none _)
      | (with_reducible refine LeO.ite ?_ ?_)
      | (with_reducible refine LeO.bind ?_ (fun _ => ?_))
      | exact spec_l1Num.mono _ _
      | exact LeO.none _
      | refine LeO.ite ?_ ?_
      | refine LeO.bind ?_ (fun _ => ?_)
noncomputable def spec_mvText.F (a0_0 : ByteArray) (a0_1 : Int) : Option (ByteArray) := lim fun k => spec_mvText.f k a0_0 a0_1
theorem spec_mvText.F_lim (a0_0 : ByteArray) (a0_1 : Int) : Lim (fun k => spec_mvText.f k a0_0 a0_1) (spec_mvText.F a0_0 a0_1) := ⟨spec_mvText.mono a0_0 a0_1, rfl⟩
theorem spec_mvText.F_eq (a0_0 : ByteArray) (a0_1 : Int) : spec_mvText.F a0_0 a0_1 = (if a0_0.toList = ([] : List UInt8) then (some (⟨#[45]⟩ : ByteArray)) else (if a0_1 > 1 then (if a0_0.size + 1 ≤ 9223372036854775807 then ((spec_l1Num.F a0_1).bind fun t116 => (if (a0_0 ++ (⟨#[42]⟩ : ByteArray)).size + t116.size ≤ 9223372036854775807 then (some ((a0_0 ++ (⟨#[42]⟩ : ByteArray)) ++ t116)) else (none))) else (none)) else (some a0_0))) := by
  refine Lim.eq_ ?_
  simp only [spec_mvText.f]
  repeat' first
  | (with_reducible exact spec_l1Num.F_lim _)
  | (with_reducible refine Lim.ite ?_ ?_)
  | (with_reducible refine Lim.bind ?_ (fun _ => ?_))
  | (with_reducible exact Lim.const _)
def spec_MoveText.f (k : Nat) (a0_0 : ByteArray) (a0_1 : Int) : Option (ByteArray × Bool) := (spec_mvGood.f k a0_0 a0_1).bind fun t118 => (if t118 = true then ((spec_mvText.f k a0_0 a0_1).bind fun t119 => (some (t119, true))) else (some ((⟨#[]⟩ : ByteArray), false)))
theorem spec_MoveText.mono : ∀ a0 a1 k, LeO (spec_MoveText.f k a0 a1) (spec_MoveText.f (k + 1) a0 a1) := by
  intro a0 a1 k
  unfold spec_MoveText.f
  repeat' first
      | (with_reducible exact spec_mvGood.mono _ _ _)
      | (with_reducible exact spec_mvText.mono _ _ _)
      | (with_reducible exact LeO.refl _)
      | (with_reducible exact LeO.none _)
      | (with_reducible refine LeO.ite ?_ ?_)
      | (with_reducible refine LeO.bind ?_ (fun _ => ?_))
      | exact spec_mvGood.mono _ _ _
      | exact spec_mvText.mono _ _ _
      | exact LeO.none _
      | refine LeO.ite ?_ ?_
      | refine LeO.bind ?_ (fun _ => ?_)
noncomputable def spec_MoveText.F (a0_0 : ByteArray) (a0_1 : Int) : Option (ByteArray × Bool) := lim fun k => spec_MoveText.f k a0_0 a0_1
theorem spec_MoveText.F_lim (a0_0 : ByteArray) (a0_1 : Int) : Lim (fun k => spec_MoveText.f k a0_0 a0_1) (spec_MoveText.F a0_0 a0_1) := ⟨spec_MoveText.mono a0_0 a0_1, rfl⟩
theorem spec_MoveText.F_eq (a0_0 : ByteArray) (a0_1 : Int) : spec_MoveText.F a0_0 a0_1 = ((spec_mvGood.F a0_0 a0_1).bind fun t118 => (if t118 = true then ((spec_mvText.F a0_0 a0_1).bind fun t119 => (some (t119, true))) else (some ((⟨#[]⟩ : ByteArray), false)))) := by
  refine Lim.eq_ ?_
  simp only [spec_MoveText.f]
  repeat' first
  | (with_reducible exact spec_mvGood.F_lim _ _)
  | (with_reducible exact spec_mvText.F_lim _ _)
  | (with_reducible refine Lim.ite ?_ ?_)
  | (with_reducible refine Lim.bind ?_ (fun _ => ?_))
  | (with_reducible exact Lim.const _)
def laws_toMove.f (a0_0 : ByteArray) (a0_1 : Int) : Option (ByteArray × Int) := some (a0_0, a0_1)
def impl_within.f (a0 : Int) (a1 : Int) (a2 : Int) : Option (Bool) := if a0 ≥ a1 then (some (decide (a0 ≤ a2))) else (some false)
def stringslite_IndexByte.f (a0 : ByteArray) (a1 : Int) : Option (Int) := some (Lib.indexByte a0.data.toList a1.toNat.toUInt8)
def strings_IndexByte.f (a0 : ByteArray) (a1 : Int) : Option (Int) := (stringslite_IndexByte.f a0 a1).bind fun t123 => (some t123)
def impl_hasOnly.l0 : Nat → ByteArray → ByteArray → Int → Int → Option (Bool)
  | 0, _, _, _, _ => none
  | k + 1, x0, x1, x7, x8 => if x8 < x7 then (if 0 ≤ x8 then (if x8 < (x0.size : Int) then ((strings_IndexByte.f x1 (bt x0 x8)).bind fun t124 => (if t124 < 0 then (some false) else (impl_hasOnly.l0 k x0 x1 x7 (wrap64 (x8 + 1))))) else (none)) else (none)) else (some true)
def impl_hasOnly.f (k : Nat) (a0 : ByteArray) (a1 : ByteArray) : Option (Bool) := impl_hasOnly.l0 k a0 a1 (a0.size : Int) 0
theorem impl_hasOnly.mono_l : ∀ k, (∀ y0 y1 y2 y3, LeO (impl_hasOnly.l0 k y0 y1 y2 y3) (impl_hasOnly.l0 (k + 1) y0 y1 y2 y3))
  | 0 => fun _ _ _ _ r h => by simp [impl_hasOnly.l0] at h
  | k + 1 => by
    have ih0 := impl_hasOnly.mono_l k
    · intro y0 y1 y2 y3
      unfold impl_hasOnly.l0
      repeat' first
      | (with_reducible exact ih0 _ _ _ _)
      | (with_reducible exact LeO.refl _)
      | (with_reducible exact LeO.none _)
      | (with_reducible refine LeO.ite ?_ ?_)
      | (with_reducible refine LeO.bind ?_ (fun _ => ?_))
      | exact ih0 _ _ _ _
      | exact LeO.none _
      | refine LeO.ite ?_ ?_
      | refine LeO.bind ?_ (fun _ => ?_)
theorem impl_hasOnly.mono : ∀ a0 a1 k, LeO (impl_hasOnly.f k a0 a1) (impl_hasOnly.f (k + 1) a0 a1) := by
  intro a0 a1 k
  have ih0 := impl_hasOnly.mono_l k
  unfold impl_hasOnly.f
  repeat' first
      | (with_reducible exact ih0 _ _ _ _)
      | (with_reducible exact LeO.refl _)
      | (with_reducible exact LeO.none _)
      | (with_reducible refine LeO.ite ?_ ?_)
      | (with_reducible refine LeO.bind ?_ (fun _ => ?_))
      | exact ih0 _ _ _ _
      | exact LeO.none _
      | refine LeO.ite ?_ ?_
      | refine LeO.bind ?_ (fun _ => ?_)
noncomputable def impl_hasOnly.L0 (x0 : ByteArray) (x1 : ByteArray) (x7 : Int) (x8 : Int) : Option (Bool) := lim fun k => impl_hasOnly.l0 k x0 x1 x7 x8
theorem impl_hasOnly.L0_lim (x0 : ByteArray) (x1 : ByteArray) (x7 : Int) (x8 : Int) : Lim (fun k => impl_hasOnly.l0 k x0 x1 x7 x8) (impl_hasOnly.L0 x0 x1 x7 x8) := ⟨fun k => (impl_hasOnly.mono_l k) x0 x1 x7 x8, rfl⟩
noncomputable def impl_hasOnly.F (a0 : ByteArray) (a1 : ByteArray) : Option (Bool) := lim fun k => impl_hasOnly.f k a0 a1
theorem impl_hasOnly.F_lim (a0 : ByteArray) (a1 : ByteArray) : Lim (fun k => impl_hasOnly.f k a0 a1) (impl_hasOnly.F a0 a1) := ⟨impl_hasOnly.mono a0 a1, rfl⟩
theorem impl_hasOnly.L0_eq (x0 : ByteArray) (x1 : ByteArray) (x7 : Int) (x8 : Int) : impl_hasOnly.L0 x0 x1 x7 x8 = (if x8 < x7 then (if 0 ≤ x8 then (if x8 < (x0.size : Int) then ((strings_IndexByte.f x1 (bt x0 x8)).bind fun t124 => (if t124 < 0 then (some false) else (impl_hasOnly.L0 x0 x1 x7 (wrap64 (x8 + 1))))) else (none)) else (none)) else (some true)) := by
  refine Lim.succ_eq (impl_hasOnly.L0_lim x0 x1 x7 x8).mon ?_
  simp only [impl_hasOnly.l0]
  repeat' first
  | (with_reducible exact impl_hasOnly.L0_lim _ _ _ _)
  | (with_reducible refine Lim.ite ?_ ?_)
  | (with_reducible refine Lim.bind ?_ (fun _ => ?_))
  | (with_reducible exact Lim.const _)
theorem impl_hasOnly.F_eq (a0 : ByteArray) (a1 : ByteArray) : impl_hasOnly.F a0 a1 = (impl_hasOnly.L0 a0 a1 (a0.size : Int) 0) := by
  refine Lim.eq_ ?_
  simp only [impl_hasOnly.f]
  repeat' first
  | (with_reducible exact impl_hasOnly.L0_lim _ _ _ _)
  | (with_reducible refine Lim.ite ?_ ?_)
  | (with_reducible refine Lim.bind ?_ (fun _ => ?_))
  | (with_reducible exact Lim.const _)
def impl_IsMove.f (k : Nat) (a0_0 : ByteArray) (a0_1 : Int) : Option (Bool) := if (a0_0.size : Int) ≤ 6 then ((impl_hasOnly.f k a0_0 (⟨#[117, 100, 108, 114, 102, 98]⟩ : ByteArray)).bind fun t126 => (if t126 = true then ((impl_within.f a0_1 1 3).bind fun t127 => (if t127 = true then (if a0_0.toList = ([] : List UInt8) then (some (a0_1 == 1)) else (some true)) else (some false))) else (some false))) else (some false)
theorem impl_IsMove.mono : ∀ a0 a1 k, LeO (impl_IsMove.f k a0 a1) (impl_IsMove.f (k + 1) a0 a1) := by
  intro a0 a1 k
  unfold impl_IsMove.f
  repeat' first
      | (with_reducible exact impl_hasOnly.mono _ _ _)
      | (with_reducible exact LeO.refl _)
      | (with_reducible exact LeO.none _)
      | (with_reducible refine LeO.ite ?_ ?_)
      | (with_reducible refine LeO.bind ?_ (fun _ => ?_))
      | exact impl_hasOnly.mono _ _ _
      | exact LeO.none _
      | refine LeO.ite ?_ ?_
      | refine LeO.bind ?_ (fun _ => ?_)
noncomputable def impl_IsMove.F (a0_0 : ByteArray) (a0_1 : Int) : Option (Bool) := lim fun k => impl_IsMove.f k a0_0 a0_1
theorem impl_IsMove.F_lim (a0_0 : ByteArray) (a0_1 : Int) : Lim (fun k => impl_IsMove.f k a0_0 a0_1) (impl_IsMove.F a0_0 a0_1) := ⟨impl_IsMove.mono a0_0 a0_1, rfl⟩
theorem impl_IsMove.F_eq (a0_0 : ByteArray) (a0_1 : Int) : impl_IsMove.F a0_0 a0_1 = (if (a0_0.size : Int) ≤ 6 then ((impl_hasOnly.F a0_0 (⟨#[117, 100, 108, 114, 102, 98]⟩ : ByteArray)).bind fun t126 => (if t126 = true then ((impl_within.f a0_1 1 3).bind fun t127 => (if t127 = true then (if a0_0.toList = ([] : List UInt8) then (some (a0_1 == 1)) else (some true)) else (some false))) else (some false))) else (some false)) := by
  refine Lim.eq_ ?_
  simp only [impl_IsMove.f]
  repeat' first
  | (with_reducible exact impl_hasOnly.F_lim _ _)
  | (with_reducible refine Lim.ite ?_ ?_)
  | (with_reducible refine Lim.bind ?_ (fun _ => ?_))
  | (with_reducible exact Lim.const _)
def strconv_Itoa.f (a0 : Int) : Option (ByteArray) := if 0 ≤ a0 ∧ a0 < 100 then some ⟨(Lib.decDigits a0.toNat).toArray⟩ else none
def impl_Move_text.f (a0_0 : ByteArray) (a0_1 : Int) : Option (ByteArray) := if a0_0.toList = ([] : List UInt8) then (some (⟨#[45]⟩ : ByteArray)) else (if a0_1 = 1 then (some a0_0) else (if a0_0.size + 1 ≤ 9223372036854775807 then ((strconv_Itoa.f a0_1).bind fun t129 => (if (a0_0 ++ (⟨#[42]⟩ : ByteArray)).size + t129.size ≤ 9223372036854775807 then (some ((a0_0 ++ (⟨#[42]⟩ : ByteArray)) ++ t129)) else (none))) else (none)))
def impl_MoveText.f (k : Nat) (a0_0 : ByteArray) (a0_1 : Int) : Option (ByteArray × Bool) := (impl_IsMove.f k a0_0 a0_1).bind fun t131 => (if t131 = true then ((impl_Move_text.f a0_0 a0_1).bind fun t132 => (some (t132, true))) else (some ((⟨#[]⟩ : ByteArray), false)))
theorem impl_MoveText.mono : ∀ a0 a1 k, LeO (impl_MoveText.f k a0 a1) (impl_MoveText.f (k + 1) a0 a1) := by
  intro a0 a1 k
  unfold impl_MoveText.f
  repeat' first
      | (with_reducible exact impl_IsMove.mono _ _ _)
      | (with_reducible exact LeO.refl _)
      | (with_reducible exact LeO.none _)
      | (with_reducible refine LeO.ite ?_ ?_)
      | (with_reducible refine LeO.bind ?_ (fun _ => ?_))
      | exact impl_IsMove.mono _ _ _
      | exact LeO.none _
      | refine LeO.ite ?_ ?_
      | refine LeO.bind ?_ (fun _ => ?_)
noncomputable def impl_MoveText.F (a0_0 : ByteArray) (a0_1 : Int) : Option (ByteArray × Bool) := lim fun k => impl_MoveText.f k a0_0 a0_1
theorem impl_MoveText.F_lim (a0_0 : ByteArray) (a0_1 : Int) : Lim (fun k => impl_MoveText.f k a0_0 a0_1) (impl_MoveText.F a0_0 a0_1) := ⟨impl_MoveText.mono a0_0 a0_1, rfl⟩
theorem impl_MoveText.F_eq (a0_0 : ByteArray) (a0_1 : Int) : impl_MoveText.F a0_0 a0_1 = ((impl_IsMove.F a0_0 a0_1).bind fun t131 => (if t131 = true then ((impl_Move_text.f a0_0 a0_1).bind fun t132 => (some (t132, true))) else (some ((⟨#[]⟩ : ByteArray), false)))) := by
  refine Lim.eq_ ?_
  simp only [impl_MoveText.f]
  repeat' first
  | (with_reducible exact impl_IsMove.F_lim _ _)
  | (with_reducible refine Lim.ite ?_ ?_)
  | (with_reducible refine Lim.bind ?_ (fun _ => ?_))
  | (with_reducible exact Lim.const _)
def laws_FnExactMoveText.f (k : Nat) (a0_0 : ByteArray) (a0_1 : Int) : Option (Bool) := (laws_szMove.f a0_0 a0_1 1048576).bind fun t134 => (if t134 < 0 then (some true) else ((laws_toMove.f a0_0 a0_1).bind fun bt135 => ((spec_MoveText.f k bt135.1 bt135.2).bind fun bt137 => ((laws_toMove.f a0_0 a0_1).bind fun bt139 => ((impl_MoveText.f k bt139.1 bt139.2).bind fun bt141 => (if bt141.1.toList = bt137.1.toList then (if (bt141.2 != bt137.2) = true then (some false) else (some true)) else (some false)))))))
theorem laws_FnExactMoveText.mono : ∀ a0 a1 k, LeO (laws_FnExactMoveText.f k a0 a1) (laws_FnExactMoveText.f (k + 1) a0 a1) := by
  intro a0 a1 k
  unfold laws_FnExactMoveText.f
  repeat' first
      | (with_reducible exact impl_MoveText.mono _ _ _)
      | (with_reducible exact spec_MoveText.mono _ _ _)
      | (with_reducible exact LeO.refl _)
      | (with_reducible exact LeO.none _)
      | (with_reducible refine LeO.ite ?_ ?_)
      | (with_reducible refine LeO.bind ?_ (fun _ => ?_))
      | exact impl_MoveText.mono _ _ _
      | exact spec_MoveText.mono _ _ _
      | exact LeO.none _
      | refine LeO.ite ?_ ?_
      | refine LeO.bind ?_ (fun _ => ?_)
noncomputable def laws_FnExactMoveText.F (a0_0 : ByteArray) (a0_1 : Int) : Option (Bool) := lim fun k => laws_FnExactMoveText.f k a0_0 a0_1
theorem laws_FnExactMoveText.F_lim (a0_0 : ByteArray) (a0_1 : Int) : Lim (fun k => laws_FnExactMoveText.f k a0_0 a0_1) (laws_FnExactMoveText.F a0_0 a0_1) := ⟨laws_FnExactMoveText.mono a0_0 a0_1, rfl⟩
theorem laws_FnExactMoveText.F_eq (a0_0 : ByteArray) (a0_1 : Int) : laws_FnExactMoveText.F a0_0 a0_1 = ((laws_szMove.f a0_0 a0_1 1048576).bind fun t134 => (if t134 < 0 then (some true) else ((laws_toMove.f a0_0 a0_1).bind fun bt135 => ((spec_MoveText.F bt135.1 bt135.2).bind fun bt137 => ((laws_toMove.f a0_0 a0_1).bind fun bt139 => ((impl_MoveText.F bt139.1 bt139.2).bind fun bt141 => (if bt141.1.toList = bt137.1.toList then (if (bt141.2 != bt137.2) = true then (some false) else (some true)) else (some false)))))))) := by
  refine Lim.eq_ ?_
  simp only [laws_FnExactMoveText.f]
  repeat' first
  | (with_reducible exact impl_MoveText.F_lim _ _)
  | (with_reducible exact spec_MoveText.F_lim _ _)
  | (with_reducible refine Lim.ite ?_ ?_)
  | (with_reducible refine Lim.bind ?_ (fun _ => ?_))
  | (with_reducible exact Lim.const _)
def Wf29 (x : S29) : Prop := x.f0.size ≤ 9223372036854775807 ∧ (Lit.int .i64 x.f1).wf = true
def laws_FnExactMoveText.Pure : Prop := ∀ (a0_0 : ByteArray) (a0_1 : Int), Wf29 (⟨a0_0, a0_1⟩ : S29) → ∃ k, laws_FnExactMoveText.f k a0_0 a0_1 = some true
end Go.Proofs.YtmffndjbpealmaaDoor.PFnExactMoveText
