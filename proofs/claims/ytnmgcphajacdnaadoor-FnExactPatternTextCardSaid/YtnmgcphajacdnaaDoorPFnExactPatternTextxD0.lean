/- Written by a program of this claim's author, out of the loaded program as Lean prints it: the functions as Lean functions, and that the calls answer so. -/
import Derived.Test.YtnmgcphajacdnaaDoorPFnExactPatternTextx0
namespace Go.Proofs.YtnmgcphajacdnaaDoor.PFnExactPatternText
open Go.RowKit Go.Proofs.YtnmgcphajacdnaaDoorW.PrintWords Go.Proofs.YtnmgcphajacdnaaDoorW.PrintLast Go.Proofs.YtnmgcphajacdnaaDoorW.PrintMore
attribute [local go_sem] max2_int min2_int max_two min_two max_three min_three max_four min_four   -- for this text's walks alone
set_option linter.unusedVariables false
set_option linter.unusedSimpArgs false

def laws_szPattern.f (a0_0 : ByteArray) (a0_1 : ByteArray) (a0_2 : Int) (a0_3 : ByteArray) (a0_4 : Int) (a1 : Int) : Option (Int) := if (wrap64 (a1 - (a0_0.size : Int))) < 0 then (some (-1)) else (if (wrap64 ((wrap64 (a1 - (a0_0.size : Int))) - (a0_1.size : Int))) < 0 then (some (-1)) else (if (wrap64 ((wrap64 ((wrap64 (a1 - (a0_0.size : Int))) - (a0_1.size : Int))) - (a0_3.size : Int))) < 0 then (some (-1)) else (some (wrap64 ((wrap64 ((wrap64 (a1 - (a0_0.size : Int))) - (a0_1.size : Int))) - (a0_3.size : Int))))))
def spec_seIn.l0 : Nat → ByteArray → Int → Int → Option (Bool)
  | 0, _, _, _ => none
  | k + 1, x0, x1, x5 => if x5 < (x0.size : Int) then (if 0 ≤ x5 then (if (bt x0 x5) = x1 then (some true) else (spec_seIn.l0 k x0 x1 (wrap64 (x5 + 1)))) else (none)) else (some false)
def spec_seIn.f (k : Nat) (a0 : ByteArray) (a1 : Int) : Option (Bool) := spec_seIn.l0 k a0 a1 0
theorem spec_seIn.mono_l : ∀ k, (∀ y0 y1 y2, LeO (spec_seIn.l0 k y0 y1 y2) (spec_seIn.l0 (k + 1) y0 y1 y2))
  | 0 => fun _ _ _ r h => by simp [spec_seIn.l0] at h
  | k + 1 => by
    have ih0 := spec_seIn.mono_l k
    · intro y0 y1 y2
      unfold spec_seIn.l0
      repeat' first
      | (with_reducible exact ih0 _ _ _)
      | (with_reducible exact LeO.refl _)
      | (with_reducible exact LeO.none _)
      | (with_reducible refine LeO.ite ?_ ?_)
      | (with_reducible refine LeO.bind ?_ (fun _ => ?_))
      | exact ih0 _ _ _
      | exact LeO.none _
      | refine LeO.ite ?_ ?_
      | refine LeO.bind ?_ (fun _ => ?_)
theorem spec_seIn.mono : ∀ a0 a1 k, LeO (spec_seIn.f k a0 a1) (spec_seIn.f (k + 1) a0 a1) := by
  intro a0 a1 k
  have ih0 := spec_seIn.mono_l k
  unfold spec_seIn.f
  repeat' first
      | (with_reducible exact ih0 _ _ _)
      | (with_reducible exact LeO.refl _)
      | (with_reducible exact LeO.none _)
      | (with_reducible refine LeO.ite ?_ ?_)
      | (with_reducible refine LeO.bind ?_ (fun _ => ?_))
      | exact ih0 _ _ _
      | exact LeO.none _
      | refine LeO.ite ?_ ?_
      | refine LeO.bind ?_ (fun _ => ?_)
noncomputable def spec_seIn.L0 (x0 : ByteArray) (x1 : Int) (x5 : Int) : Option (Bool) := lim fun k => spec_seIn.l0 k x0 x1 x5
theorem spec_seIn.L0_lim (x0 : ByteArray) (x1 : Int) (x5 : Int) : Lim (fun k => spec_seIn.l0 k x0 x1 x5) (spec_seIn.L0 x0 x1 x5) := ⟨fun k => (spec_seIn.mono_l k) x0 x1 x5, rfl⟩
noncomputable def spec_seIn.F (a0 : ByteArray) (a1 : Int) : Option (Bool) := lim fun k => spec_seIn.f k a0 a1
theorem spec_seIn.F_lim (a0 : ByteArray) (a1 : Int) : Lim (fun k => spec_seIn.f k a0 a1) (spec_seIn.F a0 a1) := ⟨spec_seIn.mono a0 a1, rfl⟩
theorem spec_seIn.L0_eq (x0 : ByteArray) (x1 : Int) (x5 : Int) : spec_seIn.L0 x0 x1 x5 = (if x5 < (x0.size : Int) then (if 0 ≤ x5 then (if (bt x0 x5) = x1 then (some true) else (spec_seIn.L0 x0 x1 (wrap64 (x5 + 1)))) else (none)) else (some false)) := by
  refine Lim.succ_eq (spec_seIn.L0_lim x0 x1 x5).mon ?_
  simp only [spec_seIn.l0]
  repeat' first
  | (with_reducible exact spec_seIn.L0_lim _ _ _)
  | (with_reducible refine Lim.ite ?_ ?_)
  | (with_reducible refine Lim.bind ?_ (fun _ => ?_))
  | (with_reducible exact Lim.const _)
theorem spec_seIn.F_eq (a0 : ByteArray) (a1 : Int) : spec_seIn.F a0 a1 = (spec_seIn.L0 a0 a1 0) := by
  refine Lim.eq_ ?_
  simp only [spec_seIn.f]
  repeat' first
  | (with_reducible exact spec_seIn.L0_lim _ _ _)
  | (with_reducible refine Lim.ite ?_ ?_)
  | (with_reducible refine Lim.bind ?_ (fun _ => ?_))
  | (with_reducible exact Lim.const _)
def spec_seWild.l0 : Nat → ByteArray → ByteArray → Int → Option (Bool)
  | 0, _, _, _ => none
  | k + 1, x0, x1, x7 => if x7 < (x0.size : Int) then (if 0 ≤ x7 then (if (bt x0 x7) = 63 then (spec_seWild.l0 k x0 x1 (wrap64 (x7 + 1))) else ((spec_seIn.f k x1 (bt x0 x7)).bind fun t102 => (if t102 = true then (spec_seWild.l0 k x0 x1 (wrap64 (x7 + 1))) else (some false)))) else (none)) else (some true)
def spec_seWild.f (k : Nat) (a0 : ByteArray) (a1 : ByteArray) (a2 : Int) : Option (Bool) := if (a0.size : Int) = a2 then (spec_seWild.l0 k a0 a1 0) else (some false)
theorem spec_seWild.mono_l : ∀ k, (∀ y0 y1 y2, LeO (spec_seWild.l0 k y0 y1 y2) (spec_seWild.l0 (k + 1) y0 y1 y2))
  | 0 => fun _ _ _ r h => by simp [spec_seWild.l0] at h
  | k + 1 => by
    have ih0 := spec_seWild.mono_l k
    · intro y0 y1 y2
      unfold spec_seWild.l0
      repeat' first
      | (with_reducible exact ih0 _ _ _)
      | (with_reducible exact spec_seIn.mono _ _ _)
      | (with_reducible exact LeO.refl _)
      | (with_reducible exact LeO.none _)
      | (with_reducible refine LeO.ite ?_ ?_)
      | (with_reducible refine LeO.bind ?_ (fun _ => ?_))
      | exact ih0 _ _ _
      | exact spec_seIn.mono _ _ _
      | exact LeO.none _
      | refine LeO.ite ?_ ?_
      | refine LeO.bind ?_ (fun _ => ?_)
theorem spec_seWild.mono : ∀ a0 a1 a2 k, LeO (spec_seWild.f k a0 a1 a2) (spec_seWild.f (k + 1) a0 a1 a2) := by
  intro a0 a1 a2 k
  have ih0 := spec_seWild.mono_l k
  unfold spec_seWild.f
  repeat' first
      | (with_reducible exact ih0 _ _ _)
      | (with_reducible exact spec_seIn.mono _ _ _)
      | (with_reducible exact LeO.refl _)
      | (with_reducible exact LeO.none _)
      | (with_reducible refine LeO.ite ?_ ?_)
      | (with_reducible refine LeO.bind ?_ (fun _ => ?_))
      | exact ih0 _ _ _
      | exact spec_seIn.mono _ _ _
      | exact LeO.none _
      | refine LeO.ite ?_ ?_
      | refine LeO.bind ?_ (fun _ => ?_)
noncomputable def spec_seWild.L0 (x0 : ByteArray) (x1 : ByteArray) (x7 : Int) : Option (Bool) := lim fun k => spec_seWild.l0 k x0 x1 x7
theorem spec_seWild.L0_lim (x0 : ByteArray) (x1 : ByteArray) (x7 : Int) : Lim (fun k => spec_seWild.l0 k x0 x1 x7) (spec_seWild.L0 x0 x1 x7) := ⟨fun k => (spec_seWild.mono_l k) x0 x1 x7, rfl⟩
noncomputable def spec_seWild.F (a0 : ByteArray) (a1 : ByteArray) (a2 : Int) : Option (Bool) := lim fun k => spec_seWild.f k a0 a1 a2
theorem spec_seWild.F_lim (a0 : ByteArray) (a1 : ByteArray) (a2 : Int) : Lim (fun k => spec_seWild.f k a0 a1 a2) (spec_seWild.F a0 a1 a2) := ⟨spec_seWild.mono a0 a1 a2, rfl⟩
theorem spec_seWild.L0_eq (x0 : ByteArray) (x1 : ByteArray) (x7 : Int) : spec_seWild.L0 x0 x1 x7 = (if x7 < (x0.size : Int) then (if 0 ≤ x7 then (if (bt x0 x7) = 63 then (spec_seWild.L0 x0 x1 (wrap64 (x7 + 1))) else ((spec_seIn.F x1 (bt x0 x7)).bind fun t102 => (if t102 = true then (spec_seWild.L0 x0 x1 (wrap64 (x7 + 1))) else (some false)))) else (none)) else (some true)) := by
  refine Lim.succ_eq (spec_seWild.L0_lim x0 x1 x7).mon ?_
  simp only [spec_seWild.l0]
  repeat' first
  | (with_reducible exact spec_seWild.L0_lim _ _ _)
  | (with_reducible exact spec_seIn.F_lim _ _)
  | (with_reducible refine Lim.ite ?_ ?_)
  | (with_reducible refine Lim.bind ?_ (fun _ => ?_))
  | (with_reducible exact Lim.const _)
theorem spec_seWild.F_eq (a0 : ByteArray) (a1 : ByteArray) (a2 : Int) : spec_seWild.F a0 a1 a2 = (if (a0.size : Int) = a2 then (spec_seWild.L0 a0 a1 0) else (some false)) := by
  refine Lim.eq_ ?_
  simp only [spec_seWild.f]
  repeat' first
  | (with_reducible exact spec_seWild.L0_lim _ _ _)
  | (with_reducible exact spec_seIn.F_lim _ _)
  | (with_reducible refine Lim.ite ?_ ?_)
  | (with_reducible refine Lim.bind ?_ (fun _ => ?_))
  | (with_reducible exact Lim.const _)
def spec_l1In.f (a0 : Int) (a1 : Int) (a2 : Int) : Option (Bool) := if a0 ≥ a1 then (some (decide (a0 ≤ a2))) else (some false)
def spec_seGood.f (k : Nat) (a0_0 : ByteArray) (a0_1 : ByteArray) (a0_2 : Int) (a0_3 : ByteArray) (a0_4 : Int) : Option (Bool) := (spec_seWild.f k a0_0 (⟨#[48, 49, 50]⟩ : ByteArray) 5).bind fun t104 => (if t104 = true then ((spec_seWild.f k a0_1 (⟨#[117, 100, 108, 114, 102, 98]⟩ : ByteArray) 2).bind fun t105 => (if t105 = true then ((spec_l1In.f a0_2 (-1) 9).bind fun t106 => (if t106 = true then (if (a0_3.size : Int) ≤ 20 then ((spec_seWild.f k a0_3 (⟨#[117, 100, 108, 114, 102, 98, 42]⟩ : ByteArray) (a0_3.size : Int)).bind fun t107 => (if t107 = true then ((spec_l1In.f a0_4 0 2).bind fun t108 => (some t108)) else (some false))) else (some false)) else (some false))) else (some false))) else (some false))
theorem spec_seGood.mono : ∀ a0 a1 a2 a3 a4 k, LeO (spec_seGood.f k a0 a1 a2 a3 a4) (spec_seGood.f (k + 1) a0 a1 a2 a3 a4) := by
  intro a0 a1 a2 a3 a4 k
  unfold spec_seGood.f
  repeat' first
      | (with_reducible exact spec_seWild.mono _ _ _ _)
      | (with_reducible exact LeO.refl _)
      | (with_reducible exact LeO.none _)
      | (with_reducible refine LeO.ite ?_ ?_)
      | (with_reducible refine LeO.bind ?_ (fun _ => ?_))
      | exact spec_seWild.mono _ _ _ _
      | exact LeO.none _
      | refine LeO.ite ?_ ?_
      | refine LeO.bind ?_ (fun _ => ?_)
noncomputable def spec_seGood.F (a0_0 : ByteArray) (a0_1 : ByteArray) (a0_2 : Int) (a0_3 : ByteArray) (a0_4 : Int) : Option (Bool) := lim fun k => spec_seGood.f k a0_0 a0_1 a0_2 a0_3 a0_4
theorem spec_seGood.F_lim (a0_0 : ByteArray) (a0_1 : ByteArray) (a0_2 : Int) (a0_3 : ByteArray) (a0_4 : Int) : Lim (fun k => spec_seGood.f k a0_0 a0_1 a0_2 a0_3 a0_4) (spec_seGood.F a0_0 a0_1 a0_2 a0_3 a0_4) := ⟨spec_seGood.mono a0_0 a0_1 a0_2 a0_3 a0_4, rfl⟩
theorem spec_seGood.F_eq (a0_0 : ByteArray) (a0_1 : ByteArray) (a0_2 : Int) (a0_3 : ByteArray) (a0_4 : Int) : spec_seGood.F a0_0 a0_1 a0_2 a0_3 a0_4 = ((spec_seWild.F a0_0 (⟨#[48, 49, 50]⟩ : ByteArray) 5).bind fun t104 => (if t104 = true then ((spec_seWild.F a0_1 (⟨#[117, 100, 108, 114, 102, 98]⟩ : ByteArray) 2).bind fun t105 => (if t105 = true then ((spec_l1In.f a0_2 (-1) 9).bind fun t106 => (if t106 = true then (if (a0_3.size : Int) ≤ 20 then ((spec_seWild.F a0_3 (⟨#[117, 100, 108, 114, 102, 98, 42]⟩ : ByteArray) (a0_3.size : Int)).bind fun t107 => (if t107 = true then ((spec_l1In.f a0_4 0 2).bind fun t108 => (some t108)) else (some false))) else (some false)) else (some false))) else (some false))) else (some false))) := by
  refine Lim.eq_ ?_
  simp only [spec_seGood.f]
  repeat' first
  | (with_reducible exact spec_seWild.F_lim _ _ _)
  | (with_reducible refine Lim.ite ?_ ?_)
  | (with_reducible refine Lim.bind ?_ (fun _ => ?_))
  | (with_reducible exact Lim.const _)
def spec_l1Num.f : Nat → Int → Option (ByteArray)
  | 0, _ => none
  | k + 1, a0 => if a0 < 10 then (some (strOfNums (([(wrap64 (48 + a0)) % 256] : List Int)))) else ((spec_l1Num.f k (wrap64 (Int.tdiv a0 10))).bind fun t112 => ((some (([(wrap64 (48 + (Int.tmod a0 10))) % 256] : List Int) : List Int)).bind fun y113 => (if t112.size + (strOfNums y113).size ≤ 9223372036854775807 then (some (t112 ++ (strOfNums y113))) else (none))))
theorem spec_l1Num.mono_l : ∀ k, (∀ y0, LeO (spec_l1Num.f k y0) (spec_l1Num.f (k + 1) y0))
  | 0 => fun _ r h => by simp [spec_l1Num.f] at h
  | k + 1 => by
    have ih0 := spec_l1Num.mono_l k
    · intro y0
      unfold spec_l1Num.f
      repeat' first
      | (with_reducible exact ih0 _)
      | (with_reducible exact LeO.refl _)
      | (with_reducible exact LeO.none _)
      | (with_reducible refine LeO.ite ?_ ?_)
      | (with_reducible refine LeO.bind ?_ (fun _ => ?_))
      | exact ih0 _
      | exact LeO.none _
      | refine LeO.ite ?_ ?_
      | refine LeO.bind ?_ (fun _ => ?_)
theorem spec_l1Num.mono : ∀ a0 k, LeO (spec_l1Num.f k a0) (spec_l1Num.f (k + 1) a0) := by
  intro a0 k
  have ih0 := spec_l1Num.mono_l k
  exact ih0 a0
noncomputable def spec_l1Num.F (a0 : Int) : Option (ByteArray) := lim fun k => spec_l1Num.f k a0
theorem spec_l1Num.F_lim (a0 : Int) : Lim (fun k => spec_l1Num.f k a0) (spec_l1Num.F a0) := ⟨spec_l1Num.mono a0, rfl⟩
theorem spec_l1Num.F_eq (a0 : Int) : spec_l1Num.F a0 = (if a0 < 10 then (some (strOfNums (([(wrap64 (48 + a0)) % 256] : List Int)))) else ((spec_l1Num.F (wrap64 (Int.tdiv a0 10))).bind fun t112 => ((some (([(wrap64 (48 + (Int.tmod a0 10))) % 256] : List Int) : List Int)).bind fun y113 => (if t112.size + (strOfNums y113).size ≤ 9223372036854775807 then (some (t112 ++ (strOfNums y113))) else (none))))) := by
  refine Lim.succ_eq (spec_l1Num.F_lim a0).mon ?_
  simp only [spec_l1Num.f]
  repeat' first
  | (with_reducible exact spec_l1Num.F_lim _)
  | (with_reducible refine Lim.ite ?_ ?_)
  | (with_reducible refine Lim.bind ?_ (fun _ => ?_))
  | (with_reducible exact Lim.const _)
def spec_seKnown.f (k : Nat) (a0 : Int) (a1 : Bool) : Option (ByteArray) := if a1 = true then ((spec_l1Num.f k a0).bind fun t116 => (some t116)) else (some (⟨#[63]⟩ : ByteArray))
theorem spec_seKnown.mono : ∀ a0 a1 k, LeO (spec_seKnown.f k a0 a1) (spec_seKnown.f (k + 1) a0 a1) := by
  intro a0 a1 k
  unfold spec_seKnown.f
  repeat' first
      | (with_reducible exact spec_l1Num.mono _ _)
      | (with_reducible exact LeO.refl _)
      | (with_reducible exact LeO.none _)
      | (with_reducible refine LeO.ite ?_ ?_)
      | (with_reducible refine LeO.bind ?_ (fun _ => ?_))
      | exact spec_l1Num.mono _ _
      | exact LeO.none _
      | refine LeO.ite ?_ ?_
      | refine LeO.bind ?_ (fun _ => ?_)
noncomputable def spec_seKnown.F (a0 : Int) (a1 : Bool) : Option (ByteArray) := lim fun k => spec_seKnown.f k a0 a1
theorem spec_seKnown.F_lim (a0 : Int) (a1 : Bool) : Lim (fun k => spec_seKnown.f k a0 a1) (spec_seKnown.F a0 a1) := ⟨spec_seKnown.mono a0 a1, rfl⟩
theorem spec_seKnown.F_eq (a0 : Int) (a1 : Bool) : spec_seKnown.F a0 a1 = (if a1 = true then ((spec_l1Num.F a0).bind fun t116 => (some t116)) else (some (⟨#[63]⟩ : ByteArray))) := by
  refine Lim.eq_ ?_
  simp only [spec_seKnown.f]
  repeat' first
  | (with_reducible exact spec_l1Num.F_lim _)
  | (with_reducible refine Lim.ite ?_ ?_)
  | (with_reducible refine Lim.bind ?_ (fun _ => ?_))
  | (with_reducible exact Lim.const _)
def spec_PatternText.f (k : Nat) (a0_0 : ByteArray) (a0_1 : ByteArray) (a0_2 : Int) (a0_3 : ByteArray) (a0_4 : Int) : Option (ByteArray × Bool) := (spec_seGood.f k a0_0 a0_1 a0_2 a0_3 a0_4).bind fun t118 => (if t118 = true then (if a0_0.size + 1 ≤ 9223372036854775807 then (if (a0_0 ++ (⟨#[47]⟩ : ByteArray)).size + a0_1.size ≤ 9223372036854775807 then (if ((a0_0 ++ (⟨#[47]⟩ : ByteArray)) ++ a0_1).size + 1 ≤ 9223372036854775807 then ((spec_seKnown.f k a0_2 (decide (a0_2 ≥ 0))).bind fun t119 => (if (((a0_0 ++ (⟨#[47]⟩ : ByteArray)) ++ a0_1) ++ (⟨#[47]⟩ : ByteArray)).size + t119.size ≤ 9223372036854775807 then (if ((((a0_0 ++ (⟨#[47]⟩ : ByteArray)) ++ a0_1) ++ (⟨#[47]⟩ : ByteArray)) ++ t119).size + 1 ≤ 9223372036854775807 then (if (((((a0_0 ++ (⟨#[47]⟩ : ByteArray)) ++ a0_1) ++ (⟨#[47]⟩ : ByteArray)) ++ t119) ++ (⟨#[47]⟩ : ByteArray)).size + a0_3.size ≤ 9223372036854775807 then (if ((((((a0_0 ++ (⟨#[47]⟩ : ByteArray)) ++ a0_1) ++ (⟨#[47]⟩ : ByteArray)) ++ t119) ++ (⟨#[47]⟩ : ByteArray)) ++ a0_3).size + 1 ≤ 9223372036854775807 then ((spec_seKnown.f k a0_4 (decide (a0_4 > 0))).bind fun t120 => (if (((((((a0_0 ++ (⟨#[47]⟩ : ByteArray)) ++ a0_1) ++ (⟨#[47]⟩ : ByteArray)) ++ t119) ++ (⟨#[47]⟩ : ByteArray)) ++ a0_3) ++ (⟨#[47]⟩ : ByteArray)).size + t120.size ≤ 9223372036854775807 then (some ((((((((a0_0 ++ (⟨#[47]⟩ : ByteArray)) ++ a0_1) ++ (⟨#[47]⟩ : ByteArray)) ++ t119) ++ (⟨#[47]⟩ : ByteArray)) ++ a0_3) ++ (⟨#[47]⟩ : ByteArray)) ++ t120, true)) else (none))) else (none)) else (none)) else (none)) else (none))) else (none)) else (none)) else (none)) else (some ((⟨#[]⟩ : ByteArray), false)))
theorem spec_PatternText.mono : ∀ a0 a1 a2 a3 a4 k, LeO (spec_PatternText.f k a0 a1 a2 a3 a4) (spec_PatternText.f (k + 1) a0 a1 a2 a3 a4) := by
  intro a0 a1 a2 a3 a4 k
  unfold spec_PatternText.f
  repeat' first
      | (with_reducible exact spec_seGood.mono _ _ _ _ _ _)
      | (with_reducible exact spec_seKnown.mono _ _ _)
      | (with_reducible exact LeO.refl _)
      | (with_reducible exact LeO.none _)
      | (with_reducible refine LeO.ite ?_ ?_)
      | (with_reducible refine LeO.bind ?_ (fun _ => ?_))
      | exact spec_seGood.mono _ _ _ _ _ _
      | exact spec_seKnown.mono _ _ _
      | exact LeO.none _
      | refine LeO.ite ?_ ?_
      | refine LeO.bind ?_ (fun _ => ?_)
noncomputable def spec_PatternText.F (a0_0 : ByteArray) (a0_1 : ByteArray) (a0_2 : Int) (a0_3 : ByteArray) (a0_4 : Int) : Option (ByteArray × Bool) := lim fun k => spec_PatternText.f k a0_0 a0_1 a0_2 a0_3 a0_4
theorem spec_PatternText.F_lim (a0_0 : ByteArray) (a0_1 : ByteArray) (a0_2 : Int) (a0_3 : ByteArray) (a0_4 : Int) : Lim (fun k => spec_PatternText.f k a0_0 a0_1 a0_2 a0_3 a0_4) (spec_PatternText.F a0_0 a0_1 a0_2 a0_3 a0_4) := ⟨spec_PatternText.mono a0_0 a0_1 a0_2 a0_3 a0_4, rfl⟩
theorem spec_PatternText.F_eq (a0_0 : ByteArray) (a0_1 : ByteArray) (a0_2 : Int) (a0_3 : ByteArray) (a0_4 : Int) : spec_PatternText.F a0_0 a0_1 a0_2 a0_3 a0_4 = ((spec_seGood.F a0_0 a0_1 a0_2 a0_3 a0_4).bind fun t118 => (if t118 = true then (if a0_0.size + 1 ≤ 9223372036854775807 then (if (a0_0 ++ (⟨#[47]⟩ : ByteArray)).size + a0_1.size ≤ 9223372036854775807 then (if ((a0_0 ++ (⟨#[47]⟩ : ByteArray)) ++ a0_1).size + 1 ≤ 9223372036854775807 then ((spec_seKnown.F a0_2 (decide (a0_2 ≥ 0))).bind fun t119 => (if (((a0_0 ++ (⟨#[47]⟩ : ByteArray)) ++ a0_1) ++ (⟨#[47]⟩ : ByteArray)).size + t119.size ≤ 9223372036854775807 then (if ((((a0_0 ++ (⟨#[47]⟩ : ByteArray)) ++ a0_1) ++ (⟨#[47]⟩ : ByteArray)) ++ t119).size + 1 ≤ 9223372036854775807 then (if (((((a0_0 ++ (⟨#[47]⟩ : ByteArray)) ++ a0_1) ++ (⟨#[47]⟩ : ByteArray)) ++ t119) ++ (⟨#[47]⟩ : ByteArray)).size + a0_3.size ≤ 9223372036854775807 then (if ((((((a0_0 ++ (⟨#[47]⟩ : ByteArray)) ++ a0_1) ++ (⟨#[47]⟩ : ByteArray)) ++ t119) ++ (⟨#[47]⟩ : ByteArray)) ++ a0_3).size + 1 ≤ 9223372036854775807 then ((spec_seKnown.F a0_4 (decide (a0_4 > 0))).bind fun t120 => (if (((((((a0_0 ++ (⟨#[47]⟩ : ByteArray)) ++ a0_1) ++ (⟨#[47]⟩ : ByteArray)) ++ t119) ++ (⟨#[47]⟩ : ByteArray)) ++ a0_3) ++ (⟨#[47]⟩ : ByteArray)).size + t120.size ≤ 9223372036854775807 then (some ((((((((a0_0 ++ (⟨#[47]⟩ : ByteArray)) ++ a0_1) ++ (⟨#[47]⟩ : ByteArray)) ++ t119) ++ (⟨#[47]⟩ : ByteArray)) ++ a0_3) ++ (⟨#[47]⟩ : ByteArray)) ++ t120, true)) else (none))) else (none)) else (none)) else (none)) else (none))) else (none)) else (none)) else (none)) else (some ((⟨#[]⟩ : ByteArray), false)))) := by
  refine Lim.eq_ ?_
  simp only [spec_PatternText.f]
  repeat' first
  | (with_reducible exact spec_seGood.F_lim _ _ _ _ _)
  | (with_reducible exact spec_seKnown.F_lim _ _)
  | (with_reducible refine Lim.ite ?_ ?_)
  | (with_reducible refine Lim.bind ?_ (fun _ => ?_))
  | (with_reducible exact Lim.const _)
def laws_toPattern.f (a0_0 : ByteArray) (a0_1 : ByteArray) (a0_2 : Int) (a0_3 : ByteArray) (a0_4 : Int) : Option (ByteArray × ByteArray × Int × ByteArray × Int) := some (a0_0, a0_1, a0_2, a0_3, a0_4)
def stringslite_IndexByte.f (a0 : ByteArray) (a1 : Int) : Option (Int) := some (Lib.indexByte a0.data.toList a1.toNat.toUInt8)
def strings_IndexByte.f (a0 : ByteArray) (a1 : Int) : Option (Int) := (stringslite_IndexByte.f a0 a1).bind fun t124 => (some t124)
def impl_hasOnly.l0 : Nat → ByteArray → ByteArray → Int → Int → Option (Bool)
  | 0, _, _, _, _ => none
  | k + 1, x0, x1, x7, x8 => if x8 < x7 then (if 0 ≤ x8 then (if x8 < (x0.size : Int) then ((strings_IndexByte.f x1 (bt x0 x8)).bind fun t125 => (if t125 < 0 then (some false) else (impl_hasOnly.l0 k x0 x1 x7 (wrap64 (x8 + 1))))) else (none)) else (none)) else (some true)
def impl_hasOnly.f (k : Nat) (a0 : ByteArray) (a1 : ByteArray) : Option (Bool) := impl_hasOnly.l0 k a0 a1 (a0.size : Int) 0
theorem impl_hasOnly.mono_l : ∀ k, (∀ y0 y1 y2 y3, LeO (impl_hasOnly.l0 k y0 y1 y2 y3) (impl_hasOnly.l0 (k + 1) y0 y1 y2 y3))
  | 0 => fun _ _ _ _ r h => by simp [impl_hasOnly.l0] at h
  | k + 1 => by
    have ih0 := impl_hasOnly.mono_l k
    · intro y0 y1 y2 y3
      unfold impl_hasOnly.l0
      repeat' first
      | (with_reducible exact ih0 _ _ _ _)
      | (with_reducible exact LeO.refl _)
      | (with_reducible exact LeO.none _)
      | (with_reducible refine LeO.ite ?_ ?_)
      | (with_reducible refine LeO.bind ?_ (fun _ => ?_))
      | exact ih0 _ _ _ _
      | exact LeO.none _
      | refine LeO.ite ?_ ?_
      | refine LeO.bind ?_ (fun _ => ?_)
theorem impl_hasOnly.mono : ∀ a0 a1 k, LeO (impl_hasOnly.f k a0 a1) (impl_hasOnly.f (k + 1) a0 a1) := by
  intro a0 a1 k
  have ih0 := impl_hasOnly.mono_l k
  unfold impl_hasOnly.f
  repeat' first
      | (with_reducible exact ih0 _ _ _ _)
      | (with_reducible exact LeO.refl _)
      | (with_reducible exact LeO.none _)
      | (with_reducible refine LeO.ite ?_ ?_)
      | (with_reducible refine LeO.bind ?_ (fun _ => ?_))
      | exact ih0 _ _ _ _
      | exact LeO.none _
      | refine LeO.ite ?_ ?_
      | refine LeO.bind ?_ (fun _ => ?_)
noncomputable def impl_hasOnly.L0 (x0 : ByteArray) (x1 : ByteArray) (x7 : Int) (x8 : Int) : Option (Bool) := lim fun k => impl_hasOnly.l0 k x0 x1 x7 x8
theorem impl_hasOnly.L0_lim (x0 : ByteArray) (x1 : ByteArray) (x7 : Int) (x8 : Int) : Lim (fun k => impl_hasOnly.l0 k x0 x1 x7 x8) (impl_hasOnly.L0 x0 x1 x7 x8) := ⟨fun k => (impl_hasOnly.mono_l k) x0 x1 x7 x8, rfl⟩
noncomputable def impl_hasOnly.F (a0 : ByteArray) (a1 : ByteArray) : Option (Bool) := lim fun k => impl_hasOnly.f k a0 a1
theorem impl_hasOnly.F_lim (a0 : ByteArray) (a1 : ByteArray) : Lim (fun k => impl_hasOnly.f k a0 a1) (impl_hasOnly.F a0 a1) := ⟨impl_hasOnly.mono a0 a1, rfl⟩
theorem impl_hasOnly.L0_eq (x0 : ByteArray) (x1 : ByteArray) (x7 : Int) (x8 : Int) : impl_hasOnly.L0 x0 x1 x7 x8 = (if x8 < x7 then (if 0 ≤ x8 then (if x8 < (x0.size : Int) then ((strings_IndexByte.f x1 (bt x0 x8)).bind fun t125 => (if t125 < 0 then (some false) else (impl_hasOnly.L0 x0 x1 x7 (wrap64 (x8 + 1))))) else (none)) else (none)) else (some true)) := by
  refine Lim.succ_eq (impl_hasOnly.L0_lim x0 x1 x7 x8).mon ?_
  simp only [impl_hasOnly.l0]
  repeat' first
  | (with_reducible exact impl_hasOnly.L0_lim _ _ _ _)
  | (with_reducible refine Lim.ite ?_ ?_)
  | (with_reducible refine Lim.bind ?_ (fun _ => ?_))
  | (with_reducible exact Lim.const _)
theorem impl_hasOnly.F_eq (a0 : ByteArray) (a1 : ByteArray) : impl_hasOnly.F a0 a1 = (impl_hasOnly.L0 a0 a1 (a0.size : Int) 0) := by
  refine Lim.eq_ ?_
  simp only [impl_hasOnly.f]
  repeat' first
  | (with_reducible exact impl_hasOnly.L0_lim _ _ _ _)
  | (with_reducible refine Lim.ite ?_ ?_)
  | (with_reducible refine Lim.bind ?_ (fun _ => ?_))
  | (with_reducible exact Lim.const _)
def impl_within.f (a0 : Int) (a1 : Int) (a2 : Int) : Option (Bool) := if a0 ≥ a1 then (some (decide (a0 ≤ a2))) else (some false)
def impl_IsPattern.f (k : Nat) (a0_0 : ByteArray) (a0_1 : ByteArray) (a0_2 : Int) (a0_3 : ByteArray) (a0_4 : Int) : Option (Bool) := if (a0_0.size : Int) = 5 then ((impl_hasOnly.f k a0_0 (⟨#[48, 49, 50, 63]⟩ : ByteArray)).bind fun t127 => (if t127 = true then (if (a0_1.size : Int) = 2 then ((impl_hasOnly.f k a0_1 (⟨#[117, 100, 108, 114, 102, 98, 63]⟩ : ByteArray)).bind fun t128 => (if t128 = true then ((impl_within.f a0_2 (-1) 9).bind fun t129 => (if t129 = true then (if (a0_3.size : Int) ≤ 20 then ((impl_hasOnly.f k a0_3 (⟨#[117, 100, 108, 114, 102, 98, 63, 42]⟩ : ByteArray)).bind fun t130 => (if t130 = true then ((impl_within.f a0_4 0 2).bind fun t131 => (some t131)) else (some false))) else (some false)) else (some false))) else (some false))) else (some false)) else (some false))) else (some false)
theorem impl_IsPattern.mono : ∀ a0 a1 a2 a3 a4 k, LeO (impl_IsPattern.f k a0 a1 a2 a3 a4) (impl_IsPattern.f (k + 1) a0 a1 a2 a3 a4) := by
  intro a0 a1 a2 a3 a4 k
  unfold impl_IsPattern.f
  repeat' first
      | (with_reducible exact impl_hasOnly.mono _ _ _)
      | (with_reducible exact LeO.refl _)
      | (with_reducible exact LeO.none _)
      | (with_reducible refine LeO.ite ?_ ?_)
      | (with_reducible refine LeO.bind ?_ (fun _ => ?_))
      | exact impl_hasOnly.mono _ _ _
      | exact LeO.none _
      | refine LeO.ite ?_ ?_
      | refine LeO.bind ?_ (fun _ => ?_)
noncomputable def impl_IsPattern.F (a0_0 : ByteArray) (a0_1 : ByteArray) (a0_2 : Int) (a0_3 : ByteArray) (a0_4 : Int) : Option (Bool) := lim fun k => impl_IsPattern.f k a0_0 a0_1 a0_2 a0_3 a0_4
theorem impl_IsPattern.F_lim (a0_0 : ByteArray) (a0_1 : ByteArray) (a0_2 : Int) (a0_3 : ByteArray) (a0_4 : Int) : Lim (fun k => impl_IsPattern.f k a0_0 a0_1 a0_2 a0_3 a0_4) (impl_IsPattern.F a0_0 a0_1 a0_2 a0_3 a0_4) := ⟨impl_IsPattern.mono a0_0 a0_1 a0_2 a0_3 a0_4, rfl⟩
theorem impl_IsPattern.F_eq (a0_0 : ByteArray) (a0_1 : ByteArray) (a0_2 : Int) (a0_3 : ByteArray) (a0_4 : Int) : impl_IsPattern.F a0_0 a0_1 a0_2 a0_3 a0_4 = (if (a0_0.size : Int) = 5 then ((impl_hasOnly.F a0_0 (⟨#[48, 49, 50, 63]⟩ : ByteArray)).bind fun t127 => (if t127 = true then (if (a0_1.size : Int) = 2 then ((impl_hasOnly.F a0_1 (⟨#[117, 100, 108, 114, 102, 98, 63]⟩ : ByteArray)).bind fun t128 => (if t128 = true then ((impl_within.f a0_2 (-1) 9).bind fun t129 => (if t129 = true then (if (a0_3.size : Int) ≤ 20 then ((impl_hasOnly.F a0_3 (⟨#[117, 100, 108, 114, 102, 98, 63, 42]⟩ : ByteArray)).bind fun t130 => (if t130 = true then ((impl_within.f a0_4 0 2).bind fun t131 => (some t131)) else (some false))) else (some false)) else (some false))) else (some false))) else (some false)) else (some false))) else (some false)) := by
  refine Lim.eq_ ?_
  simp only [impl_IsPattern.f]
  repeat' first
  | (with_reducible exact impl_hasOnly.F_lim _ _)
  | (with_reducible refine Lim.ite ?_ ?_)
  | (with_reducible refine Lim.bind ?_ (fun _ => ?_))
  | (with_reducible exact Lim.const _)
def strconv_Itoa.f (a0 : Int) : Option (ByteArray) := if 0 ≤ a0 ∧ a0 < 100 then some ⟨(Lib.decDigits a0.toNat).toArray⟩ else none
def impl_Pattern_text_1.f (a0 : Int) (a1 : Int) : Option (ByteArray) := if a0 = a1 then (some (⟨#[63]⟩ : ByteArray)) else ((strconv_Itoa.f a0).bind fun t132 => (some t132))
def strings_Join.f (l0 : List ByteArray) (a1 : ByteArray) : Option (ByteArray × List ByteArray) := if l0.length ≤ 140737488355328 ∧ (Lib.join (l0.map (·.data.toList)) a1.data.toList).length ≤ 140737488355328 then some (joined l0 a1, l0) else none
def impl_Pattern_text.f (a0_0 : ByteArray) (a0_1 : ByteArray) (a0_2 : Int) (a0_3 : ByteArray) (a0_4 : Int) : Option (ByteArray) := (impl_Pattern_text_1.f a0_2 (-1)).bind fun t134 => ((impl_Pattern_text_1.f a0_4 0).bind fun t135 => ((strings_Join.f (([a0_0, a0_1, t134, a0_3, t135] : List ByteArray)) (⟨#[47]⟩ : ByteArray)).bind fun bt139 => (some bt139.1)))
def impl_PatternText.f (k : Nat) (a0_0 : ByteArray) (a0_1 : ByteArray) (a0_2 : Int) (a0_3 : ByteArray) (a0_4 : Int) : Option (ByteArray × Bool) := (impl_IsPattern.f k a0_0 a0_1 a0_2 a0_3 a0_4).bind fun t142 => (if t142 = true then ((impl_Pattern_text.f a0_0 a0_1 a0_2 a0_3 a0_4).bind fun t143 => (some (t143, true))) else (some ((⟨#[]⟩ : ByteArray), false)))
theorem impl_PatternText.mono : ∀ a0 a1 a2 a3 a4 k, LeO (impl_PatternText.f k a0 a1 a2 a3 a4) (impl_PatternText.f (k + 1) a0 a1 a2 a3 a4) := by
  intro a0 a1 a2 a3 a4 k
  unfold impl_PatternText.f
  repeat' first
      | (with_reducible exact impl_IsPattern.mono _ _ _ _ _ _)
      | (with_reducible exact LeO.refl _)
      | (with_reducible exact LeO.none _)
      | (with_reducible refine LeO.ite ?_ ?_)
      | (with_reducible refine LeO.bind ?_ (fun _ => ?_))
      | exact impl_IsPattern.mono _ _ _ _ _ _
      | exact LeO.none _
      | refine LeO.ite ?_ ?_
      | refine LeO.bind ?_ (fun _ => ?_)
noncomputable def impl_PatternText.F (a0_0 : ByteArray) (a0_1 : ByteArray) (a0_2 : Int) (a0_3 : ByteArray) (a0_4 : Int) : Option (ByteArray × Bool) := lim fun k => impl_PatternText.f k a0_0 a0_1 a0_2 a0_3 a0_4
theorem impl_PatternText.F_lim (a0_0 : ByteArray) (a0_1 : ByteArray) (a0_2 : Int) (a0_3 : ByteArray) (a0_4 : Int) : Lim (fun k => impl_PatternText.f k a0_0 a0_1 a0_2 a0_3 a0_4) (impl_PatternText.F a0_0 a0_1 a0_2 a0_3 a0_4) := ⟨impl_PatternText.mono a0_0 a0_1 a0_2 a0_3 a0_4, rfl⟩
theorem impl_PatternText.F_eq (a0_0 : ByteArray) (a0_1 : ByteArray) (a0_2 : Int) (a0_3 : ByteArray) (a0_4 : Int) : impl_PatternText.F a0_0 a0_1 a0_2 a0_3 a0_4 = ((impl_IsPattern.F a0_0 a0_1 a0_2 a0_3 a0_4).bind fun t142 => (if t142 = true then ((impl_Pattern_text.f a0_0 a0_1 a0_2 a0_3 a0_4).bind fun t143 => (some (t143, true))) else (some ((⟨#[]⟩ : ByteArray), false)))) := by
  refine Lim.eq_ ?_
  simp only [impl_PatternText.f]
  repeat' first
  | (with_reducible exact impl_IsPattern.F_lim _ _ _ _ _)
  | (with_reducible refine Lim.ite ?_ ?_)
  | (with_reducible refine Lim.bind ?_ (fun _ => ?_))
  | (with_reducible exact Lim.const _)
def laws_FnExactPatternText.f (k : Nat) (a0_0 : ByteArray) (a0_1 : ByteArray) (a0_2 : Int) (a0_3 : ByteArray) (a0_4 : Int) : Option (Bool) := (laws_szPattern.f a0_0 a0_1 a0_2 a0_3 a0_4 1048576).bind fun t145 => (if t145 < 0 then (some true) else ((laws_toPattern.f a0_0 a0_1 a0_2 a0_3 a0_4).bind fun bt146 => ((spec_PatternText.f k bt146.1 bt146.2.1 bt146.2.2.1 bt146.2.2.2.1 bt146.2.2.2.2).bind fun bt151 => ((laws_toPattern.f a0_0 a0_1 a0_2 a0_3 a0_4).bind fun bt153 => ((impl_PatternText.f k bt153.1 bt153.2.1 bt153.2.2.1 bt153.2.2.2.1 bt153.2.2.2.2).bind fun bt158 => (if bt158.1.toList = bt151.1.toList then (if (bt158.2 != bt151.2) = true then (some false) else (some true)) else (some false)))))))
theorem laws_FnExactPatternText.mono : ∀ a0 a1 a2 a3 a4 k, LeO (laws_FnExactPatternText.f k a0 a1 a2 a3 a4) (laws_FnExactPatternText.f (k + 1) a0 a1 a2 a3 a4) := by
  intro a0 a1 a2 a3 a4 k
  unfold laws_FnExactPatternText.f
  repeat' first
      | (with_reducible exact impl_PatternText.mono _ _ _ _ _ _)
      | (with_reducible exact spec_PatternText.mono _ _ _ _ _ _)
      | (with_reducible exact LeO.refl _)
      | (with_reducible exact LeO.none _)
      | (with_reducible refine LeO.ite ?_ ?_)
      | (with_reducible refine LeO.bind ?_ (fun _ => ?_))
      | exact impl_PatternText.mono _ _ _ _ _ _
      | exact spec_PatternText.mono _ _ _ _ _ _
      | exact LeO.none _
      | refine LeO.ite ?_ ?_
      | refine LeO.bind ?_ (fun _ => ?_)
noncomputable def laws_FnExactPatternText.F (a0_0 : ByteArray) (a0_1 : ByteArray) (a0_2 : Int) (a0_3 : ByteArray) (a0_4 : Int) : Option (Bool) := lim fun k => laws_FnExactPatternText.f k a0_0 a0_1 a0_2 a0_3 a0_4
theorem laws_FnExactPatternText.F_lim (a0_0 : ByteArray) (a0_1 : ByteArray) (a0_2 : Int) (a0_3 : ByteArray) (a0_4 : Int) : Lim (fun k => laws_FnExactPatternText.f k a0_0 a0_1 a0_2 a0_3 a0_4) (laws_FnExactPatternText.F a0_0 a0_1 a0_2 a0_3 a0_4) := ⟨laws_FnExactPatternText.mono a0_0 a0_1 a0_2 a0_3 a0_4, rfl⟩
theorem laws_FnExactPatternText.F_eq (a0_0 : ByteArray) (a0_1 : ByteArray) (a0_2 : Int) (a0_3 : ByteArray) (a0_4 : Int) : laws_FnExactPatternText.F a0_0 a0_1 a0_2 a0_3 a0_4 = ((laws_szPattern.f a0_0 a0_1 a0_2 a0_3 a0_4 1048576).bind fun t145 => (if t145 < 0 then (some true) else ((laws_toPattern.f a0_0 a0_1 a0_2 a0_3 a0_4).bind fun bt146 => ((spec_PatternText.F bt146.1 bt146.2.1 bt146.2.2.1 bt146.2.2.2.1 bt146.2.2.2.2).bind fun bt151 => ((laws_toPattern.f a0_0 a0_1 a0_2 a0_3 a0_4).bind fun bt153 => ((impl_PatternText.F bt153.1 bt153.2.1 bt153.2.2.1 bt153.2.2.2.1 bt153.2.2.2.2).bind fun bt158 => (if bt158.1.toList = bt151.1.toList then (if (bt158.2 != bt151.2) = true then (some false) else (some true)) else (some false)))))))) := by
  refine Lim.eq_ ?_
  simp only [laws_FnExactPatternText.f]
  repeat' first
  | (with_reducible exact impl_PatternText.F_lim _ _ _ _ _)
  | (with_reducible exact spec_PatternText.F_lim _ _ _ _ _)
  | (with_reducible refine Lim.ite ?_ ?_)
  | (with_reducible refine Lim.bind ?_ (fun _ => ?_))
  | (with_reducible exact Lim.const _)
def Wf23 (x : S23) : Prop := x.f0.size ≤ 9223372036854775807 ∧ x.f1.size ≤ 9223372036854775807 ∧ (Lit.int .i64 x.f2).wf = true ∧ x.f3.size ≤ 9223372036854775807 ∧ (Lit.int .i64 x.f4).wf = true
def laws_FnExactPatternText.Pure : Prop := ∀ (a0_0 : ByteArray) (a0_1 : ByteArray) (a0_2 : Int) (a0_3 : ByteArray) (a0_4 : Int), Wf23 (⟨a0_0, a0_1, a0_2, a0_3, a0_4⟩ : S23) → ∃ k, laws_FnExactPatternText.f k a0_0 a0_1 a0_2 a0_3 a0_4 = some true
end Go.Proofs.YtnmgcphajacdnaaDoor.PFnExactPatternText
