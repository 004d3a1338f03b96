/- Written by a program of this claim's author, out of the loaded program as Lean prints it: the functions as Lean functions, and that the calls answer so. -/
import Derived.Test.YtgjljcejhdpibaaDoorPFnExactRunPointsx0
namespace Go.Proofs.YtgjljcejhdpibaaDoor.PFnExactRunPoints
open Go.RowKit Go.Proofs.YtgjljcejhdpibaaDoorW.PrintWords Go.Proofs.YtgjljcejhdpibaaDoorW.PrintLast Go.Proofs.YtgjljcejhdpibaaDoorW.PrintMore
attribute [local go_sem] max2_int min2_int max_two min_two max_three min_three max_four min_four   -- for this text's walks alone
set_option linter.unusedVariables false
set_option linter.unusedSimpArgs false

def laws_eqLocus.f (a0_0 : ByteArray) (a0_1 : Int) (a1_0 : ByteArray) (a1_1 : Int) : Option (Bool) := if a0_0.toList = a1_0.toList then (if a0_1 = a1_1 then (some true) else (some false)) else (some false)
def laws_eqLocusS.l0 : Nat → List (S40) → List (S40) → Int → Option (Bool)
  | 0, _, _, _ => none
  | k + 1, x0, x1, x5 => if x5 < (x0.length : Int) then (if 0 ≤ x5 then (if x5 < (x1.length : Int) then ((laws_eqLocus.f ((rd_T40 x0 x5).f0) ((rd_T40 x0 x5).f1) ((rd_T40 x1 x5).f0) ((rd_T40 x1 x5).f1)).bind fun t105 => (if t105 = true then (laws_eqLocusS.l0 k x0 x1 (wrap64 (x5 + 1))) else (some false))) else (none)) else (none)) else (some true)
def laws_eqLocusS.f (k : Nat) (l0 : List (S40)) (l1 : List (S40)) : Option (Bool) := if (l0.length : Int) = (l1.length : Int) then (laws_eqLocusS.l0 k l0 l1 0) else (some false)
theorem laws_eqLocusS.mono_l : ∀ k, (∀ y0 y1 y2, LeO (laws_eqLocusS.l0 k y0 y1 y2) (laws_eqLocusS.l0 (k + 1) y0 y1 y2))
  | 0 => fun _ _ _ r h => by simp [laws_eqLocusS.l0] at h
  | k + 1 => by
    have ih0 := laws_eqLocusS.mono_l k
    · intro y0 y1 y2
      unfold laws_eqLocusS.l0
      repeat' first
      | (with_reducible exact ih0 _ _ _)
      | (with_reducible exact LeO.refl _)
      | (with_reducible exact LeO.none _)
      | (with_reducible refine LeO.ite ?_ ?_)
      | (with_reducible refine LeO.bind ?_ (fun _ => ?_))
      | exact ih0 _ _ _
      | exact LeO.none _
      | refine LeO.ite ?_ ?_
      | refine LeO.bind ?_ (fun _ => ?_)
theorem laws_eqLocusS.mono : ∀ a0 a1 k, LeO (laws_eqLocusS.f k a0 a1) (laws_eqLocusS.f (k + 1) a0 a1) := by
  intro a0 a1 k
  have ih0 := laws_eqLocusS.mono_l k
  unfold laws_eqLocusS.f
  repeat' first
      | (with_reducible exact ih0 _ _ _)
      | (with_reducible exact LeO.refl _)
      | (with_reducible exact LeO.none _)
      | (with_reducible refine LeO.ite ?_ ?_)
      | (with_reducible refine LeO.bind ?_ (fun _ => ?_))
      | exact ih0 _ _ _
      | exact LeO.none _
      | refine LeO.ite ?_ ?_
      | refine LeO.bind ?_ (fun _ => ?_)
noncomputable def laws_eqLocusS.L0 (x0 : List (S40)) (x1 : List (S40)) (x5 : Int) : Option (Bool) := lim fun k => laws_eqLocusS.l0 k x0 x1 x5
theorem laws_eqLocusS.L0_lim (x0 : List (S40)) (x1 : List (S40)) (x5 : Int) : Lim (fun k => laws_eqLocusS.l0 k x0 x1 x5) (laws_eqLocusS.L0 x0 x1 x5) := ⟨fun k => (laws_eqLocusS.mono_l k) x0 x1 x5, rfl⟩
noncomputable def laws_eqLocusS.F (l0 : List (S40)) (l1 : List (S40)) : Option (Bool) := lim fun k => laws_eqLocusS.f k l0 l1
theorem laws_eqLocusS.F_lim (l0 : List (S40)) (l1 : List (S40)) : Lim (fun k => laws_eqLocusS.f k l0 l1) (laws_eqLocusS.F l0 l1) := ⟨laws_eqLocusS.mono l0 l1, rfl⟩
theorem laws_eqLocusS.L0_eq (x0 : List (S40)) (x1 : List (S40)) (x5 : Int) : laws_eqLocusS.L0 x0 x1 x5 = (if x5 < (x0.length : Int) then (if 0 ≤ x5 then (if x5 < (x1.length : Int) then ((laws_eqLocus.f ((rd_T40 x0 x5).f0) ((rd_T40 x0 x5).f1) ((rd_T40 x1 x5).f0) ((rd_T40 x1 x5).f1)).bind fun t105 => (if t105 = true then (laws_eqLocusS.L0 x0 x1 (wrap64 (x5 + 1))) else (some false))) else (none)) else (none)) else (some true)) := by
  refine Lim.succ_eq (laws_eqLocusS.L0_lim x0 x1 x5).mon ?_
  simp only [laws_eqLocusS.l0]
  repeat' first
  | (with_reducible exact laws_eqLocusS.L0_lim _ _ _)
  | (with_reducible refine Lim.ite ?_ ?_)
  | (with_reducible refine Lim.bind ?_ (fun _ => ?_))
  | (with_reducible exact Lim.const _)
theorem laws_eqLocusS.F_eq (l0 : List (S40)) (l1 : List (S40)) : laws_eqLocusS.F l0 l1 = (if (l0.length : Int) = (l1.length : Int) then (laws_eqLocusS.L0 l0 l1 0) else (some false)) := by
  refine Lim.eq_ ?_
  simp only [laws_eqLocusS.f]
  repeat' first
  | (with_reducible exact laws_eqLocusS.L0_lim _ _ _)
  | (with_reducible refine Lim.ite ?_ ?_)
  | (with_reducible refine Lim.bind ?_ (fun _ => ?_))
  | (with_reducible exact Lim.const _)
def laws_markText.l0 : Nat → Int → ByteArray → Option (ByteArray)
  | 0, _, _ => none
  | k + 1, x0, x3 => if x0 > 0 then ((some (([(wrap64 (48 + (Int.tmod x0 10))) % 256] : List Int) : List Int)).bind fun y106 => (if (strOfNums y106).size + x3.size ≤ 9223372036854775807 then (laws_markText.l0 k (wrap64 (Int.tdiv x0 10)) ((strOfNums y106) ++ x3)) else (none))) else (if 1 + x3.size ≤ 9223372036854775807 then (some ((⟨#[109]⟩ : ByteArray) ++ x3)) else (none))
def laws_markText.f (k : Nat) (a0 : Int) : Option (ByteArray) := if a0 ≤ 0 then (some (⟨#[109, 48]⟩ : ByteArray)) else (laws_markText.l0 k a0 (⟨#[]⟩ : ByteArray))
theorem laws_markText.mono_l : ∀ k, (∀ y0 y1, LeO (laws_markText.l0 k y0 y1) (laws_markText.l0 (k + 1) y0 y1))
  | 0 => fun _ _ r h => by simp [laws_markText.l0] at h
  | k + 1 => by
    have ih0 := laws_markText.mono_l k
    · intro y0 y1
      unfold laws_markText.l0
      repeat' first
      | (with_reducible exact ih0 _ _)
      | (with_reducible exact LeO.refl _)
      | (with_reducible exact LeO.none _)
      | (with_reducible refine LeO.ite ?_ ?_)
      | (with_reducible refine LeO.bind ?_ (fun _ => ?_))
      | exact ih0 _ _
      | exact LeO.none _
      | refine LeO.ite ?_ ?_
      | refine LeO.bind ?_ (fun _ => ?_)
theorem laws_markText.mono : ∀ a0 k, LeO (laws_markText.f k a0) (laws_markText.f (k + 1) a0) := by
  intro a0 k
  have ih0 := laws_markText.mono_l k
  unfold laws_markText.f
  repeat' first
      | (with_reducible exact ih0 _ _)
      | (with_reducible exact LeO.refl _)
      | (with_reducible exact LeO.none _)
      | (with_reducible refine LeO.ite ?_ ?_)
      | (with_reducible refine LeO.bind ?_ (fun _ => ?_))
      | exact ih0 _ _
      | exact LeO.none _
      | refine LeO.ite ?_ ?_
      | refine LeO.bind ?_ (fun _ => ?_)
noncomputable def laws_markText.L0 (x0 : Int) (x3 : ByteArray) : Option (ByteArray) := lim fun k => laws_markText.l0 k x0 x3
theorem laws_markText.L0_lim (x0 : Int) (x3 : ByteArray) : Lim (fun k => laws_markText.l0 k x0 x3) (laws_markText.L0 x0 x3) := ⟨fun k => (laws_markText.mono_l k) x0 x3, rfl⟩
noncomputable def laws_markText.F (a0 : Int) : Option (ByteArray) := lim fun k => laws_markText.f k a0
theorem laws_markText.F_lim (a0 : Int) : Lim (fun k => laws_markText.f k a0) (laws_markText.F a0) := ⟨laws_markText.mono a0, rfl⟩
theorem laws_markText.L0_eq (x0 : Int) (x3 : ByteArray) : laws_markText.L0 x0 x3 = (if x0 > 0 then ((some (([(wrap64 (48 + (Int.tmod x0 10))) % 256] : List Int) : List Int)).bind fun y106 => (if (strOfNums y106).size + x3.size ≤ 9223372036854775807 then (laws_markText.L0 (wrap64 (Int.tdiv x0 10)) ((strOfNums y106) ++ x3)) else (none))) else (if 1 + x3.size ≤ 9223372036854775807 then (some ((⟨#[109]⟩ : ByteArray) ++ x3)) else (none))) := by
  refine Lim.succ_eq (laws_markText.L0_lim x0 x3).mon ?_
  simp only [laws_markText.l0]
  repeat' first
  | (with_reducible exact laws_markText.L0_lim _ _)
  | (with_reducible refine Lim.ite ?_ ?_)
  | (with_reducible refine Lim.bind ?_ (fun _ => ?_))
  | (with_reducible exact Lim.const _)
theorem laws_markText.F_eq (a0 : Int) : laws_markText.F a0 = (if a0 ≤ 0 then (some (⟨#[109, 48]⟩ : ByteArray)) else (laws_markText.L0 a0 (⟨#[]⟩ : ByteArray))) := by
  refine Lim.eq_ ?_
  simp only [laws_markText.f]
  repeat' first
  | (with_reducible exact laws_markText.L0_lim _ _)
  | (with_reducible refine Lim.ite ?_ ?_)
  | (with_reducible refine Lim.bind ?_ (fun _ => ?_))
  | (with_reducible exact Lim.const _)
def laws_markLocusS.l0 : Nat → List (S40) → Int → Int → Option (Int × (List (S40)))
  | 0, _, _, _ => none
  | k + 1, x0, x1, x5 => if x5 < (x0.length : Int) then ((laws_markText.f k x1).bind fun t109 => (if 0 ≤ x5 then ((some (x0.set (x5 : Int).toNat (⟨t109, (rd_T40 x0 x5).f1⟩ : S40) : List (S40))).bind fun y110 => (laws_markLocusS.l0 k (y110.set (x5 : Int).toNat (⟨(rd_T40 y110 x5).f0, wrap64 (x1 + 1)⟩ : S40)) (wrap64 ((wrap64 (x1 + 1)) + 1)) (wrap64 (x5 + 1)))) else (none))) else (some (x1, x0))
def laws_markLocusS.f (k : Nat) (l0 : List (S40)) (a1 : Int) : Option (Int × (List (S40))) := laws_markLocusS.l0 k l0 a1 0
theorem laws_markLocusS.mono_l : ∀ k, (∀ y0 y1 y2, LeO (laws_markLocusS.l0 k y0 y1 y2) (laws_markLocusS.l0 (k + 1) y0 y1 y2))
  | 0 => fun _ _ _ r h => by simp [laws_markLocusS.l0] at h
  | k + 1 => by
    have ih0 := laws_markLocusS.mono_l k
    · intro y0 y1 y2
      unfold laws_markLocusS.l0
      repeat' first
      | (with_reducible exact ih0 _ _ _)
      | (with_reducible exact laws_markText.mono _ _)
      | (with_reducible exact LeO.refl _)
      | (with_reducible exact LeO.none _)
      | (with_reducible refine LeO.ite ?_ ?_)
      | (with_reducible refine LeO.bind ?_ (fun _ => ?_))
      | exact ih0 _ _ _
      | exact laws_markText.mono _ _
      | exact LeO.none _
      | refine LeO.ite ?_ ?_
      | refine LeO.bind ?_ (fun _ => ?_)
theorem laws_markLocusS.mono : ∀ a0 a1 k, LeO (laws_markLocusS.f k a0 a1) (laws_markLocusS.f (k + 1) a0 a1) := by
  intro a0 a1 k
  have ih0 := laws_markLocusS.mono_l k
  unfold laws_markLocusS.f
  repeat' first
      | (with_reducible exact ih0 _ _ _)
      | (with_reducible exact laws_markText.mono _ _)
      | (with_reducible exact LeO.refl _)
      | (with_reducible exact LeO.none _)
      | (with_reducible refine LeO.ite ?_ ?_)
      | (with_reducible refine LeO.bind ?_ (fun _ => ?_))
      | exact ih0 _ _ _
      | exact laws_markText.mono _ _
      | exact LeO.none _
      | refine LeO.ite ?_ ?_
      | refine LeO.bind ?_ (fun _ => ?_)
noncomputable def laws_markLocusS.L0 (x0 : List (S40)) (x1 : Int) (x5 : Int) : Option (Int × (List (S40))) := lim fun k => laws_markLocusS.l0 k x0 x1 x5
theorem laws_markLocusS.L0_lim (x0 : List (S40)) (x1 : Int) (x5 : Int) : Lim (fun k => laws_markLocusS.l0 k x0 x1 x5) (laws_markLocusS.L0 x0 x1 x5) := ⟨fun k => (laws_markLocusS.mono_l k) x0 x1 x5, rfl⟩
noncomputable def laws_markLocusS.F (l0 : List (S40)) (a1 : Int) : Option (Int × (List (S40))) := lim fun k => laws_markLocusS.f k l0 a1
theorem laws_markLocusS.F_lim (l0 : List (S40)) (a1 : Int) : Lim (fun k => laws_markLocusS.f k l0 a1) (laws_markLocusS.F l0 a1) := ⟨laws_markLocusS.mono l0 a1, rfl⟩
theorem laws_markLocusS.L0_eq (x0 : List (S40)) (x1 : Int) (x5 : Int) : laws_markLocusS.L0 x0 x1 x5 = (if x5 < (x0.length : Int) then ((laws_markText.F x1).bind fun t109 => (if 0 ≤ x5 then ((some (x0.set (x5 : Int).toNat (⟨t109, (rd_T40 x0 x5).f1⟩ : S40) : List (S40))).bind fun y110 => (laws_markLocusS.L0 (y110.set (x5 : Int).toNat (⟨(rd_T40 y110 x5).f0, wrap64 (x1 + 1)⟩ : S40)) (wrap64 ((wrap64 (x1 + 1)) + 1)) (wrap64 (x5 + 1)))) else (none))) else (some (x1, x0))) := by
  refine Lim.succ_eq (laws_markLocusS.L0_lim x0 x1 x5).mon ?_
  simp only [laws_markLocusS.l0]
  repeat' first
  | (with_reducible exact laws_markLocusS.L0_lim _ _ _)
  | (with_reducible exact laws_markText.F_lim _)
  | (with_reducible refine Lim.ite ?_ ?_)
  | (with_reducible refine Lim.bind ?_ (fun _ => ?_))
  | (with_reducible exact Lim.const _)
theorem laws_markLocusS.F_eq (l0 : List (S40)) (a1 : Int) : laws_markLocusS.F l0 a1 = (laws_markLocusS.L0 l0 a1 0) := by
  refine Lim.eq_ ?_
  simp only [laws_markLocusS.f]
  repeat' first
  | (with_reducible exact laws_markLocusS.L0_lim _ _ _)
  | (with_reducible exact laws_markText.F_lim _)
  | (with_reducible refine Lim.ite ?_ ?_)
  | (with_reducible refine Lim.bind ?_ (fun _ => ?_))
  | (with_reducible exact Lim.const _)
def laws_szLocus.f (a0_0 : ByteArray) (a0_1 : Int) (a1 : Int) : Option (Int) := if (wrap64 (a1 - (a0_0.size : Int))) < 0 then (some (-1)) else (some (wrap64 (a1 - (a0_0.size : Int))))
def laws_szLocusS.l0 : Nat → List (S54) → Int → Int → Option (Int)
  | 0, _, _, _ => none
  | k + 1, x0, x1, x5 => if x5 < (x0.length : Int) then (if 0 ≤ x5 then ((laws_szLocus.f ((rd_T54 x0 x5).f0) ((rd_T54 x0 x5).f1) x1).bind fun t114 => (if t114 < 0 then (some (-1)) else (laws_szLocusS.l0 k x0 t114 (wrap64 (x5 + 1))))) else (none)) else (some x1)
def laws_szLocusS.f (k : Nat) (l0 : List (S54)) (a1 : Int) : Option (Int) := if (wrap64 (a1 - (l0.length : Int))) < 0 then (some (-1)) else (laws_szLocusS.l0 k l0 (wrap64 (a1 - (l0.length : Int))) 0)
theorem laws_szLocusS.mono_l : ∀ k, (∀ y0 y1 y2, LeO (laws_szLocusS.l0 k y0 y1 y2) (laws_szLocusS.l0 (k + 1) y0 y1 y2))
  | 0 => fun _ _ _ r h => by simp [laws_szLocusS.l0] at h
  | k + 1 => by
    have ih0 := laws_szLocusS.mono_l k
    · intro y0 y1 y2
      unfold laws_szLocusS.l0
      repeat' first
      | (with_reducible exact ih0 _ _ _)
      | (with_reducible exact LeO.refl _)
      | (with_reducible exact LeO.none _)
      | (with_reducible refine LeO.ite ?_ ?_)
      | (with_reducible refine LeO.bind ?_ (fun _ => ?_))
      | exact ih0 _ _ _
      | exact LeO.none _
      | refine LeO.ite ?_ ?_
      | refine LeO.bind ?_ (fun _ => ?_)
theorem laws_szLocusS.mono : ∀ a0 a1 k, LeO (laws_szLocusS.f k a0 a1) (laws_szLocusS.f (k + 1) a0 a1) := by
  intro a0 a1 k
  have ih0 := laws_szLocusS.mono_l k
  unfold laws_szLocusS.f
  repeat' first
      | (with_reducible exact ih0 _ _ _)
      | (with_reducible exact LeO.refl _)
      | (with_reducible exact LeO.none _)
      | (with_reducible refine LeO.ite ?_ ?_)
      | (with_reducible refine LeO.bind ?_ (fun _ => ?_))
      | exact ih0 _ _ _
      | exact LeO.none _
      | refine LeO.ite ?_ ?_
      | refine LeO.bind ?_ (fun _ => ?_)
noncomputable def laws_szLocusS.L0 (x0 : List (S54)) (x1 : Int) (x5 : Int) : Option (Int) := lim fun k => laws_szLocusS.l0 k x0 x1 x5
theorem laws_szLocusS.L0_lim (x0 : List (S54)) (x1 : Int) (x5 : Int) : Lim (fun k => laws_szLocusS.l0 k x0 x1 x5) (laws_szLocusS.L0 x0 x1 x5) := ⟨fun k => (laws_szLocusS.mono_l k) x0 x1 x5, rfl⟩
noncomputable def laws_szLocusS.F (l0 : List (S54)) (a1 : Int) : Option (Int) := lim fun k => laws_szLocusS.f k l0 a1
theorem laws_szLocusS.F_lim (l0 : List (S54)) (a1 : Int) : Lim (fun k => laws_szLocusS.f k l0 a1) (laws_szLocusS.F l0 a1) := ⟨laws_szLocusS.mono l0 a1, rfl⟩
theorem laws_szLocusS.L0_eq (x0 : List (S54)) (x1 : Int) (x5 : Int) : laws_szLocusS.L0 x0 x1 x5 = (if x5 < (x0.length : Int) then (if 0 ≤ x5 then ((laws_szLocus.f ((rd_T54 x0 x5).f0) ((rd_T54 x0 x5).f1) x1).bind fun t114 => (if t114 < 0 then (some (-1)) else (laws_szLocusS.L0 x0 t114 (wrap64 (x5 + 1))))) else (none)) else (some x1)) := by
  refine Lim.succ_eq (laws_szLocusS.L0_lim x0 x1 x5).mon ?_
  simp only [laws_szLocusS.l0]
  repeat' first
  | (with_reducible exact laws_szLocusS.L0_lim _ _ _)
  | (with_reducible refine Lim.ite ?_ ?_)
  | (with_reducible refine Lim.bind ?_ (fun _ => ?_))
  | (with_reducible exact Lim.const _)
theorem laws_szLocusS.F_eq (l0 : List (S54)) (a1 : Int) : laws_szLocusS.F l0 a1 = (if (wrap64 (a1 - (l0.length : Int))) < 0 then (some (-1)) else (laws_szLocusS.L0 l0 (wrap64 (a1 - (l0.length : Int))) 0)) := by
  refine Lim.eq_ ?_
  simp only [laws_szLocusS.f]
  repeat' first
  | (with_reducible exact laws_szLocusS.L0_lim _ _ _)
  | (with_reducible refine Lim.ite ?_ ?_)
  | (with_reducible refine Lim.bind ?_ (fun _ => ?_))
  | (with_reducible exact Lim.const _)
def spec_l1Split.l0 : Nat → ByteArray → Int → List ByteArray → Int → Int → Option (List ByteArray)
  | 0, _, _, _, _, _ => none
  | k + 1, x0, x1, x5, x6, x7 => if x7 < (x0.size : Int) then (if 0 ≤ x7 then (if (bt x0 x7) = x1 then (if 0 ≤ x6 then (if x6 ≤ x7 then (if x7 ≤ (x0.size : Int) then (if x5.length < 8796093022208 then (spec_l1Split.l0 k x0 x1 (x5 ++ [x0.extract (x6 : Int).toNat (x7 : Int).toNat]) (wrap64 (x7 + 1)) (wrap64 (x7 + 1))) else (none)) else (none)) else (none)) else (none)) else (spec_l1Split.l0 k x0 x1 x5 x6 (wrap64 (x7 + 1)))) else (none)) else (if 0 ≤ x6 then (if x6 ≤ (x0.size : Int) then (if x5.length < 8796093022208 then (some (x5 ++ [x0.extract (x6 : Int).toNat x0.size])) else (none)) else (none)) else (none))
def spec_l1Split.f (k : Nat) (a0 : ByteArray) (a1 : Int) : Option (List ByteArray) := spec_l1Split.l0 k a0 a1 ([] : List ByteArray) 0 0
theorem spec_l1Split.mono_l : ∀ k, (∀ y0 y1 y2 y3 y4, LeO (spec_l1Split.l0 k y0 y1 y2 y3 y4) (spec_l1Split.l0 (k + 1) y0 y1 y2 y3 y4))
  | 0 => fun _ _ _ _ _ r h => by simp [spec_l1Split.l0] at h
  | k + 1 => by
    have ih0 := spec_l1Split.mono_l k
    · intro y0 y1 y2 y3 y4
      unfold spec_l1Split.l0
      repeat' first
      | (with_reducible exact ih0 _ _ _ _ _)
      | (with_reducible exact LeO.refl _)
      | (with_reducible exact LeO.none _)
      | (with_reducible refine LeO.ite ?_ ?_)
      | (with_reducible refine LeO.bind ?_ (fun _ => ?_))
      | exact ih0 _ _ _ _ _
      | exact LeO.none _
      | refine LeO.ite ?_ ?_
      | refine LeO.bind ?_ (fun _ => ?_)
theorem spec_l1Split.mono : ∀ a0 a1 k, LeO (spec_l1Split.f k a0 a1) (spec_l1Split.f (k + 1) a0 a1) := by
  intro a0 a1 k
  have ih0 := spec_l1Split.mono_l k
  unfold spec_l1Split.f
  repeat' first
      | (with_reducible exact ih0 _ _ _ _ _)
      | (with_reducible exact LeO.refl _)
      | (with_reducible exact LeO.none _)
      | (with_reducible refine LeO.ite ?_ ?_)
      | (with_reducible refine LeO.bind ?_ (fun _ => ?_))
      | exact ih0 _ _ _ _ _
      | exact LeO.none _
      | refine LeO.ite ?_ ?_
      | refine LeO.bind ?_ (fun _ => ?_)
noncomputable def spec_l1Split.L0 (x0 : ByteArray) (x1 : Int) (x5 : List ByteArray) (x6 : Int) (x7 : Int) : Option (List ByteArray) := lim fun k => spec_l1Split.l0 k x0 x1 x5 x6 x7
theorem spec_l1Split.L0_lim (x0 : ByteArray) (x1 : Int) (x5 : List ByteArray) (x6 : Int) (x7 : Int) : Lim (fun k => spec_l1Split.l0 k x0 x1 x5 x6 x7) (spec_l1Split.L0 x0 x1 x5 x6 x7) := ⟨fun k => (spec_l1Split.mono_l k) x0 x1 x5 x6 x7, rfl⟩
noncomputable def spec_l1Split.F (a0 : ByteArray) (a1 : Int) : Option (List ByteArray) := lim fun k => spec_l1Split.f k a0 a1
theorem spec_l1Split.F_lim (a0 : ByteArray) (a1 : Int) : Lim (fun k => spec_l1Split.f k a0 a1) (spec_l1Split.F a0 a1) := ⟨spec_l1Split.mono a0 a1, rfl⟩
theorem spec_l1Split.L0_eq (x0 : ByteArray) (x1 : Int) (x5 : List ByteArray) (x6 : Int) (x7 : Int) : spec_l1Split.L0 x0 x1 x5 x6 x7 = (if x7 < (x0.size : Int) then (if 0 ≤ x7 then (if (bt x0 x7) = x1 then (if 0 ≤ x6 then (if x6 ≤ x7 then (if x7 ≤ (x0.size : Int) then (if x5.length < 8796093022208 then (spec_l1Split.L0 x0 x1 (x5 ++ [x0.extract (x6 : Int).toNat (x7 : Int).toNat]) (wrap64 (x7 + 1)) (wrap64 (x7 + 1))) else (none)) else (none)) else (none)) else (none)) else (spec_l1Split.L0 x0 x1 x5 x6 (wrap64 (x7 + 1)))) else (none)) else (if 0 ≤ x6 then (if x6 ≤ (x0.size : Int) then (if x5.length < 8796093022208 then (some (x5 ++ [x0.extract (x6 : Int).toNat x0.size])) else (none)) else (none)) else (none))) := by
  refine Lim.succ_eq (spec_l1Split.L0_lim x0 x1 x5 x6 x7).mon ?_
  simp only [spec_l1Split.l0]
  repeat' first
  | (with_reducible exact spec_l1Split.L0_lim _ _ _ _ _)
  | (with_reducible refine Lim.ite ?_ ?_)
  | (with_reducible refine Lim.bind ?_ (fun _ => ?_))
  | (with_reducible exact Lim.const _)
theorem spec_l1Split.F_eq (a0 : ByteArray) (a1 : Int) : spec_l1Split.F a0 a1 = (spec_l1Split.L0 a0 a1 ([] : List ByteArray) 0 0) := by
  refine Lim.eq_ ?_
  simp only [spec_l1Split.f]
  repeat' first
  | (with_reducible exact spec_l1Split.L0_lim _ _ _ _ _)
  | (with_reducible refine Lim.ite ?_ ?_)
  | (with_reducible refine Lim.bind ?_ (fun _ => ?_))
  | (with_reducible exact Lim.const _)
def spec_l1In.f (a0 : Int) (a1 : Int) (a2 : Int) : Option (Bool) := if a0 ≥ a1 then (some (decide (a0 ≤ a2))) else (some false)
mutual
def spec_l1Read.j0 : Nat → ByteArray → Bool → Option (Int)
  | 0, _, _ => none
  | k + 1, x0, x18 => if x18 = true then (some (-1)) else (spec_l1Read.l0 k x0 0 0)
def spec_l1Read.l0 : Nat → ByteArray → Int → Int → Option (Int)
  | 0, _, _, _ => none
  | k + 1, x0, x3, x4 => if x4 < (x0.size : Int) then (if 0 ≤ x4 then (if (bt x0 x4) < 48 then (some (-1)) else (if (bt x0 x4) > 57 then (some (-1)) else (spec_l1Read.l0 k x0 (wrap64 ((wrap64 (10 * x3)) + (((bt x0 x4) - 48) % 256))) (wrap64 (x4 + 1))))) else (none)) else (some x3)
end
def spec_l1Read.f (k : Nat) (a0 : ByteArray) : Option (Int) := (spec_l1In.f (a0.size : Int) 1 6).bind fun t121 => (if t121 = true then (if 0 < (a0.size : Int) then (if (bt a0 0) = 48 then (spec_l1Read.j0 k a0 (decide ((a0.size : Int) > 1))) else (spec_l1Read.j0 k a0 false)) else (none)) else (spec_l1Read.j0 k a0 true))
theorem spec_l1Read.mono_l : ∀ k, (∀ y0 y1, LeO (spec_l1Read.j0 k y0 y1) (spec_l1Read.j0 (k + 1) y0 y1)) ∧ (∀ y0 y1 y2, LeO (spec_l1Read.l0 k y0 y1 y2) (spec_l1Read.l0 (k + 1) y0 y1 y2))
  | 0 => ⟨fun _ _ r h => by simp [spec_l1Read.j0] at h, fun _ _ _ r h => by simp [spec_l1Read.l0] at h⟩
  | k + 1 => by
    obtain ⟨ih0, ih1⟩ := spec_l1Read.mono_l k
    refine ⟨?_, ?_⟩
    · intro y0 y1
      unfold spec_l1Read.j0
      repeat' first
      | (with_reducible exact ih0 _ _)
      | (with_reducible exact ih1 _ _ _)
      | (with_reducible exact LeO.refl _)
      | (with_reducible exact LeO.none _)
      | (with_reducible refine LeO.ite ?_ ?_)
      | (with_reducible refine LeO.bind ?_ (fun _ => ?_))
      | exact ih0 _ _
      | exact ih1 _ _ _
      | exact LeO.none _
      | refine LeO.ite ?_ ?_
      | refine LeO.bind ?_ (fun _ => ?_)
    · intro y0 y1 y2
      unfold spec_l1Read.l0
      repeat' first
      | (with_reducible exact ih0 _ _)
      | (with_reducible exact ih1 _ _ _)
      | (with_reducible exact LeO.refl _)
      | (with_reducible exact LeO.none _)
      | (with_reducible refine LeO.ite ?_ ?_)
      | (with_reducible refine LeO.bind ?_ (fun _ => ?_))
      | exact ih0 _ _
      | exact ih1 _ _ _
      | exact LeO.none _
      | refine LeO.ite ?_ ?_
      | refine LeO.bind ?_ (fun _ => ?_)
theorem spec_l1Read.mono : ∀ a0 k, LeO (spec_l1Read.f k a0) (spec_l1Read.f (k + 1) a0) := by
  intro a0 k
  obtain ⟨ih0, ih1⟩ := spec_l1Read.mono_l k
  unfold spec_l1Read.f
  repeat' first
      | (with_reducible exact ih0 _ _)
      | (with_reducible exact ih1 _ _ _)
      | (with_reducible exact LeO.refl _)
      | (with_reducible exact LeO.none _)
      | (with_reducible refine LeO.ite ?_ ?_)
      | (with_reducible refine LeO.bind ?_ (fun _ => ?_))
      | exact ih0 _ _
      | exact ih1 _ _ _
      | exact LeO.none _
      | refine LeO.ite ?_ ?_
      | refine LeO.bind ?_ (fun _ => ?_)
noncomputable def spec_l1Read.J0 (x0 : ByteArray) (x18 : Bool) : Option (Int) := lim fun k => spec_l1Read.j0 k x0 x18
theorem spec_l1Read.J0_lim (x0 : ByteArray) (x18 : Bool) : Lim (fun k => spec_l1Read.j0 k x0 x18) (spec_l1Read.J0 x0 x18) := ⟨fun k => (spec_l1Read.mono_l k).1 x0 x18, rfl⟩
noncomputable def spec_l1Read.L0 (x0 : ByteArray) (x3 : Int) (x4 : Int) : Option (Int) := lim fun k => spec_l1Read.l0 k x0 x3 x4
theorem spec_l1Read.L0_lim (x0 : ByteArray) (x3 : Int) (x4 : Int) : Lim (fun k => spec_l1Read.l0 k x0 x3 x4) (spec_l1Read.L0 x0 x3 x4) := ⟨fun k => (spec_l1Read.mono_l k).2 x0 x3 x4, rfl⟩
noncomputable def spec_l1Read.F (a0 : ByteArray) : Option (Int) := lim fun k => spec_l1Read.f k a0
theorem spec_l1Read.F_lim (a0 : ByteArray) : Lim (fun k => spec_l1Read.f k a0) (spec_l1Read.F a0) := ⟨spec_l1Read.mono a0, rfl⟩
theorem spec_l1Read.J0_eq (x0 : ByteArray) (x18 : Bool) : spec_l1Read.J0 x0 x18 = (if x18 = true then (some (-1)) else (spec_l1Read.L0 x0 0 0)) := by
  refine Lim.succ_eq (spec_l1Read.J0_lim x0 x18).mon ?_
  simp only [spec_l1Read.j0]
  repeat' first
  | (with_reducible exact spec_l1Read.J0_lim _ _)
  | (with_reducible exact spec_l1Read.L0_lim _ _ _)
  | (with_reducible refine Lim.ite ?_ ?_)
  | (with_reducible refine Lim.bind ?_ (fun _ => ?_))
  | (with_reducible exact Lim.const _)
theorem spec_l1Read.L0_eq (x0 : ByteArray) (x3 : Int) (x4 : Int) : spec_l1Read.L0 x0 x3 x4 = (if x4 < (x0.size : Int) then (if 0 ≤ x4 then (if (bt x0 x4) < 48 then (some (-1)) else (if (bt x0 x4) > 57 then (some (-1)) else (spec_l1Read.L0 x0 (wrap64 ((wrap64 (10 * x3)) + (((bt x0 x4) - 48) % 256))) (wrap64 (x4 + 1))))) else (none)) else (some x3)) := by
  refine Lim.succ_eq (spec_l1Read.L0_lim x0 x3 x4).mon ?_
  simp only [spec_l1Read.l0]
  repeat' first
  | (with_reducible exact spec_l1Read.J0_lim _ _)
  | (with_reducible exact spec_l1Read.L0_lim _ _ _)
  | (with_reducible refine Lim.ite ?_ ?_)
  | (with_reducible refine Lim.bind ?_ (fun _ => ?_))
  | (with_reducible exact Lim.const _)
theorem spec_l1Read.F_eq (a0 : ByteArray) : spec_l1Read.F a0 = ((spec_l1In.f (a0.size : Int) 1 6).bind fun t121 => (if t121 = true then (if 0 < (a0.size : Int) then (if (bt a0 0) = 48 then (spec_l1Read.J0 a0 (decide ((a0.size : Int) > 1))) else (spec_l1Read.J0 a0 false)) else (none)) else (spec_l1Read.J0 a0 true))) := by
  refine Lim.eq_ ?_
  simp only [spec_l1Read.f]
  repeat' first
  | (with_reducible exact spec_l1Read.J0_lim _ _)
  | (with_reducible exact spec_l1Read.L0_lim _ _ _)
  | (with_reducible refine Lim.ite ?_ ?_)
  | (with_reducible refine Lim.bind ?_ (fun _ => ?_))
  | (with_reducible exact Lim.const _)
def spec_l1Num.f : Nat → Int → Option (ByteArray)
  | 0, _ => none
  | k + 1, a0 => if a0 < 10 then (some (strOfNums (([(wrap64 (48 + a0)) % 256] : List Int)))) else ((spec_l1Num.f k (wrap64 (Int.tdiv a0 10))).bind fun t125 => ((some (([(wrap64 (48 + (Int.tmod a0 10))) % 256] : List Int) : List Int)).bind fun y126 => (if t125.size + (strOfNums y126).size ≤ 9223372036854775807 then (some (t125 ++ (strOfNums y126))) else (none))))
theorem spec_l1Num.mono_l : ∀ k, (∀ y0, LeO (spec_l1Num.f k y0) (spec_l1Num.f (k + 1) y0))
  | 0 => fun _ r h => by simp [spec_l1Num.f] at h
  | k + 1 => by
    have ih0 := spec_l1Num.mono_l k
    · intro y0
      unfold spec_l1Num.f
      repeat' first
      | (with_reducible exact ih0 _)
      | (with_reducible exact LeO.refl _)
      | (with_reducible exact LeO.none _)
      | (with_reducible refine LeO.ite ?_ ?_)
      | (with_reducible refine LeO.bind ?_ (fun _ => ?_))
      | exact ih0 _
      | exact LeO.none _
      | refine LeO.ite ?_ ?_
      | refine LeO.bind ?_ (fun _ => ?_)
theorem spec_l1Num.mono : ∀ a0 k, LeO (spec_l1Num.f k a0) (spec_l1Num.f (k + 1) a0) := by
  intro a0 k
  have ih0 := spec_l1Num.mono_l k
  exact ih0 a0
noncomputable def spec_l1Num.F (a0 : Int) : Option (ByteArray) := lim fun k => spec_l1Num.f k a0
theorem spec_l1Num.F_lim (a0 : Int) : Lim (fun k => spec_l1Num.f k a0) (spec_l1Num.F a0) := ⟨spec_l1Num.mono a0, rfl⟩
theorem spec_l1Num.F_eq (a0 : Int) : spec_l1Num.F a0 = (if a0 < 10 then (some (strOfNums (([(wrap64 (48 + a0)) % 256] : List Int)))) else ((spec_l1Num.F (wrap64 (Int.tdiv a0 10))).bind fun t125 => ((some (([(wrap64 (48 + (Int.tmod a0 10))) % 256] : List Int) : List Int)).bind fun y126 => (if t125.size + (strOfNums y126).size ≤ 9223372036854775807 then (some (t125 ++ (strOfNums y126))) else (none))))) := by
  refine Lim.succ_eq (spec_l1Num.F_lim a0).mon ?_
  simp only [spec_l1Num.f]
  repeat' first
  | (with_reducible exact spec_l1Num.F_lim _)
  | (with_reducible refine Lim.ite ?_ ?_)
  | (with_reducible refine Lim.bind ?_ (fun _ => ?_))
  | (with_reducible exact Lim.const _)
def spec_l1Int.f (k : Nat) (a0 : Int) : Option (ByteArray) := if a0 < 0 then ((spec_l1Num.f k (wrap64 (-a0))).bind fun t129 => (if 1 + t129.size ≤ 9223372036854775807 then (some ((⟨#[45]⟩ : ByteArray) ++ t129)) else (none))) else ((spec_l1Num.f k a0).bind fun t130 => (some t130))
theorem spec_l1Int.mono : ∀ a0 k, LeO (spec_l1Int.f k a0) (spec_l1Int.f (k + 1) a0) := by
  intro a0 k
  unfold spec_l1Int.f
  repeat' first
      | (with_reducible exact spec_l1Num.mono _ _)
      | (with_reducible exact LeO.refl _)
      | (with_reducible exact LeO.none _)
      | (with_reducible refine LeO.ite ?_ ?_)
      | (with_reducible refine LeO.bind ?_ (fun _ => ?_))
      | exact spec_l1Num.mono _ _
      | exact LeO.none _
      | refine LeO.ite ?_ ?_
      | refine LeO.bind ?_ (fun _ => ?_)
noncomputable def spec_l1Int.F (a0 : Int) : Option (ByteArray) := lim fun k => spec_l1Int.f k a0
theorem spec_l1Int.F_lim (a0 : Int) : Lim (fun k => spec_l1Int.f k a0) (spec_l1Int.F a0) := ⟨spec_l1Int.mono a0, rfl⟩
theorem spec_l1Int.F_eq (a0 : Int) : spec_l1Int.F a0 = (if a0 < 0 then ((spec_l1Num.F (wrap64 (-a0))).bind fun t129 => (if 1 + t129.size ≤ 9223372036854775807 then (some ((⟨#[45]⟩ : ByteArray) ++ t129)) else (none))) else ((spec_l1Num.F a0).bind fun t130 => (some t130))) := by
  refine Lim.eq_ ?_
  simp only [spec_l1Int.f]
  repeat' first
  | (with_reducible exact spec_l1Num.F_lim _)
  | (with_reducible refine Lim.ite ?_ ?_)
  | (with_reducible refine Lim.bind ?_ (fun _ => ?_))
  | (with_reducible exact Lim.const _)
def spec_loRead.j0 : Nat → ByteArray → Int → Bool → Option (Int)
  | 0, _, _, _ => none
  | k + 1, x0, x3, x13 => if x13 = true then (if 1 ≤ (x0.size : Int) then ((spec_l1Read.f k (x0.extract 1 x0.size)).bind fun t132 => ((spec_l1Int.f k (wrap64 (-t132))).bind fun t133 => (if t133.toList = x0.toList then (some (wrap64 (-t132))) else (some 1000)))) else (none)) else ((spec_l1Int.f k x3).bind fun t134 => (if t134.toList = x0.toList then (some x3) else (some 1000)))
def spec_loRead.f (k : Nat) (a0 : ByteArray) : Option (Int) := (spec_l1Read.f k a0).bind fun t131 => (if (a0.size : Int) > 1 then (if 0 < (a0.size : Int) then (spec_loRead.j0 k a0 t131 ((bt a0 0) == 45)) else (none)) else (spec_loRead.j0 k a0 t131 false))
theorem spec_loRead.mono_l : ∀ k, (∀ y0 y1 y2, LeO (spec_loRead.j0 k y0 y1 y2) (spec_loRead.j0 (k + 1) y0 y1 y2))
  | 0 => fun _ _ _ r h => by simp [spec_loRead.j0] at h
  | k + 1 => by
    have ih0 := spec_loRead.mono_l k
    · intro y0 y1 y2
      unfold spec_loRead.j0
      repeat' first
      | (with_reducible exact ih0 _ _ _)
      | (with_reducible exact spec_l1Int.mono _ _)
      | (with_reducible exact spec_l1Read.mono _ _)
      | (with_reducible exact LeO.refl _)
      | (with_reducible exact LeO.none _)
      | (with_reducible refine LeO.ite ?_ ?_)
      | (with_reducible refine LeO.bind ?_ (fun _ => ?_))
      | exact ih0 _ _ _
      | exact spec_l1Int.mono _ _
      | exact spec_l1Read.mono _ _
      | exact LeO.none _
      | refine LeO.ite ?_ ?_
      | refine LeO.bind ?_ (fun _ => ?_)
theorem spec_loRead.mono : ∀ a0 k, LeO (spec_loRead.f k a0) (spec_loRead.f (k + 1) a0) := by
  intro a0 k
  have ih0 := spec_loRead.mono_l k
  unfold spec_loRead.f
  repeat' first
      | (with_reducible exact ih0 _ _ _)
      | (with_reducible exact spec_l1Int.mono _ _)
      | (with_reducible exact spec_l1Read.mono _ _)
      | (with_reducible exact LeO.refl _)
      | (with_reducible exact LeO.none _)
      | (with_reducible refine LeO.ite ?_ ?_)
      | (with_reducible refine LeO.bind ?_ (fun _ => ?_))
      | exact ih0 _ _ _
      | exact spec_l1Int.mono _ _
      | exact spec_l1Read.mono _ _
      | exact LeO.none _
      | refine LeO.ite ?_ ?_
      | refine LeO.bind ?_ (fun _ => ?_)
noncomputable def spec_loRead.J0 (x0 : ByteArray) (x3 : Int) (x13 : Bool) : Option (Int) := lim fun k => spec_loRead.j0 k x0 x3 x13
theorem spec_loRead.J0_lim (x0 : ByteArray) (x3 : Int) (x13 : Bool) : Lim (fun k => spec_loRead.j0 k x0 x3 x13) (spec_loRead.J0 x0 x3 x13) := ⟨fun k => (spec_loRead.mono_l k) x0 x3 x13, rfl⟩
noncomputable def spec_loRead.F (a0 : ByteArray) : Option (Int) := lim fun k => spec_loRead.f k a0
theorem spec_loRead.F_lim (a0 : ByteArray) : Lim (fun k => spec_loRead.f k a0) (spec_loRead.F a0) := ⟨spec_loRead.mono a0, rfl⟩
theorem spec_loRead.J0_eq (x0 : ByteArray) (x3 : Int) (x13 : Bool) : spec_loRead.J0 x0 x3 x13 = (if x13 = true then (if 1 ≤ (x0.size : Int) then ((spec_l1Read.F (x0.extract 1 x0.size)).bind fun t132 => ((spec_l1Int.F (wrap64 (-t132))).bind fun t133 => (if t133.toList = x0.toList then (some (wrap64 (-t132))) else (some 1000)))) else (none)) else ((spec_l1Int.F x3).bind fun t134 => (if t134.toList = x0.toList then (some x3) else (some 1000)))) := by
  refine Lim.succ_eq (spec_loRead.J0_lim x0 x3 x13).mon ?_
  simp only [spec_loRead.j0]
  repeat' first
  | (with_reducible exact spec_loRead.J0_lim _ _ _)
  | (with_reducible exact spec_l1Int.F_lim _)
  | (with_reducible exact spec_l1Read.F_lim _)
  | (with_reducible refine Lim.ite ?_ ?_)
  | (with_reducible refine Lim.bind ?_ (fun _ => ?_))
  | (with_reducible exact Lim.const _)
theorem spec_loRead.F_eq (a0 : ByteArray) : spec_loRead.F a0 = ((spec_l1Read.F a0).bind fun t131 => (if (a0.size : Int) > 1 then (if 0 < (a0.size : Int) then (spec_loRead.J0 a0 t131 ((bt a0 0) == 45)) else (none)) else (spec_loRead.J0 a0 t131 false))) := by
  refine Lim.eq_ ?_
  simp only [spec_loRead.f]
  repeat' first
  | (with_reducible exact spec_loRead.J0_lim _ _ _)
  | (with_reducible exact spec_l1Int.F_lim _)
  | (with_reducible exact spec_l1Read.F_lim _)
  | (with_reducible refine Lim.ite ?_ ?_)
  | (with_reducible refine Lim.bind ?_ (fun _ => ?_))
  | (with_reducible exact Lim.const _)
def spec_loAngle.f (a0 : Int) : Option (Bool) := (spec_l1In.f a0 (-90) 90).bind fun t135 => (some t135)
def spec_naName.l0 : Nat → ByteArray → Int → Option (Bool)
  | 0, _, _ => none
  | k + 1, x0, x3 => if x3 < (x0.size : Int) then (if 0 ≤ x3 then (if (bt x0 x3) < 97 then (some false) else (if (bt x0 x3) > 122 then (some false) else (spec_naName.l0 k x0 (wrap64 (x3 + 1))))) else (none)) else ((spec_l1In.f (x0.size : Int) 1 8).bind fun t136 => (some t136))
def spec_naName.f (k : Nat) (a0 : ByteArray) : Option (Bool) := spec_naName.l0 k a0 0
theorem spec_naName.mono_l : ∀ k, (∀ y0 y1, LeO (spec_naName.l0 k y0 y1) (spec_naName.l0 (k + 1) y0 y1))
  | 0 => fun _ _ r h => by simp [spec_naName.l0] at h
  | k + 1 => by
    have ih0 := spec_naName.mono_l k
    · intro y0 y1
      unfold spec_naName.l0
      repeat' first
      | (with_reducible exact ih0 _ _)
      | (with_reducible exact LeO.refl _)
      | (with_reducible exact LeO.none _)
      | (with_reducible refine LeO.ite ?_ ?_)
      | (with_reducible refine LeO.bind ?_ (fun _ => ?_))
      | exact ih0 _ _
      | exact LeO.none _
      | refine LeO.ite ?_ ?_
      | refine LeO.bind ?_ (fun _ => ?_)
theorem spec_naName.mono : ∀ a0 k, LeO (spec_naName.f k a0) (spec_naName.f (k + 1) a0) := by
  intro a0 k
  have ih0 := spec_naName.mono_l k
  unfold spec_naName.f
  repeat' first
      | (with_reducible exact ih0 _ _)
      | (with_reducible exact LeO.refl _)
      | (with_reducible exact LeO.none _)
      | (with_reducible refine LeO.ite ?_ ?_)
      | (with_reducible refine LeO.bind ?_ (fun _ => ?_))
      | exact ih0 _ _
      | exact LeO.none _
      | refine LeO.ite ?_ ?_
      | refine LeO.bind ?_ (fun _ => ?_)
noncomputable def spec_naName.L0 (x0 : ByteArray) (x3 : Int) : Option (Bool) := lim fun k => spec_naName.l0 k x0 x3
theorem spec_naName.L0_lim (x0 : ByteArray) (x3 : Int) : Lim (fun k => spec_naName.l0 k x0 x3) (spec_naName.L0 x0 x3) := ⟨fun k => (spec_naName.mono_l k) x0 x3, rfl⟩
noncomputable def spec_naName.F (a0 : ByteArray) : Option (Bool) := lim fun k => spec_naName.f k a0
theorem spec_naName.F_lim (a0 : ByteArray) : Lim (fun k => spec_naName.f k a0) (spec_naName.F a0) := ⟨spec_naName.mono a0, rfl⟩
theorem spec_naName.L0_eq (x0 : ByteArray) (x3 : Int) : spec_naName.L0 x0 x3 = (if x3 < (x0.size : Int) then (if 0 ≤ x3 then (if (bt x0 x3) < 97 then (some false) else (if (bt x0 x3) > 122 then (some false) else (spec_naName.L0 x0 (wrap64 (x3 + 1))))) else (none)) else ((spec_l1In.f (x0.size : Int) 1 8).bind fun t136 => (some t136))) := by
  refine Lim.succ_eq (spec_naName.L0_lim x0 x3).mon ?_
  simp only [spec_naName.l0]
  repeat' first
  | (with_reducible exact spec_naName.L0_lim _ _)
  | (with_reducible refine Lim.ite ?_ ?_)
  | (with_reducible refine Lim.bind ?_ (fun _ => ?_))
  | (with_reducible exact Lim.const _)
theorem spec_naName.F_eq (a0 : ByteArray) : spec_naName.F a0 = (spec_naName.L0 a0 0) := by
  refine Lim.eq_ ?_
  simp only [spec_naName.f]
  repeat' first
  | (with_reducible exact spec_naName.L0_lim _ _)
  | (with_reducible refine Lim.ite ?_ ?_)
  | (with_reducible refine Lim.bind ?_ (fun _ => ?_))
  | (with_reducible exact Lim.const _)
def spec_loFind.l0 : Nat → ByteArray → List (S40) → Int → Int → Option (Int)
  | 0, _, _, _, _ => none
  | k + 1, x1, x7, x8, x9 => if x9 < x8 then (if 0 ≤ x9 then (if x9 < (x7.length : Int) then (if ((rd_T40 x7 x9).f0).toList = x1.toList then (some x9) else (spec_loFind.l0 k x1 x7 x8 (wrap64 (x9 + 1)))) else (none)) else (none)) else (some (-1))
def spec_loFind.f (k : Nat) (l0 : List (S40)) (a1 : ByteArray) : Option (Int) := spec_loFind.l0 k a1 l0 (l0.length : Int) 0
theorem spec_loFind.mono_l : ∀ k, (∀ y0 y1 y2 y3, LeO (spec_loFind.l0 k y0 y1 y2 y3) (spec_loFind.l0 (k + 1) y0 y1 y2 y3))
  | 0 => fun _ _ _ _ r h => by simp [spec_loFind.l0] at h
  | k + 1 => by
    have ih0 := spec_loFind.mono_l k
    · intro y0 y1 y2 y3
      unfold spec_loFind.l0
      repeat' first
      | (with_reducible exact ih0 _ _ _ _)
      | (with_reducible exact LeO.refl _)
      | (with_reducible exact LeO.none _)
      | (with_reducible refine LeO.ite ?_ ?_)
      | (with_reducible refine LeO.bind ?_ (fun _ => ?_))
      | exact ih0 _ _ _ _
      | exact LeO.none _
      | refine LeO.ite ?_ ?_
      | refine LeO.bind ?_ (fun _ => ?_)
theorem spec_loFind.mono : ∀ a0 a1 k, LeO (spec_loFind.f k a0 a1) (spec_loFind.f (k + 1) a0 a1) := by
  intro a0 a1 k
  have ih0 := spec_loFind.mono_l k
  unfold spec_loFind.f
  repeat' first
      | (with_reducible exact ih0 _ _ _ _)
      | (with_reducible exact LeO.refl _)
      | (with_reducible exact LeO.none _)
      | (with_reducible refine LeO.ite ?_ ?_)
      | (with_reducible refine LeO.bind ?_ (fun _ => ?_))
      | exact ih0 _ _ _ _
      | exact LeO.none _
      | refine LeO.ite ?_ ?_
      | refine LeO.bind ?_ (fun _ => ?_)
noncomputable def spec_loFind.L0 (x1 : ByteArray) (x7 : List (S40)) (x8 : Int) (x9 : Int) : Option (Int) := lim fun k => spec_loFind.l0 k x1 x7 x8 x9
theorem spec_loFind.L0_lim (x1 : ByteArray) (x7 : List (S40)) (x8 : Int) (x9 : Int) : Lim (fun k => spec_loFind.l0 k x1 x7 x8 x9) (spec_loFind.L0 x1 x7 x8 x9) := ⟨fun k => (spec_loFind.mono_l k) x1 x7 x8 x9, rfl⟩
noncomputable def spec_loFind.F (l0 : List (S40)) (a1 : ByteArray) : Option (Int) := lim fun k => spec_loFind.f k l0 a1
theorem spec_loFind.F_lim (l0 : List (S40)) (a1 : ByteArray) : Lim (fun k => spec_loFind.f k l0 a1) (spec_loFind.F l0 a1) := ⟨spec_loFind.mono l0 a1, rfl⟩
theorem spec_loFind.L0_eq (x1 : ByteArray) (x7 : List (S40)) (x8 : Int) (x9 : Int) : spec_loFind.L0 x1 x7 x8 x9 = (if x9 < x8 then (if 0 ≤ x9 then (if x9 < (x7.length : Int) then (if ((rd_T40 x7 x9).f0).toList = x1.toList then (some x9) else (spec_loFind.L0 x1 x7 x8 (wrap64 (x9 + 1)))) else (none)) else (none)) else (some (-1))) := by
  refine Lim.succ_eq (spec_loFind.L0_lim x1 x7 x8 x9).mon ?_
  simp only [spec_loFind.l0]
  repeat' first
  | (with_reducible exact spec_loFind.L0_lim _ _ _ _)
  | (with_reducible refine Lim.ite ?_ ?_)
  | (with_reducible refine Lim.bind ?_ (fun _ => ?_))
  | (with_reducible exact Lim.const _)
theorem spec_loFind.F_eq (l0 : List (S40)) (a1 : ByteArray) : spec_loFind.F l0 a1 = (spec_loFind.L0 a1 l0 (l0.length : Int) 0) := by
  refine Lim.eq_ ?_
  simp only [spec_loFind.f]
  repeat' first
  | (with_reducible exact spec_loFind.L0_lim _ _ _ _)
  | (with_reducible refine Lim.ite ?_ ?_)
  | (with_reducible refine Lim.bind ?_ (fun _ => ?_))
  | (with_reducible exact Lim.const _)
def spec_loGood.l0 : Nat → List (S40) → List (S40) → Int → Int → Option (Bool)
  | 0, _, _, _, _ => none
  | k + 1, x0, x5, x6, x7 => if x7 < x6 then (if 0 ≤ x7 then (if x7 < (x5.length : Int) then ((spec_naName.f k ((rd_T40 x5 x7).f0)).bind fun t141 => (if t141 = true then ((spec_loAngle.f ((rd_T40 x5 x7).f1)).bind fun t142 => (if t142 = true then (if x7 > 0 then (if 0 ≤ (wrap64 (x7 - 1)) then (if (wrap64 (x7 - 1)) < (x0.length : Int) then (if ((rd_T40 x0 (wrap64 (x7 - 1))).f1) ≥ ((rd_T40 x5 x7).f1) then (some false) else (if x7 ≤ (x0.length : Int) then ((spec_loFind.f k (x0.take (x7 : Int).toNat) ((rd_T40 x5 x7).f0)).bind fun t148 => (if t148 ≥ 0 then (some false) else (spec_loGood.l0 k x0 x5 x6 (wrap64 (x7 + 1))))) else (none))) else (none)) else (none)) else (if x7 ≤ (x0.length : Int) then ((spec_loFind.f k (x0.take (x7 : Int).toNat) ((rd_T40 x5 x7).f0)).bind fun t153 => (if t153 ≥ 0 then (some false) else (spec_loGood.l0 k x0 x5 x6 (wrap64 (x7 + 1))))) else (none))) else (some false))) else (some false))) else (none)) else (none)) else (some (decide ((x0.length : Int) ≤ 8)))
def spec_loGood.f (k : Nat) (l0 : List (S40)) : Option (Bool) := spec_loGood.l0 k l0 l0 (l0.length : Int) 0
theorem spec_loGood.mono_l : ∀ k, (∀ y0 y1 y2 y3, LeO (spec_loGood.l0 k y0 y1 y2 y3) (spec_loGood.l0 (k + 1) y0 y1 y2 y3))
  | 0 => fun _ _ _ _ r h => by simp [spec_loGood.l0] at h
  | k + 1 => by
    have ih0 := spec_loGood.mono_l k
    · intro y0 y1 y2 y3
      unfold spec_loGood.l0
      repeat' first
      | (with_reducible exact ih0 _ _ _ _)
      | (with_reducible exact spec_loFind.mono _ _ _)
      | (with_reducible exact spec_naName.mono _ _)
      | (with_reducible exact LeO.refl _)
      | (with_reducible exact LeO.none _)
      | (with_reducible refine LeO.ite ?_ ?_)
      | (with_reducible refine LeO.bind ?_ (fun _ => ?_))
      | exact ih0 _ _ _ _
      | exact spec_loFind.mono _ _ _
      | exact spec_naName.mono _ _
      | exact LeO.none _
      | refine LeO.ite ?_ ?_
      | refine LeO.bind ?_ (fun _ => ?_)
theorem spec_loGood.mono : ∀ a0 k, LeO (spec_loGood.f k a0) (spec_loGood.f (k + 1) a0) := by
  intro a0 k
  have ih0 := spec_loGood.mono_l k
  unfold spec_loGood.f
  repeat' first
      | (with_reducible exact ih0 _ _ _ _)
      | (with_reducible exact spec_loFind.mono _ _ _)
      | (with_reducible exact spec_naName.mono _ _)
      | (with_reducible exact LeO.refl _)
      | (with_reducible exact LeO.none _)
      | (with_reducible refine LeO.ite ?_ ?_)
      | (with_reducible refine LeO.bind ?_ (fun _ => ?_))
      | exact ih0 _ _ _ _
      | exact spec_loFind.mono _ _ _
      | exact spec_naName.mono _ _
      | exact LeO.none _
      | refine LeO.ite ?_ ?_
      | refine LeO.bind ?_ (fun _ => ?_)
noncomputable def spec_loGood.L0 (x0 : List (S40)) (x5 : List (S40)) (x6 : Int) (x7 : Int) : Option (Bool) := lim fun k => spec_loGood.l0 k x0 x5 x6 x7
theorem spec_loGood.L0_lim (x0 : List (S40)) (x5 : List (S40)) (x6 : Int) (x7 : Int) : Lim (fun k => spec_loGood.l0 k x0 x5 x6 x7) (spec_loGood.L0 x0 x5 x6 x7) := ⟨fun k => (spec_loGood.mono_l k) x0 x5 x6 x7, rfl⟩
noncomputable def spec_loGood.F (l0 : List (S40)) : Option (Bool) := lim fun k => spec_loGood.f k l0
theorem spec_loGood.F_lim (l0 : List (S40)) : Lim (fun k => spec_loGood.f k l0) (spec_loGood.F l0) := ⟨spec_loGood.mono l0, rfl⟩
theorem spec_loGood.L0_eq (x0 : List (S40)) (x5 : List (S40)) (x6 : Int) (x7 : Int) : spec_loGood.L0 x0 x5 x6 x7 = (if x7 < x6 then (if 0 ≤ x7 then (if x7 < (x5.length : Int) then ((spec_naName.F ((rd_T40 x5 x7).f0)).bind fun t141 => (if t141 = true then ((spec_loAngle.f ((rd_T40 x5 x7).f1)).bind fun t142 => (if t142 = true then (if x7 > 0 then (if 0 ≤ (wrap64 (x7 - 1)) then (if (wrap64 (x7 - 1)) < (x0.length : Int) then (if ((rd_T40 x0 (wrap64 (x7 - 1))).f1) ≥ ((rd_T40 x5 x7).f1) then (some false) else (if x7 ≤ (x0.length : Int) then ((spec_loFind.F (x0.take (x7 : Int).toNat) ((rd_T40 x5 x7).f0)).bind fun t148 => (if t148 ≥ 0 then (some false) else (spec_loGood.L0 x0 x5 x6 (wrap64 (x7 + 1))))) else (none))) else (none)) else (none)) else (if x7 ≤ (x0.length : Int) then ((spec_loFind.F (x0.take (x7 : Int).toNat) ((rd_T40 x5 x7).f0)).bind fun t153 => (if t153 ≥ 0 then (some false) else (spec_loGood.L0 x0 x5 x6 (wrap64 (x7 + 1))))) else (none))) else (some false))) else (some false))) else (none)) else (none)) else (some (decide ((x0.length : Int) ≤ 8)))) := by
  refine Lim.succ_eq (spec_loGood.L0_lim x0 x5 x6 x7).mon ?_
  simp only [spec_loGood.l0]
  repeat' first
  | (with_reducible exact spec_loGood.L0_lim _ _ _ _)
  | (with_reducible exact spec_loFind.F_lim _ _)
  | (with_reducible exact spec_naName.F_lim _)
  | (with_reducible refine Lim.ite ?_ ?_)
  | (with_reducible refine Lim.bind ?_ (fun _ => ?_))
  | (with_reducible exact Lim.const _)
theorem spec_loGood.F_eq (l0 : List (S40)) : spec_loGood.F l0 = (spec_loGood.L0 l0 l0 (l0.length : Int) 0) := by
  refine Lim.eq_ ?_
  simp only [spec_loGood.f]
  repeat' first
  | (with_reducible exact spec_loGood.L0_lim _ _ _ _)
  | (with_reducible exact spec_loFind.F_lim _ _)
  | (with_reducible exact spec_naName.F_lim _)
  | (with_reducible refine Lim.ite ?_ ?_)
  | (with_reducible refine Lim.bind ?_ (fun _ => ?_))
  | (with_reducible exact Lim.const _)
def spec_l1Most.f (a0 : Int) (a1 : Int) : Option (Int) := if a0 > a1 then (some a0) else (some a1)
def spec_l1Abs.f (a0 : Int) : Option (Int) := (spec_l1Most.f a0 (wrap64 (-a0))).bind fun t154 => (some t154)
def spec_loLeast.l0 : Nat → Int → Int → Int → List (S40) → Int → Int → Option (Int × Int)
  | 0, _, _, _, _, _, _ => none
  | k + 1, x1, x6, x7, x11, x12, x13 => if x13 < x12 then (if 0 ≤ x13 then (if x13 < (x11.length : Int) then ((spec_l1Abs.f (wrap64 (((rd_T40 x11 x13).f1) - x1))).bind fun t157 => (if t157 < x6 then (spec_loLeast.l0 k x1 t157 1 x11 x12 (wrap64 (x13 + 1))) else (if t157 = x6 then (spec_loLeast.l0 k x1 x6 (wrap64 (x7 + 1)) x11 x12 (wrap64 (x13 + 1))) else (spec_loLeast.l0 k x1 x6 x7 x11 x12 (wrap64 (x13 + 1)))))) else (none)) else (none)) else (some (x6, x7))
def spec_loLeast.f (k : Nat) (l0 : List (S40)) (a1 : Int) : Option (Int × Int) := spec_loLeast.l0 k a1 181 0 l0 (l0.length : Int) 0
theorem spec_loLeast.mono_l : ∀ k, (∀ y0 y1 y2 y3 y4 y5, LeO (spec_loLeast.l0 k y0 y1 y2 y3 y4 y5) (spec_loLeast.l0 (k + 1) y0 y1 y2 y3 y4 y5))
  | 0 => fun _ _ _ _ _ _ r h => by simp [spec_loLeast.l0] at h
  | k + 1 => by
    have ih0 := spec_loLeast.mono_l k
    · intro y0 y1 y2 y3 y4 y5
      unfold spec_loLeast.l0
      repeat' first
      | (with_reducible exact ih0 _ _ _ _ _ _)
      | (with_reducible exact LeO.refl _)
      | (with_reducible exact LeO.none _)
      | (with_reducible refine LeO.ite ?_ ?_)
      | (with_reducible refine LeO.bind ?_ (fun _ => ?_))
      | exact ih0 _ _ _ _ _ _
      | exact LeO.none _
      | refine LeO.ite ?_ ?_
      | refine LeO.bind ?_ (fun _ => ?_)
theorem spec_loLeast.mono : ∀ a0 a1 k, LeO (spec_loLeast.f k a0 a1) (spec_loLeast.f (k + 1) a0 a1) := by
  intro a0 a1 k
  have ih0 := spec_loLeast.mono_l k
  unfold spec_loLeast.f
  repeat' first
      | (with_reducible exact ih0 _ _ _ _ _ _)
      | (with_reducible exact LeO.refl _)
      | (with_reducible exact LeO.none _)
      | (with_reducible refine LeO.ite ?_ ?_)
      | (with_reducible refine LeO.bind ?_ (fun _ => ?_))
      | exact ih0 _ _ _ _ _ _
      | exact LeO.none _
      | refine LeO.ite ?_ ?_
      | refine LeO.bind ?_ (fun _ => ?_)
noncomputable def spec_loLeast.L0 (x1 : Int) (x6 : Int) (x7 : Int) (x11 : List (S40)) (x12 : Int) (x13 : Int) : Option (Int × Int) := lim fun k => spec_loLeast.l0 k x1 x6 x7 x11 x12 x13
theorem spec_loLeast.L0_lim (x1 : Int) (x6 : Int) (x7 : Int) (x11 : List (S40)) (x12 : Int) (x13 : Int) : Lim (fun k => spec_loLeast.l0 k x1 x6 x7 x11 x12 x13) (spec_loLeast.L0 x1 x6 x7 x11 x12 x13) := ⟨fun k => (spec_loLeast.mono_l k) x1 x6 x7 x11 x12 x13, rfl⟩
noncomputable def spec_loLeast.F (l0 : List (S40)) (a1 : Int) : Option (Int × Int) := lim fun k => spec_loLeast.f k l0 a1
theorem spec_loLeast.F_lim (l0 : List (S40)) (a1 : Int) : Lim (fun k => spec_loLeast.f k l0 a1) (spec_loLeast.F l0 a1) := ⟨spec_loLeast.mono l0 a1, rfl⟩
theorem spec_loLeast.L0_eq (x1 : Int) (x6 : Int) (x7 : Int) (x11 : List (S40)) (x12 : Int) (x13 : Int) : spec_loLeast.L0 x1 x6 x7 x11 x12 x13 = (if x13 < x12 then (if 0 ≤ x13 then (if x13 < (x11.length : Int) then ((spec_l1Abs.f (wrap64 (((rd_T40 x11 x13).f1) - x1))).bind fun t157 => (if t157 < x6 then (spec_loLeast.L0 x1 t157 1 x11 x12 (wrap64 (x13 + 1))) else (if t157 = x6 then (spec_loLeast.L0 x1 x6 (wrap64 (x7 + 1)) x11 x12 (wrap64 (x13 + 1))) else (spec_loLeast.L0 x1 x6 x7 x11 x12 (wrap64 (x13 + 1)))))) else (none)) else (none)) else (some (x6, x7))) := by
  refine Lim.succ_eq (spec_loLeast.L0_lim x1 x6 x7 x11 x12 x13).mon ?_
  simp only [spec_loLeast.l0]
  repeat' first
  | (with_reducible exact spec_loLeast.L0_lim _ _ _ _ _ _)
  | (with_reducible refine Lim.ite ?_ ?_)
  | (with_reducible refine Lim.bind ?_ (fun _ => ?_))
  | (with_reducible exact Lim.const _)
theorem spec_loLeast.F_eq (l0 : List (S40)) (a1 : Int) : spec_loLeast.F l0 a1 = (spec_loLeast.L0 a1 181 0 l0 (l0.length : Int) 0) := by
  refine Lim.eq_ ?_
  simp only [spec_loLeast.f]
  repeat' first
  | (with_reducible exact spec_loLeast.L0_lim _ _ _ _ _ _)
  | (with_reducible refine Lim.ite ?_ ?_)
  | (with_reducible refine Lim.bind ?_ (fun _ => ?_))
  | (with_reducible exact Lim.const _)
mutual
def spec_loMeans.j0 : Nat → List (S40) → Int → Int → Bool → Option (ByteArray × Bool)
  | 0, _, _, _, _ => none
  | k + 1, x0, x1, x6, x21 => if x21 = true then (some ((⟨#[]⟩ : ByteArray), false)) else (spec_loMeans.l0 k x1 x6 x0 (x0.length : Int) 0)
def spec_loMeans.l0 : Nat → Int → Int → List (S40) → Int → Int → Option (ByteArray × Bool)
  | 0, _, _, _, _, _ => none
  | k + 1, x1, x6, x22, x23, x24 => if x24 < x23 then (if 0 ≤ x24 then (if x24 < (x22.length : Int) then ((spec_l1Abs.f (wrap64 (((rd_T40 x22 x24).f1) - x1))).bind fun t162 => (if t162 = x6 then (some ((rd_T40 x22 x24).f0, true)) else (spec_loMeans.l0 k x1 x6 x22 x23 (wrap64 (x24 + 1))))) else (none)) else (none)) else (some ((⟨#[]⟩ : ByteArray), false))
end
def spec_loMeans.f (k : Nat) (l0 : List (S40)) (a1 : Int) : Option (ByteArray × Bool) := (spec_loLeast.f k l0 a1).bind fun bt158 => (if bt158.1 > 20 then (spec_loMeans.j0 k l0 a1 bt158.1 true) else (spec_loMeans.j0 k l0 a1 bt158.1 (bt158.2 != 1)))
theorem spec_loMeans.mono_l : ∀ k, (∀ y0 y1 y2 y3, LeO (spec_loMeans.j0 k y0 y1 y2 y3) (spec_loMeans.j0 (k + 1) y0 y1 y2 y3)) ∧ (∀ y0 y1 y2 y3 y4, LeO (spec_loMeans.l0 k y0 y1 y2 y3 y4) (spec_loMeans.l0 (k + 1) y0 y1 y2 y3 y4))
  | 0 => ⟨fun _ _ _ _ r h => by simp [spec_loMeans.j0] at h, fun _ _ _ _ _ r h => by simp [spec_loMeans.l0] at h⟩
  | k + 1 => by
    obtain ⟨ih0, ih1⟩ := spec_loMeans.mono_l k
    refine ⟨?_, ?_⟩
    · intro y0 y1 y2 y3
      unfold spec_loMeans.j0
      repeat' first
      | (with_reducible exact ih0 _ _ _ _)
      | (with_reducible exact ih1 _ _ _ _ _)
      | (with_reducible exact spec_loLeast.mono _ _ _)
      | (with_reducible exact LeO.refl _)
      | (with_reducible exact LeO.none _)
      | (with_reducible refine LeO.ite ?_ ?_)
      | (with_reducible refine LeO.bind ?_ (fun _ => ?_))
      | exact ih0 _ _ _ _
      | exact ih1 _ _ _ _ _
      | exact spec_loLeast.mono _ _ _
      | exact LeO.none _
      | refine LeO.ite ?_ ?_
      | refine LeO.bind ?_ (fun _ => ?_)
    · intro y0 y1 y2 y3 y4
      unfold spec_loMeans.l0
      repeat' first
      | (with_reducible exact ih0 _ _ _ _)
      | (with_reducible exact ih1 _ _ _ _ _)
      | (with_reducible exact spec_loLeast.mono _ _ _)
      | (with_reducible exact LeO.refl _)
      | (with_reducible exact LeO.none _)
      | (with_reducible refine LeO.ite ?_ ?_)
      | (with_reducible refine LeO.bind ?_ (fun _ => ?_))
      | exact ih0 _ _ _ _
      | exact ih1 _ _ _ _ _
      | exact spec_loLeast.mono _ _ _
      | exact LeO.none _
      | refine LeO.ite ?_ ?_
      | refine LeO.bind ?_ (fun _ => ?_)
theorem spec_loMeans.mono : ∀ a0 a1 k, LeO (spec_loMeans.f k a0 a1) (spec_loMeans.f (k + 1) a0 a1) := by
  intro a0 a1 k
  obtain ⟨ih0, ih1⟩ := spec_loMeans.mono_l k
  unfold spec_loMeans.f
  repeat' first
      | (with_reducible exact ih0 _ _ _ _)
      | (with_reducible exact ih1 _ _ _ _ _)
      | (with_reducible exact spec_loLeast.mono _ _ _)
      | (with_reducible exact LeO.refl _)
      | (with_reducible exact LeO.none _)
      | (with_reducible refine LeO.ite ?_ ?_)
      | (with_reducible refine LeO.bind ?_ (fun _ => ?_))
      | exact ih0 _ _ _ _
      | exact ih1 _ _ _ _ _
      | exact spec_loLeast.mono _ _ _
      | exact LeO.none _
      | refine LeO.ite ?_ ?_
      | refine LeO.bind ?_ (fun _ => ?_)
noncomputable def spec_loMeans.J0 (x0 : List (S40)) (x1 : Int) (x6 : Int) (x21 : Bool) : Option (ByteArray × Bool) := lim fun k => spec_loMeans.j0 k x0 x1 x6 x21
theorem spec_loMeans.J0_lim (x0 : List (S40)) (x1 : Int) (x6 : Int) (x21 : Bool) : Lim (fun k => spec_loMeans.j0 k x0 x1 x6 x21) (spec_loMeans.J0 x0 x1 x6 x21) := ⟨fun k => (spec_loMeans.mono_l k).1 x0 x1 x6 x21, rfl⟩
noncomputable def spec_loMeans.L0 (x1 : Int) (x6 : Int) (x22 : List (S40)) (x23 : Int) (x24 : Int) : Option (ByteArray × Bool) := lim fun k => spec_loMeans.l0 k x1 x6 x22 x23 x24
theorem spec_loMeans.L0_lim (x1 : Int) (x6 : Int) (x22 : List (S40)) (x23 : Int) (x24 : Int) : Lim (fun k => spec_loMeans.l0 k x1 x6 x22 x23 x24) (spec_loMeans.L0 x1 x6 x22 x23 x24) := ⟨fun k => (spec_loMeans.mono_l k).2 x1 x6 x22 x23 x24, rfl⟩
noncomputable def spec_loMeans.F (l0 : List (S40)) (a1 : Int) : Option (ByteArray × Bool) := lim fun k => spec_loMeans.f k l0 a1
theorem spec_loMeans.F_lim (l0 : List (S40)) (a1 : Int) : Lim (fun k => spec_loMeans.f k l0 a1) (spec_loMeans.F l0 a1) := ⟨spec_loMeans.mono l0 a1, rfl⟩
theorem spec_loMeans.J0_eq (x0 : List (S40)) (x1 : Int) (x6 : Int) (x21 : Bool) : spec_loMeans.J0 x0 x1 x6 x21 = (if x21 = true then (some ((⟨#[]⟩ : ByteArray), false)) else (spec_loMeans.L0 x1 x6 x0 (x0.length : Int) 0)) := by
  refine Lim.succ_eq (spec_loMeans.J0_lim x0 x1 x6 x21).mon ?_
  simp only [spec_loMeans.j0]
  repeat' first
  | (with_reducible exact spec_loMeans.J0_lim _ _ _ _)
  | (with_reducible exact spec_loMeans.L0_lim _ _ _ _ _)
  | (with_reducible exact spec_loLeast.F_lim _ _)
  | (with_reducible refine Lim.ite ?_ ?_)
  | (with_reducible refine Lim.bind ?_ (fun _ => ?_))
  | (with_reducible exact Lim.const _)
theorem spec_loMeans.L0_eq (x1 : Int) (x6 : Int) (x22 : List (S40)) (x23 : Int) (x24 : Int) : spec_loMeans.L0 x1 x6 x22 x23 x24 = (if x24 < x23 then (if 0 ≤ x24 then (if x24 < (x22.length : Int) then ((spec_l1Abs.f (wrap64 (((rd_T40 x22 x24).f1) - x1))).bind fun t162 => (if t162 = x6 then (some ((rd_T40 x22 x24).f0, true)) else (spec_loMeans.L0 x1 x6 x22 x23 (wrap64 (x24 + 1))))) else (none)) else (none)) else (some ((⟨#[]⟩ : ByteArray), false))) := by
  refine Lim.succ_eq (spec_loMeans.L0_lim x1 x6 x22 x23 x24).mon ?_
  simp only [spec_loMeans.l0]
  repeat' first
  | (with_reducible exact spec_loMeans.J0_lim _ _ _ _)
  | (with_reducible exact spec_loMeans.L0_lim _ _ _ _ _)
  | (with_reducible exact spec_loLeast.F_lim _ _)
  | (with_reducible refine Lim.ite ?_ ?_)
  | (with_reducible refine Lim.bind ?_ (fun _ => ?_))
  | (with_reducible exact Lim.const _)
theorem spec_loMeans.F_eq (l0 : List (S40)) (a1 : Int) : spec_loMeans.F l0 a1 = ((spec_loLeast.F l0 a1).bind fun bt158 => (if bt158.1 > 20 then (spec_loMeans.J0 l0 a1 bt158.1 true) else (spec_loMeans.J0 l0 a1 bt158.1 (bt158.2 != 1)))) := by
  refine Lim.eq_ ?_
  simp only [spec_loMeans.f]
  repeat' first
  | (with_reducible exact spec_loMeans.J0_lim _ _ _ _)
  | (with_reducible exact spec_loMeans.L0_lim _ _ _ _ _)
  | (with_reducible exact spec_loLeast.F_lim _ _)
  | (with_reducible refine Lim.ite ?_ ?_)
  | (with_reducible refine Lim.bind ?_ (fun _ => ?_))
  | (with_reducible exact Lim.const _)
def spec_RunPoints.l0 : Nat → List (S40) → List ByteArray → List ByteArray → Int → Int → Option (List ByteArray × Bool)
  | 0, _, _, _, _, _ => none
  | k + 1, x0, x7, x23, x24, x25 => if x25 < x24 then (if 0 ≤ x25 then (if x25 < (x23.length : Int) then ((spec_loRead.f k (rdOf ByteArray.empty x23 x25)).bind fun t168 => ((spec_loAngle.f t168).bind fun t169 => (if t169 = true then ((spec_loMeans.f k x0 t168).bind fun bt170 => (if bt170.2 = true then (if x7.length < 8796093022208 then (spec_RunPoints.l0 k x0 (x7 ++ [bt170.1]) x23 x24 (wrap64 (x25 + 1))) else (none)) else (if x7.length < 8796093022208 then (spec_RunPoints.l0 k x0 (x7 ++ [(⟨#[63]⟩ : ByteArray)]) x23 x24 (wrap64 (x25 + 1))) else (none)))) else (some (([] : List ByteArray), false))))) else (none)) else (none)) else (some (x7, true))
def spec_RunPoints.f (k : Nat) (l0 : List (S40)) (a1 : ByteArray) : Option (List ByteArray × Bool) := (spec_loGood.f k l0).bind fun t163 => (if t163 = true then (if a1.toList = ([] : List UInt8) then (some (([] : List ByteArray), true)) else ((spec_l1Split.f k a1 32).bind fun t164 => (if (t164.length : Int) > 10 then (some (([] : List ByteArray), false)) else (spec_RunPoints.l0 k l0 ([] : List ByteArray) t164 (t164.length : Int) 0)))) else (some (([] : List ByteArray), false)))
theorem spec_RunPoints.mono_l : ∀ k, (∀ y0 y1 y2 y3 y4, LeO (spec_RunPoints.l0 k y0 y1 y2 y3 y4) (spec_RunPoints.l0 (k + 1) y0 y1 y2 y3 y4))
  | 0 => fun _ _ _ _ _ r h => by simp [spec_RunPoints.l0] at h
  | k + 1 => by
    have ih0 := spec_RunPoints.mono_l k
    · intro y0 y1 y2 y3 y4
      unfold spec_RunPoints.l0
      repeat' first
      | (with_reducible exact ih0 _ _ _ _ _)
      | (with_reducible exact spec_l1Split.mono _ _ _)
      | (with_reducible exact spec_loGood.mono _ _)
      | (with_reducible exact spec_loMeans.mono _ _ _)
      | (with_reducible exact spec_loRead.mono _ _)
      | (with_reducible exact LeO.refl _)
      | (with_reducible exact LeO.none _)
      | (with_reducible refine LeO.ite ?_ ?_)
      | (with_reducible refine LeO.bind ?_ (fun _ => ?_))
      | exact ih0 _ _ _ _ _
      | exact spec_l1Split.mono _ _ _
      | exact spec_loGood.mono _ _
      | exact spec_loMeans.mono _ _ _
      | exact spec_loRead.mono _ _
      | exact LeO.none _
      | refine LeO.ite ?_ ?_
      | refine LeO.bind ?_ (fun _ => ?_)
theorem spec_RunPoints.mono : ∀ a0 a1 k, LeO (spec_RunPoints.f k a0 a1) (spec_RunPoints.f (k + 1) a0 a1) := by
  intro a0 a1 k
  have ih0 := spec_RunPoints.mono_l k
  unfold spec_RunPoints.f
  repeat' first
      | (with_reducible exact ih0 _ _ _ _ _)
      | (with_reducible exact spec_l1Split.mono _ _ _)
      | (with_reducible exact spec_loGood.mono _ _)
      | (with_reducible exact spec_loMeans.mono _ _ _)
      | (with_reducible exact spec_loRead.mono _ _)
      | (with_reducible exact LeO.refl _)
      | (with_reducible exact LeO.none _)
      | (with_reducible refine LeO.ite ?_ ?_)
      | (with_reducible refine LeO.bind ?_ (fun _ => ?_))
      | exact ih0 _ _ _ _ _
      | exact spec_l1Split.mono _ _ _
      | exact spec_loGood.mono _ _
      | exact spec_loMeans.mono _ _ _
      | exact spec_loRead.mono _ _
      | exact LeO.none _
      | refine LeO.ite ?_ ?_
      | refine LeO.bind ?_ (fun _ => ?_)
noncomputable def spec_RunPoints.L0 (x0 : List (S40)) (x7 : List ByteArray) (x23 : List ByteArray) (x24 : Int) (x25 : Int) : Option (List ByteArray × Bool) := lim fun k => spec_RunPoints.l0 k x0 x7 x23 x24 x25
theorem spec_RunPoints.L0_lim (x0 : List (S40)) (x7 : List ByteArray) (x23 : List ByteArray) (x24 : Int) (x25 : Int) : Lim (fun k => spec_RunPoints.l0 k x0 x7 x23 x24 x25) (spec_RunPoints.L0 x0 x7 x23 x24 x25) := ⟨fun k => (spec_RunPoints.mono_l k) x0 x7 x23 x24 x25, rfl⟩
noncomputable def spec_RunPoints.F (l0 : List (S40)) (a1 : ByteArray) : Option (List ByteArray × Bool) := lim fun k => spec_RunPoints.f k l0 a1
theorem spec_RunPoints.F_lim (l0 : List (S40)) (a1 : ByteArray) : Lim (fun k => spec_RunPoints.f k l0 a1) (spec_RunPoints.F l0 a1) := ⟨spec_RunPoints.mono l0 a1, rfl⟩
theorem spec_RunPoints.L0_eq (x0 : List (S40)) (x7 : List ByteArray) (x23 : List ByteArray) (x24 : Int) (x25 : Int) : spec_RunPoints.L0 x0 x7 x23 x24 x25 = (if x25 < x24 then (if 0 ≤ x25 then (if x25 < (x23.length : Int) then ((spec_loRead.F (rdOf ByteArray.empty x23 x25)).bind fun t168 => ((spec_loAngle.f t168).bind fun t169 => (if t169 = true then ((spec_loMeans.F x0 t168).bind fun bt170 => (if bt170.2 = true then (if x7.length < 8796093022208 then (spec_RunPoints.L0 x0 (x7 ++ [bt170.1]) x23 x24 (wrap64 (x25 + 1))) else (none)) else (if x7.length < 8796093022208 then (spec_RunPoints.L0 x0 (x7 ++ [(⟨#[63]⟩ : ByteArray)]) x23 x24 (wrap64 (x25 + 1))) else (none)))) else (some (([] : List ByteArray), false))))) else (none)) else (none)) else (some (x7, true))) := by
  refine Lim.succ_eq (spec_RunPoints.L0_lim x0 x7 x23 x24 x25).mon ?_
  simp only [spec_RunPoints.l0]
  repeat' first
  | (with_reducible exact spec_RunPoints.L0_lim _ _ _ _ _)
  | (with_reducible exact spec_l1Split.F_lim _ _)
  | (with_reducible exact spec_loGood.F_lim _)
  | (with_reducible exact spec_loMeans.F_lim _ _)
  | (with_reducible exact spec_loRead.F_lim _)
  | (with_reducible refine Lim.ite ?_ ?_)
  | (with_reducible refine Lim.bind ?_ (fun _ => ?_))
  | (with_reducible exact Lim.const _)
theorem spec_RunPoints.F_eq (l0 : List (S40)) (a1 : ByteArray) : spec_RunPoints.F l0 a1 = ((spec_loGood.F l0).bind fun t163 => (if t163 = true then (if a1.toList = ([] : List UInt8) then (some (([] : List ByteArray), true)) else ((spec_l1Split.F a1 32).bind fun t164 => (if (t164.length : Int) > 10 then (some (([] : List ByteArray), false)) else (spec_RunPoints.L0 l0 ([] : List ByteArray) t164 (t164.length : Int) 0)))) else (some (([] : List ByteArray), false)))) := by
  refine Lim.eq_ ?_
  simp only [spec_RunPoints.f]
  repeat' first
  | (with_reducible exact spec_RunPoints.L0_lim _ _ _ _ _)
  | (with_reducible exact spec_l1Split.F_lim _ _)
  | (with_reducible exact spec_loGood.F_lim _)
  | (with_reducible exact spec_loMeans.F_lim _ _)
  | (with_reducible exact spec_loRead.F_lim _)
  | (with_reducible refine Lim.ite ?_ ?_)
  | (with_reducible refine Lim.bind ?_ (fun _ => ?_))
  | (with_reducible exact Lim.const _)
def laws_toLocus.f (a0_0 : ByteArray) (a0_1 : Int) : Option (ByteArray × Int) := some (a0_0, a0_1)
def laws_toLocusS.l0 : Nat → List (S54) → List (S40) → Int → Option ((List (S40)))
  | 0, _, _, _ => none
  | k + 1, x0, x3, x4 => if x4 < (x0.length : Int) then (if 0 ≤ x4 then ((laws_toLocus.f ((rd_T54 x0 x4).f0) ((rd_T54 x0 x4).f1)).bind fun bt185 => (if x4 < (x3.length : Int) then (laws_toLocusS.l0 k x0 (x3.set (x4 : Int).toNat (⟨bt185.1, bt185.2⟩ : S40)) (wrap64 (x4 + 1))) else (none))) else (none)) else (some x3)
def laws_toLocusS.f (k : Nat) (l0 : List (S54)) : Option ((List (S40))) := if 0 ≤ (l0.length : Int) then (if ((l0.length : Int) : Int).toNat ≤ 11728124029610 then (laws_toLocusS.l0 k l0 (List.replicate ((l0.length : Int) : Int).toNat z40) 0) else (none)) else (none)
theorem laws_toLocusS.mono_l : ∀ k, (∀ y0 y1 y2, LeO (laws_toLocusS.l0 k y0 y1 y2) (laws_toLocusS.l0 (k + 1) y0 y1 y2))
  | 0 => fun _ _ _ r h => by simp [laws_toLocusS.l0] at h
  | k + 1 => by
    have ih0 := laws_toLocusS.mono_l k
    · intro y0 y1 y2
      unfold laws_toLocusS.l0
      repeat' first
      | (with_reducible exact ih0 _ _ _)
      | (with_reducible exact LeO.refl _)
      | (with_reducible exact LeO.none _)
      | (with_reducible refine LeO.ite ?_ ?_)
      | (with_reducible refine LeO.bind ?_ (fun _ => ?_))
      | exact ih0 _ _ _
      | exact LeO.none _
      | refine LeO.ite ?_ ?_
      | refine LeO.bind ?_ (fun _ => ?_)
theorem laws_toLocusS.mono : ∀ a0 k, LeO (laws_toLocusS.f k a0) (laws_toLocusS.f (k + 1) a0) := by
  intro a0 k
  have ih0 := laws_toLocusS.mono_l k
  unfold laws_toLocusS.f
  repeat' first
      | (with_reducible exact ih0 _ _ _)
      | (with_reducible exact LeO.refl _)
      | (with_reducible exact LeO.none _)
      | (with_reducible refine LeO.ite ?_ ?_)
      | (with_reducible refine LeO.bind ?_ (fun _ => ?_))
      | exact ih0 _ _ _
      | exact LeO.none _
      | refine LeO.ite ?_ ?_
      | refine LeO.bind ?_ (fun _ => ?_)
noncomputable def laws_toLocusS.L0 (x0 : List (S54)) (x3 : List (S40)) (x4 : Int) : Option ((List (S40))) := lim fun k => laws_toLocusS.l0 k x0 x3 x4
theorem laws_toLocusS.L0_lim (x0 : List (S54)) (x3 : List (S40)) (x4 : Int) : Lim (fun k => laws_toLocusS.l0 k x0 x3 x4) (laws_toLocusS.L0 x0 x3 x4) := ⟨fun k => (laws_toLocusS.mono_l k) x0 x3 x4, rfl⟩
noncomputable def laws_toLocusS.F (l0 : List (S54)) : Option ((List (S40))) := lim fun k => laws_toLocusS.f k l0
theorem laws_toLocusS.F_lim (l0 : List (S54)) : Lim (fun k => laws_toLocusS.f k l0) (laws_toLocusS.F l0) := ⟨laws_toLocusS.mono l0, rfl⟩
theorem laws_toLocusS.L0_eq (x0 : List (S54)) (x3 : List (S40)) (x4 : Int) : laws_toLocusS.L0 x0 x3 x4 = (if x4 < (x0.length : Int) then (if 0 ≤ x4 then ((laws_toLocus.f ((rd_T54 x0 x4).f0) ((rd_T54 x0 x4).f1)).bind fun bt185 => (if x4 < (x3.length : Int) then (laws_toLocusS.L0 x0 (x3.set (x4 : Int).toNat (⟨bt185.1, bt185.2⟩ : S40)) (wrap64 (x4 + 1))) else (none))) else (none)) else (some x3)) := by
  refine Lim.succ_eq (laws_toLocusS.L0_lim x0 x3 x4).mon ?_
  simp only [laws_toLocusS.l0]
  repeat' first
  | (with_reducible exact laws_toLocusS.L0_lim _ _ _)
  | (with_reducible refine Lim.ite ?_ ?_)
  | (with_reducible refine Lim.bind ?_ (fun _ => ?_))
  | (with_reducible exact Lim.const _)
theorem laws_toLocusS.F_eq (l0 : List (S54)) : laws_toLocusS.F l0 = (if 0 ≤ (l0.length : Int) then (if ((l0.length : Int) : Int).toNat ≤ 11728124029610 then (laws_toLocusS.L0 l0 (List.replicate ((l0.length : Int) : Int).toNat z40) 0) else (none)) else (none)) := by
  refine Lim.eq_ ?_
  simp only [laws_toLocusS.f]
  repeat' first
  | (with_reducible exact laws_toLocusS.L0_lim _ _ _)
  | (with_reducible refine Lim.ite ?_ ?_)
  | (with_reducible refine Lim.bind ?_ (fun _ => ?_))
  | (with_reducible exact Lim.const _)
def impl_decimal.f (a0 : ByteArray) : Option (Int × Bool) := if a0.size ≤ 281474976710656 then some (match Lib.atoiAll a0.data.toList with | .ok v => if Lib.itoa v = a0.data.toList then (v, true) else (0, false) | _ => (0, false)) else none
def impl_within.f (a0 : Int) (a1 : Int) (a2 : Int) : Option (Bool) := if a0 ≥ a1 then (some (decide (a0 ≤ a2))) else (some false)
def impl_isAngle.f (a0 : Int) : Option (Bool) := (impl_within.f a0 (-90) 90).bind fun t188 => (some t188)
def stringslite_IndexByte.f (a0 : ByteArray) (a1 : Int) : Option (Int) := some (Lib.indexByte a0.data.toList a1.toNat.toUInt8)
def strings_IndexByte.f (a0 : ByteArray) (a1 : Int) : Option (Int) := (stringslite_IndexByte.f a0 a1).bind fun t189 => (some t189)
def impl_hasOnly.l0 : Nat → ByteArray → ByteArray → Int → Int → Option (Bool)
  | 0, _, _, _, _ => none
  | k + 1, x0, x1, x7, x8 => if x8 < x7 then (if 0 ≤ x8 then (if x8 < (x0.size : Int) then ((strings_IndexByte.f x1 (bt x0 x8)).bind fun t190 => (if t190 < 0 then (some false) else (impl_hasOnly.l0 k x0 x1 x7 (wrap64 (x8 + 1))))) else (none)) else (none)) else (some true)
def impl_hasOnly.f (k : Nat) (a0 : ByteArray) (a1 : ByteArray) : Option (Bool) := impl_hasOnly.l0 k a0 a1 (a0.size : Int) 0
theorem impl_hasOnly.mono_l : ∀ k, (∀ y0 y1 y2 y3, LeO (impl_hasOnly.l0 k y0 y1 y2 y3) (impl_hasOnly.l0 (k + 1) y0 y1 y2 y3))
  | 0 => fun _ _ _ _ r h => by simp [impl_hasOnly.l0] at h
  | k + 1 => by
    have ih0 := impl_hasOnly.mono_l k
    · intro y0 y1 y2 y3
      unfold impl_hasOnly.l0
      repeat' first
      | (with_reducible exact ih0 _ _ _ _)
      | (with_reducible exact LeO.refl _)
      | (with_reducible exact LeO.none _)
      | (with_reducible refine LeO.ite ?_ ?_)
      | (with_reducible refine LeO.bind ?_ (fun _ => ?_))
      | exact ih0 _ _ _ _
      | exact LeO.none _
      | refine LeO.ite ?_ ?_
      | refine LeO.bind ?_ (fun _ => ?_)
theorem impl_hasOnly.mono : ∀ a0 a1 k, LeO (impl_hasOnly.f k a0 a1) (impl_hasOnly.f (k + 1) a0 a1) := by
  intro a0 a1 k
  have ih0 := impl_hasOnly.mono_l k
  unfold impl_hasOnly.f
  repeat' first
      | (with_reducible exact ih0 _ _ _ _)
      | (with_reducible exact LeO.refl _)
      | (with_reducible exact LeO.none _)
      | (with_reducible refine LeO.ite ?_ ?_)
      | (with_reducible refine LeO.bind ?_ (fun _ => ?_))
      | exact ih0 _ _ _ _
      | exact LeO.none _
      | refine LeO.ite ?_ ?_
      | refine LeO.bind ?_ (fun _ => ?_)
noncomputable def impl_hasOnly.L0 (x0 : ByteArray) (x1 : ByteArray) (x7 : Int) (x8 : Int) : Option (Bool) := lim fun k => impl_hasOnly.l0 k x0 x1 x7 x8
theorem impl_hasOnly.L0_lim (x0 : ByteArray) (x1 : ByteArray) (x7 : Int) (x8 : Int) : Lim (fun k => impl_hasOnly.l0 k x0 x1 x7 x8) (impl_hasOnly.L0 x0 x1 x7 x8) := ⟨fun k => (impl_hasOnly.mono_l k) x0 x1 x7 x8, rfl⟩
noncomputable def impl_hasOnly.F (a0 : ByteArray) (a1 : ByteArray) : Option (Bool) := lim fun k => impl_hasOnly.f k a0 a1
theorem impl_hasOnly.F_lim (a0 : ByteArray) (a1 : ByteArray) : Lim (fun k => impl_hasOnly.f k a0 a1) (impl_hasOnly.F a0 a1) := ⟨impl_hasOnly.mono a0 a1, rfl⟩
theorem impl_hasOnly.L0_eq (x0 : ByteArray) (x1 : ByteArray) (x7 : Int) (x8 : Int) : impl_hasOnly.L0 x0 x1 x7 x8 = (if x8 < x7 then (if 0 ≤ x8 then (if x8 < (x0.size : Int) then ((strings_IndexByte.f x1 (bt x0 x8)).bind fun t190 => (if t190 < 0 then (some false) else (impl_hasOnly.L0 x0 x1 x7 (wrap64 (x8 + 1))))) else (none)) else (none)) else (some true)) := by
  refine Lim.succ_eq (impl_hasOnly.L0_lim x0 x1 x7 x8).mon ?_
  simp only [impl_hasOnly.l0]
  repeat' first
  | (with_reducible exact impl_hasOnly.L0_lim _ _ _ _)
  | (with_reducible refine Lim.ite ?_ ?_)
  | (with_reducible refine Lim.bind ?_ (fun _ => ?_))
  | (with_reducible exact Lim.const _)
theorem impl_hasOnly.F_eq (a0 : ByteArray) (a1 : ByteArray) : impl_hasOnly.F a0 a1 = (impl_hasOnly.L0 a0 a1 (a0.size : Int) 0) := by
  refine Lim.eq_ ?_
  simp only [impl_hasOnly.f]
  repeat' first
  | (with_reducible exact impl_hasOnly.L0_lim _ _ _ _)
  | (with_reducible refine Lim.ite ?_ ?_)
  | (with_reducible refine Lim.bind ?_ (fun _ => ?_))
  | (with_reducible exact Lim.const _)
def impl_isWordOf.f (k : Nat) (a0 : ByteArray) (a1 : ByteArray) : Option (Bool) := (impl_within.f (a0.size : Int) 1 8).bind fun t191 => (if t191 = true then ((impl_hasOnly.f k a0 a1).bind fun t192 => (some t192)) else (some false))
theorem impl_isWordOf.mono : ∀ a0 a1 k, LeO (impl_isWordOf.f k a0 a1) (impl_isWordOf.f (k + 1) a0 a1) := by
  intro a0 a1 k
  unfold impl_isWordOf.f
  repeat' first
      | (with_reducible exact impl_hasOnly.mono _ _ _)
      | (with_reducible exact LeO.refl _)
      | (with_reducible exact LeO.none _)
      | (with_reducible refine LeO.ite ?_ ?_)
      | (with_reducible refine LeO.bind ?_ (fun _ => ?_))
      | exact impl_hasOnly.mono _ _ _
      | exact LeO.none _
      | refine LeO.ite ?_ ?_
      | refine LeO.bind ?_ (fun _ => ?_)
noncomputable def impl_isWordOf.F (a0 : ByteArray) (a1 : ByteArray) : Option (Bool) := lim fun k => impl_isWordOf.f k a0 a1
theorem impl_isWordOf.F_lim (a0 : ByteArray) (a1 : ByteArray) : Lim (fun k => impl_isWordOf.f k a0 a1) (impl_isWordOf.F a0 a1) := ⟨impl_isWordOf.mono a0 a1, rfl⟩
theorem impl_isWordOf.F_eq (a0 : ByteArray) (a1 : ByteArray) : impl_isWordOf.F a0 a1 = ((impl_within.f (a0.size : Int) 1 8).bind fun t191 => (if t191 = true then ((impl_hasOnly.F a0 a1).bind fun t192 => (some t192)) else (some false))) := by
  refine Lim.eq_ ?_
  simp only [impl_isWordOf.f]
  repeat' first
  | (with_reducible exact impl_hasOnly.F_lim _ _)
  | (with_reducible refine Lim.ite ?_ ?_)
  | (with_reducible refine Lim.bind ?_ (fun _ => ?_))
  | (with_reducible exact Lim.const _)
def impl_locusOf_1.f (a0_0 : ByteArray) (a0_1 : Int) (a1_0 : ByteArray) : Option (Bool) := some (a0_0.toList == a1_0.toList)
def slices_IndexFunc_Locus_impl_locusOf_1.l0 : Nat → List (S40) → Int → Int → ByteArray → Option (Int)
  | 0, _, _, _, _ => none
  | k + 1, x0, x7, x8, x39000 => if x8 < x7 then (if 0 ≤ x8 then (if x8 < (x0.length : Int) then ((impl_locusOf_1.f ((rd_T40 x0 x8).f0) ((rd_T40 x0 x8).f1) x39000).bind fun t195 => (if t195 = true then (some x8) else (slices_IndexFunc_Locus_impl_locusOf_1.l0 k x0 x7 (wrap64 (x8 + 1)) x39000))) else (none)) else (none)) else (some (-1))
def slices_IndexFunc_Locus_impl_locusOf_1.f (k : Nat) (l0 : List (S40)) (a1_0 : ByteArray) : Option (Int) := slices_IndexFunc_Locus_impl_locusOf_1.l0 k l0 (l0.length : Int) 0 a1_0
theorem slices_IndexFunc_Locus_impl_locusOf_1.mono_l : ∀ k, (∀ y0 y1 y2 y3, LeO (slices_IndexFunc_Locus_impl_locusOf_1.l0 k y0 y1 y2 y3) (slices_IndexFunc_Locus_impl_locusOf_1.l0 (k + 1) y0 y1 y2 y3))
  | 0 => fun _ _ _ _ r h => by simp [slices_IndexFunc_Locus_impl_locusOf_1.l0] at h
  | k + 1 => by
    have ih0 := slices_IndexFunc_Locus_impl_locusOf_1.mono_l k
    · intro y0 y1 y2 y3
      unfold slices_IndexFunc_Locus_impl_locusOf_1.l0
      repeat' first
      | (with_reducible exact ih0 _ _ _ _)
      | (with_reducible exact LeO.refl _)
      | (with_reducible exact LeO.none _)
      | (with_reducible refine LeO.ite ?_ ?_)
      | (with_reducible refine LeO.bind ?_ (fun _ => ?_))
      | exact ih0 _ _ _ _
      | exact LeO.none _
      | refine LeO.ite ?_ ?_
      | refine LeO.bind ?_ (fun _ => ?_)
theorem slices_IndexFunc_Locus_impl_locusOf_1.mono : ∀ a0 a1 k, LeO (slices_IndexFunc_Locus_impl_locusOf_1.f k a0 a1) (slices_IndexFunc_Locus_impl_locusOf_1.f (k + 1) a0 a1) := by
  intro a0 a1 k
  have ih0 := slices_IndexFunc_Locus_impl_locusOf_1.mono_l k
  unfold slices_IndexFunc_Locus_impl_locusOf_1.f
  repeat' first
      | (with_reducible exact ih0 _ _ _ _)
      | (with_reducible exact LeO.refl _)
      | (with_reducible exact LeO.none _)
      | (with_reducible refine LeO.ite ?_ ?_)
      | (with_reducible refine LeO.bind ?_ (fun _ => ?_))
      | exact ih0 _ _ _ _
      | exact LeO.none _
      | refine LeO.ite ?_ ?_
      | refine LeO.bind ?_ (fun _ => ?_)
noncomputable def slices_IndexFunc_Locus_impl_locusOf_1.L0 (x0 : List (S40)) (x7 : Int) (x8 : Int) (x39000 : ByteArray) : Option (Int) := lim fun k => slices_IndexFunc_Locus_impl_locusOf_1.l0 k x0 x7 x8 x39000
theorem slices_IndexFunc_Locus_impl_locusOf_1.L0_lim (x0 : List (S40)) (x7 : Int) (x8 : Int) (x39000 : ByteArray) : Lim (fun k => slices_IndexFunc_Locus_impl_locusOf_1.l0 k x0 x7 x8 x39000) (slices_IndexFunc_Locus_impl_locusOf_1.L0 x0 x7 x8 x39000) := ⟨fun k => (slices_IndexFunc_Locus_impl_locusOf_1.mono_l k) x0 x7 x8 x39000, rfl⟩
noncomputable def slices_IndexFunc_Locus_impl_locusOf_1.F (l0 : List (S40)) (a1_0 : ByteArray) : Option (Int) := lim fun k => slices_IndexFunc_Locus_impl_locusOf_1.f k l0 a1_0
theorem slices_IndexFunc_Locus_impl_locusOf_1.F_lim (l0 : List (S40)) (a1_0 : ByteArray) : Lim (fun k => slices_IndexFunc_Locus_impl_locusOf_1.f k l0 a1_0) (slices_IndexFunc_Locus_impl_locusOf_1.F l0 a1_0) := ⟨slices_IndexFunc_Locus_impl_locusOf_1.mono l0 a1_0, rfl⟩
theorem slices_IndexFunc_Locus_impl_locusOf_1.L0_eq (x0 : List (S40)) (x7 : Int) (x8 : Int) (x39000 : ByteArray) : slices_IndexFunc_Locus_impl_locusOf_1.L0 x0 x7 x8 x39000 = (if x8 < x7 then (if 0 ≤ x8 then (if x8 < (x0.length : Int) then ((impl_locusOf_1.f ((rd_T40 x0 x8).f0) ((rd_T40 x0 x8).f1) x39000).bind fun t195 => (if t195 = true then (some x8) else (slices_IndexFunc_Locus_impl_locusOf_1.L0 x0 x7 (wrap64 (x8 + 1)) x39000))) else (none)) else (none)) else (some (-1))) := by
  refine Lim.succ_eq (slices_IndexFunc_Locus_impl_locusOf_1.L0_lim x0 x7 x8 x39000).mon ?_
  simp only [slices_IndexFunc_Locus_impl_locusOf_1.l0]
  repeat' first
  | (with_reducible exact slices_IndexFunc_Locus_impl_locusOf_1.L0_lim _ _ _ _)
  | (with_reducible refine Lim.ite ?_ ?_)
  | (with_reducible refine Lim.bind ?_ (fun _ => ?_))
  | (with_reducible exact Lim.const _)
theorem slices_IndexFunc_Locus_impl_locusOf_1.F_eq (l0 : List (S40)) (a1_0 : ByteArray) : slices_IndexFunc_Locus_impl_locusOf_1.F l0 a1_0 = (slices_IndexFunc_Locus_impl_locusOf_1.L0 l0 (l0.length : Int) 0 a1_0) := by
  refine Lim.eq_ ?_
  simp only [slices_IndexFunc_Locus_impl_locusOf_1.f]
  repeat' first
  | (with_reducible exact slices_IndexFunc_Locus_impl_locusOf_1.L0_lim _ _ _ _)
  | (with_reducible refine Lim.ite ?_ ?_)
  | (with_reducible refine Lim.bind ?_ (fun _ => ?_))
  | (with_reducible exact Lim.const _)
def impl_locusOf.f (k : Nat) (l0 : List (S40)) (a1 : ByteArray) : Option (Int) := (slices_IndexFunc_Locus_impl_locusOf_1.f k l0 a1).bind fun t197 => (some t197)
theorem impl_locusOf.mono : ∀ a0 a1 k, LeO (impl_locusOf.f k a0 a1) (impl_locusOf.f (k + 1) a0 a1) := by
  intro a0 a1 k
  unfold impl_locusOf.f
  repeat' first
      | (with_reducible exact slices_IndexFunc_Locus_impl_locusOf_1.mono _ _ _)
      | (with_reducible exact LeO.refl _)
      | (with_reducible exact LeO.none _)
      | (with_reducible refine LeO.ite ?_ ?_)
      | (with_reducible refine LeO.bind ?_ (fun _ => ?_))
      | exact slices_IndexFunc_Locus_impl_locusOf_1.mono _ _ _
      | exact LeO.none _
      | refine LeO.ite ?_ ?_
      | refine LeO.bind ?_ (fun _ => ?_)
noncomputable def impl_locusOf.F (l0 : List (S40)) (a1 : ByteArray) : Option (Int) := lim fun k => impl_locusOf.f k l0 a1
theorem impl_locusOf.F_lim (l0 : List (S40)) (a1 : ByteArray) : Lim (fun k => impl_locusOf.f k l0 a1) (impl_locusOf.F l0 a1) := ⟨impl_locusOf.mono l0 a1, rfl⟩
theorem impl_locusOf.F_eq (l0 : List (S40)) (a1 : ByteArray) : impl_locusOf.F l0 a1 = ((slices_IndexFunc_Locus_impl_locusOf_1.F l0 a1).bind fun t197 => (some t197)) := by
  refine Lim.eq_ ?_
  simp only [impl_locusOf.f]
  repeat' first
  | (with_reducible exact slices_IndexFunc_Locus_impl_locusOf_1.F_lim _ _)
  | (with_reducible refine Lim.ite ?_ ?_)
  | (with_reducible refine Lim.bind ?_ (fun _ => ?_))
  | (with_reducible exact Lim.const _)
def impl_AreLoci.l0 : Nat → List (S40) → List (S40) → Int → Int → Option (Bool)
  | 0, _, _, _, _ => none
  | k + 1, x0, x5, x6, x7 => if x7 < x6 then (if 0 ≤ x7 then (if x7 < (x5.length : Int) then ((impl_isWordOf.f k ((rd_T40 x5 x7).f0) (⟨#[97, 98, 99, 100, 101, 102, 103, 104, 105, 106, 107, 108, 109, 110, 111, 112, 113, 114, 115, 116, 117, 118, 119, 120, 121, 122]⟩ : ByteArray)).bind fun t200 => (if t200 = true then ((impl_isAngle.f ((rd_T40 x5 x7).f1)).bind fun t201 => (if t201 = true then (if x7 > 0 then (if 0 ≤ (wrap64 (x7 - 1)) then (if (wrap64 (x7 - 1)) < (x0.length : Int) then (if ((rd_T40 x5 x7).f1) ≤ ((rd_T40 x0 (wrap64 (x7 - 1))).f1) then (some false) else (if x7 ≤ (x0.length : Int) then ((impl_locusOf.f k (x0.take (x7 : Int).toNat) ((rd_T40 x5 x7).f0)).bind fun t207 => (if t207 ≥ 0 then (some false) else (impl_AreLoci.l0 k x0 x5 x6 (wrap64 (x7 + 1))))) else (none))) else (none)) else (none)) else (if x7 ≤ (x0.length : Int) then ((impl_locusOf.f k (x0.take (x7 : Int).toNat) ((rd_T40 x5 x7).f0)).bind fun t212 => (if t212 ≥ 0 then (some false) else (impl_AreLoci.l0 k x0 x5 x6 (wrap64 (x7 + 1))))) else (none))) else (some false))) else (some false))) else (none)) else (none)) else (some (decide ((x0.length : Int) ≤ 8)))
def impl_AreLoci.f (k : Nat) (l0 : List (S40)) : Option (Bool) := impl_AreLoci.l0 k l0 l0 (l0.length : Int) 0
theorem impl_AreLoci.mono_l : ∀ k, (∀ y0 y1 y2 y3, LeO (impl_AreLoci.l0 k y0 y1 y2 y3) (impl_AreLoci.l0 (k + 1) y0 y1 y2 y3))
  | 0 => fun _ _ _ _ r h => by simp [impl_AreLoci.l0] at h
  | k + 1 => by
    have ih0 := impl_AreLoci.mono_l k
    · intro y0 y1 y2 y3
      unfold impl_AreLoci.l0
      repeat' first
      | (with_reducible exact ih0 _ _ _ _)
      | (with_reducible exact impl_isWordOf.mono _ _ _)
      | (with_reducible exact impl_locusOf.mono _ _ _)
      | (with_reducible exact LeO.refl _)
      | (with_reducible exact LeO.none _)
      | (with_reducible refine LeO.ite ?_ ?_)
      | (with_reducible refine LeO.bind ?_ (fun _ => ?_))
      | exact ih0 _ _ _ _
      | exact impl_isWordOf.mono _ _ _
      | exact impl_locusOf.mono _ _ _
      | exact LeO.none _
      | refine LeO.ite ?_ ?_
      | refine LeO.bind ?_ (fun _ => ?_)
theorem impl_AreLoci.mono : ∀ a0 k, LeO (impl_AreLoci.f k a0) (impl_AreLoci.f (k + 1) a0) := by
  intro a0 k
  have ih0 := impl_AreLoci.mono_l k
  unfold impl_AreLoci.f
  repeat' first
      | (with_reducible exact ih0 _ _ _ _)
      | (with_reducible exact impl_isWordOf.mono _ _ _)
      | (with_reducible exact impl_locusOf.mono _ _ _)
      | (with_reducible exact LeO.refl _)
      | (with_reducible exact LeO.none _)
      | (with_reducible refine LeO.ite ?_ ?_)
      | (with_reducible refine LeO.bind ?_ (fun _ => ?_))
      | exact ih0 _ _ _ _
      | exact impl_isWordOf.mono _ _ _
      | exact impl_locusOf.mono _ _ _
      | exact LeO.none _
      | refine LeO.ite ?_ ?_
      | refine LeO.bind ?_ (fun _ => ?_)
noncomputable def impl_AreLoci.L0 (x0 : List (S40)) (x5 : List (S40)) (x6 : Int) (x7 : Int) : Option (Bool) := lim fun k => impl_AreLoci.l0 k x0 x5 x6 x7
theorem impl_AreLoci.L0_lim (x0 : List (S40)) (x5 : List (S40)) (x6 : Int) (x7 : Int) : Lim (fun k => impl_AreLoci.l0 k x0 x5 x6 x7) (impl_AreLoci.L0 x0 x5 x6 x7) := ⟨fun k => (impl_AreLoci.mono_l k) x0 x5 x6 x7, rfl⟩
noncomputable def impl_AreLoci.F (l0 : List (S40)) : Option (Bool) := lim fun k => impl_AreLoci.f k l0
theorem impl_AreLoci.F_lim (l0 : List (S40)) : Lim (fun k => impl_AreLoci.f k l0) (impl_AreLoci.F l0) := ⟨impl_AreLoci.mono l0, rfl⟩
theorem impl_AreLoci.L0_eq (x0 : List (S40)) (x5 : List (S40)) (x6 : Int) (x7 : Int) : impl_AreLoci.L0 x0 x5 x6 x7 = (if x7 < x6 then (if 0 ≤ x7 then (if x7 < (x5.length : Int) then ((impl_isWordOf.F ((rd_T40 x5 x7).f0) (⟨#[97, 98, 99, 100, 101, 102, 103, 104, 105, 106, 107, 108, 109, 110, 111, 112, 113, 114, 115, 116, 117, 118, 119, 120, 121, 122]⟩ : ByteArray)).bind fun t200 => (if t200 = true then ((impl_isAngle.f ((rd_T40 x5 x7).f1)).bind fun t201 => (if t201 = true then (if x7 > 0 then (if 0 ≤ (wrap64 (x7 - 1)) then (if (wrap64 (x7 - 1)) < (x0.length : Int) then (if ((rd_T40 x5 x7).f1) ≤ ((rd_T40 x0 (wrap64 (x7 - 1))).f1) then (some false) else (if x7 ≤ (x0.length : Int) then ((impl_locusOf.F (x0.take (x7 : Int).toNat) ((rd_T40 x5 x7).f0)).bind fun t207 => (if t207 ≥ 0 then (some false) else (impl_AreLoci.L0 x0 x5 x6 (wrap64 (x7 + 1))))) else (none))) else (none)) else (none)) else (if x7 ≤ (x0.length : Int) then ((impl_locusOf.F (x0.take (x7 : Int).toNat) ((rd_T40 x5 x7).f0)).bind fun t212 => (if t212 ≥ 0 then (some false) else (impl_AreLoci.L0 x0 x5 x6 (wrap64 (x7 + 1))))) else (none))) else (some false))) else (some false))) else (none)) else (none)) else (some (decide ((x0.length : Int) ≤ 8)))) := by
  refine Lim.succ_eq (impl_AreLoci.L0_lim x0 x5 x6 x7).mon ?_
  simp only [impl_AreLoci.l0]
  repeat' first
  | (with_reducible exact impl_AreLoci.L0_lim _ _ _ _)
  | (with_reducible exact impl_isWordOf.F_lim _ _)
  | (with_reducible exact impl_locusOf.F_lim _ _)
  | (with_reducible refine Lim.ite ?_ ?_)
  | (with_reducible refine Lim.bind ?_ (fun _ => ?_))
  | (with_reducible exact Lim.const _)
theorem impl_AreLoci.F_eq (l0 : List (S40)) : impl_AreLoci.F l0 = (impl_AreLoci.L0 l0 l0 (l0.length : Int) 0) := by
  refine Lim.eq_ ?_
  simp only [impl_AreLoci.f]
  repeat' first
  | (with_reducible exact impl_AreLoci.L0_lim _ _ _ _)
  | (with_reducible exact impl_isWordOf.F_lim _ _)
  | (with_reducible exact impl_locusOf.F_lim _ _)
  | (with_reducible refine Lim.ite ?_ ?_)
  | (with_reducible refine Lim.bind ?_ (fun _ => ?_))
  | (with_reducible exact Lim.const _)
def impl_distance.f (a0 : Int) (a1 : Int) : Option (Int) := some (mx (wrap64 (a0 - a1)) (wrap64 (a1 - a0)))
def impl_nearestLoci.l0 : Nat → Int → Int → List ByteArray → List (S40) → Int → Int → Option (Int × List ByteArray)
  | 0, _, _, _, _, _, _ => none
  | k + 1, x1, x6, x7, x11, x12, x13 => if x13 < x12 then (if 0 ≤ x13 then (if x13 < (x11.length : Int) then ((impl_distance.f ((rd_T40 x11 x13).f1) x1).bind fun t215 => (if t215 < x6 then (if t215 = t215 then (if ([] : List ByteArray).length < 8796093022208 then (impl_nearestLoci.l0 k x1 t215 (([] : List ByteArray) ++ [(rd_T40 x11 x13).f0]) x11 x12 (wrap64 (x13 + 1))) else (none)) else (impl_nearestLoci.l0 k x1 t215 ([] : List ByteArray) x11 x12 (wrap64 (x13 + 1)))) else (if t215 = x6 then (if x7.length < 8796093022208 then (impl_nearestLoci.l0 k x1 x6 (x7 ++ [(rd_T40 x11 x13).f0]) x11 x12 (wrap64 (x13 + 1))) else (none)) else (impl_nearestLoci.l0 k x1 x6 x7 x11 x12 (wrap64 (x13 + 1)))))) else (none)) else (none)) else (some (x6, x7))
def impl_nearestLoci.f (k : Nat) (l0 : List (S40)) (a1 : Int) : Option (Int × List ByteArray) := impl_nearestLoci.l0 k a1 181 ([] : List ByteArray) l0 (l0.length : Int) 0
theorem impl_nearestLoci.mono_l : ∀ k, (∀ y0 y1 y2 y3 y4 y5, LeO (impl_nearestLoci.l0 k y0 y1 y2 y3 y4 y5) (impl_nearestLoci.l0 (k + 1) y0 y1 y2 y3 y4 y5))
  | 0 => fun _ _ _ _ _ _ r h => by simp [impl_nearestLoci.l0] at h
  | k + 1 => by
    have ih0 := impl_nearestLoci.mono_l k
    · intro y0 y1 y2 y3 y4 y5
      unfold impl_nearestLoci.l0
      repeat' first
      | (with_reducible exact ih0 _ _ _ _ _ _)
      | (with_reducible exact LeO.refl _)
      | (with_reducible exact LeO.none _)
      | (with_reducible refine LeO.ite ?_ ?_)
      | (with_reducible refine LeO.bind ?_ (fun _ => ?_))
      | exact ih0 _ _ _ _ _ _
      | exact LeO.none _
      | refine LeO.ite ?_ ?_
      | refine LeO.bind ?_ (fun _ => ?_)
theorem impl_nearestLoci.mono : ∀ a0 a1 k, LeO (impl_nearestLoci.f k a0 a1) (impl_nearestLoci.f (k + 1) a0 a1) := by
  intro a0 a1 k
  have ih0 := impl_nearestLoci.mono_l k
  unfold impl_nearestLoci.f
  repeat' first
      | (with_reducible exact ih0 _ _ _ _ _ _)
      | (with_reducible exact LeO.refl _)
      | (with_reducible exact LeO.none _)
      | (with_reducible refine LeO.ite ?_ ?_)
      | (with_reducible refine LeO.bind ?_ (fun _ => ?_))
      | exact ih0 _ _ _ _ _ _
      | exact LeO.none _
      | refine LeO.ite ?_ ?_
      | refine LeO.bind ?_ (fun _ => ?_)
noncomputable def impl_nearestLoci.L0 (x1 : Int) (x6 : Int) (x7 : List ByteArray) (x11 : List (S40)) (x12 : Int) (x13 : Int) : Option (Int × List ByteArray) := lim fun k => impl_nearestLoci.l0 k x1 x6 x7 x11 x12 x13
theorem impl_nearestLoci.L0_lim (x1 : Int) (x6 : Int) (x7 : List ByteArray) (x11 : List (S40)) (x12 : Int) (x13 : Int) : Lim (fun k => impl_nearestLoci.l0 k x1 x6 x7 x11 x12 x13) (impl_nearestLoci.L0 x1 x6 x7 x11 x12 x13) := ⟨fun k => (impl_nearestLoci.mono_l k) x1 x6 x7 x11 x12 x13, rfl⟩
noncomputable def impl_nearestLoci.F (l0 : List (S40)) (a1 : Int) : Option (Int × List ByteArray) := lim fun k => impl_nearestLoci.f k l0 a1
theorem impl_nearestLoci.F_lim (l0 : List (S40)) (a1 : Int) : Lim (fun k => impl_nearestLoci.f k l0 a1) (impl_nearestLoci.F l0 a1) := ⟨impl_nearestLoci.mono l0 a1, rfl⟩
theorem impl_nearestLoci.L0_eq (x1 : Int) (x6 : Int) (x7 : List ByteArray) (x11 : List (S40)) (x12 : Int) (x13 : Int) : impl_nearestLoci.L0 x1 x6 x7 x11 x12 x13 = (if x13 < x12 then (if 0 ≤ x13 then (if x13 < (x11.length : Int) then ((impl_distance.f ((rd_T40 x11 x13).f1) x1).bind fun t215 => (if t215 < x6 then (if t215 = t215 then (if ([] : List ByteArray).length < 8796093022208 then (impl_nearestLoci.L0 x1 t215 (([] : List ByteArray) ++ [(rd_T40 x11 x13).f0]) x11 x12 (wrap64 (x13 + 1))) else (none)) else (impl_nearestLoci.L0 x1 t215 ([] : List ByteArray) x11 x12 (wrap64 (x13 + 1)))) else (if t215 = x6 then (if x7.length < 8796093022208 then (impl_nearestLoci.L0 x1 x6 (x7 ++ [(rd_T40 x11 x13).f0]) x11 x12 (wrap64 (x13 + 1))) else (none)) else (impl_nearestLoci.L0 x1 x6 x7 x11 x12 (wrap64 (x13 + 1)))))) else (none)) else (none)) else (some (x6, x7))) := by
  refine Lim.succ_eq (impl_nearestLoci.L0_lim x1 x6 x7 x11 x12 x13).mon ?_
  simp only [impl_nearestLoci.l0]
  repeat' first
  | (with_reducible exact impl_nearestLoci.L0_lim _ _ _ _ _ _)
  | (with_reducible refine Lim.ite ?_ ?_)
  | (with_reducible refine Lim.bind ?_ (fun _ => ?_))
  | (with_reducible exact Lim.const _)
theorem impl_nearestLoci.F_eq (l0 : List (S40)) (a1 : Int) : impl_nearestLoci.F l0 a1 = (impl_nearestLoci.L0 a1 181 ([] : List ByteArray) l0 (l0.length : Int) 0) := by
  refine Lim.eq_ ?_
  simp only [impl_nearestLoci.f]
  repeat' first
  | (with_reducible exact impl_nearestLoci.L0_lim _ _ _ _ _ _)
  | (with_reducible refine Lim.ite ?_ ?_)
  | (with_reducible refine Lim.bind ?_ (fun _ => ?_))
  | (with_reducible exact Lim.const _)
def impl_pointsAt.f (k : Nat) (l0 : List (S40)) (a1 : Int) : Option (ByteArray) := (impl_nearestLoci.f k l0 a1).bind fun bt222 => (if bt222.1 > 20 then (some (⟨#[]⟩ : ByteArray)) else (if (bt222.2.length : Int) = 1 then (if 0 < (bt222.2.length : Int) then (some (rdOf ByteArray.empty bt222.2 0)) else (none)) else (some (⟨#[]⟩ : ByteArray))))
theorem impl_pointsAt.mono : ∀ a0 a1 k, LeO (impl_pointsAt.f k a0 a1) (impl_pointsAt.f (k + 1) a0 a1) := by
  intro a0 a1 k
  unfold impl_pointsAt.f
  repeat' first
      | (with_reducible exact impl_nearestLoci.mono _ _ _)
      | (with_reducible exact LeO.refl _)
      | (with_reducible exact LeO.none _)
      | (with_reducible refine LeO.ite ?_ ?_)
      | (with_reducible refine LeO.bind ?_ (fun _ => ?_))
      | exact impl_nearestLoci.mono _ _ _
      | exact LeO.none _
      | refine LeO.ite ?_ ?_
      | refine LeO.bind ?_ (fun _ => ?_)
noncomputable def impl_pointsAt.F (l0 : List (S40)) (a1 : Int) : Option (ByteArray) := lim fun k => impl_pointsAt.f k l0 a1
theorem impl_pointsAt.F_lim (l0 : List (S40)) (a1 : Int) : Lim (fun k => impl_pointsAt.f k l0 a1) (impl_pointsAt.F l0 a1) := ⟨impl_pointsAt.mono l0 a1, rfl⟩
theorem impl_pointsAt.F_eq (l0 : List (S40)) (a1 : Int) : impl_pointsAt.F l0 a1 = ((impl_nearestLoci.F l0 a1).bind fun bt222 => (if bt222.1 > 20 then (some (⟨#[]⟩ : ByteArray)) else (if (bt222.2.length : Int) = 1 then (if 0 < (bt222.2.length : Int) then (some (rdOf ByteArray.empty bt222.2 0)) else (none)) else (some (⟨#[]⟩ : ByteArray))))) := by
  refine Lim.eq_ ?_
  simp only [impl_pointsAt.f]
  repeat' first
  | (with_reducible exact impl_nearestLoci.F_lim _ _)
  | (with_reducible refine Lim.ite ?_ ?_)
  | (with_reducible refine Lim.bind ?_ (fun _ => ?_))
  | (with_reducible exact Lim.const _)
def stringslite_Index.f (a0 : ByteArray) (a1 : ByteArray) : Option (Int) := if a1.size = 1 then some (Lib.indexByte a0.data.toList (a1.data.toList.getD 0 0)) else none
def strings_Index.f (a0 : ByteArray) (a1 : ByteArray) : Option (Int) := (stringslite_Index.f a0 a1).bind fun t227 => (some t227)
def impl_RunPoints.pieces (s : ByteArray) (c : UInt8) (e : Nat) : List ByteArray := (cutsAt e c s.data.toList).map mk_
def impl_RunPoints.run (k : Nat) (l0 : List S40) : List ByteArray → List ByteArray → Option (List ByteArray × Bool)
  | [], out => some (out, true)
  | x :: t, out => (impl_decimal.f x).bind fun d => (if d.2 = true then ((impl_isAngle.f d.1).bind fun b => (if b = true then (if out.length = 10 then some ([], false) else ((impl_pointsAt.f k l0 d.1).bind fun who => impl_RunPoints.run k l0 t (out ++ [if who.toList = [] then ⟨#[63]⟩ else who]))) else some ([], false))) else some ([], false))
def impl_RunPoints.f (k : Nat) (l0 : List S40) (a1 : ByteArray) : Option (List ByteArray × Bool) := if a1.size ≤ 1048576 then ((impl_AreLoci.f k l0).bind fun t => (if t = true then (if a1.toList = [] then some ([], true) else impl_RunPoints.run k l0 (impl_RunPoints.pieces a1 32 0) []) else some ([], false))) else none
noncomputable def impl_RunPoints.R (l0 : List S40) : List ByteArray → List ByteArray → Option (List ByteArray × Bool)
  | [], out => some (out, true)
  | x :: t, out => (impl_decimal.f x).bind fun d => (if d.2 = true then ((impl_isAngle.f d.1).bind fun b => (if b = true then (if out.length = 10 then some ([], false) else ((impl_pointsAt.F l0 d.1).bind fun who => impl_RunPoints.R l0 t (out ++ [if who.toList = [] then ⟨#[63]⟩ else who]))) else some ([], false))) else some ([], false))
theorem impl_RunPoints.run_lim (l0 : List S40) : ∀ ps out, Lim (fun k => impl_RunPoints.run k l0 ps out) (impl_RunPoints.R l0 ps out)
  | [], _ => Lim.const _
  | _ :: t, out => Lim.bind (Lim.const _) fun d => Lim.ite (Lim.bind (Lim.const _) fun _ => Lim.ite (Lim.ite (Lim.const _) (Lim.bind (impl_pointsAt.F_lim l0 d.1) fun _ => impl_RunPoints.run_lim l0 t _)) (Lim.const _)) (Lim.const _)
noncomputable def impl_RunPoints.G (l0 : List S40) (a1 : ByteArray) : Option (List ByteArray × Bool) := if a1.size ≤ 1048576 then ((impl_AreLoci.F l0).bind fun t => (if t = true then (if a1.toList = [] then some ([], true) else impl_RunPoints.R l0 (impl_RunPoints.pieces a1 32 0) []) else some ([], false))) else none
theorem impl_RunPoints.f_lim (l0 : List S40) (a1 : ByteArray) : Lim (fun k => impl_RunPoints.f k l0 a1) (impl_RunPoints.G l0 a1) := Lim.ite (Lim.bind (impl_AreLoci.F_lim l0) fun _ => Lim.ite (Lim.ite (Lim.const _) (impl_RunPoints.run_lim l0 _ _)) (Lim.const _)) (Lim.const _)
theorem impl_RunPoints.mono (a0 : List S40) (a1 : ByteArray) (k : Nat) : LeO (impl_RunPoints.f k a0 a1) (impl_RunPoints.f (k + 1) a0 a1) := (impl_RunPoints.f_lim a0 a1).mon k
noncomputable def impl_RunPoints.F (l0 : List S40) (a1 : ByteArray) : Option (List ByteArray × Bool) := lim fun k => impl_RunPoints.f k l0 a1
theorem impl_RunPoints.F_lim (l0 : List S40) (a1 : ByteArray) : Lim (fun k => impl_RunPoints.f k l0 a1) (impl_RunPoints.F l0 a1) := ⟨impl_RunPoints.mono l0 a1, rfl⟩
theorem impl_RunPoints.F_eq (l0 : List S40) (a1 : ByteArray) : impl_RunPoints.F l0 a1 = impl_RunPoints.G l0 a1 := (impl_RunPoints.f_lim l0 a1).eq
def laws_eqStringS.l0 : Nat → List ByteArray → List ByteArray → Int → Option (Bool)
  | 0, _, _, _ => none
  | k + 1, x0, x1, x5 => if x5 < (x0.length : Int) then (if 0 ≤ x5 then (if x5 < (x1.length : Int) then (if (rdOf ByteArray.empty x0 x5).toList = (rdOf ByteArray.empty x1 x5).toList then (laws_eqStringS.l0 k x0 x1 (wrap64 (x5 + 1))) else (some false)) else (none)) else (none)) else (some true)
def laws_eqStringS.f (k : Nat) (l0 : List ByteArray) (l1 : List ByteArray) : Option (Bool) := if (l0.length : Int) = (l1.length : Int) then (laws_eqStringS.l0 k l0 l1 0) else (some false)
theorem laws_eqStringS.mono_l : ∀ k, (∀ y0 y1 y2, LeO (laws_eqStringS.l0 k y0 y1 y2) (laws_eqStringS.l0 (k + 1) y0 y1 y2))
  | 0 => fun _ _ _ r h => by simp [laws_eqStringS.l0] at h
  | k + 1 => by
    have ih0 := laws_eqStringS.mono_l k
    · intro y0 y1 y2
      unfold laws_eqStringS.l0
      repeat' first
      | (with_reducible exact ih0 _ _ _)
      | (with_reducible exact LeO.refl _)
      | (with_reducible exact LeO.none _)
      | (with_reducible refine LeO.ite ?_ ?_)
      | (with_reducible refine LeO.bind ?_ (fun _ => ?_))
      | exact ih0 _ _ _
      | exact LeO.none _
      | refine LeO.ite ?_ ?_
      | refine LeO.bind ?_ (fun _ => ?_)
theorem laws_eqStringS.mono : ∀ a0 a1 k, LeO (laws_eqStringS.f k a0 a1) (laws_eqStringS.f (k + 1) a0 a1) := by
  intro a0 a1 k
  have ih0 := laws_eqStringS.mono_l k
  unfold laws_eqStringS.f
  repeat' first
      | (with_reducible exact ih0 _ _ _)
      | (with_reducible exact LeO.refl _)
      | (with_reducible exact LeO.none _)
      | (with_reducible refine LeO.ite ?_ ?_)
      | (with_reducible refine LeO.bind ?_ (fun _ => ?_))
      | exact ih0 _ _ _
      | exact LeO.none _
      | refine LeO.ite ?_ ?_
      | refine LeO.bind ?_ (fun _ => ?_)
noncomputable def laws_eqStringS.L0 (x0 : List ByteArray) (x1 : List ByteArray) (x5 : Int) : Option (Bool) := lim fun k => laws_eqStringS.l0 k x0 x1 x5
theorem laws_eqStringS.L0_lim (x0 : List ByteArray) (x1 : List ByteArray) (x5 : Int) : Lim (fun k => laws_eqStringS.l0 k x0 x1 x5) (laws_eqStringS.L0 x0 x1 x5) := ⟨fun k => (laws_eqStringS.mono_l k) x0 x1 x5, rfl⟩
noncomputable def laws_eqStringS.F (l0 : List ByteArray) (l1 : List ByteArray) : Option (Bool) := lim fun k => laws_eqStringS.f k l0 l1
theorem laws_eqStringS.F_lim (l0 : List ByteArray) (l1 : List ByteArray) : Lim (fun k => laws_eqStringS.f k l0 l1) (laws_eqStringS.F l0 l1) := ⟨laws_eqStringS.mono l0 l1, rfl⟩
theorem laws_eqStringS.L0_eq (x0 : List ByteArray) (x1 : List ByteArray) (x5 : Int) : laws_eqStringS.L0 x0 x1 x5 = (if x5 < (x0.length : Int) then (if 0 ≤ x5 then (if x5 < (x1.length : Int) then (if (rdOf ByteArray.empty x0 x5).toList = (rdOf ByteArray.empty x1 x5).toList then (laws_eqStringS.L0 x0 x1 (wrap64 (x5 + 1))) else (some false)) else (none)) else (none)) else (some true)) := by
  refine Lim.succ_eq (laws_eqStringS.L0_lim x0 x1 x5).mon ?_
  simp only [laws_eqStringS.l0]
  repeat' first
  | (with_reducible exact laws_eqStringS.L0_lim _ _ _)
  | (with_reducible refine Lim.ite ?_ ?_)
  | (with_reducible refine Lim.bind ?_ (fun _ => ?_))
  | (with_reducible exact Lim.const _)
theorem laws_eqStringS.F_eq (l0 : List ByteArray) (l1 : List ByteArray) : laws_eqStringS.F l0 l1 = (if (l0.length : Int) = (l1.length : Int) then (laws_eqStringS.L0 l0 l1 0) else (some false)) := by
  refine Lim.eq_ ?_
  simp only [laws_eqStringS.f]
  repeat' first
  | (with_reducible exact laws_eqStringS.L0_lim _ _ _)
  | (with_reducible refine Lim.ite ?_ ?_)
  | (with_reducible refine Lim.bind ?_ (fun _ => ?_))
  | (with_reducible exact Lim.const _)
def laws_markStringS.l0 : Nat → List ByteArray → Int → Int → Option (Int × List ByteArray)
  | 0, _, _, _ => none
  | k + 1, x0, x1, x5 => if x5 < (x0.length : Int) then ((laws_markText.f k x1).bind fun t230 => (if 0 ≤ x5 then (laws_markStringS.l0 k (x0.set (x5 : Int).toNat t230) (wrap64 (x1 + 1)) (wrap64 (x5 + 1))) else (none))) else (some (x1, x0))
def laws_markStringS.f (k : Nat) (l0 : List ByteArray) (a1 : Int) : Option (Int × List ByteArray) := laws_markStringS.l0 k l0 a1 0
theorem laws_markStringS.mono_l : ∀ k, (∀ y0 y1 y2, LeO (laws_markStringS.l0 k y0 y1 y2) (laws_markStringS.l0 (k + 1) y0 y1 y2))
  | 0 => fun _ _ _ r h => by simp [laws_markStringS.l0] at h
  | k + 1 => by
    have ih0 := laws_markStringS.mono_l k
    · intro y0 y1 y2
      unfold laws_markStringS.l0
      repeat' first
      | (with_reducible exact ih0 _ _ _)
      | (with_reducible exact laws_markText.mono _ _)
      | (with_reducible exact LeO.refl _)
      | (with_reducible exact LeO.none _)
      | (with_reducible refine LeO.ite ?_ ?_)
      | (with_reducible refine LeO.bind ?_ (fun _ => ?_))
      | exact ih0 _ _ _
      | exact laws_markText.mono _ _
      | exact LeO.none _
      | refine LeO.ite ?_ ?_
      | refine LeO.bind ?_ (fun _ => ?_)
theorem laws_markStringS.mono : ∀ a0 a1 k, LeO (laws_markStringS.f k a0 a1) (laws_markStringS.f (k + 1) a0 a1) := by
  intro a0 a1 k
  have ih0 := laws_markStringS.mono_l k
  unfold laws_markStringS.f
  repeat' first
      | (with_reducible exact ih0 _ _ _)
      | (with_reducible exact laws_markText.mono _ _)
      | (with_reducible exact LeO.refl _)
      | (with_reducible exact LeO.none _)
      | (with_reducible refine LeO.ite ?_ ?_)
      | (with_reducible refine LeO.bind ?_ (fun _ => ?_))
      | exact ih0 _ _ _
      | exact laws_markText.mono _ _
      | exact LeO.none _
      | refine LeO.ite ?_ ?_
      | refine LeO.bind ?_ (fun _ => ?_)
noncomputable def laws_markStringS.L0 (x0 : List ByteArray) (x1 : Int) (x5 : Int) : Option (Int × List ByteArray) := lim fun k => laws_markStringS.l0 k x0 x1 x5
theorem laws_markStringS.L0_lim (x0 : List ByteArray) (x1 : Int) (x5 : Int) : Lim (fun k => laws_markStringS.l0 k x0 x1 x5) (laws_markStringS.L0 x0 x1 x5) := ⟨fun k => (laws_markStringS.mono_l k) x0 x1 x5, rfl⟩
noncomputable def laws_markStringS.F (l0 : List ByteArray) (a1 : Int) : Option (Int × List ByteArray) := lim fun k => laws_markStringS.f k l0 a1
theorem laws_markStringS.F_lim (l0 : List ByteArray) (a1 : Int) : Lim (fun k => laws_markStringS.f k l0 a1) (laws_markStringS.F l0 a1) := ⟨laws_markStringS.mono l0 a1, rfl⟩
theorem laws_markStringS.L0_eq (x0 : List ByteArray) (x1 : Int) (x5 : Int) : laws_markStringS.L0 x0 x1 x5 = (if x5 < (x0.length : Int) then ((laws_markText.F x1).bind fun t230 => (if 0 ≤ x5 then (laws_markStringS.L0 (x0.set (x5 : Int).toNat t230) (wrap64 (x1 + 1)) (wrap64 (x5 + 1))) else (none))) else (some (x1, x0))) := by
  refine Lim.succ_eq (laws_markStringS.L0_lim x0 x1 x5).mon ?_
  simp only [laws_markStringS.l0]
  repeat' first
  | (with_reducible exact laws_markStringS.L0_lim _ _ _)
  | (with_reducible exact laws_markText.F_lim _)
  | (with_reducible refine Lim.ite ?_ ?_)
  | (with_reducible refine Lim.bind ?_ (fun _ => ?_))
  | (with_reducible exact Lim.const _)
theorem laws_markStringS.F_eq (l0 : List ByteArray) (a1 : Int) : laws_markStringS.F l0 a1 = (laws_markStringS.L0 l0 a1 0) := by
  refine Lim.eq_ ?_
  simp only [laws_markStringS.f]
  repeat' first
  | (with_reducible exact laws_markStringS.L0_lim _ _ _)
  | (with_reducible exact laws_markText.F_lim _)
  | (with_reducible refine Lim.ite ?_ ?_)
  | (with_reducible refine Lim.bind ?_ (fun _ => ?_))
  | (with_reducible exact Lim.const _)
def laws_heldStringS.l0 : Nat → List ByteArray → Int → Int → Option (Int)
  | 0, _, _, _ => none
  | k + 1, x0, x1, x5 => if x5 < (x0.length : Int) then (if 0 ≤ x5 then ((laws_markText.f k x1).bind fun t233 => (if (rdOf ByteArray.empty x0 x5).toList = t233.toList then (laws_heldStringS.l0 k x0 (wrap64 (x1 + 1)) (wrap64 (x5 + 1))) else (some (-1)))) else (none)) else (some x1)
def laws_heldStringS.f (k : Nat) (l0 : List ByteArray) (a1 : Int) : Option (Int) := laws_heldStringS.l0 k l0 a1 0
theorem laws_heldStringS.mono_l : ∀ k, (∀ y0 y1 y2, LeO (laws_heldStringS.l0 k y0 y1 y2) (laws_heldStringS.l0 (k + 1) y0 y1 y2))
  | 0 => fun _ _ _ r h => by simp [laws_heldStringS.l0] at h
  | k + 1 => by
    have ih0 := laws_heldStringS.mono_l k
    · intro y0 y1 y2
      unfold laws_heldStringS.l0
      repeat' first
      | (with_reducible exact ih0 _ _ _)
      | (with_reducible exact laws_markText.mono _ _)
      | (with_reducible exact LeO.refl _)
      | (with_reducible exact LeO.none _)
      | (with_reducible refine LeO.ite ?_ ?_)
      | (with_reducible refine LeO.bind ?_ (fun _ => ?_))
      | exact ih0 _ _ _
      | exact laws_markText.mono _ _
      | exact LeO.none _
      | refine LeO.ite ?_ ?_
      | refine LeO.bind ?_ (fun _ => ?_)
theorem laws_heldStringS.mono : ∀ a0 a1 k, LeO (laws_heldStringS.f k a0 a1) (laws_heldStringS.f (k + 1) a0 a1) := by
  intro a0 a1 k
  have ih0 := laws_heldStringS.mono_l k
  unfold laws_heldStringS.f
  repeat' first
      | (with_reducible exact ih0 _ _ _)
      | (with_reducible exact laws_markText.mono _ _)
      | (with_reducible exact LeO.refl _)
      | (with_reducible exact LeO.none _)
      | (with_reducible refine LeO.ite ?_ ?_)
      | (with_reducible refine LeO.bind ?_ (fun _ => ?_))
      | exact ih0 _ _ _
      | exact laws_markText.mono _ _
      | exact LeO.none _
      | refine LeO.ite ?_ ?_
      | refine LeO.bind ?_ (fun _ => ?_)
noncomputable def laws_heldStringS.L0 (x0 : List ByteArray) (x1 : Int) (x5 : Int) : Option (Int) := lim fun k => laws_heldStringS.l0 k x0 x1 x5
theorem laws_heldStringS.L0_lim (x0 : List ByteArray) (x1 : Int) (x5 : Int) : Lim (fun k => laws_heldStringS.l0 k x0 x1 x5) (laws_heldStringS.L0 x0 x1 x5) := ⟨fun k => (laws_heldStringS.mono_l k) x0 x1 x5, rfl⟩
noncomputable def laws_heldStringS.F (l0 : List ByteArray) (a1 : Int) : Option (Int) := lim fun k => laws_heldStringS.f k l0 a1
theorem laws_heldStringS.F_lim (l0 : List ByteArray) (a1 : Int) : Lim (fun k => laws_heldStringS.f k l0 a1) (laws_heldStringS.F l0 a1) := ⟨laws_heldStringS.mono l0 a1, rfl⟩
theorem laws_heldStringS.L0_eq (x0 : List ByteArray) (x1 : Int) (x5 : Int) : laws_heldStringS.L0 x0 x1 x5 = (if x5 < (x0.length : Int) then (if 0 ≤ x5 then ((laws_markText.F x1).bind fun t233 => (if (rdOf ByteArray.empty x0 x5).toList = t233.toList then (laws_heldStringS.L0 x0 (wrap64 (x1 + 1)) (wrap64 (x5 + 1))) else (some (-1)))) else (none)) else (some x1)) := by
  refine Lim.succ_eq (laws_heldStringS.L0_lim x0 x1 x5).mon ?_
  simp only [laws_heldStringS.l0]
  repeat' first
  | (with_reducible exact laws_heldStringS.L0_lim _ _ _)
  | (with_reducible exact laws_markText.F_lim _)
  | (with_reducible refine Lim.ite ?_ ?_)
  | (with_reducible refine Lim.bind ?_ (fun _ => ?_))
  | (with_reducible exact Lim.const _)
theorem laws_heldStringS.F_eq (l0 : List ByteArray) (a1 : Int) : laws_heldStringS.F l0 a1 = (laws_heldStringS.L0 l0 a1 0) := by
  refine Lim.eq_ ?_
  simp only [laws_heldStringS.f]
  repeat' first
  | (with_reducible exact laws_heldStringS.L0_lim _ _ _)
  | (with_reducible exact laws_markText.F_lim _)
  | (with_reducible refine Lim.ite ?_ ?_)
  | (with_reducible refine Lim.bind ?_ (fun _ => ?_))
  | (with_reducible exact Lim.const _)
mutual
def laws_FnExactRunPoints.j0 : Nat → List (S54) → ByteArray → List ByteArray → Bool → List (S40) → List ByteArray → Bool → Bool → Option (Bool)
  | 0, _, _, _, _, _, _, _, _ => none
  | k + 1, x0, x1, x6, x7, x8, x9, x10, x47 => if x47 = true then (some false) else ((laws_toLocusS.f k x0).bind fun t250 => ((laws_eqLocusS.f k x8 t250).bind fun t253 => (if t253 = true then ((laws_markLocusS.f k x8 1).bind fun bt254 => (if bt254.1 < 0 then (laws_FnExactRunPoints.j1 k x0 x1 x6 x7 x9 true) else ((laws_eqStringS.f k x9 x6).bind fun t256 => (if t256 = true then (laws_FnExactRunPoints.j1 k x0 x1 x6 x7 x9 (x10 != x7)) else (laws_FnExactRunPoints.j1 k x0 x1 x6 x7 x9 true))))) else (some false))))
def laws_FnExactRunPoints.j1 : Nat → List (S54) → ByteArray → List ByteArray → Bool → List ByteArray → Bool → Option (Bool)
  | 0, _, _, _, _, _, _ => none
  | k + 1, x0, x1, x6, x7, x9, x68 => if x68 = true then (some false) else ((laws_markStringS.f k x9 1).bind fun bt257 => ((laws_heldStringS.f k bt257.2 1).bind fun t259 => (if t259 < 0 then (some false) else (if t259 = bt257.1 then ((laws_toLocusS.f k x0).bind fun t260 => ((impl_RunPoints.f k t260 x1).bind fun bt263 => ((laws_eqStringS.f k bt263.1 x6).bind fun t267 => (if t267 = true then (laws_FnExactRunPoints.j2 k bt257.2 bt257.1 (bt263.2 != x7)) else (laws_FnExactRunPoints.j2 k bt257.2 bt257.1 true))))) else (some false)))))
def laws_FnExactRunPoints.j2 : Nat → List ByteArray → Int → Bool → Option (Bool)
  | 0, _, _, _ => none
  | k + 1, x9, x12, x95 => if x95 = true then (some false) else ((laws_heldStringS.f k x9 1).bind fun t268 => (if t268 < 0 then (some false) else (if t268 = x12 then (some true) else (some false))))
end
def laws_FnExactRunPoints.f (k : Nat) (l0 : List (S54)) (a1 : ByteArray) : Option (Bool) := if (a1.size : Int) > 1048576 then (some true) else ((laws_szLocusS.f k l0 1048576).bind fun t234 => (if t234 < 0 then (some true) else ((laws_toLocusS.f k l0).bind fun t235 => ((spec_RunPoints.f k t235 a1).bind fun bt238 => ((laws_toLocusS.f k l0).bind fun t242 => ((impl_RunPoints.f k t242 a1).bind fun bt245 => ((laws_eqStringS.f k bt245.1 bt238.1).bind fun t249 => (if t249 = true then (laws_FnExactRunPoints.j0 k l0 a1 bt238.1 bt238.2 t242 bt245.1 bt245.2 (bt245.2 != bt238.2)) else (laws_FnExactRunPoints.j0 k l0 a1 bt238.1 bt238.2 t242 bt245.1 bt245.2 true)))))))))
theorem laws_FnExactRunPoints.mono_l : ∀ k, (∀ y0 y1 y2 y3 y4 y5 y6 y7, LeO (laws_FnExactRunPoints.j0 k y0 y1 y2 y3 y4 y5 y6 y7) (laws_FnExactRunPoints.j0 (k + 1) y0 y1 y2 y3 y4 y5 y6 y7)) ∧ (∀ y0 y1 y2 y3 y4 y5, LeO (laws_FnExactRunPoints.j1 k y0 y1 y2 y3 y4 y5) (laws_FnExactRunPoints.j1 (k + 1) y0 y1 y2 y3 y4 y5)) ∧ (∀ y0 y1 y2, LeO (laws_FnExactRunPoints.j2 k y0 y1 y2) (laws_FnExactRunPoints.j2 (k + 1) y0 y1 y2))
  | 0 => ⟨fun _ _ _ _ _ _ _ _ r h => by simp [laws_FnExactRunPoints.j0] at h, fun _ _ _ _ _ _ r h => by simp [laws_FnExactRunPoints.j1] at h, fun _ _ _ r h => by simp [laws_FnExactRunPoints.j2] at h⟩
  | k + 1 => by
    obtain ⟨ih0, ih1, ih2⟩ := laws_FnExactRunPoints.mono_l k
    refine ⟨?_, ?_, ?_⟩
    · intro y0 y1 y2 y3 y4 y5 y6 y7
      unfold laws_FnExactRunPoints.j0
      repeat' first
      | (with_reducible exact ih0 _ _ _ _ _ _ _ _)
      | (with_reducible exact ih1 _ _ _ _ _ _)
      | (with_reducible exact ih2 _ _ _)
      | (with_reducible exact impl_RunPoints.mono _ _ _)
      | (with_reducible exact laws_eqLocusS.mono _ _ _)
      | (with_reducible exact laws_eqStringS.mono _ _ _)
      | (with_reducible exact laws_heldStringS.mono _ _ _)
      | (with_reducible exact laws_markLocusS.mono _ _ _)
      | (with_reducible exact laws_markStringS.mono _ _ _)
      | (with_reducible exact laws_szLocusS.mono _ _ _)
      | (with_reducible exact laws_toLocusS.mono _ _)
      | (with_reducible exact spec_RunPoints.mono _ _ _)
      | (with_reducible exact LeO.refl _)
      | (with_reducible exact LeO.none _)
      | (with_reducible refine LeO.ite ?_ ?_)
      | (with_reducible refine LeO.bind ?_ (fun _ => ?_))
      | exact ih0 _ _ _ _ _ _ _ _
      | exact ih1 _ _ _ _ _ _
      | exact ih2 _ _ _
      | exact impl_RunPoints.mono _ _ _
      | exact laws_eqLocusS.mono _ _ _
      | exact laws_eqStringS.mono _ _ _
      | exact laws_heldStringS.mono _ _ _
      | exact laws_markLocusS.mono _ _ _
      | exact laws_markStringS.mono _ _ _
      | exact laws_szLocusS.mono _ _ _
      | exact laws_toLocusS.mono _ _
      | exact spec_RunPoints.mono _ _ _
      | exact LeO.none _
      | refine LeO.ite ?_ ?_
      | refine LeO.bind ?_ (fun _ => ?_)
    · intro y0 y1 y2 y3 y4 y5
      unfold laws_FnExactRunPoints.j1
      repeat' first
      | (with_reducible exact ih0 _ _ _ _ _ _ _ _)
      | (with_reducible exact ih1 _ _ _ _ _ _)
      | (with_reducible exact ih2 _ _ _)
      | (with_reducible exact impl_RunPoints.mono _ _ _)
      | (with_reducible exact laws_eqLocusS.mono _ _ _)
      | (with_reducible exact laws_eqStringS.mono _ _ _)
      | (with_reducible exact laws_heldStringS.mono _ _ _)
      | (with_reducible exact laws_markLocusS.mono _ _ _)
      | (with_reducible exact laws_markStringS.mono _ _ _)
      | (with_reducible exact laws_szLocusS.mono _ _ _)
      | (with_reducible exact laws_toLocusS.mono _ _)
      | (with_reducible exact spec_RunPoints.mono _ _ _)
      | (with_reducible exact LeO.refl _)
      | (with_reducible exact LeO.none _)
      | (with_reducible refine LeO.ite ?_ ?_)
      | (with_reducible refine LeO.bind ?_ (fun _ => ?_))
      | exact ih0 _ _ _ _ _ _ _ _
      | exact ih1 _ _ _ _ _ _
      | exact ih2 _ _ _
      | exact impl_RunPoints.mono _ _ _
      | exact laws_eqLocusS.mono _ _ _
      | exact laws_eqStringS.mono _ _ _
      | exact laws_heldStringS.mono _ _ _
      | exact laws_markLocusS.mono _ _ _
      | exact laws_markStringS.mono _ _ _
      | exact laws_szLocusS.mono _ _ _
      | exact laws_toLocusS.mono _ _
      | exact spec_RunPoints.mono _ _ _
      | exact LeO.none _
      | refine LeO.ite ?_ ?_
      | refine LeO.bind ?_ (fun _ => ?_)
    · intro y0 y1 y2
      unfold laws_FnExactRunPoints.j2
      repeat' first
      | (with_reducible exact ih0 _ _ _ _ _ _ _ _)
      | (with_reducible exact ih1 _ _ _ _ _ _)
      | (with_reducible exact ih2 _ _ _)
      | (with_reducible exact impl_RunPoints.mono _ _ _)
      | (with_reducible exact laws_eqLocusS.mono _ _ _)
      | (with_reducible exact laws_eqStringS.mono _ _ _)
      | (with_reducible exact laws_heldStringS.mono _ _ _)
      | (with_reducible exact laws_markLocusS.mono _ _ _)
      | (with_reducible exact laws_markStringS.mono _ _ _)
      | (with_reducible exact laws_szLocusS.mono _ _ _)
      | (with_reducible exact laws_toLocusS.mono _ _)
      | (with_reducible exact spec_RunPoints.mono _ _ _)
      | (with_reducible exact LeO.refl _)
      | (with_reducible exact LeO.none _)
      | (with_reducible refine LeO.ite ?_ ?_)
      | (with_reducible refine LeO.bind ?_ (fun _ => ?_))
      | exact ih0 _ _ _ _ _ _ _ _
      | exact ih1 _ _ _ _ _ _
      | exact ih2 _ _ _
      | exact impl_RunPoints.mono _ _ _
      | exact laws_eqLocusS.mono _ _ _
      | exact laws_eqStringS.mono _ _ _
      | exact laws_heldStringS.mono _ _ _
      | exact laws_markLocusS.mono _ _ _
      | exact laws_markStringS.mono _ _ _
      | exact laws_szLocusS.mono _ _ _
      | exact laws_toLocusS.mono _ _
      | exact spec_RunPoints.mono _ _ _
      | exact LeO.none _
      | refine LeO.ite ?_ ?_
      | refine LeO.bind ?_ (fun _ => ?_)
theorem laws_FnExactRunPoints.mono : ∀ a0 a1 k, LeO (laws_FnExactRunPoints.f k a0 a1) (laws_FnExactRunPoints.f (k + 1) a0 a1) := by
  intro a0 a1 k
  obtain ⟨ih0, ih1, ih2⟩ := laws_FnExactRunPoints.mono_l k
  unfold laws_FnExactRunPoints.f
  repeat' first
      | (with_reducible exact ih0 _ _ _ _ _ _ _ _)
      | (with_reducible exact ih1 _ _ _ _ _ _)
      | (with_reducible exact ih2 _ _ _)
      | (with_reducible exact impl_RunPoints.mono _ _ _)
      | (with_reducible exact laws_eqLocusS.mono _ _ _)
      | (with_reducible exact laws_eqStringS.mono _ _ _)
      | (with_reducible exact laws_heldStringS.mono _ _ _)
      | (with_reducible exact laws_markLocusS.mono _ _ _)
      | (with_reducible exact laws_markStringS.mono _ _ _)
      | (with_reducible exact laws_szLocusS.mono _ _ _)
      | (with_reducible exact laws_toLocusS.mono _ _)
      | (with_reducible exact spec_RunPoints.mono _ _ _)
      | (with_reducible exact LeO.refl _)
      | (with_reducible exact LeO.none _)
      | (with_reducible refine LeO.ite ?_ ?_)
      | (with_reducible refine LeO.bind ?_ (fun _ => ?_))
      | exact ih0 _ _ _ _ _ _ _ _
      | exact ih1 _ _ _ _ _ _
      | exact ih2 _ _ _
      | exact impl_RunPoints.mono _ _ _
      | exact laws_eqLocusS.mono _ _ _
      | exact laws_eqStringS.mono _ _ _
      | exact laws_heldStringS.mono _ _ _
      | exact laws_markLocusS.mono _ _ _
      | exact laws_markStringS.mono _ _ _
      | exact laws_szLocusS.mono _ _ _
      | exact laws_toLocusS.mono _ _
      | exact spec_RunPoints.mono _ _ _
      | exact LeO.none _
      | refine LeO.ite ?_ ?_
      | refine LeO.bind ?_ (fun _ => ?_)
noncomputable def laws_FnExactRunPoints.J0 (x0 : List (S54)) (x1 : ByteArray) (x6 : List ByteArray) (x7 : Bool) (x8 : List (S40)) (x9 : List ByteArray) (x10 : Bool) (x47 : Bool) : Option (Bool) := lim fun k => laws_FnExactRunPoints.j0 k x0 x1 x6 x7 x8 x9 x10 x47
theorem laws_FnExactRunPoints.J0_lim (x0 : List (S54)) (x1 : ByteArray) (x6 : List ByteArray) (x7 : Bool) (x8 : List (S40)) (x9 : List ByteArray) (x10 : Bool) (x47 : Bool) : Lim (fun k => laws_FnExactRunPoints.j0 k x0 x1 x6 x7 x8 x9 x10 x47) (laws_FnExactRunPoints.J0 x0 x1 x6 x7 x8 x9 x10 x47) := ⟨fun k => (laws_FnExactRunPoints.mono_l k).1 x0 x1 x6 x7 x8 x9 x10 x47, rfl⟩
noncomputable def laws_FnExactRunPoints.J1 (x0 : List (S54)) (x1 : ByteArray) (x6 : List ByteArray) (x7 : Bool) (x9 : List ByteArray) (x68 : Bool) : Option (Bool) := lim fun k => laws_FnExactRunPoints.j1 k x0 x1 x6 x7 x9 x68
theorem laws_FnExactRunPoints.J1_lim (x0 : List (S54)) (x1 : ByteArray) (x6 : List ByteArray) (x7 : Bool) (x9 : List ByteArray) (x68 : Bool) : Lim (fun k => laws_FnExactRunPoints.j1 k x0 x1 x6 x7 x9 x68) (laws_FnExactRunPoints.J1 x0 x1 x6 x7 x9 x68) := ⟨fun k => (laws_FnExactRunPoints.mono_l k).2.1 x0 x1 x6 x7 x9 x68, rfl⟩
noncomputable def laws_FnExactRunPoints.J2 (x9 : List ByteArray) (x12 : Int) (x95 : Bool) : Option (Bool) := lim fun k => laws_FnExactRunPoints.j2 k x9 x12 x95
theorem laws_FnExactRunPoints.J2_lim (x9 : List ByteArray) (x12 : Int) (x95 : Bool) : Lim (fun k => laws_FnExactRunPoints.j2 k x9 x12 x95) (laws_FnExactRunPoints.J2 x9 x12 x95) := ⟨fun k => (laws_FnExactRunPoints.mono_l k).2.2 x9 x12 x95, rfl⟩
noncomputable def laws_FnExactRunPoints.F (l0 : List (S54)) (a1 : ByteArray) : Option (Bool) := lim fun k => laws_FnExactRunPoints.f k l0 a1
theorem laws_FnExactRunPoints.F_lim (l0 : List (S54)) (a1 : ByteArray) : Lim (fun k => laws_FnExactRunPoints.f k l0 a1) (laws_FnExactRunPoints.F l0 a1) := ⟨laws_FnExactRunPoints.mono l0 a1, rfl⟩
theorem laws_FnExactRunPoints.J0_eq (x0 : List (S54)) (x1 : ByteArray) (x6 : List ByteArray) (x7 : Bool) (x8 : List (S40)) (x9 : List ByteArray) (x10 : Bool) (x47 : Bool) : laws_FnExactRunPoints.J0 x0 x1 x6 x7 x8 x9 x10 x47 = (if x47 = true then (some false) else ((laws_toLocusS.F x0).bind fun t250 => ((laws_eqLocusS.F x8 t250).bind fun t253 => (if t253 = true then ((laws_markLocusS.F x8 1).bind fun bt254 => (if bt254.1 < 0 then (laws_FnExactRunPoints.J1 x0 x1 x6 x7 x9 true) else ((laws_eqStringS.F x9 x6).bind fun t256 => (if t256 = true then (laws_FnExactRunPoints.J1 x0 x1 x6 x7 x9 (x10 != x7)) else (laws_FnExactRunPoints.J1 x0 x1 x6 x7 x9 true))))) else (some false))))) := by
  refine Lim.succ_eq (laws_FnExactRunPoints.J0_lim x0 x1 x6 x7 x8 x9 x10 x47).mon ?_
  simp only [laws_FnExactRunPoints.j0]
  repeat' first
  | (with_reducible exact laws_FnExactRunPoints.J0_lim _ _ _ _ _ _ _ _)
  | (with_reducible exact laws_FnExactRunPoints.J1_lim _ _ _ _ _ _)
  | (with_reducible exact laws_FnExactRunPoints.J2_lim _ _ _)
  | (with_reducible exact impl_RunPoints.F_lim _ _)
  | (with_reducible exact laws_eqLocusS.F_lim _ _)
  | (with_reducible exact laws_eqStringS.F_lim _ _)
  | (with_reducible exact laws_heldStringS.F_lim _ _)
  | (with_reducible exact laws_markLocusS.F_lim _ _)
  | (with_reducible exact laws_markStringS.F_lim _ _)
  | (with_reducible exact laws_szLocusS.F_lim _ _)
  | (with_reducible exact laws_toLocusS.F_lim _)
  | (with_reducible exact spec_RunPoints.F_lim _ _)
  | (with_reducible refine Lim.ite ?_ ?_)
  | (with_reducible refine Lim.bind ?_ (fun _ => ?_))
  | (with_reducible exact Lim.const _)
theorem laws_FnExactRunPoints.J1_eq (x0 : List (S54)) (x1 : ByteArray) (x6 : List ByteArray) (x7 : Bool) (x9 : List ByteArray) (x68 : Bool) : laws_FnExactRunPoints.J1 x0 x1 x6 x7 x9 x68 = (if x68 = true then (some false) else ((laws_markStringS.F x9 1).bind fun bt257 => ((laws_heldStringS.F bt257.2 1).bind fun t259 => (if t259 < 0 then (some false) else (if t259 = bt257.1 then ((laws_toLocusS.F x0).bind fun t260 => ((impl_RunPoints.F t260 x1).bind fun bt263 => ((laws_eqStringS.F bt263.1 x6).bind fun t267 => (if t267 = true then (laws_FnExactRunPoints.J2 bt257.2 bt257.1 (bt263.2 != x7)) else (laws_FnExactRunPoints.J2 bt257.2 bt257.1 true))))) else (some false)))))) := by
  refine Lim.succ_eq (laws_FnExactRunPoints.J1_lim x0 x1 x6 x7 x9 x68).mon ?_
  simp only [laws_FnExactRunPoints.j1]
  repeat' first
  | (with_reducible exact laws_FnExactRunPoints.J0_lim _ _ _ _ _ _ _ _)
  | (with_reducible exact laws_FnExactRunPoints.J1_lim _ _ _ _ _ _)
  | (with_reducible exact laws_FnExactRunPoints.J2_lim _ _ _)
  | (with_reducible exact impl_RunPoints.F_lim _ _)
  | (with_reducible exact laws_eqLocusS.F_lim _ _)
  | (with_reducible exact laws_eqStringS.F_lim _ _)
  | (with_reducible exact laws_heldStringS.F_lim _ _)
  | (with_reducible exact laws_markLocusS.F_lim _ _)
  | (with_reducible exact laws_markStringS.F_lim _ _)
  | (with_reducible exact laws_szLocusS.F_lim _ _)
  | (with_reducible exact laws_toLocusS.F_lim _)
  | (with_reducible exact spec_RunPoints.F_lim _ _)
  | (with_reducible refine Lim.ite ?_ ?_)
  | (with_reducible refine Lim.bind ?_ (fun _ => ?_))
  | (with_reducible exact Lim.const _)
theorem laws_FnExactRunPoints.J2_eq (x9 : List ByteArray) (x12 : Int) (x95 : Bool) : laws_FnExactRunPoints.J2 x9 x12 x95 = (if x95 = true then (some false) else ((laws_heldStringS.F x9 1).bind fun t268 => (if t268 < 0 then (some false) else (if t268 = x12 then (some true) else (some false))))) := by
  refine Lim.succ_eq (laws_FnExactRunPoints.J2_lim x9 x12 x95).mon ?_
  simp only [laws_FnExactRunPoints.j2]
  repeat' first
  | (with_reducible exact laws_FnExactRunPoints.J0_lim _ _ _ _ _ _ _ _)
  | (with_reducible exact laws_FnExactRunPoints.J1_lim _ _ _ _ _ _)
  | (with_reducible exact laws_FnExactRunPoints.J2_lim _ _ _)
  | (with_reducible exact impl_RunPoints.F_lim _ _)
  | (with_reducible exact laws_eqLocusS.F_lim _ _)
  | (with_reducible exact laws_eqStringS.F_lim _ _)
  | (with_reducible exact laws_heldStringS.F_lim _ _)
  | (with_reducible exact laws_markLocusS.F_lim _ _)
  | (with_reducible exact laws_markStringS.F_lim _ _)
  | (with_reducible exact laws_szLocusS.F_lim _ _)
  | (with_reducible exact laws_toLocusS.F_lim _)
  | (with_reducible exact spec_RunPoints.F_lim _ _)
  | (with_reducible refine Lim.ite ?_ ?_)
  | (with_reducible refine Lim.bind ?_ (fun _ => ?_))
  | (with_reducible exact Lim.const _)
theorem laws_FnExactRunPoints.F_eq (l0 : List (S54)) (a1 : ByteArray) : laws_FnExactRunPoints.F l0 a1 = (if (a1.size : Int) > 1048576 then (some true) else ((laws_szLocusS.F l0 1048576).bind fun t234 => (if t234 < 0 then (some true) else ((laws_toLocusS.F l0).bind fun t235 => ((spec_RunPoints.F t235 a1).bind fun bt238 => ((laws_toLocusS.F l0).bind fun t242 => ((impl_RunPoints.F t242 a1).bind fun bt245 => ((laws_eqStringS.F bt245.1 bt238.1).bind fun t249 => (if t249 = true then (laws_FnExactRunPoints.J0 l0 a1 bt238.1 bt238.2 t242 bt245.1 bt245.2 (bt245.2 != bt238.2)) else (laws_FnExactRunPoints.J0 l0 a1 bt238.1 bt238.2 t242 bt245.1 bt245.2 true)))))))))) := by
  refine Lim.eq_ ?_
  simp only [laws_FnExactRunPoints.f]
  repeat' first
  | (with_reducible exact laws_FnExactRunPoints.J0_lim _ _ _ _ _ _ _ _)
  | (with_reducible exact laws_FnExactRunPoints.J1_lim _ _ _ _ _ _)
  | (with_reducible exact laws_FnExactRunPoints.J2_lim _ _ _)
  | (with_reducible exact impl_RunPoints.F_lim _ _)
  | (with_reducible exact laws_eqLocusS.F_lim _ _)
  | (with_reducible exact laws_eqStringS.F_lim _ _)
  | (with_reducible exact laws_heldStringS.F_lim _ _)
  | (with_reducible exact laws_markLocusS.F_lim _ _)
  | (with_reducible exact laws_markStringS.F_lim _ _)
  | (with_reducible exact laws_szLocusS.F_lim _ _)
  | (with_reducible exact laws_toLocusS.F_lim _)
  | (with_reducible exact spec_RunPoints.F_lim _ _)
  | (with_reducible refine Lim.ite ?_ ?_)
  | (with_reducible refine Lim.bind ?_ (fun _ => ?_))
  | (with_reducible exact Lim.const _)
def Wf54 (x : S54) : Prop := x.f0.size ≤ 9223372036854775807 ∧ (Lit.int .i64 x.f1).wf = true
def laws_FnExactRunPoints.Pure : Prop := ∀ (l0 : List (S54)) (a1 : ByteArray), (l0.length ≤ 9223372036854775807 ∧ ∀ y_ ∈ l0, Wf54 y_) → (a1.size ≤ 9223372036854775807) → ∃ k, laws_FnExactRunPoints.f k l0 a1 = some true
end Go.Proofs.YtgjljcejhdpibaaDoor.PFnExactRunPoints
