/- Written by a program of this claim's author, out of the loaded program as Lean prints it: the functions as Lean functions, and that the calls answer so. -/
import Derived.Test.YtlnafgjjliincaaPFnExactAmbiguousAnglesx0
namespace Go.Proofs.Ytlnafgjjliincaa.PFnExactAmbiguousAngles
open Go.RowKit Go.Proofs.YtlnafgjjliincaaW.PrintWords Go.Proofs.YtlnafgjjliincaaW.PrintLast Go.Proofs.YtlnafgjjliincaaW.PrintMore
attribute [local go_sem] max2_int min2_int max_two min_two max_three min_three max_four min_four   -- for this text's walks alone
set_option linter.unusedVariables false
set_option linter.unusedSimpArgs false

def laws_szLocus.f (a0_0 : ByteArray) (a0_1 : Int) (a1 : Int) : Option (Int) := if (wrap64 (a1 - (a0_0.size : Int))) < 0 then (some (-1)) else (some (wrap64 (a1 - (a0_0.size : Int))))
def laws_szLocusS.l0 : Nat → List (S78) → Int → Int → Option (Int)
  | 0, _, _, _ => none
  | k + 1, x0, x1, x5 => if x5 < (x0.length : Int) then (if 0 ≤ x5 then ((laws_szLocus.f ((rd_T78 x0 x5).f0) ((rd_T78 x0 x5).f1) x1).bind fun t103 => (if t103 < 0 then (some (-1)) else (laws_szLocusS.l0 k x0 t103 (wrap64 (x5 + 1))))) else (none)) else (some x1)
def laws_szLocusS.f (k : Nat) (l0 : List (S78)) (a1 : Int) : Option (Int) := if (wrap64 (a1 - (l0.length : Int))) < 0 then (some (-1)) else (laws_szLocusS.l0 k l0 (wrap64 (a1 - (l0.length : Int))) 0)
theorem laws_szLocusS.mono_l : ∀ k, (∀ y0 y1 y2, LeO (laws_szLocusS.l0 k y0 y1 y2) (laws_szLocusS.l0 (k + 1) y0 y1 y2))
  | 0 => fun _ _ _ r h => by simp [laws_szLocusS.l0] at h
  | k + 1 => by
    have ih0 := laws_szLocusS.mono_l k
    · intro y0 y1 y2
      unfold laws_szLocusS.l0
      repeat' first
      | (with_reducible exact ih0 _ _ _)
      | (with_reducible exact LeO.refl _)
      | (with_reducible exact LeO.none _)
      | (with_reducible refine LeO.ite ?_ ?_)
      | (with_reducible refine LeO.bind ?_ (fun _ => ?_))
      | exact ih0 _ _ _
      | exact LeO.none _
      | refine LeO.ite ?_ ?_
      | refine LeO.bind ?_ (fun _ => ?_)
theorem laws_szLocusS.mono : ∀ a0 a1 k, LeO (laws_szLocusS.f k a0 a1) (laws_szLocusS.f (k + 1) a0 a1) := by
  intro a0 a1 k
  have ih0 := laws_szLocusS.mono_l k
  unfold laws_szLocusS.f
  repeat' first
      | (with_reducible exact ih0 _ _ _)
      | (with_reducible exact LeO.refl _)
      | (with_reducible exact LeO.none _)
      | (with_reducible refine LeO.ite ?_ ?_)
      | (with_reducible refine LeO.bind ?_ (fun _ => ?_))
      | exact ih0 _ _ _
      | exact LeO.none _
      | refine LeO.ite ?_ ?_
      | refine LeO.bind ?_ (fun _ => ?_)
noncomputable def laws_szLocusS.L0 (x0 : List (S78)) (x1 : Int) (x5 : Int) : Option (Int) := lim fun k => laws_szLocusS.l0 k x0 x1 x5
theorem laws_szLocusS.L0_lim (x0 : List (S78)) (x1 : Int) (x5 : Int) : Lim (fun k => laws_szLocusS.l0 k x0 x1 x5) (laws_szLocusS.L0 x0 x1 x5) := ⟨fun k => (laws_szLocusS.mono_l k) x0 x1 x5, rfl⟩
noncomputable def laws_szLocusS.F (l0 : List (S78)) (a1 : Int) : Option (Int) := lim fun k => laws_szLocusS.f k l0 a1
theorem laws_szLocusS.F_lim (l0 : List (S78)) (a1 : Int) : Lim (fun k => laws_szLocusS.f k l0 a1) (laws_szLocusS.F l0 a1) := ⟨laws_szLocusS.mono l0 a1, rfl⟩
theorem laws_szLocusS.L0_eq (x0 : List (S78)) (x1 : Int) (x5 : Int) : laws_szLocusS.L0 x0 x1 x5 = (if x5 < (x0.length : Int) then (if 0 ≤ x5 then ((laws_szLocus.f ((rd_T78 x0 x5).f0) ((rd_T78 x0 x5).f1) x1).bind fun t103 => (if t103 < 0 then (some (-1)) else (laws_szLocusS.L0 x0 t103 (wrap64 (x5 + 1))))) else (none)) else (some x1)) := by
  refine Lim.succ_eq (laws_szLocusS.L0_lim x0 x1 x5).mon ?_
  simp only [laws_szLocusS.l0]
  repeat' first
  | (with_reducible exact laws_szLocusS.L0_lim _ _ _)
  | (with_reducible refine Lim.ite ?_ ?_)
  | (with_reducible refine Lim.bind ?_ (fun _ => ?_))
  | (with_reducible exact Lim.const _)
theorem laws_szLocusS.F_eq (l0 : List (S78)) (a1 : Int) : laws_szLocusS.F l0 a1 = (if (wrap64 (a1 - (l0.length : Int))) < 0 then (some (-1)) else (laws_szLocusS.L0 l0 (wrap64 (a1 - (l0.length : Int))) 0)) := by
  refine Lim.eq_ ?_
  simp only [laws_szLocusS.f]
  repeat' first
  | (with_reducible exact laws_szLocusS.L0_lim _ _ _)
  | (with_reducible refine Lim.ite ?_ ?_)
  | (with_reducible refine Lim.bind ?_ (fun _ => ?_))
  | (with_reducible exact Lim.const _)
def laws_toLocus.f (a0_0 : ByteArray) (a0_1 : Int) : Option (ByteArray × Int) := some (a0_0, a0_1)
def laws_toLocusS.l0 : Nat → List (S78) → List (S82) → Int → Option ((List (S82)))
  | 0, _, _, _ => none
  | k + 1, x0, x3, x4 => if x4 < (x0.length : Int) then (if 0 ≤ x4 then ((laws_toLocus.f ((rd_T78 x0 x4).f0) ((rd_T78 x0 x4).f1)).bind fun bt111 => (if x4 < (x3.length : Int) then (laws_toLocusS.l0 k x0 (x3.set (x4 : Int).toNat (⟨bt111.1, bt111.2⟩ : S82)) (wrap64 (x4 + 1))) else (none))) else (none)) else (some x3)
def laws_toLocusS.f (k : Nat) (l0 : List (S78)) : Option ((List (S82))) := if 0 ≤ (l0.length : Int) then (if ((l0.length : Int) : Int).toNat ≤ 11728124029610 then (laws_toLocusS.l0 k l0 (List.replicate ((l0.length : Int) : Int).toNat z82) 0) else (none)) else (none)
theorem laws_toLocusS.mono_l : ∀ k, (∀ y0 y1 y2, LeO (laws_toLocusS.l0 k y0 y1 y2) (laws_toLocusS.l0 (k + 1) y0 y1 y2))
  | 0 => fun _ _ _ r h => by simp [laws_toLocusS.l0] at h
  | k + 1 => by
    have ih0 := laws_toLocusS.mono_l k
    · intro y0 y1 y2
      unfold laws_toLocusS.l0
      repeat' first
      | (with_reducible exact ih0 _ _ _)
      | (with_reducible exact LeO.refl _)
      | (with_reducible exact LeO.none _)
      | (with_reducible refine LeO.ite ?_ ?_)
      | (with_reducible refine LeO.bind ?_ (fun _ => ?_))
      | exact ih0 _ _ _
      | exact LeO.none _
      | refine LeO.ite ?_ ?_
      | refine LeO.bind ?_ (fun _ => ?_)
theorem laws_toLocusS.mono : ∀ a0 k, LeO (laws_toLocusS.f k a0) (laws_toLocusS.f (k + 1) a0) := by
  intro a0 k
  have ih0 := laws_toLocusS.mono_l k
  unfold laws_toLocusS.f
  repeat' first
      | (with_reducible exact ih0 _ _ _)
      | (with_reducible exact LeO.refl _)
      | (with_reducible exact LeO.none _)
      | (with_reducible refine LeO.ite ?_ ?_)
      | (with_reducible refine LeO.bind ?_ (fun _ => ?_))
      | exact ih0 _ _ _
      | exact LeO.none _
      | refine LeO.ite ?_ ?_
      | refine LeO.bind ?_ (fun _ => ?_)
noncomputable def laws_toLocusS.L0 (x0 : List (S78)) (x3 : List (S82)) (x4 : Int) : Option ((List (S82))) := lim fun k => laws_toLocusS.l0 k x0 x3 x4
theorem laws_toLocusS.L0_lim (x0 : List (S78)) (x3 : List (S82)) (x4 : Int) : Lim (fun k => laws_toLocusS.l0 k x0 x3 x4) (laws_toLocusS.L0 x0 x3 x4) := ⟨fun k => (laws_toLocusS.mono_l k) x0 x3 x4, rfl⟩
noncomputable def laws_toLocusS.F (l0 : List (S78)) : Option ((List (S82))) := lim fun k => laws_toLocusS.f k l0
theorem laws_toLocusS.F_lim (l0 : List (S78)) : Lim (fun k => laws_toLocusS.f k l0) (laws_toLocusS.F l0) := ⟨laws_toLocusS.mono l0, rfl⟩
theorem laws_toLocusS.L0_eq (x0 : List (S78)) (x3 : List (S82)) (x4 : Int) : laws_toLocusS.L0 x0 x3 x4 = (if x4 < (x0.length : Int) then (if 0 ≤ x4 then ((laws_toLocus.f ((rd_T78 x0 x4).f0) ((rd_T78 x0 x4).f1)).bind fun bt111 => (if x4 < (x3.length : Int) then (laws_toLocusS.L0 x0 (x3.set (x4 : Int).toNat (⟨bt111.1, bt111.2⟩ : S82)) (wrap64 (x4 + 1))) else (none))) else (none)) else (some x3)) := by
  refine Lim.succ_eq (laws_toLocusS.L0_lim x0 x3 x4).mon ?_
  simp only [laws_toLocusS.l0]
  repeat' first
  | (with_reducible exact laws_toLocusS.L0_lim _ _ _)
  | (with_reducible refine Lim.ite ?_ ?_)
  | (with_reducible refine Lim.bind ?_ (fun _ => ?_))
  | (with_reducible exact Lim.const _)
theorem laws_toLocusS.F_eq (l0 : List (S78)) : laws_toLocusS.F l0 = (if 0 ≤ (l0.length : Int) then (if ((l0.length : Int) : Int).toNat ≤ 11728124029610 then (laws_toLocusS.L0 l0 (List.replicate ((l0.length : Int) : Int).toNat z82) 0) else (none)) else (none)) := by
  refine Lim.eq_ ?_
  simp only [laws_toLocusS.f]
  repeat' first
  | (with_reducible exact laws_toLocusS.L0_lim _ _ _)
  | (with_reducible refine Lim.ite ?_ ?_)
  | (with_reducible refine Lim.bind ?_ (fun _ => ?_))
  | (with_reducible exact Lim.const _)
def laws_eqLocus.f (a0_0 : ByteArray) (a0_1 : Int) (a1_0 : ByteArray) (a1_1 : Int) : Option (Bool) := if a0_0.toList = a1_0.toList then (if a0_1 = a1_1 then (some true) else (some false)) else (some false)
def laws_eqLocusS.l0 : Nat → List (S82) → List (S82) → Int → Option (Bool)
  | 0, _, _, _ => none
  | k + 1, x0, x1, x5 => if x5 < (x0.length : Int) then (if 0 ≤ x5 then (if x5 < (x1.length : Int) then ((laws_eqLocus.f ((rd_T82 x0 x5).f0) ((rd_T82 x0 x5).f1) ((rd_T82 x1 x5).f0) ((rd_T82 x1 x5).f1)).bind fun t118 => (if t118 = true then (laws_eqLocusS.l0 k x0 x1 (wrap64 (x5 + 1))) else (some false))) else (none)) else (none)) else (some true)
def laws_eqLocusS.f (k : Nat) (l0 : List (S82)) (l1 : List (S82)) : Option (Bool) := if (l0.length : Int) = (l1.length : Int) then (laws_eqLocusS.l0 k l0 l1 0) else (some false)
theorem laws_eqLocusS.mono_l : ∀ k, (∀ y0 y1 y2, LeO (laws_eqLocusS.l0 k y0 y1 y2) (laws_eqLocusS.l0 (k + 1) y0 y1 y2))
  | 0 => fun _ _ _ r h => by simp [laws_eqLocusS.l0] at h
  | k + 1 => by
    have ih0 := laws_eqLocusS.mono_l k
    · intro y0 y1 y2
      unfold laws_eqLocusS.l0
      repeat' first
      | (with_reducible exact ih0 _ _ _)
      | (with_reducible exact LeO.refl _)
      | (with_reducible exact LeO.none _)
      | (with_reducible refine LeO.ite ?_ ?_)
      | (with_reducible refine LeO.bind ?_ (fun _ => ?_))
      | exact ih0 _ _ _
      | exact LeO.none _
      | refine LeO.ite ?_ ?_
      | refine LeO.bind ?_ (fun _ => ?_)
theorem laws_eqLocusS.mono : ∀ a0 a1 k, LeO (laws_eqLocusS.f k a0 a1) (laws_eqLocusS.f (k + 1) a0 a1) := by
  intro a0 a1 k
  have ih0 := laws_eqLocusS.mono_l k
  unfold laws_eqLocusS.f
  repeat' first
      | (with_reducible exact ih0 _ _ _)
      | (with_reducible exact LeO.refl _)
      | (with_reducible exact LeO.none _)
      | (with_reducible refine LeO.ite ?_ ?_)
      | (with_reducible refine LeO.bind ?_ (fun _ => ?_))
      | exact ih0 _ _ _
      | exact LeO.none _
      | refine LeO.ite ?_ ?_
      | refine LeO.bind ?_ (fun _ => ?_)
noncomputable def laws_eqLocusS.L0 (x0 : List (S82)) (x1 : List (S82)) (x5 : Int) : Option (Bool) := lim fun k => laws_eqLocusS.l0 k x0 x1 x5
theorem laws_eqLocusS.L0_lim (x0 : List (S82)) (x1 : List (S82)) (x5 : Int) : Lim (fun k => laws_eqLocusS.l0 k x0 x1 x5) (laws_eqLocusS.L0 x0 x1 x5) := ⟨fun k => (laws_eqLocusS.mono_l k) x0 x1 x5, rfl⟩
noncomputable def laws_eqLocusS.F (l0 : List (S82)) (l1 : List (S82)) : Option (Bool) := lim fun k => laws_eqLocusS.f k l0 l1
theorem laws_eqLocusS.F_lim (l0 : List (S82)) (l1 : List (S82)) : Lim (fun k => laws_eqLocusS.f k l0 l1) (laws_eqLocusS.F l0 l1) := ⟨laws_eqLocusS.mono l0 l1, rfl⟩
theorem laws_eqLocusS.L0_eq (x0 : List (S82)) (x1 : List (S82)) (x5 : Int) : laws_eqLocusS.L0 x0 x1 x5 = (if x5 < (x0.length : Int) then (if 0 ≤ x5 then (if x5 < (x1.length : Int) then ((laws_eqLocus.f ((rd_T82 x0 x5).f0) ((rd_T82 x0 x5).f1) ((rd_T82 x1 x5).f0) ((rd_T82 x1 x5).f1)).bind fun t118 => (if t118 = true then (laws_eqLocusS.L0 x0 x1 (wrap64 (x5 + 1))) else (some false))) else (none)) else (none)) else (some true)) := by
  refine Lim.succ_eq (laws_eqLocusS.L0_lim x0 x1 x5).mon ?_
  simp only [laws_eqLocusS.l0]
  repeat' first
  | (with_reducible exact laws_eqLocusS.L0_lim _ _ _)
  | (with_reducible refine Lim.ite ?_ ?_)
  | (with_reducible refine Lim.bind ?_ (fun _ => ?_))
  | (with_reducible exact Lim.const _)
theorem laws_eqLocusS.F_eq (l0 : List (S82)) (l1 : List (S82)) : laws_eqLocusS.F l0 l1 = (if (l0.length : Int) = (l1.length : Int) then (laws_eqLocusS.L0 l0 l1 0) else (some false)) := by
  refine Lim.eq_ ?_
  simp only [laws_eqLocusS.f]
  repeat' first
  | (with_reducible exact laws_eqLocusS.L0_lim _ _ _)
  | (with_reducible refine Lim.ite ?_ ?_)
  | (with_reducible refine Lim.bind ?_ (fun _ => ?_))
  | (with_reducible exact Lim.const _)
def laws_markText.l0 : Nat → Int → ByteArray → Option (ByteArray)
  | 0, _, _ => none
  | k + 1, x0, x3 => if x0 > 0 then ((some (([(wrap64 (48 + (Int.tmod x0 10))) % 256] : List Int) : List Int)).bind fun y119 => (if (strOfNums y119).size + x3.size ≤ 9223372036854775807 then (laws_markText.l0 k (wrap64 (Int.tdiv x0 10)) ((strOfNums y119) ++ x3)) else (none))) else (if 1 + x3.size ≤ 9223372036854775807 then (some ((⟨#[109]⟩ : ByteArray) ++ x3)) else (none))
def laws_markText.f (k : Nat) (a0 : Int) : Option (ByteArray) := if a0 ≤ 0 then (some (⟨#[109, 48]⟩ : ByteArray)) else (laws_markText.l0 k a0 (⟨#[]⟩ : ByteArray))
theorem laws_markText.mono_l : ∀ k, (∀ y0 y1, LeO (laws_markText.l0 k y0 y1) (laws_markText.l0 (k + 1) y0 y1))
  | 0 => fun _ _ r h => by simp [laws_markText.l0] at h
  | k + 1 => by
    have ih0 := laws_markText.mono_l k
    · intro y0 y1
      unfold laws_markText.l0
      repeat' first
      | (with_reducible exact ih0 _ _)
      | (with_reducible exact LeO.refl _)
      | (with_reducible exact LeO.none _)
      | (with_reducible refine LeO.ite ?_ ?_)
      | (with_reducible refine LeO.bind ?_ (fun _ => ?_))
      | exact ih0 _ _
      | exact LeO.none _
      | refine LeO.ite ?_ ?_
      | refine LeO.bind ?_ (fun _ => ?_)
theorem laws_markText.mono : ∀ a0 k, LeO (laws_markText.f k a0) (laws_markText.f (k + 1) a0) := by
  intro a0 k
  have ih0 := laws_markText.mono_l k
  unfold laws_markText.f
  repeat' first
      | (with_reducible exact ih0 _ _)
      | (with_reducible exact LeO.refl _)
      | (with_reducible exact LeO.none _)
      | (with_reducible refine LeO.ite ?_ ?_)
      | (with_reducible refine LeO.bind ?_ (fun _ => ?_))
      | exact ih0 _ _
      | exact LeO.none _
      | refine LeO.ite ?_ ?_
      | refine LeO.bind ?_ (fun _ => ?_)
noncomputable def laws_markText.L0 (x0 : Int) (x3 : ByteArray) : Option (ByteArray) := lim fun k => laws_markText.l0 k x0 x3
theorem laws_markText.L0_lim (x0 : Int) (x3 : ByteArray) : Lim (fun k => laws_markText.l0 k x0 x3) (laws_markText.L0 x0 x3) := ⟨fun k => (laws_markText.mono_l k) x0 x3, rfl⟩
noncomputable def laws_markText.F (a0 : Int) : Option (ByteArray) := lim fun k => laws_markText.f k a0
theorem laws_markText.F_lim (a0 : Int) : Lim (fun k => laws_markText.f k a0) (laws_markText.F a0) := ⟨laws_markText.mono a0, rfl⟩
theorem laws_markText.L0_eq (x0 : Int) (x3 : ByteArray) : laws_markText.L0 x0 x3 = (if x0 > 0 then ((some (([(wrap64 (48 + (Int.tmod x0 10))) % 256] : List Int) : List Int)).bind fun y119 => (if (strOfNums y119).size + x3.size ≤ 9223372036854775807 then (laws_markText.L0 (wrap64 (Int.tdiv x0 10)) ((strOfNums y119) ++ x3)) else (none))) else (if 1 + x3.size ≤ 9223372036854775807 then (some ((⟨#[109]⟩ : ByteArray) ++ x3)) else (none))) := by
  refine Lim.succ_eq (laws_markText.L0_lim x0 x3).mon ?_
  simp only [laws_markText.l0]
  repeat' first
  | (with_reducible exact laws_markText.L0_lim _ _)
  | (with_reducible refine Lim.ite ?_ ?_)
  | (with_reducible refine Lim.bind ?_ (fun _ => ?_))
  | (with_reducible exact Lim.const _)
theorem laws_markText.F_eq (a0 : Int) : laws_markText.F a0 = (if a0 ≤ 0 then (some (⟨#[109, 48]⟩ : ByteArray)) else (laws_markText.L0 a0 (⟨#[]⟩ : ByteArray))) := by
  refine Lim.eq_ ?_
  simp only [laws_markText.f]
  repeat' first
  | (with_reducible exact laws_markText.L0_lim _ _)
  | (with_reducible refine Lim.ite ?_ ?_)
  | (with_reducible refine Lim.bind ?_ (fun _ => ?_))
  | (with_reducible exact Lim.const _)
def laws_markLocusS.l0 : Nat → List (S82) → Int → Int → Option (Int × (List (S82)))
  | 0, _, _, _ => none
  | k + 1, x0, x1, x5 => if x5 < (x0.length : Int) then ((laws_markText.f k x1).bind fun t122 => (if 0 ≤ x5 then ((some (x0.set (x5 : Int).toNat (⟨t122, (rd_T82 x0 x5).f1⟩ : S82) : List (S82))).bind fun y123 => (laws_markLocusS.l0 k (y123.set (x5 : Int).toNat (⟨(rd_T82 y123 x5).f0, wrap64 (x1 + 1)⟩ : S82)) (wrap64 ((wrap64 (x1 + 1)) + 1)) (wrap64 (x5 + 1)))) else (none))) else (some (x1, x0))
def laws_markLocusS.f (k : Nat) (l0 : List (S82)) (a1 : Int) : Option (Int × (List (S82))) := laws_markLocusS.l0 k l0 a1 0
theorem laws_markLocusS.mono_l : ∀ k, (∀ y0 y1 y2, LeO (laws_markLocusS.l0 k y0 y1 y2) (laws_markLocusS.l0 (k + 1) y0 y1 y2))
  | 0 => fun _ _ _ r h => by simp [laws_markLocusS.l0] at h
  | k + 1 => by
    have ih0 := laws_markLocusS.mono_l k
    · intro y0 y1 y2
      unfold laws_markLocusS.l0
      repeat' first
      | (with_reducible exact ih0 _ _ _)
      | (with_reducible exact laws_markText.mono _ _)
      | (with_reducible exact LeO.refl _)
      | (with_reducible exact LeO.none _)
      | (with_reducible refine LeO.ite ?_ ?_)
      | (with_reducible refine LeO.bind ?_ (fun _ => ?_))
      | exact ih0 _ _ _
      | exact laws_markText.mono _ _
      | exact LeO.none _
      | refine LeO.ite ?_ ?_
      | refine LeO.bind ?_ (fun _ => ?_)
theorem laws_markLocusS.mono : ∀ a0 a1 k, LeO (laws_markLocusS.f k a0 a1) (laws_markLocusS.f (k + 1) a0 a1) := by
  intro a0 a1 k
  have ih0 := laws_markLocusS.mono_l k
  unfold laws_markLocusS.f
  repeat' first
      | (with_reducible exact ih0 _ _ _)
      | (with_reducible exact laws_markText.mono _ _)
      | (with_reducible exact LeO.refl _)
      | (with_reducible exact LeO.none _)
      | (with_reducible refine LeO.ite ?_ ?_)
      | (with_reducible refine LeO.bind ?_ (fun _ => ?_))
      | exact ih0 _ _ _
      | exact laws_markText.mono _ _
      | exact LeO.none _
      | refine LeO.ite ?_ ?_
      | refine LeO.bind ?_ (fun _ => ?_)
noncomputable def laws_markLocusS.L0 (x0 : List (S82)) (x1 : Int) (x5 : Int) : Option (Int × (List (S82))) := lim fun k => laws_markLocusS.l0 k x0 x1 x5
theorem laws_markLocusS.L0_lim (x0 : List (S82)) (x1 : Int) (x5 : Int) : Lim (fun k => laws_markLocusS.l0 k x0 x1 x5) (laws_markLocusS.L0 x0 x1 x5) := ⟨fun k => (laws_markLocusS.mono_l k) x0 x1 x5, rfl⟩
noncomputable def laws_markLocusS.F (l0 : List (S82)) (a1 : Int) : Option (Int × (List (S82))) := lim fun k => laws_markLocusS.f k l0 a1
theorem laws_markLocusS.F_lim (l0 : List (S82)) (a1 : Int) : Lim (fun k => laws_markLocusS.f k l0 a1) (laws_markLocusS.F l0 a1) := ⟨laws_markLocusS.mono l0 a1, rfl⟩
theorem laws_markLocusS.L0_eq (x0 : List (S82)) (x1 : Int) (x5 : Int) : laws_markLocusS.L0 x0 x1 x5 = (if x5 < (x0.length : Int) then ((laws_markText.F x1).bind fun t122 => (if 0 ≤ x5 then ((some (x0.set (x5 : Int).toNat (⟨t122, (rd_T82 x0 x5).f1⟩ : S82) : List (S82))).bind fun y123 => (laws_markLocusS.L0 (y123.set (x5 : Int).toNat (⟨(rd_T82 y123 x5).f0, wrap64 (x1 + 1)⟩ : S82)) (wrap64 ((wrap64 (x1 + 1)) + 1)) (wrap64 (x5 + 1)))) else (none))) else (some (x1, x0))) := by
  refine Lim.succ_eq (laws_markLocusS.L0_lim x0 x1 x5).mon ?_
  simp only [laws_markLocusS.l0]
  repeat' first
  | (with_reducible exact laws_markLocusS.L0_lim _ _ _)
  | (with_reducible exact laws_markText.F_lim _)
  | (with_reducible refine Lim.ite ?_ ?_)
  | (with_reducible refine Lim.bind ?_ (fun _ => ?_))
  | (with_reducible exact Lim.const _)
theorem laws_markLocusS.F_eq (l0 : List (S82)) (a1 : Int) : laws_markLocusS.F l0 a1 = (laws_markLocusS.L0 l0 a1 0) := by
  refine Lim.eq_ ?_
  simp only [laws_markLocusS.f]
  repeat' first
  | (with_reducible exact laws_markLocusS.L0_lim _ _ _)
  | (with_reducible exact laws_markText.F_lim _)
  | (with_reducible refine Lim.ite ?_ ?_)
  | (with_reducible refine Lim.bind ?_ (fun _ => ?_))
  | (with_reducible exact Lim.const _)
def spec_loFind.l0 : Nat → ByteArray → List (S82) → Int → Int → Option (Int)
  | 0, _, _, _, _ => none
  | k + 1, x1, x7, x8, x9 => if x9 < x8 then (if 0 ≤ x9 then (if x9 < (x7.length : Int) then (if ((rd_T82 x7 x9).f0).toList = x1.toList then (some x9) else (spec_loFind.l0 k x1 x7 x8 (wrap64 (x9 + 1)))) else (none)) else (none)) else (some (-1))
def spec_loFind.f (k : Nat) (l0 : List (S82)) (a1 : ByteArray) : Option (Int) := spec_loFind.l0 k a1 l0 (l0.length : Int) 0
theorem spec_loFind.mono_l : ∀ k, (∀ y0 y1 y2 y3, LeO (spec_loFind.l0 k y0 y1 y2 y3) (spec_loFind.l0 (k + 1) y0 y1 y2 y3))
  | 0 => fun _ _ _ _ r h => by simp [spec_loFind.l0] at h
  | k + 1 => by
    have ih0 := spec_loFind.mono_l k
    · intro y0 y1 y2 y3
      unfold spec_loFind.l0
      repeat' first
      | (with_reducible exact ih0 _ _ _ _)
      | (with_reducible exact LeO.refl _)
      | (with_reducible exact LeO.none _)
      | (with_reducible refine LeO.ite ?_ ?_)
      | (with_reducible refine LeO.bind ?_ (fun _ => ?_))
      | exact ih0 _ _ _ _
      | exact LeO.none _
      | refine LeO.ite ?_ ?_
      | refine LeO.bind ?_ (fun _ => ?_)
theorem spec_loFind.mono : ∀ a0 a1 k, LeO (spec_loFind.f k a0 a1) (spec_loFind.f (k + 1) a0 a1) := by
  intro a0 a1 k
  have ih0 := spec_loFind.mono_l k
  unfold spec_loFind.f
  repeat' first
      | (with_reducible exact ih0 _ _ _ _)
      | (with_reducible exact LeO.refl _)
      | (with_reducible exact LeO.none _)
      | (with_reducible refine LeO.ite ?_ ?_)
      | (with_reducible refine LeO.bind ?_ (fun _ => ?_))
      | exact ih0 _ _ _ _
      | exact LeO.none _
      | refine LeO.ite ?_ ?_
      | refine LeO.bind ?_ (fun _ => ?_)
noncomputable def spec_loFind.L0 (x1 : ByteArray) (x7 : List (S82)) (x8 : Int) (x9 : Int) : Option (Int) := lim fun k => spec_loFind.l0 k x1 x7 x8 x9
theorem spec_loFind.L0_lim (x1 : ByteArray) (x7 : List (S82)) (x8 : Int) (x9 : Int) : Lim (fun k => spec_loFind.l0 k x1 x7 x8 x9) (spec_loFind.L0 x1 x7 x8 x9) := ⟨fun k => (spec_loFind.mono_l k) x1 x7 x8 x9, rfl⟩
noncomputable def spec_loFind.F (l0 : List (S82)) (a1 : ByteArray) : Option (Int) := lim fun k => spec_loFind.f k l0 a1
theorem spec_loFind.F_lim (l0 : List (S82)) (a1 : ByteArray) : Lim (fun k => spec_loFind.f k l0 a1) (spec_loFind.F l0 a1) := ⟨spec_loFind.mono l0 a1, rfl⟩
theorem spec_loFind.L0_eq (x1 : ByteArray) (x7 : List (S82)) (x8 : Int) (x9 : Int) : spec_loFind.L0 x1 x7 x8 x9 = (if x9 < x8 then (if 0 ≤ x9 then (if x9 < (x7.length : Int) then (if ((rd_T82 x7 x9).f0).toList = x1.toList then (some x9) else (spec_loFind.L0 x1 x7 x8 (wrap64 (x9 + 1)))) else (none)) else (none)) else (some (-1))) := by
  refine Lim.succ_eq (spec_loFind.L0_lim x1 x7 x8 x9).mon ?_
  simp only [spec_loFind.l0]
  repeat' first
  | (with_reducible exact spec_loFind.L0_lim _ _ _ _)
  | (with_reducible refine Lim.ite ?_ ?_)
  | (with_reducible refine Lim.bind ?_ (fun _ => ?_))
  | (with_reducible exact Lim.const _)
theorem spec_loFind.F_eq (l0 : List (S82)) (a1 : ByteArray) : spec_loFind.F l0 a1 = (spec_loFind.L0 a1 l0 (l0.length : Int) 0) := by
  refine Lim.eq_ ?_
  simp only [spec_loFind.f]
  repeat' first
  | (with_reducible exact spec_loFind.L0_lim _ _ _ _)
  | (with_reducible refine Lim.ite ?_ ?_)
  | (with_reducible refine Lim.bind ?_ (fun _ => ?_))
  | (with_reducible exact Lim.const _)
def spec_l1In.f (a0 : Int) (a1 : Int) (a2 : Int) : Option (Bool) := if a0 ≥ a1 then (some (decide (a0 ≤ a2))) else (some false)
def spec_loAngle.f (a0 : Int) : Option (Bool) := (spec_l1In.f a0 (-90) 90).bind fun t127 => (some t127)
def spec_naName.l0 : Nat → ByteArray → Int → Option (Bool)
  | 0, _, _ => none
  | k + 1, x0, x3 => if x3 < (x0.size : Int) then (if 0 ≤ x3 then (if (bt x0 x3) < 97 then (some false) else (if (bt x0 x3) > 122 then (some false) else (spec_naName.l0 k x0 (wrap64 (x3 + 1))))) else (none)) else ((spec_l1In.f (x0.size : Int) 1 8).bind fun t128 => (some t128))
def spec_naName.f (k : Nat) (a0 : ByteArray) : Option (Bool) := spec_naName.l0 k a0 0
theorem spec_naName.mono_l : ∀ k, (∀ y0 y1, LeO (spec_naName.l0 k y0 y1) (spec_naName.l0 (k + 1) y0 y1))
  | 0 => fun _ _ r h => by simp [spec_naName.l0] at h
  | k + 1 => by
    have ih0 := spec_naName.mono_l k
    · intro y0 y1
      unfold spec_naName.l0
      repeat' first
      | (with_reducible exact ih0 _ _)
      | (with_reducible exact LeO.refl _)
      | (with_reducible exact LeO.none _)
      | (with_reducible refine LeO.ite ?_ ?_)
      | (with_reducible refine LeO.bind ?_ (fun _ => ?_))
      | exact ih0 _ _
      | exact LeO.none _
      | refine LeO.ite ?_ ?_
      | refine LeO.bind ?_ (fun _ => ?_)
theorem spec_naName.mono : ∀ a0 k, LeO (spec_naName.f k a0) (spec_naName.f (k + 1) a0) := by
  intro a0 k
  have ih0 := spec_naName.mono_l k
  unfold spec_naName.f
  repeat' first
      | (with_reducible exact ih0 _ _)
      | (with_reducible exact LeO.refl _)
      | (with_reducible exact LeO.none _)
      | (with_reducible refine LeO.ite ?_ ?_)
      | (with_reducible refine LeO.bind ?_ (fun _ => ?_))
      | exact ih0 _ _
      | exact LeO.none _
      | refine LeO.ite ?_ ?_
      | refine LeO.bind ?_ (fun _ => ?_)
noncomputable def spec_naName.L0 (x0 : ByteArray) (x3 : Int) : Option (Bool) := lim fun k => spec_naName.l0 k x0 x3
theorem spec_naName.L0_lim (x0 : ByteArray) (x3 : Int) : Lim (fun k => spec_naName.l0 k x0 x3) (spec_naName.L0 x0 x3) := ⟨fun k => (spec_naName.mono_l k) x0 x3, rfl⟩
noncomputable def spec_naName.F (a0 : ByteArray) : Option (Bool) := lim fun k => spec_naName.f k a0
theorem spec_naName.F_lim (a0 : ByteArray) : Lim (fun k => spec_naName.f k a0) (spec_naName.F a0) := ⟨spec_naName.mono a0, rfl⟩
theorem spec_naName.L0_eq (x0 : ByteArray) (x3 : Int) : spec_naName.L0 x0 x3 = (if x3 < (x0.size : Int) then (if 0 ≤ x3 then (if (bt x0 x3) < 97 then (some false) else (if (bt x0 x3) > 122 then (some false) else (spec_naName.L0 x0 (wrap64 (x3 + 1))))) else (none)) else ((spec_l1In.f (x0.size : Int) 1 8).bind fun t128 => (some t128))) := by
  refine Lim.succ_eq (spec_naName.L0_lim x0 x3).mon ?_
  simp only [spec_naName.l0]
  repeat' first
  | (with_reducible exact spec_naName.L0_lim _ _)
  | (with_reducible refine Lim.ite ?_ ?_)
  | (with_reducible refine Lim.bind ?_ (fun _ => ?_))
  | (with_reducible exact Lim.const _)
theorem spec_naName.F_eq (a0 : ByteArray) : spec_naName.F a0 = (spec_naName.L0 a0 0) := by
  refine Lim.eq_ ?_
  simp only [spec_naName.f]
  repeat' first
  | (with_reducible exact spec_naName.L0_lim _ _)
  | (with_reducible refine Lim.ite ?_ ?_)
  | (with_reducible refine Lim.bind ?_ (fun _ => ?_))
  | (with_reducible exact Lim.const _)
def spec_loGood.l0 : Nat → List (S82) → List (S82) → Int → Int → Option (Bool)
  | 0, _, _, _, _ => none
  | k + 1, x0, x5, x6, x7 => if x7 < x6 then (if 0 ≤ x7 then (if x7 < (x5.length : Int) then ((spec_naName.f k ((rd_T82 x5 x7).f0)).bind fun t131 => (if t131 = true then ((spec_loAngle.f ((rd_T82 x5 x7).f1)).bind fun t132 => (if t132 = true then (if x7 > 0 then (if 0 ≤ (wrap64 (x7 - 1)) then (if (wrap64 (x7 - 1)) < (x0.length : Int) then (if ((rd_T82 x0 (wrap64 (x7 - 1))).f1) ≥ ((rd_T82 x5 x7).f1) then (some false) else (if x7 ≤ (x0.length : Int) then ((spec_loFind.f k (x0.take (x7 : Int).toNat) ((rd_T82 x5 x7).f0)).bind fun t138 => (if t138 ≥ 0 then (some false) else (spec_loGood.l0 k x0 x5 x6 (wrap64 (x7 + 1))))) else (none))) else (none)) else (none)) else (if x7 ≤ (x0.length : Int) then ((spec_loFind.f k (x0.take (x7 : Int).toNat) ((rd_T82 x5 x7).f0)).bind fun t143 => (if t143 ≥ 0 then (some false) else (spec_loGood.l0 k x0 x5 x6 (wrap64 (x7 + 1))))) else (none))) else (some false))) else (some false))) else (none)) else (none)) else (some (decide ((x0.length : Int) ≤ 8)))
def spec_loGood.f (k : Nat) (l0 : List (S82)) : Option (Bool) := spec_loGood.l0 k l0 l0 (l0.length : Int) 0
theorem spec_loGood.mono_l : ∀ k, (∀ y0 y1 y2 y3, LeO (spec_loGood.l0 k y0 y1 y2 y3) (spec_loGood.l0 (k + 1) y0 y1 y2 y3))
  | 0 => fun _ _ _ _ r h => by simp [spec_loGood.l0] at h
  | k + 1 => by
    have ih0 := spec_loGood.mono_l k
    · intro y0 y1 y2 y3
      unfold spec_loGood.l0
      repeat' first
      | (with_reducible exact ih0 _ _ _ _)
      | (with_reducible exact spec_loFind.mono _ _ _)
      | (with_reducible exact spec_naName.mono _ _)
      | (with_reducible exact LeO.refl _)
      | (with_reducible exact LeO.none _)
      | (with_reducible refine LeO.ite ?_ ?_)
      | (with_reducible refine LeO.bind ?_ (fun _ => ?_))
      | exact ih0 _ _ _ _
      | exact spec_loFind.mono _ _ _
      | exact spec_naName.mono _ _
      | exact LeO.none _
      | refine LeO.ite ?_ ?_
      | refine LeO.bind ?_ (fun _ => ?_)
theorem spec_loGood.mono : ∀ a0 k, LeO (spec_loGood.f k a0) (spec_loGood.f (k + 1) a0) := by
  intro a0 k
  have ih0 := spec_loGood.mono_l k
  unfold spec_loGood.f
  repeat' first
      | (with_reducible exact ih0 _ _ _ _)
      | (with_reducible exact spec_loFind.mono _ _ _)
      | (with_reducible exact spec_naName.mono _ _)
      | (with_reducible exact LeO.refl _)
      | (with_reducible exact LeO.none _)
      | (with_reducible refine LeO.ite ?_ ?_)
      | (with_reducible refine LeO.bind ?_ (fun _ => ?_))
      | exact ih0 _ _ _ _
      | exact spec_loFind.mono _ _ _
      | exact spec_naName.mono _ _
      | exact LeO.none _
      | refine LeO.ite ?_ ?_
      | refine LeO.bind ?_ (fun _ => ?_)
noncomputable def spec_loGood.L0 (x0 : List (S82)) (x5 : List (S82)) (x6 : Int) (x7 : Int) : Option (Bool) := lim fun k => spec_loGood.l0 k x0 x5 x6 x7
theorem spec_loGood.L0_lim (x0 : List (S82)) (x5 : List (S82)) (x6 : Int) (x7 : Int) : Lim (fun k => spec_loGood.l0 k x0 x5 x6 x7) (spec_loGood.L0 x0 x5 x6 x7) := ⟨fun k => (spec_loGood.mono_l k) x0 x5 x6 x7, rfl⟩
noncomputable def spec_loGood.F (l0 : List (S82)) : Option (Bool) := lim fun k => spec_loGood.f k l0
theorem spec_loGood.F_lim (l0 : List (S82)) : Lim (fun k => spec_loGood.f k l0) (spec_loGood.F l0) := ⟨spec_loGood.mono l0, rfl⟩
theorem spec_loGood.L0_eq (x0 : List (S82)) (x5 : List (S82)) (x6 : Int) (x7 : Int) : spec_loGood.L0 x0 x5 x6 x7 = (if x7 < x6 then (if 0 ≤ x7 then (if x7 < (x5.length : Int) then ((spec_naName.F ((rd_T82 x5 x7).f0)).bind fun t131 => (if t131 = true then ((spec_loAngle.f ((rd_T82 x5 x7).f1)).bind fun t132 => (if t132 = true then (if x7 > 0 then (if 0 ≤ (wrap64 (x7 - 1)) then (if (wrap64 (x7 - 1)) < (x0.length : Int) then (if ((rd_T82 x0 (wrap64 (x7 - 1))).f1) ≥ ((rd_T82 x5 x7).f1) then (some false) else (if x7 ≤ (x0.length : Int) then ((spec_loFind.F (x0.take (x7 : Int).toNat) ((rd_T82 x5 x7).f0)).bind fun t138 => (if t138 ≥ 0 then (some false) else (spec_loGood.L0 x0 x5 x6 (wrap64 (x7 + 1))))) else (none))) else (none)) else (none)) else (if x7 ≤ (x0.length : Int) then ((spec_loFind.F (x0.take (x7 : Int).toNat) ((rd_T82 x5 x7).f0)).bind fun t143 => (if t143 ≥ 0 then (some false) else (spec_loGood.L0 x0 x5 x6 (wrap64 (x7 + 1))))) else (none))) else (some false))) else (some false))) else (none)) else (none)) else (some (decide ((x0.length : Int) ≤ 8)))) := by
  refine Lim.succ_eq (spec_loGood.L0_lim x0 x5 x6 x7).mon ?_
  simp only [spec_loGood.l0]
  repeat' first
  | (with_reducible exact spec_loGood.L0_lim _ _ _ _)
  | (with_reducible exact spec_loFind.F_lim _ _)
  | (with_reducible exact spec_naName.F_lim _)
  | (with_reducible refine Lim.ite ?_ ?_)
  | (with_reducible refine Lim.bind ?_ (fun _ => ?_))
  | (with_reducible exact Lim.const _)
theorem spec_loGood.F_eq (l0 : List (S82)) : spec_loGood.F l0 = (spec_loGood.L0 l0 l0 (l0.length : Int) 0) := by
  refine Lim.eq_ ?_
  simp only [spec_loGood.f]
  repeat' first
  | (with_reducible exact spec_loGood.L0_lim _ _ _ _)
  | (with_reducible exact spec_loFind.F_lim _ _)
  | (with_reducible exact spec_naName.F_lim _)
  | (with_reducible refine Lim.ite ?_ ?_)
  | (with_reducible refine Lim.bind ?_ (fun _ => ?_))
  | (with_reducible exact Lim.const _)
def spec_l1Most.f (a0 : Int) (a1 : Int) : Option (Int) := if a0 > a1 then (some a0) else (some a1)
def spec_l1Abs.f (a0 : Int) : Option (Int) := (spec_l1Most.f a0 (wrap64 (-a0))).bind fun t144 => (some t144)
def spec_loLeast.l0 : Nat → Int → Int → Int → List (S82) → Int → Int → Option (Int × Int)
  | 0, _, _, _, _, _, _ => none
  | k + 1, x1, x6, x7, x11, x12, x13 => if x13 < x12 then (if 0 ≤ x13 then (if x13 < (x11.length : Int) then ((spec_l1Abs.f (wrap64 (((rd_T82 x11 x13).f1) - x1))).bind fun t147 => (if t147 < x6 then (spec_loLeast.l0 k x1 t147 1 x11 x12 (wrap64 (x13 + 1))) else (if t147 = x6 then (spec_loLeast.l0 k x1 x6 (wrap64 (x7 + 1)) x11 x12 (wrap64 (x13 + 1))) else (spec_loLeast.l0 k x1 x6 x7 x11 x12 (wrap64 (x13 + 1)))))) else (none)) else (none)) else (some (x6, x7))
def spec_loLeast.f (k : Nat) (l0 : List (S82)) (a1 : Int) : Option (Int × Int) := spec_loLeast.l0 k a1 181 0 l0 (l0.length : Int) 0
theorem spec_loLeast.mono_l : ∀ k, (∀ y0 y1 y2 y3 y4 y5, LeO (spec_loLeast.l0 k y0 y1 y2 y3 y4 y5) (spec_loLeast.l0 (k + 1) y0 y1 y2 y3 y4 y5))
  | 0 => fun _ _ _ _ _ _ r h => by simp [spec_loLeast.l0] at h
  | k + 1 => by
    have ih0 := spec_loLeast.mono_l k
    · intro y0 y1 y2 y3 y4 y5
      unfold spec_loLeast.l0
      repeat' first
      | (with_reducible exact ih0 _ _ _ _ _ _)
      | (with_reducible exact LeO.refl _)
      | (with_reducible exact LeO.none _)
      | (with_reducible refine LeO.ite ?_ ?_)
      | (with_reducible refine LeO.bind ?_ (fun _ => ?_))
      | exact ih0 _ _ _ _ _ _
      | exact LeO.none _
      | refine LeO.ite ?_ ?_
      | refine LeO.bind ?_ (fun _ => ?_)
theorem spec_loLeast.mono : ∀ a0 a1 k, LeO (spec_loLeast.f k a0 a1) (spec_loLeast.f (k + 1) a0 a1) := by
  intro a0 a1 k
  have ih0 := spec_loLeast.mono_l k
  unfold spec_loLeast.f
  repeat' first
      | (with_reducible exact ih0 _ _ _ _ _ _)
      | (with_reducible exact LeO.refl _)
      | (with_reducible exact LeO.none _)
      | (with_reducible refine LeO.ite ?_ ?_)
      | (with_reducible refine LeO.bind ?_ (fun _ => ?_))
      | exact ih0 _ _ _ _ _ _
      | exact LeO.none _
      | refine LeO.ite ?_ ?_
      | refine LeO.bind ?_ (fun _ => ?_)
noncomputable def spec_loLeast.L0 (x1 : Int) (x6 : Int) (x7 : Int) (x11 : List (S82)) (x12 : Int) (x13 : Int) : Option (Int × Int) := lim fun k => spec_loLeast.l0 k x1 x6 x7 x11 x12 x13
theorem spec_loLeast.L0_lim (x1 : Int) (x6 : Int) (x7 : Int) (x11 : List (S82)) (x12 : Int) (x13 : Int) : Lim (fun k => spec_loLeast.l0 k x1 x6 x7 x11 x12 x13) (spec_loLeast.L0 x1 x6 x7 x11 x12 x13) := ⟨fun k => (spec_loLeast.mono_l k) x1 x6 x7 x11 x12 x13, rfl⟩
noncomputable def spec_loLeast.F (l0 : List (S82)) (a1 : Int) : Option (Int × Int) := lim fun k => spec_loLeast.f k l0 a1
theorem spec_loLeast.F_lim (l0 : List (S82)) (a1 : Int) : Lim (fun k => spec_loLeast.f k l0 a1) (spec_loLeast.F l0 a1) := ⟨spec_loLeast.mono l0 a1, rfl⟩
theorem spec_loLeast.L0_eq (x1 : Int) (x6 : Int) (x7 : Int) (x11 : List (S82)) (x12 : Int) (x13 : Int) : spec_loLeast.L0 x1 x6 x7 x11 x12 x13 = (if x13 < x12 then (if 0 ≤ x13 then (if x13 < (x11.length : Int) then ((spec_l1Abs.f (wrap64 (((rd_T82 x11 x13).f1) - x1))).bind fun t147 => (if t147 < x6 then (spec_loLeast.L0 x1 t147 1 x11 x12 (wrap64 (x13 + 1))) else (if t147 = x6 then (spec_loLeast.L0 x1 x6 (wrap64 (x7 + 1)) x11 x12 (wrap64 (x13 + 1))) else (spec_loLeast.L0 x1 x6 x7 x11 x12 (wrap64 (x13 + 1)))))) else (none)) else (none)) else (some (x6, x7))) := by
  refine Lim.succ_eq (spec_loLeast.L0_lim x1 x6 x7 x11 x12 x13).mon ?_
  simp only [spec_loLeast.l0]
  repeat' first
  | (with_reducible exact spec_loLeast.L0_lim _ _ _ _ _ _)
  | (with_reducible refine Lim.ite ?_ ?_)
  | (with_reducible refine Lim.bind ?_ (fun _ => ?_))
  | (with_reducible exact Lim.const _)
theorem spec_loLeast.F_eq (l0 : List (S82)) (a1 : Int) : spec_loLeast.F l0 a1 = (spec_loLeast.L0 a1 181 0 l0 (l0.length : Int) 0) := by
  refine Lim.eq_ ?_
  simp only [spec_loLeast.f]
  repeat' first
  | (with_reducible exact spec_loLeast.L0_lim _ _ _ _ _ _)
  | (with_reducible refine Lim.ite ?_ ?_)
  | (with_reducible refine Lim.bind ?_ (fun _ => ?_))
  | (with_reducible exact Lim.const _)
def spec_AmbiguousAngles.l0 : Nat → List (S82) → List Int → Int → Option (List Int × Bool)
  | 0, _, _, _ => none
  | k + 1, x0, x4, x5 => if x5 ≤ 90 then ((spec_loLeast.f k x0 x5).bind fun bt149 => (if bt149.1 ≤ 20 then (if bt149.2 = 2 then (if x4.length < 17592186044416 then (spec_AmbiguousAngles.l0 k x0 (x4 ++ [x5]) (wrap64 (x5 + 1))) else (none)) else (spec_AmbiguousAngles.l0 k x0 x4 (wrap64 (x5 + 1)))) else (spec_AmbiguousAngles.l0 k x0 x4 (wrap64 (x5 + 1))))) else (some (x4, true))
def spec_AmbiguousAngles.f (k : Nat) (l0 : List (S82)) : Option (List Int × Bool) := (spec_loGood.f k l0).bind fun t148 => (if t148 = true then (spec_AmbiguousAngles.l0 k l0 ([] : List Int) (-90)) else (some (([] : List Int), false)))
theorem spec_AmbiguousAngles.mono_l : ∀ k, (∀ y0 y1 y2, LeO (spec_AmbiguousAngles.l0 k y0 y1 y2) (spec_AmbiguousAngles.l0 (k + 1) y0 y1 y2))
  | 0 => fun _ _ _ r h => by simp [spec_AmbiguousAngles.l0] at h
  | k + 1 => by
    have ih0 := spec_AmbiguousAngles.mono_l k
    · intro y0 y1 y2
      unfold spec_AmbiguousAngles.l0
      repeat' first
      | (with_reducible exact ih0 _ _ _)
      | (with_reducible exact spec_loGood.mono _ _)
      | (with_reducible exact spec_loLeast.mono _ _ _)
      | (with_reducible exact LeO.refl _)
      | (with_reducible exact LeO.none _)
      | (with_reducible refine LeO.ite ?_ ?_)
      | (with_reducible refine LeO.bind ?_ (fun _ => ?_))
      | exact ih0 _ _ _
      | exact spec_loGood.mono _ _
      | exact spec_loLeast.mono _ _ _
      | exact LeO.none _
      | refine LeO.ite ?_ ?_
      | refine LeO.bind ?_ (fun _ => ?_)
theorem spec_AmbiguousAngles.mono : ∀ a0 k, LeO (spec_AmbiguousAngles.f k a0) (spec_AmbiguousAngles.f (k + 1) a0) := by
  intro a0 k
  have ih0 := spec_AmbiguousAngles.mono_l k
  unfold spec_AmbiguousAngles.f
  repeat' first
      | (with_reducible exact ih0 _ _ _)
      | (with_reducible exact spec_loGood.mono _ _)
      | (with_reducible exact spec_loLeast.mono _ _ _)
      | (with_reducible exact LeO.refl _)
      | (with_reducible exact LeO.none _)
      | (with_reducible refine LeO.ite ?_ ?_)
      | (with_reducible refine LeO.bind ?_ (fun _ => ?_))
      | exact ih0 _ _ _
      | exact spec_loGood.mono _ _
      | exact spec_loLeast.mono _ _ _
      | exact LeO.none _
      | refine LeO.ite ?_ ?_
      | refine LeO.bind ?_ (fun _ => ?_)
noncomputable def spec_AmbiguousAngles.L0 (x0 : List (S82)) (x4 : List Int) (x5 : Int) : Option (List Int × Bool) := lim fun k => spec_AmbiguousAngles.l0 k x0 x4 x5
theorem spec_AmbiguousAngles.L0_lim (x0 : List (S82)) (x4 : List Int) (x5 : Int) : Lim (fun k => spec_AmbiguousAngles.l0 k x0 x4 x5) (spec_AmbiguousAngles.L0 x0 x4 x5) := ⟨fun k => (spec_AmbiguousAngles.mono_l k) x0 x4 x5, rfl⟩
noncomputable def spec_AmbiguousAngles.F (l0 : List (S82)) : Option (List Int × Bool) := lim fun k => spec_AmbiguousAngles.f k l0
theorem spec_AmbiguousAngles.F_lim (l0 : List (S82)) : Lim (fun k => spec_AmbiguousAngles.f k l0) (spec_AmbiguousAngles.F l0) := ⟨spec_AmbiguousAngles.mono l0, rfl⟩
theorem spec_AmbiguousAngles.L0_eq (x0 : List (S82)) (x4 : List Int) (x5 : Int) : spec_AmbiguousAngles.L0 x0 x4 x5 = (if x5 ≤ 90 then ((spec_loLeast.F x0 x5).bind fun bt149 => (if bt149.1 ≤ 20 then (if bt149.2 = 2 then (if x4.length < 17592186044416 then (spec_AmbiguousAngles.L0 x0 (x4 ++ [x5]) (wrap64 (x5 + 1))) else (none)) else (spec_AmbiguousAngles.L0 x0 x4 (wrap64 (x5 + 1)))) else (spec_AmbiguousAngles.L0 x0 x4 (wrap64 (x5 + 1))))) else (some (x4, true))) := by
  refine Lim.succ_eq (spec_AmbiguousAngles.L0_lim x0 x4 x5).mon ?_
  simp only [spec_AmbiguousAngles.l0]
  repeat' first
  | (with_reducible exact spec_AmbiguousAngles.L0_lim _ _ _)
  | (with_reducible exact spec_loGood.F_lim _)
  | (with_reducible exact spec_loLeast.F_lim _ _)
  | (with_reducible refine Lim.ite ?_ ?_)
  | (with_reducible refine Lim.bind ?_ (fun _ => ?_))
  | (with_reducible exact Lim.const _)
theorem spec_AmbiguousAngles.F_eq (l0 : List (S82)) : spec_AmbiguousAngles.F l0 = ((spec_loGood.F l0).bind fun t148 => (if t148 = true then (spec_AmbiguousAngles.L0 l0 ([] : List Int) (-90)) else (some (([] : List Int), false)))) := by
  refine Lim.eq_ ?_
  simp only [spec_AmbiguousAngles.f]
  repeat' first
  | (with_reducible exact spec_AmbiguousAngles.L0_lim _ _ _)
  | (with_reducible exact spec_loGood.F_lim _)
  | (with_reducible exact spec_loLeast.F_lim _ _)
  | (with_reducible refine Lim.ite ?_ ?_)
  | (with_reducible refine Lim.bind ?_ (fun _ => ?_))
  | (with_reducible exact Lim.const _)
def impl_locusOf_1.f (a0_0 : ByteArray) (a0_1 : Int) (a1_0 : ByteArray) : Option (Bool) := some (a0_0.toList == a1_0.toList)
def slices_IndexFunc_Locus_impl_locusOf_1.l0 : Nat → List (S82) → Int → Int → ByteArray → Option (Int)
  | 0, _, _, _, _ => none
  | k + 1, x0, x7, x8, x39000 => if x8 < x7 then (if 0 ≤ x8 then (if x8 < (x0.length : Int) then ((impl_locusOf_1.f ((rd_T82 x0 x8).f0) ((rd_T82 x0 x8).f1) x39000).bind fun t156 => (if t156 = true then (some x8) else (slices_IndexFunc_Locus_impl_locusOf_1.l0 k x0 x7 (wrap64 (x8 + 1)) x39000))) else (none)) else (none)) else (some (-1))
def slices_IndexFunc_Locus_impl_locusOf_1.f (k : Nat) (l0 : List (S82)) (a1_0 : ByteArray) : Option (Int) := slices_IndexFunc_Locus_impl_locusOf_1.l0 k l0 (l0.length : Int) 0 a1_0
theorem slices_IndexFunc_Locus_impl_locusOf_1.mono_l : ∀ k, (∀ y0 y1 y2 y3, LeO (slices_IndexFunc_Locus_impl_locusOf_1.l0 k y0 y1 y2 y3) (slices_IndexFunc_Locus_impl_locusOf_1.l0 (k + 1) y0 y1 y2 y3))
  | 0 => fun _ _ _ _ r h => by simp [slices_IndexFunc_Locus_impl_locusOf_1.l0] at h
  | k + 1 => by
    have ih0 := slices_IndexFunc_Locus_impl_locusOf_1.mono_l k
    · intro y0 y1 y2 y3
      unfold slices_IndexFunc_Locus_impl_locusOf_1.l0
      repeat' first
      | (with_reducible exact ih0 _ _ _ _)
      | (with_reducible exact LeO.refl _)
      | (with_reducible exact LeO.none _)
      | (with_reducible refine LeO.ite ?_ ?_)
      | (with_reducible refine LeO.bind ?_ (fun _ => ?_))
      | exact ih0 _ _ _ _
      | exact LeO.none _
      | refine LeO.ite ?_ ?_
      | refine LeO.bind ?_ (fun _ => ?_)
theorem slices_IndexFunc_Locus_impl_locusOf_1.mono : ∀ a0 a1 k, LeO (slices_IndexFunc_Locus_impl_locusOf_1.f k a0 a1) (slices_IndexFunc_Locus_impl_locusOf_1.f (k + 1) a0 a1) := by
  intro a0 a1 k
  have ih0 := slices_IndexFunc_Locus_impl_locusOf_1.mono_l k
  unfold slices_IndexFunc_Locus_impl_locusOf_1.f
  repeat' first
      | (with_reducible exact ih0 _ _ _ _)
      | (with_reducible exact LeO.refl _)
      | (with_reducible exact LeO.none _)
      | (with_reducible refine LeO.ite ?_ ?_)
      | (with_reducible refine LeO.bind ?_ (fun _ => ?_))
      | exact ih0 _ _ _ _
      | exact LeO.none _
      | refine LeO.ite ?_ ?_
      | refine LeO.bind ?_ (fun _ => ?_)
noncomputable def slices_IndexFunc_Locus_impl_locusOf_1.L0 (x0 : List (S82)) (x7 : Int) (x8 : Int) (x39000 : ByteArray) : Option (Int) := lim fun k => slices_IndexFunc_Locus_impl_locusOf_1.l0 k x0 x7 x8 x39000
theorem slices_IndexFunc_Locus_impl_locusOf_1.L0_lim (x0 : List (S82)) (x7 : Int) (x8 : Int) (x39000 : ByteArray) : Lim (fun k => slices_IndexFunc_Locus_impl_locusOf_1.l0 k x0 x7 x8 x39000) (slices_IndexFunc_Locus_impl_locusOf_1.L0 x0 x7 x8 x39000) := ⟨fun k => (slices_IndexFunc_Locus_impl_locusOf_1.mono_l k) x0 x7 x8 x39000, rfl⟩
noncomputable def slices_IndexFunc_Locus_impl_locusOf_1.F (l0 : List (S82)) (a1_0 : ByteArray) : Option (Int) := lim fun k => slices_IndexFunc_Locus_impl_locusOf_1.f k l0 a1_0
theorem slices_IndexFunc_Locus_impl_locusOf_1.F_lim (l0 : List (S82)) (a1_0 : ByteArray) : Lim (fun k => slices_IndexFunc_Locus_impl_locusOf_1.f k l0 a1_0) (slices_IndexFunc_Locus_impl_locusOf_1.F l0 a1_0) := ⟨slices_IndexFunc_Locus_impl_locusOf_1.mono l0 a1_0, rfl⟩
theorem slices_IndexFunc_Locus_impl_locusOf_1.L0_eq (x0 : List (S82)) (x7 : Int) (x8 : Int) (x39000 : ByteArray) : slices_IndexFunc_Locus_impl_locusOf_1.L0 x0 x7 x8 x39000 = (if x8 < x7 then (if 0 ≤ x8 then (if x8 < (x0.length : Int) then ((impl_locusOf_1.f ((rd_T82 x0 x8).f0) ((rd_T82 x0 x8).f1) x39000).bind fun t156 => (if t156 = true then (some x8) else (slices_IndexFunc_Locus_impl_locusOf_1.L0 x0 x7 (wrap64 (x8 + 1)) x39000))) else (none)) else (none)) else (some (-1))) := by
  refine Lim.succ_eq (slices_IndexFunc_Locus_impl_locusOf_1.L0_lim x0 x7 x8 x39000).mon ?_
  simp only [slices_IndexFunc_Locus_impl_locusOf_1.l0]
  repeat' first
  | (with_reducible exact slices_IndexFunc_Locus_impl_locusOf_1.L0_lim _ _ _ _)
  | (with_reducible refine Lim.ite ?_ ?_)
  | (with_reducible refine Lim.bind ?_ (fun _ => ?_))
  | (with_reducible exact Lim.const _)
theorem slices_IndexFunc_Locus_impl_locusOf_1.F_eq (l0 : List (S82)) (a1_0 : ByteArray) : slices_IndexFunc_Locus_impl_locusOf_1.F l0 a1_0 = (slices_IndexFunc_Locus_impl_locusOf_1.L0 l0 (l0.length : Int) 0 a1_0) := by
  refine Lim.eq_ ?_
  simp only [slices_IndexFunc_Locus_impl_locusOf_1.f]
  repeat' first
  | (with_reducible exact slices_IndexFunc_Locus_impl_locusOf_1.L0_lim _ _ _ _)
  | (with_reducible refine Lim.ite ?_ ?_)
  | (with_reducible refine Lim.bind ?_ (fun _ => ?_))
  | (with_reducible exact Lim.const _)
def impl_locusOf.f (k : Nat) (l0 : List (S82)) (a1 : ByteArray) : Option (Int) := (slices_IndexFunc_Locus_impl_locusOf_1.f k l0 a1).bind fun t158 => (some t158)
theorem impl_locusOf.mono : ∀ a0 a1 k, LeO (impl_locusOf.f k a0 a1) (impl_locusOf.f (k + 1) a0 a1) := by
  intro a0 a1 k
  unfold impl_locusOf.f
  repeat' first
      | (with_reducible exact slices_IndexFunc_Locus_impl_locusOf_1.mono _ _ _)
      | (with_reducible exact LeO.refl _)
      | (with_reducible exact LeO.none _)
      | (with_reducible refine LeO.ite ?_ ?_)
      | (with_reducible refine LeO.bind ?_ (fun _ => ?_))
      | exact slices_IndexFunc_Locus_impl_locusOf_1.mono _ _ _
      | exact LeO.none _
      | refine LeO.ite ?_ ?_
      | refine LeO.bind ?_ (fun _ => ?_)
noncomputable def impl_locusOf.F (l0 : List (S82)) (a1 : ByteArray) : Option (Int) := lim fun k => impl_locusOf.f k l0 a1
theorem impl_locusOf.F_lim (l0 : List (S82)) (a1 : ByteArray) : Lim (fun k => impl_locusOf.f k l0 a1) (impl_locusOf.F l0 a1) := ⟨impl_locusOf.mono l0 a1, rfl⟩
theorem impl_locusOf.F_eq (l0 : List (S82)) (a1 : ByteArray) : impl_locusOf.F l0 a1 = ((slices_IndexFunc_Locus_impl_locusOf_1.F l0 a1).bind fun t158 => (some t158)) := by
  refine Lim.eq_ ?_
  simp only [impl_locusOf.f]
  repeat' first
  | (with_reducible exact slices_IndexFunc_Locus_impl_locusOf_1.F_lim _ _)
  | (with_reducible refine Lim.ite ?_ ?_)
  | (with_reducible refine Lim.bind ?_ (fun _ => ?_))
  | (with_reducible exact Lim.const _)
def impl_within.f (a0 : Int) (a1 : Int) (a2 : Int) : Option (Bool) := if a0 ≥ a1 then (some (decide (a0 ≤ a2))) else (some false)
def impl_isAngle.f (a0 : Int) : Option (Bool) := (impl_within.f a0 (-90) 90).bind fun t159 => (some t159)
def stringslite_IndexByte.f (a0 : ByteArray) (a1 : Int) : Option (Int) := some (Lib.indexByte a0.data.toList a1.toNat.toUInt8)
def strings_IndexByte.f (a0 : ByteArray) (a1 : Int) : Option (Int) := (stringslite_IndexByte.f a0 a1).bind fun t160 => (some t160)
def impl_hasOnly.l0 : Nat → ByteArray → ByteArray → Int → Int → Option (Bool)
  | 0, _, _, _, _ => none
  | k + 1, x0, x1, x7, x8 => if x8 < x7 then (if 0 ≤ x8 then (if x8 < (x0.size : Int) then ((strings_IndexByte.f x1 (bt x0 x8)).bind fun t161 => (if t161 < 0 then (some false) else (impl_hasOnly.l0 k x0 x1 x7 (wrap64 (x8 + 1))))) else (none)) else (none)) else (some true)
def impl_hasOnly.f (k : Nat) (a0 : ByteArray) (a1 : ByteArray) : Option (Bool) := impl_hasOnly.l0 k a0 a1 (a0.size : Int) 0
theorem impl_hasOnly.mono_l : ∀ k, (∀ y0 y1 y2 y3, LeO (impl_hasOnly.l0 k y0 y1 y2 y3) (impl_hasOnly.l0 (k + 1) y0 y1 y2 y3))
  | 0 => fun _ _ _ _ r h => by simp [impl_hasOnly.l0] at h
  | k + 1 => by
    have ih0 := impl_hasOnly.mono_l k
    · intro y0 y1 y2 y3
      unfold impl_hasOnly.l0
      repeat' first
      | (with_reducible exact ih0 _ _ _ _)
      | (with_reducible exact LeO.refl _)
      | (with_reducible exact LeO.none _)
      | (with_reducible refine LeO.ite ?_ ?_)
      | (with_reducible refine LeO.bind ?_ (fun _ => ?_))
      | exact ih0 _ _ _ _
      | exact LeO.none _
      | refine LeO.ite ?_ ?_
      | refine LeO.bind ?_ (fun _ => ?_)
theorem impl_hasOnly.mono : ∀ a0 a1 k, LeO (impl_hasOnly.f k a0 a1) (impl_hasOnly.f (k + 1) a0 a1) := by
  intro a0 a1 k
  have ih0 := impl_hasOnly.mono_l k
  unfold impl_hasOnly.f
  repeat' first
      | (with_reducible exact ih0 _ _ _ _)
      | (with_reducible exact LeO.refl _)
      | (with_reducible exact LeO.none _)
      | (with_reducible refine LeO.ite ?_ ?_)
      | (with_reducible refine LeO.bind ?_ (fun _ => ?_))
      | exact ih0 _ _ _ _
      | exact LeO.none _
      | refine LeO.ite ?_ ?_
      | refine LeO.bind ?_ (fun _ => ?_)
noncomputable def impl_hasOnly.L0 (x0 : ByteArray) (x1 : ByteArray) (x7 : Int) (x8 : Int) : Option (Bool) := lim fun k => impl_hasOnly.l0 k x0 x1 x7 x8
theorem impl_hasOnly.L0_lim (x0 : ByteArray) (x1 : ByteArray) (x7 : Int) (x8 : Int) : Lim (fun k => impl_hasOnly.l0 k x0 x1 x7 x8) (impl_hasOnly.L0 x0 x1 x7 x8) := ⟨fun k => (impl_hasOnly.mono_l k) x0 x1 x7 x8, rfl⟩
noncomputable def impl_hasOnly.F (a0 : ByteArray) (a1 : ByteArray) : Option (Bool) := lim fun k => impl_hasOnly.f k a0 a1
theorem impl_hasOnly.F_lim (a0 : ByteArray) (a1 : ByteArray) : Lim (fun k => impl_hasOnly.f k a0 a1) (impl_hasOnly.F a0 a1) := ⟨impl_hasOnly.mono a0 a1, rfl⟩
theorem impl_hasOnly.L0_eq (x0 : ByteArray) (x1 : ByteArray) (x7 : Int) (x8 : Int) : impl_hasOnly.L0 x0 x1 x7 x8 = (if x8 < x7 then (if 0 ≤ x8 then (if x8 < (x0.size : Int) then ((strings_IndexByte.f x1 (bt x0 x8)).bind fun t161 => (if t161 < 0 then (some false) else (impl_hasOnly.L0 x0 x1 x7 (wrap64 (x8 + 1))))) else (none)) else (none)) else (some true)) := by
  refine Lim.succ_eq (impl_hasOnly.L0_lim x0 x1 x7 x8).mon ?_
  simp only [impl_hasOnly.l0]
  repeat' first
  | (with_reducible exact impl_hasOnly.L0_lim _ _ _ _)
  | (with_reducible refine Lim.ite ?_ ?_)
  | (with_reducible refine Lim.bind ?_ (fun _ => ?_))
  | (with_reducible exact Lim.const _)
theorem impl_hasOnly.F_eq (a0 : ByteArray) (a1 : ByteArray) : impl_hasOnly.F a0 a1 = (impl_hasOnly.L0 a0 a1 (a0.size : Int) 0) := by
  refine Lim.eq_ ?_
  simp only [impl_hasOnly.f]
  repeat' first
  | (with_reducible exact impl_hasOnly.L0_lim _ _ _ _)
  | (with_reducible refine Lim.ite ?_ ?_)
  | (with_reducible refine Lim.bind ?_ (fun _ => ?_))
  | (with_reducible exact Lim.const _)
def impl_isWordOf.f (k : Nat) (a0 : ByteArray) (a1 : ByteArray) : Option (Bool) := (impl_within.f (a0.size : Int) 1 8).bind fun t162 => (if t162 = true then ((impl_hasOnly.f k a0 a1).bind fun t163 => (some t163)) else (some false))
theorem impl_isWordOf.mono : ∀ a0 a1 k, LeO (impl_isWordOf.f k a0 a1) (impl_isWordOf.f (k + 1) a0 a1) := by
  intro a0 a1 k
  unfold impl_isWordOf.f
  repeat' first
      | (with_reducible exact impl_hasOnly.mono _ _ _)
      | (with_reducible exact LeO.refl _)
      | (with_reducible exact LeO.none _)
      | (with_reducible refine LeO.ite ?_ ?_)
      | (with_reducible refine LeO.bind ?_ (fun _ => ?_))
      | exact impl_hasOnly.mono _ _ _
      | exact LeO.none _
      | refine LeO.ite ?_ ?_
      | refine LeO.bind ?_ (fun _ => ?_)
noncomputable def impl_isWordOf.F (a0 : ByteArray) (a1 : ByteArray) : Option (Bool) := lim fun k => impl_isWordOf.f k a0 a1
theorem impl_isWordOf.F_lim (a0 : ByteArray) (a1 : ByteArray) : Lim (fun k => impl_isWordOf.f k a0 a1) (impl_isWordOf.F a0 a1) := ⟨impl_isWordOf.mono a0 a1, rfl⟩
theorem impl_isWordOf.F_eq (a0 : ByteArray) (a1 : ByteArray) : impl_isWordOf.F a0 a1 = ((impl_within.f (a0.size : Int) 1 8).bind fun t162 => (if t162 = true then ((impl_hasOnly.F a0 a1).bind fun t163 => (some t163)) else (some false))) := by
  refine Lim.eq_ ?_
  simp only [impl_isWordOf.f]
  repeat' first
  | (with_reducible exact impl_hasOnly.F_lim _ _)
  | (with_reducible refine Lim.ite ?_ ?_)
  | (with_reducible refine Lim.bind ?_ (fun _ => ?_))
  | (with_reducible exact Lim.const _)
def impl_AreLoci.l0 : Nat → List (S82) → List (S82) → Int → Int → Option (Bool)
  | 0, _, _, _, _ => none
  | k + 1, x0, x5, x6, x7 => if x7 < x6 then (if 0 ≤ x7 then (if x7 < (x5.length : Int) then ((impl_isWordOf.f k ((rd_T82 x5 x7).f0) (⟨#[97, 98, 99, 100, 101, 102, 103, 104, 105, 106, 107, 108, 109, 110, 111, 112, 113, 114, 115, 116, 117, 118, 119, 120, 121, 122]⟩ : ByteArray)).bind fun t166 => (if t166 = true then ((impl_isAngle.f ((rd_T82 x5 x7).f1)).bind fun t167 => (if t167 = true then (if x7 > 0 then (if 0 ≤ (wrap64 (x7 - 1)) then (if (wrap64 (x7 - 1)) < (x0.length : Int) then (if ((rd_T82 x5 x7).f1) ≤ ((rd_T82 x0 (wrap64 (x7 - 1))).f1) then (some false) else (if x7 ≤ (x0.length : Int) then ((impl_locusOf.f k (x0.take (x7 : Int).toNat) ((rd_T82 x5 x7).f0)).bind fun t173 => (if t173 ≥ 0 then (some false) else (impl_AreLoci.l0 k x0 x5 x6 (wrap64 (x7 + 1))))) else (none))) else (none)) else (none)) else (if x7 ≤ (x0.length : Int) then ((impl_locusOf.f k (x0.take (x7 : Int).toNat) ((rd_T82 x5 x7).f0)).bind fun t178 => (if t178 ≥ 0 then (some false) else (impl_AreLoci.l0 k x0 x5 x6 (wrap64 (x7 + 1))))) else (none))) else (some false))) else (some false))) else (none)) else (none)) else (some (decide ((x0.length : Int) ≤ 8)))
def impl_AreLoci.f (k : Nat) (l0 : List (S82)) : Option (Bool) := impl_AreLoci.l0 k l0 l0 (l0.length : Int) 0
theorem impl_AreLoci.mono_l : ∀ k, (∀ y0 y1 y2 y3, LeO (impl_AreLoci.l0 k y0 y1 y2 y3) (impl_AreLoci.l0 (k + 1) y0 y1 y2 y3))
  | 0 => fun _ _ _ _ r h => by simp [impl_AreLoci.l0] at h
  | k + 1 => by
    have ih0 := impl_AreLoci.mono_l k
    · intro y0 y1 y2 y3
      unfold impl_AreLoci.l0
      repeat' first
      | (with_reducible exact ih0 _ _ _ _)
      | (with_reducible exact impl_isWordOf.mono _ _ _)
      | (with_reducible exact impl_locusOf.mono _ _ _)
      | (with_reducible exact LeO.refl _)
      | (with_reducible exact LeO.none _)
      | (with_reducible refine LeO.ite ?_ ?_)
      | (with_reducible refine LeO.bind ?_ (fun _ => ?_))
      | exact ih0 _ _ _ _
      | exact impl_isWordOf.mono _ _ _
      | exact impl_locusOf.mono _ _ _
      | exact LeO.none _
      | refine LeO.ite ?_ ?_
      | refine LeO.bind ?_ (fun _ => ?_)
theorem impl_AreLoci.mono : ∀ a0 k, LeO (impl_AreLoci.f k a0) (impl_AreLoci.f (k + 1) a0) := by
  intro a0 k
  have ih0 := impl_AreLoci.mono_l k
  unfold impl_AreLoci.f
  repeat' first
      | (with_reducible exact ih0 _ _ _ _)
      | (with_reducible exact impl_isWordOf.mono _ _ _)
      | (with_reducible exact impl_locusOf.mono _ _ _)
      | (with_reducible exact LeO.refl _)
      | (with_reducible exact LeO.none _)
      | (with_reducible refine LeO.ite ?_ ?_)
      | (with_reducible refine LeO.bind ?_ (fun _ => ?_))
      | exact ih0 _ _ _ _
      | exact impl_isWordOf.mono _ _ _
      | exact impl_locusOf.mono _ _ _
      | exact LeO.none _
      | refine LeO.ite ?_ ?_
      | refine LeO.bind ?_ (fun _ => ?_)
noncomputable def impl_AreLoci.L0 (x0 : List (S82)) (x5 : List (S82)) (x6 : Int) (x7 : Int) : Option (Bool) := lim fun k => impl_AreLoci.l0 k x0 x5 x6 x7
theorem impl_AreLoci.L0_lim (x0 : List (S82)) (x5 : List (S82)) (x6 : Int) (x7 : Int) : Lim (fun k => impl_AreLoci.l0 k x0 x5 x6 x7) (impl_AreLoci.L0 x0 x5 x6 x7) := ⟨fun k => (impl_AreLoci.mono_l k) x0 x5 x6 x7, rfl⟩
noncomputable def impl_AreLoci.F (l0 : List (S82)) : Option (Bool) := lim fun k => impl_AreLoci.f k l0
theorem impl_AreLoci.F_lim (l0 : List (S82)) : Lim (fun k => impl_AreLoci.f k l0) (impl_AreLoci.F l0) := ⟨impl_AreLoci.mono l0, rfl⟩
theorem impl_AreLoci.L0_eq (x0 : List (S82)) (x5 : List (S82)) (x6 : Int) (x7 : Int) : impl_AreLoci.L0 x0 x5 x6 x7 = (if x7 < x6 then (if 0 ≤ x7 then (if x7 < (x5.length : Int) then ((impl_isWordOf.F ((rd_T82 x5 x7).f0) (⟨#[97, 98, 99, 100, 101, 102, 103, 104, 105, 106, 107, 108, 109, 110, 111, 112, 113, 114, 115, 116, 117, 118, 119, 120, 121, 122]⟩ : ByteArray)).bind fun t166 => (if t166 = true then ((impl_isAngle.f ((rd_T82 x5 x7).f1)).bind fun t167 => (if t167 = true then (if x7 > 0 then (if 0 ≤ (wrap64 (x7 - 1)) then (if (wrap64 (x7 - 1)) < (x0.length : Int) then (if ((rd_T82 x5 x7).f1) ≤ ((rd_T82 x0 (wrap64 (x7 - 1))).f1) then (some false) else (if x7 ≤ (x0.length : Int) then ((impl_locusOf.F (x0.take (x7 : Int).toNat) ((rd_T82 x5 x7).f0)).bind fun t173 => (if t173 ≥ 0 then (some false) else (impl_AreLoci.L0 x0 x5 x6 (wrap64 (x7 + 1))))) else (none))) else (none)) else (none)) else (if x7 ≤ (x0.length : Int) then ((impl_locusOf.F (x0.take (x7 : Int).toNat) ((rd_T82 x5 x7).f0)).bind fun t178 => (if t178 ≥ 0 then (some false) else (impl_AreLoci.L0 x0 x5 x6 (wrap64 (x7 + 1))))) else (none))) else (some false))) else (some false))) else (none)) else (none)) else (some (decide ((x0.length : Int) ≤ 8)))) := by
  refine Lim.succ_eq (impl_AreLoci.L0_lim x0 x5 x6 x7).mon ?_
  simp only [impl_AreLoci.l0]
  repeat' first
  | (with_reducible exact impl_AreLoci.L0_lim _ _ _ _)
  | (with_reducible exact impl_isWordOf.F_lim _ _)
  | (with_reducible exact impl_locusOf.F_lim _ _)
  | (with_reducible refine Lim.ite ?_ ?_)
  | (with_reducible refine Lim.bind ?_ (fun _ => ?_))
  | (with_reducible exact Lim.const _)
theorem impl_AreLoci.F_eq (l0 : List (S82)) : impl_AreLoci.F l0 = (impl_AreLoci.L0 l0 l0 (l0.length : Int) 0) := by
  refine Lim.eq_ ?_
  simp only [impl_AreLoci.f]
  repeat' first
  | (with_reducible exact impl_AreLoci.L0_lim _ _ _ _)
  | (with_reducible exact impl_isWordOf.F_lim _ _)
  | (with_reducible exact impl_locusOf.F_lim _ _)
  | (with_reducible refine Lim.ite ?_ ?_)
  | (with_reducible refine Lim.bind ?_ (fun _ => ?_))
  | (with_reducible exact Lim.const _)
def impl_distance.f (a0 : Int) (a1 : Int) : Option (Int) := some (mx (wrap64 (a0 - a1)) (wrap64 (a1 - a0)))
def impl_nearestLoci.l0 : Nat → Int → Int → List ByteArray → List (S82) → Int → Int → Option (Int × List ByteArray)
  | 0, _, _, _, _, _, _ => none
  | k + 1, x1, x6, x7, x11, x12, x13 => if x13 < x12 then (if 0 ≤ x13 then (if x13 < (x11.length : Int) then ((impl_distance.f ((rd_T82 x11 x13).f1) x1).bind fun t181 => (if t181 < x6 then (if t181 = t181 then (if ([] : List ByteArray).length < 8796093022208 then (impl_nearestLoci.l0 k x1 t181 (([] : List ByteArray) ++ [(rd_T82 x11 x13).f0]) x11 x12 (wrap64 (x13 + 1))) else (none)) else (impl_nearestLoci.l0 k x1 t181 ([] : List ByteArray) x11 x12 (wrap64 (x13 + 1)))) else (if t181 = x6 then (if x7.length < 8796093022208 then (impl_nearestLoci.l0 k x1 x6 (x7 ++ [(rd_T82 x11 x13).f0]) x11 x12 (wrap64 (x13 + 1))) else (none)) else (impl_nearestLoci.l0 k x1 x6 x7 x11 x12 (wrap64 (x13 + 1)))))) else (none)) else (none)) else (some (x6, x7))
def impl_nearestLoci.f (k : Nat) (l0 : List (S82)) (a1 : Int) : Option (Int × List ByteArray) := impl_nearestLoci.l0 k a1 181 ([] : List ByteArray) l0 (l0.length : Int) 0
theorem impl_nearestLoci.mono_l : ∀ k, (∀ y0 y1 y2 y3 y4 y5, LeO (impl_nearestLoci.l0 k y0 y1 y2 y3 y4 y5) (impl_nearestLoci.l0 (k + 1) y0 y1 y2 y3 y4 y5))
  | 0 => fun _ _ _ _ _ _ r h => by simp [impl_nearestLoci.l0] at h
  | k + 1 => by
    have ih0 := impl_nearestLoci.mono_l k
    · intro y0 y1 y2 y3 y4 y5
      unfold impl_nearestLoci.l0
      repeat' first
      | (with_reducible exact ih0 _ _ _ _ _ _)
      | (with_reducible exact LeO.refl _)
      | (with_reducible exact LeO.none _)
      | (with_reducible refine LeO.ite ?_ ?_)
      | (with_reducible refine LeO.bind ?_ (fun _ => ?_))
      | exact ih0 _ _ _ _ _ _
      | exact LeO.none _
      | refine LeO.ite ?_ ?_
      | refine LeO.bind ?_ (fun _ => ?_)
theorem impl_nearestLoci.mono : ∀ a0 a1 k, LeO (impl_nearestLoci.f k a0 a1) (impl_nearestLoci.f (k + 1) a0 a1) := by
  intro a0 a1 k
  have ih0 := impl_nearestLoci.mono_l k
  unfold impl_nearestLoci.f
  repeat' first
      | (with_reducible exact ih0 _ _ _ _ _ _)
      | (with_reducible exact LeO.refl _)
      | (with_reducible exact LeO.none _)
      | (with_reducible refine LeO.ite ?_ ?_)
      | (with_reducible refine LeO.bind ?_ (fun _ => ?_))
      | exact ih0 _ _ _ _ _ _
      | exact LeO.none _
      | refine LeO.ite ?_ ?_
      | refine LeO.bind ?_ (fun _ => ?_)
noncomputable def impl_nearestLoci.L0 (x1 : Int) (x6 : Int) (x7 : List ByteArray) (x11 : List (S82)) (x12 : Int) (x13 : Int) : Option (Int × List ByteArray) := lim fun k => impl_nearestLoci.l0 k x1 x6 x7 x11 x12 x13
theorem impl_nearestLoci.L0_lim (x1 : Int) (x6 : Int) (x7 : List ByteArray) (x11 : List (S82)) (x12 : Int) (x13 : Int) : Lim (fun k => impl_nearestLoci.l0 k x1 x6 x7 x11 x12 x13) (impl_nearestLoci.L0 x1 x6 x7 x11 x12 x13) := ⟨fun k => (impl_nearestLoci.mono_l k) x1 x6 x7 x11 x12 x13, rfl⟩
noncomputable def impl_nearestLoci.F (l0 : List (S82)) (a1 : Int) : Option (Int × List ByteArray) := lim fun k => impl_nearestLoci.f k l0 a1
theorem impl_nearestLoci.F_lim (l0 : List (S82)) (a1 : Int) : Lim (fun k => impl_nearestLoci.f k l0 a1) (impl_nearestLoci.F l0 a1) := ⟨impl_nearestLoci.mono l0 a1, rfl⟩
theorem impl_nearestLoci.L0_eq (x1 : Int) (x6 : Int) (x7 : List ByteArray) (x11 : List (S82)) (x12 : Int) (x13 : Int) : impl_nearestLoci.L0 x1 x6 x7 x11 x12 x13 = (if x13 < x12 then (if 0 ≤ x13 then (if x13 < (x11.length : Int) then ((impl_distance.f ((rd_T82 x11 x13).f1) x1).bind fun t181 => (if t181 < x6 then (if t181 = t181 then (if ([] : List ByteArray).length < 8796093022208 then (impl_nearestLoci.L0 x1 t181 (([] : List ByteArray) ++ [(rd_T82 x11 x13).f0]) x11 x12 (wrap64 (x13 + 1))) else (none)) else (impl_nearestLoci.L0 x1 t181 ([] : List ByteArray) x11 x12 (wrap64 (x13 + 1)))) else (if t181 = x6 then (if x7.length < 8796093022208 then (impl_nearestLoci.L0 x1 x6 (x7 ++ [(rd_T82 x11 x13).f0]) x11 x12 (wrap64 (x13 + 1))) else (none)) else (impl_nearestLoci.L0 x1 x6 x7 x11 x12 (wrap64 (x13 + 1)))))) else (none)) else (none)) else (some (x6, x7))) := by
  refine Lim.succ_eq (impl_nearestLoci.L0_lim x1 x6 x7 x11 x12 x13).mon ?_
  simp only [impl_nearestLoci.l0]
  repeat' first
  | (with_reducible exact impl_nearestLoci.L0_lim _ _ _ _ _ _)
  | (with_reducible refine Lim.ite ?_ ?_)
  | (with_reducible refine Lim.bind ?_ (fun _ => ?_))
  | (with_reducible exact Lim.const _)
theorem impl_nearestLoci.F_eq (l0 : List (S82)) (a1 : Int) : impl_nearestLoci.F l0 a1 = (impl_nearestLoci.L0 a1 181 ([] : List ByteArray) l0 (l0.length : Int) 0) := by
  refine Lim.eq_ ?_
  simp only [impl_nearestLoci.f]
  repeat' first
  | (with_reducible exact impl_nearestLoci.L0_lim _ _ _ _ _ _)
  | (with_reducible refine Lim.ite ?_ ?_)
  | (with_reducible refine Lim.bind ?_ (fun _ => ?_))
  | (with_reducible exact Lim.const _)
def impl_AmbiguousAngles.l0 : Nat → List (S82) → List Int → Int → Option (List Int × Bool)
  | 0, _, _, _ => none
  | k + 1, x0, x4, x5 => if x5 ≤ 90 then ((impl_nearestLoci.f k x0 x5).bind fun bt189 => (if bt189.1 ≤ 20 then (if (bt189.2.length : Int) = 2 then (if x4.length < 17592186044416 then (impl_AmbiguousAngles.l0 k x0 (x4 ++ [x5]) (wrap64 (x5 + 1))) else (none)) else (impl_AmbiguousAngles.l0 k x0 x4 (wrap64 (x5 + 1)))) else (impl_AmbiguousAngles.l0 k x0 x4 (wrap64 (x5 + 1))))) else (some (x4, true))
def impl_AmbiguousAngles.f (k : Nat) (l0 : List (S82)) : Option (List Int × Bool) := (impl_AreLoci.f k l0).bind fun t188 => (if t188 = true then (impl_AmbiguousAngles.l0 k l0 ([] : List Int) (-90)) else (some (([] : List Int), false)))
theorem impl_AmbiguousAngles.mono_l : ∀ k, (∀ y0 y1 y2, LeO (impl_AmbiguousAngles.l0 k y0 y1 y2) (impl_AmbiguousAngles.l0 (k + 1) y0 y1 y2))
  | 0 => fun _ _ _ r h => by simp [impl_AmbiguousAngles.l0] at h
  | k + 1 => by
    have ih0 := impl_AmbiguousAngles.mono_l k
    · intro y0 y1 y2
      unfold impl_AmbiguousAngles.l0
      repeat' first
      | (with_reducible exact ih0 _ _ _)
      | (with_reducible exact impl_AreLoci.mono _ _)
      | (with_reducible exact impl_nearestLoci.mono _ _ _)
      | (with_reducible exact LeO.refl _)
      | (with_reducible exact LeO.none _)
      | (with_reducible refine LeO.ite ?_ ?_)
      | (with_reducible refine LeO.bind ?_ (fun _ => ?_))
      | exact ih0 _ _ _
      | exact impl_AreLoci.mono _ _
      | exact impl_nearestLoci.mono _ _ _
      | exact LeO.none _
      | refine LeO.ite ?_ ?_
      | refine LeO.bind ?_ (fun _ => ?_)
theorem impl_AmbiguousAngles.mono : ∀ a0 k, LeO (impl_AmbiguousAngles.f k a0) (impl_AmbiguousAngles.f (k + 1) a0) := by
  intro a0 k
  have ih0 := impl_AmbiguousAngles.mono_l k
  unfold impl_AmbiguousAngles.f
  repeat' first
      | (with_reducible exact ih0 _ _ _)
      | (with_reducible exact impl_AreLoci.mono _ _)
      | (with_reducible exact impl_nearestLoci.mono _ _ _)
      | (with_reducible exact LeO.refl _)
      | (with_reducible exact LeO.none _)
      | (with_reducible refine LeO.ite ?_ ?_)
      | (with_reducible refine LeO.bind ?_ (fun _ => ?_))
      | exact ih0 _ _ _
      | exact impl_AreLoci.mono _ _
      | exact impl_nearestLoci.mono _ _ _
      | exact LeO.none _
      | refine LeO.ite ?_ ?_
      | refine LeO.bind ?_ (fun _ => ?_)
noncomputable def impl_AmbiguousAngles.L0 (x0 : List (S82)) (x4 : List Int) (x5 : Int) : Option (List Int × Bool) := lim fun k => impl_AmbiguousAngles.l0 k x0 x4 x5
theorem impl_AmbiguousAngles.L0_lim (x0 : List (S82)) (x4 : List Int) (x5 : Int) : Lim (fun k => impl_AmbiguousAngles.l0 k x0 x4 x5) (impl_AmbiguousAngles.L0 x0 x4 x5) := ⟨fun k => (impl_AmbiguousAngles.mono_l k) x0 x4 x5, rfl⟩
noncomputable def impl_AmbiguousAngles.F (l0 : List (S82)) : Option (List Int × Bool) := lim fun k => impl_AmbiguousAngles.f k l0
theorem impl_AmbiguousAngles.F_lim (l0 : List (S82)) : Lim (fun k => impl_AmbiguousAngles.f k l0) (impl_AmbiguousAngles.F l0) := ⟨impl_AmbiguousAngles.mono l0, rfl⟩
theorem impl_AmbiguousAngles.L0_eq (x0 : List (S82)) (x4 : List Int) (x5 : Int) : impl_AmbiguousAngles.L0 x0 x4 x5 = (if x5 ≤ 90 then ((impl_nearestLoci.F x0 x5).bind fun bt189 => (if bt189.1 ≤ 20 then (if (bt189.2.length : Int) = 2 then (if x4.length < 17592186044416 then (impl_AmbiguousAngles.L0 x0 (x4 ++ [x5]) (wrap64 (x5 + 1))) else (none)) else (impl_AmbiguousAngles.L0 x0 x4 (wrap64 (x5 + 1)))) else (impl_AmbiguousAngles.L0 x0 x4 (wrap64 (x5 + 1))))) else (some (x4, true))) := by
  refine Lim.succ_eq (impl_AmbiguousAngles.L0_lim x0 x4 x5).mon ?_
  simp only [impl_AmbiguousAngles.l0]
  repeat' first
  | (with_reducible exact impl_AmbiguousAngles.L0_lim _ _ _)
  | (with_reducible exact impl_AreLoci.F_lim _)
  | (with_reducible exact impl_nearestLoci.F_lim _ _)
  | (with_reducible refine Lim.ite ?_ ?_)
  | (with_reducible refine Lim.bind ?_ (fun _ => ?_))
  | (with_reducible exact Lim.const _)
theorem impl_AmbiguousAngles.F_eq (l0 : List (S82)) : impl_AmbiguousAngles.F l0 = ((impl_AreLoci.F l0).bind fun t188 => (if t188 = true then (impl_AmbiguousAngles.L0 l0 ([] : List Int) (-90)) else (some (([] : List Int), false)))) := by
  refine Lim.eq_ ?_
  simp only [impl_AmbiguousAngles.f]
  repeat' first
  | (with_reducible exact impl_AmbiguousAngles.L0_lim _ _ _)
  | (with_reducible exact impl_AreLoci.F_lim _)
  | (with_reducible exact impl_nearestLoci.F_lim _ _)
  | (with_reducible refine Lim.ite ?_ ?_)
  | (with_reducible refine Lim.bind ?_ (fun _ => ?_))
  | (with_reducible exact Lim.const _)
def laws_eqIntS.l0 : Nat → List Int → List Int → Int → Option (Bool)
  | 0, _, _, _ => none
  | k + 1, x0, x1, x5 => if x5 < (x0.length : Int) then (if 0 ≤ x5 then (if x5 < (x1.length : Int) then (if (rd x0 x5) = (rd x1 x5) then (laws_eqIntS.l0 k x0 x1 (wrap64 (x5 + 1))) else (some false)) else (none)) else (none)) else (some true)
def laws_eqIntS.f (k : Nat) (l0 : List Int) (l1 : List Int) : Option (Bool) := if (l0.length : Int) = (l1.length : Int) then (laws_eqIntS.l0 k l0 l1 0) else (some false)
theorem laws_eqIntS.mono_l : ∀ k, (∀ y0 y1 y2, LeO (laws_eqIntS.l0 k y0 y1 y2) (laws_eqIntS.l0 (k + 1) y0 y1 y2))
  | 0 => fun _ _ _ r h => by simp [laws_eqIntS.l0] at h
  | k + 1 => by
    have ih0 := laws_eqIntS.mono_l k
    · intro y0 y1 y2
      unfold laws_eqIntS.l0
      repeat' first
      | (with_reducible exact ih0 _ _ _)
      | (with_reducible exact LeO.refl _)
      | (with_reducible exact LeO.none _)
      | (with_reducible refine LeO.ite ?_ ?_)
      | (with_reducible refine LeO.bind ?_ (fun _ => ?_))
      | exact ih0 _ _ _
      | exact LeO.none _
      | refine LeO.ite ?_ ?_
      | refine LeO.bind ?_ (fun _ => ?_)
theorem laws_eqIntS.mono : ∀ a0 a1 k, LeO (laws_eqIntS.f k a0 a1) (laws_eqIntS.f (k + 1) a0 a1) := by
  intro a0 a1 k
  have ih0 := laws_eqIntS.mono_l k
  unfold laws_eqIntS.f
  repeat' first
      | (with_reducible exact ih0 _ _ _)
      | (with_reducible exact LeO.refl _)
      | (with_reducible exact LeO.none _)
      | (with_reducible refine LeO.ite ?_ ?_)
      | (with_reducible refine LeO.bind ?_ (fun _ => ?_))
      | exact ih0 _ _ _
      | exact LeO.none _
      | refine LeO.ite ?_ ?_
      | refine LeO.bind ?_ (fun _ => ?_)
noncomputable def laws_eqIntS.L0 (x0 : List Int) (x1 : List Int) (x5 : Int) : Option (Bool) := lim fun k => laws_eqIntS.l0 k x0 x1 x5
theorem laws_eqIntS.L0_lim (x0 : List Int) (x1 : List Int) (x5 : Int) : Lim (fun k => laws_eqIntS.l0 k x0 x1 x5) (laws_eqIntS.L0 x0 x1 x5) := ⟨fun k => (laws_eqIntS.mono_l k) x0 x1 x5, rfl⟩
noncomputable def laws_eqIntS.F (l0 : List Int) (l1 : List Int) : Option (Bool) := lim fun k => laws_eqIntS.f k l0 l1
theorem laws_eqIntS.F_lim (l0 : List Int) (l1 : List Int) : Lim (fun k => laws_eqIntS.f k l0 l1) (laws_eqIntS.F l0 l1) := ⟨laws_eqIntS.mono l0 l1, rfl⟩
theorem laws_eqIntS.L0_eq (x0 : List Int) (x1 : List Int) (x5 : Int) : laws_eqIntS.L0 x0 x1 x5 = (if x5 < (x0.length : Int) then (if 0 ≤ x5 then (if x5 < (x1.length : Int) then (if (rd x0 x5) = (rd x1 x5) then (laws_eqIntS.L0 x0 x1 (wrap64 (x5 + 1))) else (some false)) else (none)) else (none)) else (some true)) := by
  refine Lim.succ_eq (laws_eqIntS.L0_lim x0 x1 x5).mon ?_
  simp only [laws_eqIntS.l0]
  repeat' first
  | (with_reducible exact laws_eqIntS.L0_lim _ _ _)
  | (with_reducible refine Lim.ite ?_ ?_)
  | (with_reducible refine Lim.bind ?_ (fun _ => ?_))
  | (with_reducible exact Lim.const _)
theorem laws_eqIntS.F_eq (l0 : List Int) (l1 : List Int) : laws_eqIntS.F l0 l1 = (if (l0.length : Int) = (l1.length : Int) then (laws_eqIntS.L0 l0 l1 0) else (some false)) := by
  refine Lim.eq_ ?_
  simp only [laws_eqIntS.f]
  repeat' first
  | (with_reducible exact laws_eqIntS.L0_lim _ _ _)
  | (with_reducible refine Lim.ite ?_ ?_)
  | (with_reducible refine Lim.bind ?_ (fun _ => ?_))
  | (with_reducible exact Lim.const _)
def laws_markIntS.l0 : Nat → List Int → Int → Int → Option (Int × List Int)
  | 0, _, _, _ => none
  | k + 1, x0, x1, x5 => if x5 < (x0.length : Int) then (if 0 ≤ x5 then (laws_markIntS.l0 k (x0.set (x5 : Int).toNat x1) (wrap64 (x1 + 1)) (wrap64 (x5 + 1))) else (none)) else (some (x1, x0))
def laws_markIntS.f (k : Nat) (l0 : List Int) (a1 : Int) : Option (Int × List Int) := laws_markIntS.l0 k l0 a1 0
theorem laws_markIntS.mono_l : ∀ k, (∀ y0 y1 y2, LeO (laws_markIntS.l0 k y0 y1 y2) (laws_markIntS.l0 (k + 1) y0 y1 y2))
  | 0 => fun _ _ _ r h => by simp [laws_markIntS.l0] at h
  | k + 1 => by
    have ih0 := laws_markIntS.mono_l k
    · intro y0 y1 y2
      unfold laws_markIntS.l0
      repeat' first
      | (with_reducible exact ih0 _ _ _)
      | (with_reducible exact LeO.refl _)
      | (with_reducible exact LeO.none _)
      | (with_reducible refine LeO.ite ?_ ?_)
      | (with_reducible refine LeO.bind ?_ (fun _ => ?_))
      | exact ih0 _ _ _
      | exact LeO.none _
      | refine LeO.ite ?_ ?_
      | refine LeO.bind ?_ (fun _ => ?_)
theorem laws_markIntS.mono : ∀ a0 a1 k, LeO (laws_markIntS.f k a0 a1) (laws_markIntS.f (k + 1) a0 a1) := by
  intro a0 a1 k
  have ih0 := laws_markIntS.mono_l k
  unfold laws_markIntS.f
  repeat' first
      | (with_reducible exact ih0 _ _ _)
      | (with_reducible exact LeO.refl _)
      | (with_reducible exact LeO.none _)
      | (with_reducible refine LeO.ite ?_ ?_)
      | (with_reducible refine LeO.bind ?_ (fun _ => ?_))
      | exact ih0 _ _ _
      | exact LeO.none _
      | refine LeO.ite ?_ ?_
      | refine LeO.bind ?_ (fun _ => ?_)
noncomputable def laws_markIntS.L0 (x0 : List Int) (x1 : Int) (x5 : Int) : Option (Int × List Int) := lim fun k => laws_markIntS.l0 k x0 x1 x5
theorem laws_markIntS.L0_lim (x0 : List Int) (x1 : Int) (x5 : Int) : Lim (fun k => laws_markIntS.l0 k x0 x1 x5) (laws_markIntS.L0 x0 x1 x5) := ⟨fun k => (laws_markIntS.mono_l k) x0 x1 x5, rfl⟩
noncomputable def laws_markIntS.F (l0 : List Int) (a1 : Int) : Option (Int × List Int) := lim fun k => laws_markIntS.f k l0 a1
theorem laws_markIntS.F_lim (l0 : List Int) (a1 : Int) : Lim (fun k => laws_markIntS.f k l0 a1) (laws_markIntS.F l0 a1) := ⟨laws_markIntS.mono l0 a1, rfl⟩
theorem laws_markIntS.L0_eq (x0 : List Int) (x1 : Int) (x5 : Int) : laws_markIntS.L0 x0 x1 x5 = (if x5 < (x0.length : Int) then (if 0 ≤ x5 then (laws_markIntS.L0 (x0.set (x5 : Int).toNat x1) (wrap64 (x1 + 1)) (wrap64 (x5 + 1))) else (none)) else (some (x1, x0))) := by
  refine Lim.succ_eq (laws_markIntS.L0_lim x0 x1 x5).mon ?_
  simp only [laws_markIntS.l0]
  repeat' first
  | (with_reducible exact laws_markIntS.L0_lim _ _ _)
  | (with_reducible refine Lim.ite ?_ ?_)
  | (with_reducible refine Lim.bind ?_ (fun _ => ?_))
  | (with_reducible exact Lim.const _)
theorem laws_markIntS.F_eq (l0 : List Int) (a1 : Int) : laws_markIntS.F l0 a1 = (laws_markIntS.L0 l0 a1 0) := by
  refine Lim.eq_ ?_
  simp only [laws_markIntS.f]
  repeat' first
  | (with_reducible exact laws_markIntS.L0_lim _ _ _)
  | (with_reducible refine Lim.ite ?_ ?_)
  | (with_reducible refine Lim.bind ?_ (fun _ => ?_))
  | (with_reducible exact Lim.const _)
def laws_heldIntS.l0 : Nat → List Int → Int → Int → Option (Int)
  | 0, _, _, _ => none
  | k + 1, x0, x1, x5 => if x5 < (x0.length : Int) then (if 0 ≤ x5 then (if (rd x0 x5) = x1 then (laws_heldIntS.l0 k x0 (wrap64 (x1 + 1)) (wrap64 (x5 + 1))) else (some (-1))) else (none)) else (some x1)
def laws_heldIntS.f (k : Nat) (l0 : List Int) (a1 : Int) : Option (Int) := laws_heldIntS.l0 k l0 a1 0
theorem laws_heldIntS.mono_l : ∀ k, (∀ y0 y1 y2, LeO (laws_heldIntS.l0 k y0 y1 y2) (laws_heldIntS.l0 (k + 1) y0 y1 y2))
  | 0 => fun _ _ _ r h => by simp [laws_heldIntS.l0] at h
  | k + 1 => by
    have ih0 := laws_heldIntS.mono_l k
    · intro y0 y1 y2
      unfold laws_heldIntS.l0
      repeat' first
      | (with_reducible exact ih0 _ _ _)
      | (with_reducible exact LeO.refl _)
      | (with_reducible exact LeO.none _)
      | (with_reducible refine LeO.ite ?_ ?_)
      | (with_reducible refine LeO.bind ?_ (fun _ => ?_))
      | exact ih0 _ _ _
      | exact LeO.none _
      | refine LeO.ite ?_ ?_
      | refine LeO.bind ?_ (fun _ => ?_)
theorem laws_heldIntS.mono : ∀ a0 a1 k, LeO (laws_heldIntS.f k a0 a1) (laws_heldIntS.f (k + 1) a0 a1) := by
  intro a0 a1 k
  have ih0 := laws_heldIntS.mono_l k
  unfold laws_heldIntS.f
  repeat' first
      | (with_reducible exact ih0 _ _ _)
      | (with_reducible exact LeO.refl _)
      | (with_reducible exact LeO.none _)
      | (with_reducible refine LeO.ite ?_ ?_)
      | (with_reducible refine LeO.bind ?_ (fun _ => ?_))
      | exact ih0 _ _ _
      | exact LeO.none _
      | refine LeO.ite ?_ ?_
      | refine LeO.bind ?_ (fun _ => ?_)
noncomputable def laws_heldIntS.L0 (x0 : List Int) (x1 : Int) (x5 : Int) : Option (Int) := lim fun k => laws_heldIntS.l0 k x0 x1 x5
theorem laws_heldIntS.L0_lim (x0 : List Int) (x1 : Int) (x5 : Int) : Lim (fun k => laws_heldIntS.l0 k x0 x1 x5) (laws_heldIntS.L0 x0 x1 x5) := ⟨fun k => (laws_heldIntS.mono_l k) x0 x1 x5, rfl⟩
noncomputable def laws_heldIntS.F (l0 : List Int) (a1 : Int) : Option (Int) := lim fun k => laws_heldIntS.f k l0 a1
theorem laws_heldIntS.F_lim (l0 : List Int) (a1 : Int) : Lim (fun k => laws_heldIntS.f k l0 a1) (laws_heldIntS.F l0 a1) := ⟨laws_heldIntS.mono l0 a1, rfl⟩
theorem laws_heldIntS.L0_eq (x0 : List Int) (x1 : Int) (x5 : Int) : laws_heldIntS.L0 x0 x1 x5 = (if x5 < (x0.length : Int) then (if 0 ≤ x5 then (if (rd x0 x5) = x1 then (laws_heldIntS.L0 x0 (wrap64 (x1 + 1)) (wrap64 (x5 + 1))) else (some (-1))) else (none)) else (some x1)) := by
  refine Lim.succ_eq (laws_heldIntS.L0_lim x0 x1 x5).mon ?_
  simp only [laws_heldIntS.l0]
  repeat' first
  | (with_reducible exact laws_heldIntS.L0_lim _ _ _)
  | (with_reducible refine Lim.ite ?_ ?_)
  | (with_reducible refine Lim.bind ?_ (fun _ => ?_))
  | (with_reducible exact Lim.const _)
theorem laws_heldIntS.F_eq (l0 : List Int) (a1 : Int) : laws_heldIntS.F l0 a1 = (laws_heldIntS.L0 l0 a1 0) := by
  refine Lim.eq_ ?_
  simp only [laws_heldIntS.f]
  repeat' first
  | (with_reducible exact laws_heldIntS.L0_lim _ _ _)
  | (with_reducible refine Lim.ite ?_ ?_)
  | (with_reducible refine Lim.bind ?_ (fun _ => ?_))
  | (with_reducible exact Lim.const _)
mutual
def laws_FnExactAmbiguousAngles.j0 : Nat → List (S78) → List Int → Bool → List (S82) → List Int → Bool → Bool → Option (Bool)
  | 0, _, _, _, _, _, _, _ => none
  | k + 1, x0, x4, x5, x6, x7, x8, x40 => if x40 = true then (some false) else ((laws_toLocusS.f k x0).bind fun t216 => ((laws_eqLocusS.f k x6 t216).bind fun t219 => (if t219 = true then ((laws_markLocusS.f k x6 1).bind fun bt220 => (if bt220.1 < 0 then (laws_FnExactAmbiguousAngles.j1 k x0 x4 x5 x7 true) else ((laws_eqIntS.f k x7 x4).bind fun t222 => (if t222 = true then (laws_FnExactAmbiguousAngles.j1 k x0 x4 x5 x7 (x8 != x5)) else (laws_FnExactAmbiguousAngles.j1 k x0 x4 x5 x7 true))))) else (some false))))
def laws_FnExactAmbiguousAngles.j1 : Nat → List (S78) → List Int → Bool → List Int → Bool → Option (Bool)
  | 0, _, _, _, _, _ => none
  | k + 1, x0, x4, x5, x7, x61 => if x61 = true then (some false) else ((laws_markIntS.f k x7 1).bind fun bt223 => ((laws_heldIntS.f k bt223.2 1).bind fun t225 => (if t225 < 0 then (some false) else (if t225 = bt223.1 then ((laws_toLocusS.f k x0).bind fun t226 => ((impl_AmbiguousAngles.f k t226).bind fun bt229 => ((laws_eqIntS.f k bt229.1 x4).bind fun t233 => (if t233 = true then (laws_FnExactAmbiguousAngles.j2 k bt223.2 bt223.1 (bt229.2 != x5)) else (laws_FnExactAmbiguousAngles.j2 k bt223.2 bt223.1 true))))) else (some false)))))
def laws_FnExactAmbiguousAngles.j2 : Nat → List Int → Int → Bool → Option (Bool)
  | 0, _, _, _ => none
  | k + 1, x7, x10, x87 => if x87 = true then (some false) else ((laws_heldIntS.f k x7 1).bind fun t234 => (if t234 < 0 then (some false) else (if t234 = x10 then (some true) else (some false))))
end
def laws_FnExactAmbiguousAngles.f (k : Nat) (l0 : List (S78)) : Option (Bool) := (laws_szLocusS.f k l0 1048576).bind fun t200 => (if t200 < 0 then (some true) else ((laws_toLocusS.f k l0).bind fun t201 => ((spec_AmbiguousAngles.f k t201).bind fun bt204 => ((laws_toLocusS.f k l0).bind fun t208 => ((impl_AmbiguousAngles.f k t208).bind fun bt211 => ((laws_eqIntS.f k bt211.1 bt204.1).bind fun t215 => (if t215 = true then (laws_FnExactAmbiguousAngles.j0 k l0 bt204.1 bt204.2 t208 bt211.1 bt211.2 (bt211.2 != bt204.2)) else (laws_FnExactAmbiguousAngles.j0 k l0 bt204.1 bt204.2 t208 bt211.1 bt211.2 true))))))))
theorem laws_FnExactAmbiguousAngles.mono_l : ∀ k, (∀ y0 y1 y2 y3 y4 y5 y6, LeO (laws_FnExactAmbiguousAngles.j0 k y0 y1 y2 y3 y4 y5 y6) (laws_FnExactAmbiguousAngles.j0 (k + 1) y0 y1 y2 y3 y4 y5 y6)) ∧ (∀ y0 y1 y2 y3 y4, LeO (laws_FnExactAmbiguousAngles.j1 k y0 y1 y2 y3 y4) (laws_FnExactAmbiguousAngles.j1 (k + 1) y0 y1 y2 y3 y4)) ∧ (∀ y0 y1 y2, LeO (laws_FnExactAmbiguousAngles.j2 k y0 y1 y2) (laws_FnExactAmbiguousAngles.j2 (k + 1) y0 y1 y2))
  | 0 => ⟨fun _ _ _ _ _ _ _ r h => by simp [laws_FnExactAmbiguousAngles.j0] at h, fun _ _ _ _ _ r h => by simp [laws_FnExactAmbiguousAngles.j1] at h, fun _ _ _ r h => by simp [laws_FnExactAmbiguousAngles.j2] at h⟩
  | k + 1 => by
    obtain ⟨ih0, ih1, ih2⟩ := laws_FnExactAmbiguousAngles.mono_l k
    refine ⟨?_, ?_, ?_⟩
    · intro y0 y1 y2 y3 y4 y5 y6
      unfold laws_FnExactAmbiguousAngles.j0
      repeat' first
      | (with_reducible exact ih0 _ _ _ _ _ _ _)
      | (with_reducible exact ih1 _ _ _ _ _)
      | (with_reducible exact ih2 _ _ _)
      | (with_reducible exact impl_AmbiguousAngles.mono _ _)
      | (with_reducible exact laws_eqIntS.mono _ _ _)
      | (with_reducible exact laws_eqLocusS.mono _ _ _)
      | (with_reducible exact laws_heldIntS.mono _ _ _)
      | (with_reducible exact laws_markIntS.mono _ _ _)
      | (with_reducible exact laws_markLocusS.mono _ _ _)
      | (with_reducible exact laws_szLocusS.mono _ _ _)
      | (with_reducible exact laws_toLocusS.mono _ _)
      | (with_reducible exact spec_AmbiguousAngles.mono _ _)
      | (with_reducible exact LeO.refl _)
      | (with_reducible exact LeO.none _)
      | (with_reducible refine LeO.ite ?_ ?_)
      | (with_reducible refine LeO.bind ?_ (fun _ => ?_))
      | exact ih0 _ _ _ _ _ _ _
      | exact ih1 _ _ _ _ _
      | exact ih2 _ _ _
      | exact impl_AmbiguousAngles.mono _ _
      | exact laws_eqIntS.mono _ _ _
      | exact laws_eqLocusS.mono _ _ _
      | exact laws_heldIntS.mono _ _ _
      | exact laws_markIntS.mono _ _ _
      | exact laws_markLocusS.mono _ _ _
      | exact laws_szLocusS.mono _ _ _
      | exact laws_toLocusS.mono _ _
      | exact spec_AmbiguousAngles.mono _ _
      | exact LeO.none _
      | refine LeO.ite ?_ ?_
      | refine LeO.bind ?_ (fun _ => ?_)
    · intro y0 y1 y2 y3 y4
      unfold laws_FnExactAmbiguousAngles.j1
      repeat' first
      | (with_reducible exact ih0 _ _ _ _ _ _ _)
      | (with_reducible exact ih1 _ _ _ _ _)
      | (with_reducible exact ih2 _ _ _)
      | (with_reducible exact impl_AmbiguousAngles.mono _ _)
      | (with_reducible exact laws_eqIntS.mono _ _ _)
      | (with_reducible exact laws_eqLocusS.mono _ _ _)
      | (with_reducible exact laws_heldIntS.mono _ _ _)
      | (with_reducible exact laws_markIntS.mono _ _ _)
      | (with_reducible exact laws_markLocusS.mono _ _ _)
      | (with_reducible exact laws_szLocusS.mono _ _ _)
      | (with_reducible exact laws_toLocusS.mono _ _)
      | (with_reducible exact spec_AmbiguousAngles.mono _ _)
      | (with_reducible exact LeO.refl _)
      | (with_reducible exact LeO.none _)
      | (with_reducible refine LeO.ite ?_ ?_)
      | (with_reducible refine LeO.bind ?_ (fun _ => ?_))
      | exact ih0 _ _ _ _ _ _ _
      | exact ih1 _ _ _ _ _
      | exact ih2 _ _ _
      | exact impl_AmbiguousAngles.mono _ _
      | exact laws_eqIntS.mono _ _ _
      | exact laws_eqLocusS.mono _ _ _
      | exact laws_heldIntS.mono _ _ _
      | exact laws_markIntS.mono _ _ _
      | exact laws_markLocusS.mono _ _ _
      | exact laws_szLocusS.mono _ _ _
      | exact laws_toLocusS.mono _ _
      | exact spec_AmbiguousAngles.mono _ _
      | exact LeO.none _
      | refine LeO.ite ?_ ?_
      | refine LeO.bind ?_ (fun _ => ?_)
    · intro y0 y1 y2
      unfold laws_FnExactAmbiguousAngles.j2
      repeat' first
      | (with_reducible exact ih0 _ _ _ _ _ _ _)
      | (with_reducible exact ih1 _ _ _ _ _)
      | (with_reducible exact ih2 _ _ _)
      | (with_reducible exact impl_AmbiguousAngles.mono _ _)
      | (with_reducible exact laws_eqIntS.mono _ _ _)
      | (with_reducible exact laws_eqLocusS.mono _ _ _)
      | (with_reducible exact laws_heldIntS.mono _ _ _)
      | (with_reducible exact laws_markIntS.mono _ _ _)
      | (with_reducible exact laws_markLocusS.mono _ _ _)
      | (with_reducible exact laws_szLocusS.mono _ _ _)
      | (with_reducible exact laws_toLocusS.mono _ _)
      | (with_reducible exact spec_AmbiguousAngles.mono _ _)
      | (with_reducible exact LeO.refl _)
      | (with_reducible exact LeO.none _)
      | (with_reducible refine LeO.ite ?_ ?_)
      | (with_reducible refine LeO.bind ?_ (fun _ => ?_))
      | exact ih0 _ _ _ _ _ _ _
      | exact ih1 _ _ _ _ _
      | exact ih2 _ _ _
      | exact impl_AmbiguousAngles.mono _ _
      | exact laws_eqIntS.mono _ _ _
      | exact laws_eqLocusS.mono _ _ _
      | exact laws_heldIntS.mono _ _ _
      | exact laws_markIntS.mono _ _ _
      | exact laws_markLocusS.mono _ _ _
      | exact laws_szLocusS.mono _ _ _
      | exact laws_toLocusS.mono _ _
      | exact spec_AmbiguousAngles.mono _ _
      | exact LeO.none _
      | refine LeO.ite ?_ ?_
      | refine LeO.bind ?_ (fun _ => ?_)
theorem laws_FnExactAmbiguousAngles.mono : ∀ a0 k, LeO (laws_FnExactAmbiguousAngles.f k a0) (laws_FnExactAmbiguousAngles.f (k + 1) a0) := by
  intro a0 k
  obtain ⟨ih0, ih1, ih2⟩ := laws_FnExactAmbiguousAngles.mono_l k
  unfold laws_FnExactAmbiguousAngles.f
  repeat' first
      | (with_reducible exact ih0 _ _ _ _ _ _ _)
      | (with_reducible exact ih1 _ _ _ _ _)
      | (with_reducible exact ih2 _ _ _)
      | (with_reducible exact impl_AmbiguousAngles.mono _ _)
      | (with_reducible exact laws_eqIntS.mono _ _ _)
      | (with_reducible exact laws_eqLocusS.mono _ _ _)
      | (with_reducible exact laws_heldIntS.mono _ _ _)
      | (with_reducible exact laws_markIntS.mono _ _ _)
      | (with_reducible exact laws_markLocusS.mono _ _ _)
      | (with_reducible exact laws_szLocusS.mono _ _ _)
      | (with_reducible exact laws_toLocusS.mono _ _)
      | (with_reducible exact spec_AmbiguousAngles.mono _ _)
      | (with_reducible exact LeO.refl _)
      | (with_reducible exact LeO.none _)
      | (with_reducible refine LeO.ite ?_ ?_)
      | (with_reducible refine LeO.bind ?_ (fun _ => ?_))
      | exact ih0 _ _ _ _ _ _ _
      | exact ih1 _ _ _ _ _
      | exact ih2 _ _ _
      | exact impl_AmbiguousAngles.mono _ _
      | exact laws_eqIntS.mono _ _ _
      | exact laws_eqLocusS.mono _ _ _
      | exact laws_heldIntS.mono _ _ _
      | exact laws_markIntS.mono _ _ _
      | exact laws_markLocusS.mono _ _ _
      | exact laws_szLocusS.mono _ _ _
      | exact laws_toLocusS.mono _ _
      | exact spec_AmbiguousAngles.mono _ _
      | exact LeO.none _
      | refine LeO.ite ?_ ?_
      | refine LeO.bind ?_ (fun _ => ?_)
noncomputable def laws_FnExactAmbiguousAngles.J0 (x0 : List (S78)) (x4 : List Int) (x5 : Bool) (x6 : List (S82)) (x7 : List Int) (x8 : Bool) (x40 : Bool) : Option (Bool) := lim fun k => laws_FnExactAmbiguousAngles.j0 k x0 x4 x5 x6 x7 x8 x40
theorem laws_FnExactAmbiguousAngles.J0_lim (x0 : List (S78)) (x4 : List Int) (x5 : Bool) (x6 : List (S82)) (x7 : List Int) (x8 : Bool) (x40 : Bool) : Lim (fun k => laws_FnExactAmbiguousAngles.j0 k x0 x4 x5 x6 x7 x8 x40) (laws_FnExactAmbiguousAngles.J0 x0 x4 x5 x6 x7 x8 x40) := ⟨fun k => (laws_FnExactAmbiguousAngles.mono_l k).1 x0 x4 x5 x6 x7 x8 x40, rfl⟩
noncomputable def laws_FnExactAmbiguousAngles.J1 (x0 : List (S78)) (x4 : List Int) (x5 : Bool) (x7 : List Int) (x61 : Bool) : Option (Bool) := lim fun k => laws_FnExactAmbiguousAngles.j1 k x0 x4 x5 x7 x61
theorem laws_FnExactAmbiguousAngles.J1_lim (x0 : List (S78)) (x4 : List Int) (x5 : Bool) (x7 : List Int) (x61 : Bool) : Lim (fun k => laws_FnExactAmbiguousAngles.j1 k x0 x4 x5 x7 x61) (laws_FnExactAmbiguousAngles.J1 x0 x4 x5 x7 x61) := ⟨fun k => (laws_FnExactAmbiguousAngles.mono_l k).2.1 x0 x4 x5 x7 x61, rfl⟩
noncomputable def laws_FnExactAmbiguousAngles.J2 (x7 : List Int) (x10 : Int) (x87 : Bool) : Option (Bool) := lim fun k => laws_FnExactAmbiguousAngles.j2 k x7 x10 x87
theorem laws_FnExactAmbiguousAngles.J2_lim (x7 : List Int) (x10 : Int) (x87 : Bool) : Lim (fun k => laws_FnExactAmbiguousAngles.j2 k x7 x10 x87) (laws_FnExactAmbiguousAngles.J2 x7 x10 x87) := ⟨fun k => (laws_FnExactAmbiguousAngles.mono_l k).2.2 x7 x10 x87, rfl⟩
noncomputable def laws_FnExactAmbiguousAngles.F (l0 : List (S78)) : Option (Bool) := lim fun k => laws_FnExactAmbiguousAngles.f k l0
theorem laws_FnExactAmbiguousAngles.F_lim (l0 : List (S78)) : Lim (fun k => laws_FnExactAmbiguousAngles.f k l0) (laws_FnExactAmbiguousAngles.F l0) := ⟨laws_FnExactAmbiguousAngles.mono l0, rfl⟩
theorem laws_FnExactAmbiguousAngles.J0_eq (x0 : List (S78)) (x4 : List Int) (x5 : Bool) (x6 : List (S82)) (x7 : List Int) (x8 : Bool) (x40 : Bool) : laws_FnExactAmbiguousAngles.J0 x0 x4 x5 x6 x7 x8 x40 = (if x40 = true then (some false) else ((laws_toLocusS.F x0).bind fun t216 => ((laws_eqLocusS.F x6 t216).bind fun t219 => (if t219 = true then ((laws_markLocusS.F x6 1).bind fun bt220 => (if bt220.1 < 0 then (laws_FnExactAmbiguousAngles.J1 x0 x4 x5 x7 true) else ((laws_eqIntS.F x7 x4).bind fun t222 => (if t222 = true then (laws_FnExactAmbiguousAngles.J1 x0 x4 x5 x7 (x8 != x5)) else (laws_FnExactAmbiguousAngles.J1 x0 x4 x5 x7 true))))) else (some false))))) := by
  refine Lim.succ_eq (laws_FnExactAmbiguousAngles.J0_lim x0 x4 x5 x6 x7 x8 x40).mon ?_
  simp only [laws_FnExactAmbiguousAngles.j0]
  repeat' first
  | (with_reducible exact laws_FnExactAmbiguousAngles.J0_lim _ _ _ _ _ _ _)
  | (with_reducible exact laws_FnExactAmbiguousAngles.J1_lim _ _ _ _ _)
  | (with_reducible exact laws_FnExactAmbiguousAngles.J2_lim _ _ _)
  | (with_reducible exact impl_AmbiguousAngles.F_lim _)
  | (with_reducible exact laws_eqIntS.F_lim _ _)
  | (with_reducible exact laws_eqLocusS.F_lim _ _)
  | (with_reducible exact laws_heldIntS.F_lim _ _)
  | (with_reducible exact laws_markIntS.F_lim _ _)
  | (with_reducible exact laws_markLocusS.F_lim _ _)
  | (with_reducible exact laws_szLocusS.F_lim _ _)
  | (with_reducible exact laws_toLocusS.F_lim _)
  | (with_reducible exact spec_AmbiguousAngles.F_lim _)
  | (with_reducible refine Lim.ite ?_ ?_)
  | (with_reducible refine Lim.bind ?_ (fun _ => ?_))
  | (with_reducible exact Lim.const _)
theorem laws_FnExactAmbiguousAngles.J1_eq (x0 : List (S78)) (x4 : List Int) (x5 : Bool) (x7 : List Int) (x61 : Bool) : laws_FnExactAmbiguousAngles.J1 x0 x4 x5 x7 x61 = (if x61 = true then (some false) else ((laws_markIntS.F x7 1).bind fun bt223 => ((laws_heldIntS.F bt223.2 1).bind fun t225 => (if t225 < 0 then (some false) else (if t225 = bt223.1 then ((laws_toLocusS.F x0).bind fun t226 => ((impl_AmbiguousAngles.F t226).bind fun bt229 => ((laws_eqIntS.F bt229.1 x4).bind fun t233 => (if t233 = true then (laws_FnExactAmbiguousAngles.J2 bt223.2 bt223.1 (bt229.2 != x5)) else (laws_FnExactAmbiguousAngles.J2 bt223.2 bt223.1 true))))) else (some false)))))) := by
  refine Lim.succ_eq (laws_FnExactAmbiguousAngles.J1_lim x0 x4 x5 x7 x61).mon ?_
  simp only [laws_FnExactAmbiguousAngles.j1]
  repeat' first
  | (with_reducible exact laws_FnExactAmbiguousAngles.J0_lim _ _ _ _ _ _ _)
  | (with_reducible exact laws_FnExactAmbiguousAngles.J1_lim _ _ _ _ _)
  | (with_reducible exact laws_FnExactAmbiguousAngles.J2_lim _ _ _)
  | (with_reducible exact impl_AmbiguousAngles.F_lim _)
  | (with_reducible exact laws_eqIntS.F_lim _ _)
  | (with_reducible exact laws_eqLocusS.F_lim _ _)
  | (with_reducible exact laws_heldIntS.F_lim _ _)
  | (with_reducible exact laws_markIntS.F_lim _ _)
  | (with_reducible exact laws_markLocusS.F_lim _ _)
  | (with_reducible exact laws_szLocusS.F_lim _ _)
  | (with_reducible exact laws_toLocusS.F_lim _)
  | (with_reducible exact spec_AmbiguousAngles.F_lim _)
  | (with_reducible refine Lim.ite ?_ ?_)
  | (with_reducible refine Lim.bind ?_ (fun _ => ?_))
  | (with_reducible exact Lim.const _)
theorem laws_FnExactAmbiguousAngles.J2_eq (x7 : List Int) (x10 : Int) (x87 : Bool) : laws_FnExactAmbiguousAngles.J2 x7 x10 x87 = (if x87 = true then (some false) else ((laws_heldIntS.F x7 1).bind fun t234 => (if t234 < 0 then (some false) else (if t234 = x10 then (some true) else (some false))))) := by
  refine Lim.succ_eq (laws_FnExactAmbiguousAngles.J2_lim x7 x10 x87).mon ?_
  simp only [laws_FnExactAmbiguousAngles.j2]
  repeat' first
  | (with_reducible exact laws_FnExactAmbiguousAngles.J0_lim _ _ _ _ _ _ _)
  | (with_reducible exact laws_FnExactAmbiguousAngles.J1_lim _ _ _ _ _)
  | (with_reducible exact laws_FnExactAmbiguousAngles.J2_lim _ _ _)
  | (with_reducible exact impl_AmbiguousAngles.F_lim _)
  | (with_reducible exact laws_eqIntS.F_lim _ _)
  | (with_reducible exact laws_eqLocusS.F_lim _ _)
  | (with_reducible exact laws_heldIntS.F_lim _ _)
  | (with_reducible exact laws_markIntS.F_lim _ _)
  | (with_reducible exact laws_markLocusS.F_lim _ _)
  | (with_reducible exact laws_szLocusS.F_lim _ _)
  | (with_reducible exact laws_toLocusS.F_lim _)
  | (with_reducible exact spec_AmbiguousAngles.F_lim _)
  | (with_reducible refine Lim.ite ?_ ?_)
  | (with_reducible refine Lim.bind ?_ (fun _ => ?_))
  | (with_reducible exact Lim.const _)
theorem laws_FnExactAmbiguousAngles.F_eq (l0 : List (S78)) : laws_FnExactAmbiguousAngles.F l0 = ((laws_szLocusS.F l0 1048576).bind fun t200 => (if t200 < 0 then (some true) else ((laws_toLocusS.F l0).bind fun t201 => ((spec_AmbiguousAngles.F t201).bind fun bt204 => ((laws_toLocusS.F l0).bind fun t208 => ((impl_AmbiguousAngles.F t208).bind fun bt211 => ((laws_eqIntS.F bt211.1 bt204.1).bind fun t215 => (if t215 = true then (laws_FnExactAmbiguousAngles.J0 l0 bt204.1 bt204.2 t208 bt211.1 bt211.2 (bt211.2 != bt204.2)) else (laws_FnExactAmbiguousAngles.J0 l0 bt204.1 bt204.2 t208 bt211.1 bt211.2 true))))))))) := by
  refine Lim.eq_ ?_
  simp only [laws_FnExactAmbiguousAngles.f]
  repeat' first
  | (with_reducible exact laws_FnExactAmbiguousAngles.J0_lim _ _ _ _ _ _ _)
  | (with_reducible exact laws_FnExactAmbiguousAngles.J1_lim _ _ _ _ _)
  | (with_reducible exact laws_FnExactAmbiguousAngles.J2_lim _ _ _)
  | (with_reducible exact impl_AmbiguousAngles.F_lim _)
  | (with_reducible exact laws_eqIntS.F_lim _ _)
  | (with_reducible exact laws_eqLocusS.F_lim _ _)
  | (with_reducible exact laws_heldIntS.F_lim _ _)
  | (with_reducible exact laws_markIntS.F_lim _ _)
  | (with_reducible exact laws_markLocusS.F_lim _ _)
  | (with_reducible exact laws_szLocusS.F_lim _ _)
  | (with_reducible exact laws_toLocusS.F_lim _)
  | (with_reducible exact spec_AmbiguousAngles.F_lim _)
  | (with_reducible refine Lim.ite ?_ ?_)
  | (with_reducible refine Lim.bind ?_ (fun _ => ?_))
  | (with_reducible exact Lim.const _)
def Wf78 (x : S78) : Prop := x.f0.size ≤ 9223372036854775807 ∧ (Lit.int .i64 x.f1).wf = true
def laws_FnExactAmbiguousAngles.Pure : Prop := ∀ (l0 : List (S78)), (l0.length ≤ 9223372036854775807 ∧ ∀ x ∈ l0, Wf78 x) → ∃ k, laws_FnExactAmbiguousAngles.f k l0 = some true
end Go.Proofs.Ytlnafgjjliincaa.PFnExactAmbiguousAngles
