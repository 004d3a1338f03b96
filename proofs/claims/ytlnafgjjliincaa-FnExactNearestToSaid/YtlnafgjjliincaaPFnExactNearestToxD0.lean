/- Written by a program of this claim's author, out of the loaded program as Lean prints it: the functions as Lean functions, and that the calls answer so. -/
import Derived.Test.YtlnafgjjliincaaPFnExactNearestTox0
namespace Go.Proofs.Ytlnafgjjliincaa.PFnExactNearestTo
open Go.RowKit Go.Proofs.YtlnafgjjliincaaW.PrintWords Go.Proofs.YtlnafgjjliincaaW.PrintLast Go.Proofs.YtlnafgjjliincaaW.PrintMore
attribute [local go_sem] max2_int min2_int max_two min_two max_three min_three max_four min_four   -- for this text's walks alone
set_option linter.unusedVariables false
set_option linter.unusedSimpArgs false

def laws_szLocus.f (a0_0 : ByteArray) (a0_1 : Int) (a1 : Int) : Option (Int) := if (wrap64 (a1 - (a0_0.size : Int))) < 0 then (some (-1)) else (some (wrap64 (a1 - (a0_0.size : Int))))
def laws_szLocusS.l0 : Nat → List (S78) → Int → Int → Option (Int)
  | 0, _, _, _ => none
  | k + 1, x0, x1, x5 => if x5 < (x0.length : Int) then (if 0 ≤ x5 then ((laws_szLocus.f ((rd_T78 x0 x5).f0) ((rd_T78 x0 x5).f1) x1).bind fun t103 => (if t103 < 0 then (some (-1)) else (laws_szLocusS.l0 k x0 t103 (wrap64 (x5 + 1))))) else (none)) else (some x1)
def laws_szLocusS.f (k : Nat) (l0 : List (S78)) (a1 : Int) : Option (Int) := if (wrap64 (a1 - (l0.length : Int))) < 0 then (some (-1)) else (laws_szLocusS.l0 k l0 (wrap64 (a1 - (l0.length : Int))) 0)
theorem laws_szLocusS.mono_l : ∀ k, (∀ y0 y1 y2, LeO (laws_szLocusS.l0 k y0 y1 y2) (laws_szLocusS.l0 (k + 1) y0 y1 y2))
  | 0 => fun _ _ _ r h => by simp [laws_szLocusS.l0] at h
  | k + 1 => by
    have ih0 := laws_szLocusS.mono_l k
    · intro y0 y1 y2
      unfold laws_szLocusS.l0
      repeat' first
      | (with_reducible exact ih0 _ _ _)
      | (with_reducible exact LeO.refl _)
      | (with_reducible exact LeO.none _)
      | (with_reducible refine LeO.ite ?_ ?_)
      | (with_reducible refine LeO.bind ?_ (fun _ => ?_))
      | exact ih0 _ _ _
      | exact LeO.none _
      | refine LeO.ite ?_ ?_
      | refine LeO.bind ?_ (fun _ => ?_)
theorem laws_szLocusS.mono : ∀ a0 a1 k, LeO (laws_szLocusS.f k a0 a1) (laws_szLocusS.f (k + 1) a0 a1) := by
  intro a0 a1 k
  have ih0 := laws_szLocusS.mono_l k
  unfold laws_szLocusS.f
  repeat' first
      | (with_reducible exact ih0 _ _ _)
      | (with_reducible exact LeO.refl _)
      | (with_reducible exact LeO.none _)
      | (with_reducible refine LeO.ite ?_ ?_)
      | (with_reducible refine LeO.bind ?_ (fun _ => ?_))
      | exact ih0 _ _ _
      | exact LeO.none _
      | refine LeO.ite ?_ ?_
      | refine LeO.bind ?_ (fun _ => ?_)
noncomputable def laws_szLocusS.L0 (x0 : List (S78)) (x1 : Int) (x5 : Int) : Option (Int) := lim fun k => laws_szLocusS.l0 k x0 x1 x5
theorem laws_szLocusS.L0_lim (x0 : List (S78)) (x1 : Int) (x5 : Int) : Lim (fun k => laws_szLocusS.l0 k x0 x1 x5) (laws_szLocusS.L0 x0 x1 x5) := ⟨fun k => (laws_szLocusS.mono_l k) x0 x1 x5, rfl⟩
noncomputable def laws_szLocusS.F (l0 : List (S78)) (a1 : Int) : Option (Int) := lim fun k => laws_szLocusS.f k l0 a1
theorem laws_szLocusS.F_lim (l0 : List (S78)) (a1 : Int) : Lim (fun k => laws_szLocusS.f k l0 a1) (laws_szLocusS.F l0 a1) := ⟨laws_szLocusS.mono l0 a1, rfl⟩
theorem laws_szLocusS.L0_eq (x0 : List (S78)) (x1 : Int) (x5 : Int) : laws_szLocusS.L0 x0 x1 x5 = (if x5 < (x0.length : Int) then (if 0 ≤ x5 then ((laws_szLocus.f ((rd_T78 x0 x5).f0) ((rd_T78 x0 x5).f1) x1).bind fun t103 => (if t103 < 0 then (some (-1)) else (laws_szLocusS.L0 x0 t103 (wrap64 (x5 + 1))))) else (none)) else (some x1)) := by
  refine Lim.succ_eq (laws_szLocusS.L0_lim x0 x1 x5).mon ?_
  simp only [laws_szLocusS.l0]
  repeat' first
  | (with_reducible exact laws_szLocusS.L0_lim _ _ _)
  | (with_reducible refine Lim.ite ?_ ?_)
  | (with_reducible refine Lim.bind ?_ (fun _ => ?_))
  | (with_reducible exact Lim.const _)
theorem laws_szLocusS.F_eq (l0 : List (S78)) (a1 : Int) : laws_szLocusS.F l0 a1 = (if (wrap64 (a1 - (l0.length : Int))) < 0 then (some (-1)) else (laws_szLocusS.L0 l0 (wrap64 (a1 - (l0.length : Int))) 0)) := by
  refine Lim.eq_ ?_
  simp only [laws_szLocusS.f]
  repeat' first
  | (with_reducible exact laws_szLocusS.L0_lim _ _ _)
  | (with_reducible refine Lim.ite ?_ ?_)
  | (with_reducible refine Lim.bind ?_ (fun _ => ?_))
  | (with_reducible exact Lim.const _)
def laws_toLocus.f (a0_0 : ByteArray) (a0_1 : Int) : Option (ByteArray × Int) := some (a0_0, a0_1)
def laws_toLocusS.l0 : Nat → List (S78) → List (S82) → Int → Option ((List (S82)))
  | 0, _, _, _ => none
  | k + 1, x0, x3, x4 => if x4 < (x0.length : Int) then (if 0 ≤ x4 then ((laws_toLocus.f ((rd_T78 x0 x4).f0) ((rd_T78 x0 x4).f1)).bind fun bt111 => (if x4 < (x3.length : Int) then (laws_toLocusS.l0 k x0 (x3.set (x4 : Int).toNat (⟨bt111.1, bt111.2⟩ : S82)) (wrap64 (x4 + 1))) else (none))) else (none)) else (some x3)
def laws_toLocusS.f (k : Nat) (l0 : List (S78)) : Option ((List (S82))) := if 0 ≤ (l0.length : Int) then (if ((l0.length : Int) : Int).toNat ≤ 11728124029610 then (laws_toLocusS.l0 k l0 (List.replicate ((l0.length : Int) : Int).toNat z82) 0) else (none)) else (none)
theorem laws_toLocusS.mono_l : ∀ k, (∀ y0 y1 y2, LeO (laws_toLocusS.l0 k y0 y1 y2) (laws_toLocusS.l0 (k + 1) y0 y1 y2))
  | 0 => fun _ _ _ r h => by simp [laws_toLocusS.l0] at h
  | k + 1 => by
    have ih0 := laws_toLocusS.mono_l k
    · intro y0 y1 y2
      unfold laws_toLocusS.l0
      repeat' first
      | (with_reducible exact ih0 _ _ _)
      | (with_reducible exact LeO.refl _)
      | (with_reducible exact LeO.none _)
      | (with_reducible refine LeO.ite ?_ ?_)
      | (with_reducible refine LeO.bind ?_ (fun _ => ?_))
      | exact ih0 _ _ _
      | exact LeO.none _
      | refine LeO.ite ?_ ?_
      | refine LeO.bind ?_ (fun _ => ?_)
theorem laws_toLocusS.mono : ∀ a0 k, LeO (laws_toLocusS.f k a0) (laws_toLocusS.f (k + 1) a0) := by
  intro a0 k
  have ih0 := laws_toLocusS.mono_l k
  unfold laws_toLocusS.f
  repeat' first
      | (with_reducible exact ih0 _ _ _)
      | (with_reducible exact LeO.refl _)
      | (with_reducible exact LeO.none _)
      | (with_reducible refine LeO.ite ?_ ?_)
      | (with_reducible refine LeO.bind ?_ (fun _ => ?_))
      | exact ih0 _ _ _
      | exact LeO.none _
      | refine LeO.ite ?_ ?_
      | refine LeO.bind ?_ (fun _ => ?_)
noncomputable def laws_toLocusS.L0 (x0 : List (S78)) (x3 : List (S82)) (x4 : Int) : Option ((List (S82))) := lim fun k => laws_toLocusS.l0 k x0 x3 x4
theorem laws_toLocusS.L0_lim (x0 : List (S78)) (x3 : List (S82)) (x4 : Int) : Lim (fun k => laws_toLocusS.l0 k x0 x3 x4) (laws_toLocusS.L0 x0 x3 x4) := ⟨fun k => (laws_toLocusS.mono_l k) x0 x3 x4, rfl⟩
noncomputable def laws_toLocusS.F (l0 : List (S78)) : Option ((List (S82))) := lim fun k => laws_toLocusS.f k l0
theorem laws_toLocusS.F_lim (l0 : List (S78)) : Lim (fun k => laws_toLocusS.f k l0) (laws_toLocusS.F l0) := ⟨laws_toLocusS.mono l0, rfl⟩
theorem laws_toLocusS.L0_eq (x0 : List (S78)) (x3 : List (S82)) (x4 : Int) : laws_toLocusS.L0 x0 x3 x4 = (if x4 < (x0.length : Int) then (if 0 ≤ x4 then ((laws_toLocus.f ((rd_T78 x0 x4).f0) ((rd_T78 x0 x4).f1)).bind fun bt111 => (if x4 < (x3.length : Int) then (laws_toLocusS.L0 x0 (x3.set (x4 : Int).toNat (⟨bt111.1, bt111.2⟩ : S82)) (wrap64 (x4 + 1))) else (none))) else (none)) else (some x3)) := by
  refine Lim.succ_eq (laws_toLocusS.L0_lim x0 x3 x4).mon ?_
  simp only [laws_toLocusS.l0]
  repeat' first
  | (with_reducible exact laws_toLocusS.L0_lim _ _ _)
  | (with_reducible refine Lim.ite ?_ ?_)
  | (with_reducible refine Lim.bind ?_ (fun _ => ?_))
  | (with_reducible exact Lim.const _)
theorem laws_toLocusS.F_eq (l0 : List (S78)) : laws_toLocusS.F l0 = (if 0 ≤ (l0.length : Int) then (if ((l0.length : Int) : Int).toNat ≤ 11728124029610 then (laws_toLocusS.L0 l0 (List.replicate ((l0.length : Int) : Int).toNat z82) 0) else (none)) else (none)) := by
  refine Lim.eq_ ?_
  simp only [laws_toLocusS.f]
  repeat' first
  | (with_reducible exact laws_toLocusS.L0_lim _ _ _)
  | (with_reducible refine Lim.ite ?_ ?_)
  | (with_reducible refine Lim.bind ?_ (fun _ => ?_))
  | (with_reducible exact Lim.const _)
def laws_eqLocus.f (a0_0 : ByteArray) (a0_1 : Int) (a1_0 : ByteArray) (a1_1 : Int) : Option (Bool) := if a0_0.toList = a1_0.toList then (if a0_1 = a1_1 then (some true) else (some false)) else (some false)
def laws_eqLocusS.l0 : Nat → List (S82) → List (S82) → Int → Option (Bool)
  | 0, _, _, _ => none
  | k + 1, x0, x1, x5 => if x5 < (x0.length : Int) then (if 0 ≤ x5 then (if x5 < (x1.length : Int) then ((laws_eqLocus.f ((rd_T82 x0 x5).f0) ((rd_T82 x0 x5).f1) ((rd_T82 x1 x5).f0) ((rd_T82 x1 x5).f1)).bind fun t118 => (if t118 = true then (laws_eqLocusS.l0 k x0 x1 (wrap64 (x5 + 1))) else (some false))) else (none)) else (none)) else (some true)
def laws_eqLocusS.f (k : Nat) (l0 : List (S82)) (l1 : List (S82)) : Option (Bool) := if (l0.length : Int) = (l1.length : Int) then (laws_eqLocusS.l0 k l0 l1 0) else (some false)
theorem laws_eqLocusS.mono_l : ∀ k, (∀ y0 y1 y2, LeO (laws_eqLocusS.l0 k y0 y1 y2) (laws_eqLocusS.l0 (k + 1) y0 y1 y2))
  | 0 => fun _ _ _ r h => by simp [laws_eqLocusS.l0] at h
  | k + 1 => by
    have ih0 := laws_eqLocusS.mono_l k
    · intro y0 y1 y2
      unfold laws_eqLocusS.l0
      repeat' first
      | (with_reducible exact ih0 _ _ _)
      | (with_reducible exact LeO.refl _)
      | (with_reducible exact LeO.none _)
      | (with_reducible refine LeO.ite ?_ ?_)
      | (with_reducible refine LeO.bind ?_ (fun _ => ?_))
      | exact ih0 _ _ _
      | exact LeO.none _
      | refine LeO.ite ?_ ?_
      | refine LeO.bind ?_ (fun _ => ?_)
theorem laws_eqLocusS.mono : ∀ a0 a1 k, LeO (laws_eqLocusS.f k a0 a1) (laws_eqLocusS.f (k + 1) a0 a1) := by
  intro a0 a1 k
  have ih0 := laws_eqLocusS.mono_l k
  unfold laws_eqLocusS.f
  repeat' first
      | (with_reducible exact ih0 _ _ _)
      | (with_reducible exact LeO.refl _)
      | (with_reducible exact LeO.none _)
      | (with_reducible refine LeO.ite ?_ ?_)
      | (with_reducible refine LeO.bind ?_ (fun _ => ?_))
      | exact ih0 _ _ _
      | exact LeO.none _
      | refine LeO.ite ?_ ?_
      | refine LeO.bind ?_ (fun _ => ?_)
noncomputable def laws_eqLocusS.L0 (x0 : List (S82)) (x1 : List (S82)) (x5 : Int) : Option (Bool) := lim fun k => laws_eqLocusS.l0 k x0 x1 x5
theorem laws_eqLocusS.L0_lim (x0 : List (S82)) (x1 : List (S82)) (x5 : Int) : Lim (fun k => laws_eqLocusS.l0 k x0 x1 x5) (laws_eqLocusS.L0 x0 x1 x5) := ⟨fun k => (laws_eqLocusS.mono_l k) x0 x1 x5, rfl⟩
noncomputable def laws_eqLocusS.F (l0 : List (S82)) (l1 : List (S82)) : Option (Bool) := lim fun k => laws_eqLocusS.f k l0 l1
theorem laws_eqLocusS.F_lim (l0 : List (S82)) (l1 : List (S82)) : Lim (fun k => laws_eqLocusS.f k l0 l1) (laws_eqLocusS.F l0 l1) := ⟨laws_eqLocusS.mono l0 l1, rfl⟩
theorem laws_eqLocusS.L0_eq (x0 : List (S82)) (x1 : List (S82)) (x5 : Int) : laws_eqLocusS.L0 x0 x1 x5 = (if x5 < (x0.length : Int) then (if 0 ≤ x5 then (if x5 < (x1.length : Int) then ((laws_eqLocus.f ((rd_T82 x0 x5).f0) ((rd_T82 x0 x5).f1) ((rd_T82 x1 x5).f0) ((rd_T82 x1 x5).f1)).bind fun t118 => (if t118 = true then (laws_eqLocusS.L0 x0 x1 (wrap64 (x5 + 1))) else (some false))) else (none)) else (none)) else (some true)) := by
  refine Lim.succ_eq (laws_eqLocusS.L0_lim x0 x1 x5).mon ?_
  simp only [laws_eqLocusS.l0]
  repeat' first
  | (with_reducible exact laws_eqLocusS.L0_lim _ _ _)
  | (with_reducible refine Lim.ite ?_ ?_)
  | (with_reducible refine Lim.bind ?_ (fun _ => ?_))
  | (with_reducible exact Lim.const _)
theorem laws_eqLocusS.F_eq (l0 : List (S82)) (l1 : List (S82)) : laws_eqLocusS.F l0 l1 = (if (l0.length : Int) = (l1.length : Int) then (laws_eqLocusS.L0 l0 l1 0) else (some false)) := by
  refine Lim.eq_ ?_
  simp only [laws_eqLocusS.f]
  repeat' first
  | (with_reducible exact laws_eqLocusS.L0_lim _ _ _)
  | (with_reducible refine Lim.ite ?_ ?_)
  | (with_reducible refine Lim.bind ?_ (fun _ => ?_))
  | (with_reducible exact Lim.const _)
def spec_loFind.l0 : Nat → ByteArray → List (S82) → Int → Int → Option (Int)
  | 0, _, _, _, _ => none
  | k + 1, x1, x7, x8, x9 => if x9 < x8 then (if 0 ≤ x9 then (if x9 < (x7.length : Int) then (if ((rd_T82 x7 x9).f0).toList = x1.toList then (some x9) else (spec_loFind.l0 k x1 x7 x8 (wrap64 (x9 + 1)))) else (none)) else (none)) else (some (-1))
def spec_loFind.f (k : Nat) (l0 : List (S82)) (a1 : ByteArray) : Option (Int) := spec_loFind.l0 k a1 l0 (l0.length : Int) 0
theorem spec_loFind.mono_l : ∀ k, (∀ y0 y1 y2 y3, LeO (spec_loFind.l0 k y0 y1 y2 y3) (spec_loFind.l0 (k + 1) y0 y1 y2 y3))
  | 0 => fun _ _ _ _ r h => by simp [spec_loFind.l0] at h
  | k + 1 => by
    have ih0 := spec_loFind.mono_l k
    · intro y0 y1 y2 y3
      unfold spec_loFind.l0
      repeat' first
      | (with_reducible exact ih0 _ _ _ _)
      | (with_reducible exact LeO.refl _)
      | (with_reducible exact LeO.none _)
      | (with_reducible refine LeO.ite ?_ ?_)
      | (with_reducible refine LeO.bind ?_ (fun _ => ?_))
      | exact ih0 _ _ _ _
      | exact LeO.none _
      | refine LeO.ite ?_ ?_
      | refine LeO.bind ?_ (fun _ => ?_)
theorem spec_loFind.mono : ∀ a0 a1 k, LeO (spec_loFind.f k a0 a1) (spec_loFind.f (k + 1) a0 a1) := by
  intro a0 a1 k
  have ih0 := spec_loFind.mono_l k
  unfold spec_loFind.f
  repeat' first
      | (with_reducible exact ih0 _ _ _ _)
      | (with_reducible exact LeO.refl _)
      | (with_reducible exact LeO.none _)
      | (with_reducible refine LeO.ite ?_ ?_)
      | (with_reducible refine LeO.bind ?_ (fun _ => ?_))
      | exact ih0 _ _ _ _
      | exact LeO.none _
      | refine LeO.ite ?_ ?_
      | refine LeO.bind ?_ (fun _ => ?_)
noncomputable def spec_loFind.L0 (x1 : ByteArray) (x7 : List (S82)) (x8 : Int) (x9 : Int) : Option (Int) := lim fun k => spec_loFind.l0 k x1 x7 x8 x9
theorem spec_loFind.L0_lim (x1 : ByteArray) (x7 : List (S82)) (x8 : Int) (x9 : Int) : Lim (fun k => spec_loFind.l0 k x1 x7 x8 x9) (spec_loFind.L0 x1 x7 x8 x9) := ⟨fun k => (spec_loFind.mono_l k) x1 x7 x8 x9, rfl⟩
noncomputable def spec_loFind.F (l0 : List (S82)) (a1 : ByteArray) : Option (Int) := lim fun k => spec_loFind.f k l0 a1
theorem spec_loFind.F_lim (l0 : List (S82)) (a1 : ByteArray) : Lim (fun k => spec_loFind.f k l0 a1) (spec_loFind.F l0 a1) := ⟨spec_loFind.mono l0 a1, rfl⟩
theorem spec_loFind.L0_eq (x1 : ByteArray) (x7 : List (S82)) (x8 : Int) (x9 : Int) : spec_loFind.L0 x1 x7 x8 x9 = (if x9 < x8 then (if 0 ≤ x9 then (if x9 < (x7.length : Int) then (if ((rd_T82 x7 x9).f0).toList = x1.toList then (some x9) else (spec_loFind.L0 x1 x7 x8 (wrap64 (x9 + 1)))) else (none)) else (none)) else (some (-1))) := by
  refine Lim.succ_eq (spec_loFind.L0_lim x1 x7 x8 x9).mon ?_
  simp only [spec_loFind.l0]
  repeat' first
  | (with_reducible exact spec_loFind.L0_lim _ _ _ _)
  | (with_reducible refine Lim.ite ?_ ?_)
  | (with_reducible refine Lim.bind ?_ (fun _ => ?_))
  | (with_reducible exact Lim.const _)
theorem spec_loFind.F_eq (l0 : List (S82)) (a1 : ByteArray) : spec_loFind.F l0 a1 = (spec_loFind.L0 a1 l0 (l0.length : Int) 0) := by
  refine Lim.eq_ ?_
  simp only [spec_loFind.f]
  repeat' first
  | (with_reducible exact spec_loFind.L0_lim _ _ _ _)
  | (with_reducible refine Lim.ite ?_ ?_)
  | (with_reducible refine Lim.bind ?_ (fun _ => ?_))
  | (with_reducible exact Lim.const _)
def spec_l1In.f (a0 : Int) (a1 : Int) (a2 : Int) : Option (Bool) := if a0 ≥ a1 then (some (decide (a0 ≤ a2))) else (some false)
def spec_loAngle.f (a0 : Int) : Option (Bool) := (spec_l1In.f a0 (-90) 90).bind fun t121 => (some t121)
def spec_naName.l0 : Nat → ByteArray → Int → Option (Bool)
  | 0, _, _ => none
  | k + 1, x0, x3 => if x3 < (x0.size : Int) then (if 0 ≤ x3 then (if (bt x0 x3) < 97 then (some false) else (if (bt x0 x3) > 122 then (some false) else (spec_naName.l0 k x0 (wrap64 (x3 + 1))))) else (none)) else ((spec_l1In.f (x0.size : Int) 1 8).bind fun t122 => (some t122))
def spec_naName.f (k : Nat) (a0 : ByteArray) : Option (Bool) := spec_naName.l0 k a0 0
theorem spec_naName.mono_l : ∀ k, (∀ y0 y1, LeO (spec_naName.l0 k y0 y1) (spec_naName.l0 (k + 1) y0 y1))
  | 0 => fun _ _ r h => by simp [spec_naName.l0] at h
  | k + 1 => by
    have ih0 := spec_naName.mono_l k
    · intro y0 y1
      unfold spec_naName.l0
      repeat' first
      | (with_reducible exact ih0 _ _)
      | (with_reducible exact LeO.refl _)
      | (with_reducible exact LeO.none _)
      | (with_reducible refine LeO.ite ?_ ?_)
      | (with_reducible refine LeO.bind ?_ (fun _ => ?_))
      | exact ih0 _ _
      | exact LeO.none _
      | refine LeO.ite ?_ ?_
      | refine LeO.bind ?_ (fun _ => ?_)
theorem spec_naName.mono : ∀ a0 k, LeO (spec_naName.f k a0) (spec_naName.f (k + 1) a0) := by
  intro a0 k
  have ih0 := spec_naName.mono_l k
  unfold spec_naName.f
  repeat' first
      | (with_reducible exact ih0 _ _)
      | (with_reducible exact LeO.refl _)
      | (with_reducible exact LeO.none _)
      | (with_reducible refine LeO.ite ?_ ?_)
      | (with_reducible refine LeO.bind ?_ (fun _ => ?_))
      | exact ih0 _ _
      | exact LeO.none _
      | refine LeO.ite ?_ ?_
      | refine LeO.bind ?_ (fun _ => ?_)
noncomputable def spec_naName.L0 (x0 : ByteArray) (x3 : Int) : Option (Bool) := lim fun k => spec_naName.l0 k x0 x3
theorem spec_naName.L0_lim (x0 : ByteArray) (x3 : Int) : Lim (fun k => spec_naName.l0 k x0 x3) (spec_naName.L0 x0 x3) := ⟨fun k => (spec_naName.mono_l k) x0 x3, rfl⟩
noncomputable def spec_naName.F (a0 : ByteArray) : Option (Bool) := lim fun k => spec_naName.f k a0
theorem spec_naName.F_lim (a0 : ByteArray) : Lim (fun k => spec_naName.f k a0) (spec_naName.F a0) := ⟨spec_naName.mono a0, rfl⟩
theorem spec_naName.L0_eq (x0 : ByteArray) (x3 : Int) : spec_naName.L0 x0 x3 = (if x3 < (x0.size : Int) then (if 0 ≤ x3 then (if (bt x0 x3) < 97 then (some false) else (if (bt x0 x3) > 122 then (some false) else (spec_naName.L0 x0 (wrap64 (x3 + 1))))) else (none)) else ((spec_l1In.f (x0.size : Int) 1 8).bind fun t122 => (some t122))) := by
  refine Lim.succ_eq (spec_naName.L0_lim x0 x3).mon ?_
  simp only [spec_naName.l0]
  repeat' first
  | (with_reducible exact spec_naName.L0_lim _ _)
  | (with_reducible refine Lim.ite ?_ ?_)
  | (with_reducible refine Lim.bind ?_ (fun _ => ?_))
  | (with_reducible exact Lim.const _)
theorem spec_naName.F_eq (a0 : ByteArray) : spec_naName.F a0 = (spec_naName.L0 a0 0) := by
  refine Lim.eq_ ?_
  simp only [spec_naName.f]
  repeat' first
  | (with_reducible exact spec_naName.L0_lim _ _)
  | (with_reducible refine Lim.ite ?_ ?_)
  | (with_reducible refine Lim.bind ?_ (fun _ => ?_))
  | (with_reducible exact Lim.const _)
def spec_loGood.l0 : Nat → List (S82) → List (S82) → Int → Int → Option (Bool)
  | 0, _, _, _, _ => none
  | k + 1, x0, x5, x6, x7 => if x7 < x6 then (if 0 ≤ x7 then (if x7 < (x5.length : Int) then ((spec_naName.f k ((rd_T82 x5 x7).f0)).bind fun t125 => (if t125 = true then ((spec_loAngle.f ((rd_T82 x5 x7).f1)).bind fun t126 => (if t126 = true then (if x7 > 0 then (if 0 ≤ (wrap64 (x7 - 1)) then (if (wrap64 (x7 - 1)) < (x0.length : Int) then (if ((rd_T82 x0 (wrap64 (x7 - 1))).f1) ≥ ((rd_T82 x5 x7).f1) then (some false) else (if x7 ≤ (x0.length : Int) then ((spec_loFind.f k (x0.take (x7 : Int).toNat) ((rd_T82 x5 x7).f0)).bind fun t132 => (if t132 ≥ 0 then (some false) else (spec_loGood.l0 k x0 x5 x6 (wrap64 (x7 + 1))))) else (none))) else (none)) else (none)) else (if x7 ≤ (x0.length : Int) then ((spec_loFind.f k (x0.take (x7 : Int).toNat) ((rd_T82 x5 x7).f0)).bind fun t137 => (if t137 ≥ 0 then (some false) else (spec_loGood.l0 k x0 x5 x6 (wrap64 (x7 + 1))))) else (none))) else (some false))) else (some false))) else (none)) else (none)) else (some (decide ((x0.length : Int) ≤ 8)))
def spec_loGood.f (k : Nat) (l0 : List (S82)) : Option (Bool) := spec_loGood.l0 k l0 l0 (l0.length : Int) 0
theorem spec_loGood.mono_l : ∀ k, (∀ y0 y1 y2 y3, LeO (spec_loGood.l0 k y0 y1 y2 y3) (spec_loGood.l0 (k + 1) y0 y1 y2 y3))
  | 0 => fun _ _ _ _ r h => by simp [spec_loGood.l0] at h
  | k + 1 => by
    have ih0 := spec_loGood.mono_l k
    · intro y0 y1 y2 y3
      unfold spec_loGood.l0
      repeat' first
      | (with_reducible exact ih0 _ _ _ _)
      | (with_reducible exact spec_loFind.mono _ _ _)
      | (with_reducible exact spec_naName.mono _ _)
      | (with_reducible exact LeO.refl _)
      | (with_reducible exact LeO.none _)
      | (with_reducible refine LeO.ite ?_ ?_)
      | (with_reducible refine LeO.bind ?_ (fun _ => ?_))
      | exact ih0 _ _ _ _
      | exact spec_loFind.mono _ _ _
      | exact spec_naName.mono _ _
      | exact LeO.none _
      | refine LeO.ite ?_ ?_
      | refine LeO.bind ?_ (fun _ => ?_)
theorem spec_loGood.mono : ∀ a0 k, LeO (spec_loGood.f k a0) (spec_loGood.f (k + 1) a0) := by
  intro a0 k
  have ih0 := spec_loGood.mono_l k
  unfold spec_loGood.f
  repeat' first
      | (with_reducible exact ih0 _ _ _ _)
      | (with_reducible exact spec_loFind.mono _ _ _)
      | (with_reducible exact spec_naName.mono _ _)
      | (with_reducible exact LeO.refl _)
      | (with_reducible exact LeO.none _)
      | (with_reducible refine LeO.ite ?_ ?_)
      | (with_reducible refine LeO.bind ?_ (fun _ => ?_))
      | exact ih0 _ _ _ _
      | exact spec_loFind.mono _ _ _
      | exact spec_naName.mono _ _
      | exact LeO.none _
      | refine LeO.ite ?_ ?_
      | refine LeO.bind ?_ (fun _ => ?_)
noncomputable def spec_loGood.L0 (x0 : List (S82)) (x5 : List (S82)) (x6 : Int) (x7 : Int) : Option (Bool) := lim fun k => spec_loGood.l0 k x0 x5 x6 x7
theorem spec_loGood.L0_lim (x0 : List (S82)) (x5 : List (S82)) (x6 : Int) (x7 : Int) : Lim (fun k => spec_loGood.l0 k x0 x5 x6 x7) (spec_loGood.L0 x0 x5 x6 x7) := ⟨fun k => (spec_loGood.mono_l k) x0 x5 x6 x7, rfl⟩
noncomputable def spec_loGood.F (l0 : List (S82)) : Option (Bool) := lim fun k => spec_loGood.f k l0
theorem spec_loGood.F_lim (l0 : List (S82)) : Lim (fun k => spec_loGood.f k l0) (spec_loGood.F l0) := ⟨spec_loGood.mono l0, rfl⟩
theorem spec_loGood.L0_eq (x0 : List (S82)) (x5 : List (S82)) (x6 : Int) (x7 : Int) : spec_loGood.L0 x0 x5 x6 x7 = (if x7 < x6 then (if 0 ≤ x7 then (if x7 < (x5.length : Int) then ((spec_naName.F ((rd_T82 x5 x7).f0)).bind fun t125 => (if t125 = true then ((spec_loAngle.f ((rd_T82 x5 x7).f1)).bind fun t126 => (if t126 = true then (if x7 > 0 then (if 0 ≤ (wrap64 (x7 - 1)) then (if (wrap64 (x7 - 1)) < (x0.length : Int) then (if ((rd_T82 x0 (wrap64 (x7 - 1))).f1) ≥ ((rd_T82 x5 x7).f1) then (some false) else (if x7 ≤ (x0.length : Int) then ((spec_loFind.F (x0.take (x7 : Int).toNat) ((rd_T82 x5 x7).f0)).bind fun t132 => (if t132 ≥ 0 then (some false) else (spec_loGood.L0 x0 x5 x6 (wrap64 (x7 + 1))))) else (none))) else (none)) else (none)) else (if x7 ≤ (x0.length : Int) then ((spec_loFind.F (x0.take (x7 : Int).toNat) ((rd_T82 x5 x7).f0)).bind fun t137 => (if t137 ≥ 0 then (some false) else (spec_loGood.L0 x0 x5 x6 (wrap64 (x7 + 1))))) else (none))) else (some false))) else (some false))) else (none)) else (none)) else (some (decide ((x0.length : Int) ≤ 8)))) := by
  refine Lim.succ_eq (spec_loGood.L0_lim x0 x5 x6 x7).mon ?_
  simp only [spec_loGood.l0]
  repeat' first
  | (with_reducible exact spec_loGood.L0_lim _ _ _ _)
  | (with_reducible exact spec_loFind.F_lim _ _)
  | (with_reducible exact spec_naName.F_lim _)
  | (with_reducible refine Lim.ite ?_ ?_)
  | (with_reducible refine Lim.bind ?_ (fun _ => ?_))
  | (with_reducible exact Lim.const _)
theorem spec_loGood.F_eq (l0 : List (S82)) : spec_loGood.F l0 = (spec_loGood.L0 l0 l0 (l0.length : Int) 0) := by
  refine Lim.eq_ ?_
  simp only [spec_loGood.f]
  repeat' first
  | (with_reducible exact spec_loGood.L0_lim _ _ _ _)
  | (with_reducible exact spec_loFind.F_lim _ _)
  | (with_reducible exact spec_naName.F_lim _)
  | (with_reducible refine Lim.ite ?_ ?_)
  | (with_reducible refine Lim.bind ?_ (fun _ => ?_))
  | (with_reducible exact Lim.const _)
def spec_l1Most.f (a0 : Int) (a1 : Int) : Option (Int) := if a0 > a1 then (some a0) else (some a1)
def spec_l1Abs.f (a0 : Int) : Option (Int) := (spec_l1Most.f a0 (wrap64 (-a0))).bind fun t138 => (some t138)
mutual
def spec_NearestTo.j0 : Nat → List (S82) → Int → Bool → Option (ByteArray × Int × Bool)
  | 0, _, _, _ => none
  | k + 1, x0, x7, x25 => if x25 = true then (some ((⟨#[]⟩ : ByteArray), 0, false)) else (spec_NearestTo.l0 k x0 x7 (-1) x0 (x0.length : Int) 0)
def spec_NearestTo.l0 : Nat → List (S82) → Int → Int → List (S82) → Int → Int → Option (ByteArray × Int × Bool)
  | 0, _, _, _, _, _, _ => none
  | k + 1, x0, x7, x8, x26, x27, x28 => if x28 < x27 then (if 0 ≤ x28 then (if x28 < (x26.length : Int) then (if x28 = x7 then (spec_NearestTo.l0 k x0 x7 x8 x26 x27 (wrap64 (x28 + 1))) else (if x8 < 0 then (spec_NearestTo.l0 k x0 x7 x28 x26 x27 (wrap64 (x28 + 1))) else (if 0 ≤ x7 then (if x7 < (x0.length : Int) then ((spec_l1Abs.f (wrap64 (((rd_T82 x26 x28).f1) - ((rd_T82 x0 x7).f1)))).bind fun t148 => (if 0 ≤ x8 then (if x8 < (x0.length : Int) then ((spec_l1Abs.f (wrap64 (((rd_T82 x0 x8).f1) - ((rd_T82 x0 x7).f1)))).bind fun t151 => (if t148 < t151 then (spec_NearestTo.l0 k x0 x7 x28 x26 x27 (wrap64 (x28 + 1))) else (spec_NearestTo.l0 k x0 x7 x8 x26 x27 (wrap64 (x28 + 1))))) else (none)) else (none))) else (none)) else (none)))) else (none)) else (none)) else (if 0 ≤ x8 then (if x8 < (x0.length : Int) then (if 0 ≤ x7 then (if x7 < (x0.length : Int) then ((spec_l1Abs.f (wrap64 (((rd_T82 x0 x8).f1) - ((rd_T82 x0 x7).f1)))).bind fun t144 => (some ((rd_T82 x0 x8).f0, t144, true))) else (none)) else (none)) else (none)) else (none))
end
def spec_NearestTo.f (k : Nat) (l0 : List (S82)) (a1 : ByteArray) : Option (ByteArray × Int × Bool) := (spec_loFind.f k l0 a1).bind fun t139 => ((spec_loGood.f k l0).bind fun t140 => (if t140 = true then (if t139 < 0 then (spec_NearestTo.j0 k l0 t139 true) else (spec_NearestTo.j0 k l0 t139 ((l0.length : Int) == 1))) else (spec_NearestTo.j0 k l0 t139 true)))
theorem spec_NearestTo.mono_l : ∀ k, (∀ y0 y1 y2, LeO (spec_NearestTo.j0 k y0 y1 y2) (spec_NearestTo.j0 (k + 1) y0 y1 y2)) ∧ (∀ y0 y1 y2 y3 y4 y5, LeO (spec_NearestTo.l0 k y0 y1 y2 y3 y4 y5) (spec_NearestTo.l0 (k + 1) y0 y1 y2 y3 y4 y5))
  | 0 => ⟨fun _ _ _ r h => by simp [spec_NearestTo.j0] at h, fun _ _ _ _ _ _ r h => by simp [spec_NearestTo.l0] at h⟩
  | k + 1 => by
    obtain ⟨ih0, ih1⟩ := spec_NearestTo.mono_l k
    refine ⟨?_, ?_⟩
    · intro y0 y1 y2
      unfold spec_NearestTo.j0
      repeat' first
      | (with_reducible exact ih0 _ _ _)
      | (with_reducible exact ih1 _ _ _ _ _ _)
      | (with_reducible exact spec_loFind.mono _ _ _)
      | (with_reducible exact spec_loGood.mono _ _)
      | (with_reducible exact LeO.refl _)
      | (with_reducible exact LeO.none _)
      | (with_reducible refine LeO.ite ?_ ?_)
      | (with_reducible refine LeO.bind ?_ (fun _ => ?_))
      | exact ih0 _ _ _
      | exact ih1 _ _ _ _ _ _
      | exact spec_loFind.mono _ _ _
      | exact spec_loGood.mono _ _
      | exact LeO.none _
      | refine LeO.ite ?_ ?_
      | refine LeO.bind ?_ (fun _ => ?_)
    · intro y0 y1 y2 y3 y4 y5
      unfold spec_NearestTo.l0
      repeat' first
      | (with_reducible exact ih0 _ _ _)
      | (with_reducible exact ih1 _ _ _ _ _ _)
      | (with_reducible exact spec_loFind.mono _ _ _)
      | (with_reducible exact spec_loGood.mono _ _)
      | (with_reducible exact LeO.refl _)
      | (with_reducible exact LeO.none _)
      | (with_reducible refine LeO.ite ?_ ?_)
      | (with_reducible refine LeO.bind ?_ (fun _ => ?_))
      | exact ih0 _ _ _
      | exact ih1 _ _ _ _ _ _
      | exact spec_loFind.mono _ _ _
      | exact spec_loGood.mono _ _
      | exact LeO.none _
      | refine LeO.ite ?_ ?_
      | refine LeO.bind ?_ (fun _ => ?_)
theorem spec_NearestTo.mono : ∀ a0 a1 k, LeO (spec_NearestTo.f k a0 a1) (spec_NearestTo.f (k + 1) a0 a1) := by
  intro a0 a1 k
  obtain ⟨ih0, ih1⟩ := spec_NearestTo.mono_l k
  unfold spec_NearestTo.f
  repeat' first
      | (with_reducible exact ih0 _ _ _)
      | (with_reducible exact ih1 _ _ _ _ _ _)
      | (with_reducible exact spec_loFind.mono _ _ _)
      | (with_reducible exact spec_loGood.mono _ _)
      | (with_reducible exact LeO.refl _)
      | (with_reducible exact LeO.none _)
      | (with_reducible refine LeO.ite ?_ ?_)
      | (with_reducible refine LeO.bind ?_ (fun _ => ?_))
      | exact ih0 _ _ _
      | exact ih1 _ _ _ _ _ _
      | exact spec_loFind.mono _ _ _
      | exact spec_loGood.mono _ _
      | exact LeO.none _
      | refine LeO.ite ?_ ?_
      | refine LeO.bind ?_ (fun _ => ?_)
noncomputable def spec_NearestTo.J0 (x0 : List (S82)) (x7 : Int) (x25 : Bool) : Option (ByteArray × Int × Bool) := lim fun k => spec_NearestTo.j0 k x0 x7 x25
theorem spec_NearestTo.J0_lim (x0 : List (S82)) (x7 : Int) (x25 : Bool) : Lim (fun k => spec_NearestTo.j0 k x0 x7 x25) (spec_NearestTo.J0 x0 x7 x25) := ⟨fun k => (spec_NearestTo.mono_l k).1 x0 x7 x25, rfl⟩
noncomputable def spec_NearestTo.L0 (x0 : List (S82)) (x7 : Int) (x8 : Int) (x26 : List (S82)) (x27 : Int) (x28 : Int) : Option (ByteArray × Int × Bool) := lim fun k => spec_NearestTo.l0 k x0 x7 x8 x26 x27 x28
theorem spec_NearestTo.L0_lim (x0 : List (S82)) (x7 : Int) (x8 : Int) (x26 : List (S82)) (x27 : Int) (x28 : Int) : Lim (fun k => spec_NearestTo.l0 k x0 x7 x8 x26 x27 x28) (spec_NearestTo.L0 x0 x7 x8 x26 x27 x28) := ⟨fun k => (spec_NearestTo.mono_l k).2 x0 x7 x8 x26 x27 x28, rfl⟩
noncomputable def spec_NearestTo.F (l0 : List (S82)) (a1 : ByteArray) : Option (ByteArray × Int × Bool) := lim fun k => spec_NearestTo.f k l0 a1
theorem spec_NearestTo.F_lim (l0 : List (S82)) (a1 : ByteArray) : Lim (fun k => spec_NearestTo.f k l0 a1) (spec_NearestTo.F l0 a1) := ⟨spec_NearestTo.mono l0 a1, rfl⟩
theorem spec_NearestTo.J0_eq (x0 : List (S82)) (x7 : Int) (x25 : Bool) : spec_NearestTo.J0 x0 x7 x25 = (if x25 = true then (some ((⟨#[]⟩ : ByteArray), 0, false)) else (spec_NearestTo.L0 x0 x7 (-1) x0 (x0.length : Int) 0)) := by
  refine Lim.succ_eq (spec_NearestTo.J0_lim x0 x7 x25).mon ?_
  simp only [spec_NearestTo.j0]
  repeat' first
  | (with_reducible exact spec_NearestTo.J0_lim _ _ _)
  | (with_reducible exact spec_NearestTo.L0_lim _ _ _ _ _ _)
  | (with_reducible exact spec_loFind.F_lim _ _)
  | (with_reducible exact spec_loGood.F_lim _)
  | (with_reducible refine Lim.ite ?_ ?_)
  | (with_reducible refine Lim.bind ?_ (fun _ => ?_))
  | (with_reducible exact Lim.const _)
theorem spec_NearestTo.L0_eq (x0 : List (S82)) (x7 : Int) (x8 : Int) (x26 : List (S82)) (x27 : Int) (x28 : Int) : spec_NearestTo.L0 x0 x7 x8 x26 x27 x28 = (if x28 < x27 then (if 0 ≤ x28 then (if x28 < (x26.length : Int) then (if x28 = x7 then (spec_NearestTo.L0 x0 x7 x8 x26 x27 (wrap64 (x28 + 1))) else (if x8 < 0 then (spec_NearestTo.L0 x0 x7 x28 x26 x27 (wrap64 (x28 + 1))) else (if 0 ≤ x7 then (if x7 < (x0.length : Int) then ((spec_l1Abs.f (wrap64 (((rd_T82 x26 x28).f1) - ((rd_T82 x0 x7).f1)))).bind fun t148 => (if 0 ≤ x8 then (if x8 < (x0.length : Int) then ((spec_l1Abs.f (wrap64 (((rd_T82 x0 x8).f1) - ((rd_T82 x0 x7).f1)))).bind fun t151 => (if t148 < t151 then (spec_NearestTo.L0 x0 x7 x28 x26 x27 (wrap64 (x28 + 1))) else (spec_NearestTo.L0 x0 x7 x8 x26 x27 (wrap64 (x28 + 1))))) else (none)) else (none))) else (none)) else (none)))) else (none)) else (none)) else (if 0 ≤ x8 then (if x8 < (x0.length : Int) then (if 0 ≤ x7 then (if x7 < (x0.length : Int) then ((spec_l1Abs.f (wrap64 (((rd_T82 x0 x8).f1) - ((rd_T82 x0 x7).f1)))).bind fun t144 => (some ((rd_T82 x0 x8).f0, t144, true))) else (none)) else (none)) else (none)) else (none))) := by
  refine Lim.succ_eq (spec_NearestTo.L0_lim x0 x7 x8 x26 x27 x28).mon ?_
  simp only [spec_NearestTo.l0]
  repeat' first
  | (with_reducible exact spec_NearestTo.J0_lim _ _ _)
  | (with_reducible exact spec_NearestTo.L0_lim _ _ _ _ _ _)
  | (with_reducible exact spec_loFind.F_lim _ _)
  | (with_reducible exact spec_loGood.F_lim _)
  | (with_reducible refine Lim.ite ?_ ?_)
  | (with_reducible refine Lim.bind ?_ (fun _ => ?_))
  | (with_reducible exact Lim.const _)
theorem spec_NearestTo.F_eq (l0 : List (S82)) (a1 : ByteArray) : spec_NearestTo.F l0 a1 = ((spec_loFind.F l0 a1).bind fun t139 => ((spec_loGood.F l0).bind fun t140 => (if t140 = true then (if t139 < 0 then (spec_NearestTo.J0 l0 t139 true) else (spec_NearestTo.J0 l0 t139 ((l0.length : Int) == 1))) else (spec_NearestTo.J0 l0 t139 true)))) := by
  refine Lim.eq_ ?_
  simp only [spec_NearestTo.f]
  repeat' first
  | (with_reducible exact spec_NearestTo.J0_lim _ _ _)
  | (with_reducible exact spec_NearestTo.L0_lim _ _ _ _ _ _)
  | (with_reducible exact spec_loFind.F_lim _ _)
  | (with_reducible exact spec_loGood.F_lim _)
  | (with_reducible refine Lim.ite ?_ ?_)
  | (with_reducible refine Lim.bind ?_ (fun _ => ?_))
  | (with_reducible exact Lim.const _)
def impl_locusOf_1.f (a0_0 : ByteArray) (a0_1 : Int) (a1_0 : ByteArray) : Option (Bool) := some (a0_0.toList == a1_0.toList)
def slices_IndexFunc_Locus_impl_locusOf_1.l0 : Nat → List (S82) → Int → Int → ByteArray → Option (Int)
  | 0, _, _, _, _ => none
  | k + 1, x0, x7, x8, x39000 => if x8 < x7 then (if 0 ≤ x8 then (if x8 < (x0.length : Int) then ((impl_locusOf_1.f ((rd_T82 x0 x8).f0) ((rd_T82 x0 x8).f1) x39000).bind fun t154 => (if t154 = true then (some x8) else (slices_IndexFunc_Locus_impl_locusOf_1.l0 k x0 x7 (wrap64 (x8 + 1)) x39000))) else (none)) else (none)) else (some (-1))
def slices_IndexFunc_Locus_impl_locusOf_1.f (k : Nat) (l0 : List (S82)) (a1_0 : ByteArray) : Option (Int) := slices_IndexFunc_Locus_impl_locusOf_1.l0 k l0 (l0.length : Int) 0 a1_0
theorem slices_IndexFunc_Locus_impl_locusOf_1.mono_l : ∀ k, (∀ y0 y1 y2 y3, LeO (slices_IndexFunc_Locus_impl_locusOf_1.l0 k y0 y1 y2 y3) (slices_IndexFunc_Locus_impl_locusOf_1.l0 (k + 1) y0 y1 y2 y3))
  | 0 => fun _ _ _ _ r h => by simp [slices_IndexFunc_Locus_impl_locusOf_1.l0] at h
  | k + 1 => by
    have ih0 := slices_IndexFunc_Locus_impl_locusOf_1.mono_l k
    · intro y0 y1 y2 y3
      unfold slices_IndexFunc_Locus_impl_locusOf_1.l0
      repeat' first
      | (with_reducible exact ih0 _ _ _ _)
      | (with_reducible exact LeO.refl _)
      | (with_reducible exact LeO.none _)
      | (with_reducible refine LeO.ite ?_ ?_)
      | (with_reducible refine LeO.bind ?_ (fun _ => ?_))
      | exact ih0 _ _ _ _
      | exact LeO.none _
      | refine LeO.ite ?_ ?_
      | refine LeO.bind ?_ (fun _ => ?_)
theorem slices_IndexFunc_Locus_impl_locusOf_1.mono : ∀ a0 a1 k, LeO (slices_IndexFunc_Locus_impl_locusOf_1.f k a0 a1) (slices_IndexFunc_Locus_impl_locusOf_1.f (k + 1) a0 a1) := by
  intro a0 a1 k
  have ih0 := slices_IndexFunc_Locus_impl_locusOf_1.mono_l k
  unfold slices_IndexFunc_Locus_impl_locusOf_1.f
  repeat' first
      | (with_reducible exact ih0 _ _ _ _)
      | (with_reducible exact LeO.refl _)
      | (with_reducible exact LeO.none _)
      | (with_reducible refine LeO.ite ?_ ?_)
      | (with_reducible refine LeO.bind ?_ (fun _ => ?_))
      | exact ih0 _ _ _ _
      | exact LeO.none _
      | refine LeO.ite ?_ ?_
      | refine LeO.bind ?_ (fun _ => ?_)
noncomputable def slices_IndexFunc_Locus_impl_locusOf_1.L0 (x0 : List (S82)) (x7 : Int) (x8 : Int) (x39000 : ByteArray) : Option (Int) := lim fun k => slices_IndexFunc_Locus_impl_locusOf_1.l0 k x0 x7 x8 x39000
theorem slices_IndexFunc_Locus_impl_locusOf_1.L0_lim (x0 : List (S82)) (x7 : Int) (x8 : Int) (x39000 : ByteArray) : Lim (fun k => slices_IndexFunc_Locus_impl_locusOf_1.l0 k x0 x7 x8 x39000) (slices_IndexFunc_Locus_impl_locusOf_1.L0 x0 x7 x8 x39000) := ⟨fun k => (slices_IndexFunc_Locus_impl_locusOf_1.mono_l k) x0 x7 x8 x39000, rfl⟩
noncomputable def slices_IndexFunc_Locus_impl_locusOf_1.F (l0 : List (S82)) (a1_0 : ByteArray) : Option (Int) := lim fun k => slices_IndexFunc_Locus_impl_locusOf_1.f k l0 a1_0
theorem slices_IndexFunc_Locus_impl_locusOf_1.F_lim (l0 : List (S82)) (a1_0 : ByteArray) : Lim (fun k => slices_IndexFunc_Locus_impl_locusOf_1.f k l0 a1_0) (slices_IndexFunc_Locus_impl_locusOf_1.F l0 a1_0) := ⟨slices_IndexFunc_Locus_impl_locusOf_1.mono l0 a1_0, rfl⟩
theorem slices_IndexFunc_Locus_impl_locusOf_1.L0_eq (x0 : List (S82)) (x7 : Int) (x8 : Int) (x39000 : ByteArray) : slices_IndexFunc_Locus_impl_locusOf_1.L0 x0 x7 x8 x39000 = (if x8 < x7 then (if 0 ≤ x8 then (if x8 < (x0.length : Int) then ((impl_locusOf_1.f ((rd_T82 x0 x8).f0) ((rd_T82 x0 x8).f1) x39000).bind fun t154 => (if t154 = true then (some x8) else (slices_IndexFunc_Locus_impl_locusOf_1.L0 x0 x7 (wrap64 (x8 + 1)) x39000))) else (none)) else (none)) else (some (-1))) := by
  refine Lim.succ_eq (slices_IndexFunc_Locus_impl_locusOf_1.L0_lim x0 x7 x8 x39000).mon ?_
  simp only [slices_IndexFunc_Locus_impl_locusOf_1.l0]
  repeat' first
  | (with_reducible exact slices_IndexFunc_Locus_impl_locusOf_1.L0_lim _ _ _ _)
  | (with_reducible refine Lim.ite ?_ ?_)
  | (with_reducible refine Lim.bind ?_ (fun _ => ?_))
  | (with_reducible exact Lim.const _)
theorem slices_IndexFunc_Locus_impl_locusOf_1.F_eq (l0 : List (S82)) (a1_0 : ByteArray) : slices_IndexFunc_Locus_impl_locusOf_1.F l0 a1_0 = (slices_IndexFunc_Locus_impl_locusOf_1.L0 l0 (l0.length : Int) 0 a1_0) := by
  refine Lim.eq_ ?_
  simp only [slices_IndexFunc_Locus_impl_locusOf_1.f]
  repeat' first
  | (with_reducible exact slices_IndexFunc_Locus_impl_locusOf_1.L0_lim _ _ _ _)
  | (with_reducible refine Lim.ite ?_ ?_)
  | (with_reducible refine Lim.bind ?_ (fun _ => ?_))
  | (with_reducible exact Lim.const _)
def impl_locusOf.f (k : Nat) (l0 : List (S82)) (a1 : ByteArray) : Option (Int) := (slices_IndexFunc_Locus_impl_locusOf_1.f k l0 a1).bind fun t156 => (some t156)
theorem impl_locusOf.mono : ∀ a0 a1 k, LeO (impl_locusOf.f k a0 a1) (impl_locusOf.f (k + 1) a0 a1) := by
  intro a0 a1 k
  unfold impl_locusOf.f
  repeat' first
      | (with_reducible exact slices_IndexFunc_Locus_impl_locusOf_1.mono _ _ _)
      | (with_reducible exact LeO.refl _)
      | (with_reducible exact LeO.none _)
      | (with_reducible refine LeO.ite ?_ ?_)
      | (with_reducible refine LeO.bind ?_ (fun _ => ?_))
      | exact slices_IndexFunc_Locus_impl_locusOf_1.mono _ _ _
      | exact LeO.none _
      | refine LeO.ite ?_ ?_
      | refine LeO.bind ?_ (fun _ => ?_)
noncomputable def impl_locusOf.F (l0 : List (S82)) (a1 : ByteArray) : Option (Int) := lim fun k => impl_locusOf.f k l0 a1
theorem impl_locusOf.F_lim (l0 : List (S82)) (a1 : ByteArray) : Lim (fun k => impl_locusOf.f k l0 a1) (impl_locusOf.F l0 a1) := ⟨impl_locusOf.mono l0 a1, rfl⟩
theorem impl_locusOf.F_eq (l0 : List (S82)) (a1 : ByteArray) : impl_locusOf.F l0 a1 = ((slices_IndexFunc_Locus_impl_locusOf_1.F l0 a1).bind fun t156 => (some t156)) := by
  refine Lim.eq_ ?_
  simp only [impl_locusOf.f]
  repeat' first
  | (with_reducible exact slices_IndexFunc_Locus_impl_locusOf_1.F_lim _ _)
  | (with_reducible refine Lim.ite ?_ ?_)
  | (with_reducible refine Lim.bind ?_ (fun _ => ?_))
  | (with_reducible exact Lim.const _)
def impl_within.f (a0 : Int) (a1 : Int) (a2 : Int) : Option (Bool) := if a0 ≥ a1 then (some (decide (a0 ≤ a2))) else (some false)
def impl_isAngle.f (a0 : Int) : Option (Bool) := (impl_within.f a0 (-90) 90).bind fun t157 => (some t157)
def stringslite_IndexByte.f (a0 : ByteArray) (a1 : Int) : Option (Int) := some (Lib.indexByte a0.data.toList a1.toNat.toUInt8)
def strings_IndexByte.f (a0 : ByteArray) (a1 : Int) : Option (Int) := (stringslite_IndexByte.f a0 a1).bind fun t158 => (some t158)
def impl_hasOnly.l0 : Nat → ByteArray → ByteArray → Int → Int → Option (Bool)
  | 0, _, _, _, _ => none
  | k + 1, x0, x1, x7, x8 => if x8 < x7 then (if 0 ≤ x8 then (if x8 < (x0.size : Int) then ((strings_IndexByte.f x1 (bt x0 x8)).bind fun t159 => (if t159 < 0 then (some false) else (impl_hasOnly.l0 k x0 x1 x7 (wrap64 (x8 + 1))))) else (none)) else (none)) else (some true)
def impl_hasOnly.f (k : Nat) (a0 : ByteArray) (a1 : ByteArray) : Option (Bool) := impl_hasOnly.l0 k a0 a1 (a0.size : Int) 0
theorem impl_hasOnly.mono_l : ∀ k, (∀ y0 y1 y2 y3, LeO (impl_hasOnly.l0 k y0 y1 y2 y3) (impl_hasOnly.l0 (k + 1) y0 y1 y2 y3))
  | 0 => fun _ _ _ _ r h => by simp [impl_hasOnly.l0] at h
  | k + 1 => by
    have ih0 := impl_hasOnly.mono_l k
    · intro y0 y1 y2 y3
      unfold impl_hasOnly.l0
      repeat' first
      | (with_reducible exact ih0 _ _ _ _)
      | (with_reducible exact LeO.refl _)
      | (with_reducible exact LeO.none _)
      | (with_reducible refine LeO.ite ?_ ?_)
      | (with_reducible refine LeO.bind ?_ (fun _ => ?_))
      | exact ih0 _ _ _ _
      | exact LeO.none _
      | refine LeO.ite ?_ ?_
      | refine LeO.bind ?_ (fun _ => ?_)
theorem impl_hasOnly.mono : ∀ a0 a1 k, LeO (impl_hasOnly.f k a0 a1) (impl_hasOnly.f (k + 1) a0 a1) := by
  intro a0 a1 k
  have ih0 := impl_hasOnly.mono_l k
  unfold impl_hasOnly.f
  repeat' first
      | (with_reducible exact ih0 _ _ _ _)
      | (with_reducible exact LeO.refl _)
      | (with_reducible exact LeO.none _)
      | (with_reducible refine LeO.ite ?_ ?_)
      | (with_reducible refine LeO.bind ?_ (fun _ => ?_))
      | exact ih0 _ _ _ _
      | exact LeO.none _
      | refine LeO.ite ?_ ?_
      | refine LeO.bind ?_ (fun _ => ?_)
noncomputable def impl_hasOnly.L0 (x0 : ByteArray) (x1 : ByteArray) (x7 : Int) (x8 : Int) : Option (Bool) := lim fun k => impl_hasOnly.l0 k x0 x1 x7 x8
theorem impl_hasOnly.L0_lim (x0 : ByteArray) (x1 : ByteArray) (x7 : Int) (x8 : Int) : Lim (fun k => impl_hasOnly.l0 k x0 x1 x7 x8) (impl_hasOnly.L0 x0 x1 x7 x8) := ⟨fun k => (impl_hasOnly.mono_l k) x0 x1 x7 x8, rfl⟩
noncomputable def impl_hasOnly.F (a0 : ByteArray) (a1 : ByteArray) : Option (Bool) := lim fun k => impl_hasOnly.f k a0 a1
theorem impl_hasOnly.F_lim (a0 : ByteArray) (a1 : ByteArray) : Lim (fun k => impl_hasOnly.f k a0 a1) (impl_hasOnly.F a0 a1) := ⟨impl_hasOnly.mono a0 a1, rfl⟩
theorem impl_hasOnly.L0_eq (x0 : ByteArray) (x1 : ByteArray) (x7 : Int) (x8 : Int) : impl_hasOnly.L0 x0 x1 x7 x8 = (if x8 < x7 then (if 0 ≤ x8 then (if x8 < (x0.size : Int) then ((strings_IndexByte.f x1 (bt x0 x8)).bind fun t159 => (if t159 < 0 then (some false) else (impl_hasOnly.L0 x0 x1 x7 (wrap64 (x8 + 1))))) else (none)) else (none)) else (some true)) := by
  refine Lim.succ_eq (impl_hasOnly.L0_lim x0 x1 x7 x8).mon ?_
  simp only [impl_hasOnly.l0]
  repeat' first
  | (with_reducible exact impl_hasOnly.L0_lim _ _ _ _)
  | (with_reducible refine Lim.ite ?_ ?_)
  | (with_reducible refine Lim.bind ?_ (fun _ => ?_))
  | (with_reducible exact Lim.const _)
theorem impl_hasOnly.F_eq (a0 : ByteArray) (a1 : ByteArray) : impl_hasOnly.F a0 a1 = (impl_hasOnly.L0 a0 a1 (a0.size : Int) 0) := by
  refine Lim.eq_ ?_
  simp only [impl_hasOnly.f]
  repeat' first
  | (with_reducible exact impl_hasOnly.L0_lim _ _ _ _)
  | (with_reducible refine Lim.ite ?_ ?_)
  | (with_reducible refine Lim.bind ?_ (fun _ => ?_))
  | (with_reducible exact Lim.const _)
def impl_isWordOf.f (k : Nat) (a0 : ByteArray) (a1 : ByteArray) : Option (Bool) := (impl_within.f (a0.size : Int) 1 8).bind fun t160 => (if t160 = true then ((impl_hasOnly.f k a0 a1).bind fun t161 => (some t161)) else (some false))
theorem impl_isWordOf.mono : ∀ a0 a1 k, LeO (impl_isWordOf.f k a0 a1) (impl_isWordOf.f (k + 1) a0 a1) := by
  intro a0 a1 k
  unfold impl_isWordOf.f
  repeat' first
      | (with_reducible exact impl_hasOnly.mono _ _ _)
      | (with_reducible exact LeO.refl _)
      | (with_reducible exact LeO.none _)
      | (with_reducible refine LeO.ite ?_ ?_)
      | (with_reducible refine LeO.bind ?_ (fun _ => ?_))
      | exact impl_hasOnly.mono _ _ _
      | exact LeO.none _
      | refine LeO.ite ?_ ?_
      | refine LeO.bind ?_ (fun _ => ?_)
noncomputable def impl_isWordOf.F (a0 : ByteArray) (a1 : ByteArray) : Option (Bool) := lim fun k => impl_isWordOf.f k a0 a1
theorem impl_isWordOf.F_lim (a0 : ByteArray) (a1 : ByteArray) : Lim (fun k => impl_isWordOf.f k a0 a1) (impl_isWordOf.F a0 a1) := ⟨impl_isWordOf.mono a0 a1, rfl⟩
theorem impl_isWordOf.F_eq (a0 : ByteArray) (a1 : ByteArray) : impl_isWordOf.F a0 a1 = ((impl_within.f (a0.size : Int) 1 8).bind fun t160 => (if t160 = true then ((impl_hasOnly.F a0 a1).bind fun t161 => (some t161)) else (some false))) := by
  refine Lim.eq_ ?_
  simp only [impl_isWordOf.f]
  repeat' first
  | (with_reducible exact impl_hasOnly.F_lim _ _)
  | (with_reducible refine Lim.ite ?_ ?_)
  | (with_reducible refine Lim.bind ?_ (fun _ => ?_))
  | (with_reducible exact Lim.const _)
def impl_AreLoci.l0 : Nat → List (S82) → List (S82) → Int → Int → Option (Bool)
  | 0, _, _, _, _ => none
  | k + 1, x0, x5, x6, x7 => if x7 < x6 then (if 0 ≤ x7 then (if x7 < (x5.length : Int) then ((impl_isWordOf.f k ((rd_T82 x5 x7).f0) (⟨#[97, 98, 99, 100, 101, 102, 103, 104, 105, 106, 107, 108, 109, 110, 111, 112, 113, 114, 115, 116, 117, 118, 119, 120, 121, 122]⟩ : ByteArray)).bind fun t164 => (if t164 = true then ((impl_isAngle.f ((rd_T82 x5 x7).f1)).bind fun t165 => (if t165 = true then (if x7 > 0 then (if 0 ≤ (wrap64 (x7 - 1)) then (if (wrap64 (x7 - 1)) < (x0.length : Int) then (if ((rd_T82 x5 x7).f1) ≤ ((rd_T82 x0 (wrap64 (x7 - 1))).f1) then (some false) else (if x7 ≤ (x0.length : Int) then ((impl_locusOf.f k (x0.take (x7 : Int).toNat) ((rd_T82 x5 x7).f0)).bind fun t171 => (if t171 ≥ 0 then (some false) else (impl_AreLoci.l0 k x0 x5 x6 (wrap64 (x7 + 1))))) else (none))) else (none)) else (none)) else (if x7 ≤ (x0.length : Int) then ((impl_locusOf.f k (x0.take (x7 : Int).toNat) ((rd_T82 x5 x7).f0)).bind fun t176 => (if t176 ≥ 0 then (some false) else (impl_AreLoci.l0 k x0 x5 x6 (wrap64 (x7 + 1))))) else (none))) else (some false))) else (some false))) else (none)) else (none)) else (some (decide ((x0.length : Int) ≤ 8)))
def impl_AreLoci.f (k : Nat) (l0 : List (S82)) : Option (Bool) := impl_AreLoci.l0 k l0 l0 (l0.length : Int) 0
theorem impl_AreLoci.mono_l : ∀ k, (∀ y0 y1 y2 y3, LeO (impl_AreLoci.l0 k y0 y1 y2 y3) (impl_AreLoci.l0 (k + 1) y0 y1 y2 y3))
  | 0 => fun _ _ _ _ r h => by simp [impl_AreLoci.l0] at h
  | k + 1 => by
    have ih0 := impl_AreLoci.mono_l k
    · intro y0 y1 y2 y3
      unfold impl_AreLoci.l0
      repeat' first
      | (with_reducible exact ih0 _ _ _ _)
      | (with_reducible exact impl_isWordOf.mono _ _ _)
      | (with_reducible exact impl_locusOf.mono _ _ _)
      | (with_reducible exact LeO.refl _)
      | (with_reducible exact LeO.none _)
      | (with_reducible refine LeO.ite ?_ ?_)
      | (with_reducible refine LeO.bind ?_ (fun _ => ?_))
      | exact ih0 _ _ _ _
      | exact impl_isWordOf.mono _ _ _
      | exact impl_locusOf.mono _ _ _
      | exact LeO.none _
      | refine LeO.ite ?_ ?_
      | refine LeO.bind ?_ (fun _ => ?_)
theorem impl_AreLoci.mono : ∀ a0 k, LeO (impl_AreLoci.f k a0) (impl_AreLoci.f (k + 1) a0) := by
  intro a0 k
  have ih0 := impl_AreLoci.mono_l k
  unfold impl_AreLoci.f
  repeat' first
      | (with_reducible exact ih0 _ _ _ _)
      | (with_reducible exact impl_isWordOf.mono _ _ _)
      | (with_reducible exact impl_locusOf.mono _ _ _)
      | (with_reducible exact LeO.refl _)
      | (with_reducible exact LeO.none _)
      | (with_reducible refine LeO.ite ?_ ?_)
      | (with_reducible refine LeO.bind ?_ (fun _ => ?_))
      | exact ih0 _ _ _ _
      | exact impl_isWordOf.mono _ _ _
      | exact impl_locusOf.mono _ _ _
      | exact LeO.none _
      | refine LeO.ite ?_ ?_
      | refine LeO.bind ?_ (fun _ => ?_)
noncomputable def impl_AreLoci.L0 (x0 : List (S82)) (x5 : List (S82)) (x6 : Int) (x7 : Int) : Option (Bool) := lim fun k => impl_AreLoci.l0 k x0 x5 x6 x7
theorem impl_AreLoci.L0_lim (x0 : List (S82)) (x5 : List (S82)) (x6 : Int) (x7 : Int) : Lim (fun k => impl_AreLoci.l0 k x0 x5 x6 x7) (impl_AreLoci.L0 x0 x5 x6 x7) := ⟨fun k => (impl_AreLoci.mono_l k) x0 x5 x6 x7, rfl⟩
noncomputable def impl_AreLoci.F (l0 : List (S82)) : Option (Bool) := lim fun k => impl_AreLoci.f k l0
theorem impl_AreLoci.F_lim (l0 : List (S82)) : Lim (fun k => impl_AreLoci.f k l0) (impl_AreLoci.F l0) := ⟨impl_AreLoci.mono l0, rfl⟩
theorem impl_AreLoci.L0_eq (x0 : List (S82)) (x5 : List (S82)) (x6 : Int) (x7 : Int) : impl_AreLoci.L0 x0 x5 x6 x7 = (if x7 < x6 then (if 0 ≤ x7 then (if x7 < (x5.length : Int) then ((impl_isWordOf.F ((rd_T82 x5 x7).f0) (⟨#[97, 98, 99, 100, 101, 102, 103, 104, 105, 106, 107, 108, 109, 110, 111, 112, 113, 114, 115, 116, 117, 118, 119, 120, 121, 122]⟩ : ByteArray)).bind fun t164 => (if t164 = true then ((impl_isAngle.f ((rd_T82 x5 x7).f1)).bind fun t165 => (if t165 = true then (if x7 > 0 then (if 0 ≤ (wrap64 (x7 - 1)) then (if (wrap64 (x7 - 1)) < (x0.length : Int) then (if ((rd_T82 x5 x7).f1) ≤ ((rd_T82 x0 (wrap64 (x7 - 1))).f1) then (some false) else (if x7 ≤ (x0.length : Int) then ((impl_locusOf.F (x0.take (x7 : Int).toNat) ((rd_T82 x5 x7).f0)).bind fun t171 => (if t171 ≥ 0 then (some false) else (impl_AreLoci.L0 x0 x5 x6 (wrap64 (x7 + 1))))) else (none))) else (none)) else (none)) else (if x7 ≤ (x0.length : Int) then ((impl_locusOf.F (x0.take (x7 : Int).toNat) ((rd_T82 x5 x7).f0)).bind fun t176 => (if t176 ≥ 0 then (some false) else (impl_AreLoci.L0 x0 x5 x6 (wrap64 (x7 + 1))))) else (none))) else (some false))) else (some false))) else (none)) else (none)) else (some (decide ((x0.length : Int) ≤ 8)))) := by
  refine Lim.succ_eq (impl_AreLoci.L0_lim x0 x5 x6 x7).mon ?_
  simp only [impl_AreLoci.l0]
  repeat' first
  | (with_reducible exact impl_AreLoci.L0_lim _ _ _ _)
  | (with_reducible exact impl_isWordOf.F_lim _ _)
  | (with_reducible exact impl_locusOf.F_lim _ _)
  | (with_reducible refine Lim.ite ?_ ?_)
  | (with_reducible refine Lim.bind ?_ (fun _ => ?_))
  | (with_reducible exact Lim.const _)
theorem impl_AreLoci.F_eq (l0 : List (S82)) : impl_AreLoci.F l0 = (impl_AreLoci.L0 l0 l0 (l0.length : Int) 0) := by
  refine Lim.eq_ ?_
  simp only [impl_AreLoci.f]
  repeat' first
  | (with_reducible exact impl_AreLoci.L0_lim _ _ _ _)
  | (with_reducible exact impl_isWordOf.F_lim _ _)
  | (with_reducible exact impl_locusOf.F_lim _ _)
  | (with_reducible refine Lim.ite ?_ ?_)
  | (with_reducible refine Lim.bind ?_ (fun _ => ?_))
  | (with_reducible exact Lim.const _)
def impl_distance.f (a0 : Int) (a1 : Int) : Option (Int) := some (mx (wrap64 (a0 - a1)) (wrap64 (a1 - a0)))
def impl_nearestLoci.l0 : Nat → Int → Int → List ByteArray → List (S82) → Int → Int → Option (Int × List ByteArray)
  | 0, _, _, _, _, _, _ => none
  | k + 1, x1, x6, x7, x11, x12, x13 => if x13 < x12 then (if 0 ≤ x13 then (if x13 < (x11.length : Int) then ((impl_distance.f ((rd_T82 x11 x13).f1) x1).bind fun t179 => (if t179 < x6 then (if t179 = t179 then (if ([] : List ByteArray).length < 8796093022208 then (impl_nearestLoci.l0 k x1 t179 (([] : List ByteArray) ++ [(rd_T82 x11 x13).f0]) x11 x12 (wrap64 (x13 + 1))) else (none)) else (impl_nearestLoci.l0 k x1 t179 ([] : List ByteArray) x11 x12 (wrap64 (x13 + 1)))) else (if t179 = x6 then (if x7.length < 8796093022208 then (impl_nearestLoci.l0 k x1 x6 (x7 ++ [(rd_T82 x11 x13).f0]) x11 x12 (wrap64 (x13 + 1))) else (none)) else (impl_nearestLoci.l0 k x1 x6 x7 x11 x12 (wrap64 (x13 + 1)))))) else (none)) else (none)) else (some (x6, x7))
def impl_nearestLoci.f (k : Nat) (l0 : List (S82)) (a1 : Int) : Option (Int × List ByteArray) := impl_nearestLoci.l0 k a1 181 ([] : List ByteArray) l0 (l0.length : Int) 0
theorem impl_nearestLoci.mono_l : ∀ k, (∀ y0 y1 y2 y3 y4 y5, LeO (impl_nearestLoci.l0 k y0 y1 y2 y3 y4 y5) (impl_nearestLoci.l0 (k + 1) y0 y1 y2 y3 y4 y5))
  | 0 => fun _ _ _ _ _ _ r h => by simp [impl_nearestLoci.l0] at h
  | k + 1 => by
    have ih0 := impl_nearestLoci.mono_l k
    · intro y0 y1 y2 y3 y4 y5
      unfold impl_nearestLoci.l0
      repeat' first
      | (with_reducible exact ih0 _ _ _ _ _ _)
      | (with_reducible exact LeO.refl _)
      | (with_reducible exact LeO.none _)
      | (with_reducible refine LeO.ite ?_ ?_)
      | (with_reducible refine LeO.bind ?_ (fun _ => ?_))
      | exact ih0 _ _ _ _ _ _
      | exact LeO.none _
      | refine LeO.ite ?_ ?_
      | refine LeO.bind ?_ (fun _ => ?_)
theorem impl_nearestLoci.mono : ∀ a0 a1 k, LeO (impl_nearestLoci.f k a0 a1) (impl_nearestLoci.f (k + 1) a0 a1) := by
  intro a0 a1 k
  have ih0 := impl_nearestLoci.mono_l k
  unfold impl_nearestLoci.f
  repeat' first
      | (with_reducible exact ih0 _ _ _ _ _ _)
      | (with_reducible exact LeO.refl _)
      | (with_reducible exact LeO.none _)
      | (with_reducible refine LeO.ite ?_ ?_)
      | (with_reducible refine LeO.bind ?_ (fun _ => ?_))
      | exact ih0 _ _ _ _ _ _
      | exact LeO.none _
      | refine LeO.ite ?_ ?_
      | refine LeO.bind ?_ (fun _ => ?_)
noncomputable def impl_nearestLoci.L0 (x1 : Int) (x6 : Int) (x7 : List ByteArray) (x11 : List (S82)) (x12 : Int) (x13 : Int) : Option (Int × List ByteArray) := lim fun k => impl_nearestLoci.l0 k x1 x6 x7 x11 x12 x13
theorem impl_nearestLoci.L0_lim (x1 : Int) (x6 : Int) (x7 : List ByteArray) (x11 : List (S82)) (x12 : Int) (x13 : Int) : Lim (fun k => impl_nearestLoci.l0 k x1 x6 x7 x11 x12 x13) (impl_nearestLoci.L0 x1 x6 x7 x11 x12 x13) := ⟨fun k => (impl_nearestLoci.mono_l k) x1 x6 x7 x11 x12 x13, rfl⟩
noncomputable def impl_nearestLoci.F (l0 : List (S82)) (a1 : Int) : Option (Int × List ByteArray) := lim fun k => impl_nearestLoci.f k l0 a1
theorem impl_nearestLoci.F_lim (l0 : List (S82)) (a1 : Int) : Lim (fun k => impl_nearestLoci.f k l0 a1) (impl_nearestLoci.F l0 a1) := ⟨impl_nearestLoci.mono l0 a1, rfl⟩
theorem impl_nearestLoci.L0_eq (x1 : Int) (x6 : Int) (x7 : List ByteArray) (x11 : List (S82)) (x12 : Int) (x13 : Int) : impl_nearestLoci.L0 x1 x6 x7 x11 x12 x13 = (if x13 < x12 then (if 0 ≤ x13 then (if x13 < (x11.length : Int) then ((impl_distance.f ((rd_T82 x11 x13).f1) x1).bind fun t179 => (if t179 < x6 then (if t179 = t179 then (if ([] : List ByteArray).length < 8796093022208 then (impl_nearestLoci.L0 x1 t179 (([] : List ByteArray) ++ [(rd_T82 x11 x13).f0]) x11 x12 (wrap64 (x13 + 1))) else (none)) else (impl_nearestLoci.L0 x1 t179 ([] : List ByteArray) x11 x12 (wrap64 (x13 + 1)))) else (if t179 = x6 then (if x7.length < 8796093022208 then (impl_nearestLoci.L0 x1 x6 (x7 ++ [(rd_T82 x11 x13).f0]) x11 x12 (wrap64 (x13 + 1))) else (none)) else (impl_nearestLoci.L0 x1 x6 x7 x11 x12 (wrap64 (x13 + 1)))))) else (none)) else (none)) else (some (x6, x7))) := by
  refine Lim.succ_eq (impl_nearestLoci.L0_lim x1 x6 x7 x11 x12 x13).mon ?_
  simp only [impl_nearestLoci.l0]
  repeat' first
  | (with_reducible exact impl_nearestLoci.L0_lim _ _ _ _ _ _)
  | (with_reducible refine Lim.ite ?_ ?_)
  | (with_reducible refine Lim.bind ?_ (fun _ => ?_))
  | (with_reducible exact Lim.const _)
theorem impl_nearestLoci.F_eq (l0 : List (S82)) (a1 : Int) : impl_nearestLoci.F l0 a1 = (impl_nearestLoci.L0 a1 181 ([] : List ByteArray) l0 (l0.length : Int) 0) := by
  refine Lim.eq_ ?_
  simp only [impl_nearestLoci.f]
  repeat' first
  | (with_reducible exact impl_nearestLoci.L0_lim _ _ _ _ _ _)
  | (with_reducible refine Lim.ite ?_ ?_)
  | (with_reducible refine Lim.bind ?_ (fun _ => ?_))
  | (with_reducible exact Lim.const _)
def slices_Clone_Locus.f (l0 : List (S82)) : Option ((List (S82))) := (some (([] : List (S82)) : List (S82))).bind fun y186 => (if y186.length + l0.length < 5864062014805 then (some (y186 ++ l0)) else (none))
def impl_without_1.f (a0_0 : ByteArray) (a0_1 : Int) (a1_0 : ByteArray) : Option (Bool) := some (a0_0.toList == a1_0.toList)
def slices_IndexFunc_Locus_impl_without_1.l0 : Nat → List (S82) → Int → Int → ByteArray → Option (Int)
  | 0, _, _, _, _ => none
  | k + 1, x0, x7, x8, x39000 => if x8 < x7 then (if 0 ≤ x8 then (if x8 < (x0.length : Int) then ((impl_without_1.f ((rd_T82 x0 x8).f0) ((rd_T82 x0 x8).f1) x39000).bind fun t194 => (if t194 = true then (some x8) else (slices_IndexFunc_Locus_impl_without_1.l0 k x0 x7 (wrap64 (x8 + 1)) x39000))) else (none)) else (none)) else (some (-1))
def slices_IndexFunc_Locus_impl_without_1.f (k : Nat) (l0 : List (S82)) (a1_0 : ByteArray) : Option (Int) := slices_IndexFunc_Locus_impl_without_1.l0 k l0 (l0.length : Int) 0 a1_0
theorem slices_IndexFunc_Locus_impl_without_1.mono_l : ∀ k, (∀ y0 y1 y2 y3, LeO (slices_IndexFunc_Locus_impl_without_1.l0 k y0 y1 y2 y3) (slices_IndexFunc_Locus_impl_without_1.l0 (k + 1) y0 y1 y2 y3))
  | 0 => fun _ _ _ _ r h => by simp [slices_IndexFunc_Locus_impl_without_1.l0] at h
  | k + 1 => by
    have ih0 := slices_IndexFunc_Locus_impl_without_1.mono_l k
    · intro y0 y1 y2 y3
      unfold slices_IndexFunc_Locus_impl_without_1.l0
      repeat' first
      | (with_reducible exact ih0 _ _ _ _)
      | (with_reducible exact LeO.refl _)
      | (with_reducible exact LeO.none _)
      | (with_reducible refine LeO.ite ?_ ?_)
      | (with_reducible refine LeO.bind ?_ (fun _ => ?_))
      | exact ih0 _ _ _ _
      | exact LeO.none _
      | refine LeO.ite ?_ ?_
      | refine LeO.bind ?_ (fun _ => ?_)
theorem slices_IndexFunc_Locus_impl_without_1.mono : ∀ a0 a1 k, LeO (slices_IndexFunc_Locus_impl_without_1.f k a0 a1) (slices_IndexFunc_Locus_impl_without_1.f (k + 1) a0 a1) := by
  intro a0 a1 k
  have ih0 := slices_IndexFunc_Locus_impl_without_1.mono_l k
  unfold slices_IndexFunc_Locus_impl_without_1.f
  repeat' first
      | (with_reducible exact ih0 _ _ _ _)
      | (with_reducible exact LeO.refl _)
      | (with_reducible exact LeO.none _)
      | (with_reducible refine LeO.ite ?_ ?_)
      | (with_reducible refine LeO.bind ?_ (fun _ => ?_))
      | exact ih0 _ _ _ _
      | exact LeO.none _
      | refine LeO.ite ?_ ?_
      | refine LeO.bind ?_ (fun _ => ?_)
noncomputable def slices_IndexFunc_Locus_impl_without_1.L0 (x0 : List (S82)) (x7 : Int) (x8 : Int) (x39000 : ByteArray) : Option (Int) := lim fun k => slices_IndexFunc_Locus_impl_without_1.l0 k x0 x7 x8 x39000
theorem slices_IndexFunc_Locus_impl_without_1.L0_lim (x0 : List (S82)) (x7 : Int) (x8 : Int) (x39000 : ByteArray) : Lim (fun k => slices_IndexFunc_Locus_impl_without_1.l0 k x0 x7 x8 x39000) (slices_IndexFunc_Locus_impl_without_1.L0 x0 x7 x8 x39000) := ⟨fun k => (slices_IndexFunc_Locus_impl_without_1.mono_l k) x0 x7 x8 x39000, rfl⟩
noncomputable def slices_IndexFunc_Locus_impl_without_1.F (l0 : List (S82)) (a1_0 : ByteArray) : Option (Int) := lim fun k => slices_IndexFunc_Locus_impl_without_1.f k l0 a1_0
theorem slices_IndexFunc_Locus_impl_without_1.F_lim (l0 : List (S82)) (a1_0 : ByteArray) : Lim (fun k => slices_IndexFunc_Locus_impl_without_1.f k l0 a1_0) (slices_IndexFunc_Locus_impl_without_1.F l0 a1_0) := ⟨slices_IndexFunc_Locus_impl_without_1.mono l0 a1_0, rfl⟩
theorem slices_IndexFunc_Locus_impl_without_1.L0_eq (x0 : List (S82)) (x7 : Int) (x8 : Int) (x39000 : ByteArray) : slices_IndexFunc_Locus_impl_without_1.L0 x0 x7 x8 x39000 = (if x8 < x7 then (if 0 ≤ x8 then (if x8 < (x0.length : Int) then ((impl_without_1.f ((rd_T82 x0 x8).f0) ((rd_T82 x0 x8).f1) x39000).bind fun t194 => (if t194 = true then (some x8) else (slices_IndexFunc_Locus_impl_without_1.L0 x0 x7 (wrap64 (x8 + 1)) x39000))) else (none)) else (none)) else (some (-1))) := by
  refine Lim.succ_eq (slices_IndexFunc_Locus_impl_without_1.L0_lim x0 x7 x8 x39000).mon ?_
  simp only [slices_IndexFunc_Locus_impl_without_1.l0]
  repeat' first
  | (with_reducible exact slices_IndexFunc_Locus_impl_without_1.L0_lim _ _ _ _)
  | (with_reducible refine Lim.ite ?_ ?_)
  | (with_reducible refine Lim.bind ?_ (fun _ => ?_))
  | (with_reducible exact Lim.const _)
theorem slices_IndexFunc_Locus_impl_without_1.F_eq (l0 : List (S82)) (a1_0 : ByteArray) : slices_IndexFunc_Locus_impl_without_1.F l0 a1_0 = (slices_IndexFunc_Locus_impl_without_1.L0 l0 (l0.length : Int) 0 a1_0) := by
  refine Lim.eq_ ?_
  simp only [slices_IndexFunc_Locus_impl_without_1.f]
  repeat' first
  | (with_reducible exact slices_IndexFunc_Locus_impl_without_1.L0_lim _ _ _ _)
  | (with_reducible refine Lim.ite ?_ ?_)
  | (with_reducible refine Lim.bind ?_ (fun _ => ?_))
  | (with_reducible exact Lim.const _)
def slices_DeleteFunc_Locus_impl_without_1.l0 : Nat → List (S82) → Int → Int → ByteArray → Option ((List (S82)))
  | 0, _, _, _, _ => none
  | k + 1, x0, x5, x6, x39000 => if x6 < (x0.length : Int) then (if 0 ≤ x6 then ((impl_without_1.f ((rd_T82 x0 x6).f0) ((rd_T82 x0 x6).f1) x39000).bind fun t195 => (if t195 = true then (slices_DeleteFunc_Locus_impl_without_1.l0 k x0 x5 (wrap64 (x6 + 1)) x39000) else (if 0 ≤ x5 then (if x5 < (x0.length : Int) then (slices_DeleteFunc_Locus_impl_without_1.l0 k (x0.set (x5 : Int).toNat (⟨(rd_T82 x0 x6).f0, (rd_T82 x0 x6).f1⟩ : S82)) (wrap64 (x5 + 1)) (wrap64 (x6 + 1)) x39000) else (none)) else (none)))) else (none)) else (if 0 ≤ x5 then (if x5 ≤ (x0.length : Int) then (some ((x0.take (x5 : Int).toNat ++ List.replicate (x0.length - (x5 : Int).toNat) z82).take (x5 : Int).toNat)) else (none)) else (none))
def slices_DeleteFunc_Locus_impl_without_1.f (k : Nat) (l0 : List (S82)) (a1_0 : ByteArray) : Option ((List (S82))) := (slices_IndexFunc_Locus_impl_without_1.f k l0 a1_0).bind fun t192 => (if t192 = (-1) then (some l0) else (slices_DeleteFunc_Locus_impl_without_1.l0 k l0 t192 (wrap64 (t192 + 1)) a1_0))
theorem slices_DeleteFunc_Locus_impl_without_1.mono_l : ∀ k, (∀ y0 y1 y2 y3, LeO (slices_DeleteFunc_Locus_impl_without_1.l0 k y0 y1 y2 y3) (slices_DeleteFunc_Locus_impl_without_1.l0 (k + 1) y0 y1 y2 y3))
  | 0 => fun _ _ _ _ r h => by simp [slices_DeleteFunc_Locus_impl_without_1.l0] at h
  | k + 1 => by
    have ih0 := slices_DeleteFunc_Locus_impl_without_1.mono_l k
    · intro y0 y1 y2 y3
      unfold slices_DeleteFunc_Locus_impl_without_1.l0
      repeat' first
      | (with_reducible exact ih0 _ _ _ _)
      | (with_reducible exact slices_IndexFunc_Locus_impl_without_1.mono _ _ _)
      | (with_reducible exact LeO.refl _)
      | (with_reducible exact LeO.none _)
      | (with_reducible refine LeO.ite ?_ ?_)
      | (with_reducible refine LeO.bind ?_ (fun _ => ?_))
      | exact ih0 _ _ _ _
      | exact slices_IndexFunc_Locus_impl_without_1.mono _ _ _
      | exact LeO.none _
      | refine LeO.ite ?_ ?_
      | refine LeO.bind ?_ (fun _ => ?_)
theorem slices_DeleteFunc_Locus_impl_without_1.mono : ∀ a0 a1 k, LeO (slices_DeleteFunc_Locus_impl_without_1.f k a0 a1) (slices_DeleteFunc_Locus_impl_without_1.f (k + 1) a0 a1) := by
  intro a0 a1 k
  have ih0 := slices_DeleteFunc_Locus_impl_without_1.mono_l k
  unfold slices_DeleteFunc_Locus_impl_without_1.f
  repeat' first
      | (with_reducible exact ih0 _ _ _ _)
      | (with_reducible exact slices_IndexFunc_Locus_impl_without_1.mono _ _ _)
      | (with_reducible exact LeO.refl _)
      | (with_reducible exact LeO.none _)
      | (with_reducible refine LeO.ite ?_ ?_)
      | (with_reducible refine LeO.bind ?_ (fun _ => ?_))
      | exact ih0 _ _ _ _
      | exact slices_IndexFunc_Locus_impl_without_1.mono _ _ _
      | exact LeO.none _
      | refine LeO.ite ?_ ?_
      | refine LeO.bind ?_ (fun _ => ?_)
noncomputable def slices_DeleteFunc_Locus_impl_without_1.L0 (x0 : List (S82)) (x5 : Int) (x6 : Int) (x39000 : ByteArray) : Option ((List (S82))) := lim fun k => slices_DeleteFunc_Locus_impl_without_1.l0 k x0 x5 x6 x39000
theorem slices_DeleteFunc_Locus_impl_without_1.L0_lim (x0 : List (S82)) (x5 : Int) (x6 : Int) (x39000 : ByteArray) : Lim (fun k => slices_DeleteFunc_Locus_impl_without_1.l0 k x0 x5 x6 x39000) (slices_DeleteFunc_Locus_impl_without_1.L0 x0 x5 x6 x39000) := ⟨fun k => (slices_DeleteFunc_Locus_impl_without_1.mono_l k) x0 x5 x6 x39000, rfl⟩
noncomputable def slices_DeleteFunc_Locus_impl_without_1.F (l0 : List (S82)) (a1_0 : ByteArray) : Option ((List (S82))) := lim fun k => slices_DeleteFunc_Locus_impl_without_1.f k l0 a1_0
theorem slices_DeleteFunc_Locus_impl_without_1.F_lim (l0 : List (S82)) (a1_0 : ByteArray) : Lim (fun k => slices_DeleteFunc_Locus_impl_without_1.f k l0 a1_0) (slices_DeleteFunc_Locus_impl_without_1.F l0 a1_0) := ⟨slices_DeleteFunc_Locus_impl_without_1.mono l0 a1_0, rfl⟩
theorem slices_DeleteFunc_Locus_impl_without_1.L0_eq (x0 : List (S82)) (x5 : Int) (x6 : Int) (x39000 : ByteArray) : slices_DeleteFunc_Locus_impl_without_1.L0 x0 x5 x6 x39000 = (if x6 < (x0.length : Int) then (if 0 ≤ x6 then ((impl_without_1.f ((rd_T82 x0 x6).f0) ((rd_T82 x0 x6).f1) x39000).bind fun t195 => (if t195 = true then (slices_DeleteFunc_Locus_impl_without_1.L0 x0 x5 (wrap64 (x6 + 1)) x39000) else (if 0 ≤ x5 then (if x5 < (x0.length : Int) then (slices_DeleteFunc_Locus_impl_without_1.L0 (x0.set (x5 : Int).toNat (⟨(rd_T82 x0 x6).f0, (rd_T82 x0 x6).f1⟩ : S82)) (wrap64 (x5 + 1)) (wrap64 (x6 + 1)) x39000) else (none)) else (none)))) else (none)) else (if 0 ≤ x5 then (if x5 ≤ (x0.length : Int) then (some ((x0.take (x5 : Int).toNat ++ List.replicate (x0.length - (x5 : Int).toNat) z82).take (x5 : Int).toNat)) else (none)) else (none))) := by
  refine Lim.succ_eq (slices_DeleteFunc_Locus_impl_without_1.L0_lim x0 x5 x6 x39000).mon ?_
  simp only [slices_DeleteFunc_Locus_impl_without_1.l0]
  repeat' first
  | (with_reducible exact slices_DeleteFunc_Locus_impl_without_1.L0_lim _ _ _ _)
  | (with_reducible exact slices_IndexFunc_Locus_impl_without_1.F_lim _ _)
  | (with_reducible refine Lim.ite ?_ ?_)
  | (with_reducible refine Lim.bind ?_ (fun _ => ?_))
  | (with_reducible exact Lim.const _)
theorem slices_DeleteFunc_Locus_impl_without_1.F_eq (l0 : List (S82)) (a1_0 : ByteArray) : slices_DeleteFunc_Locus_impl_without_1.F l0 a1_0 = ((slices_IndexFunc_Locus_impl_without_1.F l0 a1_0).bind fun t192 => (if t192 = (-1) then (some l0) else (slices_DeleteFunc_Locus_impl_without_1.L0 l0 t192 (wrap64 (t192 + 1)) a1_0))) := by
  refine Lim.eq_ ?_
  simp only [slices_DeleteFunc_Locus_impl_without_1.f]
  repeat' first
  | (with_reducible exact slices_DeleteFunc_Locus_impl_without_1.L0_lim _ _ _ _)
  | (with_reducible exact slices_IndexFunc_Locus_impl_without_1.F_lim _ _)
  | (with_reducible refine Lim.ite ?_ ?_)
  | (with_reducible refine Lim.bind ?_ (fun _ => ?_))
  | (with_reducible exact Lim.const _)
def impl_without.f (k : Nat) (l0 : List (S82)) (a1 : ByteArray) : Option ((List (S82))) := (slices_Clone_Locus.f l0).bind fun t202 => ((slices_DeleteFunc_Locus_impl_without_1.f k t202 a1).bind fun t205 => (some t205))
theorem impl_without.mono : ∀ a0 a1 k, LeO (impl_without.f k a0 a1) (impl_without.f (k + 1) a0 a1) := by
  intro a0 a1 k
  unfold impl_without.f
  repeat' first
      | (with_reducible exact slices_DeleteFunc_Locus_impl_without_1.mono _ _ _)
      | (with_reducible exact LeO.refl _)
      | (with_reducible exact LeO.none _)
      | (with_reducible refine LeO.ite ?_ ?_)
      | (with_reducible refine LeO.bind ?_ (fun _ => ?_))
      | exact slices_DeleteFunc_Locus_impl_without_1.mono _ _ _
      | exact LeO.none _
      | refine LeO.ite ?_ ?_
      | refine LeO.bind ?_ (fun _ => ?_)
noncomputable def impl_without.F (l0 : List (S82)) (a1 : ByteArray) : Option ((List (S82))) := lim fun k => impl_without.f k l0 a1
theorem impl_without.F_lim (l0 : List (S82)) (a1 : ByteArray) : Lim (fun k => impl_without.f k l0 a1) (impl_without.F l0 a1) := ⟨impl_without.mono l0 a1, rfl⟩
theorem impl_without.F_eq (l0 : List (S82)) (a1 : ByteArray) : impl_without.F l0 a1 = ((slices_Clone_Locus.f l0).bind fun t202 => ((slices_DeleteFunc_Locus_impl_without_1.F t202 a1).bind fun t205 => (some t205))) := by
  refine Lim.eq_ ?_
  simp only [impl_without.f]
  repeat' first
  | (with_reducible exact slices_DeleteFunc_Locus_impl_without_1.F_lim _ _)
  | (with_reducible refine Lim.ite ?_ ?_)
  | (with_reducible refine Lim.bind ?_ (fun _ => ?_))
  | (with_reducible exact Lim.const _)
def impl_NearestTo.j0 : Nat → List (S82) → ByteArray → Int → Bool → Option (ByteArray × Int × Bool)
  | 0, _, _, _, _ => none
  | k + 1, x0, x1, x7, x24 => if x24 = true then (some ((⟨#[]⟩ : ByteArray), 0, false)) else ((impl_without.f k x0 x1).bind fun t210 => (if 0 ≤ x7 then (if x7 < (x0.length : Int) then ((impl_nearestLoci.f k t210 ((rd_T82 x0 x7).f1)).bind fun bt214 => (if 0 < (bt214.2.length : Int) then (some (rdOf ByteArray.empty bt214.2 0, bt214.1, true)) else (none))) else (none)) else (none)))
def impl_NearestTo.f (k : Nat) (l0 : List (S82)) (a1 : ByteArray) : Option (ByteArray × Int × Bool) := (impl_locusOf.f k l0 a1).bind fun t208 => ((impl_AreLoci.f k l0).bind fun t209 => (if t209 = true then (if t208 < 0 then (impl_NearestTo.j0 k l0 a1 t208 true) else (impl_NearestTo.j0 k l0 a1 t208 ((l0.length : Int) == 1))) else (impl_NearestTo.j0 k l0 a1 t208 true)))
theorem impl_NearestTo.mono_l : ∀ k, (∀ y0 y1 y2 y3, LeO (impl_NearestTo.j0 k y0 y1 y2 y3) (impl_NearestTo.j0 (k + 1) y0 y1 y2 y3))
  | 0 => fun _ _ _ _ r h => by simp [impl_NearestTo.j0] at h
  | k + 1 => by
    have ih0 := impl_NearestTo.mono_l k
    · intro y0 y1 y2 y3
      unfold impl_NearestTo.j0
      repeat' first
      | (with_reducible exact ih0 _ _ _ _)
      | (with_reducible exact impl_AreLoci.mono _ _)
      | (with_reducible exact impl_locusOf.mono _ _ _)
      | (with_reducible exact impl_nearestLoci.mono _ _ _)
      | (with_reducible exact impl_without.mono _ _ _)
      | (with_reducible exact LeO.refl _)
      | (with_reducible exact LeO.none _)
      | (with_reducible refine LeO.ite ?_ ?_)
      | (with_reducible refine LeO.bind ?_ (fun _ => ?_))
      | exact ih0 _ _ _ _
      | exact impl_AreLoci.mono _ _
      | exact impl_locusOf.mono _ _ _
      | exact impl_nearestLoci.mono _ _ _
      | exact impl_without.mono _ _ _
      | exact LeO.none _
      | refine LeO.ite ?_ ?_
      | refine LeO.bind ?_ (fun _ => ?_)
theorem impl_NearestTo.mono : ∀ a0 a1 k, LeO (impl_NearestTo.f k a0 a1) (impl_NearestTo.f (k + 1) a0 a1) := by
  intro a0 a1 k
  have ih0 := impl_NearestTo.mono_l k
  unfold impl_NearestTo.f
  repeat' first
      | (with_reducible exact ih0 _ _ _ _)
      | (with_reducible exact impl_AreLoci.mono _ _)
      | (with_reducible exact impl_locusOf.mono _ _ _)
      | (with_reducible exact impl_nearestLoci.mono _ _ _)
      | (with_reducible exact impl_without.mono _ _ _)
      | (with_reducible exact LeO.refl _)
      | (with_reducible exact LeO.none _)
      | (with_reducible refine LeO.ite ?_ ?_)
      | (with_reducible refine LeO.bind ?_ (fun _ => ?_))
      | exact ih0 _ _ _ _
      | exact impl_AreLoci.mono _ _
      | exact impl_locusOf.mono _ _ _
      | exact impl_nearestLoci.mono _ _ _
      | exact impl_without.mono _ _ _
      | exact LeO.none _
      | refine LeO.ite ?_ ?_
      | refine LeO.bind ?_ (fun _ => ?_)
noncomputable def impl_NearestTo.J0 (x0 : List (S82)) (x1 : ByteArray) (x7 : Int) (x24 : Bool) : Option (ByteArray × Int × Bool) := lim fun k => impl_NearestTo.j0 k x0 x1 x7 x24
theorem impl_NearestTo.J0_lim (x0 : List (S82)) (x1 : ByteArray) (x7 : Int) (x24 : Bool) : Lim (fun k => impl_NearestTo.j0 k x0 x1 x7 x24) (impl_NearestTo.J0 x0 x1 x7 x24) := ⟨fun k => (impl_NearestTo.mono_l k) x0 x1 x7 x24, rfl⟩
noncomputable def impl_NearestTo.F (l0 : List (S82)) (a1 : ByteArray) : Option (ByteArray × Int × Bool) := lim fun k => impl_NearestTo.f k l0 a1
theorem impl_NearestTo.F_lim (l0 : List (S82)) (a1 : ByteArray) : Lim (fun k => impl_NearestTo.f k l0 a1) (impl_NearestTo.F l0 a1) := ⟨impl_NearestTo.mono l0 a1, rfl⟩
theorem impl_NearestTo.J0_eq (x0 : List (S82)) (x1 : ByteArray) (x7 : Int) (x24 : Bool) : impl_NearestTo.J0 x0 x1 x7 x24 = (if x24 = true then (some ((⟨#[]⟩ : ByteArray), 0, false)) else ((impl_without.F x0 x1).bind fun t210 => (if 0 ≤ x7 then (if x7 < (x0.length : Int) then ((impl_nearestLoci.F t210 ((rd_T82 x0 x7).f1)).bind fun bt214 => (if 0 < (bt214.2.length : Int) then (some (rdOf ByteArray.empty bt214.2 0, bt214.1, true)) else (none))) else (none)) else (none)))) := by
  refine Lim.succ_eq (impl_NearestTo.J0_lim x0 x1 x7 x24).mon ?_
  simp only [impl_NearestTo.j0]
  repeat' first
  | (with_reducible exact impl_NearestTo.J0_lim _ _ _ _)
  | (with_reducible exact impl_AreLoci.F_lim _)
  | (with_reducible exact impl_locusOf.F_lim _ _)
  | (with_reducible exact impl_nearestLoci.F_lim _ _)
  | (with_reducible exact impl_without.F_lim _ _)
  | (with_reducible refine Lim.ite ?_ ?_)
  | (with_reducible refine Lim.bind ?_ (fun _ => ?_))
  | (with_reducible exact Lim.const _)
theorem impl_NearestTo.F_eq (l0 : List (S82)) (a1 : ByteArray) : impl_NearestTo.F l0 a1 = ((impl_locusOf.F l0 a1).bind fun t208 => ((impl_AreLoci.F l0).bind fun t209 => (if t209 = true then (if t208 < 0 then (impl_NearestTo.J0 l0 a1 t208 true) else (impl_NearestTo.J0 l0 a1 t208 ((l0.length : Int) == 1))) else (impl_NearestTo.J0 l0 a1 t208 true)))) := by
  refine Lim.eq_ ?_
  simp only [impl_NearestTo.f]
  repeat' first
  | (with_reducible exact impl_NearestTo.J0_lim _ _ _ _)
  | (with_reducible exact impl_AreLoci.F_lim _)
  | (with_reducible exact impl_locusOf.F_lim _ _)
  | (with_reducible exact impl_nearestLoci.F_lim _ _)
  | (with_reducible exact impl_without.F_lim _ _)
  | (with_reducible refine Lim.ite ?_ ?_)
  | (with_reducible refine Lim.bind ?_ (fun _ => ?_))
  | (with_reducible exact Lim.const _)
def laws_FnExactNearestTo.j0 : Nat → List (S78) → List (S82) → Bool → Option (Bool)
  | 0, _, _, _ => none
  | k + 1, x0, x9, x50 => if x50 = true then (some false) else ((laws_toLocusS.f k x0).bind fun t232 => ((laws_eqLocusS.f k x9 t232).bind fun t235 => (if t235 = true then (some true) else (some false))))
def laws_FnExactNearestTo.f (k : Nat) (l0 : List (S78)) (a1 : ByteArray) : Option (Bool) := if (a1.size : Int) > 1048576 then (some true) else ((laws_szLocusS.f k l0 1048576).bind fun t219 => (if t219 < 0 then (some true) else ((laws_toLocusS.f k l0).bind fun t220 => ((spec_NearestTo.f k t220 a1).bind fun bt223 => ((laws_toLocusS.f k l0).bind fun t226 => ((impl_NearestTo.f k t226 a1).bind fun bt229 => (if bt229.1.toList = bt223.1.toList then (if bt229.2.1 = bt223.2.1 then (laws_FnExactNearestTo.j0 k l0 t226 (bt229.2.2 != bt223.2.2)) else (laws_FnExactNearestTo.j0 k l0 t226 true)) else (laws_FnExactNearestTo.j0 k l0 t226 true))))))))
theorem laws_FnExactNearestTo.mono_l : ∀ k, (∀ y0 y1 y2, LeO (laws_FnExactNearestTo.j0 k y0 y1 y2) (laws_FnExactNearestTo.j0 (k + 1) y0 y1 y2))
  | 0 => fun _ _ _ r h => by simp [laws_FnExactNearestTo.j0] at h
  | k + 1 => by
    have ih0 := laws_FnExactNearestTo.mono_l k
    · intro y0 y1 y2
      unfold laws_FnExactNearestTo.j0
      repeat' first
      | (with_reducible exact ih0 _ _ _)
      | (with_reducible exact impl_NearestTo.mono _ _ _)
      | (with_reducible exact laws_eqLocusS.mono _ _ _)
      | (with_reducible exact laws_szLocusS.mono _ _ _)
      | (with_reducible exact laws_toLocusS.mono _ _)
      | (with_reducible exact spec_NearestTo.mono _ _ _)
      | (with_reducible exact LeO.refl _)
      | (with_reducible exact LeO.none _)
      | (with_reducible refine LeO.ite ?_ ?_)
      | (with_reducible refine LeO.bind ?_ (fun _ => ?_))
      | exact ih0 _ _ _
      | exact impl_NearestTo.mono _ _ _
      | exact laws_eqLocusS.mono _ _ _
      | exact laws_szLocusS.mono _ _ _
      | exact laws_toLocusS.mono _ _
      | exact spec_NearestTo.mono _ _ _
      | exact LeO.none _
      | refine LeO.ite ?_ ?_
      | refine LeO.bind ?_ (fun _ => ?_)
theorem laws_FnExactNearestTo.mono : ∀ a0 a1 k, LeO (laws_FnExactNearestTo.f k a0 a1) (laws_FnExactNearestTo.f (k + 1) a0 a1) := by
  intro a0 a1 k
  have ih0 := laws_FnExactNearestTo.mono_l k
  unfold laws_FnExactNearestTo.f
  repeat' first
      | (with_reducible exact ih0 _ _ _)
      | (with_reducible exact impl_NearestTo.mono _ _ _)
      | (with_reducible exact laws_eqLocusS.mono _ _ _)
      | (with_reducible exact laws_szLocusS.mono _ _ _)
      | (with_reducible exact laws_toLocusS.mono _ _)
      | (with_reducible exact spec_NearestTo.mono _ _ _)
      | (with_reducible exact LeO.refl _)
      | (with_reducible exact LeO.none _)
      | (with_reducible refine LeO.ite ?_ ?_)
      | (with_reducible refine LeO.bind ?_ (fun _ => ?_))
      | exact ih0 _ _ _
      | exact impl_NearestTo.mono _ _ _
      | exact laws_eqLocusS.mono _ _ _
      | exact laws_szLocusS.mono _ _ _
      | exact laws_toLocusS.mono _ _
      | exact spec_NearestTo.mono _ _ _
      | exact LeO.none _
      | refine LeO.ite ?_ ?_
      | refine LeO.bind ?_ (fun _ => ?_)
noncomputable def laws_FnExactNearestTo.J0 (x0 : List (S78)) (x9 : List (S82)) (x50 : Bool) : Option (Bool) := lim fun k => laws_FnExactNearestTo.j0 k x0 x9 x50
theorem laws_FnExactNearestTo.J0_lim (x0 : List (S78)) (x9 : List (S82)) (x50 : Bool) : Lim (fun k => laws_FnExactNearestTo.j0 k x0 x9 x50) (laws_FnExactNearestTo.J0 x0 x9 x50) := ⟨fun k => (laws_FnExactNearestTo.mono_l k) x0 x9 x50, rfl⟩
noncomputable def laws_FnExactNearestTo.F (l0 : List (S78)) (a1 : ByteArray) : Option (Bool) := lim fun k => laws_FnExactNearestTo.f k l0 a1
theorem laws_FnExactNearestTo.F_lim (l0 : List (S78)) (a1 : ByteArray) : Lim (fun k => laws_FnExactNearestTo.f k l0 a1) (laws_FnExactNearestTo.F l0 a1) := ⟨laws_FnExactNearestTo.mono l0 a1, rfl⟩
theorem laws_FnExactNearestTo.J0_eq (x0 : List (S78)) (x9 : List (S82)) (x50 : Bool) : laws_FnExactNearestTo.J0 x0 x9 x50 = (if x50 = true then (some false) else ((laws_toLocusS.F x0).bind fun t232 => ((laws_eqLocusS.F x9 t232).bind fun t235 => (if t235 = true then (some true) else (some false))))) := by
  refine Lim.succ_eq (laws_FnExactNearestTo.J0_lim x0 x9 x50).mon ?_
  simp only [laws_FnExactNearestTo.j0]
  repeat' first
  | (with_reducible exact laws_FnExactNearestTo.J0_lim _ _ _)
  | (with_reducible exact impl_NearestTo.F_lim _ _)
  | (with_reducible exact laws_eqLocusS.F_lim _ _)
  | (with_reducible exact laws_szLocusS.F_lim _ _)
  | (with_reducible exact laws_toLocusS.F_lim _)
  | (with_reducible exact spec_NearestTo.F_lim _ _)
  | (with_reducible refine Lim.ite ?_ ?_)
  | (with_reducible refine Lim.bind ?_ (fun _ => ?_))
  | (with_reducible exact Lim.const _)
theorem laws_FnExactNearestTo.F_eq (l0 : List (S78)) (a1 : ByteArray) : laws_FnExactNearestTo.F l0 a1 = (if (a1.size : Int) > 1048576 then (some true) else ((laws_szLocusS.F l0 1048576).bind fun t219 => (if t219 < 0 then (some true) else ((laws_toLocusS.F l0).bind fun t220 => ((spec_NearestTo.F t220 a1).bind fun bt223 => ((laws_toLocusS.F l0).bind fun t226 => ((impl_NearestTo.F t226 a1).bind fun bt229 => (if bt229.1.toList = bt223.1.toList then (if bt229.2.1 = bt223.2.1 then (laws_FnExactNearestTo.J0 l0 t226 (bt229.2.2 != bt223.2.2)) else (laws_FnExactNearestTo.J0 l0 t226 true)) else (laws_FnExactNearestTo.J0 l0 t226 true))))))))) := by
  refine Lim.eq_ ?_
  simp only [laws_FnExactNearestTo.f]
  repeat' first
  | (with_reducible exact laws_FnExactNearestTo.J0_lim _ _ _)
  | (with_reducible exact impl_NearestTo.F_lim _ _)
  | (with_reducible exact laws_eqLocusS.F_lim _ _)
  | (with_reducible exact laws_szLocusS.F_lim _ _)
  | (with_reducible exact laws_toLocusS.F_lim _)
  | (with_reducible exact spec_NearestTo.F_lim _ _)
  | (with_reducible refine Lim.ite ?_ ?_)
  | (with_reducible refine Lim.bind ?_ (fun _ => ?_))
  | (with_reducible exact Lim.const _)
def Wf78 (x : S78) : Prop := x.f0.size ≤ 9223372036854775807 ∧ (Lit.int .i64 x.f1).wf = true
def laws_FnExactNearestTo.Pure : Prop := ∀ (l0 : List (S78)) (a1 : ByteArray), (l0.length ≤ 9223372036854775807 ∧ ∀ x ∈ l0, Wf78 x) → (a1.size ≤ 9223372036854775807) → ∃ k, laws_FnExactNearestTo.f k l0 a1 = some true
end Go.Proofs.Ytlnafgjjliincaa.PFnExactNearestTo
