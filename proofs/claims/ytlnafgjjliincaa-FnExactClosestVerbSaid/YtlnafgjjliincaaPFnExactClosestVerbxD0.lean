/- Written by a program of this claim's author, out of the loaded program as Lean prints it: the functions as Lean functions, and that the calls answer so. -/
import Derived.Test.YtlnafgjjliincaaPFnExactClosestVerbx0
namespace Go.Proofs.Ytlnafgjjliincaa.PFnExactClosestVerb
open Go.RowKit Go.Proofs.YtlnafgjjliincaaW.PrintWords Go.Proofs.YtlnafgjjliincaaW.PrintLast Go.Proofs.YtlnafgjjliincaaW.PrintMore
attribute [local go_sem] max2_int min2_int max_two min_two max_three min_three max_four min_four   -- for this text's walks alone
set_option linter.unusedVariables false
set_option linter.unusedSimpArgs false

def laws_szLocus.f (a0_0 : ByteArray) (a0_1 : Int) (a1 : Int) : Option (Int) := if (wrap64 (a1 - (a0_0.size : Int))) < 0 then (some (-1)) else (some (wrap64 (a1 - (a0_0.size : Int))))
def laws_szLocusS.l0 : Nat → List (S78) → Int → Int → Option (Int)
  | 0, _, _, _ => none
  | k + 1, x0, x1, x5 => if x5 < (x0.length : Int) then (if 0 ≤ x5 then ((laws_szLocus.f ((rd_T78 x0 x5).f0) ((rd_T78 x0 x5).f1) x1).bind fun t103 => (if t103 < 0 then (some (-1)) else (laws_szLocusS.l0 k x0 t103 (wrap64 (x5 + 1))))) else (none)) else (some x1)
def laws_szLocusS.f (k : Nat) (l0 : List (S78)) (a1 : Int) : Option (Int) := if (wrap64 (a1 - (l0.length : Int))) < 0 then (some (-1)) else (laws_szLocusS.l0 k l0 (wrap64 (a1 - (l0.length : Int))) 0)
theorem laws_szLocusS.mono_l : ∀ k, (∀ y0 y1 y2, LeO (laws_szLocusS.l0 k y0 y1 y2) (laws_szLocusS.l0 (k + 1) y0 y1 y2))
  | 0 => fun _ _ _ r h => by simp [laws_szLocusS.l0] at h
  | k + 1 => by
    have ih0 := laws_szLocusS.mono_l k
    · intro y0 y1 y2
      unfold laws_szLocusS.l0
      repeat' first
      | (with_reducible exact ih0 _ _ _)
      | (with_reducible exact LeO.refl _)
      | (with_reducible exact LeO.none _)
      | (with_reducible refine LeO.ite ?_ ?_)
      | (with_reducible refine LeO.bind ?_ (fun _ => ?_))
      | exact ih0 _ _ _
      | exact LeO.none _
      | refine LeO.ite ?_ ?_
      | refine LeO.bind ?_ (fun _ => ?_)
theorem laws_szLocusS.mono : ∀ a0 a1 k, LeO (laws_szLocusS.f k a0 a1) (laws_szLocusS.f (k + 1) a0 a1) := by
  intro a0 a1 k
  have ih0 := laws_szLocusS.mono_l k
  unfold laws_szLocusS.f
  repeat' first
      | (with_reducible exact ih0 _ _ _)
      | (with_reducible exact LeO.refl _)
      | (with_reducible exact LeO.none _)
      | (with_reducible refine LeO.ite ?_ ?_)
      | (with_reducible refine LeO.bind ?_ (fun _ => ?_))
      | exact ih0 _ _ _
      | exact LeO.none _
      | refine LeO.ite ?_ ?_
      | refine LeO.bind ?_ (fun _ => ?_)
noncomputable def laws_szLocusS.L0 (x0 : List (S78)) (x1 : Int) (x5 : Int) : Option (Int) := lim fun k => laws_szLocusS.l0 k x0 x1 x5
theorem laws_szLocusS.L0_lim (x0 : List (S78)) (x1 : Int) (x5 : Int) : Lim (fun k => laws_szLocusS.l0 k x0 x1 x5) (laws_szLocusS.L0 x0 x1 x5) := ⟨fun k => (laws_szLocusS.mono_l k) x0 x1 x5, rfl⟩
noncomputable def laws_szLocusS.F (l0 : List (S78)) (a1 : Int) : Option (Int) := lim fun k => laws_szLocusS.f k l0 a1
theorem laws_szLocusS.F_lim (l0 : List (S78)) (a1 : Int) : Lim (fun k => laws_szLocusS.f k l0 a1) (laws_szLocusS.F l0 a1) := ⟨laws_szLocusS.mono l0 a1, rfl⟩
theorem laws_szLocusS.L0_eq (x0 : List (S78)) (x1 : Int) (x5 : Int) : laws_szLocusS.L0 x0 x1 x5 = (if x5 < (x0.length : Int) then (if 0 ≤ x5 then ((laws_szLocus.f ((rd_T78 x0 x5).f0) ((rd_T78 x0 x5).f1) x1).bind fun t103 => (if t103 < 0 then (some (-1)) else (laws_szLocusS.L0 x0 t103 (wrap64 (x5 + 1))))) else (none)) else (some x1)) := by
  refine Lim.succ_eq (laws_szLocusS.L0_lim x0 x1 x5).mon ?_
  simp only [laws_szLocusS.l0]
  repeat' first
  | (with_reducible exact laws_szLocusS.L0_lim _ _ _)
  | (with_reducible refine Lim.ite ?_ ?_)
  | (with_reducible refine Lim.bind ?_ (fun _ => ?_))
  | (with_reducible exact Lim.const _)
theorem laws_szLocusS.F_eq (l0 : List (S78)) (a1 : Int) : laws_szLocusS.F l0 a1 = (if (wrap64 (a1 - (l0.length : Int))) < 0 then (some (-1)) else (laws_szLocusS.L0 l0 (wrap64 (a1 - (l0.length : Int))) 0)) := by
  refine Lim.eq_ ?_
  simp only [laws_szLocusS.f]
  repeat' first
  | (with_reducible exact laws_szLocusS.L0_lim _ _ _)
  | (with_reducible refine Lim.ite ?_ ?_)
  | (with_reducible refine Lim.bind ?_ (fun _ => ?_))
  | (with_reducible exact Lim.const _)
def laws_toLocus.f (a0_0 : ByteArray) (a0_1 : Int) : Option (ByteArray × Int) := some (a0_0, a0_1)
def laws_toLocusS.l0 : Nat → List (S78) → List (S82) → Int → Option ((List (S82)))
  | 0, _, _, _ => none
  | k + 1, x0, x3, x4 => if x4 < (x0.length : Int) then (if 0 ≤ x4 then ((laws_toLocus.f ((rd_T78 x0 x4).f0) ((rd_T78 x0 x4).f1)).bind fun bt111 => (if x4 < (x3.length : Int) then (laws_toLocusS.l0 k x0 (x3.set (x4 : Int).toNat (⟨bt111.1, bt111.2⟩ : S82)) (wrap64 (x4 + 1))) else (none))) else (none)) else (some x3)
def laws_toLocusS.f (k : Nat) (l0 : List (S78)) : Option ((List (S82))) := if 0 ≤ (l0.length : Int) then (if ((l0.length : Int) : Int).toNat ≤ 11728124029610 then (laws_toLocusS.l0 k l0 (List.replicate ((l0.length : Int) : Int).toNat z82) 0) else (none)) else (none)
theorem laws_toLocusS.mono_l : ∀ k, (∀ y0 y1 y2, LeO (laws_toLocusS.l0 k y0 y1 y2) (laws_toLocusS.l0 (k + 1) y0 y1 y2))
  | 0 => fun _ _ _ r h => by simp [laws_toLocusS.l0] at h
  | k + 1 => by
    have ih0 := laws_toLocusS.mono_l k
    · intro y0 y1 y2
      unfold laws_toLocusS.l0
      repeat' first
      | (with_reducible exact ih0 _ _ _)
      | (with_reducible exact LeO.refl _)
      | (with_reducible exact LeO.none _)
      | (with_reducible refine LeO.ite ?_ ?_)
      | (with_reducible refine LeO.bind ?_ (fun _ => ?_))
      | exact ih0 _ _ _
      | exact LeO.none _
      | refine LeO.ite ?_ ?_
      | refine LeO.bind ?_ (fun _ => ?_)
theorem laws_toLocusS.mono : ∀ a0 k, LeO (laws_toLocusS.f k a0) (laws_toLocusS.f (k + 1) a0) := by
  intro a0 k
  have ih0 := laws_toLocusS.mono_l k
  unfold laws_toLocusS.f
  repeat' first
      | (with_reducible exact ih0 _ _ _)
      | (with_reducible exact LeO.refl _)
      | (with_reducible exact LeO.none _)
      | (with_reducible refine LeO.ite ?_ ?_)
      | (with_reducible refine LeO.bind ?_ (fun _ => ?_))
      | exact ih0 _ _ _
      | exact LeO.none _
      | refine LeO.ite ?_ ?_
      | refine LeO.bind ?_ (fun _ => ?_)
noncomputable def laws_toLocusS.L0 (x0 : List (S78)) (x3 : List (S82)) (x4 : Int) : Option ((List (S82))) := lim fun k => laws_toLocusS.l0 k x0 x3 x4
theorem laws_toLocusS.L0_lim (x0 : List (S78)) (x3 : List (S82)) (x4 : Int) : Lim (fun k => laws_toLocusS.l0 k x0 x3 x4) (laws_toLocusS.L0 x0 x3 x4) := ⟨fun k => (laws_toLocusS.mono_l k) x0 x3 x4, rfl⟩
noncomputable def laws_toLocusS.F (l0 : List (S78)) : Option ((List (S82))) := lim fun k => laws_toLocusS.f k l0
theorem laws_toLocusS.F_lim (l0 : List (S78)) : Lim (fun k => laws_toLocusS.f k l0) (laws_toLocusS.F l0) := ⟨laws_toLocusS.mono l0, rfl⟩
theorem laws_toLocusS.L0_eq (x0 : List (S78)) (x3 : List (S82)) (x4 : Int) : laws_toLocusS.L0 x0 x3 x4 = (if x4 < (x0.length : Int) then (if 0 ≤ x4 then ((laws_toLocus.f ((rd_T78 x0 x4).f0) ((rd_T78 x0 x4).f1)).bind fun bt111 => (if x4 < (x3.length : Int) then (laws_toLocusS.L0 x0 (x3.set (x4 : Int).toNat (⟨bt111.1, bt111.2⟩ : S82)) (wrap64 (x4 + 1))) else (none))) else (none)) else (some x3)) := by
  refine Lim.succ_eq (laws_toLocusS.L0_lim x0 x3 x4).mon ?_
  simp only [laws_toLocusS.l0]
  repeat' first
  | (with_reducible exact laws_toLocusS.L0_lim _ _ _)
  | (with_reducible refine Lim.ite ?_ ?_)
  | (with_reducible refine Lim.bind ?_ (fun _ => ?_))
  | (with_reducible exact Lim.const _)
theorem laws_toLocusS.F_eq (l0 : List (S78)) : laws_toLocusS.F l0 = (if 0 ≤ (l0.length : Int) then (if ((l0.length : Int) : Int).toNat ≤ 11728124029610 then (laws_toLocusS.L0 l0 (List.replicate ((l0.length : Int) : Int).toNat z82) 0) else (none)) else (none)) := by
  refine Lim.eq_ ?_
  simp only [laws_toLocusS.f]
  repeat' first
  | (with_reducible exact laws_toLocusS.L0_lim _ _ _)
  | (with_reducible refine Lim.ite ?_ ?_)
  | (with_reducible refine Lim.bind ?_ (fun _ => ?_))
  | (with_reducible exact Lim.const _)
def laws_eqLocus.f (a0_0 : ByteArray) (a0_1 : Int) (a1_0 : ByteArray) (a1_1 : Int) : Option (Bool) := if a0_0.toList = a1_0.toList then (if a0_1 = a1_1 then (some true) else (some false)) else (some false)
def laws_eqLocusS.l0 : Nat → List (S82) → List (S82) → Int → Option (Bool)
  | 0, _, _, _ => none
  | k + 1, x0, x1, x5 => if x5 < (x0.length : Int) then (if 0 ≤ x5 then (if x5 < (x1.length : Int) then ((laws_eqLocus.f ((rd_T82 x0 x5).f0) ((rd_T82 x0 x5).f1) ((rd_T82 x1 x5).f0) ((rd_T82 x1 x5).f1)).bind fun t118 => (if t118 = true then (laws_eqLocusS.l0 k x0 x1 (wrap64 (x5 + 1))) else (some false))) else (none)) else (none)) else (some true)
def laws_eqLocusS.f (k : Nat) (l0 : List (S82)) (l1 : List (S82)) : Option (Bool) := if (l0.length : Int) = (l1.length : Int) then (laws_eqLocusS.l0 k l0 l1 0) else (some false)
theorem laws_eqLocusS.mono_l : ∀ k, (∀ y0 y1 y2, LeO (laws_eqLocusS.l0 k y0 y1 y2) (laws_eqLocusS.l0 (k + 1) y0 y1 y2))
  | 0 => fun _ _ _ r h => by simp [laws_eqLocusS.l0] at h
  | k + 1 => by
    have ih0 := laws_eqLocusS.mono_l k
    · intro y0 y1 y2
      unfold laws_eqLocusS.l0
      repeat' first
      | (with_reducible exact ih0 _ _ _)
      | (with_reducible exact LeO.refl _)
      | (with_reducible exact LeO.none _)
      | (with_reducible refine LeO.ite ?_ ?_)
      | (with_reducible refine LeO.bind ?_ (fun _ => ?_))
      | exact ih0 _ _ _
      | exact LeO.none _
      | refine LeO.ite ?_ ?_
      | refine LeO.bind ?_ (fun _ => ?_)
theorem laws_eqLocusS.mono : ∀ a0 a1 k, LeO (laws_eqLocusS.f k a0 a1) (laws_eqLocusS.f (k + 1) a0 a1) := by
  intro a0 a1 k
  have ih0 := laws_eqLocusS.mono_l k
  unfold laws_eqLocusS.f
  repeat' first
      | (with_reducible exact ih0 _ _ _)
      | (with_reducible exact LeO.refl _)
      | (with_reducible exact LeO.none _)
      | (with_reducible refine LeO.ite ?_ ?_)
      | (with_reducible refine LeO.bind ?_ (fun _ => ?_))
      | exact ih0 _ _ _
      | exact LeO.none _
      | refine LeO.ite ?_ ?_
      | refine LeO.bind ?_ (fun _ => ?_)
noncomputable def laws_eqLocusS.L0 (x0 : List (S82)) (x1 : List (S82)) (x5 : Int) : Option (Bool) := lim fun k => laws_eqLocusS.l0 k x0 x1 x5
theorem laws_eqLocusS.L0_lim (x0 : List (S82)) (x1 : List (S82)) (x5 : Int) : Lim (fun k => laws_eqLocusS.l0 k x0 x1 x5) (laws_eqLocusS.L0 x0 x1 x5) := ⟨fun k => (laws_eqLocusS.mono_l k) x0 x1 x5, rfl⟩
noncomputable def laws_eqLocusS.F (l0 : List (S82)) (l1 : List (S82)) : Option (Bool) := lim fun k => laws_eqLocusS.f k l0 l1
theorem laws_eqLocusS.F_lim (l0 : List (S82)) (l1 : List (S82)) : Lim (fun k => laws_eqLocusS.f k l0 l1) (laws_eqLocusS.F l0 l1) := ⟨laws_eqLocusS.mono l0 l1, rfl⟩
theorem laws_eqLocusS.L0_eq (x0 : List (S82)) (x1 : List (S82)) (x5 : Int) : laws_eqLocusS.L0 x0 x1 x5 = (if x5 < (x0.length : Int) then (if 0 ≤ x5 then (if x5 < (x1.length : Int) then ((laws_eqLocus.f ((rd_T82 x0 x5).f0) ((rd_T82 x0 x5).f1) ((rd_T82 x1 x5).f0) ((rd_T82 x1 x5).f1)).bind fun t118 => (if t118 = true then (laws_eqLocusS.L0 x0 x1 (wrap64 (x5 + 1))) else (some false))) else (none)) else (none)) else (some true)) := by
  refine Lim.succ_eq (laws_eqLocusS.L0_lim x0 x1 x5).mon ?_
  simp only [laws_eqLocusS.l0]
  repeat' first
  | (with_reducible exact laws_eqLocusS.L0_lim _ _ _)
  | (with_reducible refine Lim.ite ?_ ?_)
  | (with_reducible refine Lim.bind ?_ (fun _ => ?_))
  | (with_reducible exact Lim.const _)
theorem laws_eqLocusS.F_eq (l0 : List (S82)) (l1 : List (S82)) : laws_eqLocusS.F l0 l1 = (if (l0.length : Int) = (l1.length : Int) then (laws_eqLocusS.L0 l0 l1 0) else (some false)) := by
  refine Lim.eq_ ?_
  simp only [laws_eqLocusS.f]
  repeat' first
  | (with_reducible exact laws_eqLocusS.L0_lim _ _ _)
  | (with_reducible refine Lim.ite ?_ ?_)
  | (with_reducible refine Lim.bind ?_ (fun _ => ?_))
  | (with_reducible exact Lim.const _)
def laws_szVerb.f (a0_0 : ByteArray) (a0_1 : Int) (a0_2 : Int) (a1 : Int) : Option (Int) := if (wrap64 (a1 - (a0_0.size : Int))) < 0 then (some (-1)) else (some (wrap64 (a1 - (a0_0.size : Int))))
def laws_szVerbS.l0 : Nat → List (S46) → Int → Int → Option (Int)
  | 0, _, _, _ => none
  | k + 1, x0, x1, x5 => if x5 < (x0.length : Int) then (if 0 ≤ x5 then ((laws_szVerb.f ((rd_T46 x0 x5).f0) ((rd_T46 x0 x5).f1) ((rd_T46 x0 x5).f2) x1).bind fun t121 => (if t121 < 0 then (some (-1)) else (laws_szVerbS.l0 k x0 t121 (wrap64 (x5 + 1))))) else (none)) else (some x1)
def laws_szVerbS.f (k : Nat) (l0 : List (S46)) (a1 : Int) : Option (Int) := if (wrap64 (a1 - (l0.length : Int))) < 0 then (some (-1)) else (laws_szVerbS.l0 k l0 (wrap64 (a1 - (l0.length : Int))) 0)
theorem laws_szVerbS.mono_l : ∀ k, (∀ y0 y1 y2, LeO (laws_szVerbS.l0 k y0 y1 y2) (laws_szVerbS.l0 (k + 1) y0 y1 y2))
  | 0 => fun _ _ _ r h => by simp [laws_szVerbS.l0] at h
  | k + 1 => by
    have ih0 := laws_szVerbS.mono_l k
    · intro y0 y1 y2
      unfold laws_szVerbS.l0
      repeat' first
      | (with_reducible exact ih0 _ _ _)
      | (with_reducible exact LeO.refl _)
      | (with_reducible exact LeO.none _)
      | (with_reducible refine LeO.ite ?_ ?_)
      | (with_reducible refine LeO.bind ?_ (fun _ => ?_))
      | exact ih0 _ _ _
      | exact LeO.none _
      | refine LeO.ite ?_ ?_
      | refine LeO.bind ?_ (fun _ => ?_)
theorem laws_szVerbS.mono : ∀ a0 a1 k, LeO (laws_szVerbS.f k a0 a1) (laws_szVerbS.f (k + 1) a0 a1) := by
  intro a0 a1 k
  have ih0 := laws_szVerbS.mono_l k
  unfold laws_szVerbS.f
  repeat' first
      | (with_reducible exact ih0 _ _ _)
      | (with_reducible exact LeO.refl _)
      | (with_reducible exact LeO.none _)
      | (with_reducible refine LeO.ite ?_ ?_)
      | (with_reducible refine LeO.bind ?_ (fun _ => ?_))
      | exact ih0 _ _ _
      | exact LeO.none _
      | refine LeO.ite ?_ ?_
      | refine LeO.bind ?_ (fun _ => ?_)
noncomputable def laws_szVerbS.L0 (x0 : List (S46)) (x1 : Int) (x5 : Int) : Option (Int) := lim fun k => laws_szVerbS.l0 k x0 x1 x5
theorem laws_szVerbS.L0_lim (x0 : List (S46)) (x1 : Int) (x5 : Int) : Lim (fun k => laws_szVerbS.l0 k x0 x1 x5) (laws_szVerbS.L0 x0 x1 x5) := ⟨fun k => (laws_szVerbS.mono_l k) x0 x1 x5, rfl⟩
noncomputable def laws_szVerbS.F (l0 : List (S46)) (a1 : Int) : Option (Int) := lim fun k => laws_szVerbS.f k l0 a1
theorem laws_szVerbS.F_lim (l0 : List (S46)) (a1 : Int) : Lim (fun k => laws_szVerbS.f k l0 a1) (laws_szVerbS.F l0 a1) := ⟨laws_szVerbS.mono l0 a1, rfl⟩
theorem laws_szVerbS.L0_eq (x0 : List (S46)) (x1 : Int) (x5 : Int) : laws_szVerbS.L0 x0 x1 x5 = (if x5 < (x0.length : Int) then (if 0 ≤ x5 then ((laws_szVerb.f ((rd_T46 x0 x5).f0) ((rd_T46 x0 x5).f1) ((rd_T46 x0 x5).f2) x1).bind fun t121 => (if t121 < 0 then (some (-1)) else (laws_szVerbS.L0 x0 t121 (wrap64 (x5 + 1))))) else (none)) else (some x1)) := by
  refine Lim.succ_eq (laws_szVerbS.L0_lim x0 x1 x5).mon ?_
  simp only [laws_szVerbS.l0]
  repeat' first
  | (with_reducible exact laws_szVerbS.L0_lim _ _ _)
  | (with_reducible refine Lim.ite ?_ ?_)
  | (with_reducible refine Lim.bind ?_ (fun _ => ?_))
  | (with_reducible exact Lim.const _)
theorem laws_szVerbS.F_eq (l0 : List (S46)) (a1 : Int) : laws_szVerbS.F l0 a1 = (if (wrap64 (a1 - (l0.length : Int))) < 0 then (some (-1)) else (laws_szVerbS.L0 l0 (wrap64 (a1 - (l0.length : Int))) 0)) := by
  refine Lim.eq_ ?_
  simp only [laws_szVerbS.f]
  repeat' first
  | (with_reducible exact laws_szVerbS.L0_lim _ _ _)
  | (with_reducible refine Lim.ite ?_ ?_)
  | (with_reducible refine Lim.bind ?_ (fun _ => ?_))
  | (with_reducible exact Lim.const _)
def spec_loFind.l0 : Nat → ByteArray → List (S82) → Int → Int → Option (Int)
  | 0, _, _, _, _ => none
  | k + 1, x1, x7, x8, x9 => if x9 < x8 then (if 0 ≤ x9 then (if x9 < (x7.length : Int) then (if ((rd_T82 x7 x9).f0).toList = x1.toList then (some x9) else (spec_loFind.l0 k x1 x7 x8 (wrap64 (x9 + 1)))) else (none)) else (none)) else (some (-1))
def spec_loFind.f (k : Nat) (l0 : List (S82)) (a1 : ByteArray) : Option (Int) := spec_loFind.l0 k a1 l0 (l0.length : Int) 0
theorem spec_loFind.mono_l : ∀ k, (∀ y0 y1 y2 y3, LeO (spec_loFind.l0 k y0 y1 y2 y3) (spec_loFind.l0 (k + 1) y0 y1 y2 y3))
  | 0 => fun _ _ _ _ r h => by simp [spec_loFind.l0] at h
  | k + 1 => by
    have ih0 := spec_loFind.mono_l k
    · intro y0 y1 y2 y3
      unfold spec_loFind.l0
      repeat' first
      | (with_reducible exact ih0 _ _ _ _)
      | (with_reducible exact LeO.refl _)
      | (with_reducible exact LeO.none _)
      | (with_reducible refine LeO.ite ?_ ?_)
      | (with_reducible refine LeO.bind ?_ (fun _ => ?_))
      | exact ih0 _ _ _ _
      | exact LeO.none _
      | refine LeO.ite ?_ ?_
      | refine LeO.bind ?_ (fun _ => ?_)
theorem spec_loFind.mono : ∀ a0 a1 k, LeO (spec_loFind.f k a0 a1) (spec_loFind.f (k + 1) a0 a1) := by
  intro a0 a1 k
  have ih0 := spec_loFind.mono_l k
  unfold spec_loFind.f
  repeat' first
      | (with_reducible exact ih0 _ _ _ _)
      | (with_reducible exact LeO.refl _)
      | (with_reducible exact LeO.none _)
      | (with_reducible refine LeO.ite ?_ ?_)
      | (with_reducible refine LeO.bind ?_ (fun _ => ?_))
      | exact ih0 _ _ _ _
      | exact LeO.none _
      | refine LeO.ite ?_ ?_
      | refine LeO.bind ?_ (fun _ => ?_)
noncomputable def spec_loFind.L0 (x1 : ByteArray) (x7 : List (S82)) (x8 : Int) (x9 : Int) : Option (Int) := lim fun k => spec_loFind.l0 k x1 x7 x8 x9
theorem spec_loFind.L0_lim (x1 : ByteArray) (x7 : List (S82)) (x8 : Int) (x9 : Int) : Lim (fun k => spec_loFind.l0 k x1 x7 x8 x9) (spec_loFind.L0 x1 x7 x8 x9) := ⟨fun k => (spec_loFind.mono_l k) x1 x7 x8 x9, rfl⟩
noncomputable def spec_loFind.F (l0 : List (S82)) (a1 : ByteArray) : Option (Int) := lim fun k => spec_loFind.f k l0 a1
theorem spec_loFind.F_lim (l0 : List (S82)) (a1 : ByteArray) : Lim (fun k => spec_loFind.f k l0 a1) (spec_loFind.F l0 a1) := ⟨spec_loFind.mono l0 a1, rfl⟩
theorem spec_loFind.L0_eq (x1 : ByteArray) (x7 : List (S82)) (x8 : Int) (x9 : Int) : spec_loFind.L0 x1 x7 x8 x9 = (if x9 < x8 then (if 0 ≤ x9 then (if x9 < (x7.length : Int) then (if ((rd_T82 x7 x9).f0).toList = x1.toList then (some x9) else (spec_loFind.L0 x1 x7 x8 (wrap64 (x9 + 1)))) else (none)) else (none)) else (some (-1))) := by
  refine Lim.succ_eq (spec_loFind.L0_lim x1 x7 x8 x9).mon ?_
  simp only [spec_loFind.l0]
  repeat' first
  | (with_reducible exact spec_loFind.L0_lim _ _ _ _)
  | (with_reducible refine Lim.ite ?_ ?_)
  | (with_reducible refine Lim.bind ?_ (fun _ => ?_))
  | (with_reducible exact Lim.const _)
theorem spec_loFind.F_eq (l0 : List (S82)) (a1 : ByteArray) : spec_loFind.F l0 a1 = (spec_loFind.L0 a1 l0 (l0.length : Int) 0) := by
  refine Lim.eq_ ?_
  simp only [spec_loFind.f]
  repeat' first
  | (with_reducible exact spec_loFind.L0_lim _ _ _ _)
  | (with_reducible refine Lim.ite ?_ ?_)
  | (with_reducible refine Lim.bind ?_ (fun _ => ?_))
  | (with_reducible exact Lim.const _)
def spec_l1In.f (a0 : Int) (a1 : Int) (a2 : Int) : Option (Bool) := if a0 ≥ a1 then (some (decide (a0 ≤ a2))) else (some false)
def spec_loAngle.f (a0 : Int) : Option (Bool) := (spec_l1In.f a0 (-90) 90).bind fun t124 => (some t124)
def spec_naName.l0 : Nat → ByteArray → Int → Option (Bool)
  | 0, _, _ => none
  | k + 1, x0, x3 => if x3 < (x0.size : Int) then (if 0 ≤ x3 then (if (bt x0 x3) < 97 then (some false) else (if (bt x0 x3) > 122 then (some false) else (spec_naName.l0 k x0 (wrap64 (x3 + 1))))) else (none)) else ((spec_l1In.f (x0.size : Int) 1 8).bind fun t125 => (some t125))
def spec_naName.f (k : Nat) (a0 : ByteArray) : Option (Bool) := spec_naName.l0 k a0 0
theorem spec_naName.mono_l : ∀ k, (∀ y0 y1, LeO (spec_naName.l0 k y0 y1) (spec_naName.l0 (k + 1) y0 y1))
  | 0 => fun _ _ r h => by simp [spec_naName.l0] at h
  | k + 1 => by
    have ih0 := spec_naName.mono_l k
    · intro y0 y1
      unfold spec_naName.l0
      repeat' first
      | (with_reducible exact ih0 _ _)
      | (with_reducible exact LeO.refl _)
      | (with_reducible exact LeO.none _)
      | (with_reducible refine LeO.ite ?_ ?_)
      | (with_reducible refine LeO.bind ?_ (fun _ => ?_))
      | exact ih0 _ _
      | exact LeO.none _
      | refine LeO.ite ?_ ?_
      | refine LeO.bind ?_ (fun _ => ?_)
theorem spec_naName.mono : ∀ a0 k, LeO (spec_naName.f k a0) (spec_naName.f (k + 1) a0) := by
  intro a0 k
  have ih0 := spec_naName.mono_l k
  unfold spec_naName.f
  repeat' first
      | (with_reducible exact ih0 _ _)
      | (with_reducible exact LeO.refl _)
      | (with_reducible exact LeO.none _)
      | (with_reducible refine LeO.ite ?_ ?_)
      | (with_reducible refine LeO.bind ?_ (fun _ => ?_))
      | exact ih0 _ _
      | exact LeO.none _
      | refine LeO.ite ?_ ?_
      | refine LeO.bind ?_ (fun _ => ?_)
noncomputable def spec_naName.L0 (x0 : ByteArray) (x3 : Int) : Option (Bool) := lim fun k => spec_naName.l0 k x0 x3
theorem spec_naName.L0_lim (x0 : ByteArray) (x3 : Int) : Lim (fun k => spec_naName.l0 k x0 x3) (spec_naName.L0 x0 x3) := ⟨fun k => (spec_naName.mono_l k) x0 x3, rfl⟩
noncomputable def spec_naName.F (a0 : ByteArray) : Option (Bool) := lim fun k => spec_naName.f k a0
theorem spec_naName.F_lim (a0 : ByteArray) : Lim (fun k => spec_naName.f k a0) (spec_naName.F a0) := ⟨spec_naName.mono a0, rfl⟩
theorem spec_naName.L0_eq (x0 : ByteArray) (x3 : Int) : spec_naName.L0 x0 x3 = (if x3 < (x0.size : Int) then (if 0 ≤ x3 then (if (bt x0 x3) < 97 then (some false) else (if (bt x0 x3) > 122 then (some false) else (spec_naName.L0 x0 (wrap64 (x3 + 1))))) else (none)) else ((spec_l1In.f (x0.size : Int) 1 8).bind fun t125 => (some t125))) := by
  refine Lim.succ_eq (spec_naName.L0_lim x0 x3).mon ?_
  simp only [spec_naName.l0]
  repeat' first
  | (with_reducible exact spec_naName.L0_lim _ _)
  | (with_reducible refine Lim.ite ?_ ?_)
  | (with_reducible refine Lim.bind ?_ (fun _ => ?_))
  | (with_reducible exact Lim.const _)
theorem spec_naName.F_eq (a0 : ByteArray) : spec_naName.F a0 = (spec_naName.L0 a0 0) := by
  refine Lim.eq_ ?_
  simp only [spec_naName.f]
  repeat' first
  | (with_reducible exact spec_naName.L0_lim _ _)
  | (with_reducible refine Lim.ite ?_ ?_)
  | (with_reducible refine Lim.bind ?_ (fun _ => ?_))
  | (with_reducible exact Lim.const _)
def spec_loGood.l0 : Nat → List (S82) → List (S82) → Int → Int → Option (Bool)
  | 0, _, _, _, _ => none
  | k + 1, x0, x5, x6, x7 => if x7 < x6 then (if 0 ≤ x7 then (if x7 < (x5.length : Int) then ((spec_naName.f k ((rd_T82 x5 x7).f0)).bind fun t128 => (if t128 = true then ((spec_loAngle.f ((rd_T82 x5 x7).f1)).bind fun t129 => (if t129 = true then (if x7 > 0 then (if 0 ≤ (wrap64 (x7 - 1)) then (if (wrap64 (x7 - 1)) < (x0.length : Int) then (if ((rd_T82 x0 (wrap64 (x7 - 1))).f1) ≥ ((rd_T82 x5 x7).f1) then (some false) else (if x7 ≤ (x0.length : Int) then ((spec_loFind.f k (x0.take (x7 : Int).toNat) ((rd_T82 x5 x7).f0)).bind fun t135 => (if t135 ≥ 0 then (some false) else (spec_loGood.l0 k x0 x5 x6 (wrap64 (x7 + 1))))) else (none))) else (none)) else (none)) else (if x7 ≤ (x0.length : Int) then ((spec_loFind.f k (x0.take (x7 : Int).toNat) ((rd_T82 x5 x7).f0)).bind fun t140 => (if t140 ≥ 0 then (some false) else (spec_loGood.l0 k x0 x5 x6 (wrap64 (x7 + 1))))) else (none))) else (some false))) else (some false))) else (none)) else (none)) else (some (decide ((x0.length : Int) ≤ 8)))
def spec_loGood.f (k : Nat) (l0 : List (S82)) : Option (Bool) := spec_loGood.l0 k l0 l0 (l0.length : Int) 0
theorem spec_loGood.mono_l : ∀ k, (∀ y0 y1 y2 y3, LeO (spec_loGood.l0 k y0 y1 y2 y3) (spec_loGood.l0 (k + 1) y0 y1 y2 y3))
  | 0 => fun _ _ _ _ r h => by simp [spec_loGood.l0] at h
  | k + 1 => by
    have ih0 := spec_loGood.mono_l k
    · intro y0 y1 y2 y3
      unfold spec_loGood.l0
      repeat' first
      | (with_reducible exact ih0 _ _ _ _)
      | (with_reducible exact spec_loFind.mono _ _ _)
      | (with_reducible exact spec_naName.mono _ _)
      | (with_reducible exact LeO.refl _)
      | (with_reducible exact LeO.none _)
      | (with_reducible refine LeO.ite ?_ ?_)
      | (with_reducible refine LeO.bind ?_ (fun _ => ?_))
      | exact ih0 _ _ _ _
      | exact spec_loFind.mono _ _ _
      | exact spec_naName.mono _ _
      | exact LeO.none _
      | refine LeO.ite ?_ ?_
      | refine LeO.bind ?_ (fun _ => ?_)
theorem spec_loGood.mono : ∀ a0 k, LeO (spec_loGood.f k a0) (spec_loGood.f (k + 1) a0) := by
  intro a0 k
  have ih0 := spec_loGood.mono_l k
  unfold spec_loGood.f
  repeat' first
      | (with_reducible exact ih0 _ _ _ _)
      | (with_reducible exact spec_loFind.mono _ _ _)
      | (with_reducible exact spec_naName.mono _ _)
      | (with_reducible exact LeO.refl _)
      | (with_reducible exact LeO.none _)
      | (with_reducible refine LeO.ite ?_ ?_)
      | (with_reducible refine LeO.bind ?_ (fun _ => ?_))
      | exact ih0 _ _ _ _
      | exact spec_loFind.mono _ _ _
      | exact spec_naName.mono _ _
      | exact LeO.none _
      | refine LeO.ite ?_ ?_
      | refine LeO.bind ?_ (fun _ => ?_)
noncomputable def spec_loGood.L0 (x0 : List (S82)) (x5 : List (S82)) (x6 : Int) (x7 : Int) : Option (Bool) := lim fun k => spec_loGood.l0 k x0 x5 x6 x7
theorem spec_loGood.L0_lim (x0 : List (S82)) (x5 : List (S82)) (x6 : Int) (x7 : Int) : Lim (fun k => spec_loGood.l0 k x0 x5 x6 x7) (spec_loGood.L0 x0 x5 x6 x7) := ⟨fun k => (spec_loGood.mono_l k) x0 x5 x6 x7, rfl⟩
noncomputable def spec_loGood.F (l0 : List (S82)) : Option (Bool) := lim fun k => spec_loGood.f k l0
theorem spec_loGood.F_lim (l0 : List (S82)) : Lim (fun k => spec_loGood.f k l0) (spec_loGood.F l0) := ⟨spec_loGood.mono l0, rfl⟩
theorem spec_loGood.L0_eq (x0 : List (S82)) (x5 : List (S82)) (x6 : Int) (x7 : Int) : spec_loGood.L0 x0 x5 x6 x7 = (if x7 < x6 then (if 0 ≤ x7 then (if x7 < (x5.length : Int) then ((spec_naName.F ((rd_T82 x5 x7).f0)).bind fun t128 => (if t128 = true then ((spec_loAngle.f ((rd_T82 x5 x7).f1)).bind fun t129 => (if t129 = true then (if x7 > 0 then (if 0 ≤ (wrap64 (x7 - 1)) then (if (wrap64 (x7 - 1)) < (x0.length : Int) then (if ((rd_T82 x0 (wrap64 (x7 - 1))).f1) ≥ ((rd_T82 x5 x7).f1) then (some false) else (if x7 ≤ (x0.length : Int) then ((spec_loFind.F (x0.take (x7 : Int).toNat) ((rd_T82 x5 x7).f0)).bind fun t135 => (if t135 ≥ 0 then (some false) else (spec_loGood.L0 x0 x5 x6 (wrap64 (x7 + 1))))) else (none))) else (none)) else (none)) else (if x7 ≤ (x0.length : Int) then ((spec_loFind.F (x0.take (x7 : Int).toNat) ((rd_T82 x5 x7).f0)).bind fun t140 => (if t140 ≥ 0 then (some false) else (spec_loGood.L0 x0 x5 x6 (wrap64 (x7 + 1))))) else (none))) else (some false))) else (some false))) else (none)) else (none)) else (some (decide ((x0.length : Int) ≤ 8)))) := by
  refine Lim.succ_eq (spec_loGood.L0_lim x0 x5 x6 x7).mon ?_
  simp only [spec_loGood.l0]
  repeat' first
  | (with_reducible exact spec_loGood.L0_lim _ _ _ _)
  | (with_reducible exact spec_loFind.F_lim _ _)
  | (with_reducible exact spec_naName.F_lim _)
  | (with_reducible refine Lim.ite ?_ ?_)
  | (with_reducible refine Lim.bind ?_ (fun _ => ?_))
  | (with_reducible exact Lim.const _)
theorem spec_loGood.F_eq (l0 : List (S82)) : spec_loGood.F l0 = (spec_loGood.L0 l0 l0 (l0.length : Int) 0) := by
  refine Lim.eq_ ?_
  simp only [spec_loGood.f]
  repeat' first
  | (with_reducible exact spec_loGood.L0_lim _ _ _ _)
  | (with_reducible exact spec_loFind.F_lim _ _)
  | (with_reducible exact spec_naName.F_lim _)
  | (with_reducible refine Lim.ite ?_ ?_)
  | (with_reducible refine Lim.bind ?_ (fun _ => ?_))
  | (with_reducible exact Lim.const _)
def spec_fsWord.l0 : Nat → ByteArray → Int → Option (Bool)
  | 0, _, _ => none
  | k + 1, x0, x3 => if x3 < (x0.size : Int) then (if 0 ≤ x3 then (if (bt x0 x3) < 65 then (some false) else (if (bt x0 x3) > 90 then (some false) else (spec_fsWord.l0 k x0 (wrap64 (x3 + 1))))) else (none)) else ((spec_l1In.f (x0.size : Int) 1 8).bind fun t141 => (some t141))
def spec_fsWord.f (k : Nat) (a0 : ByteArray) : Option (Bool) := spec_fsWord.l0 k a0 0
theorem spec_fsWord.mono_l : ∀ k, (∀ y0 y1, LeO (spec_fsWord.l0 k y0 y1) (spec_fsWord.l0 (k + 1) y0 y1))
  | 0 => fun _ _ r h => by simp [spec_fsWord.l0] at h
  | k + 1 => by
    have ih0 := spec_fsWord.mono_l k
    · intro y0 y1
      unfold spec_fsWord.l0
      repeat' first
      | (with_reducible exact ih0 _ _)
      | (with_reducible exact LeO.refl _)
      | (with_reducible exact LeO.none _)
      | (with_reducible refine LeO.ite ?_ ?_)
      | (with_reducible refine LeO.bind ?_ (fun _ => ?_))
      | exact ih0 _ _
      | exact LeO.none _
      | refine LeO.ite ?_ ?_
      | refine LeO.bind ?_ (fun _ => ?_)
theorem spec_fsWord.mono : ∀ a0 k, LeO (spec_fsWord.f k a0) (spec_fsWord.f (k + 1) a0) := by
  intro a0 k
  have ih0 := spec_fsWord.mono_l k
  unfold spec_fsWord.f
  repeat' first
      | (with_reducible exact ih0 _ _)
      | (with_reducible exact LeO.refl _)
      | (with_reducible exact LeO.none _)
      | (with_reducible refine LeO.ite ?_ ?_)
      | (with_reducible refine LeO.bind ?_ (fun _ => ?_))
      | exact ih0 _ _
      | exact LeO.none _
      | refine LeO.ite ?_ ?_
      | refine LeO.bind ?_ (fun _ => ?_)
noncomputable def spec_fsWord.L0 (x0 : ByteArray) (x3 : Int) : Option (Bool) := lim fun k => spec_fsWord.l0 k x0 x3
theorem spec_fsWord.L0_lim (x0 : ByteArray) (x3 : Int) : Lim (fun k => spec_fsWord.l0 k x0 x3) (spec_fsWord.L0 x0 x3) := ⟨fun k => (spec_fsWord.mono_l k) x0 x3, rfl⟩
noncomputable def spec_fsWord.F (a0 : ByteArray) : Option (Bool) := lim fun k => spec_fsWord.f k a0
theorem spec_fsWord.F_lim (a0 : ByteArray) : Lim (fun k => spec_fsWord.f k a0) (spec_fsWord.F a0) := ⟨spec_fsWord.mono a0, rfl⟩
theorem spec_fsWord.L0_eq (x0 : ByteArray) (x3 : Int) : spec_fsWord.L0 x0 x3 = (if x3 < (x0.size : Int) then (if 0 ≤ x3 then (if (bt x0 x3) < 65 then (some false) else (if (bt x0 x3) > 90 then (some false) else (spec_fsWord.L0 x0 (wrap64 (x3 + 1))))) else (none)) else ((spec_l1In.f (x0.size : Int) 1 8).bind fun t141 => (some t141))) := by
  refine Lim.succ_eq (spec_fsWord.L0_lim x0 x3).mon ?_
  simp only [spec_fsWord.l0]
  repeat' first
  | (with_reducible exact spec_fsWord.L0_lim _ _)
  | (with_reducible refine Lim.ite ?_ ?_)
  | (with_reducible refine Lim.bind ?_ (fun _ => ?_))
  | (with_reducible exact Lim.const _)
theorem spec_fsWord.F_eq (a0 : ByteArray) : spec_fsWord.F a0 = (spec_fsWord.L0 a0 0) := by
  refine Lim.eq_ ?_
  simp only [spec_fsWord.f]
  repeat' first
  | (with_reducible exact spec_fsWord.L0_lim _ _)
  | (with_reducible refine Lim.ite ?_ ?_)
  | (with_reducible refine Lim.bind ?_ (fun _ => ?_))
  | (with_reducible exact Lim.const _)
def spec_VerbFor.f (k : Nat) (l0 : List (S82)) (a1 : ByteArray) (a2 : ByteArray) (a3 : ByteArray) : Option (ByteArray × Int × Int × Bool) := (spec_loFind.f k l0 a2).bind fun t143 => ((spec_loFind.f k l0 a3).bind fun t144 => ((spec_loGood.f k l0).bind fun t145 => (if t145 = true then ((spec_fsWord.f k a1).bind fun t146 => (if t146 = true then (if t143 < 0 then (some ((⟨#[]⟩ : ByteArray), 0, 0, false)) else (if t144 < 0 then (some ((⟨#[]⟩ : ByteArray), 0, 0, false)) else (if t143 = t144 then (some ((⟨#[]⟩ : ByteArray), 0, 0, false)) else (if 0 ≤ t143 then (if t143 < (l0.length : Int) then (if 0 ≤ t144 then (if t144 < (l0.length : Int) then (some (a1, (rd_T82 l0 t143).f1, (rd_T82 l0 t144).f1, true)) else (none)) else (none)) else (none)) else (none))))) else (some ((⟨#[]⟩ : ByteArray), 0, 0, false)))) else (some ((⟨#[]⟩ : ByteArray), 0, 0, false)))))
theorem spec_VerbFor.mono : ∀ a0 a1 a2 a3 k, LeO (spec_VerbFor.f k a0 a1 a2 a3) (spec_VerbFor.f (k + 1) a0 a1 a2 a3) := by
  intro a0 a1 a2 a3 k
  unfold spec_VerbFor.f
  repeat' first
      | (with_reducible exact spec_fsWord.mono _ _)
      | (with_reducible exact spec_loFind.mono _ _ _)
      | (with_reducible exact spec_loGood.mono _ _)
      | (with_reducible exact LeO.refl _)
      | (with_reducible exact LeO.none _)
      | (with_reducible refine LeO.ite ?_ ?_)
      | (with_reducible refine LeO.bind ?_ (fun _ => ?_))
      | exact spec_fsWord.mono _ _
      | exact spec_loFind.mono _ _ _
      | exact spec_loGood.mono _ _
      | exact LeO.none _
      | refine LeO.ite ?_ ?_
      | refine LeO.bind ?_ (fun _ => ?_)
noncomputable def spec_VerbFor.F (l0 : List (S82)) (a1 : ByteArray) (a2 : ByteArray) (a3 : ByteArray) : Option (ByteArray × Int × Int × Bool) := lim fun k => spec_VerbFor.f k l0 a1 a2 a3
theorem spec_VerbFor.F_lim (l0 : List (S82)) (a1 : ByteArray) (a2 : ByteArray) (a3 : ByteArray) : Lim (fun k => spec_VerbFor.f k l0 a1 a2 a3) (spec_VerbFor.F l0 a1 a2 a3) := ⟨spec_VerbFor.mono l0 a1 a2 a3, rfl⟩
theorem spec_VerbFor.F_eq (l0 : List (S82)) (a1 : ByteArray) (a2 : ByteArray) (a3 : ByteArray) : spec_VerbFor.F l0 a1 a2 a3 = ((spec_loFind.F l0 a2).bind fun t143 => ((spec_loFind.F l0 a3).bind fun t144 => ((spec_loGood.F l0).bind fun t145 => (if t145 = true then ((spec_fsWord.F a1).bind fun t146 => (if t146 = true then (if t143 < 0 then (some ((⟨#[]⟩ : ByteArray), 0, 0, false)) else (if t144 < 0 then (some ((⟨#[]⟩ : ByteArray), 0, 0, false)) else (if t143 = t144 then (some ((⟨#[]⟩ : ByteArray), 0, 0, false)) else (if 0 ≤ t143 then (if t143 < (l0.length : Int) then (if 0 ≤ t144 then (if t144 < (l0.length : Int) then (some (a1, (rd_T82 l0 t143).f1, (rd_T82 l0 t144).f1, true)) else (none)) else (none)) else (none)) else (none))))) else (some ((⟨#[]⟩ : ByteArray), 0, 0, false)))) else (some ((⟨#[]⟩ : ByteArray), 0, 0, false)))))) := by
  refine Lim.eq_ ?_
  simp only [spec_VerbFor.f]
  repeat' first
  | (with_reducible exact spec_fsWord.F_lim _)
  | (with_reducible exact spec_loFind.F_lim _ _)
  | (with_reducible exact spec_loGood.F_lim _)
  | (with_reducible refine Lim.ite ?_ ?_)
  | (with_reducible refine Lim.bind ?_ (fun _ => ?_))
  | (with_reducible exact Lim.const _)
def spec_l1Most.f (a0 : Int) (a1 : Int) : Option (Int) := if a0 > a1 then (some a0) else (some a1)
def spec_l1Abs.f (a0 : Int) : Option (Int) := (spec_l1Most.f a0 (wrap64 (-a0))).bind fun t149 => (some t149)
def spec_veOne.f (k : Nat) (a0_0 : ByteArray) (a0_1 : Int) (a0_2 : Int) : Option (Bool) := (spec_fsWord.f k a0_0).bind fun t151 => (if t151 = true then ((spec_loAngle.f a0_1).bind fun t152 => (if t152 = true then ((spec_loAngle.f a0_2).bind fun t153 => (if t153 = true then (some (a0_1 != a0_2)) else (some false))) else (some false))) else (some false))
theorem spec_veOne.mono : ∀ a0 a1 a2 k, LeO (spec_veOne.f k a0 a1 a2) (spec_veOne.f (k + 1) a0 a1 a2) := by
  intro a0 a1 a2 k
  unfold spec_veOne.f
  repeat' first
      | (with_reducible exact spec_fsWord.mono _ _)
      | (with_reducible exact LeO.refl _)
      | (with_reducible exact LeO.none _)
      | (with_reducible refine LeO.ite ?_ ?_)
      | (with_reducible refine LeO.bind ?_ (fun _ => ?_))
      | exact spec_fsWord.mono _ _
      | exact LeO.none _
      | refine LeO.ite ?_ ?_
      | refine LeO.bind ?_ (fun _ => ?_)
noncomputable def spec_veOne.F (a0_0 : ByteArray) (a0_1 : Int) (a0_2 : Int) : Option (Bool) := lim fun k => spec_veOne.f k a0_0 a0_1 a0_2
theorem spec_veOne.F_lim (a0_0 : ByteArray) (a0_1 : Int) (a0_2 : Int) : Lim (fun k => spec_veOne.f k a0_0 a0_1 a0_2) (spec_veOne.F a0_0 a0_1 a0_2) := ⟨spec_veOne.mono a0_0 a0_1 a0_2, rfl⟩
theorem spec_veOne.F_eq (a0_0 : ByteArray) (a0_1 : Int) (a0_2 : Int) : spec_veOne.F a0_0 a0_1 a0_2 = ((spec_fsWord.F a0_0).bind fun t151 => (if t151 = true then ((spec_loAngle.f a0_1).bind fun t152 => (if t152 = true then ((spec_loAngle.f a0_2).bind fun t153 => (if t153 = true then (some (a0_1 != a0_2)) else (some false))) else (some false))) else (some false))) := by
  refine Lim.eq_ ?_
  simp only [spec_veOne.f]
  repeat' first
  | (with_reducible exact spec_fsWord.F_lim _)
  | (with_reducible refine Lim.ite ?_ ?_)
  | (with_reducible refine Lim.bind ?_ (fun _ => ?_))
  | (with_reducible exact Lim.const _)
def spec_veGood.l0 : Nat → List (S82) → List (S25) → List (S25) → Int → Int → Option (Bool)
  | 0, _, _, _, _, _ => none
  | k + 1, x0, x1, x7, x8, x9 => if x9 < x8 then (if 0 ≤ x9 then (if x9 < (x7.length : Int) then ((spec_veOne.f k ((rd_T25 x7 x9).f0) ((rd_T25 x7 x9).f1) ((rd_T25 x7 x9).f2)).bind fun t156 => (if t156 = true then (spec_veGood.l0 k x0 x1 x7 x8 (wrap64 (x9 + 1))) else (some false))) else (none)) else (none)) else ((spec_loGood.f k x0).bind fun t157 => (if t157 = true then (some (decide ((x1.length : Int) ≤ 20))) else (some false)))
def spec_veGood.f (k : Nat) (l0 : List (S82)) (l1 : List (S25)) : Option (Bool) := spec_veGood.l0 k l0 l1 l1 (l1.length : Int) 0
theorem spec_veGood.mono_l : ∀ k, (∀ y0 y1 y2 y3 y4, LeO (spec_veGood.l0 k y0 y1 y2 y3 y4) (spec_veGood.l0 (k + 1) y0 y1 y2 y3 y4))
  | 0 => fun _ _ _ _ _ r h => by simp [spec_veGood.l0] at h
  | k + 1 => by
    have ih0 := spec_veGood.mono_l k
    · intro y0 y1 y2 y3 y4
      unfold spec_veGood.l0
      repeat' first
      | (with_reducible exact ih0 _ _ _ _ _)
      | (with_reducible exact spec_loGood.mono _ _)
      | (with_reducible exact spec_veOne.mono _ _ _ _)
      | (with_reducible exact LeO.refl _)
      | (with_reducible exact LeO.none _)
      | (with_reducible refine LeO.ite ?_ ?_)
      | (with_reducible refine LeO.bind ?_ (fun _ => ?_))
      | exact ih0 _ _ _ _ _
      | exact spec_loGood.mono _ _
      | exact spec_veOne.mono _ _ _ _
      | exact LeO.none _
      | refine LeO.ite ?_ ?_
      | refine LeO.bind ?_ (fun _ => ?_)
theorem spec_veGood.mono : ∀ a0 a1 k, LeO (spec_veGood.f k a0 a1) (spec_veGood.f (k + 1) a0 a1) := by
  intro a0 a1 k
  have ih0 := spec_veGood.mono_l k
  unfold spec_veGood.f
  repeat' first
      | (with_reducible exact ih0 _ _ _ _ _)
      | (with_reducible exact spec_loGood.mono _ _)
      | (with_reducible exact spec_veOne.mono _ _ _ _)
      | (with_reducible exact LeO.refl _)
      | (with_reducible exact LeO.none _)
      | (with_reducible refine LeO.ite ?_ ?_)
      | (with_reducible refine LeO.bind ?_ (fun _ => ?_))
      | exact ih0 _ _ _ _ _
      | exact spec_loGood.mono _ _
      | exact spec_veOne.mono _ _ _ _
      | exact LeO.none _
      | refine LeO.ite ?_ ?_
      | refine LeO.bind ?_ (fun _ => ?_)
noncomputable def spec_veGood.L0 (x0 : List (S82)) (x1 : List (S25)) (x7 : List (S25)) (x8 : Int) (x9 : Int) : Option (Bool) := lim fun k => spec_veGood.l0 k x0 x1 x7 x8 x9
theorem spec_veGood.L0_lim (x0 : List (S82)) (x1 : List (S25)) (x7 : List (S25)) (x8 : Int) (x9 : Int) : Lim (fun k => spec_veGood.l0 k x0 x1 x7 x8 x9) (spec_veGood.L0 x0 x1 x7 x8 x9) := ⟨fun k => (spec_veGood.mono_l k) x0 x1 x7 x8 x9, rfl⟩
noncomputable def spec_veGood.F (l0 : List (S82)) (l1 : List (S25)) : Option (Bool) := lim fun k => spec_veGood.f k l0 l1
theorem spec_veGood.F_lim (l0 : List (S82)) (l1 : List (S25)) : Lim (fun k => spec_veGood.f k l0 l1) (spec_veGood.F l0 l1) := ⟨spec_veGood.mono l0 l1, rfl⟩
theorem spec_veGood.L0_eq (x0 : List (S82)) (x1 : List (S25)) (x7 : List (S25)) (x8 : Int) (x9 : Int) : spec_veGood.L0 x0 x1 x7 x8 x9 = (if x9 < x8 then (if 0 ≤ x9 then (if x9 < (x7.length : Int) then ((spec_veOne.F ((rd_T25 x7 x9).f0) ((rd_T25 x7 x9).f1) ((rd_T25 x7 x9).f2)).bind fun t156 => (if t156 = true then (spec_veGood.L0 x0 x1 x7 x8 (wrap64 (x9 + 1))) else (some false))) else (none)) else (none)) else ((spec_loGood.F x0).bind fun t157 => (if t157 = true then (some (decide ((x1.length : Int) ≤ 20))) else (some false)))) := by
  refine Lim.succ_eq (spec_veGood.L0_lim x0 x1 x7 x8 x9).mon ?_
  simp only [spec_veGood.l0]
  repeat' first
  | (with_reducible exact spec_veGood.L0_lim _ _ _ _ _)
  | (with_reducible exact spec_loGood.F_lim _)
  | (with_reducible exact spec_veOne.F_lim _ _ _)
  | (with_reducible refine Lim.ite ?_ ?_)
  | (with_reducible refine Lim.bind ?_ (fun _ => ?_))
  | (with_reducible exact Lim.const _)
theorem spec_veGood.F_eq (l0 : List (S82)) (l1 : List (S25)) : spec_veGood.F l0 l1 = (spec_veGood.L0 l0 l1 l1 (l1.length : Int) 0) := by
  refine Lim.eq_ ?_
  simp only [spec_veGood.f]
  repeat' first
  | (with_reducible exact spec_veGood.L0_lim _ _ _ _ _)
  | (with_reducible exact spec_loGood.F_lim _)
  | (with_reducible exact spec_veOne.F_lim _ _ _)
  | (with_reducible refine Lim.ite ?_ ?_)
  | (with_reducible refine Lim.bind ?_ (fun _ => ?_))
  | (with_reducible exact Lim.const _)
mutual
def spec_ClosestVerb.j0 : Nat → List (S25) → Bool → ByteArray → Int → Int → Option (Int × Int × Bool)
  | 0, _, _, _, _, _ => none
  | k + 1, x1, x37, x163000, x163001, x163002 => if x37 = true then (some (0, 0, false)) else (spec_ClosestVerb.l0 k (-1) 0 x1 (x1.length : Int) 0 x163000 x163001 x163002)
def spec_ClosestVerb.l0 : Nat → Int → Int → List (S25) → Int → Int → ByteArray → Int → Int → Option (Int × Int × Bool)
  | 0, _, _, _, _, _, _, _, _ => none
  | k + 1, x13, x14, x38, x39, x40, x163000, x163001, x163002 => if x40 < x39 then (if 0 ≤ x40 then (if x40 < (x38.length : Int) then ((spec_l1Abs.f (wrap64 (((rd_T25 x38 x40).f1) - x163001))).bind fun t166 => ((spec_l1Abs.f (wrap64 (((rd_T25 x38 x40).f2) - x163002))).bind fun t167 => (if x13 < 0 then (spec_ClosestVerb.l0 k x40 (wrap64 (t166 + t167)) x38 x39 (wrap64 (x40 + 1)) x163000 x163001 x163002) else (if (wrap64 (t166 + t167)) < x14 then (spec_ClosestVerb.l0 k x40 (wrap64 (t166 + t167)) x38 x39 (wrap64 (x40 + 1)) x163000 x163001 x163002) else (spec_ClosestVerb.l0 k x13 x14 x38 x39 (wrap64 (x40 + 1)) x163000 x163001 x163002))))) else (none)) else (none)) else (some (x13, x14, true))
end
def spec_ClosestVerb.f (k : Nat) (l0 : List (S82)) (l1 : List (S25)) (a2 : ByteArray) (a3 : ByteArray) : Option (Int × Int × Bool) := (spec_VerbFor.f k l0 (⟨#[65]⟩ : ByteArray) a2 a3).bind fun bt158 => (if bt158.2.2.2 = true then ((spec_veGood.f k l0 l1).bind fun t163 => (if t163 = true then (spec_ClosestVerb.j0 k l1 ((l1.length : Int) == 0) bt158.1 bt158.2.1 bt158.2.2.1) else (spec_ClosestVerb.j0 k l1 true bt158.1 bt158.2.1 bt158.2.2.1))) else (spec_ClosestVerb.j0 k l1 true bt158.1 bt158.2.1 bt158.2.2.1))
theorem spec_ClosestVerb.mono_l : ∀ k, (∀ y0 y1 y2 y3 y4, LeO (spec_ClosestVerb.j0 k y0 y1 y2 y3 y4) (spec_ClosestVerb.j0 (k + 1) y0 y1 y2 y3 y4)) ∧ (∀ y0 y1 y2 y3 y4 y5 y6 y7, LeO (spec_ClosestVerb.l0 k y0 y1 y2 y3 y4 y5 y6 y7) (spec_ClosestVerb.l0 (k + 1) y0 y1 y2 y3 y4 y5 y6 y7))
  | 0 => ⟨fun _ _ _ _ _ r h => by simp [spec_ClosestVerb.j0] at h, fun _ _ _ _ _ _ _ _ r h => by simp [spec_ClosestVerb.l0] at h⟩
  | k + 1 => by
    obtain ⟨ih0, ih1⟩ := spec_ClosestVerb.mono_l k
    refine ⟨?_, ?_⟩
    · intro y0 y1 y2 y3 y4
      unfold spec_ClosestVerb.j0
      repeat' first
      | (with_reducible exact ih0 _ _ _ _ _)
      | (with_reducible exact ih1 _ _ _ _ _ _ _ _)
      | (with_reducible exact spec_VerbFor.mono _ _ _ _ _)
      | (with_reducible exact spec_veGood.mono _ _ _)
      | (with_reducible exact LeO.refl _)
      | (with_reducible exact LeO.none _)
      | (with_reducible refine LeO.ite ?_ ?_)
      | (with_reducible refine LeO.bind ?_ (fun _ => ?_))
      | exact ih0 _ _ _ _ _
      | exact ih1 _ _ _ _ _ _ _ _
      | exact spec_VerbFor.mono _ _ _ _ _
      | exact spec_veGood.mono _ _ _
      | exact LeO.none _
      | refine LeO.ite ?_ ?_
      | refine LeO.bind ?_ (fun _ => ?_)
    · intro y0 y1 y2 y3 y4 y5 y6 y7
      unfold spec_ClosestVerb.l0
      repeat' first
      | (with_reducible exact ih0 _ _ _ _ _)
      | (with_reducible exact ih1 _ _ _ _ _ _ _ _)
      | (with_reducible exact spec_VerbFor.mono _ _ _ _ _)
      | (with_reducible exact spec_veGood.mono _ _ _)
      | (with_reducible exact LeO.refl _)
      | (with_reducible exact LeO.none _)
      | (with_reducible refine LeO.ite ?_ ?_)
      | (with_reducible refine LeO.bind ?_ (fun _ => ?_))
      | exact ih0 _ _ _ _ _
      | exact ih1 _ _ _ _ _ _ _ _
      | exact spec_VerbFor.mono _ _ _ _ _
      | exact spec_veGood.mono _ _ _
      | exact LeO.none _
      | refine LeO.ite ?_ ?_
      | refine LeO.bind ?_ (fun _ => ?_)
theorem spec_ClosestVerb.mono : ∀ a0 a1 a2 a3 k, LeO (spec_ClosestVerb.f k a0 a1 a2 a3) (spec_ClosestVerb.f (k + 1) a0 a1 a2 a3) := by
  intro a0 a1 a2 a3 k
  obtain ⟨ih0, ih1⟩ := spec_ClosestVerb.mono_l k
  unfold spec_ClosestVerb.f
  repeat' first
      | (with_reducible exact ih0 _ _ _ _ _)
      | (with_reducible exact ih1 _ _ _ _ _ _ _ _)
      | (with_reducible exact spec_VerbFor.mono _ _ _ _ _)
      | (with_reducible exact spec_veGood.mono _ _ _)
      | (with_reducible exact LeO.refl _)
      | (with_reducible exact LeO.none _)
      | (with_reducible refine LeO.ite ?_ ?_)
      | (with_reducible refine LeO.bind ?_ (fun _ => ?_))
      | exact ih0 _ _ _ _ _
      | exact ih1 _ _ _ _ _ _ _ _
      | exact spec_VerbFor.mono _ _ _ _ _
      | exact spec_veGood.mono _ _ _
      | exact LeO.none _
      | refine LeO.ite ?_ ?_
      | refine LeO.bind ?_ (fun _ => ?_)
noncomputable def spec_ClosestVerb.J0 (x1 : List (S25)) (x37 : Bool) (x163000 : ByteArray) (x163001 : Int) (x163002 : Int) : Option (Int × Int × Bool) := lim fun k => spec_ClosestVerb.j0 k x1 x37 x163000 x163001 x163002
theorem spec_ClosestVerb.J0_lim (x1 : List (S25)) (x37 : Bool) (x163000 : ByteArray) (x163001 : Int) (x163002 : Int) : Lim (fun k => spec_ClosestVerb.j0 k x1 x37 x163000 x163001 x163002) (spec_ClosestVerb.J0 x1 x37 x163000 x163001 x163002) := ⟨fun k => (spec_ClosestVerb.mono_l k).1 x1 x37 x163000 x163001 x163002, rfl⟩
noncomputable def spec_ClosestVerb.L0 (x13 : Int) (x14 : Int) (x38 : List (S25)) (x39 : Int) (x40 : Int) (x163000 : ByteArray) (x163001 : Int) (x163002 : Int) : Option (Int × Int × Bool) := lim fun k => spec_ClosestVerb.l0 k x13 x14 x38 x39 x40 x163000 x163001 x163002
theorem spec_ClosestVerb.L0_lim (x13 : Int) (x14 : Int) (x38 : List (S25)) (x39 : Int) (x40 : Int) (x163000 : ByteArray) (x163001 : Int) (x163002 : Int) : Lim (fun k => spec_ClosestVerb.l0 k x13 x14 x38 x39 x40 x163000 x163001 x163002) (spec_ClosestVerb.L0 x13 x14 x38 x39 x40 x163000 x163001 x163002) := ⟨fun k => (spec_ClosestVerb.mono_l k).2 x13 x14 x38 x39 x40 x163000 x163001 x163002, rfl⟩
noncomputable def spec_ClosestVerb.F (l0 : List (S82)) (l1 : List (S25)) (a2 : ByteArray) (a3 : ByteArray) : Option (Int × Int × Bool) := lim fun k => spec_ClosestVerb.f k l0 l1 a2 a3
theorem spec_ClosestVerb.F_lim (l0 : List (S82)) (l1 : List (S25)) (a2 : ByteArray) (a3 : ByteArray) : Lim (fun k => spec_ClosestVerb.f k l0 l1 a2 a3) (spec_ClosestVerb.F l0 l1 a2 a3) := ⟨spec_ClosestVerb.mono l0 l1 a2 a3, rfl⟩
theorem spec_ClosestVerb.J0_eq (x1 : List (S25)) (x37 : Bool) (x163000 : ByteArray) (x163001 : Int) (x163002 : Int) : spec_ClosestVerb.J0 x1 x37 x163000 x163001 x163002 = (if x37 = true then (some (0, 0, false)) else (spec_ClosestVerb.L0 (-1) 0 x1 (x1.length : Int) 0 x163000 x163001 x163002)) := by
  refine Lim.succ_eq (spec_ClosestVerb.J0_lim x1 x37 x163000 x163001 x163002).mon ?_
  simp only [spec_ClosestVerb.j0]
  repeat' first
  | (with_reducible exact spec_ClosestVerb.J0_lim _ _ _ _ _)
  | (with_reducible exact spec_ClosestVerb.L0_lim _ _ _ _ _ _ _ _)
  | (with_reducible exact spec_VerbFor.F_lim _ _ _ _)
  | (with_reducible exact spec_veGood.F_lim _ _)
  | (with_reducible refine Lim.ite ?_ ?_)
  | (with_reducible refine Lim.bind ?_ (fun _ => ?_))
  | (with_reducible exact Lim.const _)
theorem spec_ClosestVerb.L0_eq (x13 : Int) (x14 : Int) (x38 : List (S25)) (x39 : Int) (x40 : Int) (x163000 : ByteArray) (x163001 : Int) (x163002 : Int) : spec_ClosestVerb.L0 x13 x14 x38 x39 x40 x163000 x163001 x163002 = (if x40 < x39 then (if 0 ≤ x40 then (if x40 < (x38.length : Int) then ((spec_l1Abs.f (wrap64 (((rd_T25 x38 x40).f1) - x163001))).bind fun t166 => ((spec_l1Abs.f (wrap64 (((rd_T25 x38 x40).f2) - x163002))).bind fun t167 => (if x13 < 0 then (spec_ClosestVerb.L0 x40 (wrap64 (t166 + t167)) x38 x39 (wrap64 (x40 + 1)) x163000 x163001 x163002) else (if (wrap64 (t166 + t167)) < x14 then (spec_ClosestVerb.L0 x40 (wrap64 (t166 + t167)) x38 x39 (wrap64 (x40 + 1)) x163000 x163001 x163002) else (spec_ClosestVerb.L0 x13 x14 x38 x39 (wrap64 (x40 + 1)) x163000 x163001 x163002))))) else (none)) else (none)) else (some (x13, x14, true))) := by
  refine Lim.succ_eq (spec_ClosestVerb.L0_lim x13 x14 x38 x39 x40 x163000 x163001 x163002).mon ?_
  simp only [spec_ClosestVerb.l0]
  repeat' first
  | (with_reducible exact spec_ClosestVerb.J0_lim _ _ _ _ _)
  | (with_reducible exact spec_ClosestVerb.L0_lim _ _ _ _ _ _ _ _)
  | (with_reducible exact spec_VerbFor.F_lim _ _ _ _)
  | (with_reducible exact spec_veGood.F_lim _ _)
  | (with_reducible refine Lim.ite ?_ ?_)
  | (with_reducible refine Lim.bind ?_ (fun _ => ?_))
  | (with_reducible exact Lim.const _)
theorem spec_ClosestVerb.F_eq (l0 : List (S82)) (l1 : List (S25)) (a2 : ByteArray) (a3 : ByteArray) : spec_ClosestVerb.F l0 l1 a2 a3 = ((spec_VerbFor.F l0 (⟨#[65]⟩ : ByteArray) a2 a3).bind fun bt158 => (if bt158.2.2.2 = true then ((spec_veGood.F l0 l1).bind fun t163 => (if t163 = true then (spec_ClosestVerb.J0 l1 ((l1.length : Int) == 0) bt158.1 bt158.2.1 bt158.2.2.1) else (spec_ClosestVerb.J0 l1 true bt158.1 bt158.2.1 bt158.2.2.1))) else (spec_ClosestVerb.J0 l1 true bt158.1 bt158.2.1 bt158.2.2.1))) := by
  refine Lim.eq_ ?_
  simp only [spec_ClosestVerb.f]
  repeat' first
  | (with_reducible exact spec_ClosestVerb.J0_lim _ _ _ _ _)
  | (with_reducible exact spec_ClosestVerb.L0_lim _ _ _ _ _ _ _ _)
  | (with_reducible exact spec_VerbFor.F_lim _ _ _ _)
  | (with_reducible exact spec_veGood.F_lim _ _)
  | (with_reducible refine Lim.ite ?_ ?_)
  | (with_reducible refine Lim.bind ?_ (fun _ => ?_))
  | (with_reducible exact Lim.const _)
def laws_toVerb.f (a0_0 : ByteArray) (a0_1 : Int) (a0_2 : Int) : Option (ByteArray × Int × Int) := some (a0_0, a0_1, a0_2)
def laws_toVerbS.l0 : Nat → List (S46) → List (S25) → Int → Option ((List (S25)))
  | 0, _, _, _ => none
  | k + 1, x0, x3, x4 => if x4 < (x0.length : Int) then (if 0 ≤ x4 then ((laws_toVerb.f ((rd_T46 x0 x4).f0) ((rd_T46 x0 x4).f1) ((rd_T46 x0 x4).f2)).bind fun bt175 => (if x4 < (x3.length : Int) then (laws_toVerbS.l0 k x0 (x3.set (x4 : Int).toNat (⟨bt175.1, bt175.2.1, bt175.2.2⟩ : S25)) (wrap64 (x4 + 1))) else (none))) else (none)) else (some x3)
def laws_toVerbS.f (k : Nat) (l0 : List (S46)) : Option ((List (S25))) := if 0 ≤ (l0.length : Int) then (if ((l0.length : Int) : Int).toNat ≤ 8796093022208 then (laws_toVerbS.l0 k l0 (List.replicate ((l0.length : Int) : Int).toNat z25) 0) else (none)) else (none)
theorem laws_toVerbS.mono_l : ∀ k, (∀ y0 y1 y2, LeO (laws_toVerbS.l0 k y0 y1 y2) (laws_toVerbS.l0 (k + 1) y0 y1 y2))
  | 0 => fun _ _ _ r h => by simp [laws_toVerbS.l0] at h
  | k + 1 => by
    have ih0 := laws_toVerbS.mono_l k
    · intro y0 y1 y2
      unfold laws_toVerbS.l0
      repeat' first
      | (with_reducible exact ih0 _ _ _)
      | (with_reducible exact LeO.refl _)
      | (with_reducible exact LeO.none _)
      | (with_reducible refine LeO.ite ?_ ?_)
      | (with_reducible refine LeO.bind ?_ (fun _ => ?_))
      | exact ih0 _ _ _
      | exact LeO.none _
      | refine LeO.ite ?_ ?_
      | refine LeO.bind ?_ (fun _ => ?_)
theorem laws_toVerbS.mono : ∀ a0 k, LeO (laws_toVerbS.f k a0) (laws_toVerbS.f (k + 1) a0) := by
  intro a0 k
  have ih0 := laws_toVerbS.mono_l k
  unfold laws_toVerbS.f
  repeat' first
      | (with_reducible exact ih0 _ _ _)
      | (with_reducible exact LeO.refl _)
      | (with_reducible exact LeO.none _)
      | (with_reducible refine LeO.ite ?_ ?_)
      | (with_reducible refine LeO.bind ?_ (fun _ => ?_))
      | exact ih0 _ _ _
      | exact LeO.none _
      | refine LeO.ite ?_ ?_
      | refine LeO.bind ?_ (fun _ => ?_)
noncomputable def laws_toVerbS.L0 (x0 : List (S46)) (x3 : List (S25)) (x4 : Int) : Option ((List (S25))) := lim fun k => laws_toVerbS.l0 k x0 x3 x4
theorem laws_toVerbS.L0_lim (x0 : List (S46)) (x3 : List (S25)) (x4 : Int) : Lim (fun k => laws_toVerbS.l0 k x0 x3 x4) (laws_toVerbS.L0 x0 x3 x4) := ⟨fun k => (laws_toVerbS.mono_l k) x0 x3 x4, rfl⟩
noncomputable def laws_toVerbS.F (l0 : List (S46)) : Option ((List (S25))) := lim fun k => laws_toVerbS.f k l0
theorem laws_toVerbS.F_lim (l0 : List (S46)) : Lim (fun k => laws_toVerbS.f k l0) (laws_toVerbS.F l0) := ⟨laws_toVerbS.mono l0, rfl⟩
theorem laws_toVerbS.L0_eq (x0 : List (S46)) (x3 : List (S25)) (x4 : Int) : laws_toVerbS.L0 x0 x3 x4 = (if x4 < (x0.length : Int) then (if 0 ≤ x4 then ((laws_toVerb.f ((rd_T46 x0 x4).f0) ((rd_T46 x0 x4).f1) ((rd_T46 x0 x4).f2)).bind fun bt175 => (if x4 < (x3.length : Int) then (laws_toVerbS.L0 x0 (x3.set (x4 : Int).toNat (⟨bt175.1, bt175.2.1, bt175.2.2⟩ : S25)) (wrap64 (x4 + 1))) else (none))) else (none)) else (some x3)) := by
  refine Lim.succ_eq (laws_toVerbS.L0_lim x0 x3 x4).mon ?_
  simp only [laws_toVerbS.l0]
  repeat' first
  | (with_reducible exact laws_toVerbS.L0_lim _ _ _)
  | (with_reducible refine Lim.ite ?_ ?_)
  | (with_reducible refine Lim.bind ?_ (fun _ => ?_))
  | (with_reducible exact Lim.const _)
theorem laws_toVerbS.F_eq (l0 : List (S46)) : laws_toVerbS.F l0 = (if 0 ≤ (l0.length : Int) then (if ((l0.length : Int) : Int).toNat ≤ 8796093022208 then (laws_toVerbS.L0 l0 (List.replicate ((l0.length : Int) : Int).toNat z25) 0) else (none)) else (none)) := by
  refine Lim.eq_ ?_
  simp only [laws_toVerbS.f]
  repeat' first
  | (with_reducible exact laws_toVerbS.L0_lim _ _ _)
  | (with_reducible refine Lim.ite ?_ ?_)
  | (with_reducible refine Lim.bind ?_ (fun _ => ?_))
  | (with_reducible exact Lim.const _)
def impl_locusOf_1.f (a0_0 : ByteArray) (a0_1 : Int) (a1_0 : ByteArray) : Option (Bool) := some (a0_0.toList == a1_0.toList)
def slices_IndexFunc_Locus_impl_locusOf_1.l0 : Nat → List (S82) → Int → Int → ByteArray → Option (Int)
  | 0, _, _, _, _ => none
  | k + 1, x0, x7, x8, x39000 => if x8 < x7 then (if 0 ≤ x8 then (if x8 < (x0.length : Int) then ((impl_locusOf_1.f ((rd_T82 x0 x8).f0) ((rd_T82 x0 x8).f1) x39000).bind fun t181 => (if t181 = true then (some x8) else (slices_IndexFunc_Locus_impl_locusOf_1.l0 k x0 x7 (wrap64 (x8 + 1)) x39000))) else (none)) else (none)) else (some (-1))
def slices_IndexFunc_Locus_impl_locusOf_1.f (k : Nat) (l0 : List (S82)) (a1_0 : ByteArray) : Option (Int) := slices_IndexFunc_Locus_impl_locusOf_1.l0 k l0 (l0.length : Int) 0 a1_0
theorem slices_IndexFunc_Locus_impl_locusOf_1.mono_l : ∀ k, (∀ y0 y1 y2 y3, LeO (slices_IndexFunc_Locus_impl_locusOf_1.l0 k y0 y1 y2 y3) (slices_IndexFunc_Locus_impl_locusOf_1.l0 (k + 1) y0 y1 y2 y3))
  | 0 => fun _ _ _ _ r h => by simp [slices_IndexFunc_Locus_impl_locusOf_1.l0] at h
  | k + 1 => by
    have ih0 := slices_IndexFunc_Locus_impl_locusOf_1.mono_l k
    · intro y0 y1 y2 y3
      unfold slices_IndexFunc_Locus_impl_locusOf_1.l0
      repeat' first
      | (with_reducible exact ih0 _ _ _ _)
      | (with_reducible exact LeO.refl _)
      | (with_reducible exact LeO.none _)
      | (with_reducible refine LeO.ite ?_ ?_)
      | (with_reducible refine LeO.bind ?_ (fun _ => ?_))
      | exact ih0 _ _ _ _
      | exact LeO.none _
      | refine LeO.ite ?_ ?_
      | refine LeO.bind ?_ (fun _ => ?_)
theorem slices_IndexFunc_Locus_impl_locusOf_1.mono : ∀ a0 a1 k, LeO (slices_IndexFunc_Locus_impl_locusOf_1.f k a0 a1) (slices_IndexFunc_Locus_impl_locusOf_1.f (k + 1) a0 a1) := by
  intro a0 a1 k
  have ih0 := slices_IndexFunc_Locus_impl_locusOf_1.mono_l k
  unfold slices_IndexFunc_Locus_impl_locusOf_1.f
  repeat' first
      | (with_reducible exact ih0 _ _ _ _)
      | (with_reducible exact LeO.refl _)
      | (with_reducible exact LeO.none _)
      | (with_reducible refine LeO.ite ?_ ?_)
      | (with_reducible refine LeO.bind ?_ (fun _ => ?_))
      | exact ih0 _ _ _ _
      | exact LeO.none _
      | refine LeO.ite ?_ ?_
      | refine LeO.bind ?_ (fun _ => ?_)
noncomputable def slices_IndexFunc_Locus_impl_locusOf_1.L0 (x0 : List (S82)) (x7 : Int) (x8 : Int) (x39000 : ByteArray) : Option (Int) := lim fun k => slices_IndexFunc_Locus_impl_locusOf_1.l0 k x0 x7 x8 x39000
theorem slices_IndexFunc_Locus_impl_locusOf_1.L0_lim (x0 : List (S82)) (x7 : Int) (x8 : Int) (x39000 : ByteArray) : Lim (fun k => slices_IndexFunc_Locus_impl_locusOf_1.l0 k x0 x7 x8 x39000) (slices_IndexFunc_Locus_impl_locusOf_1.L0 x0 x7 x8 x39000) := ⟨fun k => (slices_IndexFunc_Locus_impl_locusOf_1.mono_l k) x0 x7 x8 x39000, rfl⟩
noncomputable def slices_IndexFunc_Locus_impl_locusOf_1.F (l0 : List (S82)) (a1_0 : ByteArray) : Option (Int) := lim fun k => slices_IndexFunc_Locus_impl_locusOf_1.f k l0 a1_0
theorem slices_IndexFunc_Locus_impl_locusOf_1.F_lim (l0 : List (S82)) (a1_0 : ByteArray) : Lim (fun k => slices_IndexFunc_Locus_impl_locusOf_1.f k l0 a1_0) (slices_IndexFunc_Locus_impl_locusOf_1.F l0 a1_0) := ⟨slices_IndexFunc_Locus_impl_locusOf_1.mono l0 a1_0, rfl⟩
theorem slices_IndexFunc_Locus_impl_locusOf_1.L0_eq (x0 : List (S82)) (x7 : Int) (x8 : Int) (x39000 : ByteArray) : slices_IndexFunc_Locus_impl_locusOf_1.L0 x0 x7 x8 x39000 = (if x8 < x7 then (if 0 ≤ x8 then (if x8 < (x0.length : Int) then ((impl_locusOf_1.f ((rd_T82 x0 x8).f0) ((rd_T82 x0 x8).f1) x39000).bind fun t181 => (if t181 = true then (some x8) else (slices_IndexFunc_Locus_impl_locusOf_1.L0 x0 x7 (wrap64 (x8 + 1)) x39000))) else (none)) else (none)) else (some (-1))) := by
  refine Lim.succ_eq (slices_IndexFunc_Locus_impl_locusOf_1.L0_lim x0 x7 x8 x39000).mon ?_
  simp only [slices_IndexFunc_Locus_impl_locusOf_1.l0]
  repeat' first
  | (with_reducible exact slices_IndexFunc_Locus_impl_locusOf_1.L0_lim _ _ _ _)
  | (with_reducible refine Lim.ite ?_ ?_)
  | (with_reducible refine Lim.bind ?_ (fun _ => ?_))
  | (with_reducible exact Lim.const _)
theorem slices_IndexFunc_Locus_impl_locusOf_1.F_eq (l0 : List (S82)) (a1_0 : ByteArray) : slices_IndexFunc_Locus_impl_locusOf_1.F l0 a1_0 = (slices_IndexFunc_Locus_impl_locusOf_1.L0 l0 (l0.length : Int) 0 a1_0) := by
  refine Lim.eq_ ?_
  simp only [slices_IndexFunc_Locus_impl_locusOf_1.f]
  repeat' first
  | (with_reducible exact slices_IndexFunc_Locus_impl_locusOf_1.L0_lim _ _ _ _)
  | (with_reducible refine Lim.ite ?_ ?_)
  | (with_reducible refine Lim.bind ?_ (fun _ => ?_))
  | (with_reducible exact Lim.const _)
def impl_locusOf.f (k : Nat) (l0 : List (S82)) (a1 : ByteArray) : Option (Int) := (slices_IndexFunc_Locus_impl_locusOf_1.f k l0 a1).bind fun t183 => (some t183)
theorem impl_locusOf.mono : ∀ a0 a1 k, LeO (impl_locusOf.f k a0 a1) (impl_locusOf.f (k + 1) a0 a1) := by
  intro a0 a1 k
  unfold impl_locusOf.f
  repeat' first
      | (with_reducible exact slices_IndexFunc_Locus_impl_locusOf_1.mono _ _ _)
      | (with_reducible exact LeO.refl _)
      | (with_reducible exact LeO.none _)
      | (with_reducible refine LeO.ite ?_ ?_)
      | (with_reducible refine LeO.bind ?_ (fun _ => ?_))
      | exact slices_IndexFunc_Locus_impl_locusOf_1.mono _ _ _
      | exact LeO.none _
      | refine LeO.ite ?_ ?_
      | refine LeO.bind ?_ (fun _ => ?_)
noncomputable def impl_locusOf.F (l0 : List (S82)) (a1 : ByteArray) : Option (Int) := lim fun k => impl_locusOf.f k l0 a1
theorem impl_locusOf.F_lim (l0 : List (S82)) (a1 : ByteArray) : Lim (fun k => impl_locusOf.f k l0 a1) (impl_locusOf.F l0 a1) := ⟨impl_locusOf.mono l0 a1, rfl⟩
theorem impl_locusOf.F_eq (l0 : List (S82)) (a1 : ByteArray) : impl_locusOf.F l0 a1 = ((slices_IndexFunc_Locus_impl_locusOf_1.F l0 a1).bind fun t183 => (some t183)) := by
  refine Lim.eq_ ?_
  simp only [impl_locusOf.f]
  repeat' first
  | (with_reducible exact slices_IndexFunc_Locus_impl_locusOf_1.F_lim _ _)
  | (with_reducible refine Lim.ite ?_ ?_)
  | (with_reducible refine Lim.bind ?_ (fun _ => ?_))
  | (with_reducible exact Lim.const _)
def impl_within.f (a0 : Int) (a1 : Int) (a2 : Int) : Option (Bool) := if a0 ≥ a1 then (some (decide (a0 ≤ a2))) else (some false)
def impl_isAngle.f (a0 : Int) : Option (Bool) := (impl_within.f a0 (-90) 90).bind fun t184 => (some t184)
def stringslite_IndexByte.f (a0 : ByteArray) (a1 : Int) : Option (Int) := some (Lib.indexByte a0.data.toList a1.toNat.toUInt8)
def strings_IndexByte.f (a0 : ByteArray) (a1 : Int) : Option (Int) := (stringslite_IndexByte.f a0 a1).bind fun t185 => (some t185)
def impl_hasOnly.l0 : Nat → ByteArray → ByteArray → Int → Int → Option (Bool)
  | 0, _, _, _, _ => none
  | k + 1, x0, x1, x7, x8 => if x8 < x7 then (if 0 ≤ x8 then (if x8 < (x0.size : Int) then ((strings_IndexByte.f x1 (bt x0 x8)).bind fun t186 => (if t186 < 0 then (some false) else (impl_hasOnly.l0 k x0 x1 x7 (wrap64 (x8 + 1))))) else (none)) else (none)) else (some true)
def impl_hasOnly.f (k : Nat) (a0 : ByteArray) (a1 : ByteArray) : Option (Bool) := impl_hasOnly.l0 k a0 a1 (a0.size : Int) 0
theorem impl_hasOnly.mono_l : ∀ k, (∀ y0 y1 y2 y3, LeO (impl_hasOnly.l0 k y0 y1 y2 y3) (impl_hasOnly.l0 (k + 1) y0 y1 y2 y3))
  | 0 => fun _ _ _ _ r h => by simp [impl_hasOnly.l0] at h
  | k + 1 => by
    have ih0 := impl_hasOnly.mono_l k
    · intro y0 y1 y2 y3
      unfold impl_hasOnly.l0
      repeat' first
      | (with_reducible exact ih0 _ _ _ _)
      | (with_reducible exact LeO.refl _)
      | (with_reducible exact LeO.none _)
      | (with_reducible refine LeO.ite ?_ ?_)
      | (with_reducible refine LeO.bind ?_ (fun _ => ?_))
      | exact ih0 _ _ _ _
      | exact LeO.none _
      | refine LeO.ite ?_ ?_
      | refine LeO.bind ?_ (fun _ => ?_)
theorem impl_hasOnly.mono : ∀ a0 a1 k, LeO (impl_hasOnly.f k a0 a1) (impl_hasOnly.f (k + 1) a0 a1) := by
  intro a0 a1 k
  have ih0 := impl_hasOnly.mono_l k
  unfold impl_hasOnly.f
  repeat' first
      | (with_reducible exact ih0 _ _ _ _)
      | (with_reducible exact LeO.refl _)
      | (with_reducible exact LeO.none _)
      | (with_reducible refine LeO.ite ?_ ?_)
      | (with_reducible refine LeO.bind ?_ (fun _ => ?_))
      | exact ih0 _ _ _ _
      | exact LeO.none _
      | refine LeO.ite ?_ ?_
      | refine LeO.bind ?_ (fun _ => ?_)
noncomputable def impl_hasOnly.L0 (x0 : ByteArray) (x1 : ByteArray) (x7 : Int) (x8 : Int) : Option (Bool) := lim fun k => impl_hasOnly.l0 k x0 x1 x7 x8
theorem impl_hasOnly.L0_lim (x0 : ByteArray) (x1 : ByteArray) (x7 : Int) (x8 : Int) : Lim (fun k => impl_hasOnly.l0 k x0 x1 x7 x8) (impl_hasOnly.L0 x0 x1 x7 x8) := ⟨fun k => (impl_hasOnly.mono_l k) x0 x1 x7 x8, rfl⟩
noncomputable def impl_hasOnly.F (a0 : ByteArray) (a1 : ByteArray) : Option (Bool) := lim fun k => impl_hasOnly.f k a0 a1
theorem impl_hasOnly.F_lim (a0 : ByteArray) (a1 : ByteArray) : Lim (fun k => impl_hasOnly.f k a0 a1) (impl_hasOnly.F a0 a1) := ⟨impl_hasOnly.mono a0 a1, rfl⟩
theorem impl_hasOnly.L0_eq (x0 : ByteArray) (x1 : ByteArray) (x7 : Int) (x8 : Int) : impl_hasOnly.L0 x0 x1 x7 x8 = (if x8 < x7 then (if 0 ≤ x8 then (if x8 < (x0.size : Int) then ((strings_IndexByte.f x1 (bt x0 x8)).bind fun t186 => (if t186 < 0 then (some false) else (impl_hasOnly.L0 x0 x1 x7 (wrap64 (x8 + 1))))) else (none)) else (none)) else (some true)) := by
  refine Lim.succ_eq (impl_hasOnly.L0_lim x0 x1 x7 x8).mon ?_
  simp only [impl_hasOnly.l0]
  repeat' first
  | (with_reducible exact impl_hasOnly.L0_lim _ _ _ _)
  | (with_reducible refine Lim.ite ?_ ?_)
  | (with_reducible refine Lim.bind ?_ (fun _ => ?_))
  | (with_reducible exact Lim.const _)
theorem impl_hasOnly.F_eq (a0 : ByteArray) (a1 : ByteArray) : impl_hasOnly.F a0 a1 = (impl_hasOnly.L0 a0 a1 (a0.size : Int) 0) := by
  refine Lim.eq_ ?_
  simp only [impl_hasOnly.f]
  repeat' first
  | (with_reducible exact impl_hasOnly.L0_lim _ _ _ _)
  | (with_reducible refine Lim.ite ?_ ?_)
  | (with_reducible refine Lim.bind ?_ (fun _ => ?_))
  | (with_reducible exact Lim.const _)
def impl_isWordOf.f (k : Nat) (a0 : ByteArray) (a1 : ByteArray) : Option (Bool) := (impl_within.f (a0.size : Int) 1 8).bind fun t187 => (if t187 = true then ((impl_hasOnly.f k a0 a1).bind fun t188 => (some t188)) else (some false))
theorem impl_isWordOf.mono : ∀ a0 a1 k, LeO (impl_isWordOf.f k a0 a1) (impl_isWordOf.f (k + 1) a0 a1) := by
  intro a0 a1 k
  unfold impl_isWordOf.f
  repeat' first
      | (with_reducible exact impl_hasOnly.mono _ _ _)
      | (with_reducible exact LeO.refl _)
      | (with_reducible exact LeO.none _)
      | (with_reducible refine LeO.ite ?_ ?_)
      | (with_reducible refine LeO.bind ?_ (fun _ => ?_))
      | exact impl_hasOnly.mono _ _ _
      | exact LeO.none _
      | refine LeO.ite ?_ ?_
      | refine LeO.bind ?_ (fun _ => ?_)
noncomputable def impl_isWordOf.F (a0 : ByteArray) (a1 : ByteArray) : Option (Bool) := lim fun k => impl_isWordOf.f k a0 a1
theorem impl_isWordOf.F_lim (a0 : ByteArray) (a1 : ByteArray) : Lim (fun k => impl_isWordOf.f k a0 a1) (impl_isWordOf.F a0 a1) := ⟨impl_isWordOf.mono a0 a1, rfl⟩
theorem impl_isWordOf.F_eq (a0 : ByteArray) (a1 : ByteArray) : impl_isWordOf.F a0 a1 = ((impl_within.f (a0.size : Int) 1 8).bind fun t187 => (if t187 = true then ((impl_hasOnly.F a0 a1).bind fun t188 => (some t188)) else (some false))) := by
  refine Lim.eq_ ?_
  simp only [impl_isWordOf.f]
  repeat' first
  | (with_reducible exact impl_hasOnly.F_lim _ _)
  | (with_reducible refine Lim.ite ?_ ?_)
  | (with_reducible refine Lim.bind ?_ (fun _ => ?_))
  | (with_reducible exact Lim.const _)
def impl_AreLoci.l0 : Nat → List (S82) → List (S82) → Int → Int → Option (Bool)
  | 0, _, _, _, _ => none
  | k + 1, x0, x5, x6, x7 => if x7 < x6 then (if 0 ≤ x7 then (if x7 < (x5.length : Int) then ((impl_isWordOf.f k ((rd_T82 x5 x7).f0) (⟨#[97, 98, 99, 100, 101, 102, 103, 104, 105, 106, 107, 108, 109, 110, 111, 112, 113, 114, 115, 116, 117, 118, 119, 120, 121, 122]⟩ : ByteArray)).bind fun t191 => (if t191 = true then ((impl_isAngle.f ((rd_T82 x5 x7).f1)).bind fun t192 => (if t192 = true then (if x7 > 0 then (if 0 ≤ (wrap64 (x7 - 1)) then (if (wrap64 (x7 - 1)) < (x0.length : Int) then (if ((rd_T82 x5 x7).f1) ≤ ((rd_T82 x0 (wrap64 (x7 - 1))).f1) then (some false) else (if x7 ≤ (x0.length : Int) then ((impl_locusOf.f k (x0.take (x7 : Int).toNat) ((rd_T82 x5 x7).f0)).bind fun t198 => (if t198 ≥ 0 then (some false) else (impl_AreLoci.l0 k x0 x5 x6 (wrap64 (x7 + 1))))) else (none))) else (none)) else (none)) else (if x7 ≤ (x0.length : Int) then ((impl_locusOf.f k (x0.take (x7 : Int).toNat) ((rd_T82 x5 x7).f0)).bind fun t203 => (if t203 ≥ 0 then (some false) else (impl_AreLoci.l0 k x0 x5 x6 (wrap64 (x7 + 1))))) else (none))) else (some false))) else (some false))) else (none)) else (none)) else (some (decide ((x0.length : Int) ≤ 8)))
def impl_AreLoci.f (k : Nat) (l0 : List (S82)) : Option (Bool) := impl_AreLoci.l0 k l0 l0 (l0.length : Int) 0
theorem impl_AreLoci.mono_l : ∀ k, (∀ y0 y1 y2 y3, LeO (impl_AreLoci.l0 k y0 y1 y2 y3) (impl_AreLoci.l0 (k + 1) y0 y1 y2 y3))
  | 0 => fun _ _ _ _ r h => by simp [impl_AreLoci.l0] at h
  | k + 1 => by
    have ih0 := impl_AreLoci.mono_l k
    · intro y0 y1 y2 y3
      unfold impl_AreLoci.l0
      repeat' first
      | (with_reducible exact ih0 _ _ _ _)
      | (with_reducible exact impl_isWordOf.mono _ _ _)
      | (with_reducible exact impl_locusOf.mono _ _ _)
      | (with_reducible exact LeO.refl _)
      | (with_reducible exact LeO.none _)
      | (with_reducible refine LeO.ite ?_ ?_)
      | (with_reducible refine LeO.bind ?_ (fun _ => ?_))
      | exact ih0 _ _ _ _
      | exact impl_isWordOf.mono _ _ _
      | exact impl_locusOf.mono _ _ _
      | exact LeO.none _
      | refine LeO.ite ?_ ?_
      | refine LeO.bind ?_ (fun _ => ?_)
theorem impl_AreLoci.mono : ∀ a0 k, LeO (impl_AreLoci.f k a0) (impl_AreLoci.f (k + 1) a0) := by
  intro a0 k
  have ih0 := impl_AreLoci.mono_l k
  unfold impl_AreLoci.f
  repeat' first
      | (with_reducible exact ih0 _ _ _ _)
      | (with_reducible exact impl_isWordOf.mono _ _ _)
      | (with_reducible exact impl_locusOf.mono _ _ _)
      | (with_reducible exact LeO.refl _)
      | (with_reducible exact LeO.none _)
      | (with_reducible refine LeO.ite ?_ ?_)
      | (with_reducible refine LeO.bind ?_ (fun _ => ?_))
      | exact ih0 _ _ _ _
      | exact impl_isWordOf.mono _ _ _
      | exact impl_locusOf.mono _ _ _
      | exact LeO.none _
      | refine LeO.ite ?_ ?_
      | refine LeO.bind ?_ (fun _ => ?_)
noncomputable def impl_AreLoci.L0 (x0 : List (S82)) (x5 : List (S82)) (x6 : Int) (x7 : Int) : Option (Bool) := lim fun k => impl_AreLoci.l0 k x0 x5 x6 x7
theorem impl_AreLoci.L0_lim (x0 : List (S82)) (x5 : List (S82)) (x6 : Int) (x7 : Int) : Lim (fun k => impl_AreLoci.l0 k x0 x5 x6 x7) (impl_AreLoci.L0 x0 x5 x6 x7) := ⟨fun k => (impl_AreLoci.mono_l k) x0 x5 x6 x7, rfl⟩
noncomputable def impl_AreLoci.F (l0 : List (S82)) : Option (Bool) := lim fun k => impl_AreLoci.f k l0
theorem impl_AreLoci.F_lim (l0 : List (S82)) : Lim (fun k => impl_AreLoci.f k l0) (impl_AreLoci.F l0) := ⟨impl_AreLoci.mono l0, rfl⟩
theorem impl_AreLoci.L0_eq (x0 : List (S82)) (x5 : List (S82)) (x6 : Int) (x7 : Int) : impl_AreLoci.L0 x0 x5 x6 x7 = (if x7 < x6 then (if 0 ≤ x7 then (if x7 < (x5.length : Int) then ((impl_isWordOf.F ((rd_T82 x5 x7).f0) (⟨#[97, 98, 99, 100, 101, 102, 103, 104, 105, 106, 107, 108, 109, 110, 111, 112, 113, 114, 115, 116, 117, 118, 119, 120, 121, 122]⟩ : ByteArray)).bind fun t191 => (if t191 = true then ((impl_isAngle.f ((rd_T82 x5 x7).f1)).bind fun t192 => (if t192 = true then (if x7 > 0 then (if 0 ≤ (wrap64 (x7 - 1)) then (if (wrap64 (x7 - 1)) < (x0.length : Int) then (if ((rd_T82 x5 x7).f1) ≤ ((rd_T82 x0 (wrap64 (x7 - 1))).f1) then (some false) else (if x7 ≤ (x0.length : Int) then ((impl_locusOf.F (x0.take (x7 : Int).toNat) ((rd_T82 x5 x7).f0)).bind fun t198 => (if t198 ≥ 0 then (some false) else (impl_AreLoci.L0 x0 x5 x6 (wrap64 (x7 + 1))))) else (none))) else (none)) else (none)) else (if x7 ≤ (x0.length : Int) then ((impl_locusOf.F (x0.take (x7 : Int).toNat) ((rd_T82 x5 x7).f0)).bind fun t203 => (if t203 ≥ 0 then (some false) else (impl_AreLoci.L0 x0 x5 x6 (wrap64 (x7 + 1))))) else (none))) else (some false))) else (some false))) else (none)) else (none)) else (some (decide ((x0.length : Int) ≤ 8)))) := by
  refine Lim.succ_eq (impl_AreLoci.L0_lim x0 x5 x6 x7).mon ?_
  simp only [impl_AreLoci.l0]
  repeat' first
  | (with_reducible exact impl_AreLoci.L0_lim _ _ _ _)
  | (with_reducible exact impl_isWordOf.F_lim _ _)
  | (with_reducible exact impl_locusOf.F_lim _ _)
  | (with_reducible refine Lim.ite ?_ ?_)
  | (with_reducible refine Lim.bind ?_ (fun _ => ?_))
  | (with_reducible exact Lim.const _)
theorem impl_AreLoci.F_eq (l0 : List (S82)) : impl_AreLoci.F l0 = (impl_AreLoci.L0 l0 l0 (l0.length : Int) 0) := by
  refine Lim.eq_ ?_
  simp only [impl_AreLoci.f]
  repeat' first
  | (with_reducible exact impl_AreLoci.L0_lim _ _ _ _)
  | (with_reducible exact impl_isWordOf.F_lim _ _)
  | (with_reducible exact impl_locusOf.F_lim _ _)
  | (with_reducible refine Lim.ite ?_ ?_)
  | (with_reducible refine Lim.bind ?_ (fun _ => ?_))
  | (with_reducible exact Lim.const _)
def impl_areReferents_1.f (k : Nat) (a0 : ByteArray) (l1_0 : List (S82)) : Option (Bool) := (impl_locusOf.f k l1_0 a0).bind fun t204 => (some (decide (t204 ≥ 0)))
theorem impl_areReferents_1.mono : ∀ a0 a1 k, LeO (impl_areReferents_1.f k a0 a1) (impl_areReferents_1.f (k + 1) a0 a1) := by
  intro a0 a1 k
  unfold impl_areReferents_1.f
  repeat' first
      | (with_reducible exact impl_locusOf.mono _ _ _)
      | (with_reducible exact LeO.refl _)
      | (with_reducible exact LeO.none _)
      | (with_reducible refine LeO.ite ?_ ?_)
      | (with_reducible refine LeO.bind ?_ (fun _ => ?_))
      | exact impl_locusOf.mono _ _ _
      | exact LeO.none _
      | refine LeO.ite ?_ ?_
      | refine LeO.bind ?_ (fun _ => ?_)
noncomputable def impl_areReferents_1.F (a0 : ByteArray) (l1_0 : List (S82)) : Option (Bool) := lim fun k => impl_areReferents_1.f k a0 l1_0
theorem impl_areReferents_1.F_lim (a0 : ByteArray) (l1_0 : List (S82)) : Lim (fun k => impl_areReferents_1.f k a0 l1_0) (impl_areReferents_1.F a0 l1_0) := ⟨impl_areReferents_1.mono a0 l1_0, rfl⟩
theorem impl_areReferents_1.F_eq (a0 : ByteArray) (l1_0 : List (S82)) : impl_areReferents_1.F a0 l1_0 = ((impl_locusOf.F l1_0 a0).bind fun t204 => (some (decide (t204 ≥ 0)))) := by
  refine Lim.eq_ ?_
  simp only [impl_areReferents_1.f]
  repeat' first
  | (with_reducible exact impl_locusOf.F_lim _ _)
  | (with_reducible refine Lim.ite ?_ ?_)
  | (with_reducible refine Lim.bind ?_ (fun _ => ?_))
  | (with_reducible exact Lim.const _)
def impl_allOf_string_1_impl_areReferents_1.f (k : Nat) (a0 : ByteArray) (l1_0 : List (S82)) : Option (Bool) := (impl_areReferents_1.f k a0 l1_0).bind fun t205 => (some (!t205))
theorem impl_allOf_string_1_impl_areReferents_1.mono : ∀ a0 a1 k, LeO (impl_allOf_string_1_impl_areReferents_1.f k a0 a1) (impl_allOf_string_1_impl_areReferents_1.f (k + 1) a0 a1) := by
  intro a0 a1 k
  unfold impl_allOf_string_1_impl_areReferents_1.f
  repeat' first
      | (with_reducible exact impl_areReferents_1.mono _ _ _)
      | (with_reducible exact LeO.refl _)
      | (with_reducible exact LeO.none _)
      | (with_reducible refine LeO.ite ?_ ?_)
      | (with_reducible refine LeO.bind ?_ (fun _ => ?_))
      | exact impl_areReferents_1.mono _ _ _
      | exact LeO.none _
      | refine LeO.ite ?_ ?_
      | refine LeO.bind ?_ (fun _ => ?_)
noncomputable def impl_allOf_string_1_impl_areReferents_1.F (a0 : ByteArray) (l1_0 : List (S82)) : Option (Bool) := lim fun k => impl_allOf_string_1_impl_areReferents_1.f k a0 l1_0
theorem impl_allOf_string_1_impl_areReferents_1.F_lim (a0 : ByteArray) (l1_0 : List (S82)) : Lim (fun k => impl_allOf_string_1_impl_areReferents_1.f k a0 l1_0) (impl_allOf_string_1_impl_areReferents_1.F a0 l1_0) := ⟨impl_allOf_string_1_impl_areReferents_1.mono a0 l1_0, rfl⟩
theorem impl_allOf_string_1_impl_areReferents_1.F_eq (a0 : ByteArray) (l1_0 : List (S82)) : impl_allOf_string_1_impl_areReferents_1.F a0 l1_0 = ((impl_areReferents_1.F a0 l1_0).bind fun t205 => (some (!t205))) := by
  refine Lim.eq_ ?_
  simp only [impl_allOf_string_1_impl_areReferents_1.f]
  repeat' first
  | (with_reducible exact impl_areReferents_1.F_lim _ _)
  | (with_reducible refine Lim.ite ?_ ?_)
  | (with_reducible refine Lim.bind ?_ (fun _ => ?_))
  | (with_reducible exact Lim.const _)
def slices_IndexFunc_string_impl_allOf_string_1_impl_areReferents_1.l0 : Nat → List ByteArray → Int → Int → List (S82) → Option (Int)
  | 0, _, _, _, _ => none
  | k + 1, x0, x7, x8, x40000 => if x8 < x7 then (if 0 ≤ x8 then (if x8 < (x0.length : Int) then ((impl_allOf_string_1_impl_areReferents_1.f k (rdOf ByteArray.empty x0 x8) x40000).bind fun t207 => (if t207 = true then (some x8) else (slices_IndexFunc_string_impl_allOf_string_1_impl_areReferents_1.l0 k x0 x7 (wrap64 (x8 + 1)) x40000))) else (none)) else (none)) else (some (-1))
def slices_IndexFunc_string_impl_allOf_string_1_impl_areReferents_1.f (k : Nat) (l0 : List ByteArray) (l1_0 : List (S82)) : Option (Int) := slices_IndexFunc_string_impl_allOf_string_1_impl_areReferents_1.l0 k l0 (l0.length : Int) 0 l1_0
theorem slices_IndexFunc_string_impl_allOf_string_1_impl_areReferents_1.mono_l : ∀ k, (∀ y0 y1 y2 y3, LeO (slices_IndexFunc_string_impl_allOf_string_1_impl_areReferents_1.l0 k y0 y1 y2 y3) (slices_IndexFunc_string_impl_allOf_string_1_impl_areReferents_1.l0 (k + 1) y0 y1 y2 y3))
  | 0 => fun _ _ _ _ r h => by simp [slices_IndexFunc_string_impl_allOf_string_1_impl_areReferents_1.l0] at h
  | k + 1 => by
    have ih0 := slices_IndexFunc_string_impl_allOf_string_1_impl_areReferents_1.mono_l k
    · intro y0 y1 y2 y3
      unfold slices_IndexFunc_string_impl_allOf_string_1_impl_areReferents_1.l0
      repeat' first
      | (with_reducible exact ih0 _ _ _ _)
      | (with_reducible exact impl_allOf_string_1_impl_areReferents_1.mono _ _ _)
      | (with_reducible exact LeO.refl _)
      | (with_reducible exact LeO.none _)
      | (with_reducible refine LeO.ite ?_ ?_)
      | (with_reducible refine LeO.bind ?_ (fun _ => ?_))
      | exact ih0 _ _ _ _
      | exact impl_allOf_string_1_impl_areReferents_1.mono _ _ _
      | exact LeO.none _
      | refine LeO.ite ?_ ?_
      | refine LeO.bind ?_ (fun _ => ?_)
theorem slices_IndexFunc_string_impl_allOf_string_1_impl_areReferents_1.mono : ∀ a0 a1 k, LeO (slices_IndexFunc_string_impl_allOf_string_1_impl_areReferents_1.f k a0 a1) (slices_IndexFunc_string_impl_allOf_string_1_impl_areReferents_1.f (k + 1) a0 a1) := by
  intro a0 a1 k
  have ih0 := slices_IndexFunc_string_impl_allOf_string_1_impl_areReferents_1.mono_l k
  unfold slices_IndexFunc_string_impl_allOf_string_1_impl_areReferents_1.f
  repeat' first
      | (with_reducible exact ih0 _ _ _ _)
      | (with_reducible exact impl_allOf_string_1_impl_areReferents_1.mono _ _ _)
      | (with_reducible exact LeO.refl _)
      | (with_reducible exact LeO.none _)
      | (with_reducible refine LeO.ite ?_ ?_)
      | (with_reducible refine LeO.bind ?_ (fun _ => ?_))
      | exact ih0 _ _ _ _
      | exact impl_allOf_string_1_impl_areReferents_1.mono _ _ _
      | exact LeO.none _
      | refine LeO.ite ?_ ?_
      | refine LeO.bind ?_ (fun _ => ?_)
noncomputable def slices_IndexFunc_string_impl_allOf_string_1_impl_areReferents_1.L0 (x0 : List ByteArray) (x7 : Int) (x8 : Int) (x40000 : List (S82)) : Option (Int) := lim fun k => slices_IndexFunc_string_impl_allOf_string_1_impl_areReferents_1.l0 k x0 x7 x8 x40000
theorem slices_IndexFunc_string_impl_allOf_string_1_impl_areReferents_1.L0_lim (x0 : List ByteArray) (x7 : Int) (x8 : Int) (x40000 : List (S82)) : Lim (fun k => slices_IndexFunc_string_impl_allOf_string_1_impl_areReferents_1.l0 k x0 x7 x8 x40000) (slices_IndexFunc_string_impl_allOf_string_1_impl_areReferents_1.L0 x0 x7 x8 x40000) := ⟨fun k => (slices_IndexFunc_string_impl_allOf_string_1_impl_areReferents_1.mono_l k) x0 x7 x8 x40000, rfl⟩
noncomputable def slices_IndexFunc_string_impl_allOf_string_1_impl_areReferents_1.F (l0 : List ByteArray) (l1_0 : List (S82)) : Option (Int) := lim fun k => slices_IndexFunc_string_impl_allOf_string_1_impl_areReferents_1.f k l0 l1_0
theorem slices_IndexFunc_string_impl_allOf_string_1_impl_areReferents_1.F_lim (l0 : List ByteArray) (l1_0 : List (S82)) : Lim (fun k => slices_IndexFunc_string_impl_allOf_string_1_impl_areReferents_1.f k l0 l1_0) (slices_IndexFunc_string_impl_allOf_string_1_impl_areReferents_1.F l0 l1_0) := ⟨slices_IndexFunc_string_impl_allOf_string_1_impl_areReferents_1.mono l0 l1_0, rfl⟩
theorem slices_IndexFunc_string_impl_allOf_string_1_impl_areReferents_1.L0_eq (x0 : List ByteArray) (x7 : Int) (x8 : Int) (x40000 : List (S82)) : slices_IndexFunc_string_impl_allOf_string_1_impl_areReferents_1.L0 x0 x7 x8 x40000 = (if x8 < x7 then (if 0 ≤ x8 then (if x8 < (x0.length : Int) then ((impl_allOf_string_1_impl_areReferents_1.F (rdOf ByteArray.empty x0 x8) x40000).bind fun t207 => (if t207 = true then (some x8) else (slices_IndexFunc_string_impl_allOf_string_1_impl_areReferents_1.L0 x0 x7 (wrap64 (x8 + 1)) x40000))) else (none)) else (none)) else (some (-1))) := by
  refine Lim.succ_eq (slices_IndexFunc_string_impl_allOf_string_1_impl_areReferents_1.L0_lim x0 x7 x8 x40000).mon ?_
  simp only [slices_IndexFunc_string_impl_allOf_string_1_impl_areReferents_1.l0]
  repeat' first
  | (with_reducible exact slices_IndexFunc_string_impl_allOf_string_1_impl_areReferents_1.L0_lim _ _ _ _)
  | (with_reducible exact impl_allOf_string_1_impl_areReferents_1.F_lim _ _)
  | (with_reducible refine Lim.ite ?_ ?_)
  | (with_reducible refine Lim.bind ?_ (fun _ => ?_))
  | (with_reducible exact Lim.const _)
theorem slices_IndexFunc_string_impl_allOf_string_1_impl_areReferents_1.F_eq (l0 : List ByteArray) (l1_0 : List (S82)) : slices_IndexFunc_string_impl_allOf_string_1_impl_areReferents_1.F l0 l1_0 = (slices_IndexFunc_string_impl_allOf_string_1_impl_areReferents_1.L0 l0 (l0.length : Int) 0 l1_0) := by
  refine Lim.eq_ ?_
  simp only [slices_IndexFunc_string_impl_allOf_string_1_impl_areReferents_1.f]
  repeat' first
  | (with_reducible exact slices_IndexFunc_string_impl_allOf_string_1_impl_areReferents_1.L0_lim _ _ _ _)
  | (with_reducible exact impl_allOf_string_1_impl_areReferents_1.F_lim _ _)
  | (with_reducible refine Lim.ite ?_ ?_)
  | (with_reducible refine Lim.bind ?_ (fun _ => ?_))
  | (with_reducible exact Lim.const _)
def slices_ContainsFunc_string_impl_allOf_string_1_impl_areReferents_1.f (k : Nat) (l0 : List ByteArray) (l1_0 : List (S82)) : Option (Bool) := (slices_IndexFunc_string_impl_allOf_string_1_impl_areReferents_1.f k l0 l1_0).bind fun t208 => (some (decide (t208 ≥ 0)))
theorem slices_ContainsFunc_string_impl_allOf_string_1_impl_areReferents_1.mono : ∀ a0 a1 k, LeO (slices_ContainsFunc_string_impl_allOf_string_1_impl_areReferents_1.f k a0 a1) (slices_ContainsFunc_string_impl_allOf_string_1_impl_areReferents_1.f (k + 1) a0 a1) := by
  intro a0 a1 k
  unfold slices_ContainsFunc_string_impl_allOf_string_1_impl_areReferents_1.f
  repeat' first
      | (with_reducible exact slices_IndexFunc_string_impl_allOf_string_1_impl_areReferents_1.mono _ _ _)
      | (with_reducible exact LeO.refl _)
      | (with_reducible exact LeO.none _)
      | (with_reducible refine LeO.ite ?_ ?_)
      | (with_reducible refine LeO.bind ?_ (fun _ => ?_))
      | exact slices_IndexFunc_string_impl_allOf_string_1_impl_areReferents_1.mono _ _ _
      | exact LeO.none _
      | refine LeO.ite ?_ ?_
      | refine LeO.bind ?_ (fun _ => ?_)
noncomputable def slices_ContainsFunc_string_impl_allOf_string_1_impl_areReferents_1.F (l0 : List ByteArray) (l1_0 : List (S82)) : Option (Bool) := lim fun k => slices_ContainsFunc_string_impl_allOf_string_1_impl_areReferents_1.f k l0 l1_0
theorem slices_ContainsFunc_string_impl_allOf_string_1_impl_areReferents_1.F_lim (l0 : List ByteArray) (l1_0 : List (S82)) : Lim (fun k => slices_ContainsFunc_string_impl_allOf_string_1_impl_areReferents_1.f k l0 l1_0) (slices_ContainsFunc_string_impl_allOf_string_1_impl_areReferents_1.F l0 l1_0) := ⟨slices_ContainsFunc_string_impl_allOf_string_1_impl_areReferents_1.mono l0 l1_0, rfl⟩
theorem slices_ContainsFunc_string_impl_allOf_string_1_impl_areReferents_1.F_eq (l0 : List ByteArray) (l1_0 : List (S82)) : slices_ContainsFunc_string_impl_allOf_string_1_impl_areReferents_1.F l0 l1_0 = ((slices_IndexFunc_string_impl_allOf_string_1_impl_areReferents_1.F l0 l1_0).bind fun t208 => (some (decide (t208 ≥ 0)))) := by
  refine Lim.eq_ ?_
  simp only [slices_ContainsFunc_string_impl_allOf_string_1_impl_areReferents_1.f]
  repeat' first
  | (with_reducible exact slices_IndexFunc_string_impl_allOf_string_1_impl_areReferents_1.F_lim _ _)
  | (with_reducible refine Lim.ite ?_ ?_)
  | (with_reducible refine Lim.bind ?_ (fun _ => ?_))
  | (with_reducible exact Lim.const _)
def impl_allOf_string_impl_areReferents_1.f (k : Nat) (l0 : List ByteArray) (l1_0 : List (S82)) : Option (Bool) := (slices_ContainsFunc_string_impl_allOf_string_1_impl_areReferents_1.f k l0 l1_0).bind fun t210 => (some (!t210))
theorem impl_allOf_string_impl_areReferents_1.mono : ∀ a0 a1 k, LeO (impl_allOf_string_impl_areReferents_1.f k a0 a1) (impl_allOf_string_impl_areReferents_1.f (k + 1) a0 a1) := by
  intro a0 a1 k
  unfold impl_allOf_string_impl_areReferents_1.f
  repeat' first
      | (with_reducible exact slices_ContainsFunc_string_impl_allOf_string_1_impl_areReferents_1.mono _ _ _)
      | (with_reducible exact LeO.refl _)
      | (with_reducible exact LeO.none _)
      | (with_reducible refine LeO.ite ?_ ?_)
      | (with_reducible refine LeO.bind ?_ (fun _ => ?_))
      | exact slices_ContainsFunc_string_impl_allOf_string_1_impl_areReferents_1.mono _ _ _
      | exact LeO.none _
      | refine LeO.ite ?_ ?_
      | refine LeO.bind ?_ (fun _ => ?_)
noncomputable def impl_allOf_string_impl_areReferents_1.F (l0 : List ByteArray) (l1_0 : List (S82)) : Option (Bool) := lim fun k => impl_allOf_string_impl_areReferents_1.f k l0 l1_0
theorem impl_allOf_string_impl_areReferents_1.F_lim (l0 : List ByteArray) (l1_0 : List (S82)) : Lim (fun k => impl_allOf_string_impl_areReferents_1.f k l0 l1_0) (impl_allOf_string_impl_areReferents_1.F l0 l1_0) := ⟨impl_allOf_string_impl_areReferents_1.mono l0 l1_0, rfl⟩
theorem impl_allOf_string_impl_areReferents_1.F_eq (l0 : List ByteArray) (l1_0 : List (S82)) : impl_allOf_string_impl_areReferents_1.F l0 l1_0 = ((slices_ContainsFunc_string_impl_allOf_string_1_impl_areReferents_1.F l0 l1_0).bind fun t210 => (some (!t210))) := by
  refine Lim.eq_ ?_
  simp only [impl_allOf_string_impl_areReferents_1.f]
  repeat' first
  | (with_reducible exact slices_ContainsFunc_string_impl_allOf_string_1_impl_areReferents_1.F_lim _ _)
  | (with_reducible refine Lim.ite ?_ ?_)
  | (with_reducible refine Lim.bind ?_ (fun _ => ?_))
  | (with_reducible exact Lim.const _)
def impl_areReferents.f (k : Nat) (l0 : List (S82)) (l1 : List ByteArray) : Option (Bool) := (impl_AreLoci.f k l0).bind fun t212 => (if t212 = true then ((impl_allOf_string_impl_areReferents_1.f k l1 l0).bind fun t213 => (some t213)) else (some false))
theorem impl_areReferents.mono : ∀ a0 a1 k, LeO (impl_areReferents.f k a0 a1) (impl_areReferents.f (k + 1) a0 a1) := by
  intro a0 a1 k
  unfold impl_areReferents.f
  repeat' first
      | (with_reducible exact impl_AreLoci.mono _ _)
      | (with_reducible exact impl_allOf_string_impl_areReferents_1.mono _ _ _)
      | (with_reducible exact LeO.refl _)
      | (with_reducible exact LeO.none _)
      | (with_reducible refine LeO.ite ?_ ?_)
      | (with_reducible refine LeO.bind ?_ (fun _ => ?_))
      | exact impl_AreLoci.mono _ _
      | exact impl_allOf_string_impl_areReferents_1.mono _ _ _
      | exact LeO.none _
      | refine LeO.ite ?_ ?_
      | refine LeO.bind ?_ (fun _ => ?_)
noncomputable def impl_areReferents.F (l0 : List (S82)) (l1 : List ByteArray) : Option (Bool) := lim fun k => impl_areReferents.f k l0 l1
theorem impl_areReferents.F_lim (l0 : List (S82)) (l1 : List ByteArray) : Lim (fun k => impl_areReferents.f k l0 l1) (impl_areReferents.F l0 l1) := ⟨impl_areReferents.mono l0 l1, rfl⟩
theorem impl_areReferents.F_eq (l0 : List (S82)) (l1 : List ByteArray) : impl_areReferents.F l0 l1 = ((impl_AreLoci.F l0).bind fun t212 => (if t212 = true then ((impl_allOf_string_impl_areReferents_1.F l1 l0).bind fun t213 => (some t213)) else (some false))) := by
  refine Lim.eq_ ?_
  simp only [impl_areReferents.f]
  repeat' first
  | (with_reducible exact impl_AreLoci.F_lim _)
  | (with_reducible exact impl_allOf_string_impl_areReferents_1.F_lim _ _)
  | (with_reducible refine Lim.ite ?_ ?_)
  | (with_reducible refine Lim.bind ?_ (fun _ => ?_))
  | (with_reducible exact Lim.const _)
def impl_IsGloss.f (k : Nat) (a0 : ByteArray) : Option (Bool) := (impl_isWordOf.f k a0 (⟨#[65, 66, 67, 68, 69, 70, 71, 72, 73, 74, 75, 76, 77, 78, 79, 80, 81, 82, 83, 84, 85, 86, 87, 88, 89, 90]⟩ : ByteArray)).bind fun t214 => (some t214)
theorem impl_IsGloss.mono : ∀ a0 k, LeO (impl_IsGloss.f k a0) (impl_IsGloss.f (k + 1) a0) := by
  intro a0 k
  unfold impl_IsGloss.f
  repeat' first
      | (with_reducible exact impl_isWordOf.mono _ _ _)
      | (with_reducible exact LeO.refl _)
      | (with_reducible exact LeO.none _)
      | (with_reducible refine LeO.ite ?_ ?_)
      | (with_reducible refine LeO.bind ?_ (fun _ => ?_))
      | exact impl_isWordOf.mono _ _ _
      | exact LeO.none _
      | refine LeO.ite ?_ ?_
      | refine LeO.bind ?_ (fun _ => ?_)
noncomputable def impl_IsGloss.F (a0 : ByteArray) : Option (Bool) := lim fun k => impl_IsGloss.f k a0
theorem impl_IsGloss.F_lim (a0 : ByteArray) : Lim (fun k => impl_IsGloss.f k a0) (impl_IsGloss.F a0) := ⟨impl_IsGloss.mono a0, rfl⟩
theorem impl_IsGloss.F_eq (a0 : ByteArray) : impl_IsGloss.F a0 = ((impl_isWordOf.F a0 (⟨#[65, 66, 67, 68, 69, 70, 71, 72, 73, 74, 75, 76, 77, 78, 79, 80, 81, 82, 83, 84, 85, 86, 87, 88, 89, 90]⟩ : ByteArray)).bind fun t214 => (some t214)) := by
  refine Lim.eq_ ?_
  simp only [impl_IsGloss.f]
  repeat' first
  | (with_reducible exact impl_isWordOf.F_lim _ _)
  | (with_reducible refine Lim.ite ?_ ?_)
  | (with_reducible refine Lim.bind ?_ (fun _ => ?_))
  | (with_reducible exact Lim.const _)
def impl_IsVerb.f (k : Nat) (a0_0 : ByteArray) (a0_1 : Int) (a0_2 : Int) : Option (Bool) := (impl_IsGloss.f k a0_0).bind fun t216 => (if t216 = true then ((impl_isAngle.f a0_1).bind fun t217 => (if t217 = true then ((impl_isAngle.f a0_2).bind fun t218 => (if t218 = true then (some (a0_1 != a0_2)) else (some false))) else (some false))) else (some false))
theorem impl_IsVerb.mono : ∀ a0 a1 a2 k, LeO (impl_IsVerb.f k a0 a1 a2) (impl_IsVerb.f (k + 1) a0 a1 a2) := by
  intro a0 a1 a2 k
  unfold impl_IsVerb.f
  repeat' first
      | (with_reducible exact impl_IsGloss.mono _ _)
      | (with_reducible exact LeO.refl _)
      | (with_reducible exact LeO.none _)
      | (with_reducible refine LeO.ite ?_ ?_)
      | (with_reducible refine LeO.bind ?_ (fun _ => ?_))
      | exact impl_IsGloss.mono _ _
      | exact LeO.none _
      | refine LeO.ite ?_ ?_
      | refine LeO.bind ?_ (fun _ => ?_)
noncomputable def impl_IsVerb.F (a0_0 : ByteArray) (a0_1 : Int) (a0_2 : Int) : Option (Bool) := lim fun k => impl_IsVerb.f k a0_0 a0_1 a0_2
theorem impl_IsVerb.F_lim (a0_0 : ByteArray) (a0_1 : Int) (a0_2 : Int) : Lim (fun k => impl_IsVerb.f k a0_0 a0_1 a0_2) (impl_IsVerb.F a0_0 a0_1 a0_2) := ⟨impl_IsVerb.mono a0_0 a0_1 a0_2, rfl⟩
theorem impl_IsVerb.F_eq (a0_0 : ByteArray) (a0_1 : Int) (a0_2 : Int) : impl_IsVerb.F a0_0 a0_1 a0_2 = ((impl_IsGloss.F a0_0).bind fun t216 => (if t216 = true then ((impl_isAngle.f a0_1).bind fun t217 => (if t217 = true then ((impl_isAngle.f a0_2).bind fun t218 => (if t218 = true then (some (a0_1 != a0_2)) else (some false))) else (some false))) else (some false))) := by
  refine Lim.eq_ ?_
  simp only [impl_IsVerb.f]
  repeat' first
  | (with_reducible exact impl_IsGloss.F_lim _)
  | (with_reducible refine Lim.ite ?_ ?_)
  | (with_reducible refine Lim.bind ?_ (fun _ => ?_))
  | (with_reducible exact Lim.const _)
def impl_allOf_Verb_1_impl_IsVerb.f (k : Nat) (a0_0 : ByteArray) (a0_1 : Int) (a0_2 : Int)  : Option (Bool) := (impl_IsVerb.f k a0_0 a0_1 a0_2).bind fun t220 => (some (!t220))
theorem impl_allOf_Verb_1_impl_IsVerb.mono : ∀ a0 a1 a2 k, LeO (impl_allOf_Verb_1_impl_IsVerb.f k a0 a1 a2) (impl_allOf_Verb_1_impl_IsVerb.f (k + 1) a0 a1 a2) := by
  intro a0 a1 a2 k
  unfold impl_allOf_Verb_1_impl_IsVerb.f
  repeat' first
      | (with_reducible exact impl_IsVerb.mono _ _ _ _)
      | (with_reducible exact LeO.refl _)
      | (with_reducible exact LeO.none _)
      | (with_reducible refine LeO.ite ?_ ?_)
      | (with_reducible refine LeO.bind ?_ (fun _ => ?_))
      | exact impl_IsVerb.mono _ _ _ _
      | exact LeO.none _
      | refine LeO.ite ?_ ?_
      | refine LeO.bind ?_ (fun _ => ?_)
noncomputable def impl_allOf_Verb_1_impl_IsVerb.F (a0_0 : ByteArray) (a0_1 : Int) (a0_2 : Int)  : Option (Bool) := lim fun k => impl_allOf_Verb_1_impl_IsVerb.f k a0_0 a0_1 a0_2
theorem impl_allOf_Verb_1_impl_IsVerb.F_lim (a0_0 : ByteArray) (a0_1 : Int) (a0_2 : Int)  : Lim (fun k => impl_allOf_Verb_1_impl_IsVerb.f k a0_0 a0_1 a0_2) (impl_allOf_Verb_1_impl_IsVerb.F a0_0 a0_1 a0_2) := ⟨impl_allOf_Verb_1_impl_IsVerb.mono a0_0 a0_1 a0_2, rfl⟩
theorem impl_allOf_Verb_1_impl_IsVerb.F_eq (a0_0 : ByteArray) (a0_1 : Int) (a0_2 : Int)  : impl_allOf_Verb_1_impl_IsVerb.F a0_0 a0_1 a0_2 = ((impl_IsVerb.F a0_0 a0_1 a0_2).bind fun t220 => (some (!t220))) := by
  refine Lim.eq_ ?_
  simp only [impl_allOf_Verb_1_impl_IsVerb.f]
  repeat' first
  | (with_reducible exact impl_IsVerb.F_lim _ _ _)
  | (with_reducible refine Lim.ite ?_ ?_)
  | (with_reducible refine Lim.bind ?_ (fun _ => ?_))
  | (with_reducible exact Lim.const _)
def slices_IndexFunc_Verb_impl_allOf_Verb_1_impl_IsVerb.l0 : Nat → List (S25) → Int → Int → Option (Int)
  | 0, _, _, _ => none
  | k + 1, x0, x7, x8 => if x8 < x7 then (if 0 ≤ x8 then (if x8 < (x0.length : Int) then ((impl_allOf_Verb_1_impl_IsVerb.f k ((rd_T25 x0 x8).f0) ((rd_T25 x0 x8).f1) ((rd_T25 x0 x8).f2)).bind fun t222 => (if t222 = true then (some x8) else (slices_IndexFunc_Verb_impl_allOf_Verb_1_impl_IsVerb.l0 k x0 x7 (wrap64 (x8 + 1))))) else (none)) else (none)) else (some (-1))
def slices_IndexFunc_Verb_impl_allOf_Verb_1_impl_IsVerb.f (k : Nat) (l0 : List (S25))  : Option (Int) := slices_IndexFunc_Verb_impl_allOf_Verb_1_impl_IsVerb.l0 k l0 (l0.length : Int) 0
theorem slices_IndexFunc_Verb_impl_allOf_Verb_1_impl_IsVerb.mono_l : ∀ k, (∀ y0 y1 y2, LeO (slices_IndexFunc_Verb_impl_allOf_Verb_1_impl_IsVerb.l0 k y0 y1 y2) (slices_IndexFunc_Verb_impl_allOf_Verb_1_impl_IsVerb.l0 (k + 1) y0 y1 y2))
  | 0 => fun _ _ _ r h => by simp [slices_IndexFunc_Verb_impl_allOf_Verb_1_impl_IsVerb.l0] at h
  | k + 1 => by
    have ih0 := slices_IndexFunc_Verb_impl_allOf_Verb_1_impl_IsVerb.mono_l k
    · intro y0 y1 y2
      unfold slices_IndexFunc_Verb_impl_allOf_Verb_1_impl_IsVerb.l0
      repeat' first
      | (with_reducible exact ih0 _ _ _)
      | (with_reducible exact impl_allOf_Verb_1_impl_IsVerb.mono _ _ _ _)
      | (with_reducible exact LeO.refl _)
      | (with_reducible exact LeO.none _)
      | (with_reducible refine LeO.ite ?_ ?_)
      | (with_reducible refine LeO.bind ?_ (fun _ => ?_))
      | exact ih0 _ _ _
      | exact impl_allOf_Verb_1_impl_IsVerb.mono _ _ _ _
      | exact LeO.none _
      | refine LeO.ite ?_ ?_
      | refine LeO.bind ?_ (fun _ => ?_)
theorem slices_IndexFunc_Verb_impl_allOf_Verb_1_impl_IsVerb.mono : ∀ a0 k, LeO (slices_IndexFunc_Verb_impl_allOf_Verb_1_impl_IsVerb.f k a0) (slices_IndexFunc_Verb_impl_allOf_Verb_1_impl_IsVerb.f (k + 1) a0) := by
  intro a0 k
  have ih0 := slices_IndexFunc_Verb_impl_allOf_Verb_1_impl_IsVerb.mono_l k
  unfold slices_IndexFunc_Verb_impl_allOf_Verb_1_impl_IsVerb.f
  repeat' first
      | (with_reducible exact ih0 _ _ _)
      | (with_reducible exact impl_allOf_Verb_1_impl_IsVerb.mono _ _ _ _)
      | (with_reducible exact LeO.refl _)
      | (with_reducible exact LeO.none _)
      | (with_reducible refine LeO.ite ?_ ?_)
      | (with_reducible refine LeO.bind ?_ (fun _ => ?_))
      | exact ih0 _ _ _
      | exact impl_allOf_Verb_1_impl_IsVerb.mono _ _ _ _
      | exact LeO.none _
      | refine LeO.ite ?_ ?_
      | refine LeO.bind ?_ (fun _ => ?_)
noncomputable def slices_IndexFunc_Verb_impl_allOf_Verb_1_impl_IsVerb.L0 (x0 : List (S25)) (x7 : Int) (x8 : Int) : Option (Int) := lim fun k => slices_IndexFunc_Verb_impl_allOf_Verb_1_impl_IsVerb.l0 k x0 x7 x8
theorem slices_IndexFunc_Verb_impl_allOf_Verb_1_impl_IsVerb.L0_lim (x0 : List (S25)) (x7 : Int) (x8 : Int) : Lim (fun k => slices_IndexFunc_Verb_impl_allOf_Verb_1_impl_IsVerb.l0 k x0 x7 x8) (slices_IndexFunc_Verb_impl_allOf_Verb_1_impl_IsVerb.L0 x0 x7 x8) := ⟨fun k => (slices_IndexFunc_Verb_impl_allOf_Verb_1_impl_IsVerb.mono_l k) x0 x7 x8, rfl⟩
noncomputable def slices_IndexFunc_Verb_impl_allOf_Verb_1_impl_IsVerb.F (l0 : List (S25))  : Option (Int) := lim fun k => slices_IndexFunc_Verb_impl_allOf_Verb_1_impl_IsVerb.f k l0
theorem slices_IndexFunc_Verb_impl_allOf_Verb_1_impl_IsVerb.F_lim (l0 : List (S25))  : Lim (fun k => slices_IndexFunc_Verb_impl_allOf_Verb_1_impl_IsVerb.f k l0) (slices_IndexFunc_Verb_impl_allOf_Verb_1_impl_IsVerb.F l0) := ⟨slices_IndexFunc_Verb_impl_allOf_Verb_1_impl_IsVerb.mono l0, rfl⟩
theorem slices_IndexFunc_Verb_impl_allOf_Verb_1_impl_IsVerb.L0_eq (x0 : List (S25)) (x7 : Int) (x8 : Int) : slices_IndexFunc_Verb_impl_allOf_Verb_1_impl_IsVerb.L0 x0 x7 x8 = (if x8 < x7 then (if 0 ≤ x8 then (if x8 < (x0.length : Int) then ((impl_allOf_Verb_1_impl_IsVerb.F ((rd_T25 x0 x8).f0) ((rd_T25 x0 x8).f1) ((rd_T25 x0 x8).f2)).bind fun t222 => (if t222 = true then (some x8) else (slices_IndexFunc_Verb_impl_allOf_Verb_1_impl_IsVerb.L0 x0 x7 (wrap64 (x8 + 1))))) else (none)) else (none)) else (some (-1))) := by
  refine Lim.succ_eq (slices_IndexFunc_Verb_impl_allOf_Verb_1_impl_IsVerb.L0_lim x0 x7 x8).mon ?_
  simp only [slices_IndexFunc_Verb_impl_allOf_Verb_1_impl_IsVerb.l0]
  repeat' first
  | (with_reducible exact slices_IndexFunc_Verb_impl_allOf_Verb_1_impl_IsVerb.L0_lim _ _ _)
  | (with_reducible exact impl_allOf_Verb_1_impl_IsVerb.F_lim _ _ _)
  | (with_reducible refine Lim.ite ?_ ?_)
  | (with_reducible refine Lim.bind ?_ (fun _ => ?_))
  | (with_reducible exact Lim.const _)
theorem slices_IndexFunc_Verb_impl_allOf_Verb_1_impl_IsVerb.F_eq (l0 : List (S25))  : slices_IndexFunc_Verb_impl_allOf_Verb_1_impl_IsVerb.F l0 = (slices_IndexFunc_Verb_impl_allOf_Verb_1_impl_IsVerb.L0 l0 (l0.length : Int) 0) := by
  refine Lim.eq_ ?_
  simp only [slices_IndexFunc_Verb_impl_allOf_Verb_1_impl_IsVerb.f]
  repeat' first
  | (with_reducible exact slices_IndexFunc_Verb_impl_allOf_Verb_1_impl_IsVerb.L0_lim _ _ _)
  | (with_reducible exact impl_allOf_Verb_1_impl_IsVerb.F_lim _ _ _)
  | (with_reducible refine Lim.ite ?_ ?_)
  | (with_reducible refine Lim.bind ?_ (fun _ => ?_))
  | (with_reducible exact Lim.const _)
def slices_ContainsFunc_Verb_impl_allOf_Verb_1_impl_IsVerb.f (k : Nat) (l0 : List (S25))  : Option (Bool) := (slices_IndexFunc_Verb_impl_allOf_Verb_1_impl_IsVerb.f k l0).bind fun t223 => (some (decide (t223 ≥ 0)))
theorem slices_ContainsFunc_Verb_impl_allOf_Verb_1_impl_IsVerb.mono : ∀ a0 k, LeO (slices_ContainsFunc_Verb_impl_allOf_Verb_1_impl_IsVerb.f k a0) (slices_ContainsFunc_Verb_impl_allOf_Verb_1_impl_IsVerb.f (k + 1) a0) := by
  intro a0 k
  unfold slices_ContainsFunc_Verb_impl_allOf_Verb_1_impl_IsVerb.f
  repeat' first
      | (with_reducible exact slices_IndexFunc_Verb_impl_allOf_Verb_1_impl_IsVerb.mono _ _)
      | (with_reducible exact LeO.refl _)
      | (with_reducible exact LeO.none _)
      | (with_reducible refine LeO.ite ?_ ?_)
      | (with_reducible refine LeO.bind ?_ (fun _ => ?_))
      | exact slices_IndexFunc_Verb_impl_allOf_Verb_1_impl_IsVerb.mono _ _
      | exact LeO.none _
      | refine LeO.ite ?_ ?_
      | refine LeO.bind ?_ (fun _ => ?_)
noncomputable def slices_ContainsFunc_Verb_impl_allOf_Verb_1_impl_IsVerb.F (l0 : List (S25))  : Option (Bool) := lim fun k => slices_ContainsFunc_Verb_impl_allOf_Verb_1_impl_IsVerb.f k l0
theorem slices_ContainsFunc_Verb_impl_allOf_Verb_1_impl_IsVerb.F_lim (l0 : List (S25))  : Lim (fun k => slices_ContainsFunc_Verb_impl_allOf_Verb_1_impl_IsVerb.f k l0) (slices_ContainsFunc_Verb_impl_allOf_Verb_1_impl_IsVerb.F l0) := ⟨slices_ContainsFunc_Verb_impl_allOf_Verb_1_impl_IsVerb.mono l0, rfl⟩
theorem slices_ContainsFunc_Verb_impl_allOf_Verb_1_impl_IsVerb.F_eq (l0 : List (S25))  : slices_ContainsFunc_Verb_impl_allOf_Verb_1_impl_IsVerb.F l0 = ((slices_IndexFunc_Verb_impl_allOf_Verb_1_impl_IsVerb.F l0).bind fun t223 => (some (decide (t223 ≥ 0)))) := by
  refine Lim.eq_ ?_
  simp only [slices_ContainsFunc_Verb_impl_allOf_Verb_1_impl_IsVerb.f]
  repeat' first
  | (with_reducible exact slices_IndexFunc_Verb_impl_allOf_Verb_1_impl_IsVerb.F_lim _)
  | (with_reducible refine Lim.ite ?_ ?_)
  | (with_reducible refine Lim.bind ?_ (fun _ => ?_))
  | (with_reducible exact Lim.const _)
def impl_allOf_Verb_impl_IsVerb.f (k : Nat) (l0 : List (S25))  : Option (Bool) := (slices_ContainsFunc_Verb_impl_allOf_Verb_1_impl_IsVerb.f k l0).bind fun t225 => (some (!t225))
theorem impl_allOf_Verb_impl_IsVerb.mono : ∀ a0 k, LeO (impl_allOf_Verb_impl_IsVerb.f k a0) (impl_allOf_Verb_impl_IsVerb.f (k + 1) a0) := by
  intro a0 k
  unfold impl_allOf_Verb_impl_IsVerb.f
  repeat' first
      | (with_reducible exact slices_ContainsFunc_Verb_impl_allOf_Verb_1_impl_IsVerb.mono _ _)
      | (with_reducible exact LeO.refl _)
      | (with_reducible exact LeO.none _)
      | (with_reducible refine LeO.ite ?_ ?_)
      | (with_reducible refine LeO.bind ?_ (fun _ => ?_))
      | exact slices_ContainsFunc_Verb_impl_allOf_Verb_1_impl_IsVerb.mono _ _
      | exact LeO.none _
      | refine LeO.ite ?_ ?_
      | refine LeO.bind ?_ (fun _ => ?_)
noncomputable def impl_allOf_Verb_impl_IsVerb.F (l0 : List (S25))  : Option (Bool) := lim fun k => impl_allOf_Verb_impl_IsVerb.f k l0
theorem impl_allOf_Verb_impl_IsVerb.F_lim (l0 : List (S25))  : Lim (fun k => impl_allOf_Verb_impl_IsVerb.f k l0) (impl_allOf_Verb_impl_IsVerb.F l0) := ⟨impl_allOf_Verb_impl_IsVerb.mono l0, rfl⟩
theorem impl_allOf_Verb_impl_IsVerb.F_eq (l0 : List (S25))  : impl_allOf_Verb_impl_IsVerb.F l0 = ((slices_ContainsFunc_Verb_impl_allOf_Verb_1_impl_IsVerb.F l0).bind fun t225 => (some (!t225))) := by
  refine Lim.eq_ ?_
  simp only [impl_allOf_Verb_impl_IsVerb.f]
  repeat' first
  | (with_reducible exact slices_ContainsFunc_Verb_impl_allOf_Verb_1_impl_IsVerb.F_lim _)
  | (with_reducible refine Lim.ite ?_ ?_)
  | (with_reducible refine Lim.bind ?_ (fun _ => ?_))
  | (with_reducible exact Lim.const _)
def impl_areVerbs.f (k : Nat) (l0 : List (S25)) : Option (Bool) := if (l0.length : Int) ≤ 20 then ((impl_allOf_Verb_impl_IsVerb.f k l0).bind fun t226 => (some t226)) else (some false)
theorem impl_areVerbs.mono : ∀ a0 k, LeO (impl_areVerbs.f k a0) (impl_areVerbs.f (k + 1) a0) := by
  intro a0 k
  unfold impl_areVerbs.f
  repeat' first
      | (with_reducible exact impl_allOf_Verb_impl_IsVerb.mono _ _)
      | (with_reducible exact LeO.refl _)
      | (with_reducible exact LeO.none _)
      | (with_reducible refine LeO.ite ?_ ?_)
      | (with_reducible refine LeO.bind ?_ (fun _ => ?_))
      | exact impl_allOf_Verb_impl_IsVerb.mono _ _
      | exact LeO.none _
      | refine LeO.ite ?_ ?_
      | refine LeO.bind ?_ (fun _ => ?_)
noncomputable def impl_areVerbs.F (l0 : List (S25)) : Option (Bool) := lim fun k => impl_areVerbs.f k l0
theorem impl_areVerbs.F_lim (l0 : List (S25)) : Lim (fun k => impl_areVerbs.f k l0) (impl_areVerbs.F l0) := ⟨impl_areVerbs.mono l0, rfl⟩
theorem impl_areVerbs.F_eq (l0 : List (S25)) : impl_areVerbs.F l0 = (if (l0.length : Int) ≤ 20 then ((impl_allOf_Verb_impl_IsVerb.F l0).bind fun t226 => (some t226)) else (some false)) := by
  refine Lim.eq_ ?_
  simp only [impl_areVerbs.f]
  repeat' first
  | (with_reducible exact impl_allOf_Verb_impl_IsVerb.F_lim _)
  | (with_reducible refine Lim.ite ?_ ?_)
  | (with_reducible refine Lim.bind ?_ (fun _ => ?_))
  | (with_reducible exact Lim.const _)
def impl_distance.f (a0 : Int) (a1 : Int) : Option (Int) := some (mx (wrap64 (a0 - a1)) (wrap64 (a1 - a0)))
def impl_ClosestVerb_1.f (a0_0 : ByteArray) (a0_1 : Int) (a0_2 : Int) (a1_0 : Int) (a2_0 : Int) : Option (Int) := (impl_distance.f a0_1 a1_0).bind fun t228 => ((impl_distance.f a0_2 a2_0).bind fun t229 => (some (wrap64 (t228 + t229))))
mutual
def impl_ClosestVerb.j0 : Nat → List (S82) → List (S25) → ByteArray → ByteArray → Bool → Option (Int × Int × Bool)
  | 0, _, _, _, _, _ => none
  | k + 1, x0, x1, x2, x3, x37 => if x37 = true then (some (0, 0, false)) else ((impl_locusOf.f k x0 x2).bind fun t235 => (if 0 ≤ t235 then (if t235 < (x0.length : Int) then ((impl_locusOf.f k x0 x3).bind fun t237 => (if 0 ≤ t237 then (if t237 < (x0.length : Int) then (impl_ClosestVerb.l0 k x1 0 x1 (x1.length : Int) 0 ((rd_T82 x0 t235).f1) ((rd_T82 x0 t237).f1)) else (none)) else (none))) else (none)) else (none)))
def impl_ClosestVerb.l0 : Nat → List (S25) → Int → List (S25) → Int → Int → Int → Int → Option (Int × Int × Bool)
  | 0, _, _, _, _, _, _, _ => none
  | k + 1, x1, x14, x53, x54, x55, x240000, x241000 => if x55 < x54 then (if 0 ≤ x55 then (if x55 < (x53.length : Int) then ((impl_ClosestVerb_1.f ((rd_T25 x53 x55).f0) ((rd_T25 x53 x55).f1) ((rd_T25 x53 x55).f2) x240000 x241000).bind fun t245 => (if 0 ≤ x14 then (if x14 < (x1.length : Int) then ((impl_ClosestVerb_1.f ((rd_T25 x1 x14).f0) ((rd_T25 x1 x14).f1) ((rd_T25 x1 x14).f2) x240000 x241000).bind fun t247 => (if t245 < t247 then (impl_ClosestVerb.l0 k x1 x55 x53 x54 (wrap64 (x55 + 1)) x240000 x241000) else (impl_ClosestVerb.l0 k x1 x14 x53 x54 (wrap64 (x55 + 1)) x240000 x241000))) else (none)) else (none))) else (none)) else (none)) else (if 0 ≤ x14 then (if x14 < (x1.length : Int) then ((impl_ClosestVerb_1.f ((rd_T25 x1 x14).f0) ((rd_T25 x1 x14).f1) ((rd_T25 x1 x14).f2) x240000 x241000).bind fun t242 => (some (x14, t242, true))) else (none)) else (none))
end
def impl_ClosestVerb.f (k : Nat) (l0 : List (S82)) (l1 : List (S25)) (a2 : ByteArray) (a3 : ByteArray) : Option (Int × Int × Bool) := if (l1.length : Int) = 0 then (impl_ClosestVerb.j0 k l0 l1 a2 a3 true) else ((impl_areVerbs.f k l1).bind fun t230 => (if t230 = true then ((impl_areReferents.f k l0 (([a2, a3] : List ByteArray))).bind fun t234 => (if t234 = true then (impl_ClosestVerb.j0 k l0 l1 a2 a3 (a2.toList == a3.toList)) else (impl_ClosestVerb.j0 k l0 l1 a2 a3 true))) else (impl_ClosestVerb.j0 k l0 l1 a2 a3 true)))
theorem impl_ClosestVerb.mono_l : ∀ k, (∀ y0 y1 y2 y3 y4, LeO (impl_ClosestVerb.j0 k y0 y1 y2 y3 y4) (impl_ClosestVerb.j0 (k + 1) y0 y1 y2 y3 y4)) ∧ (∀ y0 y1 y2 y3 y4 y5 y6, LeO (impl_ClosestVerb.l0 k y0 y1 y2 y3 y4 y5 y6) (impl_ClosestVerb.l0 (k + 1) y0 y1 y2 y3 y4 y5 y6))
  | 0 => ⟨fun _ _ _ _ _ r h => by simp [impl_ClosestVerb.j0] at h, fun _ _ _ _ _ _ _ r h => by simp [impl_ClosestVerb.l0] at h⟩
  | k + 1 => by
    obtain ⟨ih0, ih1⟩ := impl_ClosestVerb.mono_l k
    refine ⟨?_, ?_⟩
    · intro y0 y1 y2 y3 y4
      unfold impl_ClosestVerb.j0
      repeat' first
      | (with_reducible exact ih0 _ _ _ _ _)
      | (with_reducible exact ih1 _ _ _ _ _ _ _)
      | (with_reducible exact impl_areReferents.mono _ _ _)
      | (with_reducible exact impl_areVerbs.mono _ _)
      | (with_reducible exact impl_locusOf.mono _ _ _)
      | (with_reducible exact LeO.refl _)
      | (with_reducible exact LeO.none _)
      | (with_reducible refine LeO.ite ?_ ?_)
      | (with_reducible refine LeO.bind ?_ (fun _ => ?_))
      | exact ih0 _ _ _ _ _
      | exact ih1 _ _ _ _ _ _ _
      | exact impl_areReferents.mono _ _ _
      | exact impl_areVerbs.mono _ _
      | exact impl_locusOf.mono _ _ _
      | exact LeO.none _
      | refine LeO.ite ?_ ?_
      | refine LeO.bind ?_ (fun _ => ?_)
    · intro y0 y1 y2 y3 y4 y5 y6
      unfold impl_ClosestVerb.l0
      repeat' first
      | (with_reducible exact ih0 _ _ _ _ _)
      | (with_reducible exact ih1 _ _ _ _ _ _ _)
      | (with_reducible exact impl_areReferents.mono _ _ _)
      | (with_reducible exact impl_areVerbs.mono _ _)
      | (with_reducible exact impl_locusOf.mono _ _ _)
      | (with_reducible exact LeO.refl _)
      | (with_reducible exact LeO.none _)
      | (with_reducible refine LeO.ite ?_ ?_)
      | (with_reducible refine LeO.bind ?_ (fun _ => ?_))
      | exact ih0 _ _ _ _ _
      | exact ih1 _ _ _ _ _ _ _
      | exact impl_areReferents.mono _ _ _
      | exact impl_areVerbs.mono _ _
      | exact impl_locusOf.mono _ _ _
      | exact LeO.none _
      | refine LeO.ite ?_ ?_
      | refine LeO.bind ?_ (fun _ => ?_)
theorem impl_ClosestVerb.mono : ∀ a0 a1 a2 a3 k, LeO (impl_ClosestVerb.f k a0 a1 a2 a3) (impl_ClosestVerb.f (k + 1) a0 a1 a2 a3) := by
  intro a0 a1 a2 a3 k
  obtain ⟨ih0, ih1⟩ := impl_ClosestVerb.mono_l k
  unfold impl_ClosestVerb.f
  repeat' first
      | (with_reducible exact ih0 _ _ _ _ _)
      | (with_reducible exact ih1 _ _ _ _ _ _ _)
      | (with_reducible exact impl_areReferents.mono _ _ _)
      | (with_reducible exact impl_areVerbs.mono _ _)
      | (with_reducible exact impl_locusOf.mono _ _ _)
      | (with_reducible exact LeO.refl _)
      | (with_reducible exact LeO.none _)
      | (with_reducible refine LeO.ite ?_ ?_)
      | (with_reducible refine LeO.bind ?_ (fun _ => ?_))
      | exact ih0 _ _ _ _ _
      | exact ih1 _ _ _ _ _ _ _
      | exact impl_areReferents.mono _ _ _
      | exact impl_areVerbs.mono _ _
      | exact impl_locusOf.mono _ _ _
      | exact LeO.none _
      | refine LeO.ite ?_ ?_
      | refine LeO.bind ?_ (fun _ => ?_)
noncomputable def impl_ClosestVerb.J0 (x0 : List (S82)) (x1 : List (S25)) (x2 : ByteArray) (x3 : ByteArray) (x37 : Bool) : Option (Int × Int × Bool) := lim fun k => impl_ClosestVerb.j0 k x0 x1 x2 x3 x37
theorem impl_ClosestVerb.J0_lim (x0 : List (S82)) (x1 : List (S25)) (x2 : ByteArray) (x3 : ByteArray) (x37 : Bool) : Lim (fun k => impl_ClosestVerb.j0 k x0 x1 x2 x3 x37) (impl_ClosestVerb.J0 x0 x1 x2 x3 x37) := ⟨fun k => (impl_ClosestVerb.mono_l k).1 x0 x1 x2 x3 x37, rfl⟩
noncomputable def impl_ClosestVerb.L0 (x1 : List (S25)) (x14 : Int) (x53 : List (S25)) (x54 : Int) (x55 : Int) (x240000 : Int) (x241000 : Int) : Option (Int × Int × Bool) := lim fun k => impl_ClosestVerb.l0 k x1 x14 x53 x54 x55 x240000 x241000
theorem impl_ClosestVerb.L0_lim (x1 : List (S25)) (x14 : Int) (x53 : List (S25)) (x54 : Int) (x55 : Int) (x240000 : Int) (x241000 : Int) : Lim (fun k => impl_ClosestVerb.l0 k x1 x14 x53 x54 x55 x240000 x241000) (impl_ClosestVerb.L0 x1 x14 x53 x54 x55 x240000 x241000) := ⟨fun k => (impl_ClosestVerb.mono_l k).2 x1 x14 x53 x54 x55 x240000 x241000, rfl⟩
noncomputable def impl_ClosestVerb.F (l0 : List (S82)) (l1 : List (S25)) (a2 : ByteArray) (a3 : ByteArray) : Option (Int × Int × Bool) := lim fun k => impl_ClosestVerb.f k l0 l1 a2 a3
theorem impl_ClosestVerb.F_lim (l0 : List (S82)) (l1 : List (S25)) (a2 : ByteArray) (a3 : ByteArray) : Lim (fun k => impl_ClosestVerb.f k l0 l1 a2 a3) (impl_ClosestVerb.F l0 l1 a2 a3) := ⟨impl_ClosestVerb.mono l0 l1 a2 a3, rfl⟩
theorem impl_ClosestVerb.J0_eq (x0 : List (S82)) (x1 : List (S25)) (x2 : ByteArray) (x3 : ByteArray) (x37 : Bool) : impl_ClosestVerb.J0 x0 x1 x2 x3 x37 = (if x37 = true then (some (0, 0, false)) else ((impl_locusOf.F x0 x2).bind fun t235 => (if 0 ≤ t235 then (if t235 < (x0.length : Int) then ((impl_locusOf.F x0 x3).bind fun t237 => (if 0 ≤ t237 then (if t237 < (x0.length : Int) then (impl_ClosestVerb.L0 x1 0 x1 (x1.length : Int) 0 ((rd_T82 x0 t235).f1) ((rd_T82 x0 t237).f1)) else (none)) else (none))) else (none)) else (none)))) := by
  refine Lim.succ_eq (impl_ClosestVerb.J0_lim x0 x1 x2 x3 x37).mon ?_
  simp only [impl_ClosestVerb.j0]
  repeat' first
  | (with_reducible exact impl_ClosestVerb.J0_lim _ _ _ _ _)
  | (with_reducible exact impl_ClosestVerb.L0_lim _ _ _ _ _ _ _)
  | (with_reducible exact impl_areReferents.F_lim _ _)
  | (with_reducible exact impl_areVerbs.F_lim _)
  | (with_reducible exact impl_locusOf.F_lim _ _)
  | (with_reducible refine Lim.ite ?_ ?_)
  | (with_reducible refine Lim.bind ?_ (fun _ => ?_))
  | (with_reducible exact Lim.const _)
theorem impl_ClosestVerb.L0_eq (x1 : List (S25)) (x14 : Int) (x53 : List (S25)) (x54 : Int) (x55 : Int) (x240000 : Int) (x241000 : Int) : impl_ClosestVerb.L0 x1 x14 x53 x54 x55 x240000 x241000 = (if x55 < x54 then (if 0 ≤ x55 then (if x55 < (x53.length : Int) then ((impl_ClosestVerb_1.f ((rd_T25 x53 x55).f0) ((rd_T25 x53 x55).f1) ((rd_T25 x53 x55).f2) x240000 x241000).bind fun t245 => (if 0 ≤ x14 then (if x14 < (x1.length : Int) then ((impl_ClosestVerb_1.f ((rd_T25 x1 x14).f0) ((rd_T25 x1 x14).f1) ((rd_T25 x1 x14).f2) x240000 x241000).bind fun t247 => (if t245 < t247 then (impl_ClosestVerb.L0 x1 x55 x53 x54 (wrap64 (x55 + 1)) x240000 x241000) else (impl_ClosestVerb.L0 x1 x14 x53 x54 (wrap64 (x55 + 1)) x240000 x241000))) else (none)) else (none))) else (none)) else (none)) else (if 0 ≤ x14 then (if x14 < (x1.length : Int) then ((impl_ClosestVerb_1.f ((rd_T25 x1 x14).f0) ((rd_T25 x1 x14).f1) ((rd_T25 x1 x14).f2) x240000 x241000).bind fun t242 => (some (x14, t242, true))) else (none)) else (none))) := by
  refine Lim.succ_eq (impl_ClosestVerb.L0_lim x1 x14 x53 x54 x55 x240000 x241000).mon ?_
  simp only [impl_ClosestVerb.l0]
  repeat' first
  | (with_reducible exact impl_ClosestVerb.J0_lim _ _ _ _ _)
  | (with_reducible exact impl_ClosestVerb.L0_lim _ _ _ _ _ _ _)
  | (with_reducible exact impl_areReferents.F_lim _ _)
  | (with_reducible exact impl_areVerbs.F_lim _)
  | (with_reducible exact impl_locusOf.F_lim _ _)
  | (with_reducible refine Lim.ite ?_ ?_)
  | (with_reducible refine Lim.bind ?_ (fun _ => ?_))
  | (with_reducible exact Lim.const _)
theorem impl_ClosestVerb.F_eq (l0 : List (S82)) (l1 : List (S25)) (a2 : ByteArray) (a3 : ByteArray) : impl_ClosestVerb.F l0 l1 a2 a3 = (if (l1.length : Int) = 0 then (impl_ClosestVerb.J0 l0 l1 a2 a3 true) else ((impl_areVerbs.F l1).bind fun t230 => (if t230 = true then ((impl_areReferents.F l0 (([a2, a3] : List ByteArray))).bind fun t234 => (if t234 = true then (impl_ClosestVerb.J0 l0 l1 a2 a3 (a2.toList == a3.toList)) else (impl_ClosestVerb.J0 l0 l1 a2 a3 true))) else (impl_ClosestVerb.J0 l0 l1 a2 a3 true)))) := by
  refine Lim.eq_ ?_
  simp only [impl_ClosestVerb.f]
  repeat' first
  | (with_reducible exact impl_ClosestVerb.J0_lim _ _ _ _ _)
  | (with_reducible exact impl_ClosestVerb.L0_lim _ _ _ _ _ _ _)
  | (with_reducible exact impl_areReferents.F_lim _ _)
  | (with_reducible exact impl_areVerbs.F_lim _)
  | (with_reducible exact impl_locusOf.F_lim _ _)
  | (with_reducible refine Lim.ite ?_ ?_)
  | (with_reducible refine Lim.bind ?_ (fun _ => ?_))
  | (with_reducible exact Lim.const _)
def laws_eqVerb.f (a0_0 : ByteArray) (a0_1 : Int) (a0_2 : Int) (a1_0 : ByteArray) (a1_1 : Int) (a1_2 : Int) : Option (Bool) := if a0_0.toList = a1_0.toList then (if a0_1 = a1_1 then (if a0_2 = a1_2 then (some true) else (some false)) else (some false)) else (some false)
def laws_eqVerbS.l0 : Nat → List (S25) → List (S25) → Int → Option (Bool)
  | 0, _, _, _ => none
  | k + 1, x0, x1, x5 => if x5 < (x0.length : Int) then (if 0 ≤ x5 then (if x5 < (x1.length : Int) then ((laws_eqVerb.f ((rd_T25 x0 x5).f0) ((rd_T25 x0 x5).f1) ((rd_T25 x0 x5).f2) ((rd_T25 x1 x5).f0) ((rd_T25 x1 x5).f1) ((rd_T25 x1 x5).f2)).bind fun t252 => (if t252 = true then (laws_eqVerbS.l0 k x0 x1 (wrap64 (x5 + 1))) else (some false))) else (none)) else (none)) else (some true)
def laws_eqVerbS.f (k : Nat) (l0 : List (S25)) (l1 : List (S25)) : Option (Bool) := if (l0.length : Int) = (l1.length : Int) then (laws_eqVerbS.l0 k l0 l1 0) else (some false)
theorem laws_eqVerbS.mono_l : ∀ k, (∀ y0 y1 y2, LeO (laws_eqVerbS.l0 k y0 y1 y2) (laws_eqVerbS.l0 (k + 1) y0 y1 y2))
  | 0 => fun _ _ _ r h => by simp [laws_eqVerbS.l0] at h
  | k + 1 => by
    have ih0 := laws_eqVerbS.mono_l k
    · intro y0 y1 y2
      unfold laws_eqVerbS.l0
      repeat' first
      | (with_reducible exact ih0 _ _ _)
      | (with_reducible exact LeO.refl _)
      | (with_reducible exact LeO.none _)
      | (with_reducible refine LeO.ite ?_ ?_)
      | (with_reducible refine LeO.bind ?_ (fun _ => ?_))
      | exact ih0 _ _ _
      | exact LeO.none _
      | refine LeO.ite ?_ ?_
      | refine LeO.bind ?_ (fun _ => ?_)
theorem laws_eqVerbS.mono : ∀ a0 a1 k, LeO (laws_eqVerbS.f k a0 a1) (laws_eqVerbS.f (k + 1) a0 a1) := by
  intro a0 a1 k
  have ih0 := laws_eqVerbS.mono_l k
  unfold laws_eqVerbS.f
  repeat' first
      | (with_reducible exact ih0 _ _ _)
      | (with_reducible exact LeO.refl _)
      | (with_reducible exact LeO.none _)
      | (with_reducible refine LeO.ite ?_ ?_)
      | (with_reducible refine LeO.bind ?_ (fun _ => ?_))
      | exact ih0 _ _ _
      | exact LeO.none _
      | refine LeO.ite ?_ ?_
      | refine LeO.bind ?_ (fun _ => ?_)
noncomputable def laws_eqVerbS.L0 (x0 : List (S25)) (x1 : List (S25)) (x5 : Int) : Option (Bool) := lim fun k => laws_eqVerbS.l0 k x0 x1 x5
theorem laws_eqVerbS.L0_lim (x0 : List (S25)) (x1 : List (S25)) (x5 : Int) : Lim (fun k => laws_eqVerbS.l0 k x0 x1 x5) (laws_eqVerbS.L0 x0 x1 x5) := ⟨fun k => (laws_eqVerbS.mono_l k) x0 x1 x5, rfl⟩
noncomputable def laws_eqVerbS.F (l0 : List (S25)) (l1 : List (S25)) : Option (Bool) := lim fun k => laws_eqVerbS.f k l0 l1
theorem laws_eqVerbS.F_lim (l0 : List (S25)) (l1 : List (S25)) : Lim (fun k => laws_eqVerbS.f k l0 l1) (laws_eqVerbS.F l0 l1) := ⟨laws_eqVerbS.mono l0 l1, rfl⟩
theorem laws_eqVerbS.L0_eq (x0 : List (S25)) (x1 : List (S25)) (x5 : Int) : laws_eqVerbS.L0 x0 x1 x5 = (if x5 < (x0.length : Int) then (if 0 ≤ x5 then (if x5 < (x1.length : Int) then ((laws_eqVerb.f ((rd_T25 x0 x5).f0) ((rd_T25 x0 x5).f1) ((rd_T25 x0 x5).f2) ((rd_T25 x1 x5).f0) ((rd_T25 x1 x5).f1) ((rd_T25 x1 x5).f2)).bind fun t252 => (if t252 = true then (laws_eqVerbS.L0 x0 x1 (wrap64 (x5 + 1))) else (some false))) else (none)) else (none)) else (some true)) := by
  refine Lim.succ_eq (laws_eqVerbS.L0_lim x0 x1 x5).mon ?_
  simp only [laws_eqVerbS.l0]
  repeat' first
  | (with_reducible exact laws_eqVerbS.L0_lim _ _ _)
  | (with_reducible refine Lim.ite ?_ ?_)
  | (with_reducible refine Lim.bind ?_ (fun _ => ?_))
  | (with_reducible exact Lim.const _)
theorem laws_eqVerbS.F_eq (l0 : List (S25)) (l1 : List (S25)) : laws_eqVerbS.F l0 l1 = (if (l0.length : Int) = (l1.length : Int) then (laws_eqVerbS.L0 l0 l1 0) else (some false)) := by
  refine Lim.eq_ ?_
  simp only [laws_eqVerbS.f]
  repeat' first
  | (with_reducible exact laws_eqVerbS.L0_lim _ _ _)
  | (with_reducible refine Lim.ite ?_ ?_)
  | (with_reducible refine Lim.bind ?_ (fun _ => ?_))
  | (with_reducible exact Lim.const _)
def laws_FnExactClosestVerb.j0 : Nat → List (S78) → List (S46) → List (S82) → List (S25) → Bool → Option (Bool)
  | 0, _, _, _, _, _ => none
  | k + 1, x0, x1, x13, x14, x70 => if x70 = true then (some false) else ((laws_toLocusS.f k x0).bind fun t273 => ((laws_eqLocusS.f k x13 t273).bind fun t276 => (if t276 = true then ((laws_toVerbS.f k x1).bind fun t277 => ((laws_eqVerbS.f k x14 t277).bind fun t280 => (if t280 = true then (some true) else (some false)))) else (some false))))
def laws_FnExactClosestVerb.f (k : Nat) (l0 : List (S78)) (l1 : List (S46)) (a2 : ByteArray) (a3 : ByteArray) : Option (Bool) := if (a2.size : Int) > 1048576 then (some true) else (if (a3.size : Int) > 1048576 then (some true) else ((laws_szLocusS.f k l0 1048576).bind fun t253 => (if t253 < 0 then (some true) else ((laws_szVerbS.f k l1 t253).bind fun t254 => (if t254 < 0 then (some true) else ((laws_toLocusS.f k l0).bind fun t255 => ((laws_toVerbS.f k l1).bind fun t258 => ((spec_ClosestVerb.f k t255 t258 a2 a3).bind fun bt261 => ((laws_toLocusS.f k l0).bind fun t264 => ((laws_toVerbS.f k l1).bind fun t267 => ((impl_ClosestVerb.f k t264 t267 a2 a3).bind fun bt270 => (if bt270.1 = bt261.1 then (if bt270.2.1 = bt261.2.1 then (laws_FnExactClosestVerb.j0 k l0 l1 t264 t267 (bt270.2.2 != bt261.2.2)) else (laws_FnExactClosestVerb.j0 k l0 l1 t264 t267 true)) else (laws_FnExactClosestVerb.j0 k l0 l1 t264 t267 true)))))))))))))
theorem laws_FnExactClosestVerb.mono_l : ∀ k, (∀ y0 y1 y2 y3 y4, LeO (laws_FnExactClosestVerb.j0 k y0 y1 y2 y3 y4) (laws_FnExactClosestVerb.j0 (k + 1) y0 y1 y2 y3 y4))
  | 0 => fun _ _ _ _ _ r h => by simp [laws_FnExactClosestVerb.j0] at h
  | k + 1 => by
    have ih0 := laws_FnExactClosestVerb.mono_l k
    · intro y0 y1 y2 y3 y4
      unfold laws_FnExactClosestVerb.j0
      repeat' first
      | (with_reducible exact ih0 _ _ _ _ _)
      | (with_reducible exact impl_ClosestVerb.mono _ _ _ _ _)
      | (with_reducible exact laws_eqLocusS.mono _ _ _)
      | (with_reducible exact laws_eqVerbS.mono _ _ _)
      | (with_reducible exact laws_szLocusS.mono _ _ _)
      | (with_reducible exact laws_szVerbS.mono _ _ _)
      | (with_reducible exact laws_toLocusS.mono _ _)
      | (with_reducible exact laws_toVerbS.mono _ _)
      | (with_reducible exact spec_ClosestVerb.mono _ _ _ _ _)
      | (with_reducible exact LeO.refl _)
      | (with_reducible exact LeO.none _)
      | (with_reducible refine LeO.ite ?_ ?_)
      | (with_reducible refine LeO.bind ?_ (fun _ => ?_))
      | exact ih0 _ _ _ _ _
      | exact impl_ClosestVerb.mono _ _ _ _ _
      | exact laws_eqLocusS.mono _ _ _
      | exact laws_eqVerbS.mono _ _ _
      | exact laws_szLocusS.mono _ _ _
      | exact laws_szVerbS.mono _ _ _
      | exact laws_toLocusS.mono _ _
      | exact laws_toVerbS.mono _ _
      | exact spec_ClosestVerb.mono _ _ _ _ _
      | exact LeO.none _
      | refine LeO.ite ?_ ?_
      | refine LeO.bind ?_ (fun _ => ?_)
theorem laws_FnExactClosestVerb.mono : ∀ a0 a1 a2 a3 k, LeO (laws_FnExactClosestVerb.f k a0 a1 a2 a3) (laws_FnExactClosestVerb.f (k + 1) a0 a1 a2 a3) := by
  intro a0 a1 a2 a3 k
  have ih0 := laws_FnExactClosestVerb.mono_l k
  unfold laws_FnExactClosestVerb.f
  repeat' first
      | (with_reducible exact ih0 _ _ _ _ _)
      | (with_reducible exact impl_ClosestVerb.mono _ _ _ _ _)
      | (with_reducible exact laws_eqLocusS.mono _ _ _)
      | (with_reducible exact laws_eqVerbS.mono _ _ _)
      | (with_reducible exact laws_szLocusS.mono _ _ _)
      | (with_reducible exact laws_szVerbS.mono _ _ _)
      | (with_reducible exact laws_toLocusS.mono _ _)
      | (with_reducible exact laws_toVerbS.mono _ _)
      | (with_reducible exact spec_ClosestVerb.mono _ _ _ _ _)
      | (with_reducible exact LeO.refl _)
      | (with_reducible exact LeO.none _)
      | (with_reducible refine LeO.ite ?_ ?_)
      | (with_reducible refine LeO.bind ?_ (fun _ => ?_))
      | exact ih0 _ _ _ _ _
      | exact impl_ClosestVerb.mono _ _ _ _ _
      | exact laws_eqLocusS.mono _ _ _
      | exact laws_eqVerbS.mono _ _ _
      | exact laws_szLocusS.mono _ _ _
      | exact laws_szVerbS.mono _ _ _
      | exact laws_toLocusS.mono _ _
      | exact laws_toVerbS.mono _ _
      | exact spec_ClosestVerb.mono _ _ _ _ _
      | exact LeO.none _
      | refine LeO.ite ?_ ?_
      | refine LeO.bind ?_ (fun _ => ?_)
noncomputable def laws_FnExactClosestVerb.J0 (x0 : List (S78)) (x1 : List (S46)) (x13 : List (S82)) (x14 : List (S25)) (x70 : Bool) : Option (Bool) := lim fun k => laws_FnExactClosestVerb.j0 k x0 x1 x13 x14 x70
theorem laws_FnExactClosestVerb.J0_lim (x0 : List (S78)) (x1 : List (S46)) (x13 : List (S82)) (x14 : List (S25)) (x70 : Bool) : Lim (fun k => laws_FnExactClosestVerb.j0 k x0 x1 x13 x14 x70) (laws_FnExactClosestVerb.J0 x0 x1 x13 x14 x70) := ⟨fun k => (laws_FnExactClosestVerb.mono_l k) x0 x1 x13 x14 x70, rfl⟩
noncomputable def laws_FnExactClosestVerb.F (l0 : List (S78)) (l1 : List (S46)) (a2 : ByteArray) (a3 : ByteArray) : Option (Bool) := lim fun k => laws_FnExactClosestVerb.f k l0 l1 a2 a3
theorem laws_FnExactClosestVerb.F_lim (l0 : List (S78)) (l1 : List (S46)) (a2 : ByteArray) (a3 : ByteArray) : Lim (fun k => laws_FnExactClosestVerb.f k l0 l1 a2 a3) (laws_FnExactClosestVerb.F l0 l1 a2 a3) := ⟨laws_FnExactClosestVerb.mono l0 l1 a2 a3, rfl⟩
theorem laws_FnExactClosestVerb.J0_eq (x0 : List (S78)) (x1 : List (S46)) (x13 : List (S82)) (x14 : List (S25)) (x70 : Bool) : laws_FnExactClosestVerb.J0 x0 x1 x13 x14 x70 = (if x70 = true then (some false) else ((laws_toLocusS.F x0).bind fun t273 => ((laws_eqLocusS.F x13 t273).bind fun t276 => (if t276 = true then ((laws_toVerbS.F x1).bind fun t277 => ((laws_eqVerbS.F x14 t277).bind fun t280 => (if t280 = true then (some true) else (some false)))) else (some false))))) := by
  refine Lim.succ_eq (laws_FnExactClosestVerb.J0_lim x0 x1 x13 x14 x70).mon ?_
  simp only [laws_FnExactClosestVerb.j0]
  repeat' first
  | (with_reducible exact laws_FnExactClosestVerb.J0_lim _ _ _ _ _)
  | (with_reducible exact impl_ClosestVerb.F_lim _ _ _ _)
  | (with_reducible exact laws_eqLocusS.F_lim _ _)
  | (with_reducible exact laws_eqVerbS.F_lim _ _)
  | (with_reducible exact laws_szLocusS.F_lim _ _)
  | (with_reducible exact laws_szVerbS.F_lim _ _)
  | (with_reducible exact laws_toLocusS.F_lim _)
  | (with_reducible exact laws_toVerbS.F_lim _)
  | (with_reducible exact spec_ClosestVerb.F_lim _ _ _ _)
  | (with_reducible refine Lim.ite ?_ ?_)
  | (with_reducible refine Lim.bind ?_ (fun _ => ?_))
  | (with_reducible exact Lim.const _)
theorem laws_FnExactClosestVerb.F_eq (l0 : List (S78)) (l1 : List (S46)) (a2 : ByteArray) (a3 : ByteArray) : laws_FnExactClosestVerb.F l0 l1 a2 a3 = (if (a2.size : Int) > 1048576 then (some true) else (if (a3.size : Int) > 1048576 then (some true) else ((laws_szLocusS.F l0 1048576).bind fun t253 => (if t253 < 0 then (some true) else ((laws_szVerbS.F l1 t253).bind fun t254 => (if t254 < 0 then (some true) else ((laws_toLocusS.F l0).bind fun t255 => ((laws_toVerbS.F l1).bind fun t258 => ((spec_ClosestVerb.F t255 t258 a2 a3).bind fun bt261 => ((laws_toLocusS.F l0).bind fun t264 => ((laws_toVerbS.F l1).bind fun t267 => ((impl_ClosestVerb.F t264 t267 a2 a3).bind fun bt270 => (if bt270.1 = bt261.1 then (if bt270.2.1 = bt261.2.1 then (laws_FnExactClosestVerb.J0 l0 l1 t264 t267 (bt270.2.2 != bt261.2.2)) else (laws_FnExactClosestVerb.J0 l0 l1 t264 t267 true)) else (laws_FnExactClosestVerb.J0 l0 l1 t264 t267 true)))))))))))))) := by
  refine Lim.eq_ ?_
  simp only [laws_FnExactClosestVerb.f]
  repeat' first
  | (with_reducible exact laws_FnExactClosestVerb.J0_lim _ _ _ _ _)
  | (with_reducible exact impl_ClosestVerb.F_lim _ _ _ _)
  | (with_reducible exact laws_eqLocusS.F_lim _ _)
  | (with_reducible exact laws_eqVerbS.F_lim _ _)
  | (with_reducible exact laws_szLocusS.F_lim _ _)
  | (with_reducible exact laws_szVerbS.F_lim _ _)
  | (with_reducible exact laws_toLocusS.F_lim _)
  | (with_reducible exact laws_toVerbS.F_lim _)
  | (with_reducible exact spec_ClosestVerb.F_lim _ _ _ _)
  | (with_reducible refine Lim.ite ?_ ?_)
  | (with_reducible refine Lim.bind ?_ (fun _ => ?_))
  | (with_reducible exact Lim.const _)
def Wf78 (x : S78) : Prop := x.f0.size ≤ 9223372036854775807 ∧ (Lit.int .i64 x.f1).wf = true
def Wf46 (x : S46) : Prop := x.f0.size ≤ 9223372036854775807 ∧ (Lit.int .i64 x.f1).wf = true ∧ (Lit.int .i64 x.f2).wf = true
def laws_FnExactClosestVerb.Pure : Prop := ∀ (l0 : List (S78)) (l1 : List (S46)) (a2 : ByteArray) (a3 : ByteArray), (l0.length ≤ 9223372036854775807 ∧ ∀ x ∈ l0, Wf78 x) → (l1.length ≤ 9223372036854775807 ∧ ∀ x ∈ l1, Wf46 x) → (a2.size ≤ 9223372036854775807) → (a3.size ≤ 9223372036854775807) → ∃ k, laws_FnExactClosestVerb.f k l0 l1 a2 a3 = some true
end Go.Proofs.Ytlnafgjjliincaa.PFnExactClosestVerb
