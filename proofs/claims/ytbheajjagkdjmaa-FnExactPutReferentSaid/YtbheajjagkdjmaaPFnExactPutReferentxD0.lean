/- Written by a program of this claim's author, out of the loaded program as Lean prints it: the functions as Lean functions, and that the calls answer so. -/
import Derived.Test.YtbheajjagkdjmaaPFnExactPutReferentx0
namespace Go.Proofs.Ytbheajjagkdjmaa.PFnExactPutReferent
open Go.RowKit Go.Proofs.YtbheajjagkdjmaaW.PrintWords Go.Proofs.YtbheajjagkdjmaaW.PrintLast Go.Proofs.YtbheajjagkdjmaaW.PrintMore
attribute [local go_sem] max2_int min2_int max_two min_two max_three min_three max_four min_four   -- for this text's walks alone
set_option linter.unusedVariables false
set_option linter.unusedSimpArgs false

def laws_szLocus.f (a0_0 : ByteArray) (a0_1 : Int) (a1 : Int) : Option (Int) := if (wrap64 (a1 - (a0_0.size : Int))) < 0 then (some (-1)) else (some (wrap64 (a1 - (a0_0.size : Int))))
def laws_szLocusS.l0 : Nat → List (S62) → Int → Int → Option (Int)
  | 0, _, _, _ => none
  | k + 1, x0, x1, x5 => if x5 < (x0.length : Int) then (if 0 ≤ x5 then ((laws_szLocus.f ((rd_T62 x0 x5).f0) ((rd_T62 x0 x5).f1) x1).bind fun t103 => (if t103 < 0 then (some (-1)) else (laws_szLocusS.l0 k x0 t103 (wrap64 (x5 + 1))))) else (none)) else (some x1)
def laws_szLocusS.f (k : Nat) (l0 : List (S62)) (a1 : Int) : Option (Int) := if (wrap64 (a1 - (l0.length : Int))) < 0 then (some (-1)) else (laws_szLocusS.l0 k l0 (wrap64 (a1 - (l0.length : Int))) 0)
theorem laws_szLocusS.mono_l : ∀ k, (∀ y0 y1 y2, LeO (laws_szLocusS.l0 k y0 y1 y2) (laws_szLocusS.l0 (k + 1) y0 y1 y2))
  | 0 => fun _ _ _ r h => by simp [laws_szLocusS.l0] at h
  | k + 1 => by
    have ih0 := laws_szLocusS.mono_l k
    · intro y0 y1 y2
      unfold laws_szLocusS.l0
      repeat' first
      | (with_reducible exact ih0 _ _ _)
      | (with_reducible exact LeO.refl _)
      | (with_reducible exact LeO.none _)
      | (with_reducible refine LeO.ite ?_ ?_)
      | (with_reducible refine LeO.bind ?_ (fun _ => ?_))
      | exact ih0 _ _ _
      | exact LeO.none _
      | refine LeO.ite ?_ ?_
      | refine LeO.bind ?_ (fun _ => ?_)
theorem laws_szLocusS.mono : ∀ a0 a1 k, LeO (laws_szLocusS.f k a0 a1) (laws_szLocusS.f (k + 1) a0 a1) := by
  intro a0 a1 k
  have ih0 := laws_szLocusS.mono_l k
  unfold laws_szLocusS.f
  repeat' first
      | (with_reducible exact ih0 _ _ _)
      | (with_reducible exact LeO.refl _)
      | (with_reducible exact LeO.none _)
      | (with_reducible refine LeO.ite ?_ ?_)
      | (with_reducible refine LeO.bind ?_ (fun _ => ?_))
      | exact ih0 _ _ _
      | exact LeO.none _
      | refine LeO.ite ?_ ?_
      | refine LeO.bind ?_ (fun _ => ?_)
noncomputable def laws_szLocusS.L0 (x0 : List (S62)) (x1 : Int) (x5 : Int) : Option (Int) := lim fun k => laws_szLocusS.l0 k x0 x1 x5
theorem laws_szLocusS.L0_lim (x0 : List (S62)) (x1 : Int) (x5 : Int) : Lim (fun k => laws_szLocusS.l0 k x0 x1 x5) (laws_szLocusS.L0 x0 x1 x5) := ⟨fun k => (laws_szLocusS.mono_l k) x0 x1 x5, rfl⟩
noncomputable def laws_szLocusS.F (l0 : List (S62)) (a1 : Int) : Option (Int) := lim fun k => laws_szLocusS.f k l0 a1
theorem laws_szLocusS.F_lim (l0 : List (S62)) (a1 : Int) : Lim (fun k => laws_szLocusS.f k l0 a1) (laws_szLocusS.F l0 a1) := ⟨laws_szLocusS.mono l0 a1, rfl⟩
theorem laws_szLocusS.L0_eq (x0 : List (S62)) (x1 : Int) (x5 : Int) : laws_szLocusS.L0 x0 x1 x5 = (if x5 < (x0.length : Int) then (if 0 ≤ x5 then ((laws_szLocus.f ((rd_T62 x0 x5).f0) ((rd_T62 x0 x5).f1) x1).bind fun t103 => (if t103 < 0 then (some (-1)) else (laws_szLocusS.L0 x0 t103 (wrap64 (x5 + 1))))) else (none)) else (some x1)) := by
  refine Lim.succ_eq (laws_szLocusS.L0_lim x0 x1 x5).mon ?_
  simp only [laws_szLocusS.l0]
  repeat' first
  | (with_reducible exact laws_szLocusS.L0_lim _ _ _)
  | (with_reducible refine Lim.ite ?_ ?_)
  | (with_reducible refine Lim.bind ?_ (fun _ => ?_))
  | (with_reducible exact Lim.const _)
theorem laws_szLocusS.F_eq (l0 : List (S62)) (a1 : Int) : laws_szLocusS.F l0 a1 = (if (wrap64 (a1 - (l0.length : Int))) < 0 then (some (-1)) else (laws_szLocusS.L0 l0 (wrap64 (a1 - (l0.length : Int))) 0)) := by
  refine Lim.eq_ ?_
  simp only [laws_szLocusS.f]
  repeat' first
  | (with_reducible exact laws_szLocusS.L0_lim _ _ _)
  | (with_reducible refine Lim.ite ?_ ?_)
  | (with_reducible refine Lim.bind ?_ (fun _ => ?_))
  | (with_reducible exact Lim.const _)
def spec_l1In.f (a0 : Int) (a1 : Int) (a2 : Int) : Option (Bool) := if a0 ≥ a1 then (some (decide (a0 ≤ a2))) else (some false)
def spec_naName.l0 : Nat → ByteArray → Int → Option (Bool)
  | 0, _, _ => none
  | k + 1, x0, x3 => if x3 < (x0.size : Int) then (if 0 ≤ x3 then (if (bt x0 x3) < 97 then (some false) else (if (bt x0 x3) > 122 then (some false) else (spec_naName.l0 k x0 (wrap64 (x3 + 1))))) else (none)) else ((spec_l1In.f (x0.size : Int) 1 8).bind fun t104 => (some t104))
def spec_naName.f (k : Nat) (a0 : ByteArray) : Option (Bool) := spec_naName.l0 k a0 0
theorem spec_naName.mono_l : ∀ k, (∀ y0 y1, LeO (spec_naName.l0 k y0 y1) (spec_naName.l0 (k + 1) y0 y1))
  | 0 => fun _ _ r h => by simp [spec_naName.l0] at h
  | k + 1 => by
    have ih0 := spec_naName.mono_l k
    · intro y0 y1
      unfold spec_naName.l0
      repeat' first
      | (with_reducible exact ih0 _ _)
      | (with_reducible exact LeO.refl _)
      | (with_reducible exact LeO.none _)
      | (with_reducible refine LeO.ite ?_ ?_)
      | (with_reducible refine LeO.bind ?_ (fun _ => ?_))
      | exact ih0 _ _
      | exact LeO.none _
      | refine LeO.ite ?_ ?_
      | refine LeO.bind ?_ (fun _ => ?_)
theorem spec_naName.mono : ∀ a0 k, LeO (spec_naName.f k a0) (spec_naName.f (k + 1) a0) := by
  intro a0 k
  have ih0 := spec_naName.mono_l k
  unfold spec_naName.f
  repeat' first
      | (with_reducible exact ih0 _ _)
      | (with_reducible exact LeO.refl _)
      | (with_reducible exact LeO.none _)
      | (with_reducible refine LeO.ite ?_ ?_)
      | (with_reducible refine LeO.bind ?_ (fun _ => ?_))
      | exact ih0 _ _
      | exact LeO.none _
      | refine LeO.ite ?_ ?_
      | refine LeO.bind ?_ (fun _ => ?_)
noncomputable def spec_naName.L0 (x0 : ByteArray) (x3 : Int) : Option (Bool) := lim fun k => spec_naName.l0 k x0 x3
theorem spec_naName.L0_lim (x0 : ByteArray) (x3 : Int) : Lim (fun k => spec_naName.l0 k x0 x3) (spec_naName.L0 x0 x3) := ⟨fun k => (spec_naName.mono_l k) x0 x3, rfl⟩
noncomputable def spec_naName.F (a0 : ByteArray) : Option (Bool) := lim fun k => spec_naName.f k a0
theorem spec_naName.F_lim (a0 : ByteArray) : Lim (fun k => spec_naName.f k a0) (spec_naName.F a0) := ⟨spec_naName.mono a0, rfl⟩
theorem spec_naName.L0_eq (x0 : ByteArray) (x3 : Int) : spec_naName.L0 x0 x3 = (if x3 < (x0.size : Int) then (if 0 ≤ x3 then (if (bt x0 x3) < 97 then (some false) else (if (bt x0 x3) > 122 then (some false) else (spec_naName.L0 x0 (wrap64 (x3 + 1))))) else (none)) else ((spec_l1In.f (x0.size : Int) 1 8).bind fun t104 => (some t104))) := by
  refine Lim.succ_eq (spec_naName.L0_lim x0 x3).mon ?_
  simp only [spec_naName.l0]
  repeat' first
  | (with_reducible exact spec_naName.L0_lim _ _)
  | (with_reducible refine Lim.ite ?_ ?_)
  | (with_reducible refine Lim.bind ?_ (fun _ => ?_))
  | (with_reducible exact Lim.const _)
theorem spec_naName.F_eq (a0 : ByteArray) : spec_naName.F a0 = (spec_naName.L0 a0 0) := by
  refine Lim.eq_ ?_
  simp only [spec_naName.f]
  repeat' first
  | (with_reducible exact spec_naName.L0_lim _ _)
  | (with_reducible refine Lim.ite ?_ ?_)
  | (with_reducible refine Lim.bind ?_ (fun _ => ?_))
  | (with_reducible exact Lim.const _)
def spec_loAngle.f (a0 : Int) : Option (Bool) := (spec_l1In.f a0 (-90) 90).bind fun t105 => (some t105)
def spec_loFind.l0 : Nat → ByteArray → List (S55) → Int → Int → Option (Int)
  | 0, _, _, _, _ => none
  | k + 1, x1, x7, x8, x9 => if x9 < x8 then (if 0 ≤ x9 then (if x9 < (x7.length : Int) then (if ((rd_T55 x7 x9).f0).toList = x1.toList then (some x9) else (spec_loFind.l0 k x1 x7 x8 (wrap64 (x9 + 1)))) else (none)) else (none)) else (some (-1))
def spec_loFind.f (k : Nat) (l0 : List (S55)) (a1 : ByteArray) : Option (Int) := spec_loFind.l0 k a1 l0 (l0.length : Int) 0
theorem spec_loFind.mono_l : ∀ k, (∀ y0 y1 y2 y3, LeO (spec_loFind.l0 k y0 y1 y2 y3) (spec_loFind.l0 (k + 1) y0 y1 y2 y3))
  | 0 => fun _ _ _ _ r h => by simp [spec_loFind.l0] at h
  | k + 1 => by
    have ih0 := spec_loFind.mono_l k
    · intro y0 y1 y2 y3
      unfold spec_loFind.l0
      repeat' first
      | (with_reducible exact ih0 _ _ _ _)
      | (with_reducible exact LeO.refl _)
      | (with_reducible exact LeO.none _)
      | (with_reducible refine LeO.ite ?_ ?_)
      | (with_reducible refine LeO.bind ?_ (fun _ => ?_))
      | exact ih0 _ _ _ _
      | exact LeO.none _
      | refine LeO.ite ?_ ?_
      | refine LeO.bind ?_ (fun _ => ?_)
theorem spec_loFind.mono : ∀ a0 a1 k, LeO (spec_loFind.f k a0 a1) (spec_loFind.f (k + 1) a0 a1) := by
  intro a0 a1 k
  have ih0 := spec_loFind.mono_l k
  unfold spec_loFind.f
  repeat' first
      | (with_reducible exact ih0 _ _ _ _)
      | (with_reducible exact LeO.refl _)
      | (with_reducible exact LeO.none _)
      | (with_reducible refine LeO.ite ?_ ?_)
      | (with_reducible refine LeO.bind ?_ (fun _ => ?_))
      | exact ih0 _ _ _ _
      | exact LeO.none _
      | refine LeO.ite ?_ ?_
      | refine LeO.bind ?_ (fun _ => ?_)
noncomputable def spec_loFind.L0 (x1 : ByteArray) (x7 : List (S55)) (x8 : Int) (x9 : Int) : Option (Int) := lim fun k => spec_loFind.l0 k x1 x7 x8 x9
theorem spec_loFind.L0_lim (x1 : ByteArray) (x7 : List (S55)) (x8 : Int) (x9 : Int) : Lim (fun k => spec_loFind.l0 k x1 x7 x8 x9) (spec_loFind.L0 x1 x7 x8 x9) := ⟨fun k => (spec_loFind.mono_l k) x1 x7 x8 x9, rfl⟩
noncomputable def spec_loFind.F (l0 : List (S55)) (a1 : ByteArray) : Option (Int) := lim fun k => spec_loFind.f k l0 a1
theorem spec_loFind.F_lim (l0 : List (S55)) (a1 : ByteArray) : Lim (fun k => spec_loFind.f k l0 a1) (spec_loFind.F l0 a1) := ⟨spec_loFind.mono l0 a1, rfl⟩
theorem spec_loFind.L0_eq (x1 : ByteArray) (x7 : List (S55)) (x8 : Int) (x9 : Int) : spec_loFind.L0 x1 x7 x8 x9 = (if x9 < x8 then (if 0 ≤ x9 then (if x9 < (x7.length : Int) then (if ((rd_T55 x7 x9).f0).toList = x1.toList then (some x9) else (spec_loFind.L0 x1 x7 x8 (wrap64 (x9 + 1)))) else (none)) else (none)) else (some (-1))) := by
  refine Lim.succ_eq (spec_loFind.L0_lim x1 x7 x8 x9).mon ?_
  simp only [spec_loFind.l0]
  repeat' first
  | (with_reducible exact spec_loFind.L0_lim _ _ _ _)
  | (with_reducible refine Lim.ite ?_ ?_)
  | (with_reducible refine Lim.bind ?_ (fun _ => ?_))
  | (with_reducible exact Lim.const _)
theorem spec_loFind.F_eq (l0 : List (S55)) (a1 : ByteArray) : spec_loFind.F l0 a1 = (spec_loFind.L0 a1 l0 (l0.length : Int) 0) := by
  refine Lim.eq_ ?_
  simp only [spec_loFind.f]
  repeat' first
  | (with_reducible exact spec_loFind.L0_lim _ _ _ _)
  | (with_reducible refine Lim.ite ?_ ?_)
  | (with_reducible refine Lim.bind ?_ (fun _ => ?_))
  | (with_reducible exact Lim.const _)
def spec_loGood.l0 : Nat → List (S55) → List (S55) → Int → Int → Option (Bool)
  | 0, _, _, _, _ => none
  | k + 1, x0, x5, x6, x7 => if x7 < x6 then (if 0 ≤ x7 then (if x7 < (x5.length : Int) then ((spec_naName.f k ((rd_T55 x5 x7).f0)).bind fun t110 => (if t110 = true then ((spec_loAngle.f ((rd_T55 x5 x7).f1)).bind fun t111 => (if t111 = true then (if x7 > 0 then (if 0 ≤ (wrap64 (x7 - 1)) then (if (wrap64 (x7 - 1)) < (x0.length : Int) then (if ((rd_T55 x0 (wrap64 (x7 - 1))).f1) ≥ ((rd_T55 x5 x7).f1) then (some false) else (if x7 ≤ (x0.length : Int) then ((spec_loFind.f k (x0.take (x7 : Int).toNat) ((rd_T55 x5 x7).f0)).bind fun t117 => (if t117 ≥ 0 then (some false) else (spec_loGood.l0 k x0 x5 x6 (wrap64 (x7 + 1))))) else (none))) else (none)) else (none)) else (if x7 ≤ (x0.length : Int) then ((spec_loFind.f k (x0.take (x7 : Int).toNat) ((rd_T55 x5 x7).f0)).bind fun t122 => (if t122 ≥ 0 then (some false) else (spec_loGood.l0 k x0 x5 x6 (wrap64 (x7 + 1))))) else (none))) else (some false))) else (some false))) else (none)) else (none)) else (some (decide ((x0.length : Int) ≤ 8)))
def spec_loGood.f (k : Nat) (l0 : List (S55)) : Option (Bool) := spec_loGood.l0 k l0 l0 (l0.length : Int) 0
theorem spec_loGood.mono_l : ∀ k, (∀ y0 y1 y2 y3, LeO (spec_loGood.l0 k y0 y1 y2 y3) (spec_loGood.l0 (k + 1) y0 y1 y2 y3))
  | 0 => fun _ _ _ _ r h => by simp [spec_loGood.l0] at h
  | k + 1 => by
    have ih0 := spec_loGood.mono_l k
    · intro y0 y1 y2 y3
      unfold spec_loGood.l0
      repeat' first
      | (with_reducible exact ih0 _ _ _ _)
      | (with_reducible exact spec_loFind.mono _ _ _)
      | (with_reducible exact spec_naName.mono _ _)
      | (with_reducible exact LeO.refl _)
      | (with_reducible exact LeO.none _)
      | (with_reducible refine LeO.ite ?_ ?_)
      | (with_reducible refine LeO.bind ?_ (fun _ => ?_))
      | exact ih0 _ _ _ _
      | exact spec_loFind.mono _ _ _
      | exact spec_naName.mono _ _
      | exact LeO.none _
      | refine LeO.ite ?_ ?_
      | refine LeO.bind ?_ (fun _ => ?_)
theorem spec_loGood.mono : ∀ a0 k, LeO (spec_loGood.f k a0) (spec_loGood.f (k + 1) a0) := by
  intro a0 k
  have ih0 := spec_loGood.mono_l k
  unfold spec_loGood.f
  repeat' first
      | (with_reducible exact ih0 _ _ _ _)
      | (with_reducible exact spec_loFind.mono _ _ _)
      | (with_reducible exact spec_naName.mono _ _)
      | (with_reducible exact LeO.refl _)
      | (with_reducible exact LeO.none _)
      | (with_reducible refine LeO.ite ?_ ?_)
      | (with_reducible refine LeO.bind ?_ (fun _ => ?_))
      | exact ih0 _ _ _ _
      | exact spec_loFind.mono _ _ _
      | exact spec_naName.mono _ _
      | exact LeO.none _
      | refine LeO.ite ?_ ?_
      | refine LeO.bind ?_ (fun _ => ?_)
noncomputable def spec_loGood.L0 (x0 : List (S55)) (x5 : List (S55)) (x6 : Int) (x7 : Int) : Option (Bool) := lim fun k => spec_loGood.l0 k x0 x5 x6 x7
theorem spec_loGood.L0_lim (x0 : List (S55)) (x5 : List (S55)) (x6 : Int) (x7 : Int) : Lim (fun k => spec_loGood.l0 k x0 x5 x6 x7) (spec_loGood.L0 x0 x5 x6 x7) := ⟨fun k => (spec_loGood.mono_l k) x0 x5 x6 x7, rfl⟩
noncomputable def spec_loGood.F (l0 : List (S55)) : Option (Bool) := lim fun k => spec_loGood.f k l0
theorem spec_loGood.F_lim (l0 : List (S55)) : Lim (fun k => spec_loGood.f k l0) (spec_loGood.F l0) := ⟨spec_loGood.mono l0, rfl⟩
theorem spec_loGood.L0_eq (x0 : List (S55)) (x5 : List (S55)) (x6 : Int) (x7 : Int) : spec_loGood.L0 x0 x5 x6 x7 = (if x7 < x6 then (if 0 ≤ x7 then (if x7 < (x5.length : Int) then ((spec_naName.F ((rd_T55 x5 x7).f0)).bind fun t110 => (if t110 = true then ((spec_loAngle.f ((rd_T55 x5 x7).f1)).bind fun t111 => (if t111 = true then (if x7 > 0 then (if 0 ≤ (wrap64 (x7 - 1)) then (if (wrap64 (x7 - 1)) < (x0.length : Int) then (if ((rd_T55 x0 (wrap64 (x7 - 1))).f1) ≥ ((rd_T55 x5 x7).f1) then (some false) else (if x7 ≤ (x0.length : Int) then ((spec_loFind.F (x0.take (x7 : Int).toNat) ((rd_T55 x5 x7).f0)).bind fun t117 => (if t117 ≥ 0 then (some false) else (spec_loGood.L0 x0 x5 x6 (wrap64 (x7 + 1))))) else (none))) else (none)) else (none)) else (if x7 ≤ (x0.length : Int) then ((spec_loFind.F (x0.take (x7 : Int).toNat) ((rd_T55 x5 x7).f0)).bind fun t122 => (if t122 ≥ 0 then (some false) else (spec_loGood.L0 x0 x5 x6 (wrap64 (x7 + 1))))) else (none))) else (some false))) else (some false))) else (none)) else (none)) else (some (decide ((x0.length : Int) ≤ 8)))) := by
  refine Lim.succ_eq (spec_loGood.L0_lim x0 x5 x6 x7).mon ?_
  simp only [spec_loGood.l0]
  repeat' first
  | (with_reducible exact spec_loGood.L0_lim _ _ _ _)
  | (with_reducible exact spec_loFind.F_lim _ _)
  | (with_reducible exact spec_naName.F_lim _)
  | (with_reducible refine Lim.ite ?_ ?_)
  | (with_reducible refine Lim.bind ?_ (fun _ => ?_))
  | (with_reducible exact Lim.const _)
theorem spec_loGood.F_eq (l0 : List (S55)) : spec_loGood.F l0 = (spec_loGood.L0 l0 l0 (l0.length : Int) 0) := by
  refine Lim.eq_ ?_
  simp only [spec_loGood.f]
  repeat' first
  | (with_reducible exact spec_loGood.L0_lim _ _ _ _)
  | (with_reducible exact spec_loFind.F_lim _ _)
  | (with_reducible exact spec_naName.F_lim _)
  | (with_reducible refine Lim.ite ?_ ?_)
  | (with_reducible refine Lim.bind ?_ (fun _ => ?_))
  | (with_reducible exact Lim.const _)
def spec_loIf.f (k : Nat) (l0 : List (S55)) : Option ((List (S55)) × Bool) := (spec_loGood.f k l0).bind fun t123 => (if t123 = true then (some (l0, true)) else (some (([] : List (S55)), false)))
theorem spec_loIf.mono : ∀ a0 k, LeO (spec_loIf.f k a0) (spec_loIf.f (k + 1) a0) := by
  intro a0 k
  unfold spec_loIf.f
  repeat' first
      | (with_reducible exact spec_loGood.mono _ _)
      | (with_reducible exact LeO.refl _)
      | (with_reducible exact LeO.none _)
      | (with_reducible refine LeO.ite ?_ ?_)
      | (with_reducible refine LeO.bind ?_ (fun _ => ?_))
      | exact spec_loGood.mono _ _
      | exact LeO.none _
      | refine LeO.ite ?_ ?_
      | refine LeO.bind ?_ (fun _ => ?_)
noncomputable def spec_loIf.F (l0 : List (S55)) : Option ((List (S55)) × Bool) := lim fun k => spec_loIf.f k l0
theorem spec_loIf.F_lim (l0 : List (S55)) : Lim (fun k => spec_loIf.f k l0) (spec_loIf.F l0) := ⟨spec_loIf.mono l0, rfl⟩
theorem spec_loIf.F_eq (l0 : List (S55)) : spec_loIf.F l0 = ((spec_loGood.F l0).bind fun t123 => (if t123 = true then (some (l0, true)) else (some (([] : List (S55)), false)))) := by
  refine Lim.eq_ ?_
  simp only [spec_loIf.f]
  repeat' first
  | (with_reducible exact spec_loGood.F_lim _)
  | (with_reducible refine Lim.ite ?_ ?_)
  | (with_reducible refine Lim.bind ?_ (fun _ => ?_))
  | (with_reducible exact Lim.const _)
def spec_loPut.l0 : Nat → List (S55) → Int → ByteArray → Int → Option ((List (S55)))
  | 0, _, _, _, _ => none
  | k + 1, x0, x5, x125000, x125001 => if x5 < (x0.length : Int) then (if 0 ≤ x5 then (if ((rd_T55 x0 x5).f1) < x125001 then (spec_loPut.l0 k x0 (wrap64 (x5 + 1)) x125000 x125001) else ((some (([] : List (S55)) : List (S55))).bind fun y126 => (if x5 ≤ (x0.length : Int) then ((some (x0.take (x5 : Int).toNat : List (S55))).bind fun y129 => (if y126.length + y129.length < 5864062014805 then ((some (y126 ++ y129 : List (S55))).bind fun y133 => ((some (([(⟨x125000, x125001⟩ : S55)] : List (S55)) : List (S55))).bind fun y136 => (if y133.length + y136.length < 5864062014805 then ((some (y133 ++ y136 : List (S55))).bind fun y139 => ((some (x0.drop (x5 : Int).toNat : List (S55))).bind fun y142 => (if y139.length + y142.length < 5864062014805 then (some (y139 ++ y142)) else (none)))) else (none)))) else (none))) else (none)))) else (none)) else ((some (([] : List (S55)) : List (S55))).bind fun y149 => (if 0 ≤ x5 then (if x5 ≤ (x0.length : Int) then ((some (x0.take (x5 : Int).toNat : List (S55))).bind fun y152 => (if y149.length + y152.length < 5864062014805 then ((some (y149 ++ y152 : List (S55))).bind fun y156 => ((some (([(⟨x125000, x125001⟩ : S55)] : List (S55)) : List (S55))).bind fun y159 => (if y156.length + y159.length < 5864062014805 then ((some (y156 ++ y159 : List (S55))).bind fun y162 => ((some (x0.drop (x5 : Int).toNat : List (S55))).bind fun y165 => (if y162.length + y165.length < 5864062014805 then (some (y162 ++ y165)) else (none)))) else (none)))) else (none))) else (none)) else (none)))
def spec_loPut.f (k : Nat) (l0 : List (S55)) (a1_0 : ByteArray) (a1_1 : Int) : Option ((List (S55))) := spec_loPut.l0 k l0 0 a1_0 a1_1
theorem spec_loPut.mono_l : ∀ k, (∀ y0 y1 y2 y3, LeO (spec_loPut.l0 k y0 y1 y2 y3) (spec_loPut.l0 (k + 1) y0 y1 y2 y3))
  | 0 => fun _ _ _ _ r h => by simp [spec_loPut.l0] at h
  | k + 1 => by
    have ih0 := spec_loPut.mono_l k
    · intro y0 y1 y2 y3
      unfold spec_loPut.l0
      repeat' first
      | (with_reducible exact ih0 _ _ _ _)
      | (with_reducible exact LeO.refl _)
      | (with_reducible exact LeO.none _)
      | (with_reducible refine LeO.ite ?_ ?_)
      | (with_reducible refine LeO.bind ?_ (fun _ => ?_))
      | exact ih0 _ _ _ _
      | exact LeO.none _
      | refine LeO.ite ?_ ?_
      | refine LeO.bind ?_ (fun _ => ?_)
theorem spec_loPut.mono : ∀ a0 a1 a2 k, LeO (spec_loPut.f k a0 a1 a2) (spec_loPut.f (k + 1) a0 a1 a2) := by
  intro a0 a1 a2 k
  have ih0 := spec_loPut.mono_l k
  unfold spec_loPut.f
  repeat' first
      | (with_reducible exact ih0 _ _ _ _)
      | (with_reducible exact LeO.refl _)
      | (with_reducible exact LeO.none _)
      | (with_reducible refine LeO.ite ?_ ?_)
      | (with_reducible refine LeO.bind ?_ (fun _ => ?_))
      | exact ih0 _ _ _ _
      | exact LeO.none _
      | refine LeO.ite ?_ ?_
      | refine LeO.bind ?_ (fun _ => ?_)
noncomputable def spec_loPut.L0 (x0 : List (S55)) (x5 : Int) (x125000 : ByteArray) (x125001 : Int) : Option ((List (S55))) := lim fun k => spec_loPut.l0 k x0 x5 x125000 x125001
theorem spec_loPut.L0_lim (x0 : List (S55)) (x5 : Int) (x125000 : ByteArray) (x125001 : Int) : Lim (fun k => spec_loPut.l0 k x0 x5 x125000 x125001) (spec_loPut.L0 x0 x5 x125000 x125001) := ⟨fun k => (spec_loPut.mono_l k) x0 x5 x125000 x125001, rfl⟩
noncomputable def spec_loPut.F (l0 : List (S55)) (a1_0 : ByteArray) (a1_1 : Int) : Option ((List (S55))) := lim fun k => spec_loPut.f k l0 a1_0 a1_1
theorem spec_loPut.F_lim (l0 : List (S55)) (a1_0 : ByteArray) (a1_1 : Int) : Lim (fun k => spec_loPut.f k l0 a1_0 a1_1) (spec_loPut.F l0 a1_0 a1_1) := ⟨spec_loPut.mono l0 a1_0 a1_1, rfl⟩
theorem spec_loPut.L0_eq (x0 : List (S55)) (x5 : Int) (x125000 : ByteArray) (x125001 : Int) : spec_loPut.L0 x0 x5 x125000 x125001 = (if x5 < (x0.length : Int) then (if 0 ≤ x5 then (if ((rd_T55 x0 x5).f1) < x125001 then (spec_loPut.L0 x0 (wrap64 (x5 + 1)) x125000 x125001) else ((some (([] : List (S55)) : List (S55))).bind fun y126 => (if x5 ≤ (x0.length : Int) then ((some (x0.take (x5 : Int).toNat : List (S55))).bind fun y129 => (if y126.length + y129.length < 5864062014805 then ((some (y126 ++ y129 : List (S55))).bind fun y133 => ((some (([(⟨x125000, x125001⟩ : S55)] : List (S55)) : List (S55))).bind fun y136 => (if y133.length + y136.length < 5864062014805 then ((some (y133 ++ y136 : List (S55))).bind fun y139 => ((some (x0.drop (x5 : Int).toNat : List (S55))).bind fun y142 => (if y139.length + y142.length < 5864062014805 then (some (y139 ++ y142)) else (none)))) else (none)))) else (none))) else (none)))) else (none)) else ((some (([] : List (S55)) : List (S55))).bind fun y149 => (if 0 ≤ x5 then (if x5 ≤ (x0.length : Int) then ((some (x0.take (x5 : Int).toNat : List (S55))).bind fun y152 => (if y149.length + y152.length < 5864062014805 then ((some (y149 ++ y152 : List (S55))).bind fun y156 => ((some (([(⟨x125000, x125001⟩ : S55)] : List (S55)) : List (S55))).bind fun y159 => (if y156.length + y159.length < 5864062014805 then ((some (y156 ++ y159 : List (S55))).bind fun y162 => ((some (x0.drop (x5 : Int).toNat : List (S55))).bind fun y165 => (if y162.length + y165.length < 5864062014805 then (some (y162 ++ y165)) else (none)))) else (none)))) else (none))) else (none)) else (none)))) := by
  refine Lim.succ_eq (spec_loPut.L0_lim x0 x5 x125000 x125001).mon ?_
  simp only [spec_loPut.l0]
  repeat' first
  | (with_reducible exact spec_loPut.L0_lim _ _ _ _)
  | (with_reducible refine Lim.ite ?_ ?_)
  | (with_reducible refine Lim.bind ?_ (fun _ => ?_))
  | (with_reducible exact Lim.const _)
theorem spec_loPut.F_eq (l0 : List (S55)) (a1_0 : ByteArray) (a1_1 : Int) : spec_loPut.F l0 a1_0 a1_1 = (spec_loPut.L0 l0 0 a1_0 a1_1) := by
  refine Lim.eq_ ?_
  simp only [spec_loPut.f]
  repeat' first
  | (with_reducible exact spec_loPut.L0_lim _ _ _ _)
  | (with_reducible refine Lim.ite ?_ ?_)
  | (with_reducible refine Lim.bind ?_ (fun _ => ?_))
  | (with_reducible exact Lim.const _)
def spec_loWithout.l0 : Nat → ByteArray → List (S55) → List (S55) → Int → Int → Option ((List (S55)))
  | 0, _, _, _, _, _ => none
  | k + 1, x1, x5, x8, x9, x10 => if x10 < x9 then (if 0 ≤ x10 then (if x10 < (x8.length : Int) then (if ((rd_T55 x8 x10).f0).toList = x1.toList then (spec_loWithout.l0 k x1 x5 x8 x9 (wrap64 (x10 + 1))) else (if x5.length < 5864062014805 then (spec_loWithout.l0 k x1 (x5 ++ [(⟨(rd_T55 x8 x10).f0, (rd_T55 x8 x10).f1⟩ : S55)]) x8 x9 (wrap64 (x10 + 1))) else (none))) else (none)) else (none)) else (some x5)
def spec_loWithout.f (k : Nat) (l0 : List (S55)) (a1 : ByteArray) : Option ((List (S55))) := spec_loWithout.l0 k a1 ([] : List (S55)) l0 (l0.length : Int) 0
theorem spec_loWithout.mono_l : ∀ k, (∀ y0 y1 y2 y3 y4, LeO (spec_loWithout.l0 k y0 y1 y2 y3 y4) (spec_loWithout.l0 (k + 1) y0 y1 y2 y3 y4))
  | 0 => fun _ _ _ _ _ r h => by simp [spec_loWithout.l0] at h
  | k + 1 => by
    have ih0 := spec_loWithout.mono_l k
    · intro y0 y1 y2 y3 y4
      unfold spec_loWithout.l0
      repeat' first
      | (with_reducible exact ih0 _ _ _ _ _)
      | (with_reducible exact LeO.refl _)
      | (with_reducible exact LeO.none _)
      | (with_reducible refine LeO.ite ?_ ?_)
      | (with_reducible refine LeO.bind ?_ (fun _ => ?_))
      | exact ih0 _ _ _ _ _
      | exact LeO.none _
      | refine LeO.ite ?_ ?_
      | refine LeO.bind ?_ (fun _ => ?_)
theorem spec_loWithout.mono : ∀ a0 a1 k, LeO (spec_loWithout.f k a0 a1) (spec_loWithout.f (k + 1) a0 a1) := by
  intro a0 a1 k
  have ih0 := spec_loWithout.mono_l k
  unfold spec_loWithout.f
  repeat' first
      | (with_reducible exact ih0 _ _ _ _ _)
      | (with_reducible exact LeO.refl _)
      | (with_reducible exact LeO.none _)
      | (with_reducible refine LeO.ite ?_ ?_)
      | (with_reducible refine LeO.bind ?_ (fun _ => ?_))
      | exact ih0 _ _ _ _ _
      | exact LeO.none _
      | refine LeO.ite ?_ ?_
      | refine LeO.bind ?_ (fun _ => ?_)
noncomputable def spec_loWithout.L0 (x1 : ByteArray) (x5 : List (S55)) (x8 : List (S55)) (x9 : Int) (x10 : Int) : Option ((List (S55))) := lim fun k => spec_loWithout.l0 k x1 x5 x8 x9 x10
theorem spec_loWithout.L0_lim (x1 : ByteArray) (x5 : List (S55)) (x8 : List (S55)) (x9 : Int) (x10 : Int) : Lim (fun k => spec_loWithout.l0 k x1 x5 x8 x9 x10) (spec_loWithout.L0 x1 x5 x8 x9 x10) := ⟨fun k => (spec_loWithout.mono_l k) x1 x5 x8 x9 x10, rfl⟩
noncomputable def spec_loWithout.F (l0 : List (S55)) (a1 : ByteArray) : Option ((List (S55))) := lim fun k => spec_loWithout.f k l0 a1
theorem spec_loWithout.F_lim (l0 : List (S55)) (a1 : ByteArray) : Lim (fun k => spec_loWithout.f k l0 a1) (spec_loWithout.F l0 a1) := ⟨spec_loWithout.mono l0 a1, rfl⟩
theorem spec_loWithout.L0_eq (x1 : ByteArray) (x5 : List (S55)) (x8 : List (S55)) (x9 : Int) (x10 : Int) : spec_loWithout.L0 x1 x5 x8 x9 x10 = (if x10 < x9 then (if 0 ≤ x10 then (if x10 < (x8.length : Int) then (if ((rd_T55 x8 x10).f0).toList = x1.toList then (spec_loWithout.L0 x1 x5 x8 x9 (wrap64 (x10 + 1))) else (if x5.length < 5864062014805 then (spec_loWithout.L0 x1 (x5 ++ [(⟨(rd_T55 x8 x10).f0, (rd_T55 x8 x10).f1⟩ : S55)]) x8 x9 (wrap64 (x10 + 1))) else (none))) else (none)) else (none)) else (some x5)) := by
  refine Lim.succ_eq (spec_loWithout.L0_lim x1 x5 x8 x9 x10).mon ?_
  simp only [spec_loWithout.l0]
  repeat' first
  | (with_reducible exact spec_loWithout.L0_lim _ _ _ _ _)
  | (with_reducible refine Lim.ite ?_ ?_)
  | (with_reducible refine Lim.bind ?_ (fun _ => ?_))
  | (with_reducible exact Lim.const _)
theorem spec_loWithout.F_eq (l0 : List (S55)) (a1 : ByteArray) : spec_loWithout.F l0 a1 = (spec_loWithout.L0 a1 ([] : List (S55)) l0 (l0.length : Int) 0) := by
  refine Lim.eq_ ?_
  simp only [spec_loWithout.f]
  repeat' first
  | (with_reducible exact spec_loWithout.L0_lim _ _ _ _ _)
  | (with_reducible refine Lim.ite ?_ ?_)
  | (with_reducible refine Lim.bind ?_ (fun _ => ?_))
  | (with_reducible exact Lim.const _)
def spec_PutReferent.j0 : Nat → List (S55) → ByteArray → Int → Bool → Option ((List (S55)) × Bool)
  | 0, _, _, _, _ => none
  | k + 1, x0, x1, x2, x20 => if x20 = true then (some (([] : List (S55)), false)) else ((spec_loWithout.f k x0 x1).bind fun t180 => ((spec_loPut.f k t180 x1 x2).bind fun t183 => ((spec_loIf.f k t183).bind fun bt186 => (some (bt186.1, bt186.2)))))
def spec_PutReferent.f (k : Nat) (l0 : List (S55)) (a1 : ByteArray) (a2 : Int) : Option ((List (S55)) × Bool) := (spec_loGood.f k l0).bind fun t177 => (if t177 = true then ((spec_naName.f k a1).bind fun t178 => (if t178 = true then ((spec_loAngle.f a2).bind fun t179 => (spec_PutReferent.j0 k l0 a1 a2 (!t179))) else (spec_PutReferent.j0 k l0 a1 a2 true))) else (spec_PutReferent.j0 k l0 a1 a2 true))
theorem spec_PutReferent.mono_l : ∀ k, (∀ y0 y1 y2 y3, LeO (spec_PutReferent.j0 k y0 y1 y2 y3) (spec_PutReferent.j0 (k + 1) y0 y1 y2 y3))
  | 0 => fun _ _ _ _ r h => by simp [spec_PutReferent.j0] at h
  | k + 1 => by
    have ih0 := spec_PutReferent.mono_l k
    · intro y0 y1 y2 y3
      unfold spec_PutReferent.j0
      repeat' first
      | (with_reducible exact ih0 _ _ _ _)
      | (with_reducible exact spec_loGood.mono _ _)
      | (with_reducible exact spec_loIf.mono _ _)
      | (with_reducible exact spec_loPut.mono _ _ _ _)
      | (with_reducible exact spec_loWithout.mono _ _ _)
      | (with_reducible exact spec_naName.mono _ _)
      | (with_reducible exact LeO.refl _)
      | (with_reducible exact LeO.none _)
      | (with_reducible refine LeO.ite ?_ ?_)
      | (with_reducible refine LeO.bind ?_ (fun _ => ?_))
      | exact ih0 _ _ _ _
      | exact spec_loGood.mono _ _
      | exact spec_loIf.mono _ _
      | exact spec_loPut.mono _ _ _ _
      | exact spec_loWithout.mono _ _ _
      | exact spec_naName.mono _ _
      | exact LeO.none _
      | refine LeO.ite ?_ ?_
      | refine LeO.bind ?_ (fun _ => ?_)
theorem spec_PutReferent.mono : ∀ a0 a1 a2 k, LeO (spec_PutReferent.f k a0 a1 a2) (spec_PutReferent.f (k + 1) a0 a1 a2) := by
  intro a0 a1 a2 k
  have ih0 := spec_PutReferent.mono_l k
  unfold spec_PutReferent.f
  repeat' first
      | (with_reducible exact ih0 _ _ _ _)
      | (with_reducible exact spec_loGood.mono _ _)
      | (with_reducible exact spec_loIf.mono _ _)
      | (with_reducible exact spec_loPut.mono _ _ _ _)
      | (with_reducible exact spec_loWithout.mono _ _ _)
      | (with_reducible exact spec_naName.mono _ _)
      | (with_reducible exact LeO.refl _)
      | (with_reducible exact LeO.none _)
      | (with_reducible refine LeO.ite ?_ ?_)
      | (with_reducible refine LeO.bind ?_ (fun _ => ?_))
      | exact ih0 _ _ _ _
      | exact spec_loGood.mono _ _
      | exact spec_loIf.mono _ _
      | exact spec_loPut.mono _ _ _ _
      | exact spec_loWithout.mono _ _ _
      | exact spec_naName.mono _ _
      | exact LeO.none _
      | refine LeO.ite ?_ ?_
      | refine LeO.bind ?_ (fun _ => ?_)
noncomputable def spec_PutReferent.J0 (x0 : List (S55)) (x1 : ByteArray) (x2 : Int) (x20 : Bool) : Option ((List (S55)) × Bool) := lim fun k => spec_PutReferent.j0 k x0 x1 x2 x20
theorem spec_PutReferent.J0_lim (x0 : List (S55)) (x1 : ByteArray) (x2 : Int) (x20 : Bool) : Lim (fun k => spec_PutReferent.j0 k x0 x1 x2 x20) (spec_PutReferent.J0 x0 x1 x2 x20) := ⟨fun k => (spec_PutReferent.mono_l k) x0 x1 x2 x20, rfl⟩
noncomputable def spec_PutReferent.F (l0 : List (S55)) (a1 : ByteArray) (a2 : Int) : Option ((List (S55)) × Bool) := lim fun k => spec_PutReferent.f k l0 a1 a2
theorem spec_PutReferent.F_lim (l0 : List (S55)) (a1 : ByteArray) (a2 : Int) : Lim (fun k => spec_PutReferent.f k l0 a1 a2) (spec_PutReferent.F l0 a1 a2) := ⟨spec_PutReferent.mono l0 a1 a2, rfl⟩
theorem spec_PutReferent.J0_eq (x0 : List (S55)) (x1 : ByteArray) (x2 : Int) (x20 : Bool) : spec_PutReferent.J0 x0 x1 x2 x20 = (if x20 = true then (some (([] : List (S55)), false)) else ((spec_loWithout.F x0 x1).bind fun t180 => ((spec_loPut.F t180 x1 x2).bind fun t183 => ((spec_loIf.F t183).bind fun bt186 => (some (bt186.1, bt186.2)))))) := by
  refine Lim.succ_eq (spec_PutReferent.J0_lim x0 x1 x2 x20).mon ?_
  simp only [spec_PutReferent.j0]
  repeat' first
  | (with_reducible exact spec_PutReferent.J0_lim _ _ _ _)
  | (with_reducible exact spec_loGood.F_lim _)
  | (with_reducible exact spec_loIf.F_lim _)
  | (with_reducible exact spec_loPut.F_lim _ _ _)
  | (with_reducible exact spec_loWithout.F_lim _ _)
  | (with_reducible exact spec_naName.F_lim _)
  | (with_reducible refine Lim.ite ?_ ?_)
  | (with_reducible refine Lim.bind ?_ (fun _ => ?_))
  | (with_reducible exact Lim.const _)
theorem spec_PutReferent.F_eq (l0 : List (S55)) (a1 : ByteArray) (a2 : Int) : spec_PutReferent.F l0 a1 a2 = ((spec_loGood.F l0).bind fun t177 => (if t177 = true then ((spec_naName.F a1).bind fun t178 => (if t178 = true then ((spec_loAngle.f a2).bind fun t179 => (spec_PutReferent.J0 l0 a1 a2 (!t179))) else (spec_PutReferent.J0 l0 a1 a2 true))) else (spec_PutReferent.J0 l0 a1 a2 true))) := by
  refine Lim.eq_ ?_
  simp only [spec_PutReferent.f]
  repeat' first
  | (with_reducible exact spec_PutReferent.J0_lim _ _ _ _)
  | (with_reducible exact spec_loGood.F_lim _)
  | (with_reducible exact spec_loIf.F_lim _)
  | (with_reducible exact spec_loPut.F_lim _ _ _)
  | (with_reducible exact spec_loWithout.F_lim _ _)
  | (with_reducible exact spec_naName.F_lim _)
  | (with_reducible refine Lim.ite ?_ ?_)
  | (with_reducible refine Lim.bind ?_ (fun _ => ?_))
  | (with_reducible exact Lim.const _)
def laws_toLocus.f (a0_0 : ByteArray) (a0_1 : Int) : Option (ByteArray × Int) := some (a0_0, a0_1)
def laws_toLocusS.l0 : Nat → List (S62) → List (S55) → Int → Option ((List (S55)))
  | 0, _, _, _ => none
  | k + 1, x0, x3, x4 => if x4 < (x0.length : Int) then (if 0 ≤ x4 then ((laws_toLocus.f ((rd_T62 x0 x4).f0) ((rd_T62 x0 x4).f1)).bind fun bt197 => (if x4 < (x3.length : Int) then (laws_toLocusS.l0 k x0 (x3.set (x4 : Int).toNat (⟨bt197.1, bt197.2⟩ : S55)) (wrap64 (x4 + 1))) else (none))) else (none)) else (some x3)
def laws_toLocusS.f (k : Nat) (l0 : List (S62)) : Option ((List (S55))) := if 0 ≤ (l0.length : Int) then (if ((l0.length : Int) : Int).toNat ≤ 11728124029610 then (laws_toLocusS.l0 k l0 (List.replicate ((l0.length : Int) : Int).toNat z55) 0) else (none)) else (none)
theorem laws_toLocusS.mono_l : ∀ k, (∀ y0 y1 y2, LeO (laws_toLocusS.l0 k y0 y1 y2) (laws_toLocusS.l0 (k + 1) y0 y1 y2))
  | 0 => fun _ _ _ r h => by simp [laws_toLocusS.l0] at h
  | k + 1 => by
    have ih0 := laws_toLocusS.mono_l k
    · intro y0 y1 y2
      unfold laws_toLocusS.l0
      repeat' first
      | (with_reducible exact ih0 _ _ _)
      | (with_reducible exact LeO.refl _)
      | (with_reducible exact LeO.none _)
      | (with_reducible refine LeO.ite ?_ ?_)
      | (with_reducible refine LeO.bind ?_ (fun _ => ?_))
      | exact ih0 _ _ _
      | exact LeO.none _
      | refine LeO.ite ?_ ?_
      | refine LeO.bind ?_ (fun _ => ?_)
theorem laws_toLocusS.mono : ∀ a0 k, LeO (laws_toLocusS.f k a0) (laws_toLocusS.f (k + 1) a0) := by
  intro a0 k
  have ih0 := laws_toLocusS.mono_l k
  unfold laws_toLocusS.f
  repeat' first
      | (with_reducible exact ih0 _ _ _)
      | (with_reducible exact LeO.refl _)
      | (with_reducible exact LeO.none _)
      | (with_reducible refine LeO.ite ?_ ?_)
      | (with_reducible refine LeO.bind ?_ (fun _ => ?_))
      | exact ih0 _ _ _
      | exact LeO.none _
      | refine LeO.ite ?_ ?_
      | refine LeO.bind ?_ (fun _ => ?_)
noncomputable def laws_toLocusS.L0 (x0 : List (S62)) (x3 : List (S55)) (x4 : Int) : Option ((List (S55))) := lim fun k => laws_toLocusS.l0 k x0 x3 x4
theorem laws_toLocusS.L0_lim (x0 : List (S62)) (x3 : List (S55)) (x4 : Int) : Lim (fun k => laws_toLocusS.l0 k x0 x3 x4) (laws_toLocusS.L0 x0 x3 x4) := ⟨fun k => (laws_toLocusS.mono_l k) x0 x3 x4, rfl⟩
noncomputable def laws_toLocusS.F (l0 : List (S62)) : Option ((List (S55))) := lim fun k => laws_toLocusS.f k l0
theorem laws_toLocusS.F_lim (l0 : List (S62)) : Lim (fun k => laws_toLocusS.f k l0) (laws_toLocusS.F l0) := ⟨laws_toLocusS.mono l0, rfl⟩
theorem laws_toLocusS.L0_eq (x0 : List (S62)) (x3 : List (S55)) (x4 : Int) : laws_toLocusS.L0 x0 x3 x4 = (if x4 < (x0.length : Int) then (if 0 ≤ x4 then ((laws_toLocus.f ((rd_T62 x0 x4).f0) ((rd_T62 x0 x4).f1)).bind fun bt197 => (if x4 < (x3.length : Int) then (laws_toLocusS.L0 x0 (x3.set (x4 : Int).toNat (⟨bt197.1, bt197.2⟩ : S55)) (wrap64 (x4 + 1))) else (none))) else (none)) else (some x3)) := by
  refine Lim.succ_eq (laws_toLocusS.L0_lim x0 x3 x4).mon ?_
  simp only [laws_toLocusS.l0]
  repeat' first
  | (with_reducible exact laws_toLocusS.L0_lim _ _ _)
  | (with_reducible refine Lim.ite ?_ ?_)
  | (with_reducible refine Lim.bind ?_ (fun _ => ?_))
  | (with_reducible exact Lim.const _)
theorem laws_toLocusS.F_eq (l0 : List (S62)) : laws_toLocusS.F l0 = (if 0 ≤ (l0.length : Int) then (if ((l0.length : Int) : Int).toNat ≤ 11728124029610 then (laws_toLocusS.L0 l0 (List.replicate ((l0.length : Int) : Int).toNat z55) 0) else (none)) else (none)) := by
  refine Lim.eq_ ?_
  simp only [laws_toLocusS.f]
  repeat' first
  | (with_reducible exact laws_toLocusS.L0_lim _ _ _)
  | (with_reducible refine Lim.ite ?_ ?_)
  | (with_reducible refine Lim.bind ?_ (fun _ => ?_))
  | (with_reducible exact Lim.const _)
def impl_within.f (a0 : Int) (a1 : Int) (a2 : Int) : Option (Bool) := if a0 ≥ a1 then (some (decide (a0 ≤ a2))) else (some false)
def stringslite_IndexByte.f (a0 : ByteArray) (a1 : Int) : Option (Int) := some (Lib.indexByte a0.data.toList a1.toNat.toUInt8)
def strings_IndexByte.f (a0 : ByteArray) (a1 : Int) : Option (Int) := (stringslite_IndexByte.f a0 a1).bind fun t200 => (some t200)
def impl_hasOnly.l0 : Nat → ByteArray → ByteArray → Int → Int → Option (Bool)
  | 0, _, _, _, _ => none
  | k + 1, x0, x1, x7, x8 => if x8 < x7 then (if 0 ≤ x8 then (if x8 < (x0.size : Int) then ((strings_IndexByte.f x1 (bt x0 x8)).bind fun t201 => (if t201 < 0 then (some false) else (impl_hasOnly.l0 k x0 x1 x7 (wrap64 (x8 + 1))))) else (none)) else (none)) else (some true)
def impl_hasOnly.f (k : Nat) (a0 : ByteArray) (a1 : ByteArray) : Option (Bool) := impl_hasOnly.l0 k a0 a1 (a0.size : Int) 0
theorem impl_hasOnly.mono_l : ∀ k, (∀ y0 y1 y2 y3, LeO (impl_hasOnly.l0 k y0 y1 y2 y3) (impl_hasOnly.l0 (k + 1) y0 y1 y2 y3))
  | 0 => fun _ _ _ _ r h => by simp [impl_hasOnly.l0] at h
  | k + 1 => by
    have ih0 := impl_hasOnly.mono_l k
    · intro y0 y1 y2 y3
      unfold impl_hasOnly.l0
      repeat' first
      | (with_reducible exact ih0 _ _ _ _)
      | (with_reducible exact LeO.refl _)
      | (with_reducible exact LeO.none _)
      | (with_reducible refine LeO.ite ?_ ?_)
      | (with_reducible refine LeO.bind ?_ (fun _ => ?_))
      | exact ih0 _ _ _ _
      | exact LeO.none _
      | refine LeO.ite ?_ ?_
      | refine LeO.bind ?_ (fun _ => ?_)
theorem impl_hasOnly.mono : ∀ a0 a1 k, LeO (impl_hasOnly.f k a0 a1) (impl_hasOnly.f (k + 1) a0 a1) := by
  intro a0 a1 k
  have ih0 := impl_hasOnly.mono_l k
  unfold impl_hasOnly.f
  repeat' first
      | (with_reducible exact ih0 _ _ _ _)
      | (with_reducible exact LeO.refl _)
      | (with_reducible exact LeO.none _)
      | (with_reducible refine LeO.ite ?_ ?_)
      | (with_reducible refine LeO.bind ?_ (fun _ => ?_))
      | exact ih0 _ _ _ _
      | exact LeO.none _
      | refine LeO.ite ?_ ?_
      | refine LeO.bind ?_ (fun _ => ?_)
noncomputable def impl_hasOnly.L0 (x0 : ByteArray) (x1 : ByteArray) (x7 : Int) (x8 : Int) : Option (Bool) := lim fun k => impl_hasOnly.l0 k x0 x1 x7 x8
theorem impl_hasOnly.L0_lim (x0 : ByteArray) (x1 : ByteArray) (x7 : Int) (x8 : Int) : Lim (fun k => impl_hasOnly.l0 k x0 x1 x7 x8) (impl_hasOnly.L0 x0 x1 x7 x8) := ⟨fun k => (impl_hasOnly.mono_l k) x0 x1 x7 x8, rfl⟩
noncomputable def impl_hasOnly.F (a0 : ByteArray) (a1 : ByteArray) : Option (Bool) := lim fun k => impl_hasOnly.f k a0 a1
theorem impl_hasOnly.F_lim (a0 : ByteArray) (a1 : ByteArray) : Lim (fun k => impl_hasOnly.f k a0 a1) (impl_hasOnly.F a0 a1) := ⟨impl_hasOnly.mono a0 a1, rfl⟩
theorem impl_hasOnly.L0_eq (x0 : ByteArray) (x1 : ByteArray) (x7 : Int) (x8 : Int) : impl_hasOnly.L0 x0 x1 x7 x8 = (if x8 < x7 then (if 0 ≤ x8 then (if x8 < (x0.size : Int) then ((strings_IndexByte.f x1 (bt x0 x8)).bind fun t201 => (if t201 < 0 then (some false) else (impl_hasOnly.L0 x0 x1 x7 (wrap64 (x8 + 1))))) else (none)) else (none)) else (some true)) := by
  refine Lim.succ_eq (impl_hasOnly.L0_lim x0 x1 x7 x8).mon ?_
  simp only [impl_hasOnly.l0]
  repeat' first
  | (with_reducible exact impl_hasOnly.L0_lim _ _ _ _)
  | (with_reducible refine Lim.ite ?_ ?_)
  | (with_reducible refine Lim.bind ?_ (fun _ => ?_))
  | (with_reducible exact Lim.const _)
theorem impl_hasOnly.F_eq (a0 : ByteArray) (a1 : ByteArray) : impl_hasOnly.F a0 a1 = (impl_hasOnly.L0 a0 a1 (a0.size : Int) 0) := by
  refine Lim.eq_ ?_
  simp only [impl_hasOnly.f]
  repeat' first
  | (with_reducible exact impl_hasOnly.L0_lim _ _ _ _)
  | (with_reducible refine Lim.ite ?_ ?_)
  | (with_reducible refine Lim.bind ?_ (fun _ => ?_))
  | (with_reducible exact Lim.const _)
def impl_isWordOf.f (k : Nat) (a0 : ByteArray) (a1 : ByteArray) : Option (Bool) := (impl_within.f (a0.size : Int) 1 8).bind fun t202 => (if t202 = true then ((impl_hasOnly.f k a0 a1).bind fun t203 => (some t203)) else (some false))
theorem impl_isWordOf.mono : ∀ a0 a1 k, LeO (impl_isWordOf.f k a0 a1) (impl_isWordOf.f (k + 1) a0 a1) := by
  intro a0 a1 k
  unfold impl_isWordOf.f
  repeat' first
      | (with_reducible exact impl_hasOnly.mono _ _ _)
      | (with_reducible exact LeO.refl _)
      | (with_reducible exact LeO.none _)
      | (with_reducible refine LeO.ite ?_ ?_)
      | (with_reducible refine LeO.bind ?_ (fun _ => ?_))
      | exact impl_hasOnly.mono _ _ _
      | exact LeO.none _
      | refine LeO.ite ?_ ?_
      | refine LeO.bind ?_ (fun _ => ?_)
noncomputable def impl_isWordOf.F (a0 : ByteArray) (a1 : ByteArray) : Option (Bool) := lim fun k => impl_isWordOf.f k a0 a1
theorem impl_isWordOf.F_lim (a0 : ByteArray) (a1 : ByteArray) : Lim (fun k => impl_isWordOf.f k a0 a1) (impl_isWordOf.F a0 a1) := ⟨impl_isWordOf.mono a0 a1, rfl⟩
theorem impl_isWordOf.F_eq (a0 : ByteArray) (a1 : ByteArray) : impl_isWordOf.F a0 a1 = ((impl_within.f (a0.size : Int) 1 8).bind fun t202 => (if t202 = true then ((impl_hasOnly.F a0 a1).bind fun t203 => (some t203)) else (some false))) := by
  refine Lim.eq_ ?_
  simp only [impl_isWordOf.f]
  repeat' first
  | (with_reducible exact impl_hasOnly.F_lim _ _)
  | (with_reducible refine Lim.ite ?_ ?_)
  | (with_reducible refine Lim.bind ?_ (fun _ => ?_))
  | (with_reducible exact Lim.const _)
def impl_isAngle.f (a0 : Int) : Option (Bool) := (impl_within.f a0 (-90) 90).bind fun t204 => (some t204)
def impl_locusOf_1.f (a0_0 : ByteArray) (a0_1 : Int) (a1_0 : ByteArray) : Option (Bool) := some (a0_0.toList == a1_0.toList)
def slices_IndexFunc_Locus_impl_locusOf_1.l0 : Nat → List (S55) → Int → Int → ByteArray → Option (Int)
  | 0, _, _, _, _ => none
  | k + 1, x0, x7, x8, x39000 => if x8 < x7 then (if 0 ≤ x8 then (if x8 < (x0.length : Int) then ((impl_locusOf_1.f ((rd_T55 x0 x8).f0) ((rd_T55 x0 x8).f1) x39000).bind fun t207 => (if t207 = true then (some x8) else (slices_IndexFunc_Locus_impl_locusOf_1.l0 k x0 x7 (wrap64 (x8 + 1)) x39000))) else (none)) else (none)) else (some (-1))
def slices_IndexFunc_Locus_impl_locusOf_1.f (k : Nat) (l0 : List (S55)) (a1_0 : ByteArray) : Option (Int) := slices_IndexFunc_Locus_impl_locusOf_1.l0 k l0 (l0.length : Int) 0 a1_0
theorem slices_IndexFunc_Locus_impl_locusOf_1.mono_l : ∀ k, (∀ y0 y1 y2 y3, LeO (slices_IndexFunc_Locus_impl_locusOf_1.l0 k y0 y1 y2 y3) (slices_IndexFunc_Locus_impl_locusOf_1.l0 (k + 1) y0 y1 y2 y3))
  | 0 => fun _ _ _ _ r h => by simp [slices_IndexFunc_Locus_impl_locusOf_1.l0] at h
  | k + 1 => by
    have ih0 := slices_IndexFunc_Locus_impl_locusOf_1.mono_l k
    · intro y0 y1 y2 y3
      unfold slices_IndexFunc_Locus_impl_locusOf_1.l0
      repeat' first
      | (with_reducible exact ih0 _ _ _ _)
      | (with_reducible exact LeO.refl _)
      | (with_reducible exact LeO.none _)
      | (with_reducible refine LeO.ite ?_ ?_)
      | (with_reducible refine LeO.bind ?_ (fun _ => ?_))
      | exact ih0 _ _ _ _
      | exact LeO.none _
      | refine LeO.ite ?_ ?_
      | refine LeO.bind ?_ (fun _ => ?_)
theorem slices_IndexFunc_Locus_impl_locusOf_1.mono : ∀ a0 a1 k, LeO (slices_IndexFunc_Locus_impl_locusOf_1.f k a0 a1) (slices_IndexFunc_Locus_impl_locusOf_1.f (k + 1) a0 a1) := by
  intro a0 a1 k
  have ih0 := slices_IndexFunc_Locus_impl_locusOf_1.mono_l k
  unfold slices_IndexFunc_Locus_impl_locusOf_1.f
  repeat' first
      | (with_reducible exact ih0 _ _ _ _)
      | (with_reducible exact LeO.refl _)
      | (with_reducible exact LeO.none _)
      | (with_reducible refine LeO.ite ?_ ?_)
      | (with_reducible refine LeO.bind ?_ (fun _ => ?_))
      | exact ih0 _ _ _ _
      | exact LeO.none _
      | refine LeO.ite ?_ ?_
      | refine LeO.bind ?_ (fun _ => ?_)
noncomputable def slices_IndexFunc_Locus_impl_locusOf_1.L0 (x0 : List (S55)) (x7 : Int) (x8 : Int) (x39000 : ByteArray) : Option (Int) := lim fun k => slices_IndexFunc_Locus_impl_locusOf_1.l0 k x0 x7 x8 x39000
theorem slices_IndexFunc_Locus_impl_locusOf_1.L0_lim (x0 : List (S55)) (x7 : Int) (x8 : Int) (x39000 : ByteArray) : Lim (fun k => slices_IndexFunc_Locus_impl_locusOf_1.l0 k x0 x7 x8 x39000) (slices_IndexFunc_Locus_impl_locusOf_1.L0 x0 x7 x8 x39000) := ⟨fun k => (slices_IndexFunc_Locus_impl_locusOf_1.mono_l k) x0 x7 x8 x39000, rfl⟩
noncomputable def slices_IndexFunc_Locus_impl_locusOf_1.F (l0 : List (S55)) (a1_0 : ByteArray) : Option (Int) := lim fun k => slices_IndexFunc_Locus_impl_locusOf_1.f k l0 a1_0
theorem slices_IndexFunc_Locus_impl_locusOf_1.F_lim (l0 : List (S55)) (a1_0 : ByteArray) : Lim (fun k => slices_IndexFunc_Locus_impl_locusOf_1.f k l0 a1_0) (slices_IndexFunc_Locus_impl_locusOf_1.F l0 a1_0) := ⟨slices_IndexFunc_Locus_impl_locusOf_1.mono l0 a1_0, rfl⟩
theorem slices_IndexFunc_Locus_impl_locusOf_1.L0_eq (x0 : List (S55)) (x7 : Int) (x8 : Int) (x39000 : ByteArray) : slices_IndexFunc_Locus_impl_locusOf_1.L0 x0 x7 x8 x39000 = (if x8 < x7 then (if 0 ≤ x8 then (if x8 < (x0.length : Int) then ((impl_locusOf_1.f ((rd_T55 x0 x8).f0) ((rd_T55 x0 x8).f1) x39000).bind fun t207 => (if t207 = true then (some x8) else (slices_IndexFunc_Locus_impl_locusOf_1.L0 x0 x7 (wrap64 (x8 + 1)) x39000))) else (none)) else (none)) else (some (-1))) := by
  refine Lim.succ_eq (slices_IndexFunc_Locus_impl_locusOf_1.L0_lim x0 x7 x8 x39000).mon ?_
  simp only [slices_IndexFunc_Locus_impl_locusOf_1.l0]
  repeat' first
  | (with_reducible exact slices_IndexFunc_Locus_impl_locusOf_1.L0_lim _ _ _ _)
  | (with_reducible refine Lim.ite ?_ ?_)
  | (with_reducible refine Lim.bind ?_ (fun _ => ?_))
  | (with_reducible exact Lim.const _)
theorem slices_IndexFunc_Locus_impl_locusOf_1.F_eq (l0 : List (S55)) (a1_0 : ByteArray) : slices_IndexFunc_Locus_impl_locusOf_1.F l0 a1_0 = (slices_IndexFunc_Locus_impl_locusOf_1.L0 l0 (l0.length : Int) 0 a1_0) := by
  refine Lim.eq_ ?_
  simp only [slices_IndexFunc_Locus_impl_locusOf_1.f]
  repeat' first
  | (with_reducible exact slices_IndexFunc_Locus_impl_locusOf_1.L0_lim _ _ _ _)
  | (with_reducible refine Lim.ite ?_ ?_)
  | (with_reducible refine Lim.bind ?_ (fun _ => ?_))
  | (with_reducible exact Lim.const _)
def impl_locusOf.f (k : Nat) (l0 : List (S55)) (a1 : ByteArray) : Option (Int) := (slices_IndexFunc_Locus_impl_locusOf_1.f k l0 a1).bind fun t209 => (some t209)
theorem impl_locusOf.mono : ∀ a0 a1 k, LeO (impl_locusOf.f k a0 a1) (impl_locusOf.f (k + 1) a0 a1) := by
  intro a0 a1 k
  unfold impl_locusOf.f
  repeat' first
      | (with_reducible exact slices_IndexFunc_Locus_impl_locusOf_1.mono _ _ _)
      | (with_reducible exact LeO.refl _)
      | (with_reducible exact LeO.none _)
      | (with_reducible refine LeO.ite ?_ ?_)
      | (with_reducible refine LeO.bind ?_ (fun _ => ?_))
      | exact slices_IndexFunc_Locus_impl_locusOf_1.mono _ _ _
      | exact LeO.none _
      | refine LeO.ite ?_ ?_
      | refine LeO.bind ?_ (fun _ => ?_)
noncomputable def impl_locusOf.F (l0 : List (S55)) (a1 : ByteArray) : Option (Int) := lim fun k => impl_locusOf.f k l0 a1
theorem impl_locusOf.F_lim (l0 : List (S55)) (a1 : ByteArray) : Lim (fun k => impl_locusOf.f k l0 a1) (impl_locusOf.F l0 a1) := ⟨impl_locusOf.mono l0 a1, rfl⟩
theorem impl_locusOf.F_eq (l0 : List (S55)) (a1 : ByteArray) : impl_locusOf.F l0 a1 = ((slices_IndexFunc_Locus_impl_locusOf_1.F l0 a1).bind fun t209 => (some t209)) := by
  refine Lim.eq_ ?_
  simp only [impl_locusOf.f]
  repeat' first
  | (with_reducible exact slices_IndexFunc_Locus_impl_locusOf_1.F_lim _ _)
  | (with_reducible refine Lim.ite ?_ ?_)
  | (with_reducible refine Lim.bind ?_ (fun _ => ?_))
  | (with_reducible exact Lim.const _)
def impl_AreLoci.l0 : Nat → List (S55) → List (S55) → Int → Int → Option (Bool)
  | 0, _, _, _, _ => none
  | k + 1, x0, x5, x6, x7 => if x7 < x6 then (if 0 ≤ x7 then (if x7 < (x5.length : Int) then ((impl_isWordOf.f k ((rd_T55 x5 x7).f0) (⟨#[97, 98, 99, 100, 101, 102, 103, 104, 105, 106, 107, 108, 109, 110, 111, 112, 113, 114, 115, 116, 117, 118, 119, 120, 121, 122]⟩ : ByteArray)).bind fun t212 => (if t212 = true then ((impl_isAngle.f ((rd_T55 x5 x7).f1)).bind fun t213 => (if t213 = true then (if x7 > 0 then (if 0 ≤ (wrap64 (x7 - 1)) then (if (wrap64 (x7 - 1)) < (x0.length : Int) then (if ((rd_T55 x5 x7).f1) ≤ ((rd_T55 x0 (wrap64 (x7 - 1))).f1) then (some false) else (if x7 ≤ (x0.length : Int) then ((impl_locusOf.f k (x0.take (x7 : Int).toNat) ((rd_T55 x5 x7).f0)).bind fun t219 => (if t219 ≥ 0 then (some false) else (impl_AreLoci.l0 k x0 x5 x6 (wrap64 (x7 + 1))))) else (none))) else (none)) else (none)) else (if x7 ≤ (x0.length : Int) then ((impl_locusOf.f k (x0.take (x7 : Int).toNat) ((rd_T55 x5 x7).f0)).bind fun t224 => (if t224 ≥ 0 then (some false) else (impl_AreLoci.l0 k x0 x5 x6 (wrap64 (x7 + 1))))) else (none))) else (some false))) else (some false))) else (none)) else (none)) else (some (decide ((x0.length : Int) ≤ 8)))
def impl_AreLoci.f (k : Nat) (l0 : List (S55)) : Option (Bool) := impl_AreLoci.l0 k l0 l0 (l0.length : Int) 0
theorem impl_AreLoci.mono_l : ∀ k, (∀ y0 y1 y2 y3, LeO (impl_AreLoci.l0 k y0 y1 y2 y3) (impl_AreLoci.l0 (k + 1) y0 y1 y2 y3))
  | 0 => fun _ _ _ _ r h => by simp [impl_AreLoci.l0] at h
  | k + 1 => by
    have ih0 := impl_AreLoci.mono_l k
    · intro y0 y1 y2 y3
      unfold impl_AreLoci.l0
      repeat' first
      | (with_reducible exact ih0 _ _ _ _)
      | (with_reducible exact impl_isWordOf.mono _ _ _)
      | (with_reducible exact impl_locusOf.mono _ _ _)
      | (with_reducible exact LeO.refl _)
      | (with_reducible exact LeO.none _)
      | (with_reducible refine LeO.ite ?_ ?_)
      | (with_reducible refine LeO.bind ?_ (fun _ => ?_))
      | exact ih0 _ _ _ _
      | exact impl_isWordOf.mono _ _ _
      | exact impl_locusOf.mono _ _ _
      | exact LeO.none _
      | refine LeO.ite ?_ ?_
      | refine LeO.bind ?_ (fun _ => ?_)
theorem impl_AreLoci.mono : ∀ a0 k, LeO (impl_AreLoci.f k a0) (impl_AreLoci.f (k + 1) a0) := by
  intro a0 k
  have ih0 := impl_AreLoci.mono_l k
  unfold impl_AreLoci.f
  repeat' first
      | (with_reducible exact ih0 _ _ _ _)
      | (with_reducible exact impl_isWordOf.mono _ _ _)
      | (with_reducible exact impl_locusOf.mono _ _ _)
      | (with_reducible exact LeO.refl _)
      | (with_reducible exact LeO.none _)
      | (with_reducible refine LeO.ite ?_ ?_)
      | (with_reducible refine LeO.bind ?_ (fun _ => ?_))
      | exact ih0 _ _ _ _
      | exact impl_isWordOf.mono _ _ _
      | exact impl_locusOf.mono _ _ _
      | exact LeO.none _
      | refine LeO.ite ?_ ?_
      | refine LeO.bind ?_ (fun _ => ?_)
noncomputable def impl_AreLoci.L0 (x0 : List (S55)) (x5 : List (S55)) (x6 : Int) (x7 : Int) : Option (Bool) := lim fun k => impl_AreLoci.l0 k x0 x5 x6 x7
theorem impl_AreLoci.L0_lim (x0 : List (S55)) (x5 : List (S55)) (x6 : Int) (x7 : Int) : Lim (fun k => impl_AreLoci.l0 k x0 x5 x6 x7) (impl_AreLoci.L0 x0 x5 x6 x7) := ⟨fun k => (impl_AreLoci.mono_l k) x0 x5 x6 x7, rfl⟩
noncomputable def impl_AreLoci.F (l0 : List (S55)) : Option (Bool) := lim fun k => impl_AreLoci.f k l0
theorem impl_AreLoci.F_lim (l0 : List (S55)) : Lim (fun k => impl_AreLoci.f k l0) (impl_AreLoci.F l0) := ⟨impl_AreLoci.mono l0, rfl⟩
theorem impl_AreLoci.L0_eq (x0 : List (S55)) (x5 : List (S55)) (x6 : Int) (x7 : Int) : impl_AreLoci.L0 x0 x5 x6 x7 = (if x7 < x6 then (if 0 ≤ x7 then (if x7 < (x5.length : Int) then ((impl_isWordOf.F ((rd_T55 x5 x7).f0) (⟨#[97, 98, 99, 100, 101, 102, 103, 104, 105, 106, 107, 108, 109, 110, 111, 112, 113, 114, 115, 116, 117, 118, 119, 120, 121, 122]⟩ : ByteArray)).bind fun t212 => (if t212 = true then ((impl_isAngle.f ((rd_T55 x5 x7).f1)).bind fun t213 => (if t213 = true then (if x7 > 0 then (if 0 ≤ (wrap64 (x7 - 1)) then (if (wrap64 (x7 - 1)) < (x0.length : Int) then (if ((rd_T55 x5 x7).f1) ≤ ((rd_T55 x0 (wrap64 (x7 - 1))).f1) then (some false) else (if x7 ≤ (x0.length : Int) then ((impl_locusOf.F (x0.take (x7 : Int).toNat) ((rd_T55 x5 x7).f0)).bind fun t219 => (if t219 ≥ 0 then (some false) else (impl_AreLoci.L0 x0 x5 x6 (wrap64 (x7 + 1))))) else (none))) else (none)) else (none)) else (if x7 ≤ (x0.length : Int) then ((impl_locusOf.F (x0.take (x7 : Int).toNat) ((rd_T55 x5 x7).f0)).bind fun t224 => (if t224 ≥ 0 then (some false) else (impl_AreLoci.L0 x0 x5 x6 (wrap64 (x7 + 1))))) else (none))) else (some false))) else (some false))) else (none)) else (none)) else (some (decide ((x0.length : Int) ≤ 8)))) := by
  refine Lim.succ_eq (impl_AreLoci.L0_lim x0 x5 x6 x7).mon ?_
  simp only [impl_AreLoci.l0]
  repeat' first
  | (with_reducible exact impl_AreLoci.L0_lim _ _ _ _)
  | (with_reducible exact impl_isWordOf.F_lim _ _)
  | (with_reducible exact impl_locusOf.F_lim _ _)
  | (with_reducible refine Lim.ite ?_ ?_)
  | (with_reducible refine Lim.bind ?_ (fun _ => ?_))
  | (with_reducible exact Lim.const _)
theorem impl_AreLoci.F_eq (l0 : List (S55)) : impl_AreLoci.F l0 = (impl_AreLoci.L0 l0 l0 (l0.length : Int) 0) := by
  refine Lim.eq_ ?_
  simp only [impl_AreLoci.f]
  repeat' first
  | (with_reducible exact impl_AreLoci.L0_lim _ _ _ _)
  | (with_reducible exact impl_isWordOf.F_lim _ _)
  | (with_reducible exact impl_locusOf.F_lim _ _)
  | (with_reducible refine Lim.ite ?_ ?_)
  | (with_reducible refine Lim.bind ?_ (fun _ => ?_))
  | (with_reducible exact Lim.const _)
def impl_sortedLoci_1.f (a0_0 : ByteArray) (a0_1 : Int) (a1_0 : ByteArray) (a1_1 : Int) : Option (Int) := some (wrap64 (a0_1 - a1_1))
def slices_SortFunc_Locus_impl_sortedLoci_1.key (x : S55) : Int := x.f1
instance : Inhabited S55 := ⟨z55⟩
instance : Inhabited (Keyed slices_SortFunc_Locus_impl_sortedLoci_1.key) := ⟨⟨z55, by decide⟩⟩
def slices_SortFunc_Locus_impl_sortedLoci_1.f (l0 : List S55) : Option (List S55) := if 0 < l0.length ∧ l0.length ≤ 12 ∧ ∀ x ∈ l0, InKey slices_SortFunc_Locus_impl_sortedLoci_1.key x then some (sortKey slices_SortFunc_Locus_impl_sortedLoci_1.key l0) else none
def impl_sortedLoci.f (k : Nat) (l0 : List (S55)) : Option ((List (S55)) × Bool) := (slices_SortFunc_Locus_impl_sortedLoci_1.f l0).bind fun t227 => ((impl_AreLoci.f k t227).bind fun t228 => (if t228 = true then (some (t227, true)) else (some (([] : List (S55)), false))))
theorem impl_sortedLoci.mono : ∀ a0 k, LeO (impl_sortedLoci.f k a0) (impl_sortedLoci.f (k + 1) a0) := by
  intro a0 k
  unfold impl_sortedLoci.f
  repeat' first
      | (with_reducible exact impl_AreLoci.mono _ _)
      | (with_reducible exact LeO.refl _)
      | (with_reducible exact LeO.none _)
      | (with_reducible refine LeO.ite ?_ ?_)
      | (with_reducible refine LeO.bind ?_ (fun _ => ?_))
      | exact impl_AreLoci.mono _ _
      | exact LeO.none _
      | refine LeO.ite ?_ ?_
      | refine LeO.bind ?_ (fun _ => ?_)
noncomputable def impl_sortedLoci.F (l0 : List (S55)) : Option ((List (S55)) × Bool) := lim fun k => impl_sortedLoci.f k l0
theorem impl_sortedLoci.F_lim (l0 : List (S55)) : Lim (fun k => impl_sortedLoci.f k l0) (impl_sortedLoci.F l0) := ⟨impl_sortedLoci.mono l0, rfl⟩
theorem impl_sortedLoci.F_eq (l0 : List (S55)) : impl_sortedLoci.F l0 = ((slices_SortFunc_Locus_impl_sortedLoci_1.f l0).bind fun t227 => ((impl_AreLoci.F t227).bind fun t228 => (if t228 = true then (some (t227, true)) else (some (([] : List (S55)), false))))) := by
  refine Lim.eq_ ?_
  simp only [impl_sortedLoci.f]
  repeat' first
  | (with_reducible exact impl_AreLoci.F_lim _)
  | (with_reducible refine Lim.ite ?_ ?_)
  | (with_reducible refine Lim.bind ?_ (fun _ => ?_))
  | (with_reducible exact Lim.const _)
def slices_Clone_Locus.f (l0 : List (S55)) : Option ((List (S55))) := (some (([] : List (S55)) : List (S55))).bind fun y229 => (if y229.length + l0.length < 5864062014805 then (some (y229 ++ l0)) else (none))
def impl_without_1.f (a0_0 : ByteArray) (a0_1 : Int) (a1_0 : ByteArray) : Option (Bool) := some (a0_0.toList == a1_0.toList)
def slices_IndexFunc_Locus_impl_without_1.l0 : Nat → List (S55) → Int → Int → ByteArray → Option (Int)
  | 0, _, _, _, _ => none
  | k + 1, x0, x7, x8, x39000 => if x8 < x7 then (if 0 ≤ x8 then (if x8 < (x0.length : Int) then ((impl_without_1.f ((rd_T55 x0 x8).f0) ((rd_T55 x0 x8).f1) x39000).bind fun t237 => (if t237 = true then (some x8) else (slices_IndexFunc_Locus_impl_without_1.l0 k x0 x7 (wrap64 (x8 + 1)) x39000))) else (none)) else (none)) else (some (-1))
def slices_IndexFunc_Locus_impl_without_1.f (k : Nat) (l0 : List (S55)) (a1_0 : ByteArray) : Option (Int) := slices_IndexFunc_Locus_impl_without_1.l0 k l0 (l0.length : Int) 0 a1_0
theorem slices_IndexFunc_Locus_impl_without_1.mono_l : ∀ k, (∀ y0 y1 y2 y3, LeO (slices_IndexFunc_Locus_impl_without_1.l0 k y0 y1 y2 y3) (slices_IndexFunc_Locus_impl_without_1.l0 (k + 1) y0 y1 y2 y3))
  | 0 => fun _ _ _ _ r h => by simp [slices_IndexFunc_Locus_impl_without_1.l0] at h
  | k + 1 => by
    have ih0 := slices_IndexFunc_Locus_impl_without_1.mono_l k
    · intro y0 y1 y2 y3
      unfold slices_IndexFunc_Locus_impl_without_1.l0
      repeat' first
      | (with_reducible exact ih0 _ _ _ _)
      | (with_reducible exact LeO.refl _)
      | (with_reducible exact LeO.none _)
      | (with_reducible refine LeO.ite ?_ ?_)
      | (with_reducible refine LeO.bind ?_ (fun _ => ?_))
      | exact ih0 _ _ _ _
      | exact LeO.none _
      | refine LeO.ite ?_ ?_
      | refine LeO.bind ?_ (fun _ => ?_)
theorem slices_IndexFunc_Locus_impl_without_1.mono : ∀ a0 a1 k, LeO (slices_IndexFunc_Locus_impl_without_1.f k a0 a1) (slices_IndexFunc_Locus_impl_without_1.f (k + 1) a0 a1) := by
  intro a0 a1 k
  have ih0 := slices_IndexFunc_Locus_impl_without_1.mono_l k
  unfold slices_IndexFunc_Locus_impl_without_1.f
  repeat' first
      | (with_reducible exact ih0 _ _ _ _)
      | (with_reducible exact LeO.refl _)
      | (with_reducible exact LeO.none _)
      | (with_reducible refine LeO.ite ?_ ?_)
      | (with_reducible refine LeO.bind ?_ (fun _ => ?_))
      | exact ih0 _ _ _ _
      | exact LeO.none _
      | refine LeO.ite ?_ ?_
      | refine LeO.bind ?_ (fun _ => ?_)
noncomputable def slices_IndexFunc_Locus_impl_without_1.L0 (x0 : List (S55)) (x7 : Int) (x8 : Int) (x39000 : ByteArray) : Option (Int) := lim fun k => slices_IndexFunc_Locus_impl_without_1.l0 k x0 x7 x8 x39000
theorem slices_IndexFunc_Locus_impl_without_1.L0_lim (x0 : List (S55)) (x7 : Int) (x8 : Int) (x39000 : ByteArray) : Lim (fun k => slices_IndexFunc_Locus_impl_without_1.l0 k x0 x7 x8 x39000) (slices_IndexFunc_Locus_impl_without_1.L0 x0 x7 x8 x39000) := ⟨fun k => (slices_IndexFunc_Locus_impl_without_1.mono_l k) x0 x7 x8 x39000, rfl⟩
noncomputable def slices_IndexFunc_Locus_impl_without_1.F (l0 : List (S55)) (a1_0 : ByteArray) : Option (Int) := lim fun k => slices_IndexFunc_Locus_impl_without_1.f k l0 a1_0
theorem slices_IndexFunc_Locus_impl_without_1.F_lim (l0 : List (S55)) (a1_0 : ByteArray) : Lim (fun k => slices_IndexFunc_Locus_impl_without_1.f k l0 a1_0) (slices_IndexFunc_Locus_impl_without_1.F l0 a1_0) := ⟨slices_IndexFunc_Locus_impl_without_1.mono l0 a1_0, rfl⟩
theorem slices_IndexFunc_Locus_impl_without_1.L0_eq (x0 : List (S55)) (x7 : Int) (x8 : Int) (x39000 : ByteArray) : slices_IndexFunc_Locus_impl_without_1.L0 x0 x7 x8 x39000 = (if x8 < x7 then (if 0 ≤ x8 then (if x8 < (x0.length : Int) then ((impl_without_1.f ((rd_T55 x0 x8).f0) ((rd_T55 x0 x8).f1) x39000).bind fun t237 => (if t237 = true then (some x8) else (slices_IndexFunc_Locus_impl_without_1.L0 x0 x7 (wrap64 (x8 + 1)) x39000))) else (none)) else (none)) else (some (-1))) := by
  refine Lim.succ_eq (slices_IndexFunc_Locus_impl_without_1.L0_lim x0 x7 x8 x39000).mon ?_
  simp only [slices_IndexFunc_Locus_impl_without_1.l0]
  repeat' first
  | (with_reducible exact slices_IndexFunc_Locus_impl_without_1.L0_lim _ _ _ _)
  | (with_reducible refine Lim.ite ?_ ?_)
  | (with_reducible refine Lim.bind ?_ (fun _ => ?_))
  | (with_reducible exact Lim.const _)
theorem slices_IndexFunc_Locus_impl_without_1.F_eq (l0 : List (S55)) (a1_0 : ByteArray) : slices_IndexFunc_Locus_impl_without_1.F l0 a1_0 = (slices_IndexFunc_Locus_impl_without_1.L0 l0 (l0.length : Int) 0 a1_0) := by
  refine Lim.eq_ ?_
  simp only [slices_IndexFunc_Locus_impl_without_1.f]
  repeat' first
  | (with_reducible exact slices_IndexFunc_Locus_impl_without_1.L0_lim _ _ _ _)
  | (with_reducible refine Lim.ite ?_ ?_)
  | (with_reducible refine Lim.bind ?_ (fun _ => ?_))
  | (with_reducible exact Lim.const _)
def slices_DeleteFunc_Locus_impl_without_1.l0 : Nat → List (S55) → Int → Int → ByteArray → Option ((List (S55)))
  | 0, _, _, _, _ => none
  | k + 1, x0, x5, x6, x39000 => if x6 < (x0.length : Int) then (if 0 ≤ x6 then ((impl_without_1.f ((rd_T55 x0 x6).f0) ((rd_T55 x0 x6).f1) x39000).bind fun t238 => (if t238 = true then (slices_DeleteFunc_Locus_impl_without_1.l0 k x0 x5 (wrap64 (x6 + 1)) x39000) else (if 0 ≤ x5 then (if x5 < (x0.length : Int) then (slices_DeleteFunc_Locus_impl_without_1.l0 k (x0.set (x5 : Int).toNat (⟨(rd_T55 x0 x6).f0, (rd_T55 x0 x6).f1⟩ : S55)) (wrap64 (x5 + 1)) (wrap64 (x6 + 1)) x39000) else (none)) else (none)))) else (none)) else (if 0 ≤ x5 then (if x5 ≤ (x0.length : Int) then (some ((x0.take (x5 : Int).toNat ++ List.replicate (x0.length - (x5 : Int).toNat) z55).take (x5 : Int).toNat)) else (none)) else (none))
def slices_DeleteFunc_Locus_impl_without_1.f (k : Nat) (l0 : List (S55)) (a1_0 : ByteArray) : Option ((List (S55))) := (slices_IndexFunc_Locus_impl_without_1.f k l0 a1_0).bind fun t235 => (if t235 = (-1) then (some l0) else (slices_DeleteFunc_Locus_impl_without_1.l0 k l0 t235 (wrap64 (t235 + 1)) a1_0))
theorem slices_DeleteFunc_Locus_impl_without_1.mono_l : ∀ k, (∀ y0 y1 y2 y3, LeO (slices_DeleteFunc_Locus_impl_without_1.l0 k y0 y1 y2 y3) (slices_DeleteFunc_Locus_impl_without_1.l0 (k + 1) y0 y1 y2 y3))
  | 0 => fun _ _ _ _ r h => by simp [slices_DeleteFunc_Locus_impl_without_1.l0] at h
  | k + 1 => by
    have ih0 := slices_DeleteFunc_Locus_impl_without_1.mono_l k
    · intro y0 y1 y2 y3
      unfold slices_DeleteFunc_Locus_impl_without_1.l0
      repeat' first
      | (with_reducible exact ih0 _ _ _ _)
      | (with_reducible exact slices_IndexFunc_Locus_impl_without_1.mono _ _ _)
      | (with_reducible exact LeO.refl _)
      | (with_reducible exact LeO.none _)
      | (with_reducible refine LeO.ite ?_ ?_)
      | (with_reducible refine LeO.bind ?_ (fun _ => ?_))
      | exact ih0 _ _ _ _
      | exact slices_IndexFunc_Locus_impl_without_1.mono _ _ _
      | exact LeO.none _
      | refine LeO.ite ?_ ?_
      | refine LeO.bind ?_ (fun _ => ?_)
theorem slices_DeleteFunc_Locus_impl_without_1.mono : ∀ a0 a1 k, LeO (slices_DeleteFunc_Locus_impl_without_1.f k a0 a1) (slices_DeleteFunc_Locus_impl_without_1.f (k + 1) a0 a1) := by
  intro a0 a1 k
  have ih0 := slices_DeleteFunc_Locus_impl_without_1.mono_l k
  unfold slices_DeleteFunc_Locus_impl_without_1.f
  repeat' first
      | (with_reducible exact ih0 _ _ _ _)
      | (with_reducible exact slices_IndexFunc_Locus_impl_without_1.mono _ _ _)
      | (with_reducible exact LeO.refl _)
      | (with_reducible exact LeO.none _)
      | (with_reducible refine LeO.ite ?_ ?_)
      | (with_reducible refine LeO.bind ?_ (fun _ => ?_))
      | exact ih0 _ _ _ _
      | exact slices_IndexFunc_Locus_impl_without_1.mono _ _ _
      | exact LeO.none _
      | refine LeO.ite ?_ ?_
      | refine LeO.bind ?_ (fun _ => ?_)
noncomputable def slices_DeleteFunc_Locus_impl_without_1.L0 (x0 : List (S55)) (x5 : Int) (x6 : Int) (x39000 : ByteArray) : Option ((List (S55))) := lim fun k => slices_DeleteFunc_Locus_impl_without_1.l0 k x0 x5 x6 x39000
theorem slices_DeleteFunc_Locus_impl_without_1.L0_lim (x0 : List (S55)) (x5 : Int) (x6 : Int) (x39000 : ByteArray) : Lim (fun k => slices_DeleteFunc_Locus_impl_without_1.l0 k x0 x5 x6 x39000) (slices_DeleteFunc_Locus_impl_without_1.L0 x0 x5 x6 x39000) := ⟨fun k => (slices_DeleteFunc_Locus_impl_without_1.mono_l k) x0 x5 x6 x39000, rfl⟩
noncomputable def slices_DeleteFunc_Locus_impl_without_1.F (l0 : List (S55)) (a1_0 : ByteArray) : Option ((List (S55))) := lim fun k => slices_DeleteFunc_Locus_impl_without_1.f k l0 a1_0
theorem slices_DeleteFunc_Locus_impl_without_1.F_lim (l0 : List (S55)) (a1_0 : ByteArray) : Lim (fun k => slices_DeleteFunc_Locus_impl_without_1.f k l0 a1_0) (slices_DeleteFunc_Locus_impl_without_1.F l0 a1_0) := ⟨slices_DeleteFunc_Locus_impl_without_1.mono l0 a1_0, rfl⟩
theorem slices_DeleteFunc_Locus_impl_without_1.L0_eq (x0 : List (S55)) (x5 : Int) (x6 : Int) (x39000 : ByteArray) : slices_DeleteFunc_Locus_impl_without_1.L0 x0 x5 x6 x39000 = (if x6 < (x0.length : Int) then (if 0 ≤ x6 then ((impl_without_1.f ((rd_T55 x0 x6).f0) ((rd_T55 x0 x6).f1) x39000).bind fun t238 => (if t238 = true then (slices_DeleteFunc_Locus_impl_without_1.L0 x0 x5 (wrap64 (x6 + 1)) x39000) else (if 0 ≤ x5 then (if x5 < (x0.length : Int) then (slices_DeleteFunc_Locus_impl_without_1.L0 (x0.set (x5 : Int).toNat (⟨(rd_T55 x0 x6).f0, (rd_T55 x0 x6).f1⟩ : S55)) (wrap64 (x5 + 1)) (wrap64 (x6 + 1)) x39000) else (none)) else (none)))) else (none)) else (if 0 ≤ x5 then (if x5 ≤ (x0.length : Int) then (some ((x0.take (x5 : Int).toNat ++ List.replicate (x0.length - (x5 : Int).toNat) z55).take (x5 : Int).toNat)) else (none)) else (none))) := by
  refine Lim.succ_eq (slices_DeleteFunc_Locus_impl_without_1.L0_lim x0 x5 x6 x39000).mon ?_
  simp only [slices_DeleteFunc_Locus_impl_without_1.l0]
  repeat' first
  | (with_reducible exact slices_DeleteFunc_Locus_impl_without_1.L0_lim _ _ _ _)
  | (with_reducible exact slices_IndexFunc_Locus_impl_without_1.F_lim _ _)
  | (with_reducible refine Lim.ite ?_ ?_)
  | (with_reducible refine Lim.bind ?_ (fun _ => ?_))
  | (with_reducible exact Lim.const _)
theorem slices_DeleteFunc_Locus_impl_without_1.F_eq (l0 : List (S55)) (a1_0 : ByteArray) : slices_DeleteFunc_Locus_impl_without_1.F l0 a1_0 = ((slices_IndexFunc_Locus_impl_without_1.F l0 a1_0).bind fun t235 => (if t235 = (-1) then (some l0) else (slices_DeleteFunc_Locus_impl_without_1.L0 l0 t235 (wrap64 (t235 + 1)) a1_0))) := by
  refine Lim.eq_ ?_
  simp only [slices_DeleteFunc_Locus_impl_without_1.f]
  repeat' first
  | (with_reducible exact slices_DeleteFunc_Locus_impl_without_1.L0_lim _ _ _ _)
  | (with_reducible exact slices_IndexFunc_Locus_impl_without_1.F_lim _ _)
  | (with_reducible refine Lim.ite ?_ ?_)
  | (with_reducible refine Lim.bind ?_ (fun _ => ?_))
  | (with_reducible exact Lim.const _)
def impl_without.f (k : Nat) (l0 : List (S55)) (a1 : ByteArray) : Option ((List (S55))) := (slices_Clone_Locus.f l0).bind fun t245 => ((slices_DeleteFunc_Locus_impl_without_1.f k t245 a1).bind fun t248 => (some t248))
theorem impl_without.mono : ∀ a0 a1 k, LeO (impl_without.f k a0 a1) (impl_without.f (k + 1) a0 a1) := by
  intro a0 a1 k
  unfold impl_without.f
  repeat' first
      | (with_reducible exact slices_DeleteFunc_Locus_impl_without_1.mono _ _ _)
      | (with_reducible exact LeO.refl _)
      | (with_reducible exact LeO.none _)
      | (with_reducible refine LeO.ite ?_ ?_)
      | (with_reducible refine LeO.bind ?_ (fun _ => ?_))
      | exact slices_DeleteFunc_Locus_impl_without_1.mono _ _ _
      | exact LeO.none _
      | refine LeO.ite ?_ ?_
      | refine LeO.bind ?_ (fun _ => ?_)
noncomputable def impl_without.F (l0 : List (S55)) (a1 : ByteArray) : Option ((List (S55))) := lim fun k => impl_without.f k l0 a1
theorem impl_without.F_lim (l0 : List (S55)) (a1 : ByteArray) : Lim (fun k => impl_without.f k l0 a1) (impl_without.F l0 a1) := ⟨impl_without.mono l0 a1, rfl⟩
theorem impl_without.F_eq (l0 : List (S55)) (a1 : ByteArray) : impl_without.F l0 a1 = ((slices_Clone_Locus.f l0).bind fun t245 => ((slices_DeleteFunc_Locus_impl_without_1.F t245 a1).bind fun t248 => (some t248))) := by
  refine Lim.eq_ ?_
  simp only [impl_without.f]
  repeat' first
  | (with_reducible exact slices_DeleteFunc_Locus_impl_without_1.F_lim _ _)
  | (with_reducible refine Lim.ite ?_ ?_)
  | (with_reducible refine Lim.bind ?_ (fun _ => ?_))
  | (with_reducible exact Lim.const _)
def impl_PutReferent.j0 : Nat → List (S55) → ByteArray → Int → Bool → Option ((List (S55)) × Bool)
  | 0, _, _, _, _ => none
  | k + 1, x0, x1, x2, x20 => if x20 = true then (some (([] : List (S55)), false)) else ((impl_without.f k x0 x1).bind fun t254 => (if t254.length < 5864062014805 then ((impl_sortedLoci.f k (t254 ++ [(⟨x1, x2⟩ : S55)])).bind fun bt260 => (some (bt260.1, bt260.2))) else (none)))
def impl_PutReferent.f (k : Nat) (l0 : List (S55)) (a1 : ByteArray) (a2 : Int) : Option ((List (S55)) × Bool) := (impl_AreLoci.f k l0).bind fun t251 => (if t251 = true then ((impl_isWordOf.f k a1 (⟨#[97, 98, 99, 100, 101, 102, 103, 104, 105, 106, 107, 108, 109, 110, 111, 112, 113, 114, 115, 116, 117, 118, 119, 120, 121, 122]⟩ : ByteArray)).bind fun t252 => (if t252 = true then ((impl_isAngle.f a2).bind fun t253 => (impl_PutReferent.j0 k l0 a1 a2 (!t253))) else (impl_PutReferent.j0 k l0 a1 a2 true))) else (impl_PutReferent.j0 k l0 a1 a2 true))
theorem impl_PutReferent.mono_l : ∀ k, (∀ y0 y1 y2 y3, LeO (impl_PutReferent.j0 k y0 y1 y2 y3) (impl_PutReferent.j0 (k + 1) y0 y1 y2 y3))
  | 0 => fun _ _ _ _ r h => by simp [impl_PutReferent.j0] at h
  | k + 1 => by
    have ih0 := impl_PutReferent.mono_l k
    · intro y0 y1 y2 y3
      unfold impl_PutReferent.j0
      repeat' first
      | (with_reducible exact ih0 _ _ _ _)
      | (with_reducible exact impl_AreLoci.mono _ _)
      | (with_reducible exact impl_isWordOf.mono _ _ _)
      | (with_reducible exact impl_sortedLoci.mono _ _)
      | (with_reducible exact impl_without.mono _ _ _)
      | (with_reducible exact LeO.refl _)
      | (with_reducible exact LeO.none _)
      | (with_reducible refine LeO.ite ?_ ?_)
      | (with_reducible refine LeO.bind ?_ (fun _ => ?_))
      | exact ih0 _ _ _ _
      | exact impl_AreLoci.mono _ _
      | exact impl_isWordOf.mono _ _ _
      | exact impl_sortedLoci.mono _ _
      | exact impl_without.mono _ _ _
      | exact LeO.none _
      | refine LeO.ite ?_ ?_
      | refine LeO.bind ?_ (fun _ => ?_)
theorem impl_PutReferent.mono : ∀ a0 a1 a2 k, LeO (impl_PutReferent.f k a0 a1 a2) (impl_PutReferent.f (k + 1) a0 a1 a2) := by
  intro a0 a1 a2 k
  have ih0 := impl_PutReferent.mono_l k
  unfold impl_PutReferent.f
  repeat' first
      | (with_reducible exact ih0 _ _ _ _)
      | (with_reducible exact impl_AreLoci.mono _ _)
      | (with_reducible exact impl_isWordOf.mono _ _ _)
      | (with_reducible exact impl_sortedLoci.mono _ _)
      | (with_reducible exact impl_without.mono _ _ _)
      | (with_reducible exact LeO.refl _)
      | (with_reducible exact LeO.none _)
      | (with_reducible refine LeO.ite ?_ ?_)
      | (with_reducible refine LeO.bind ?_ (fun _ => ?_))
      | exact ih0 _ _ _ _
      | exact impl_AreLoci.mono _ _
      | exact impl_isWordOf.mono _ _ _
      | exact impl_sortedLoci.mono _ _
      | exact impl_without.mono _ _ _
      | exact LeO.none _
      | refine LeO.ite ?_ ?_
      | refine LeO.bind ?_ (fun _ => ?_)
noncomputable def impl_PutReferent.J0 (x0 : List (S55)) (x1 : ByteArray) (x2 : Int) (x20 : Bool) : Option ((List (S55)) × Bool) := lim fun k => impl_PutReferent.j0 k x0 x1 x2 x20
theorem impl_PutReferent.J0_lim (x0 : List (S55)) (x1 : ByteArray) (x2 : Int) (x20 : Bool) : Lim (fun k => impl_PutReferent.j0 k x0 x1 x2 x20) (impl_PutReferent.J0 x0 x1 x2 x20) := ⟨fun k => (impl_PutReferent.mono_l k) x0 x1 x2 x20, rfl⟩
noncomputable def impl_PutReferent.F (l0 : List (S55)) (a1 : ByteArray) (a2 : Int) : Option ((List (S55)) × Bool) := lim fun k => impl_PutReferent.f k l0 a1 a2
theorem impl_PutReferent.F_lim (l0 : List (S55)) (a1 : ByteArray) (a2 : Int) : Lim (fun k => impl_PutReferent.f k l0 a1 a2) (impl_PutReferent.F l0 a1 a2) := ⟨impl_PutReferent.mono l0 a1 a2, rfl⟩
theorem impl_PutReferent.J0_eq (x0 : List (S55)) (x1 : ByteArray) (x2 : Int) (x20 : Bool) : impl_PutReferent.J0 x0 x1 x2 x20 = (if x20 = true then (some (([] : List (S55)), false)) else ((impl_without.F x0 x1).bind fun t254 => (if t254.length < 5864062014805 then ((impl_sortedLoci.F (t254 ++ [(⟨x1, x2⟩ : S55)])).bind fun bt260 => (some (bt260.1, bt260.2))) else (none)))) := by
  refine Lim.succ_eq (impl_PutReferent.J0_lim x0 x1 x2 x20).mon ?_
  simp only [impl_PutReferent.j0]
  repeat' first
  | (with_reducible exact impl_PutReferent.J0_lim _ _ _ _)
  | (with_reducible exact impl_AreLoci.F_lim _)
  | (with_reducible exact impl_isWordOf.F_lim _ _)
  | (with_reducible exact impl_sortedLoci.F_lim _)
  | (with_reducible exact impl_without.F_lim _ _)
  | (with_reducible refine Lim.ite ?_ ?_)
  | (with_reducible refine Lim.bind ?_ (fun _ => ?_))
  | (with_reducible exact Lim.const _)
theorem impl_PutReferent.F_eq (l0 : List (S55)) (a1 : ByteArray) (a2 : Int) : impl_PutReferent.F l0 a1 a2 = ((impl_AreLoci.F l0).bind fun t251 => (if t251 = true then ((impl_isWordOf.F a1 (⟨#[97, 98, 99, 100, 101, 102, 103, 104, 105, 106, 107, 108, 109, 110, 111, 112, 113, 114, 115, 116, 117, 118, 119, 120, 121, 122]⟩ : ByteArray)).bind fun t252 => (if t252 = true then ((impl_isAngle.f a2).bind fun t253 => (impl_PutReferent.J0 l0 a1 a2 (!t253))) else (impl_PutReferent.J0 l0 a1 a2 true))) else (impl_PutReferent.J0 l0 a1 a2 true))) := by
  refine Lim.eq_ ?_
  simp only [impl_PutReferent.f]
  repeat' first
  | (with_reducible exact impl_PutReferent.J0_lim _ _ _ _)
  | (with_reducible exact impl_AreLoci.F_lim _)
  | (with_reducible exact impl_isWordOf.F_lim _ _)
  | (with_reducible exact impl_sortedLoci.F_lim _)
  | (with_reducible exact impl_without.F_lim _ _)
  | (with_reducible refine Lim.ite ?_ ?_)
  | (with_reducible refine Lim.bind ?_ (fun _ => ?_))
  | (with_reducible exact Lim.const _)
def laws_eqLocus.f (a0_0 : ByteArray) (a0_1 : Int) (a1_0 : ByteArray) (a1_1 : Int) : Option (Bool) := if a0_0.toList = a1_0.toList then (if a0_1 = a1_1 then (some true) else (some false)) else (some false)
def laws_eqLocusS.l0 : Nat → List (S55) → List (S55) → Int → Option (Bool)
  | 0, _, _, _ => none
  | k + 1, x0, x1, x5 => if x5 < (x0.length : Int) then (if 0 ≤ x5 then (if x5 < (x1.length : Int) then ((laws_eqLocus.f ((rd_T55 x0 x5).f0) ((rd_T55 x0 x5).f1) ((rd_T55 x1 x5).f0) ((rd_T55 x1 x5).f1)).bind fun t268 => (if t268 = true then (laws_eqLocusS.l0 k x0 x1 (wrap64 (x5 + 1))) else (some false))) else (none)) else (none)) else (some true)
def laws_eqLocusS.f (k : Nat) (l0 : List (S55)) (l1 : List (S55)) : Option (Bool) := if (l0.length : Int) = (l1.length : Int) then (laws_eqLocusS.l0 k l0 l1 0) else (some false)
theorem laws_eqLocusS.mono_l : ∀ k, (∀ y0 y1 y2, LeO (laws_eqLocusS.l0 k y0 y1 y2) (laws_eqLocusS.l0 (k + 1) y0 y1 y2))
  | 0 => fun _ _ _ r h => by simp [laws_eqLocusS.l0] at h
  | k + 1 => by
    have ih0 := laws_eqLocusS.mono_l k
    · intro y0 y1 y2
      unfold laws_eqLocusS.l0
      repeat' first
      | (with_reducible exact ih0 _ _ _)
      | (with_reducible exact LeO.refl _)
      | (with_reducible exact LeO.none _)
      | (with_reducible refine LeO.ite ?_ ?_)
      | (with_reducible refine LeO.bind ?_ (fun _ => ?_))
      | exact ih0 _ _ _
      | exact LeO.none _
      | refine LeO.ite ?_ ?_
      | refine LeO.bind ?_ (fun _ => ?_)
theorem laws_eqLocusS.mono : ∀ a0 a1 k, LeO (laws_eqLocusS.f k a0 a1) (laws_eqLocusS.f (k + 1) a0 a1) := by
  intro a0 a1 k
  have ih0 := laws_eqLocusS.mono_l k
  unfold laws_eqLocusS.f
  repeat' first
      | (with_reducible exact ih0 _ _ _)
      | (with_reducible exact LeO.refl _)
      | (with_reducible exact LeO.none _)
      | (with_reducible refine LeO.ite ?_ ?_)
      | (with_reducible refine LeO.bind ?_ (fun _ => ?_))
      | exact ih0 _ _ _
      | exact LeO.none _
      | refine LeO.ite ?_ ?_
      | refine LeO.bind ?_ (fun _ => ?_)
noncomputable def laws_eqLocusS.L0 (x0 : List (S55)) (x1 : List (S55)) (x5 : Int) : Option (Bool) := lim fun k => laws_eqLocusS.l0 k x0 x1 x5
theorem laws_eqLocusS.L0_lim (x0 : List (S55)) (x1 : List (S55)) (x5 : Int) : Lim (fun k => laws_eqLocusS.l0 k x0 x1 x5) (laws_eqLocusS.L0 x0 x1 x5) := ⟨fun k => (laws_eqLocusS.mono_l k) x0 x1 x5, rfl⟩
noncomputable def laws_eqLocusS.F (l0 : List (S55)) (l1 : List (S55)) : Option (Bool) := lim fun k => laws_eqLocusS.f k l0 l1
theorem laws_eqLocusS.F_lim (l0 : List (S55)) (l1 : List (S55)) : Lim (fun k => laws_eqLocusS.f k l0 l1) (laws_eqLocusS.F l0 l1) := ⟨laws_eqLocusS.mono l0 l1, rfl⟩
theorem laws_eqLocusS.L0_eq (x0 : List (S55)) (x1 : List (S55)) (x5 : Int) : laws_eqLocusS.L0 x0 x1 x5 = (if x5 < (x0.length : Int) then (if 0 ≤ x5 then (if x5 < (x1.length : Int) then ((laws_eqLocus.f ((rd_T55 x0 x5).f0) ((rd_T55 x0 x5).f1) ((rd_T55 x1 x5).f0) ((rd_T55 x1 x5).f1)).bind fun t268 => (if t268 = true then (laws_eqLocusS.L0 x0 x1 (wrap64 (x5 + 1))) else (some false))) else (none)) else (none)) else (some true)) := by
  refine Lim.succ_eq (laws_eqLocusS.L0_lim x0 x1 x5).mon ?_
  simp only [laws_eqLocusS.l0]
  repeat' first
  | (with_reducible exact laws_eqLocusS.L0_lim _ _ _)
  | (with_reducible refine Lim.ite ?_ ?_)
  | (with_reducible refine Lim.bind ?_ (fun _ => ?_))
  | (with_reducible exact Lim.const _)
theorem laws_eqLocusS.F_eq (l0 : List (S55)) (l1 : List (S55)) : laws_eqLocusS.F l0 l1 = (if (l0.length : Int) = (l1.length : Int) then (laws_eqLocusS.L0 l0 l1 0) else (some false)) := by
  refine Lim.eq_ ?_
  simp only [laws_eqLocusS.f]
  repeat' first
  | (with_reducible exact laws_eqLocusS.L0_lim _ _ _)
  | (with_reducible refine Lim.ite ?_ ?_)
  | (with_reducible refine Lim.bind ?_ (fun _ => ?_))
  | (with_reducible exact Lim.const _)
def laws_markText.l0 : Nat → Int → ByteArray → Option (ByteArray)
  | 0, _, _ => none
  | k + 1, x0, x3 => if x0 > 0 then ((some (([(wrap64 (48 + (Int.tmod x0 10))) % 256] : List Int) : List Int)).bind fun y269 => (if (strOfNums y269).size + x3.size ≤ 9223372036854775807 then (laws_markText.l0 k (wrap64 (Int.tdiv x0 10)) ((strOfNums y269) ++ x3)) else (none))) else (if 1 + x3.size ≤ 9223372036854775807 then (some ((⟨#[109]⟩ : ByteArray) ++ x3)) else (none))
def laws_markText.f (k : Nat) (a0 : Int) : Option (ByteArray) := if a0 ≤ 0 then (some (⟨#[109, 48]⟩ : ByteArray)) else (laws_markText.l0 k a0 (⟨#[]⟩ : ByteArray))
theorem laws_markText.mono_l : ∀ k, (∀ y0 y1, LeO (laws_markText.l0 k y0 y1) (laws_markText.l0 (k + 1) y0 y1))
  | 0 => fun _ _ r h => by simp [laws_markText.l0] at h
  | k + 1 => by
    have ih0 := laws_markText.mono_l k
    · intro y0 y1
      unfold laws_markText.l0
      repeat' first
      | (with_reducible exact ih0 _ _)
      | (with_reducible exact LeO.refl _)
      | (with_reducible exact LeO.none _)
      | (with_reducible refine LeO.ite ?_ ?_)
      | (with_reducible refine LeO.bind ?_ (fun _ => ?_))
      | exact ih0 _ _
      | exact LeO.none _
      | refine LeO.ite ?_ ?_
      | refine LeO.bind ?_ (fun _ => ?_)
theorem laws_markText.mono : ∀ a0 k, LeO (laws_markText.f k a0) (laws_markText.f (k + 1) a0) := by
  intro a0 k
  have ih0 := laws_markText.mono_l k
  unfold laws_markText.f
  repeat' first
      | (with_reducible exact ih0 _ _)
      | (with_reducible exact LeO.refl _)
      | (with_reducible exact LeO.none _)
      | (with_reducible refine LeO.ite ?_ ?_)
      | (with_reducible refine LeO.bind ?_ (fun _ => ?_))
      | exact ih0 _ _
      | exact LeO.none _
      | refine LeO.ite ?_ ?_
      | refine LeO.bind ?_ (fun _ => ?_)
noncomputable def laws_markText.L0 (x0 : Int) (x3 : ByteArray) : Option (ByteArray) := lim fun k => laws_markText.l0 k x0 x3
theorem laws_markText.L0_lim (x0 : Int) (x3 : ByteArray) : Lim (fun k => laws_markText.l0 k x0 x3) (laws_markText.L0 x0 x3) := ⟨fun k => (laws_markText.mono_l k) x0 x3, rfl⟩
noncomputable def laws_markText.F (a0 : Int) : Option (ByteArray) := lim fun k => laws_markText.f k a0
theorem laws_markText.F_lim (a0 : Int) : Lim (fun k => laws_markText.f k a0) (laws_markText.F a0) := ⟨laws_markText.mono a0, rfl⟩
theorem laws_markText.L0_eq (x0 : Int) (x3 : ByteArray) : laws_markText.L0 x0 x3 = (if x0 > 0 then ((some (([(wrap64 (48 + (Int.tmod x0 10))) % 256] : List Int) : List Int)).bind fun y269 => (if (strOfNums y269).size + x3.size ≤ 9223372036854775807 then (laws_markText.L0 (wrap64 (Int.tdiv x0 10)) ((strOfNums y269) ++ x3)) else (none))) else (if 1 + x3.size ≤ 9223372036854775807 then (some ((⟨#[109]⟩ : ByteArray) ++ x3)) else (none))) := by
  refine Lim.succ_eq (laws_markText.L0_lim x0 x3).mon ?_
  simp only [laws_markText.l0]
  repeat' first
  | (with_reducible exact laws_markText.L0_lim _ _)
  | (with_reducible refine Lim.ite ?_ ?_)
  | (with_reducible refine Lim.bind ?_ (fun _ => ?_))
  | (with_reducible exact Lim.const _)
theorem laws_markText.F_eq (a0 : Int) : laws_markText.F a0 = (if a0 ≤ 0 then (some (⟨#[109, 48]⟩ : ByteArray)) else (laws_markText.L0 a0 (⟨#[]⟩ : ByteArray))) := by
  refine Lim.eq_ ?_
  simp only [laws_markText.f]
  repeat' first
  | (with_reducible exact laws_markText.L0_lim _ _)
  | (with_reducible refine Lim.ite ?_ ?_)
  | (with_reducible refine Lim.bind ?_ (fun _ => ?_))
  | (with_reducible exact Lim.const _)
def laws_markLocusS.l0 : Nat → List (S55) → Int → Int → Option (Int × (List (S55)))
  | 0, _, _, _ => none
  | k + 1, x0, x1, x5 => if x5 < (x0.length : Int) then ((laws_markText.f k x1).bind fun t272 => (if 0 ≤ x5 then ((some (x0.set (x5 : Int).toNat (⟨t272, (rd_T55 x0 x5).f1⟩ : S55) : List (S55))).bind fun y273 => (laws_markLocusS.l0 k (y273.set (x5 : Int).toNat (⟨(rd_T55 y273 x5).f0, wrap64 (x1 + 1)⟩ : S55)) (wrap64 ((wrap64 (x1 + 1)) + 1)) (wrap64 (x5 + 1)))) else (none))) else (some (x1, x0))
def laws_markLocusS.f (k : Nat) (l0 : List (S55)) (a1 : Int) : Option (Int × (List (S55))) := laws_markLocusS.l0 k l0 a1 0
theorem laws_markLocusS.mono_l : ∀ k, (∀ y0 y1 y2, LeO (laws_markLocusS.l0 k y0 y1 y2) (laws_markLocusS.l0 (k + 1) y0 y1 y2))
  | 0 => fun _ _ _ r h => by simp [laws_markLocusS.l0] at h
  | k + 1 => by
    have ih0 := laws_markLocusS.mono_l k
    · intro y0 y1 y2
      unfold laws_markLocusS.l0
      repeat' first
      | (with_reducible exact ih0 _ _ _)
      | (with_reducible exact laws_markText.mono _ _)
      | (with_reducible exact LeO.refl _)
      | (with_reducible exact LeO.none _)
      | (with_reducible refine LeO.ite ?_ ?_)
      | (with_reducible refine LeO.bind ?_ (fun _ => ?_))
      | exact ih0 _ _ _
      | exact laws_markText.mono _ _
      | exact LeO.none _
      | refine LeO.ite ?_ ?_
      | refine LeO.bind ?_ (fun _ => ?_)
theorem laws_markLocusS.mono : ∀ a0 a1 k, LeO (laws_markLocusS.f k a0 a1) (laws_markLocusS.f (k + 1) a0 a1) := by
  intro a0 a1 k
  have ih0 := laws_markLocusS.mono_l k
  unfold laws_markLocusS.f
  repeat' first
      | (with_reducible exact ih0 _ _ _)
      | (with_reducible exact laws_markText.mono _ _)
      | (with_reducible exact LeO.refl _)
      | (with_reducible exact LeO.none _)
      | (with_reducible refine LeO.ite ?_ ?_)
      | (with_reducible refine LeO.bind ?_ (fun _ => ?_))
      | exact ih0 _ _ _
      | exact laws_markText.mono _ _
      | exact LeO.none _
      | refine LeO.ite ?_ ?_
      | refine LeO.bind ?_ (fun _ => ?_)
noncomputable def laws_markLocusS.L0 (x0 : List (S55)) (x1 : Int) (x5 : Int) : Option (Int × (List (S55))) := lim fun k => laws_markLocusS.l0 k x0 x1 x5
theorem laws_markLocusS.L0_lim (x0 : List (S55)) (x1 : Int) (x5 : Int) : Lim (fun k => laws_markLocusS.l0 k x0 x1 x5) (laws_markLocusS.L0 x0 x1 x5) := ⟨fun k => (laws_markLocusS.mono_l k) x0 x1 x5, rfl⟩
noncomputable def laws_markLocusS.F (l0 : List (S55)) (a1 : Int) : Option (Int × (List (S55))) := lim fun k => laws_markLocusS.f k l0 a1
theorem laws_markLocusS.F_lim (l0 : List (S55)) (a1 : Int) : Lim (fun k => laws_markLocusS.f k l0 a1) (laws_markLocusS.F l0 a1) := ⟨laws_markLocusS.mono l0 a1, rfl⟩
theorem laws_markLocusS.L0_eq (x0 : List (S55)) (x1 : Int) (x5 : Int) : laws_markLocusS.L0 x0 x1 x5 = (if x5 < (x0.length : Int) then ((laws_markText.F x1).bind fun t272 => (if 0 ≤ x5 then ((some (x0.set (x5 : Int).toNat (⟨t272, (rd_T55 x0 x5).f1⟩ : S55) : List (S55))).bind fun y273 => (laws_markLocusS.L0 (y273.set (x5 : Int).toNat (⟨(rd_T55 y273 x5).f0, wrap64 (x1 + 1)⟩ : S55)) (wrap64 ((wrap64 (x1 + 1)) + 1)) (wrap64 (x5 + 1)))) else (none))) else (some (x1, x0))) := by
  refine Lim.succ_eq (laws_markLocusS.L0_lim x0 x1 x5).mon ?_
  simp only [laws_markLocusS.l0]
  repeat' first
  | (with_reducible exact laws_markLocusS.L0_lim _ _ _)
  | (with_reducible exact laws_markText.F_lim _)
  | (with_reducible refine Lim.ite ?_ ?_)
  | (with_reducible refine Lim.bind ?_ (fun _ => ?_))
  | (with_reducible exact Lim.const _)
theorem laws_markLocusS.F_eq (l0 : List (S55)) (a1 : Int) : laws_markLocusS.F l0 a1 = (laws_markLocusS.L0 l0 a1 0) := by
  refine Lim.eq_ ?_
  simp only [laws_markLocusS.f]
  repeat' first
  | (with_reducible exact laws_markLocusS.L0_lim _ _ _)
  | (with_reducible exact laws_markText.F_lim _)
  | (with_reducible refine Lim.ite ?_ ?_)
  | (with_reducible refine Lim.bind ?_ (fun _ => ?_))
  | (with_reducible exact Lim.const _)
def laws_heldLocusS.l0 : Nat → List (S55) → Int → Int → Option (Int)
  | 0, _, _, _ => none
  | k + 1, x0, x1, x5 => if x5 < (x0.length : Int) then (if 0 ≤ x5 then ((laws_markText.f k x1).bind fun t276 => (if ((rd_T55 x0 x5).f0).toList = t276.toList then (if ((rd_T55 x0 x5).f1) = (wrap64 (x1 + 1)) then (laws_heldLocusS.l0 k x0 (wrap64 ((wrap64 (x1 + 1)) + 1)) (wrap64 (x5 + 1))) else (some (-1))) else (some (-1)))) else (none)) else (some x1)
def laws_heldLocusS.f (k : Nat) (l0 : List (S55)) (a1 : Int) : Option (Int) := laws_heldLocusS.l0 k l0 a1 0
theorem laws_heldLocusS.mono_l : ∀ k, (∀ y0 y1 y2, LeO (laws_heldLocusS.l0 k y0 y1 y2) (laws_heldLocusS.l0 (k + 1) y0 y1 y2))
  | 0 => fun _ _ _ r h => by simp [laws_heldLocusS.l0] at h
  | k + 1 => by
    have ih0 := laws_heldLocusS.mono_l k
    · intro y0 y1 y2
      unfold laws_heldLocusS.l0
      repeat' first
      | (with_reducible exact ih0 _ _ _)
      | (with_reducible exact laws_markText.mono _ _)
      | (with_reducible exact LeO.refl _)
      | (with_reducible exact LeO.none _)
      | (with_reducible refine LeO.ite ?_ ?_)
      | (with_reducible refine LeO.bind ?_ (fun _ => ?_))
      | exact ih0 _ _ _
      | exact laws_markText.mono _ _
      | exact LeO.none _
      | refine LeO.ite ?_ ?_
      | refine LeO.bind ?_ (fun _ => ?_)
theorem laws_heldLocusS.mono : ∀ a0 a1 k, LeO (laws_heldLocusS.f k a0 a1) (laws_heldLocusS.f (k + 1) a0 a1) := by
  intro a0 a1 k
  have ih0 := laws_heldLocusS.mono_l k
  unfold laws_heldLocusS.f
  repeat' first
      | (with_reducible exact ih0 _ _ _)
      | (with_reducible exact laws_markText.mono _ _)
      | (with_reducible exact LeO.refl _)
      | (with_reducible exact LeO.none _)
      | (with_reducible refine LeO.ite ?_ ?_)
      | (with_reducible refine LeO.bind ?_ (fun _ => ?_))
      | exact ih0 _ _ _
      | exact laws_markText.mono _ _
      | exact LeO.none _
      | refine LeO.ite ?_ ?_
      | refine LeO.bind ?_ (fun _ => ?_)
noncomputable def laws_heldLocusS.L0 (x0 : List (S55)) (x1 : Int) (x5 : Int) : Option (Int) := lim fun k => laws_heldLocusS.l0 k x0 x1 x5
theorem laws_heldLocusS.L0_lim (x0 : List (S55)) (x1 : Int) (x5 : Int) : Lim (fun k => laws_heldLocusS.l0 k x0 x1 x5) (laws_heldLocusS.L0 x0 x1 x5) := ⟨fun k => (laws_heldLocusS.mono_l k) x0 x1 x5, rfl⟩
noncomputable def laws_heldLocusS.F (l0 : List (S55)) (a1 : Int) : Option (Int) := lim fun k => laws_heldLocusS.f k l0 a1
theorem laws_heldLocusS.F_lim (l0 : List (S55)) (a1 : Int) : Lim (fun k => laws_heldLocusS.f k l0 a1) (laws_heldLocusS.F l0 a1) := ⟨laws_heldLocusS.mono l0 a1, rfl⟩
theorem laws_heldLocusS.L0_eq (x0 : List (S55)) (x1 : Int) (x5 : Int) : laws_heldLocusS.L0 x0 x1 x5 = (if x5 < (x0.length : Int) then (if 0 ≤ x5 then ((laws_markText.F x1).bind fun t276 => (if ((rd_T55 x0 x5).f0).toList = t276.toList then (if ((rd_T55 x0 x5).f1) = (wrap64 (x1 + 1)) then (laws_heldLocusS.L0 x0 (wrap64 ((wrap64 (x1 + 1)) + 1)) (wrap64 (x5 + 1))) else (some (-1))) else (some (-1)))) else (none)) else (some x1)) := by
  refine Lim.succ_eq (laws_heldLocusS.L0_lim x0 x1 x5).mon ?_
  simp only [laws_heldLocusS.l0]
  repeat' first
  | (with_reducible exact laws_heldLocusS.L0_lim _ _ _)
  | (with_reducible exact laws_markText.F_lim _)
  | (with_reducible refine Lim.ite ?_ ?_)
  | (with_reducible refine Lim.bind ?_ (fun _ => ?_))
  | (with_reducible exact Lim.const _)
theorem laws_heldLocusS.F_eq (l0 : List (S55)) (a1 : Int) : laws_heldLocusS.F l0 a1 = (laws_heldLocusS.L0 l0 a1 0) := by
  refine Lim.eq_ ?_
  simp only [laws_heldLocusS.f]
  repeat' first
  | (with_reducible exact laws_heldLocusS.L0_lim _ _ _)
  | (with_reducible exact laws_markText.F_lim _)
  | (with_reducible refine Lim.ite ?_ ?_)
  | (with_reducible refine Lim.bind ?_ (fun _ => ?_))
  | (with_reducible exact Lim.const _)
mutual
def laws_FnExactPutReferent.j0 : Nat → List (S62) → ByteArray → Int → List (S55) → Bool → List (S55) → List (S55) → Bool → Bool → Option (Bool)
  | 0, _, _, _, _, _, _, _, _, _ => none
  | k + 1, x0, x1, x2, x8, x9, x10, x11, x12, x51 => if x51 = true then (some false) else ((laws_toLocusS.f k x0).bind fun t294 => ((laws_eqLocusS.f k x10 t294).bind fun t297 => (if t297 = true then ((laws_markLocusS.f k x10 1).bind fun bt298 => (if bt298.1 < 0 then (laws_FnExactPutReferent.j1 k x0 x1 x2 x8 x9 x11 true) else ((laws_eqLocusS.f k x11 x8).bind fun t300 => (if t300 = true then (laws_FnExactPutReferent.j1 k x0 x1 x2 x8 x9 x11 (x12 != x9)) else (laws_FnExactPutReferent.j1 k x0 x1 x2 x8 x9 x11 true))))) else (some false))))
def laws_FnExactPutReferent.j1 : Nat → List (S62) → ByteArray → Int → List (S55) → Bool → List (S55) → Bool → Option (Bool)
  | 0, _, _, _, _, _, _, _ => none
  | k + 1, x0, x1, x2, x8, x9, x11, x72 => if x72 = true then (some false) else ((laws_markLocusS.f k x11 1).bind fun bt301 => ((laws_heldLocusS.f k bt301.2 1).bind fun t303 => (if t303 < 0 then (some false) else (if t303 = bt301.1 then ((laws_toLocusS.f k x0).bind fun t304 => ((impl_PutReferent.f k t304 x1 x2).bind fun bt307 => ((laws_eqLocusS.f k bt307.1 x8).bind fun t311 => (if t311 = true then (laws_FnExactPutReferent.j2 k bt301.2 bt301.1 (bt307.2 != x9)) else (laws_FnExactPutReferent.j2 k bt301.2 bt301.1 true))))) else (some false)))))
def laws_FnExactPutReferent.j2 : Nat → List (S55) → Int → Bool → Option (Bool)
  | 0, _, _, _ => none
  | k + 1, x11, x14, x100 => if x100 = true then (some false) else ((laws_heldLocusS.f k x11 1).bind fun t312 => (if t312 < 0 then (some false) else (if t312 = x14 then (some true) else (some false))))
end
def laws_FnExactPutReferent.f (k : Nat) (l0 : List (S62)) (a1 : ByteArray) (a2 : Int) : Option (Bool) := if (a1.size : Int) > 1048576 then (some true) else ((laws_szLocusS.f k l0 1048576).bind fun t278 => (if t278 < 0 then (some true) else ((laws_toLocusS.f k l0).bind fun t279 => ((spec_PutReferent.f k t279 a1 a2).bind fun bt282 => ((laws_toLocusS.f k l0).bind fun t286 => ((impl_PutReferent.f k t286 a1 a2).bind fun bt289 => ((laws_eqLocusS.f k bt289.1 bt282.1).bind fun t293 => (if t293 = true then (laws_FnExactPutReferent.j0 k l0 a1 a2 bt282.1 bt282.2 t286 bt289.1 bt289.2 (bt289.2 != bt282.2)) else (laws_FnExactPutReferent.j0 k l0 a1 a2 bt282.1 bt282.2 t286 bt289.1 bt289.2 true)))))))))
theorem laws_FnExactPutReferent.mono_l : ∀ k, (∀ y0 y1 y2 y3 y4 y5 y6 y7 y8, LeO (laws_FnExactPutReferent.j0 k y0 y1 y2 y3 y4 y5 y6 y7 y8) (laws_FnExactPutReferent.j0 (k + 1) y0 y1 y2 y3 y4 y5 y6 y7 y8)) ∧ (∀ y0 y1 y2 y3 y4 y5 y6, LeO (laws_FnExactPutReferent.j1 k y0 y1 y2 y3 y4 y5 y6) (laws_FnExactPutReferent.j1 (k + 1) y0 y1 y2 y3 y4 y5 y6)) ∧ (∀ y0 y1 y2, LeO (laws_FnExactPutReferent.j2 k y0 y1 y2) (laws_FnExactPutReferent.j2 (k + 1) y0 y1 y2))
  | 0 => ⟨fun _ _ _ _ _ _ _ _ _ r h => by simp [laws_FnExactPutReferent.j0] at h, fun _ _ _ _ _ _ _ r h => by simp [laws_FnExactPutReferent.j1] at h, fun _ _ _ r h => by simp [laws_FnExactPutReferent.j2] at h⟩
  | k + 1 => by
    obtain ⟨ih0, ih1, ih2⟩ := laws_FnExactPutReferent.mono_l k
    refine ⟨?_, ?_, ?_⟩
    · intro y0 y1 y2 y3 y4 y5 y6 y7 y8
      unfold laws_FnExactPutReferent.j0
      repeat' first
      | (with_reducible exact ih0 _ _ _ _ _ _ _ _ _)
      | (with_reducible exact ih1 _ _ _ _ _ _ _)
      | (with_reducible exact ih2 _ _ _)
      | (with_reducible exact impl_PutReferent.mono _ _ _ _)
      | (with_reducible exact laws_eqLocusS.mono _ _ _)
      | (with_reducible exact laws_heldLocusS.mono _ _ _)
      | (with_reducible exact laws_markLocusS.mono _ _ _)
      | (with_reducible exact laws_szLocusS.mono _ _ _)
      | (with_reducible exact laws_toLocusS.mono _ _)
      | (with_reducible exact spec_PutReferent.mono _ _ _ _)
      | (with_reducible exact LeO.refl _)
      | (with_reducible exact LeO.none _)
      | (with_reducible refine LeO.ite ?_ ?_)
      | (with_reducible refine LeO.bind ?_ (fun _ => ?_))
      | exact ih0 _ _ _ _ _ _ _ _ _
      | exact ih1 _ _ _ _ _ _ _
      | exact ih2 _ _ _
      | exact impl_PutReferent.mono _ _ _ _
      | exact laws_eqLocusS.mono _ _ _
      | exact laws_heldLocusS.mono _ _ _
      | exact laws_markLocusS.mono _ _ _
      | exact laws_szLocusS.mono _ _ _
      | exact laws_toLocusS.mono _ _
      | exact spec_PutReferent.mono _ _ _ _
      | exact LeO.none _
      | refine LeO.ite ?_ ?_
      | refine LeO.bind ?_ (fun _ => ?_)
    · intro y0 y1 y2 y3 y4 y5 y6
      unfold laws_FnExactPutReferent.j1
      repeat' first
      | (with_reducible exact ih0 _ _ _ _ _ _ _ _ _)
      | (with_reducible exact ih1 _ _ _ _ _ _ _)
      | (with_reducible exact ih2 _ _ _)
      | (with_reducible exact impl_PutReferent.mono _ _ _ _)
      | (with_reducible exact laws_eqLocusS.mono _ _ _)
      | (with_reducible exact laws_heldLocusS.mono _ _ _)
      | (with_reducible exact laws_markLocusS.mono _ _ _)
      | (with_reducible exact laws_szLocusS.mono _ _ _)
      | (with_reducible exact laws_toLocusS.mono _ _)
      | (with_reducible exact spec_PutReferent.mono _ _ _ _)
      | (with_reducible exact LeO.refl _)
      | (with_reducible exact LeO.none _)
      | (with_reducible refine LeO.ite ?_ ?_)
      | (with_reducible refine LeO.bind ?_ (fun _ => ?_))
      | exact ih0 _ _ _ _ _ _ _ _ _
      | exact ih1 _ _ _ _ _ _ _
      | exact ih2 _ _ _
      | exact impl_PutReferent.mono _ _ _ _
      | exact laws_eqLocusS.mono _ _ _
      | exact laws_heldLocusS.mono _ _ _
      | exact laws_markLocusS.mono _ _ _
      | exact laws_szLocusS.mono _ _ _
      | exact laws_toLocusS.mono _ _
      | exact spec_PutReferent.mono _ _ _ _
      | exact LeO.none _
      | refine LeO.ite ?_ ?_
      | refine LeO.bind ?_ (fun _ => ?_)
    · intro y0 y1 y2
      unfold laws_FnExactPutReferent.j2
      repeat' first
      | (with_reducible exact ih0 _ _ _ _ _ _ _ _ _)
      | (with_reducible exact ih1 _ _ _ _ _ _ _)
      | (with_reducible exact ih2 _ _ _)
      | (with_reducible exact impl_PutReferent.mono _ _ _ _)
      | (with_reducible exact laws_eqLocusS.mono _ _ _)
      | (with_reducible exact laws_heldLocusS.mono _ _ _)
      | (with_reducible exact laws_markLocusS.mono _ _ _)
      | (with_reducible exact laws_szLocusS.mono _ _ _)
      | (with_reducible exact laws_toLocusS.mono _ _)
      | (with_reducible exact spec_PutReferent.mono _ _ _ _)
      | (with_reducible exact LeO.refl _)
      | (with_reducible exact LeO.none _)
      | (with_reducible refine LeO.ite ?_ ?_)
      | (with_reducible refine LeO.bind ?_ (fun _ => ?_))
      | exact ih0 _ _ _ _ _ _ _ _ _
      | exact ih1 _ _ _ _ _ _ _
      | exact ih2 _ _ _
      | exact impl_PutReferent.mono _ _ _ _
      | exact laws_eqLocusS.mono _ _ _
      | exact laws_heldLocusS.mono _ _ _
      | exact laws_markLocusS.mono _ _ _
      | exact laws_szLocusS.mono _ _ _
      | exact laws_toLocusS.mono _ _
      | exact spec_PutReferent.mono _ _ _ _
      | exact LeO.none _
      | refine LeO.ite ?_ ?_
      | refine LeO.bind ?_ (fun _ => ?_)
theorem laws_FnExactPutReferent.mono : ∀ a0 a1 a2 k, LeO (laws_FnExactPutReferent.f k a0 a1 a2) (laws_FnExactPutReferent.f (k + 1) a0 a1 a2) := by
  intro a0 a1 a2 k
  obtain ⟨ih0, ih1, ih2⟩ := laws_FnExactPutReferent.mono_l k
  unfold laws_FnExactPutReferent.f
  repeat' first
      | (with_reducible exact ih0 _ _ _ _ _ _ _ _ _)
      | (with_reducible exact ih1 _ _ _ _ _ _ _)
      | (with_reducible exact ih2 _ _ _)
      | (with_reducible exact impl_PutReferent.mono _ _ _ _)
      | (with_reducible exact laws_eqLocusS.mono _ _ _)
      | (with_reducible exact laws_heldLocusS.mono _ _ _)
      | (with_reducible exact laws_markLocusS.mono _ _ _)
      | (with_reducible exact laws_szLocusS.mono _ _ _)
      | (with_reducible exact laws_toLocusS.mono _ _)
      | (with_reducible exact spec_PutReferent.mono _ _ _ _)
      | (with_reducible exact LeO.refl _)
      | (with_reducible exact LeO.none _)
      | (with_reducible refine LeO.ite ?_ ?_)
      | (with_reducible refine LeO.bind ?_ (fun _ => ?_))
      | exact ih0 _ _ _ _ _ _ _ _ _
      | exact ih1 _ _ _ _ _ _ _
      | exact ih2 _ _ _
      | exact impl_PutReferent.mono _ _ _ _
      | exact laws_eqLocusS.mono _ _ _
      | exact laws_heldLocusS.mono _ _ _
      | exact laws_markLocusS.mono _ _ _
      | exact laws_szLocusS.mono _ _ _
      | exact laws_toLocusS.mono _ _
      | exact spec_PutReferent.mono _ _ _ _
      | exact LeO.none _
      | refine LeO.ite ?_ ?_
      | refine LeO.bind ?_ (fun _ => ?_)
noncomputable def laws_FnExactPutReferent.J0 (x0 : List (S62)) (x1 : ByteArray) (x2 : Int) (x8 : List (S55)) (x9 : Bool) (x10 : List (S55)) (x11 : List (S55)) (x12 : Bool) (x51 : Bool) : Option (Bool) := lim fun k => laws_FnExactPutReferent.j0 k x0 x1 x2 x8 x9 x10 x11 x12 x51
theorem laws_FnExactPutReferent.J0_lim (x0 : List (S62)) (x1 : ByteArray) (x2 : Int) (x8 : List (S55)) (x9 : Bool) (x10 : List (S55)) (x11 : List (S55)) (x12 : Bool) (x51 : Bool) : Lim (fun k => laws_FnExactPutReferent.j0 k x0 x1 x2 x8 x9 x10 x11 x12 x51) (laws_FnExactPutReferent.J0 x0 x1 x2 x8 x9 x10 x11 x12 x51) := ⟨fun k => (laws_FnExactPutReferent.mono_l k).1 x0 x1 x2 x8 x9 x10 x11 x12 x51, rfl⟩
noncomputable def laws_FnExactPutReferent.J1 (x0 : List (S62)) (x1 : ByteArray) (x2 : Int) (x8 : List (S55)) (x9 : Bool) (x11 : List (S55)) (x72 : Bool) : Option (Bool) := lim fun k => laws_FnExactPutReferent.j1 k x0 x1 x2 x8 x9 x11 x72
theorem laws_FnExactPutReferent.J1_lim (x0 : List (S62)) (x1 : ByteArray) (x2 : Int) (x8 : List (S55)) (x9 : Bool) (x11 : List (S55)) (x72 : Bool) : Lim (fun k => laws_FnExactPutReferent.j1 k x0 x1 x2 x8 x9 x11 x72) (laws_FnExactPutReferent.J1 x0 x1 x2 x8 x9 x11 x72) := ⟨fun k => (laws_FnExactPutReferent.mono_l k).2.1 x0 x1 x2 x8 x9 x11 x72, rfl⟩
noncomputable def laws_FnExactPutReferent.J2 (x11 : List (S55)) (x14 : Int) (x100 : Bool) : Option (Bool) := lim fun k => laws_FnExactPutReferent.j2 k x11 x14 x100
theorem laws_FnExactPutReferent.J2_lim (x11 : List (S55)) (x14 : Int) (x100 : Bool) : Lim (fun k => laws_FnExactPutReferent.j2 k x11 x14 x100) (laws_FnExactPutReferent.J2 x11 x14 x100) := ⟨fun k => (laws_FnExactPutReferent.mono_l k).2.2 x11 x14 x100, rfl⟩
noncomputable def laws_FnExactPutReferent.F (l0 : List (S62)) (a1 : ByteArray) (a2 : Int) : Option (Bool) := lim fun k => laws_FnExactPutReferent.f k l0 a1 a2
theorem laws_FnExactPutReferent.F_lim (l0 : List (S62)) (a1 : ByteArray) (a2 : Int) : Lim (fun k => laws_FnExactPutReferent.f k l0 a1 a2) (laws_FnExactPutReferent.F l0 a1 a2) := ⟨laws_FnExactPutReferent.mono l0 a1 a2, rfl⟩
theorem laws_FnExactPutReferent.J0_eq (x0 : List (S62)) (x1 : ByteArray) (x2 : Int) (x8 : List (S55)) (x9 : Bool) (x10 : List (S55)) (x11 : List (S55)) (x12 : Bool) (x51 : Bool) : laws_FnExactPutReferent.J0 x0 x1 x2 x8 x9 x10 x11 x12 x51 = (if x51 = true then (some false) else ((laws_toLocusS.F x0).bind fun t294 => ((laws_eqLocusS.F x10 t294).bind fun t297 => (if t297 = true then ((laws_markLocusS.F x10 1).bind fun bt298 => (if bt298.1 < 0 then (laws_FnExactPutReferent.J1 x0 x1 x2 x8 x9 x11 true) else ((laws_eqLocusS.F x11 x8).bind fun t300 => (if t300 = true then (laws_FnExactPutReferent.J1 x0 x1 x2 x8 x9 x11 (x12 != x9)) else (laws_FnExactPutReferent.J1 x0 x1 x2 x8 x9 x11 true))))) else (some false))))) := by
  refine Lim.succ_eq (laws_FnExactPutReferent.J0_lim x0 x1 x2 x8 x9 x10 x11 x12 x51).mon ?_
  simp only [laws_FnExactPutReferent.j0]
  repeat' first
  | (with_reducible exact laws_FnExactPutReferent.J0_lim _ _ _ _ _ _ _ _ _)
  | (with_reducible exact laws_FnExactPutReferent.J1_lim _ _ _ _ _ _ _)
  | (with_reducible exact laws_FnExactPutReferent.J2_lim _ _ _)
  | (with_reducible exact impl_PutReferent.F_lim _ _ _)
  | (with_reducible exact laws_eqLocusS.F_lim _ _)
  | (with_reducible exact laws_heldLocusS.F_lim _ _)
  | (with_reducible exact laws_markLocusS.F_lim _ _)
  | (with_reducible exact laws_szLocusS.F_lim _ _)
  | (with_reducible exact laws_toLocusS.F_lim _)
  | (with_reducible exact spec_PutReferent.F_lim _ _ _)
  | (with_reducible refine Lim.ite ?_ ?_)
  | (with_reducible refine Lim.bind ?_ (fun _ => ?_))
  | (with_reducible exact Lim.const _)
theorem laws_FnExactPutReferent.J1_eq (x0 : List (S62)) (x1 : ByteArray) (x2 : Int) (x8 : List (S55)) (x9 : Bool) (x11 : List (S55)) (x72 : Bool) : laws_FnExactPutReferent.J1 x0 x1 x2 x8 x9 x11 x72 = (if x72 = true then (some false) else ((laws_markLocusS.F x11 1).bind fun bt301 => ((laws_heldLocusS.F bt301.2 1).bind fun t303 => (if t303 < 0 then (some false) else (if t303 = bt301.1 then ((laws_toLocusS.F x0).bind fun t304 => ((impl_PutReferent.F t304 x1 x2).bind fun bt307 => ((laws_eqLocusS.F bt307.1 x8).bind fun t311 => (if t311 = true then (laws_FnExactPutReferent.J2 bt301.2 bt301.1 (bt307.2 != x9)) else (laws_FnExactPutReferent.J2 bt301.2 bt301.1 true))))) else (some false)))))) := by
  refine Lim.succ_eq (laws_FnExactPutReferent.J1_lim x0 x1 x2 x8 x9 x11 x72).mon ?_
  simp only [laws_FnExactPutReferent.j1]
  repeat' first
  | (with_reducible exact laws_FnExactPutReferent.J0_lim _ _ _ _ _ _ _ _ _)
  | (with_reducible exact laws_FnExactPutReferent.J1_lim _ _ _ _ _ _ _)
  | (with_reducible exact laws_FnExactPutReferent.J2_lim _ _ _)
  | (with_reducible exact impl_PutReferent.F_lim _ _ _)
  | (with_reducible exact laws_eqLocusS.F_lim _ _)
  | (with_reducible exact laws_heldLocusS.F_lim _ _)
  | (with_reducible exact laws_markLocusS.F_lim _ _)
  | (with_reducible exact laws_szLocusS.F_lim _ _)
  | (with_reducible exact laws_toLocusS.F_lim _)
  | (with_reducible exact spec_PutReferent.F_lim _ _ _)
  | (with_reducible refine Lim.ite ?_ ?_)
  | (with_reducible refine Lim.bind ?_ (fun _ => ?_))
  | (with_reducible exact Lim.const _)
theorem laws_FnExactPutReferent.J2_eq (x11 : List (S55)) (x14 : Int) (x100 : Bool) : laws_FnExactPutReferent.J2 x11 x14 x100 = (if x100 = true then (some false) else ((laws_heldLocusS.F x11 1).bind fun t312 => (if t312 < 0 then (some false) else (if t312 = x14 then (some true) else (some false))))) := by
  refine Lim.succ_eq (laws_FnExactPutReferent.J2_lim x11 x14 x100).mon ?_
  simp only [laws_FnExactPutReferent.j2]
  repeat' first
  | (with_reducible exact laws_FnExactPutReferent.J0_lim _ _ _ _ _ _ _ _ _)
  | (with_reducible exact laws_FnExactPutReferent.J1_lim _ _ _ _ _ _ _)
  | (with_reducible exact laws_FnExactPutReferent.J2_lim _ _ _)
  | (with_reducible exact impl_PutReferent.F_lim _ _ _)
  | (with_reducible exact laws_eqLocusS.F_lim _ _)
  | (with_reducible exact laws_heldLocusS.F_lim _ _)
  | (with_reducible exact laws_markLocusS.F_lim _ _)
  | (with_reducible exact laws_szLocusS.F_lim _ _)
  | (with_reducible exact laws_toLocusS.F_lim _)
  | (with_reducible exact spec_PutReferent.F_lim _ _ _)
  | (with_reducible refine Lim.ite ?_ ?_)
  | (with_reducible refine Lim.bind ?_ (fun _ => ?_))
  | (with_reducible exact Lim.const _)
theorem laws_FnExactPutReferent.F_eq (l0 : List (S62)) (a1 : ByteArray) (a2 : Int) : laws_FnExactPutReferent.F l0 a1 a2 = (if (a1.size : Int) > 1048576 then (some true) else ((laws_szLocusS.F l0 1048576).bind fun t278 => (if t278 < 0 then (some true) else ((laws_toLocusS.F l0).bind fun t279 => ((spec_PutReferent.F t279 a1 a2).bind fun bt282 => ((laws_toLocusS.F l0).bind fun t286 => ((impl_PutReferent.F t286 a1 a2).bind fun bt289 => ((laws_eqLocusS.F bt289.1 bt282.1).bind fun t293 => (if t293 = true then (laws_FnExactPutReferent.J0 l0 a1 a2 bt282.1 bt282.2 t286 bt289.1 bt289.2 (bt289.2 != bt282.2)) else (laws_FnExactPutReferent.J0 l0 a1 a2 bt282.1 bt282.2 t286 bt289.1 bt289.2 true)))))))))) := by
  refine Lim.eq_ ?_
  simp only [laws_FnExactPutReferent.f]
  repeat' first
  | (with_reducible exact laws_FnExactPutReferent.J0_lim _ _ _ _ _ _ _ _ _)
  | (with_reducible exact laws_FnExactPutReferent.J1_lim _ _ _ _ _ _ _)
  | (with_reducible exact laws_FnExactPutReferent.J2_lim _ _ _)
  | (with_reducible exact impl_PutReferent.F_lim _ _ _)
  | (with_reducible exact laws_eqLocusS.F_lim _ _)
  | (with_reducible exact laws_heldLocusS.F_lim _ _)
  | (with_reducible exact laws_markLocusS.F_lim _ _)
  | (with_reducible exact laws_szLocusS.F_lim _ _)
  | (with_reducible exact laws_toLocusS.F_lim _)
  | (with_reducible exact spec_PutReferent.F_lim _ _ _)
  | (with_reducible refine Lim.ite ?_ ?_)
  | (with_reducible refine Lim.bind ?_ (fun _ => ?_))
  | (with_reducible exact Lim.const _)
def Wf62 (x : S62) : Prop := x.f0.size ≤ 9223372036854775807 ∧ (Lit.int .i64 x.f1).wf = true
def laws_FnExactPutReferent.Pure : Prop := ∀ (l0 : List (S62)) (a1 : ByteArray) (a2 : Int), (l0.length ≤ 9223372036854775807 ∧ ∀ x ∈ l0, Wf62 x) → (a1.size ≤ 9223372036854775807) → ((Lit.int .i64 a2).wf = true) → ∃ k, laws_FnExactPutReferent.f k l0 a1 a2 = some true
end Go.Proofs.Ytbheajjagkdjmaa.PFnExactPutReferent
