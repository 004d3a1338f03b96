/- Written by a program of this claim's author, out of the loaded program as Lean prints it: the functions as Lean functions, and that the calls answer so. -/
import Derived.Test.YtbheajjagkdjmaaDoorPFnExactLociTextx0
namespace Go.Proofs.YtbheajjagkdjmaaDoor.PFnExactLociText
open Go.RowKit Go.Proofs.YtbheajjagkdjmaaDoorW.PrintWords Go.Proofs.YtbheajjagkdjmaaDoorW.PrintLast Go.Proofs.YtbheajjagkdjmaaDoorW.PrintMore
attribute [local go_sem] max2_int min2_int max_two min_two max_three min_three max_four min_four   -- for this text's walks alone
set_option linter.unusedVariables false
set_option linter.unusedSimpArgs false

def laws_szLocus.f (a0_0 : ByteArray) (a0_1 : Int) (a1 : Int) : Option (Int) := if (wrap64 (a1 - (a0_0.size : Int))) < 0 then (some (-1)) else (some (wrap64 (a1 - (a0_0.size : Int))))
def laws_szLocusS.l0 : Nat → List (S55) → Int → Int → Option (Int)
  | 0, _, _, _ => none
  | k + 1, x0, x1, x5 => if x5 < (x0.length : Int) then (if 0 ≤ x5 then ((laws_szLocus.f ((rd_T55 x0 x5).f0) ((rd_T55 x0 x5).f1) x1).bind fun t103 => (if t103 < 0 then (some (-1)) else (laws_szLocusS.l0 k x0 t103 (wrap64 (x5 + 1))))) else (none)) else (some x1)
def laws_szLocusS.f (k : Nat) (l0 : List (S55)) (a1 : Int) : Option (Int) := if (wrap64 (a1 - (l0.length : Int))) < 0 then (some (-1)) else (laws_szLocusS.l0 k l0 (wrap64 (a1 - (l0.length : Int))) 0)
theorem laws_szLocusS.mono_l : ∀ k, (∀ y0 y1 y2, LeO (laws_szLocusS.l0 k y0 y1 y2) (laws_szLocusS.l0 (k + 1) y0 y1 y2))
  | 0 => fun _ _ _ r h => by simp [laws_szLocusS.l0] at h
  | k + 1 => by
    have ih0 := laws_szLocusS.mono_l k
    · intro y0 y1 y2
      unfold laws_szLocusS.l0
      repeat' first
      | (with_reducible exact ih0 _ _ _)
      | (with_reducible exact LeO.refl _)
      | (with_reducible exact LeO.none _)
      | (with_reducible refine LeO.ite ?_ ?_)
      | (with_reducible refine LeO.bind ?_ (fun _ => ?_))
      | exact ih0 _ _ _
      | exact LeO.none _
      | refine LeO.ite ?_ ?_
      | refine LeO.bind ?_ (fun _ => ?_)
theorem laws_szLocusS.mono : ∀ a0 a1 k, LeO (laws_szLocusS.f k a0 a1) (laws_szLocusS.f (k + 1) a0 a1) := by
  intro a0 a1 k
  have ih0 := laws_szLocusS.mono_l k
  unfold laws_szLocusS.f
  repeat' first
      | (with_reducible exact ih0 _ _ _)
      | (with_reducible exact LeO.refl _)
      | (with_reducible exact LeO.none _)
      | (with_reducible refine LeO.ite ?_ ?_)
      | (with_reducible refine LeO.bind ?_ (fun _ => ?_))
      | exact ih0 _ _ _
      | exact LeO.none _
      | refine LeO.ite ?_ ?_
      | refine LeO.bind ?_ (fun _ => ?_)
noncomputable def laws_szLocusS.L0 (x0 : List (S55)) (x1 : Int) (x5 : Int) : Option (Int) := lim fun k => laws_szLocusS.l0 k x0 x1 x5
theorem laws_szLocusS.L0_lim (x0 : List (S55)) (x1 : Int) (x5 : Int) : Lim (fun k => laws_szLocusS.l0 k x0 x1 x5) (laws_szLocusS.L0 x0 x1 x5) := ⟨fun k => (laws_szLocusS.mono_l k) x0 x1 x5, rfl⟩
noncomputable def laws_szLocusS.F (l0 : List (S55)) (a1 : Int) : Option (Int) := lim fun k => laws_szLocusS.f k l0 a1
theorem laws_szLocusS.F_lim (l0 : List (S55)) (a1 : Int) : Lim (fun k => laws_szLocusS.f k l0 a1) (laws_szLocusS.F l0 a1) := ⟨laws_szLocusS.mono l0 a1, rfl⟩
theorem laws_szLocusS.L0_eq (x0 : List (S55)) (x1 : Int) (x5 : Int) : laws_szLocusS.L0 x0 x1 x5 = (if x5 < (x0.length : Int) then (if 0 ≤ x5 then ((laws_szLocus.f ((rd_T55 x0 x5).f0) ((rd_T55 x0 x5).f1) x1).bind fun t103 => (if t103 < 0 then (some (-1)) else (laws_szLocusS.L0 x0 t103 (wrap64 (x5 + 1))))) else (none)) else (some x1)) := by
  refine Lim.succ_eq (laws_szLocusS.L0_lim x0 x1 x5).mon ?_
  simp only [laws_szLocusS.l0]
  repeat' first
  | (with_reducible exact laws_szLocusS.L0_lim _ _ _)
  | (with_reducible refine Lim.ite ?_ ?_)
  | (with_reducible refine Lim.bind ?_ (fun _ => ?_))
  | (with_reducible exact Lim.const _)
theorem laws_szLocusS.F_eq (l0 : List (S55)) (a1 : Int) : laws_szLocusS.F l0 a1 = (if (wrap64 (a1 - (l0.length : Int))) < 0 then (some (-1)) else (laws_szLocusS.L0 l0 (wrap64 (a1 - (l0.length : Int))) 0)) := by
  refine Lim.eq_ ?_
  simp only [laws_szLocusS.f]
  repeat' first
  | (with_reducible exact laws_szLocusS.L0_lim _ _ _)
  | (with_reducible refine Lim.ite ?_ ?_)
  | (with_reducible refine Lim.bind ?_ (fun _ => ?_))
  | (with_reducible exact Lim.const _)
def spec_l1In.f (a0 : Int) (a1 : Int) (a2 : Int) : Option (Bool) := if a0 ≥ a1 then (some (decide (a0 ≤ a2))) else (some false)
def spec_loAngle.f (a0 : Int) : Option (Bool) := (spec_l1In.f a0 (-90) 90).bind fun t104 => (some t104)
def spec_naName.l0 : Nat → ByteArray → Int → Option (Bool)
  | 0, _, _ => none
  | k + 1, x0, x3 => if x3 < (x0.size : Int) then (if 0 ≤ x3 then (if (bt x0 x3) < 97 then (some false) else (if (bt x0 x3) > 122 then (some false) else (spec_naName.l0 k x0 (wrap64 (x3 + 1))))) else (none)) else ((spec_l1In.f (x0.size : Int) 1 8).bind fun t105 => (some t105))
def spec_naName.f (k : Nat) (a0 : ByteArray) : Option (Bool) := spec_naName.l0 k a0 0
theorem spec_naName.mono_l : ∀ k, (∀ y0 y1, LeO (spec_naName.l0 k y0 y1) (spec_naName.l0 (k + 1) y0 y1))
  | 0 => fun _ _ r h => by simp [spec_naName.l0] at h
  | k + 1 => by
    have ih0 := spec_naName.mono_l k
    · intro y0 y1
      unfold spec_naName.l0
      repeat' first
      | (with_reducible exact ih0 _ _)
      | (with_reducible exact LeO.refl _)
      | (with_reducible exact LeO.none _)
      | (with_reducible refine LeO.ite ?_ ?_)
      | (with_reducible refine LeO.bind ?_ (fun _ => ?_))
      | exact ih0 _ _
      | exact LeO.none _
      | refine LeO.ite ?_ ?_
      | refine LeO.bind ?_ (fun _ => ?_)
theorem spec_naName.mono : ∀ a0 k, LeO (spec_naName.f k a0) (spec_naName.f (k + 1) a0) := by
  intro a0 k
  have ih0 := spec_naName.mono_l k
  unfold spec_naName.f
  repeat' first
      | (with_reducible exact ih0 _ _)
      | (with_reducible exact LeO.refl _)
      | (with_reducible exact LeO.none _)
      | (with_reducible refine LeO.ite ?_ ?_)
      | (with_reducible refine LeO.bind ?_ (fun _ => ?_))
      | exact ih0 _ _
      | exact LeO.none _
      | refine LeO.ite ?_ ?_
      | refine LeO.bind ?_ (fun _ => ?_)
noncomputable def spec_naName.L0 (x0 : ByteArray) (x3 : Int) : Option (Bool) := lim fun k => spec_naName.l0 k x0 x3
theorem spec_naName.L0_lim (x0 : ByteArray) (x3 : Int) : Lim (fun k => spec_naName.l0 k x0 x3) (spec_naName.L0 x0 x3) := ⟨fun k => (spec_naName.mono_l k) x0 x3, rfl⟩
noncomputable def spec_naName.F (a0 : ByteArray) : Option (Bool) := lim fun k => spec_naName.f k a0
theorem spec_naName.F_lim (a0 : ByteArray) : Lim (fun k => spec_naName.f k a0) (spec_naName.F a0) := ⟨spec_naName.mono a0, rfl⟩
theorem spec_naName.L0_eq (x0 : ByteArray) (x3 : Int) : spec_naName.L0 x0 x3 = (if x3 < (x0.size : Int) then (if 0 ≤ x3 then (if (bt x0 x3) < 97 then (some false) else (if (bt x0 x3) > 122 then (some false) else (spec_naName.L0 x0 (wrap64 (x3 + 1))))) else (none)) else ((spec_l1In.f (x0.size : Int) 1 8).bind fun t105 => (some t105))) := by
  refine Lim.succ_eq (spec_naName.L0_lim x0 x3).mon ?_
  simp only [spec_naName.l0]
  repeat' first
  | (with_reducible exact spec_naName.L0_lim _ _)
  | (with_reducible refine Lim.ite ?_ ?_)
  | (with_reducible refine Lim.bind ?_ (fun _ => ?_))
  | (with_reducible exact Lim.const _)
theorem spec_naName.F_eq (a0 : ByteArray) : spec_naName.F a0 = (spec_naName.L0 a0 0) := by
  refine Lim.eq_ ?_
  simp only [spec_naName.f]
  repeat' first
  | (with_reducible exact spec_naName.L0_lim _ _)
  | (with_reducible refine Lim.ite ?_ ?_)
  | (with_reducible refine Lim.bind ?_ (fun _ => ?_))
  | (with_reducible exact Lim.const _)
def spec_loFind.l0 : Nat → ByteArray → List (S58) → Int → Int → Option (Int)
  | 0, _, _, _, _ => none
  | k + 1, x1, x7, x8, x9 => if x9 < x8 then (if 0 ≤ x9 then (if x9 < (x7.length : Int) then (if ((rd_T58 x7 x9).f0).toList = x1.toList then (some x9) else (spec_loFind.l0 k x1 x7 x8 (wrap64 (x9 + 1)))) else (none)) else (none)) else (some (-1))
def spec_loFind.f (k : Nat) (l0 : List (S58)) (a1 : ByteArray) : Option (Int) := spec_loFind.l0 k a1 l0 (l0.length : Int) 0
theorem spec_loFind.mono_l : ∀ k, (∀ y0 y1 y2 y3, LeO (spec_loFind.l0 k y0 y1 y2 y3) (spec_loFind.l0 (k + 1) y0 y1 y2 y3))
  | 0 => fun _ _ _ _ r h => by simp [spec_loFind.l0] at h
  | k + 1 => by
    have ih0 := spec_loFind.mono_l k
    · intro y0 y1 y2 y3
      unfold spec_loFind.l0
      repeat' first
      | (with_reducible exact ih0 _ _ _ _)
      | (with_reducible exact LeO.refl _)
      | (with_reducible exact LeO.none _)
      | (with_reducible refine LeO.ite ?_ ?_)
      | (with_reducible refine LeO.bind ?_ (fun _ => ?_))
      | exact ih0 _ _ _ _
      | exact LeO.none _
      | refine LeO.ite ?_ ?_
      | refine LeO.bind ?_ (fun _ => ?_)
theorem spec_loFind.mono : ∀ a0 a1 k, LeO (spec_loFind.f k a0 a1) (spec_loFind.f (k + 1) a0 a1) := by
  intro a0 a1 k
  have ih0 := spec_loFind.mono_l k
  unfold spec_loFind.f
  repeat' first
      | (with_reducible exact ih0 _ _ _ _)
      | (with_reducible exact LeO.refl _)
      | (with_reducible exact LeO.none _)
      | (with_reducible refine LeO.ite ?_ ?_)
      | (with_reducible refine LeO.bind ?_ (fun _ => ?_))
      | exact ih0 _ _ _ _
      | exact LeO.none _
      | refine LeO.ite ?_ ?_
      | refine LeO.bind ?_ (fun _ => ?_)
noncomputable def spec_loFind.L0 (x1 : ByteArray) (x7 : List (S58)) (x8 : Int) (x9 : Int) : Option (Int) := lim fun k => spec_loFind.l0 k x1 x7 x8 x9
theorem spec_loFind.L0_lim (x1 : ByteArray) (x7 : List (S58)) (x8 : Int) (x9 : Int) : Lim (fun k => spec_loFind.l0 k x1 x7 x8 x9) (spec_loFind.L0 x1 x7 x8 x9) := ⟨fun k => (spec_loFind.mono_l k) x1 x7 x8 x9, rfl⟩
noncomputable def spec_loFind.F (l0 : List (S58)) (a1 : ByteArray) : Option (Int) := lim fun k => spec_loFind.f k l0 a1
theorem spec_loFind.F_lim (l0 : List (S58)) (a1 : ByteArray) : Lim (fun k => spec_loFind.f k l0 a1) (spec_loFind.F l0 a1) := ⟨spec_loFind.mono l0 a1, rfl⟩
theorem spec_loFind.L0_eq (x1 : ByteArray) (x7 : List (S58)) (x8 : Int) (x9 : Int) : spec_loFind.L0 x1 x7 x8 x9 = (if x9 < x8 then (if 0 ≤ x9 then (if x9 < (x7.length : Int) then (if ((rd_T58 x7 x9).f0).toList = x1.toList then (some x9) else (spec_loFind.L0 x1 x7 x8 (wrap64 (x9 + 1)))) else (none)) else (none)) else (some (-1))) := by
  refine Lim.succ_eq (spec_loFind.L0_lim x1 x7 x8 x9).mon ?_
  simp only [spec_loFind.l0]
  repeat' first
  | (with_reducible exact spec_loFind.L0_lim _ _ _ _)
  | (with_reducible refine Lim.ite ?_ ?_)
  | (with_reducible refine Lim.bind ?_ (fun _ => ?_))
  | (with_reducible exact Lim.const _)
theorem spec_loFind.F_eq (l0 : List (S58)) (a1 : ByteArray) : spec_loFind.F l0 a1 = (spec_loFind.L0 a1 l0 (l0.length : Int) 0) := by
  refine Lim.eq_ ?_
  simp only [spec_loFind.f]
  repeat' first
  | (with_reducible exact spec_loFind.L0_lim _ _ _ _)
  | (with_reducible refine Lim.ite ?_ ?_)
  | (with_reducible refine Lim.bind ?_ (fun _ => ?_))
  | (with_reducible exact Lim.const _)
def spec_loGood.l0 : Nat → List (S58) → List (S58) → Int → Int → Option (Bool)
  | 0, _, _, _, _ => none
  | k + 1, x0, x5, x6, x7 => if x7 < x6 then (if 0 ≤ x7 then (if x7 < (x5.length : Int) then ((spec_naName.f k ((rd_T58 x5 x7).f0)).bind fun t110 => (if t110 = true then ((spec_loAngle.f ((rd_T58 x5 x7).f1)).bind fun t111 => (if t111 = true then (if x7 > 0 then (if 0 ≤ (wrap64 (x7 - 1)) then (if (wrap64 (x7 - 1)) < (x0.length : Int) then (if ((rd_T58 x0 (wrap64 (x7 - 1))).f1) ≥ ((rd_T58 x5 x7).f1) then (some false) else (if x7 ≤ (x0.length : Int) then ((spec_loFind.f k (x0.take (x7 : Int).toNat) ((rd_T58 x5 x7).f0)).bind fun t117 => (if t117 ≥ 0 then (some false) else (spec_loGood.l0 k x0 x5 x6 (wrap64 (x7 + 1))))) else (none))) else (none)) else (none)) else (if x7 ≤ (x0.length : Int) then ((spec_loFind.f k (x0.take (x7 : Int).toNat) ((rd_T58 x5 x7).f0)).bind fun t122 => (if t122 ≥ 0 then (some false) else (spec_loGood.l0 k x0 x5 x6 (wrap64 (x7 + 1))))) else (none))) else (some false))) else (some false))) else (none)) else (none)) else (some (decide ((x0.length : Int) ≤ 8)))
def spec_loGood.f (k : Nat) (l0 : List (S58)) : Option (Bool) := spec_loGood.l0 k l0 l0 (l0.length : Int) 0
theorem spec_loGood.mono_l : ∀ k, (∀ y0 y1 y2 y3, LeO (spec_loGood.l0 k y0 y1 y2 y3) (spec_loGood.l0 (k + 1) y0 y1 y2 y3))
  | 0 => fun _ _ _ _ r h => by simp [spec_loGood.l0] at h
  | k + 1 => by
    have ih0 := spec_loGood.mono_l k
    · intro y0 y1 y2 y3
      unfold spec_loGood.l0
      repeat' first
      | (with_reducible exact ih0 _ _ _ _)
      | (with_reducible exact spec_loFind.mono _ _ _)
      | (with_reducible exact spec_naName.mono _ _)
      | (with_reducible exact LeO.refl _)
      | (with_reducible exact LeO.none _)
      | (with_reducible refine LeO.ite ?_ ?_)
      | (with_reducible refine LeO.bind ?_ (fun _ => ?_))
      | exact ih0 _ _ _ _
      | exact spec_loFind.mono _ _ _
      | exact spec_naName.mono _ _
      | exact LeO.none _
      | refine LeO.ite ?_ ?_
      | refine LeO.bind ?_ (fun _ => ?_)
theorem spec_loGood.mono : ∀ a0 k, LeO (spec_loGood.f k a0) (spec_loGood.f (k + 1) a0) := by
  intro a0 k
  have ih0 := spec_loGood.mono_l k
  unfold spec_loGood.f
  repeat' first
      | (with_reducible exact ih0 _ _ _ _)
      | (with_reducible exact spec_loFind.mono _ _ _)
      | (with_reducible exact spec_naName.mono _ _)
      | (with_reducible exact LeO.refl _)
      | (with_reducible exact LeO.none _)
      | (with_reducible refine LeO.ite ?_ ?_)
      | (with_reducible refine LeO.bind ?_ (fun _ => ?_))
      | exact ih0 _ _ _ _
      | exact spec_loFind.mono _ _ _
      | exact spec_naName.mono _ _
      | exact LeO.none _
      | refine LeO.ite ?_ ?_
      | refine LeO.bind ?_ (fun _ => ?_)
noncomputable def spec_loGood.L0 (x0 : List (S58)) (x5 : List (S58)) (x6 : Int) (x7 : Int) : Option (Bool) := lim fun k => spec_loGood.l0 k x0 x5 x6 x7
theorem spec_loGood.L0_lim (x0 : List (S58)) (x5 : List (S58)) (x6 : Int) (x7 : Int) : Lim (fun k => spec_loGood.l0 k x0 x5 x6 x7) (spec_loGood.L0 x0 x5 x6 x7) := ⟨fun k => (spec_loGood.mono_l k) x0 x5 x6 x7, rfl⟩
noncomputable def spec_loGood.F (l0 : List (S58)) : Option (Bool) := lim fun k => spec_loGood.f k l0
theorem spec_loGood.F_lim (l0 : List (S58)) : Lim (fun k => spec_loGood.f k l0) (spec_loGood.F l0) := ⟨spec_loGood.mono l0, rfl⟩
theorem spec_loGood.L0_eq (x0 : List (S58)) (x5 : List (S58)) (x6 : Int) (x7 : Int) : spec_loGood.L0 x0 x5 x6 x7 = (if x7 < x6 then (if 0 ≤ x7 then (if x7 < (x5.length : Int) then ((spec_naName.F ((rd_T58 x5 x7).f0)).bind fun t110 => (if t110 = true then ((spec_loAngle.f ((rd_T58 x5 x7).f1)).bind fun t111 => (if t111 = true then (if x7 > 0 then (if 0 ≤ (wrap64 (x7 - 1)) then (if (wrap64 (x7 - 1)) < (x0.length : Int) then (if ((rd_T58 x0 (wrap64 (x7 - 1))).f1) ≥ ((rd_T58 x5 x7).f1) then (some false) else (if x7 ≤ (x0.length : Int) then ((spec_loFind.F (x0.take (x7 : Int).toNat) ((rd_T58 x5 x7).f0)).bind fun t117 => (if t117 ≥ 0 then (some false) else (spec_loGood.L0 x0 x5 x6 (wrap64 (x7 + 1))))) else (none))) else (none)) else (none)) else (if x7 ≤ (x0.length : Int) then ((spec_loFind.F (x0.take (x7 : Int).toNat) ((rd_T58 x5 x7).f0)).bind fun t122 => (if t122 ≥ 0 then (some false) else (spec_loGood.L0 x0 x5 x6 (wrap64 (x7 + 1))))) else (none))) else (some false))) else (some false))) else (none)) else (none)) else (some (decide ((x0.length : Int) ≤ 8)))) := by
  refine Lim.succ_eq (spec_loGood.L0_lim x0 x5 x6 x7).mon ?_
  simp only [spec_loGood.l0]
  repeat' first
  | (with_reducible exact spec_loGood.L0_lim _ _ _ _)
  | (with_reducible exact spec_loFind.F_lim _ _)
  | (with_reducible exact spec_naName.F_lim _)
  | (with_reducible refine Lim.ite ?_ ?_)
  | (with_reducible refine Lim.bind ?_ (fun _ => ?_))
  | (with_reducible exact Lim.const _)
theorem spec_loGood.F_eq (l0 : List (S58)) : spec_loGood.F l0 = (spec_loGood.L0 l0 l0 (l0.length : Int) 0) := by
  refine Lim.eq_ ?_
  simp only [spec_loGood.f]
  repeat' first
  | (with_reducible exact spec_loGood.L0_lim _ _ _ _)
  | (with_reducible exact spec_loFind.F_lim _ _)
  | (with_reducible exact spec_naName.F_lim _)
  | (with_reducible refine Lim.ite ?_ ?_)
  | (with_reducible refine Lim.bind ?_ (fun _ => ?_))
  | (with_reducible exact Lim.const _)
def spec_l1Num.f : Nat → Int → Option (ByteArray)
  | 0, _ => none
  | k + 1, a0 => if a0 < 10 then (some (strOfNums (([(wrap64 (48 + a0)) % 256] : List Int)))) else ((spec_l1Num.f k (wrap64 (Int.tdiv a0 10))).bind fun t126 => ((some (([(wrap64 (48 + (Int.tmod a0 10))) % 256] : List Int) : List Int)).bind fun y127 => (if t126.size + (strOfNums y127).size ≤ 9223372036854775807 then (some (t126 ++ (strOfNums y127))) else (none))))
theorem spec_l1Num.mono_l : ∀ k, (∀ y0, LeO (spec_l1Num.f k y0) (spec_l1Num.f (k + 1) y0))
  | 0 => fun _ r h => by simp [spec_l1Num.f] at h
  | k + 1 => by
    have ih0 := spec_l1Num.mono_l k
    · intro y0
      unfold spec_l1Num.f
      repeat' first
      | (with_reducible exact ih0 _)
      | (with_reducible exact LeO.refl _)
      | (with_reducible exact LeO.none _)
      | (with_reducible refine LeO.ite ?_ ?_)
      | (with_reducible refine LeO.bind ?_ (fun _ => ?_))
      | exact ih0 _
      | exact LeO.none _
      | refine LeO.ite ?_ ?_
      | refine LeO.bind ?_ (fun _ => ?_)
theorem spec_l1Num.mono : ∀ a0 k, LeO (spec_l1Num.f k a0) (spec_l1Num.f (k + 1) a0) := by
  intro a0 k
  have ih0 := spec_l1Num.mono_l k
  exact ih0 a0
noncomputable def spec_l1Num.F (a0 : Int) : Option (ByteArray) := lim fun k => spec_l1Num.f k a0
theorem spec_l1Num.F_lim (a0 : Int) : Lim (fun k => spec_l1Num.f k a0) (spec_l1Num.F a0) := ⟨spec_l1Num.mono a0, rfl⟩
theorem spec_l1Num.F_eq (a0 : Int) : spec_l1Num.F a0 = (if a0 < 10 then (some (strOfNums (([(wrap64 (48 + a0)) % 256] : List Int)))) else ((spec_l1Num.F (wrap64 (Int.tdiv a0 10))).bind fun t126 => ((some (([(wrap64 (48 + (Int.tmod a0 10))) % 256] : List Int) : List Int)).bind fun y127 => (if t126.size + (strOfNums y127).size ≤ 9223372036854775807 then (some (t126 ++ (strOfNums y127))) else (none))))) := by
  refine Lim.succ_eq (spec_l1Num.F_lim a0).mon ?_
  simp only [spec_l1Num.f]
  repeat' first
  | (with_reducible exact spec_l1Num.F_lim _)
  | (with_reducible refine Lim.ite ?_ ?_)
  | (with_reducible refine Lim.bind ?_ (fun _ => ?_))
  | (with_reducible exact Lim.const _)
def spec_l1Int.f (k : Nat) (a0 : Int) : Option (ByteArray) := if a0 < 0 then ((spec_l1Num.f k (wrap64 (-a0))).bind fun t130 => (if 1 + t130.size ≤ 9223372036854775807 then (some ((⟨#[45]⟩ : ByteArray) ++ t130)) else (none))) else ((spec_l1Num.f k a0).bind fun t131 => (some t131))
theorem spec_l1Int.mono : ∀ a0 k, LeO (spec_l1Int.f k a0) (spec_l1Int.f (k + 1) a0) := by
  intro a0 k
  unfold spec_l1Int.f
  repeat' first
      | (with_reducible exact spec_l1Num.mono _ _)
      | (with_reducible exact LeO.refl _)
      | (with_reducible exact LeO.none _)
      | (with_reducible refine LeO.ite ?_ ?_)
      | (with_reducible refine LeO.bind ?_ (fun _ => ?_))
      | exact spec_l1Num.mono _ _
      | exact LeO.none _
      | refine LeO.ite ?_ ?_
      | refine LeO.bind ?_ (fun _ => ?_)
noncomputable def spec_l1Int.F (a0 : Int) : Option (ByteArray) := lim fun k => spec_l1Int.f k a0
theorem spec_l1Int.F_lim (a0 : Int) : Lim (fun k => spec_l1Int.f k a0) (spec_l1Int.F a0) := ⟨spec_l1Int.mono a0, rfl⟩
theorem spec_l1Int.F_eq (a0 : Int) : spec_l1Int.F a0 = (if a0 < 0 then ((spec_l1Num.F (wrap64 (-a0))).bind fun t130 => (if 1 + t130.size ≤ 9223372036854775807 then (some ((⟨#[45]⟩ : ByteArray) ++ t130)) else (none))) else ((spec_l1Num.F a0).bind fun t131 => (some t131))) := by
  refine Lim.eq_ ?_
  simp only [spec_l1Int.f]
  repeat' first
  | (with_reducible exact spec_l1Num.F_lim _)
  | (with_reducible refine Lim.ite ?_ ?_)
  | (with_reducible refine Lim.bind ?_ (fun _ => ?_))
  | (with_reducible exact Lim.const _)
def spec_loText.l0 : Nat → ByteArray → List (S58) → Int → Int → Option (ByteArray)
  | 0, _, _, _, _ => none
  | k + 1, x3, x6, x7, x8 => if x8 < x7 then (if 0 ≤ x8 then (if x8 < (x6.length : Int) then (if ((rd_T58 x6 x8).f0).size + 1 ≤ 9223372036854775807 then ((spec_l1Int.f k ((rd_T58 x6 x8).f1)).bind fun t134 => (if (((rd_T58 x6 x8).f0) ++ (⟨#[64]⟩ : ByteArray)).size + t134.size ≤ 9223372036854775807 then (if ((((rd_T58 x6 x8).f0) ++ (⟨#[64]⟩ : ByteArray)) ++ t134).size + 1 ≤ 9223372036854775807 then (if x3.size + (((((rd_T58 x6 x8).f0) ++ (⟨#[64]⟩ : ByteArray)) ++ t134) ++ (⟨#[59]⟩ : ByteArray)).size ≤ 9223372036854775807 then (spec_loText.l0 k (x3 ++ (((((rd_T58 x6 x8).f0) ++ (⟨#[64]⟩ : ByteArray)) ++ t134) ++ (⟨#[59]⟩ : ByteArray))) x6 x7 (wrap64 (x8 + 1))) else (none)) else (none)) else (none))) else (none)) else (none)) else (none)) else (some x3)
def spec_loText.f (k : Nat) (l0 : List (S58)) : Option (ByteArray) := spec_loText.l0 k (⟨#[]⟩ : ByteArray) l0 (l0.length : Int) 0
theorem spec_loText.mono_l : ∀ k, (∀ y0 y1 y2 y3, LeO (spec_loText.l0 k y0 y1 y2 y3) (spec_loText.l0 (k + 1) y0 y1 y2 y3))
  | 0 => fun _ _ _ _ r h => by simp [spec_loText.l0] at h
  | k + 1 => by
    have ih0 := spec_loText.mono_l k
    · intro y0 y1 y2 y3
      unfold spec_loText.l0
      repeat' first
      | (with_reducible exact ih0 _ _ _ _)
      | (with_reducible exact spec_l1Int.mono _ _)
      | (with_reducible exact LeO.refl _)
      | (with_reducible exact LeO.none _)
      | (with_reducible refine LeO.ite ?_ ?_)
      | (with_reducible refine LeO.bind ?_ (fun _ => ?_))
      | exact ih0 _ _ _ _
      | exact spec_l1Int.mono _ _
      | exact LeO.none _
      | refine LeO.ite ?_ ?_
      | refine LeO.bind ?_ (fun _ => ?_)
theorem spec_loText.mono : ∀ a0 k, LeO (spec_loText.f k a0) (spec_loText.f (k + 1) a0) := by
  intro a0 k
  have ih0 := spec_loText.mono_l k
  unfold spec_loText.f
  repeat' first
      | (with_reducible exact ih0 _ _ _ _)
      | (with_reducible exact spec_l1Int.mono _ _)
      | (with_reducible exact LeO.refl _)
      | (with_reducible exact LeO.none _)
      | (with_reducible refine LeO.ite ?_ ?_)
      | (with_reducible refine LeO.bind ?_ (fun _ => ?_))
      | exact ih0 _ _ _ _
      | exact spec_l1Int.mono _ _
      | exact LeO.none _
      | refine LeO.ite ?_ ?_
      | refine LeO.bind ?_ (fun _ => ?_)
noncomputable def spec_loText.L0 (x3 : ByteArray) (x6 : List (S58)) (x7 : Int) (x8 : Int) : Option (ByteArray) := lim fun k => spec_loText.l0 k x3 x6 x7 x8
theorem spec_loText.L0_lim (x3 : ByteArray) (x6 : List (S58)) (x7 : Int) (x8 : Int) : Lim (fun k => spec_loText.l0 k x3 x6 x7 x8) (spec_loText.L0 x3 x6 x7 x8) := ⟨fun k => (spec_loText.mono_l k) x3 x6 x7 x8, rfl⟩
noncomputable def spec_loText.F (l0 : List (S58)) : Option (ByteArray) := lim fun k => spec_loText.f k l0
theorem spec_loText.F_lim (l0 : List (S58)) : Lim (fun k => spec_loText.f k l0) (spec_loText.F l0) := ⟨spec_loText.mono l0, rfl⟩
theorem spec_loText.L0_eq (x3 : ByteArray) (x6 : List (S58)) (x7 : Int) (x8 : Int) : spec_loText.L0 x3 x6 x7 x8 = (if x8 < x7 then (if 0 ≤ x8 then (if x8 < (x6.length : Int) then (if ((rd_T58 x6 x8).f0).size + 1 ≤ 9223372036854775807 then ((spec_l1Int.F ((rd_T58 x6 x8).f1)).bind fun t134 => (if (((rd_T58 x6 x8).f0) ++ (⟨#[64]⟩ : ByteArray)).size + t134.size ≤ 9223372036854775807 then (if ((((rd_T58 x6 x8).f0) ++ (⟨#[64]⟩ : ByteArray)) ++ t134).size + 1 ≤ 9223372036854775807 then (if x3.size + (((((rd_T58 x6 x8).f0) ++ (⟨#[64]⟩ : ByteArray)) ++ t134) ++ (⟨#[59]⟩ : ByteArray)).size ≤ 9223372036854775807 then (spec_loText.L0 (x3 ++ (((((rd_T58 x6 x8).f0) ++ (⟨#[64]⟩ : ByteArray)) ++ t134) ++ (⟨#[59]⟩ : ByteArray))) x6 x7 (wrap64 (x8 + 1))) else (none)) else (none)) else (none))) else (none)) else (none)) else (none)) else (some x3)) := by
  refine Lim.succ_eq (spec_loText.L0_lim x3 x6 x7 x8).mon ?_
  simp only [spec_loText.l0]
  repeat' first
  | (with_reducible exact spec_loText.L0_lim _ _ _ _)
  | (with_reducible exact spec_l1Int.F_lim _)
  | (with_reducible refine Lim.ite ?_ ?_)
  | (with_reducible refine Lim.bind ?_ (fun _ => ?_))
  | (with_reducible exact Lim.const _)
theorem spec_loText.F_eq (l0 : List (S58)) : spec_loText.F l0 = (spec_loText.L0 (⟨#[]⟩ : ByteArray) l0 (l0.length : Int) 0) := by
  refine Lim.eq_ ?_
  simp only [spec_loText.f]
  repeat' first
  | (with_reducible exact spec_loText.L0_lim _ _ _ _)
  | (with_reducible exact spec_l1Int.F_lim _)
  | (with_reducible refine Lim.ite ?_ ?_)
  | (with_reducible refine Lim.bind ?_ (fun _ => ?_))
  | (with_reducible exact Lim.const _)
def spec_LociText.f (k : Nat) (l0 : List (S58)) : Option (ByteArray × Bool) := (spec_loGood.f k l0).bind fun t135 => (if t135 = true then ((spec_loText.f k l0).bind fun t136 => (some (t136, true))) else (some ((⟨#[]⟩ : ByteArray), false)))
theorem spec_LociText.mono : ∀ a0 k, LeO (spec_LociText.f k a0) (spec_LociText.f (k + 1) a0) := by
  intro a0 k
  unfold spec_LociText.f
  repeat' first
      | (with_reducible exact spec_loGood.mono _ _)
      | (with_reducible exact spec_loText.mono _ _)
      | (with_reducible exact LeO.refl _)
      | (with_reducible exact LeO.none _)
      | (with_reducible refine LeO.ite ?_ ?_)
      | (with_reducible refine LeO.bind ?_ (fun _ => ?_))
      | exact spec_loGood.mono _ _
      | exact spec_loText.mono _ _
      | exact LeO.none _
      | refine LeO.ite ?_ ?_
      | refine LeO.bind ?_ (fun _ => ?_)
noncomputable def spec_LociText.F (l0 : List (S58)) : Option (ByteArray × Bool) := lim fun k => spec_LociText.f k l0
theorem spec_LociText.F_lim (l0 : List (S58)) : Lim (fun k => spec_LociText.f k l0) (spec_LociText.F l0) := ⟨spec_LociText.mono l0, rfl⟩
theorem spec_LociText.F_eq (l0 : List (S58)) : spec_LociText.F l0 = ((spec_loGood.F l0).bind fun t135 => (if t135 = true then ((spec_loText.F l0).bind fun t136 => (some (t136, true))) else (some ((⟨#[]⟩ : ByteArray), false)))) := by
  refine Lim.eq_ ?_
  simp only [spec_LociText.f]
  repeat' first
  | (with_reducible exact spec_loGood.F_lim _)
  | (with_reducible exact spec_loText.F_lim _)
  | (with_reducible refine Lim.ite ?_ ?_)
  | (with_reducible refine Lim.bind ?_ (fun _ => ?_))
  | (with_reducible exact Lim.const _)
def laws_toLocus.f (a0_0 : ByteArray) (a0_1 : Int) : Option (ByteArray × Int) := some (a0_0, a0_1)
def laws_toLocusS.l0 : Nat → List (S55) → List (S58) → Int → Option ((List (S58)))
  | 0, _, _, _ => none
  | k + 1, x0, x3, x4 => if x4 < (x0.length : Int) then (if 0 ≤ x4 then ((laws_toLocus.f ((rd_T55 x0 x4).f0) ((rd_T55 x0 x4).f1)).bind fun bt144 => (if x4 < (x3.length : Int) then (laws_toLocusS.l0 k x0 (x3.set (x4 : Int).toNat (⟨bt144.1, bt144.2⟩ : S58)) (wrap64 (x4 + 1))) else (none))) else (none)) else (some x3)
def laws_toLocusS.f (k : Nat) (l0 : List (S55)) : Option ((List (S58))) := if 0 ≤ (l0.length : Int) then (if ((l0.length : Int) : Int).toNat ≤ 11728124029610 then (laws_toLocusS.l0 k l0 (List.replicate ((l0.length : Int) : Int).toNat z58) 0) else (none)) else (none)
theorem laws_toLocusS.mono_l : ∀ k, (∀ y0 y1 y2, LeO (laws_toLocusS.l0 k y0 y1 y2) (laws_toLocusS.l0 (k + 1) y0 y1 y2))
  | 0 => fun _ _ _ r h => by simp [laws_toLocusS.l0] at h
  | k + 1 => by
    have ih0 := laws_toLocusS.mono_l k
    · intro y0 y1 y2
      unfold laws_toLocusS.l0
      repeat' first
      | (with_reducible exact ih0 _ _ _)
      | (with_reducible exact LeO.refl _)
      | (with_reducible exact LeO.none _)
      | (with_reducible refine LeO.ite ?_ ?_)
      | (with_reducible refine LeO.bind ?_ (fun _ => ?_))
      | exact ih0 _ _ _
      | exact LeO.none _
      | refine LeO.ite ?_ ?_
      | refine LeO.bind ?_ (fun _ => ?_)
theorem laws_toLocusS.mono : ∀ a0 k, LeO (laws_toLocusS.f k a0) (laws_toLocusS.f (k + 1) a0) := by
  intro a0 k
  have ih0 := laws_toLocusS.mono_l k
  unfold laws_toLocusS.f
  repeat' first
      | (with_reducible exact ih0 _ _ _)
      | (with_reducible exact LeO.refl _)
      | (with_reducible exact LeO.none _)
      | (with_reducible refine LeO.ite ?_ ?_)
      | (with_reducible refine LeO.bind ?_ (fun _ => ?_))
      | exact ih0 _ _ _
      | exact LeO.none _
      | refine LeO.ite ?_ ?_
      | refine LeO.bind ?_ (fun _ => ?_)
noncomputable def laws_toLocusS.L0 (x0 : List (S55)) (x3 : List (S58)) (x4 : Int) : Option ((List (S58))) := lim fun k => laws_toLocusS.l0 k x0 x3 x4
theorem laws_toLocusS.L0_lim (x0 : List (S55)) (x3 : List (S58)) (x4 : Int) : Lim (fun k => laws_toLocusS.l0 k x0 x3 x4) (laws_toLocusS.L0 x0 x3 x4) := ⟨fun k => (laws_toLocusS.mono_l k) x0 x3 x4, rfl⟩
noncomputable def laws_toLocusS.F (l0 : List (S55)) : Option ((List (S58))) := lim fun k => laws_toLocusS.f k l0
theorem laws_toLocusS.F_lim (l0 : List (S55)) : Lim (fun k => laws_toLocusS.f k l0) (laws_toLocusS.F l0) := ⟨laws_toLocusS.mono l0, rfl⟩
theorem laws_toLocusS.L0_eq (x0 : List (S55)) (x3 : List (S58)) (x4 : Int) : laws_toLocusS.L0 x0 x3 x4 = (if x4 < (x0.length : Int) then (if 0 ≤ x4 then ((laws_toLocus.f ((rd_T55 x0 x4).f0) ((rd_T55 x0 x4).f1)).bind fun bt144 => (if x4 < (x3.length : Int) then (laws_toLocusS.L0 x0 (x3.set (x4 : Int).toNat (⟨bt144.1, bt144.2⟩ : S58)) (wrap64 (x4 + 1))) else (none))) else (none)) else (some x3)) := by
  refine Lim.succ_eq (laws_toLocusS.L0_lim x0 x3 x4).mon ?_
  simp only [laws_toLocusS.l0]
  repeat' first
  | (with_reducible exact laws_toLocusS.L0_lim _ _ _)
  | (with_reducible refine Lim.ite ?_ ?_)
  | (with_reducible refine Lim.bind ?_ (fun _ => ?_))
  | (with_reducible exact Lim.const _)
theorem laws_toLocusS.F_eq (l0 : List (S55)) : laws_toLocusS.F l0 = (if 0 ≤ (l0.length : Int) then (if ((l0.length : Int) : Int).toNat ≤ 11728124029610 then (laws_toLocusS.L0 l0 (List.replicate ((l0.length : Int) : Int).toNat z58) 0) else (none)) else (none)) := by
  refine Lim.eq_ ?_
  simp only [laws_toLocusS.f]
  repeat' first
  | (with_reducible exact laws_toLocusS.L0_lim _ _ _)
  | (with_reducible refine Lim.ite ?_ ?_)
  | (with_reducible refine Lim.bind ?_ (fun _ => ?_))
  | (with_reducible exact Lim.const _)
def impl_within.f (a0 : Int) (a1 : Int) (a2 : Int) : Option (Bool) := if a0 ≥ a1 then (some (decide (a0 ≤ a2))) else (some false)
def impl_isAngle.f (a0 : Int) : Option (Bool) := (impl_within.f a0 (-90) 90).bind fun t147 => (some t147)
def stringslite_IndexByte.f (a0 : ByteArray) (a1 : Int) : Option (Int) := some (Lib.indexByte a0.data.toList a1.toNat.toUInt8)
def strings_IndexByte.f (a0 : ByteArray) (a1 : Int) : Option (Int) := (stringslite_IndexByte.f a0 a1).bind fun t148 => (some t148)
def impl_hasOnly.l0 : Nat → ByteArray → ByteArray → Int → Int → Option (Bool)
  | 0, _, _, _, _ => none
  | k + 1, x0, x1, x7, x8 => if x8 < x7 then (if 0 ≤ x8 then (if x8 < (x0.size : Int) then ((strings_IndexByte.f x1 (bt x0 x8)).bind fun t149 => (if t149 < 0 then (some false) else (impl_hasOnly.l0 k x0 x1 x7 (wrap64 (x8 + 1))))) else (none)) else (none)) else (some true)
def impl_hasOnly.f (k : Nat) (a0 : ByteArray) (a1 : ByteArray) : Option (Bool) := impl_hasOnly.l0 k a0 a1 (a0.size : Int) 0
theorem impl_hasOnly.mono_l : ∀ k, (∀ y0 y1 y2 y3, LeO (impl_hasOnly.l0 k y0 y1 y2 y3) (impl_hasOnly.l0 (k + 1) y0 y1 y2 y3))
  | 0 => fun _ _ _ _ r h => by simp [impl_hasOnly.l0] at h
  | k + 1 => by
    have ih0 := impl_hasOnly.mono_l k
    · intro y0 y1 y2 y3
      unfold impl_hasOnly.l0
      repeat' first
      | (with_reducible exact ih0 _ _ _ _)
      | (with_reducible exact LeO.refl _)
      | (with_reducible exact LeO.none _)
      | (with_reducible refine LeO.ite ?_ ?_)
      | (with_reducible refine LeO.bind ?_ (fun _ => ?_))
      | exact ih0 _ _ _ _
      | exact LeO.none _
      | refine LeO.ite ?_ ?_
      | refine LeO.bind ?_ (fun _ => ?_)
theorem impl_hasOnly.mono : ∀ a0 a1 k, LeO (impl_hasOnly.f k a0 a1) (impl_hasOnly.f (k + 1) a0 a1) := by
  intro a0 a1 k
  have ih0 := impl_hasOnly.mono_l k
  unfold impl_hasOnly.f
  repeat' first
      | (with_reducible exact ih0 _ _ _ _)
      | (with_reducible exact LeO.refl _)
      | (with_reducible exact LeO.none _)
      | (with_reducible refine LeO.ite ?_ ?_)
      | (with_reducible refine LeO.bind ?_ (fun _ => ?_))
      | exact ih0 _ _ _ _
      | exact LeO.none _
      | refine LeO.ite ?_ ?_
      | refine LeO.bind ?_ (fun _ => ?_)
noncomputable def impl_hasOnly.L0 (x0 : ByteArray) (x1 : ByteArray) (x7 : Int) (x8 : Int) : Option (Bool) := lim fun k => impl_hasOnly.l0 k x0 x1 x7 x8
theorem impl_hasOnly.L0_lim (x0 : ByteArray) (x1 : ByteArray) (x7 : Int) (x8 : Int) : Lim (fun k => impl_hasOnly.l0 k x0 x1 x7 x8) (impl_hasOnly.L0 x0 x1 x7 x8) := ⟨fun k => (impl_hasOnly.mono_l k) x0 x1 x7 x8, rfl⟩
noncomputable def impl_hasOnly.F (a0 : ByteArray) (a1 : ByteArray) : Option (Bool) := lim fun k => impl_hasOnly.f k a0 a1
theorem impl_hasOnly.F_lim (a0 : ByteArray) (a1 : ByteArray) : Lim (fun k => impl_hasOnly.f k a0 a1) (impl_hasOnly.F a0 a1) := ⟨impl_hasOnly.mono a0 a1, rfl⟩
theorem impl_hasOnly.L0_eq (x0 : ByteArray) (x1 : ByteArray) (x7 : Int) (x8 : Int) : impl_hasOnly.L0 x0 x1 x7 x8 = (if x8 < x7 then (if 0 ≤ x8 then (if x8 < (x0.size : Int) then ((strings_IndexByte.f x1 (bt x0 x8)).bind fun t149 => (if t149 < 0 then (some false) else (impl_hasOnly.L0 x0 x1 x7 (wrap64 (x8 + 1))))) else (none)) else (none)) else (some true)) := by
  refine Lim.succ_eq (impl_hasOnly.L0_lim x0 x1 x7 x8).mon ?_
  simp only [impl_hasOnly.l0]
  repeat' first
  | (with_reducible exact impl_hasOnly.L0_lim _ _ _ _)
  | (with_reducible refine Lim.ite ?_ ?_)
  | (with_reducible refine Lim.bind ?_ (fun _ => ?_))
  | (with_reducible exact Lim.const _)
theorem impl_hasOnly.F_eq (a0 : ByteArray) (a1 : ByteArray) : impl_hasOnly.F a0 a1 = (impl_hasOnly.L0 a0 a1 (a0.size : Int) 0) := by
  refine Lim.eq_ ?_
  simp only [impl_hasOnly.f]
  repeat' first
  | (with_reducible exact impl_hasOnly.L0_lim _ _ _ _)
  | (with_reducible refine Lim.ite ?_ ?_)
  | (with_reducible refine Lim.bind ?_ (fun _ => ?_))
  | (with_reducible exact Lim.const _)
def impl_isWordOf.f (k : Nat) (a0 : ByteArray) (a1 : ByteArray) : Option (Bool) := (impl_within.f (a0.size : Int) 1 8).bind fun t150 => (if t150 = true then ((impl_hasOnly.f k a0 a1).bind fun t151 => (some t151)) else (some false))
theorem impl_isWordOf.mono : ∀ a0 a1 k, LeO (impl_isWordOf.f k a0 a1) (impl_isWordOf.f (k + 1) a0 a1) := by
  intro a0 a1 k
  unfold impl_isWordOf.f
  repeat' first
      | (with_reducible exact impl_hasOnly.mono _ _ _)
      | (with_reducible exact LeO.refl _)
      | (with_reducible exact LeO.none _)
      | (with_reducible refine LeO.ite ?_ ?_)
      | (with_reducible refine LeO.bind ?_ (fun _ => ?_))
      | exact impl_hasOnly.mono _ _ _
      | exact LeO.none _
      | refine LeO.ite ?_ ?_
      | refine LeO.bind ?_ (fun _ => ?_)
noncomputable def impl_isWordOf.F (a0 : ByteArray) (a1 : ByteArray) : Option (Bool) := lim fun k => impl_isWordOf.f k a0 a1
theorem impl_isWordOf.F_lim (a0 : ByteArray) (a1 : ByteArray) : Lim (fun k => impl_isWordOf.f k a0 a1) (impl_isWordOf.F a0 a1) := ⟨impl_isWordOf.mono a0 a1, rfl⟩
theorem impl_isWordOf.F_eq (a0 : ByteArray) (a1 : ByteArray) : impl_isWordOf.F a0 a1 = ((impl_within.f (a0.size : Int) 1 8).bind fun t150 => (if t150 = true then ((impl_hasOnly.F a0 a1).bind fun t151 => (some t151)) else (some false))) := by
  refine Lim.eq_ ?_
  simp only [impl_isWordOf.f]
  repeat' first
  | (with_reducible exact impl_hasOnly.F_lim _ _)
  | (with_reducible refine Lim.ite ?_ ?_)
  | (with_reducible refine Lim.bind ?_ (fun _ => ?_))
  | (with_reducible exact Lim.const _)
def impl_locusOf_1.f (a0_0 : ByteArray) (a0_1 : Int) (a1_0 : ByteArray) : Option (Bool) := some (a0_0.toList == a1_0.toList)
def slices_IndexFunc_Locus_impl_locusOf_1.l0 : Nat → List (S58) → Int → Int → ByteArray → Option (Int)
  | 0, _, _, _, _ => none
  | k + 1, x0, x7, x8, x39000 => if x8 < x7 then (if 0 ≤ x8 then (if x8 < (x0.length : Int) then ((impl_locusOf_1.f ((rd_T58 x0 x8).f0) ((rd_T58 x0 x8).f1) x39000).bind fun t154 => (if t154 = true then (some x8) else (slices_IndexFunc_Locus_impl_locusOf_1.l0 k x0 x7 (wrap64 (x8 + 1)) x39000))) else (none)) else (none)) else (some (-1))
def slices_IndexFunc_Locus_impl_locusOf_1.f (k : Nat) (l0 : List (S58)) (a1_0 : ByteArray) : Option (Int) := slices_IndexFunc_Locus_impl_locusOf_1.l0 k l0 (l0.length : Int) 0 a1_0
theorem slices_IndexFunc_Locus_impl_locusOf_1.mono_l : ∀ k, (∀ y0 y1 y2 y3, LeO (slices_IndexFunc_Locus_impl_locusOf_1.l0 k y0 y1 y2 y3) (slices_IndexFunc_Locus_impl_locusOf_1.l0 (k + 1) y0 y1 y2 y3))
  | 0 => fun _ _ _ _ r h => by simp [slices_IndexFunc_Locus_impl_locusOf_1.l0] at h
  | k + 1 => by
    have ih0 := slices_IndexFunc_Locus_impl_locusOf_1.mono_l k
    · intro y0 y1 y2 y3
      unfold slices_IndexFunc_Locus_impl_locusOf_1.l0
      repeat' first
      | (with_reducible exact ih0 _ _ _ _)
      | (with_reducible exact LeO.refl _)
      | (with_reducible exact LeO.none _)
      | (with_reducible refine LeO.ite ?_ ?_)
      | (with_reducible refine LeO.bind ?_ (fun _ => ?_))
      | exact ih0 _ _ _ _
      | exact LeO.none _
      | refine LeO.ite ?_ ?_
      | refine LeO.bind ?_ (fun _ => ?_)
theorem slices_IndexFunc_Locus_impl_locusOf_1.mono : ∀ a0 a1 k, LeO (slices_IndexFunc_Locus_impl_locusOf_1.f k a0 a1) (slices_IndexFunc_Locus_impl_locusOf_1.f (k + 1) a0 a1) := by
  intro a0 a1 k
  have ih0 := slices_IndexFunc_Locus_impl_locusOf_1.mono_l k
  unfold slices_IndexFunc_Locus_impl_locusOf_1.f
  repeat' first
      | (with_reducible exact ih0 _ _ _ _)
      | (with_reducible exact LeO.refl _)
      | (with_reducible exact LeO.none _)
      | (with_reducible refine LeO.ite ?_ ?_)
      | (with_reducible refine LeO.bind ?_ (fun _ => ?_))
      | exact ih0 _ _ _ _
      | exact LeO.none _
      | refine LeO.ite ?_ ?_
      | refine LeO.bind ?_ (fun _ => ?_)
noncomputable def slices_IndexFunc_Locus_impl_locusOf_1.L0 (x0 : List (S58)) (x7 : Int) (x8 : Int) (x39000 : ByteArray) : Option (Int) := lim fun k => slices_IndexFunc_Locus_impl_locusOf_1.l0 k x0 x7 x8 x39000
theorem slices_IndexFunc_Locus_impl_locusOf_1.L0_lim (x0 : List (S58)) (x7 : Int) (x8 : Int) (x39000 : ByteArray) : Lim (fun k => slices_IndexFunc_Locus_impl_locusOf_1.l0 k x0 x7 x8 x39000) (slices_IndexFunc_Locus_impl_locusOf_1.L0 x0 x7 x8 x39000) := ⟨fun k => (slices_IndexFunc_Locus_impl_locusOf_1.mono_l k) x0 x7 x8 x39000, rfl⟩
noncomputable def slices_IndexFunc_Locus_impl_locusOf_1.F (l0 : List (S58)) (a1_0 : ByteArray) : Option (Int) := lim fun k => slices_IndexFunc_Locus_impl_locusOf_1.f k l0 a1_0
theorem slices_IndexFunc_Locus_impl_locusOf_1.F_lim (l0 : List (S58)) (a1_0 : ByteArray) : Lim (fun k => slices_IndexFunc_Locus_impl_locusOf_1.f k l0 a1_0) (slices_IndexFunc_Locus_impl_locusOf_1.F l0 a1_0) := ⟨slices_IndexFunc_Locus_impl_locusOf_1.mono l0 a1_0, rfl⟩
theorem slices_IndexFunc_Locus_impl_locusOf_1.L0_eq (x0 : List (S58)) (x7 : Int) (x8 : Int) (x39000 : ByteArray) : slices_IndexFunc_Locus_impl_locusOf_1.L0 x0 x7 x8 x39000 = (if x8 < x7 then (if 0 ≤ x8 then (if x8 < (x0.length : Int) then ((impl_locusOf_1.f ((rd_T58 x0 x8).f0) ((rd_T58 x0 x8).f1) x39000).bind fun t154 => (if t154 = true then (some x8) else (slices_IndexFunc_Locus_impl_locusOf_1.L0 x0 x7 (wrap64 (x8 + 1)) x39000))) else (none)) else (none)) else (some (-1))) := by
  refine Lim.succ_eq (slices_IndexFunc_Locus_impl_locusOf_1.L0_lim x0 x7 x8 x39000).mon ?_
  simp only [slices_IndexFunc_Locus_impl_locusOf_1.l0]
  repeat' first
  | (with_reducible exact slices_IndexFunc_Locus_impl_locusOf_1.L0_lim _ _ _ _)
  | (with_reducible refine Lim.ite ?_ ?_)
  | (with_reducible refine Lim.bind ?_ (fun _ => ?_))
  | (with_reducible exact Lim.const _)
theorem slices_IndexFunc_Locus_impl_locusOf_1.F_eq (l0 : List (S58)) (a1_0 : ByteArray) : slices_IndexFunc_Locus_impl_locusOf_1.F l0 a1_0 = (slices_IndexFunc_Locus_impl_locusOf_1.L0 l0 (l0.length : Int) 0 a1_0) := by
  refine Lim.eq_ ?_
  simp only [slices_IndexFunc_Locus_impl_locusOf_1.f]
  repeat' first
  | (with_reducible exact slices_IndexFunc_Locus_impl_locusOf_1.L0_lim _ _ _ _)
  | (with_reducible refine Lim.ite ?_ ?_)
  | (with_reducible refine Lim.bind ?_ (fun _ => ?_))
  | (with_reducible exact Lim.const _)
def impl_locusOf.f (k : Nat) (l0 : List (S58)) (a1 : ByteArray) : Option (Int) := (slices_IndexFunc_Locus_impl_locusOf_1.f k l0 a1).bind fun t156 => (some t156)
theorem impl_locusOf.mono : ∀ a0 a1 k, LeO (impl_locusOf.f k a0 a1) (impl_locusOf.f (k + 1) a0 a1) := by
  intro a0 a1 k
  unfold impl_locusOf.f
  repeat' first
      | (with_reducible exact slices_IndexFunc_Locus_impl_locusOf_1.mono _ _ _)
      | (with_reducible exact LeO.refl _)
      | (with_reducible exact LeO.none _)
      | (with_reducible refine LeO.ite ?_ ?_)
      | (with_reducible refine LeO.bind ?_ (fun _ => ?_))
      | exact slices_IndexFunc_Locus_impl_locusOf_1.mono _ _ _
      | exact LeO.none _
      | refine LeO.ite ?_ ?_
      | refine LeO.bind ?_ (fun _ => ?_)
noncomputable def impl_locusOf.F (l0 : List (S58)) (a1 : ByteArray) : Option (Int) := lim fun k => impl_locusOf.f k l0 a1
theorem impl_locusOf.F_lim (l0 : List (S58)) (a1 : ByteArray) : Lim (fun k => impl_locusOf.f k l0 a1) (impl_locusOf.F l0 a1) := ⟨impl_locusOf.mono l0 a1, rfl⟩
theorem impl_locusOf.F_eq (l0 : List (S58)) (a1 : ByteArray) : impl_locusOf.F l0 a1 = ((slices_IndexFunc_Locus_impl_locusOf_1.F l0 a1).bind fun t156 => (some t156)) := by
  refine Lim.eq_ ?_
  simp only [impl_locusOf.f]
  repeat' first
  | (with_reducible exact slices_IndexFunc_Locus_impl_locusOf_1.F_lim _ _)
  | (with_reducible refine Lim.ite ?_ ?_)
  | (with_reducible refine Lim.bind ?_ (fun _ => ?_))
  | (with_reducible exact Lim.const _)
def impl_AreLoci.l0 : Nat → List (S58) → List (S58) → Int → Int → Option (Bool)
  | 0, _, _, _, _ => none
  | k + 1, x0, x5, x6, x7 => if x7 < x6 then (if 0 ≤ x7 then (if x7 < (x5.length : Int) then ((impl_isWordOf.f k ((rd_T58 x5 x7).f0) (⟨#[97, 98, 99, 100, 101, 102, 103, 104, 105, 106, 107, 108, 109, 110, 111, 112, 113, 114, 115, 116, 117, 118, 119, 120, 121, 122]⟩ : ByteArray)).bind fun t159 => (if t159 = true then ((impl_isAngle.f ((rd_T58 x5 x7).f1)).bind fun t160 => (if t160 = true then (if x7 > 0 then (if 0 ≤ (wrap64 (x7 - 1)) then (if (wrap64 (x7 - 1)) < (x0.length : Int) then (if ((rd_T58 x5 x7).f1) ≤ ((rd_T58 x0 (wrap64 (x7 - 1))).f1) then (some false) else (if x7 ≤ (x0.length : Int) then ((impl_locusOf.f k (x0.take (x7 : Int).toNat) ((rd_T58 x5 x7).f0)).bind fun t166 => (if t166 ≥ 0 then (some false) else (impl_AreLoci.l0 k x0 x5 x6 (wrap64 (x7 + 1))))) else (none))) else (none)) else (none)) else (if x7 ≤ (x0.length : Int) then ((impl_locusOf.f k (x0.take (x7 : Int).toNat) ((rd_T58 x5 x7).f0)).bind fun t171 => (if t171 ≥ 0 then (some false) else (impl_AreLoci.l0 k x0 x5 x6 (wrap64 (x7 + 1))))) else (none))) else (some false))) else (some false))) else (none)) else (none)) else (some (decide ((x0.length : Int) ≤ 8)))
def impl_AreLoci.f (k : Nat) (l0 : List (S58)) : Option (Bool) := impl_AreLoci.l0 k l0 l0 (l0.length : Int) 0
theorem impl_AreLoci.mono_l : ∀ k, (∀ y0 y1 y2 y3, LeO (impl_AreLoci.l0 k y0 y1 y2 y3) (impl_AreLoci.l0 (k + 1) y0 y1 y2 y3))
  | 0 => fun _ _ _ _ r h => by simp [impl_AreLoci.l0] at h
  | k + 1 => by
    have ih0 := impl_AreLoci.mono_l k
    · intro y0 y1 y2 y3
      unfold impl_AreLoci.l0
      repeat' first
      | (with_reducible exact ih0 _ _ _ _)
      | (with_reducible exact impl_isWordOf.mono _ _ _)
      | (with_reducible exact impl_locusOf.mono _ _ _)
      | (with_reducible exact LeO.refl _)
      | (with_reducible exact LeO.none _)
      | (with_reducible refine LeO.ite ?_ ?_)
      | (with_reducible refine LeO.bind ?_ (fun _ => ?_))
      | exact ih0 _ _ _ _
      | exact impl_isWordOf.mono _ _ _
      | exact impl_locusOf.mono _ _ _
      | exact LeO.none _
      | refine LeO.ite ?_ ?_
      | refine LeO.bind ?_ (fun _ => ?_)
theorem impl_AreLoci.mono : ∀ a0 k, LeO (impl_AreLoci.f k a0) (impl_AreLoci.f (k + 1) a0) := by
  intro a0 k
  have ih0 := impl_AreLoci.mono_l k
  unfold impl_AreLoci.f
  repeat' first
      | (with_reducible exact ih0 _ _ _ _)
      | (with_reducible exact impl_isWordOf.mono _ _ _)
      | (with_reducible exact impl_locusOf.mono _ _ _)
      | (with_reducible exact LeO.refl _)
      | (with_reducible exact LeO.none _)
      | (with_reducible refine LeO.ite ?_ ?_)
      | (with_reducible refine LeO.bind ?_ (fun _ => ?_))
      | exact ih0 _ _ _ _
      | exact impl_isWordOf.mono _ _ _
      | exact impl_locusOf.mono _ _ _
      | exact LeO.none _
      | refine LeO.ite ?_ ?_
      | refine LeO.bind ?_ (fun _ => ?_)
noncomputable def impl_AreLoci.L0 (x0 : List (S58)) (x5 : List (S58)) (x6 : Int) (x7 : Int) : Option (Bool) := lim fun k => impl_AreLoci.l0 k x0 x5 x6 x7
theorem impl_AreLoci.L0_lim (x0 : List (S58)) (x5 : List (S58)) (x6 : Int) (x7 : Int) : Lim (fun k => impl_AreLoci.l0 k x0 x5 x6 x7) (impl_AreLoci.L0 x0 x5 x6 x7) := ⟨fun k => (impl_AreLoci.mono_l k) x0 x5 x6 x7, rfl⟩
noncomputable def impl_AreLoci.F (l0 : List (S58)) : Option (Bool) := lim fun k => impl_AreLoci.f k l0
theorem impl_AreLoci.F_lim (l0 : List (S58)) : Lim (fun k => impl_AreLoci.f k l0) (impl_AreLoci.F l0) := ⟨impl_AreLoci.mono l0, rfl⟩
theorem impl_AreLoci.L0_eq (x0 : List (S58)) (x5 : List (S58)) (x6 : Int) (x7 : Int) : impl_AreLoci.L0 x0 x5 x6 x7 = (if x7 < x6 then (if 0 ≤ x7 then (if x7 < (x5.length : Int) then ((impl_isWordOf.F ((rd_T58 x5 x7).f0) (⟨#[97, 98, 99, 100, 101, 102, 103, 104, 105, 106, 107, 108, 109, 110, 111, 112, 113, 114, 115, 116, 117, 118, 119, 120, 121, 122]⟩ : ByteArray)).bind fun t159 => (if t159 = true then ((impl_isAngle.f ((rd_T58 x5 x7).f1)).bind fun t160 => (if t160 = true then (if x7 > 0 then (if 0 ≤ (wrap64 (x7 - 1)) then (if (wrap64 (x7 - 1)) < (x0.length : Int) then (if ((rd_T58 x5 x7).f1) ≤ ((rd_T58 x0 (wrap64 (x7 - 1))).f1) then (some false) else (if x7 ≤ (x0.length : Int) then ((impl_locusOf.F (x0.take (x7 : Int).toNat) ((rd_T58 x5 x7).f0)).bind fun t166 => (if t166 ≥ 0 then (some false) else (impl_AreLoci.L0 x0 x5 x6 (wrap64 (x7 + 1))))) else (none))) else (none)) else (none)) else (if x7 ≤ (x0.length : Int) then ((impl_locusOf.F (x0.take (x7 : Int).toNat) ((rd_T58 x5 x7).f0)).bind fun t171 => (if t171 ≥ 0 then (some false) else (impl_AreLoci.L0 x0 x5 x6 (wrap64 (x7 + 1))))) else (none))) else (some false))) else (some false))) else (none)) else (none)) else (some (decide ((x0.length : Int) ≤ 8)))) := by
  refine Lim.succ_eq (impl_AreLoci.L0_lim x0 x5 x6 x7).mon ?_
  simp only [impl_AreLoci.l0]
  repeat' first
  | (with_reducible exact impl_AreLoci.L0_lim _ _ _ _)
  | (with_reducible exact impl_isWordOf.F_lim _ _)
  | (with_reducible exact impl_locusOf.F_lim _ _)
  | (with_reducible refine Lim.ite ?_ ?_)
  | (with_reducible refine Lim.bind ?_ (fun _ => ?_))
  | (with_reducible exact Lim.const _)
theorem impl_AreLoci.F_eq (l0 : List (S58)) : impl_AreLoci.F l0 = (impl_AreLoci.L0 l0 l0 (l0.length : Int) 0) := by
  refine Lim.eq_ ?_
  simp only [impl_AreLoci.f]
  repeat' first
  | (with_reducible exact impl_AreLoci.L0_lim _ _ _ _)
  | (with_reducible exact impl_isWordOf.F_lim _ _)
  | (with_reducible exact impl_locusOf.F_lim _ _)
  | (with_reducible refine Lim.ite ?_ ?_)
  | (with_reducible refine Lim.bind ?_ (fun _ => ?_))
  | (with_reducible exact Lim.const _)
def strconv_Itoa.f (a0 : Int) : Option (ByteArray) := if -9223372036854775808 ≤ a0 ∧ a0 ≤ 9223372036854775807 then some ⟨(Lib.itoa a0).toArray⟩ else none
def impl_lociText.l0 : Nat → ByteArray → List (S58) → Int → Int → Option (ByteArray)
  | 0, _, _, _, _ => none
  | k + 1, x3, x6, x7, x8 => if x8 < x7 then (if 0 ≤ x8 then (if x8 < (x6.length : Int) then (if ((rd_T58 x6 x8).f0).size + 1 ≤ 9223372036854775807 then ((strconv_Itoa.f ((rd_T58 x6 x8).f1)).bind fun t174 => (if (((rd_T58 x6 x8).f0) ++ (⟨#[64]⟩ : ByteArray)).size + t174.size ≤ 9223372036854775807 then (if ((((rd_T58 x6 x8).f0) ++ (⟨#[64]⟩ : ByteArray)) ++ t174).size + 1 ≤ 9223372036854775807 then (if x3.size + (((((rd_T58 x6 x8).f0) ++ (⟨#[64]⟩ : ByteArray)) ++ t174) ++ (⟨#[59]⟩ : ByteArray)).size ≤ 9223372036854775807 then (impl_lociText.l0 k (x3 ++ (((((rd_T58 x6 x8).f0) ++ (⟨#[64]⟩ : ByteArray)) ++ t174) ++ (⟨#[59]⟩ : ByteArray))) x6 x7 (wrap64 (x8 + 1))) else (none)) else (none)) else (none))) else (none)) else (none)) else (none)) else (some x3)
def impl_lociText.f (k : Nat) (l0 : List (S58)) : Option (ByteArray) := impl_lociText.l0 k (⟨#[]⟩ : ByteArray) l0 (l0.length : Int) 0
theorem impl_lociText.mono_l : ∀ k, (∀ y0 y1 y2 y3, LeO (impl_lociText.l0 k y0 y1 y2 y3) (impl_lociText.l0 (k + 1) y0 y1 y2 y3))
  | 0 => fun _ _ _ _ r h => by simp [impl_lociText.l0] at h
  | k + 1 => by
    have ih0 := impl_lociText.mono_l k
    · intro y0 y1 y2 y3
      unfold impl_lociText.l0
      repeat' first
      | (with_reducible exact ih0 _ _ _ _)
      | (with_reducible exact LeO.refl _)
      | (with_reducible exact LeO.none _)
      | (with_reducible refine LeO.ite ?_ ?_)
      | (with_reducible refine LeO.bind ?_ (fun _ => ?_))
      | exact ih0 _ _ _ _
      | exact LeO.none _
      | refine LeO.ite ?_ ?_
      | refine LeO.bind ?_ (fun _ => ?_)
theorem impl_lociText.mono : ∀ a0 k, LeO (impl_lociText.f k a0) (impl_lociText.f (k + 1) a0) := by
  intro a0 k
  have ih0 := impl_lociText.mono_l k
  unfold impl_lociText.f
  repeat' first
      | (with_reducible exact ih0 _ _ _ _)
      | (with_reducible exact LeO.refl _)
      | (with_reducible exact LeO.none _)
      | (with_reducible refine LeO.ite ?_ ?_)
      | (with_reducible refine LeO.bind ?_ (fun _ => ?_))
      | exact ih0 _ _ _ _
      | exact LeO.none _
      | refine LeO.ite ?_ ?_
      | refine LeO.bind ?_ (fun _ => ?_)
noncomputable def impl_lociText.L0 (x3 : ByteArray) (x6 : List (S58)) (x7 : Int) (x8 : Int) : Option (ByteArray) := lim fun k => impl_lociText.l0 k x3 x6 x7 x8
theorem impl_lociText.L0_lim (x3 : ByteArray) (x6 : List (S58)) (x7 : Int) (x8 : Int) : Lim (fun k => impl_lociText.l0 k x3 x6 x7 x8) (impl_lociText.L0 x3 x6 x7 x8) := ⟨fun k => (impl_lociText.mono_l k) x3 x6 x7 x8, rfl⟩
noncomputable def impl_lociText.F (l0 : List (S58)) : Option (ByteArray) := lim fun k => impl_lociText.f k l0
theorem impl_lociText.F_lim (l0 : List (S58)) : Lim (fun k => impl_lociText.f k l0) (impl_lociText.F l0) := ⟨impl_lociText.mono l0, rfl⟩
theorem impl_lociText.L0_eq (x3 : ByteArray) (x6 : List (S58)) (x7 : Int) (x8 : Int) : impl_lociText.L0 x3 x6 x7 x8 = (if x8 < x7 then (if 0 ≤ x8 then (if x8 < (x6.length : Int) then (if ((rd_T58 x6 x8).f0).size + 1 ≤ 9223372036854775807 then ((strconv_Itoa.f ((rd_T58 x6 x8).f1)).bind fun t174 => (if (((rd_T58 x6 x8).f0) ++ (⟨#[64]⟩ : ByteArray)).size + t174.size ≤ 9223372036854775807 then (if ((((rd_T58 x6 x8).f0) ++ (⟨#[64]⟩ : ByteArray)) ++ t174).size + 1 ≤ 9223372036854775807 then (if x3.size + (((((rd_T58 x6 x8).f0) ++ (⟨#[64]⟩ : ByteArray)) ++ t174) ++ (⟨#[59]⟩ : ByteArray)).size ≤ 9223372036854775807 then (impl_lociText.L0 (x3 ++ (((((rd_T58 x6 x8).f0) ++ (⟨#[64]⟩ : ByteArray)) ++ t174) ++ (⟨#[59]⟩ : ByteArray))) x6 x7 (wrap64 (x8 + 1))) else (none)) else (none)) else (none))) else (none)) else (none)) else (none)) else (some x3)) := by
  refine Lim.succ_eq (impl_lociText.L0_lim x3 x6 x7 x8).mon ?_
  simp only [impl_lociText.l0]
  repeat' first
  | (with_reducible exact impl_lociText.L0_lim _ _ _ _)
  | (with_reducible refine Lim.ite ?_ ?_)
  | (with_reducible refine Lim.bind ?_ (fun _ => ?_))
  | (with_reducible exact Lim.const _)
theorem impl_lociText.F_eq (l0 : List (S58)) : impl_lociText.F l0 = (impl_lociText.L0 (⟨#[]⟩ : ByteArray) l0 (l0.length : Int) 0) := by
  refine Lim.eq_ ?_
  simp only [impl_lociText.f]
  repeat' first
  | (with_reducible exact impl_lociText.L0_lim _ _ _ _)
  | (with_reducible refine Lim.ite ?_ ?_)
  | (with_reducible refine Lim.bind ?_ (fun _ => ?_))
  | (with_reducible exact Lim.const _)
def impl_LociText.f (k : Nat) (l0 : List (S58)) : Option (ByteArray × Bool) := (impl_AreLoci.f k l0).bind fun t175 => (if t175 = true then ((impl_lociText.f k l0).bind fun t176 => (some (t176, true))) else (some ((⟨#[]⟩ : ByteArray), false)))
theorem impl_LociText.mono : ∀ a0 k, LeO (impl_LociText.f k a0) (impl_LociText.f (k + 1) a0) := by
  intro a0 k
  unfold impl_LociText.f
  repeat' first
      | (with_reducible exact impl_AreLoci.mono _ _)
      | (with_reducible exact impl_lociText.mono _ _)
      | (with_reducible exact LeO.refl _)
      | (with_reducible exact LeO.none _)
      | (with_reducible refine LeO.ite ?_ ?_)
      | (with_reducible refine LeO.bind ?_ (fun _ => ?_))
      | exact impl_AreLoci.mono _ _
      | exact impl_lociText.mono _ _
      | exact LeO.none _
      | refine LeO.ite ?_ ?_
      | refine LeO.bind ?_ (fun _ => ?_)
noncomputable def impl_LociText.F (l0 : List (S58)) : Option (ByteArray × Bool) := lim fun k => impl_LociText.f k l0
theorem impl_LociText.F_lim (l0 : List (S58)) : Lim (fun k => impl_LociText.f k l0) (impl_LociText.F l0) := ⟨impl_LociText.mono l0, rfl⟩
theorem impl_LociText.F_eq (l0 : List (S58)) : impl_LociText.F l0 = ((impl_AreLoci.F l0).bind fun t175 => (if t175 = true then ((impl_lociText.F l0).bind fun t176 => (some (t176, true))) else (some ((⟨#[]⟩ : ByteArray), false)))) := by
  refine Lim.eq_ ?_
  simp only [impl_LociText.f]
  repeat' first
  | (with_reducible exact impl_AreLoci.F_lim _)
  | (with_reducible exact impl_lociText.F_lim _)
  | (with_reducible refine Lim.ite ?_ ?_)
  | (with_reducible refine Lim.bind ?_ (fun _ => ?_))
  | (with_reducible exact Lim.const _)
def laws_eqLocus.f (a0_0 : ByteArray) (a0_1 : Int) (a1_0 : ByteArray) (a1_1 : Int) : Option (Bool) := if a0_0.toList = a1_0.toList then (if a0_1 = a1_1 then (some true) else (some false)) else (some false)
def laws_eqLocusS.l0 : Nat → List (S58) → List (S58) → Int → Option (Bool)
  | 0, _, _, _ => none
  | k + 1, x0, x1, x5 => if x5 < (x0.length : Int) then (if 0 ≤ x5 then (if x5 < (x1.length : Int) then ((laws_eqLocus.f ((rd_T58 x0 x5).f0) ((rd_T58 x0 x5).f1) ((rd_T58 x1 x5).f0) ((rd_T58 x1 x5).f1)).bind fun t181 => (if t181 = true then (laws_eqLocusS.l0 k x0 x1 (wrap64 (x5 + 1))) else (some false))) else (none)) else (none)) else (some true)
def laws_eqLocusS.f (k : Nat) (l0 : List (S58)) (l1 : List (S58)) : Option (Bool) := if (l0.length : Int) = (l1.length : Int) then (laws_eqLocusS.l0 k l0 l1 0) else (some false)
theorem laws_eqLocusS.mono_l : ∀ k, (∀ y0 y1 y2, LeO (laws_eqLocusS.l0 k y0 y1 y2) (laws_eqLocusS.l0 (k + 1) y0 y1 y2))
  | 0 => fun _ _ _ r h => by simp [laws_eqLocusS.l0] at h
  | k + 1 => by
    have ih0 := laws_eqLocusS.mono_l k
    · intro y0 y1 y2
      unfold laws_eqLocusS.l0
      repeat' first
      | (with_reducible exact ih0 _ _ _)
      | (with_reducible exact LeO.refl _)
      | (with_reducible exact LeO.none _)
      | (with_reducible refine LeO.ite ?_ ?_)
      | (with_reducible refine LeO.bind ?_ (fun _ => ?_))
      | exact ih0 _ _ _
      | exact LeO.none _
      | refine LeO.ite ?_ ?_
      | refine LeO.bind ?_ (fun _ => ?_)
theorem laws_eqLocusS.mono : ∀ a0 a1 k, LeO (laws_eqLocusS.f k a0 a1) (laws_eqLocusS.f (k + 1) a0 a1) := by
  intro a0 a1 k
  have ih0 := laws_eqLocusS.mono_l k
  unfold laws_eqLocusS.f
  repeat' first
      | (with_reducible exact ih0 _ _ _)
      | (with_reducible exact LeO.refl _)
      | (with_reducible exact LeO.none _)
      | (with_reducible refine LeO.ite ?_ ?_)
      | (with_reducible refine LeO.bind ?_ (fun _ => ?_))
      | exact ih0 _ _ _
      | exact LeO.none _
      | refine LeO.ite ?_ ?_
      | refine LeO.bind ?_ (fun _ => ?_)
noncomputable def laws_eqLocusS.L0 (x0 : List (S58)) (x1 : List (S58)) (x5 : Int) : Option (Bool) := lim fun k => laws_eqLocusS.l0 k x0 x1 x5
theorem laws_eqLocusS.L0_lim (x0 : List (S58)) (x1 : List (S58)) (x5 : Int) : Lim (fun k => laws_eqLocusS.l0 k x0 x1 x5) (laws_eqLocusS.L0 x0 x1 x5) := ⟨fun k => (laws_eqLocusS.mono_l k) x0 x1 x5, rfl⟩
noncomputable def laws_eqLocusS.F (l0 : List (S58)) (l1 : List (S58)) : Option (Bool) := lim fun k => laws_eqLocusS.f k l0 l1
theorem laws_eqLocusS.F_lim (l0 : List (S58)) (l1 : List (S58)) : Lim (fun k => laws_eqLocusS.f k l0 l1) (laws_eqLocusS.F l0 l1) := ⟨laws_eqLocusS.mono l0 l1, rfl⟩
theorem laws_eqLocusS.L0_eq (x0 : List (S58)) (x1 : List (S58)) (x5 : Int) : laws_eqLocusS.L0 x0 x1 x5 = (if x5 < (x0.length : Int) then (if 0 ≤ x5 then (if x5 < (x1.length : Int) then ((laws_eqLocus.f ((rd_T58 x0 x5).f0) ((rd_T58 x0 x5).f1) ((rd_T58 x1 x5).f0) ((rd_T58 x1 x5).f1)).bind fun t181 => (if t181 = true then (laws_eqLocusS.L0 x0 x1 (wrap64 (x5 + 1))) else (some false))) else (none)) else (none)) else (some true)) := by
  refine Lim.succ_eq (laws_eqLocusS.L0_lim x0 x1 x5).mon ?_
  simp only [laws_eqLocusS.l0]
  repeat' first
  | (with_reducible exact laws_eqLocusS.L0_lim _ _ _)
  | (with_reducible refine Lim.ite ?_ ?_)
  | (with_reducible refine Lim.bind ?_ (fun _ => ?_))
  | (with_reducible exact Lim.const _)
theorem laws_eqLocusS.F_eq (l0 : List (S58)) (l1 : List (S58)) : laws_eqLocusS.F l0 l1 = (if (l0.length : Int) = (l1.length : Int) then (laws_eqLocusS.L0 l0 l1 0) else (some false)) := by
  refine Lim.eq_ ?_
  simp only [laws_eqLocusS.f]
  repeat' first
  | (with_reducible exact laws_eqLocusS.L0_lim _ _ _)
  | (with_reducible refine Lim.ite ?_ ?_)
  | (with_reducible refine Lim.bind ?_ (fun _ => ?_))
  | (with_reducible exact Lim.const _)
def laws_FnExactLociText.j0 : Nat → List (S55) → List (S58) → Bool → Option (Bool)
  | 0, _, _, _ => none
  | k + 1, x0, x6, x34 => if x34 = true then (some false) else ((laws_toLocusS.f k x0).bind fun t193 => ((laws_eqLocusS.f k x6 t193).bind fun t196 => (if t196 = true then (some true) else (some false))))
def laws_FnExactLociText.f (k : Nat) (l0 : List (S55)) : Option (Bool) := (laws_szLocusS.f k l0 1048576).bind fun t182 => (if t182 < 0 then (some true) else ((laws_toLocusS.f k l0).bind fun t183 => ((spec_LociText.f k t183).bind fun bt186 => ((laws_toLocusS.f k l0).bind fun t188 => ((impl_LociText.f k t188).bind fun bt191 => (if bt191.1.toList = bt186.1.toList then (laws_FnExactLociText.j0 k l0 t188 (bt191.2 != bt186.2)) else (laws_FnExactLociText.j0 k l0 t188 true)))))))
theorem laws_FnExactLociText.mono_l : ∀ k, (∀ y0 y1 y2, LeO (laws_FnExactLociText.j0 k y0 y1 y2) (laws_FnExactLociText.j0 (k + 1) y0 y1 y2))
  | 0 => fun _ _ _ r h => by simp [laws_FnExactLociText.j0] at h
  | k + 1 => by
    have ih0 := laws_FnExactLociText.mono_l k
    · intro y0 y1 y2
      unfold laws_FnExactLociText.j0
      repeat' first
      | (with_reducible exact ih0 _ _ _)
      | (with_reducible exact impl_LociText.mono _ _)
      | (with_reducible exact laws_eqLocusS.mono _ _ _)
      | (with_reducible exact laws_szLocusS.mono _ _ _)
      | (with_reducible exact laws_toLocusS.mono _ _)
      | (with_reducible exact spec_LociText.mono _ _)
      | (with_reducible exact LeO.refl _)
      | (with_reducible exact LeO.none _)
      | (with_reducible refine LeO.ite ?_ ?_)
      | (with_reducible refine LeO.bind ?_ (fun _ => ?_))
      | exact ih0 _ _ _
      | exact impl_LociText.mono _ _
      | exact laws_eqLocusS.mono _ _ _
      | exact laws_szLocusS.mono _ _ _
      | exact laws_toLocusS.mono _ _
      | exact spec_LociText.mono _ _
      | exact LeO.none _
      | refine LeO.ite ?_ ?_
      | refine LeO.bind ?_ (fun _ => ?_)
theorem laws_FnExactLociText.mono : ∀ a0 k, LeO (laws_FnExactLociText.f k a0) (laws_FnExactLociText.f (k + 1) a0) := by
  intro a0 k
  have ih0 := laws_FnExactLociText.mono_l k
  unfold laws_FnExactLociText.f
  repeat' first
      | (with_reducible exact ih0 _ _ _)
      | (with_reducible exact impl_LociText.mono _ _)
      | (with_reducible exact laws_eqLocusS.mono _ _ _)
      | (with_reducible exact laws_szLocusS.mono _ _ _)
      | (with_reducible exact laws_toLocusS.mono _ _)
      | (with_reducible exact spec_LociText.mono _ _)
      | (with_reducible exact LeO.refl _)
      | (with_reducible exact LeO.none _)
      | (with_reducible refine LeO.ite ?_ ?_)
      | (with_reducible refine LeO.bind ?_ (fun _ => ?_))
      | exact ih0 _ _ _
      | exact impl_LociText.mono _ _
      | exact laws_eqLocusS.mono _ _ _
      | exact laws_szLocusS.mono _ _ _
      | exact laws_toLocusS.mono _ _
      | exact spec_LociText.mono _ _
      | exact LeO.none _
      | refine LeO.ite ?_ ?_
      | refine LeO.bind ?_ (fun _ => ?_)
noncomputable def laws_FnExactLociText.J0 (x0 : List (S55)) (x6 : List (S58)) (x34 : Bool) : Option (Bool) := lim fun k => laws_FnExactLociText.j0 k x0 x6 x34
theorem laws_FnExactLociText.J0_lim (x0 : List (S55)) (x6 : List (S58)) (x34 : Bool) : Lim (fun k => laws_FnExactLociText.j0 k x0 x6 x34) (laws_FnExactLociText.J0 x0 x6 x34) := ⟨fun k => (laws_FnExactLociText.mono_l k) x0 x6 x34, rfl⟩
noncomputable def laws_FnExactLociText.F (l0 : List (S55)) : Option (Bool) := lim fun k => laws_FnExactLociText.f k l0
theorem laws_FnExactLociText.F_lim (l0 : List (S55)) : Lim (fun k => laws_FnExactLociText.f k l0) (laws_FnExactLociText.F l0) := ⟨laws_FnExactLociText.mono l0, rfl⟩
theorem laws_FnExactLociText.J0_eq (x0 : List (S55)) (x6 : List (S58)) (x34 : Bool) : laws_FnExactLociText.J0 x0 x6 x34 = (if x34 = true then (some false) else ((laws_toLocusS.F x0).bind fun t193 => ((laws_eqLocusS.F x6 t193).bind fun t196 => (if t196 = true then (some true) else (some false))))) := by
  refine Lim.succ_eq (laws_FnExactLociText.J0_lim x0 x6 x34).mon ?_
  simp only [laws_FnExactLociText.j0]
  repeat' first
  | (with_reducible exact laws_FnExactLociText.J0_lim _ _ _)
  | (with_reducible exact impl_LociText.F_lim _)
  | (with_reducible exact laws_eqLocusS.F_lim _ _)
  | (with_reducible exact laws_szLocusS.F_lim _ _)
  | (with_reducible exact laws_toLocusS.F_lim _)
  | (with_reducible exact spec_LociText.F_lim _)
  | (with_reducible refine Lim.ite ?_ ?_)
  | (with_reducible refine Lim.bind ?_ (fun _ => ?_))
  | (with_reducible exact Lim.const _)
theorem laws_FnExactLociText.F_eq (l0 : List (S55)) : laws_FnExactLociText.F l0 = ((laws_szLocusS.F l0 1048576).bind fun t182 => (if t182 < 0 then (some true) else ((laws_toLocusS.F l0).bind fun t183 => ((spec_LociText.F t183).bind fun bt186 => ((laws_toLocusS.F l0).bind fun t188 => ((impl_LociText.F t188).bind fun bt191 => (if bt191.1.toList = bt186.1.toList then (laws_FnExactLociText.J0 l0 t188 (bt191.2 != bt186.2)) else (laws_FnExactLociText.J0 l0 t188 true)))))))) := by
  refine Lim.eq_ ?_
  simp only [laws_FnExactLociText.f]
  repeat' first
  | (with_reducible exact laws_FnExactLociText.J0_lim _ _ _)
  | (with_reducible exact impl_LociText.F_lim _)
  | (with_reducible exact laws_eqLocusS.F_lim _ _)
  | (with_reducible exact laws_szLocusS.F_lim _ _)
  | (with_reducible exact laws_toLocusS.F_lim _)
  | (with_reducible exact spec_LociText.F_lim _)
  | (with_reducible refine Lim.ite ?_ ?_)
  | (with_reducible refine Lim.bind ?_ (fun _ => ?_))
  | (with_reducible exact Lim.const _)
def Wf55 (x : S55) : Prop := x.f0.size ≤ 9223372036854775807 ∧ (Lit.int .i64 x.f1).wf = true
def laws_FnExactLociText.Pure : Prop := ∀ (l0 : List (S55)), (l0.length ≤ 9223372036854775807 ∧ ∀ y_ ∈ l0, Wf55 y_) → ∃ k, laws_FnExactLociText.f k l0 = some true
end Go.Proofs.YtbheajjagkdjmaaDoor.PFnExactLociText
