/- Written by a program of this claim's author, out of the loaded program as Lean prints it: the functions as Lean functions, and that the calls answer so. -/
import Derived.Test.YtbheajjagkdjmaaPFnLocix0
namespace Go.Proofs.Ytbheajjagkdjmaa.PFnLoci
open Go.RowKit Go.Proofs.YtbheajjagkdjmaaW.PrintWords Go.Proofs.YtbheajjagkdjmaaW.PrintLast Go.Proofs.YtbheajjagkdjmaaW.PrintMore
attribute [local go_sem] max2_int min2_int max_two min_two max_three min_three max_four min_four   -- for this text's walks alone
set_option linter.unusedVariables false
set_option linter.unusedSimpArgs false

def spec_l1In.f (a0 : Int) (a1 : Int) (a2 : Int) : Option (Bool) := if a0 ≥ a1 then (some (decide (a0 ≤ a2))) else (some false)
def spec_naName.l0 : Nat → ByteArray → Int → Option (Bool)
  | 0, _, _ => none
  | k + 1, x0, x3 => if x3 < (x0.size : Int) then (if 0 ≤ x3 then (if (bt x0 x3) < 97 then (some false) else (if (bt x0 x3) > 122 then (some false) else (spec_naName.l0 k x0 (wrap64 (x3 + 1))))) else (none)) else ((spec_l1In.f (x0.size : Int) 1 8).bind fun t101 => (some t101))
def spec_naName.f (k : Nat) (a0 : ByteArray) : Option (Bool) := spec_naName.l0 k a0 0
theorem spec_naName.mono_l : ∀ k, (∀ y0 y1, LeO (spec_naName.l0 k y0 y1) (spec_naName.l0 (k + 1) y0 y1))
  | 0 => fun _ _ r h => by simp [spec_naName.l0] at h
  | k + 1 => by
    have ih0 := spec_naName.mono_l k
    · intro y0 y1
      unfold spec_naName.l0
      repeat' first
      | (with_reducible exact ih0 _ _)
      | (with_reducible exact LeO.refl _)
      | (with_reducible exact LeO.none _)
      | (with_reducible refine LeO.ite ?_ ?_)
      | (with_reducible refine LeO.bind ?_ (fun _ => ?_))
theorem spec_naName.mono : ∀ a0 k, LeO (spec_naName.f k a0) (spec_naName.f (k + 1) a0) := by
  intro a0 k
  have ih0 := spec_naName.mono_l k
  unfold spec_naName.f
  repeat' first
      | (with_reducible exact ih0 _ _)
      | (with_reducible exact LeO.refl _)
      | (with_reducible exact LeO.none _)
      | (with_reducible refine LeO.ite ?_ ?_)
      | (with_reducible refine LeO.bind ?_ (fun _ => ?_))
noncomputable def spec_naName.L0 (x0 : ByteArray) (x3 : Int) : Option (Bool) := lim fun k => spec_naName.l0 k x0 x3
theorem spec_naName.L0_lim (x0 : ByteArray) (x3 : Int) : Lim (fun k => spec_naName.l0 k x0 x3) (spec_naName.L0 x0 x3) := ⟨fun k => (spec_naName.mono_l k) x0 x3, rfl⟩
noncomputable def spec_naName.F (a0 : ByteArray) : Option (Bool) := lim fun k => spec_naName.f k a0
theorem spec_naName.F_lim (a0 : ByteArray) : Lim (fun k => spec_naName.f k a0) (spec_naName.F a0) := ⟨spec_naName.mono a0, rfl⟩
theorem spec_naName.L0_eq (x0 : ByteArray) (x3 : Int) : spec_naName.L0 x0 x3 = (if x3 < (x0.size : Int) then (if 0 ≤ x3 then (if (bt x0 x3) < 97 then (some false) else (if (bt x0 x3) > 122 then (some false) else (spec_naName.L0 x0 (wrap64 (x3 + 1))))) else (none)) else ((spec_l1In.f (x0.size : Int) 1 8).bind fun t101 => (some t101))) := by
  refine Lim.succ_eq (spec_naName.L0_lim x0 x3).mon ?_
  simp only [spec_naName.l0]
  repeat' first
  | (with_reducible exact spec_naName.L0_lim _ _)
  | (with_reducible refine Lim.ite ?_ ?_)
  | (with_reducible refine Lim.bind ?_ (fun _ => ?_))
  | (with_reducible exact Lim.const _)
theorem spec_naName.F_eq (a0 : ByteArray) : spec_naName.F a0 = (spec_naName.L0 a0 0) := by
  refine Lim.eq_ ?_
  simp only [spec_naName.f]
  repeat' first
  | (with_reducible exact spec_naName.L0_lim _ _)
  | (with_reducible refine Lim.ite ?_ ?_)
  | (with_reducible refine Lim.bind ?_ (fun _ => ?_))
  | (with_reducible exact Lim.const _)
def spec_loAngle.f (a0 : Int) : Option (Bool) := (spec_l1In.f a0 (-90) 90).bind fun t102 => (some t102)
def spec_loFind.l0 : Nat → ByteArray → List (S55) → Int → Int → Option (Int)
  | 0, _, _, _, _ => none
  | k + 1, x1, x7, x8, x9 => if x9 < x8 then (if 0 ≤ x9 then (if x9 < (x7.length : Int) then (if ((rd_T55 x7 x9).f0).toList = x1.toList then (some x9) else (spec_loFind.l0 k x1 x7 x8 (wrap64 (x9 + 1)))) else (none)) else (none)) else (some (-1))
def spec_loFind.f (k : Nat) (l0 : List (S55)) (a1 : ByteArray) : Option (Int) := spec_loFind.l0 k a1 l0 (l0.length : Int) 0
theorem spec_loFind.mono_l : ∀ k, (∀ y0 y1 y2 y3, LeO (spec_loFind.l0 k y0 y1 y2 y3) (spec_loFind.l0 (k + 1) y0 y1 y2 y3))
  | 0 => fun _ _ _ _ r h => by simp [spec_loFind.l0] at h
  | k + 1 => by
    have ih0 := spec_loFind.mono_l k
    · intro y0 y1 y2 y3
      unfold spec_loFind.l0
      repeat' first
      | (with_reducible exact ih0 _ _ _ _)
      | (with_reducible exact LeO.refl _)
      | (with_reducible exact LeO.none _)
      | (with_reducible refine LeO.ite ?_ ?_)
      | (with_reducible refine LeO.bind ?_ (fun _ => ?_))
theorem spec_loFind.mono : ∀ a0 a1 k, LeO (spec_loFind.f k a0 a1) (spec_loFind.f (k + 1) a0 a1) := by
  intro a0 a1 k
  have ih0 := spec_loFind.mono_l k
  unfold spec_loFind.f
  repeat' first
      | (with_reducible exact ih0 _ _ _ _)
      | (with_reducible exact LeO.refl _)
      | (with_reducible exact LeO.none _)
      | (with_reducible refine LeO.ite ?_ ?_)
      | (with_reducible refine LeO.bind ?_ (fun _ => ?_))
noncomputable def spec_loFind.L0 (x1 : ByteArray) (x7 : List (S55)) (x8 : Int) (x9 : Int) : Option (Int) := lim fun k => spec_loFind.l0 k x1 x7 x8 x9
theorem spec_loFind.L0_lim (x1 : ByteArray) (x7 : List (S55)) (x8 : Int) (x9 : Int) : Lim (fun k => spec_loFind.l0 k x1 x7 x8 x9) (spec_loFind.L0 x1 x7 x8 x9) := ⟨fun k => (spec_loFind.mono_l k) x1 x7 x8 x9, rfl⟩
noncomputable def spec_loFind.F (l0 : List (S55)) (a1 : ByteArray) : Option (Int) := lim fun k => spec_loFind.f k l0 a1
theorem spec_loFind.F_lim (l0 : List (S55)) (a1 : ByteArray) : Lim (fun k => spec_loFind.f k l0 a1) (spec_loFind.F l0 a1) := ⟨spec_loFind.mono l0 a1, rfl⟩
theorem spec_loFind.L0_eq (x1 : ByteArray) (x7 : List (S55)) (x8 : Int) (x9 : Int) : spec_loFind.L0 x1 x7 x8 x9 = (if x9 < x8 then (if 0 ≤ x9 then (if x9 < (x7.length : Int) then (if ((rd_T55 x7 x9).f0).toList = x1.toList then (some x9) else (spec_loFind.L0 x1 x7 x8 (wrap64 (x9 + 1)))) else (none)) else (none)) else (some (-1))) := by
  refine Lim.succ_eq (spec_loFind.L0_lim x1 x7 x8 x9).mon ?_
  simp only [spec_loFind.l0]
  repeat' first
  | (with_reducible exact spec_loFind.L0_lim _ _ _ _)
  | (with_reducible refine Lim.ite ?_ ?_)
  | (with_reducible refine Lim.bind ?_ (fun _ => ?_))
  | (with_reducible exact Lim.const _)
theorem spec_loFind.F_eq (l0 : List (S55)) (a1 : ByteArray) : spec_loFind.F l0 a1 = (spec_loFind.L0 a1 l0 (l0.length : Int) 0) := by
  refine Lim.eq_ ?_
  simp only [spec_loFind.f]
  repeat' first
  | (with_reducible exact spec_loFind.L0_lim _ _ _ _)
  | (with_reducible refine Lim.ite ?_ ?_)
  | (with_reducible refine Lim.bind ?_ (fun _ => ?_))
  | (with_reducible exact Lim.const _)
def spec_loGood.l0 : Nat → List (S55) → List (S55) → Int → Int → Option (Bool)
  | 0, _, _, _, _ => none
  | k + 1, x0, x5, x6, x7 => if x7 < x6 then (if 0 ≤ x7 then (if x7 < (x5.length : Int) then ((spec_naName.f k ((rd_T55 x5 x7).f0)).bind fun t107 => (if t107 = true then ((spec_loAngle.f ((rd_T55 x5 x7).f1)).bind fun t108 => (if t108 = true then (if x7 > 0 then (if 0 ≤ (wrap64 (x7 - 1)) then (if (wrap64 (x7 - 1)) < (x0.length : Int) then (if ((rd_T55 x0 (wrap64 (x7 - 1))).f1) ≥ ((rd_T55 x5 x7).f1) then (some false) else (if x7 ≤ (x0.length : Int) then ((spec_loFind.f k (x0.take (x7 : Int).toNat) ((rd_T55 x5 x7).f0)).bind fun t114 => (if t114 ≥ 0 then (some false) else (spec_loGood.l0 k x0 x5 x6 (wrap64 (x7 + 1))))) else (none))) else (none)) else (none)) else (if x7 ≤ (x0.length : Int) then ((spec_loFind.f k (x0.take (x7 : Int).toNat) ((rd_T55 x5 x7).f0)).bind fun t119 => (if t119 ≥ 0 then (some false) else (spec_loGood.l0 k x0 x5 x6 (wrap64 (x7 + 1))))) else (none))) else (some false))) else (some false))) else (none)) else (none)) else (some (decide ((x0.length : Int) ≤ 8)))
def spec_loGood.f (k : Nat) (l0 : List (S55)) : Option (Bool) := spec_loGood.l0 k l0 l0 (l0.length : Int) 0
theorem spec_loGood.mono_l : ∀ k, (∀ y0 y1 y2 y3, LeO (spec_loGood.l0 k y0 y1 y2 y3) (spec_loGood.l0 (k + 1) y0 y1 y2 y3))
  | 0 => fun _ _ _ _ r h => by simp [spec_loGood.l0] at h
  | k + 1 => by
    have ih0 := spec_loGood.mono_l k
    · intro y0 y1 y2 y3
      unfold spec_loGood.l0
      repeat' first
      | (with_reducible exact ih0 _ _ _ _)
      | (with_reducible exact spec_loFind.mono _ _ _)
      | (with_reducible exact spec_naName.mono _ _)
      | (with_reducible exact LeO.refl _)
      | (with_reducible exact LeO.none _)
      | (with_reducible refine LeO.ite ?_ ?_)
      | (with_reducible refine LeO.bind ?_ (fun _ => ?_))
theorem spec_loGood.mono : ∀ a0 k, LeO (spec_loGood.f k a0) (spec_loGood.f (k + 1) a0) := by
  intro a0 k
  have ih0 := spec_loGood.mono_l k
  unfold spec_loGood.f
  repeat' first
      | (with_reducible exact ih0 _ _ _ _)
      | (with_reducible exact spec_loFind.mono _ _ _)
      | (with_reducible exact spec_naName.mono _ _)
      | (with_reducible exact LeO.refl _)
      | (with_reducible exact LeO.none _)
      | (with_reducible refine LeO.ite ?_ ?_)
      | (with_reducible refine LeO.bind ?_ (fun _ => ?_))
noncomputable def spec_loGood.L0 (x0 : List (S55)) (x5 : List (S55)) (x6 : Int) (x7 : Int) : Option (Bool) := lim fun k => spec_loGood.l0 k x0 x5 x6 x7
theorem spec_loGood.L0_lim (x0 : List (S55)) (x5 : List (S55)) (x6 : Int) (x7 : Int) : Lim (fun k => spec_loGood.l0 k x0 x5 x6 x7) (spec_loGood.L0 x0 x5 x6 x7) := ⟨fun k => (spec_loGood.mono_l k) x0 x5 x6 x7, rfl⟩
noncomputable def spec_loGood.F (l0 : List (S55)) : Option (Bool) := lim fun k => spec_loGood.f k l0
theorem spec_loGood.F_lim (l0 : List (S55)) : Lim (fun k => spec_loGood.f k l0) (spec_loGood.F l0) := ⟨spec_loGood.mono l0, rfl⟩
theorem spec_loGood.L0_eq (x0 : List (S55)) (x5 : List (S55)) (x6 : Int) (x7 : Int) : spec_loGood.L0 x0 x5 x6 x7 = (if x7 < x6 then (if 0 ≤ x7 then (if x7 < (x5.length : Int) then ((spec_naName.F ((rd_T55 x5 x7).f0)).bind fun t107 => (if t107 = true then ((spec_loAngle.f ((rd_T55 x5 x7).f1)).bind fun t108 => (if t108 = true then (if x7 > 0 then (if 0 ≤ (wrap64 (x7 - 1)) then (if (wrap64 (x7 - 1)) < (x0.length : Int) then (if ((rd_T55 x0 (wrap64 (x7 - 1))).f1) ≥ ((rd_T55 x5 x7).f1) then (some false) else (if x7 ≤ (x0.length : Int) then ((spec_loFind.F (x0.take (x7 : Int).toNat) ((rd_T55 x5 x7).f0)).bind fun t114 => (if t114 ≥ 0 then (some false) else (spec_loGood.L0 x0 x5 x6 (wrap64 (x7 + 1))))) else (none))) else (none)) else (none)) else (if x7 ≤ (x0.length : Int) then ((spec_loFind.F (x0.take (x7 : Int).toNat) ((rd_T55 x5 x7).f0)).bind fun t119 => (if t119 ≥ 0 then (some false) else (spec_loGood.L0 x0 x5 x6 (wrap64 (x7 + 1))))) else (none))) else (some false))) else (some false))) else (none)) else (none)) else (some (decide ((x0.length : Int) ≤ 8)))) := by
  refine Lim.succ_eq (spec_loGood.L0_lim x0 x5 x6 x7).mon ?_
  simp only [spec_loGood.l0]
  repeat' first
  | (with_reducible exact spec_loGood.L0_lim _ _ _ _)
  | (with_reducible exact spec_loFind.F_lim _ _)
  | (with_reducible exact spec_naName.F_lim _)
  | (with_reducible refine Lim.ite ?_ ?_)
  | (with_reducible refine Lim.bind ?_ (fun _ => ?_))
  | (with_reducible exact Lim.const _)
theorem spec_loGood.F_eq (l0 : List (S55)) : spec_loGood.F l0 = (spec_loGood.L0 l0 l0 (l0.length : Int) 0) := by
  refine Lim.eq_ ?_
  simp only [spec_loGood.f]
  repeat' first
  | (with_reducible exact spec_loGood.L0_lim _ _ _ _)
  | (with_reducible exact spec_loFind.F_lim _ _)
  | (with_reducible exact spec_naName.F_lim _)
  | (with_reducible refine Lim.ite ?_ ?_)
  | (with_reducible refine Lim.bind ?_ (fun _ => ?_))
  | (with_reducible exact Lim.const _)
def spec_loIf.f (k : Nat) (l0 : List (S55)) : Option ((List (S55)) × Bool) := (spec_loGood.f k l0).bind fun t120 => (if t120 = true then (some (l0, true)) else (some (([] : List (S55)), false)))
theorem spec_loIf.mono : ∀ a0 k, LeO (spec_loIf.f k a0) (spec_loIf.f (k + 1) a0) := by
  intro a0 k
  unfold spec_loIf.f
  repeat' first
      | (with_reducible exact spec_loGood.mono _ _)
      | (with_reducible exact LeO.refl _)
      | (with_reducible exact LeO.none _)
      | (with_reducible refine LeO.ite ?_ ?_)
      | (with_reducible refine LeO.bind ?_ (fun _ => ?_))
noncomputable def spec_loIf.F (l0 : List (S55)) : Option ((List (S55)) × Bool) := lim fun k => spec_loIf.f k l0
theorem spec_loIf.F_lim (l0 : List (S55)) : Lim (fun k => spec_loIf.f k l0) (spec_loIf.F l0) := ⟨spec_loIf.mono l0, rfl⟩
theorem spec_loIf.F_eq (l0 : List (S55)) : spec_loIf.F l0 = ((spec_loGood.F l0).bind fun t120 => (if t120 = true then (some (l0, true)) else (some (([] : List (S55)), false)))) := by
  refine Lim.eq_ ?_
  simp only [spec_loIf.f]
  repeat' first
  | (with_reducible exact spec_loGood.F_lim _)
  | (with_reducible refine Lim.ite ?_ ?_)
  | (with_reducible refine Lim.bind ?_ (fun _ => ?_))
  | (with_reducible exact Lim.const _)
def spec_loPut.l0 : Nat → List (S55) → Int → ByteArray → Int → Option ((List (S55)))
  | 0, _, _, _, _ => none
  | k + 1, x0, x5, x122000, x122001 => if x5 < (x0.length : Int) then (if 0 ≤ x5 then (if ((rd_T55 x0 x5).f1) < x122001 then (spec_loPut.l0 k x0 (wrap64 (x5 + 1)) x122000 x122001) else ((some (([] : List (S55)) : List (S55))).bind fun y123 => (if x5 ≤ (x0.length : Int) then ((some (x0.take (x5 : Int).toNat : List (S55))).bind fun y126 => (if y123.length + y126.length < 5864062014805 then ((some (y123 ++ y126 : List (S55))).bind fun y130 => ((some (([(⟨x122000, x122001⟩ : S55)] : List (S55)) : List (S55))).bind fun y133 => (if y130.length + y133.length < 5864062014805 then ((some (y130 ++ y133 : List (S55))).bind fun y136 => ((some (x0.drop (x5 : Int).toNat : List (S55))).bind fun y139 => (if y136.length + y139.length < 5864062014805 then (some (y136 ++ y139)) else (none)))) else (none)))) else (none))) else (none)))) else (none)) else ((some (([] : List (S55)) : List (S55))).bind fun y146 => (if 0 ≤ x5 then (if x5 ≤ (x0.length : Int) then ((some (x0.take (x5 : Int).toNat : List (S55))).bind fun y149 => (if y146.length + y149.length < 5864062014805 then ((some (y146 ++ y149 : List (S55))).bind fun y153 => ((some (([(⟨x122000, x122001⟩ : S55)] : List (S55)) : List (S55))).bind fun y156 => (if y153.length + y156.length < 5864062014805 then ((some (y153 ++ y156 : List (S55))).bind fun y159 => ((some (x0.drop (x5 : Int).toNat : List (S55))).bind fun y162 => (if y159.length + y162.length < 5864062014805 then (some (y159 ++ y162)) else (none)))) else (none)))) else (none))) else (none)) else (none)))
def spec_loPut.f (k : Nat) (l0 : List (S55)) (a1_0 : ByteArray) (a1_1 : Int) : Option ((List (S55))) := spec_loPut.l0 k l0 0 a1_0 a1_1
theorem spec_loPut.mono_l : ∀ k, (∀ y0 y1 y2 y3, LeO (spec_loPut.l0 k y0 y1 y2 y3) (spec_loPut.l0 (k + 1) y0 y1 y2 y3))
  | 0 => fun _ _ _ _ r h => by simp [spec_loPut.l0] at h
  | k + 1 => by
    have ih0 := spec_loPut.mono_l k
    · intro y0 y1 y2 y3
      unfold spec_loPut.l0
      repeat' first
      | (with_reducible exact ih0 _ _ _ _)
      | (with_reducible exact LeO.refl _)
      | (with_reducible exact LeO.none _)
      | (with_reducible refine LeO.ite ?_ ?_)
      | (with_reducible refine LeO.bind ?_ (fun _ => ?_))
theorem spec_loPut.mono : ∀ a0 a1 a2 k, LeO (spec_loPut.f k a0 a1 a2) (spec_loPut.f (k + 1) a0 a1 a2) := by
  intro a0 a1 a2 k
  have ih0 := spec_loPut.mono_l k
  unfold spec_loPut.f
  repeat' first
      | (with_reducible exact ih0 _ _ _ _)
      | (with_reducible exact LeO.refl _)
      | (with_reducible exact LeO.none _)
      | (with_reducible refine LeO.ite ?_ ?_)
      | (with_reducible refine LeO.bind ?_ (fun _ => ?_))
noncomputable def spec_loPut.L0 (x0 : List (S55)) (x5 : Int) (x122000 : ByteArray) (x122001 : Int) : Option ((List (S55))) := lim fun k => spec_loPut.l0 k x0 x5 x122000 x122001
theorem spec_loPut.L0_lim (x0 : List (S55)) (x5 : Int) (x122000 : ByteArray) (x122001 : Int) : Lim (fun k => spec_loPut.l0 k x0 x5 x122000 x122001) (spec_loPut.L0 x0 x5 x122000 x122001) := ⟨fun k => (spec_loPut.mono_l k) x0 x5 x122000 x122001, rfl⟩
noncomputable def spec_loPut.F (l0 : List (S55)) (a1_0 : ByteArray) (a1_1 : Int) : Option ((List (S55))) := lim fun k => spec_loPut.f k l0 a1_0 a1_1
theorem spec_loPut.F_lim (l0 : List (S55)) (a1_0 : ByteArray) (a1_1 : Int) : Lim (fun k => spec_loPut.f k l0 a1_0 a1_1) (spec_loPut.F l0 a1_0 a1_1) := ⟨spec_loPut.mono l0 a1_0 a1_1, rfl⟩
theorem spec_loPut.L0_eq (x0 : List (S55)) (x5 : Int) (x122000 : ByteArray) (x122001 : Int) : spec_loPut.L0 x0 x5 x122000 x122001 = (if x5 < (x0.length : Int) then (if 0 ≤ x5 then (if ((rd_T55 x0 x5).f1) < x122001 then (spec_loPut.L0 x0 (wrap64 (x5 + 1)) x122000 x122001) else ((some (([] : List (S55)) : List (S55))).bind fun y123 => (if x5 ≤ (x0.length : Int) then ((some (x0.take (x5 : Int).toNat : List (S55))).bind fun y126 => (if y123.length + y126.length < 5864062014805 then ((some (y123 ++ y126 : List (S55))).bind fun y130 => ((some (([(⟨x122000, x122001⟩ : S55)] : List (S55)) : List (S55))).bind fun y133 => (if y130.length + y133.length < 5864062014805 then ((some (y130 ++ y133 : List (S55))).bind fun y136 => ((some (x0.drop (x5 : Int).toNat : List (S55))).bind fun y139 => (if y136.length + y139.length < 5864062014805 then (some (y136 ++ y139)) else (none)))) else (none)))) else (none))) else (none)))) else (none)) else ((some (([] : List (S55)) : List (S55))).bind fun y146 => (if 0 ≤ x5 then (if x5 ≤ (x0.length : Int) then ((some (x0.take (x5 : Int).toNat : List (S55))).bind fun y149 => (if y146.length + y149.length < 5864062014805 then ((some (y146 ++ y149 : List (S55))).bind fun y153 => ((some (([(⟨x122000, x122001⟩ : S55)] : List (S55)) : List (S55))).bind fun y156 => (if y153.length + y156.length < 5864062014805 then ((some (y153 ++ y156 : List (S55))).bind fun y159 => ((some (x0.drop (x5 : Int).toNat : List (S55))).bind fun y162 => (if y159.length + y162.length < 5864062014805 then (some (y159 ++ y162)) else (none)))) else (none)))) else (none))) else (none)) else (none)))) := by
  refine Lim.succ_eq (spec_loPut.L0_lim x0 x5 x122000 x122001).mon ?_
  simp only [spec_loPut.l0]
  repeat' first
  | (with_reducible exact spec_loPut.L0_lim _ _ _ _)
  | (with_reducible refine Lim.ite ?_ ?_)
  | (with_reducible refine Lim.bind ?_ (fun _ => ?_))
  | (with_reducible exact Lim.const _)
theorem spec_loPut.F_eq (l0 : List (S55)) (a1_0 : ByteArray) (a1_1 : Int) : spec_loPut.F l0 a1_0 a1_1 = (spec_loPut.L0 l0 0 a1_0 a1_1) := by
  refine Lim.eq_ ?_
  simp only [spec_loPut.f]
  repeat' first
  | (with_reducible exact spec_loPut.L0_lim _ _ _ _)
  | (with_reducible refine Lim.ite ?_ ?_)
  | (with_reducible refine Lim.bind ?_ (fun _ => ?_))
  | (with_reducible exact Lim.const _)
def spec_loWithout.l0 : Nat → ByteArray → List (S55) → List (S55) → Int → Int → Option ((List (S55)))
  | 0, _, _, _, _, _ => none
  | k + 1, x1, x5, x8, x9, x10 => if x10 < x9 then (if 0 ≤ x10 then (if x10 < (x8.length : Int) then (if ((rd_T55 x8 x10).f0).toList = x1.toList then (spec_loWithout.l0 k x1 x5 x8 x9 (wrap64 (x10 + 1))) else (if x5.length < 5864062014805 then (spec_loWithout.l0 k x1 (x5 ++ [(⟨(rd_T55 x8 x10).f0, (rd_T55 x8 x10).f1⟩ : S55)]) x8 x9 (wrap64 (x10 + 1))) else (none))) else (none)) else (none)) else (some x5)
def spec_loWithout.f (k : Nat) (l0 : List (S55)) (a1 : ByteArray) : Option ((List (S55))) := spec_loWithout.l0 k a1 ([] : List (S55)) l0 (l0.length : Int) 0
theorem spec_loWithout.mono_l : ∀ k, (∀ y0 y1 y2 y3 y4, LeO (spec_loWithout.l0 k y0 y1 y2 y3 y4) (spec_loWithout.l0 (k + 1) y0 y1 y2 y3 y4))
  | 0 => fun _ _ _ _ _ r h => by simp [spec_loWithout.l0] at h
  | k + 1 => by
    have ih0 := spec_loWithout.mono_l k
    · intro y0 y1 y2 y3 y4
      unfold spec_loWithout.l0
      repeat' first
      | (with_reducible exact ih0 _ _ _ _ _)
      | (with_reducible exact LeO.refl _)
      | (with_reducible exact LeO.none _)
      | (with_reducible refine LeO.ite ?_ ?_)
      | (with_reducible refine LeO.bind ?_ (fun _ => ?_))
theorem spec_loWithout.mono : ∀ a0 a1 k, LeO (spec_loWithout.f k a0 a1) (spec_loWithout.f (k + 1) a0 a1) := by
  intro a0 a1 k
  have ih0 := spec_loWithout.mono_l k
  unfold spec_loWithout.f
  repeat' first
      | (with_reducible exact ih0 _ _ _ _ _)
      | (with_reducible exact LeO.refl _)
      | (with_reducible exact LeO.none _)
      | (with_reducible refine LeO.ite ?_ ?_)
      | (with_reducible refine LeO.bind ?_ (fun _ => ?_))
noncomputable def spec_loWithout.L0 (x1 : ByteArray) (x5 : List (S55)) (x8 : List (S55)) (x9 : Int) (x10 : Int) : Option ((List (S55))) := lim fun k => spec_loWithout.l0 k x1 x5 x8 x9 x10
theorem spec_loWithout.L0_lim (x1 : ByteArray) (x5 : List (S55)) (x8 : List (S55)) (x9 : Int) (x10 : Int) : Lim (fun k => spec_loWithout.l0 k x1 x5 x8 x9 x10) (spec_loWithout.L0 x1 x5 x8 x9 x10) := ⟨fun k => (spec_loWithout.mono_l k) x1 x5 x8 x9 x10, rfl⟩
noncomputable def spec_loWithout.F (l0 : List (S55)) (a1 : ByteArray) : Option ((List (S55))) := lim fun k => spec_loWithout.f k l0 a1
theorem spec_loWithout.F_lim (l0 : List (S55)) (a1 : ByteArray) : Lim (fun k => spec_loWithout.f k l0 a1) (spec_loWithout.F l0 a1) := ⟨spec_loWithout.mono l0 a1, rfl⟩
theorem spec_loWithout.L0_eq (x1 : ByteArray) (x5 : List (S55)) (x8 : List (S55)) (x9 : Int) (x10 : Int) : spec_loWithout.L0 x1 x5 x8 x9 x10 = (if x10 < x9 then (if 0 ≤ x10 then (if x10 < (x8.length : Int) then (if ((rd_T55 x8 x10).f0).toList = x1.toList then (spec_loWithout.L0 x1 x5 x8 x9 (wrap64 (x10 + 1))) else (if x5.length < 5864062014805 then (spec_loWithout.L0 x1 (x5 ++ [(⟨(rd_T55 x8 x10).f0, (rd_T55 x8 x10).f1⟩ : S55)]) x8 x9 (wrap64 (x10 + 1))) else (none))) else (none)) else (none)) else (some x5)) := by
  refine Lim.succ_eq (spec_loWithout.L0_lim x1 x5 x8 x9 x10).mon ?_
  simp only [spec_loWithout.l0]
  repeat' first
  | (with_reducible exact spec_loWithout.L0_lim _ _ _ _ _)
  | (with_reducible refine Lim.ite ?_ ?_)
  | (with_reducible refine Lim.bind ?_ (fun _ => ?_))
  | (with_reducible exact Lim.const _)
theorem spec_loWithout.F_eq (l0 : List (S55)) (a1 : ByteArray) : spec_loWithout.F l0 a1 = (spec_loWithout.L0 a1 ([] : List (S55)) l0 (l0.length : Int) 0) := by
  refine Lim.eq_ ?_
  simp only [spec_loWithout.f]
  repeat' first
  | (with_reducible exact spec_loWithout.L0_lim _ _ _ _ _)
  | (with_reducible refine Lim.ite ?_ ?_)
  | (with_reducible refine Lim.bind ?_ (fun _ => ?_))
  | (with_reducible exact Lim.const _)
def spec_PutReferent.j0 : Nat → List (S55) → ByteArray → Int → Bool → Option ((List (S55)) × Bool)
  | 0, _, _, _, _ => none
  | k + 1, x0, x1, x2, x20 => if x20 = true then (some (([] : List (S55)), false)) else ((spec_loWithout.f k x0 x1).bind fun t177 => ((spec_loPut.f k t177 x1 x2).bind fun t180 => ((spec_loIf.f k t180).bind fun bt183 => (some (bt183.1, bt183.2)))))
def spec_PutReferent.f (k : Nat) (l0 : List (S55)) (a1 : ByteArray) (a2 : Int) : Option ((List (S55)) × Bool) := (spec_loGood.f k l0).bind fun t174 => (if t174 = true then ((spec_naName.f k a1).bind fun t175 => (if t175 = true then ((spec_loAngle.f a2).bind fun t176 => (spec_PutReferent.j0 k l0 a1 a2 (!t176))) else (spec_PutReferent.j0 k l0 a1 a2 true))) else (spec_PutReferent.j0 k l0 a1 a2 true))
theorem spec_PutReferent.mono_l : ∀ k, (∀ y0 y1 y2 y3, LeO (spec_PutReferent.j0 k y0 y1 y2 y3) (spec_PutReferent.j0 (k + 1) y0 y1 y2 y3))
  | 0 => fun _ _ _ _ r h => by simp [spec_PutReferent.j0] at h
  | k + 1 => by
    have ih0 := spec_PutReferent.mono_l k
    · intro y0 y1 y2 y3
      unfold spec_PutReferent.j0
      repeat' first
      | (with_reducible exact ih0 _ _ _ _)
      | (with_reducible exact spec_loGood.mono _ _)
      | (with_reducible exact spec_loIf.mono _ _)
      | (with_reducible exact spec_loPut.mono _ _ _ _)
      | (with_reducible exact spec_loWithout.mono _ _ _)
      | (with_reducible exact spec_naName.mono _ _)
      | (with_reducible exact LeO.refl _)
      | (with_reducible exact LeO.none _)
      | (with_reducible refine LeO.ite ?_ ?_)
      | (with_reducible refine LeO.bind ?_ (fun _ => ?_))
theorem spec_PutReferent.mono : ∀ a0 a1 a2 k, LeO (spec_PutReferent.f k a0 a1 a2) (spec_PutReferent.f (k + 1) a0 a1 a2) := by
  intro a0 a1 a2 k
  have ih0 := spec_PutReferent.mono_l k
  unfold spec_PutReferent.f
  repeat' first
      | (with_reducible exact ih0 _ _ _ _)
      | (with_reducible exact spec_loGood.mono _ _)
      | (with_reducible exact spec_loIf.mono _ _)
      | (with_reducible exact spec_loPut.mono _ _ _ _)
      | (with_reducible exact spec_loWithout.mono _ _ _)
      | (with_reducible exact spec_naName.mono _ _)
      | (with_reducible exact LeO.refl _)
      | (with_reducible exact LeO.none _)
      | (with_reducible refine LeO.ite ?_ ?_)
      | (with_reducible refine LeO.bind ?_ (fun _ => ?_))
noncomputable def spec_PutReferent.J0 (x0 : List (S55)) (x1 : ByteArray) (x2 : Int) (x20 : Bool) : Option ((List (S55)) × Bool) := lim fun k => spec_PutReferent.j0 k x0 x1 x2 x20
theorem spec_PutReferent.J0_lim (x0 : List (S55)) (x1 : ByteArray) (x2 : Int) (x20 : Bool) : Lim (fun k => spec_PutReferent.j0 k x0 x1 x2 x20) (spec_PutReferent.J0 x0 x1 x2 x20) := ⟨fun k => (spec_PutReferent.mono_l k) x0 x1 x2 x20, rfl⟩
noncomputable def spec_PutReferent.F (l0 : List (S55)) (a1 : ByteArray) (a2 : Int) : Option ((List (S55)) × Bool) := lim fun k => spec_PutReferent.f k l0 a1 a2
theorem spec_PutReferent.F_lim (l0 : List (S55)) (a1 : ByteArray) (a2 : Int) : Lim (fun k => spec_PutReferent.f k l0 a1 a2) (spec_PutReferent.F l0 a1 a2) := ⟨spec_PutReferent.mono l0 a1 a2, rfl⟩
theorem spec_PutReferent.J0_eq (x0 : List (S55)) (x1 : ByteArray) (x2 : Int) (x20 : Bool) : spec_PutReferent.J0 x0 x1 x2 x20 = (if x20 = true then (some (([] : List (S55)), false)) else ((spec_loWithout.F x0 x1).bind fun t177 => ((spec_loPut.F t177 x1 x2).bind fun t180 => ((spec_loIf.F t180).bind fun bt183 => (some (bt183.1, bt183.2)))))) := by
  refine Lim.succ_eq (spec_PutReferent.J0_lim x0 x1 x2 x20).mon ?_
  simp only [spec_PutReferent.j0]
  repeat' first
  | (with_reducible exact spec_PutReferent.J0_lim _ _ _ _)
  | (with_reducible exact spec_loGood.F_lim _)
  | (with_reducible exact spec_loIf.F_lim _)
  | (with_reducible exact spec_loPut.F_lim _ _ _)
  | (with_reducible exact spec_loWithout.F_lim _ _)
  | (with_reducible exact spec_naName.F_lim _)
  | (with_reducible refine Lim.ite ?_ ?_)
  | (with_reducible refine Lim.bind ?_ (fun _ => ?_))
  | (with_reducible exact Lim.const _)
theorem spec_PutReferent.F_eq (l0 : List (S55)) (a1 : ByteArray) (a2 : Int) : spec_PutReferent.F l0 a1 a2 = ((spec_loGood.F l0).bind fun t174 => (if t174 = true then ((spec_naName.F a1).bind fun t175 => (if t175 = true then ((spec_loAngle.f a2).bind fun t176 => (spec_PutReferent.J0 l0 a1 a2 (!t176))) else (spec_PutReferent.J0 l0 a1 a2 true))) else (spec_PutReferent.J0 l0 a1 a2 true))) := by
  refine Lim.eq_ ?_
  simp only [spec_PutReferent.f]
  repeat' first
  | (with_reducible exact spec_PutReferent.J0_lim _ _ _ _)
  | (with_reducible exact spec_loGood.F_lim _)
  | (with_reducible exact spec_loIf.F_lim _)
  | (with_reducible exact spec_loPut.F_lim _ _ _)
  | (with_reducible exact spec_loWithout.F_lim _ _)
  | (with_reducible exact spec_naName.F_lim _)
  | (with_reducible refine Lim.ite ?_ ?_)
  | (with_reducible refine Lim.bind ?_ (fun _ => ?_))
  | (with_reducible exact Lim.const _)
def impl_within.f (a0 : Int) (a1 : Int) (a2 : Int) : Option (Bool) := if a0 ≥ a1 then (some (decide (a0 ≤ a2))) else (some false)
def stringslite_IndexByte.f (a0 : ByteArray) (a1 : Int) : Option (Int) := some (Lib.indexByte a0.data.toList a1.toNat.toUInt8)
def strings_IndexByte.f (a0 : ByteArray) (a1 : Int) : Option (Int) := (stringslite_IndexByte.f a0 a1).bind fun t187 => (some t187)
def impl_hasOnly.l0 : Nat → ByteArray → ByteArray → Int → Int → Option (Bool)
  | 0, _, _, _, _ => none
  | k + 1, x0, x1, x7, x8 => if x8 < x7 then (if 0 ≤ x8 then (if x8 < (x0.size : Int) then ((strings_IndexByte.f x1 (bt x0 x8)).bind fun t188 => (if t188 < 0 then (some false) else (impl_hasOnly.l0 k x0 x1 x7 (wrap64 (x8 + 1))))) else (none)) else (none)) else (some true)
def impl_hasOnly.f (k : Nat) (a0 : ByteArray) (a1 : ByteArray) : Option (Bool) := impl_hasOnly.l0 k a0 a1 (a0.size : Int) 0
theorem impl_hasOnly.mono_l : ∀ k, (∀ y0 y1 y2 y3, LeO (impl_hasOnly.l0 k y0 y1 y2 y3) (impl_hasOnly.l0 (k + 1) y0 y1 y2 y3))
  | 0 => fun _ _ _ _ r h => by simp [impl_hasOnly.l0] at h
  | k + 1 => by
    have ih0 := impl_hasOnly.mono_l k
    · intro y0 y1 y2 y3
      unfold impl_hasOnly.l0
      repeat' first
      | (with_reducible exact ih0 _ _ _ _)
      | (with_reducible exact LeO.refl _)
      | (with_reducible exact LeO.none _)
      | (with_reducible refine LeO.ite ?_ ?_)
      | (with_reducible refine LeO.bind ?_ (fun _ => ?_))
theorem impl_hasOnly.mono : ∀ a0 a1 k, LeO (impl_hasOnly.f k a0 a1) (impl_hasOnly.f (k + 1) a0 a1) := by
  intro a0 a1 k
  have ih0 := impl_hasOnly.mono_l k
  unfold impl_hasOnly.f
  repeat' first
      | (with_reducible exact ih0 _ _ _ _)
      | (with_reducible exact LeO.refl _)
      | (with_reducible exact LeO.none _)
      | (with_reducible refine LeO.ite ?_ ?_)
      | (with_reducible refine LeO.bind ?_ (fun _ => ?_))
noncomputable def impl_hasOnly.L0 (x0 : ByteArray) (x1 : ByteArray) (x7 : Int) (x8 : Int) : Option (Bool) := lim fun k => impl_hasOnly.l0 k x0 x1 x7 x8
theorem impl_hasOnly.L0_lim (x0 : ByteArray) (x1 : ByteArray) (x7 : Int) (x8 : Int) : Lim (fun k => impl_hasOnly.l0 k x0 x1 x7 x8) (impl_hasOnly.L0 x0 x1 x7 x8) := ⟨fun k => (impl_hasOnly.mono_l k) x0 x1 x7 x8, rfl⟩
noncomputable def impl_hasOnly.F (a0 : ByteArray) (a1 : ByteArray) : Option (Bool) := lim fun k => impl_hasOnly.f k a0 a1
theorem impl_hasOnly.F_lim (a0 : ByteArray) (a1 : ByteArray) : Lim (fun k => impl_hasOnly.f k a0 a1) (impl_hasOnly.F a0 a1) := ⟨impl_hasOnly.mono a0 a1, rfl⟩
theorem impl_hasOnly.L0_eq (x0 : ByteArray) (x1 : ByteArray) (x7 : Int) (x8 : Int) : impl_hasOnly.L0 x0 x1 x7 x8 = (if x8 < x7 then (if 0 ≤ x8 then (if x8 < (x0.size : Int) then ((strings_IndexByte.f x1 (bt x0 x8)).bind fun t188 => (if t188 < 0 then (some false) else (impl_hasOnly.L0 x0 x1 x7 (wrap64 (x8 + 1))))) else (none)) else (none)) else (some true)) := by
  refine Lim.succ_eq (impl_hasOnly.L0_lim x0 x1 x7 x8).mon ?_
  simp only [impl_hasOnly.l0]
  repeat' first
  | (with_reducible exact impl_hasOnly.L0_lim _ _ _ _)
  | (with_reducible refine Lim.ite ?_ ?_)
  | (with_reducible refine Lim.bind ?_ (fun _ => ?_))
  | (with_reducible exact Lim.const _)
theorem impl_hasOnly.F_eq (a0 : ByteArray) (a1 : ByteArray) : impl_hasOnly.F a0 a1 = (impl_hasOnly.L0 a0 a1 (a0.size : Int) 0) := by
  refine Lim.eq_ ?_
  simp only [impl_hasOnly.f]
  repeat' first
  | (with_reducible exact impl_hasOnly.L0_lim _ _ _ _)
  | (with_reducible refine Lim.ite ?_ ?_)
  | (with_reducible refine Lim.bind ?_ (fun _ => ?_))
  | (with_reducible exact Lim.const _)
def impl_isWordOf.f (k : Nat) (a0 : ByteArray) (a1 : ByteArray) : Option (Bool) := (impl_within.f (a0.size : Int) 1 8).bind fun t189 => (if t189 = true then ((impl_hasOnly.f k a0 a1).bind fun t190 => (some t190)) else (some false))
theorem impl_isWordOf.mono : ∀ a0 a1 k, LeO (impl_isWordOf.f k a0 a1) (impl_isWordOf.f (k + 1) a0 a1) := by
  intro a0 a1 k
  unfold impl_isWordOf.f
  repeat' first
      | (with_reducible exact impl_hasOnly.mono _ _ _)
      | (with_reducible exact LeO.refl _)
      | (with_reducible exact LeO.none _)
      | (with_reducible refine LeO.ite ?_ ?_)
      | (with_reducible refine LeO.bind ?_ (fun _ => ?_))
noncomputable def impl_isWordOf.F (a0 : ByteArray) (a1 : ByteArray) : Option (Bool) := lim fun k => impl_isWordOf.f k a0 a1
theorem impl_isWordOf.F_lim (a0 : ByteArray) (a1 : ByteArray) : Lim (fun k => impl_isWordOf.f k a0 a1) (impl_isWordOf.F a0 a1) := ⟨impl_isWordOf.mono a0 a1, rfl⟩
theorem impl_isWordOf.F_eq (a0 : ByteArray) (a1 : ByteArray) : impl_isWordOf.F a0 a1 = ((impl_within.f (a0.size : Int) 1 8).bind fun t189 => (if t189 = true then ((impl_hasOnly.F a0 a1).bind fun t190 => (some t190)) else (some false))) := by
  refine Lim.eq_ ?_
  simp only [impl_isWordOf.f]
  repeat' first
  | (with_reducible exact impl_hasOnly.F_lim _ _)
  | (with_reducible refine Lim.ite ?_ ?_)
  | (with_reducible refine Lim.bind ?_ (fun _ => ?_))
  | (with_reducible exact Lim.const _)
def impl_isAngle.f (a0 : Int) : Option (Bool) := (impl_within.f a0 (-90) 90).bind fun t191 => (some t191)
def impl_locusOf_1.f (a0_0 : ByteArray) (a0_1 : Int) (a1_0 : ByteArray) : Option (Bool) := some (a0_0.toList == a1_0.toList)
def slices_IndexFunc_Locus_impl_locusOf_1.l0 : Nat → List (S55) → Int → Int → ByteArray → Option (Int)
  | 0, _, _, _, _ => none
  | k + 1, x0, x7, x8, x39000 => if x8 < x7 then (if 0 ≤ x8 then (if x8 < (x0.length : Int) then ((impl_locusOf_1.f ((rd_T55 x0 x8).f0) ((rd_T55 x0 x8).f1) x39000).bind fun t194 => (if t194 = true then (some x8) else (slices_IndexFunc_Locus_impl_locusOf_1.l0 k x0 x7 (wrap64 (x8 + 1)) x39000))) else (none)) else (none)) else (some (-1))
def slices_IndexFunc_Locus_impl_locusOf_1.f (k : Nat) (l0 : List (S55)) (a1_0 : ByteArray) : Option (Int) := slices_IndexFunc_Locus_impl_locusOf_1.l0 k l0 (l0.length : Int) 0 a1_0
theorem slices_IndexFunc_Locus_impl_locusOf_1.mono_l : ∀ k, (∀ y0 y1 y2 y3, LeO (slices_IndexFunc_Locus_impl_locusOf_1.l0 k y0 y1 y2 y3) (slices_IndexFunc_Locus_impl_locusOf_1.l0 (k + 1) y0 y1 y2 y3))
  | 0 => fun _ _ _ _ r h => by simp [slices_IndexFunc_Locus_impl_locusOf_1.l0] at h
  | k + 1 => by
    have ih0 := slices_IndexFunc_Locus_impl_locusOf_1.mono_l k
    · intro y0 y1 y2 y3
      unfold slices_IndexFunc_Locus_impl_locusOf_1.l0
      repeat' first
      | (with_reducible exact ih0 _ _ _ _)
      | (with_reducible exact LeO.refl _)
      | (with_reducible exact LeO.none _)
      | (with_reducible refine LeO.ite ?_ ?_)
      | (with_reducible refine LeO.bind ?_ (fun _ => ?_))
theorem slices_IndexFunc_Locus_impl_locusOf_1.mono : ∀ a0 a1 k, LeO (slices_IndexFunc_Locus_impl_locusOf_1.f k a0 a1) (slices_IndexFunc_Locus_impl_locusOf_1.f (k + 1) a0 a1) := by
  intro a0 a1 k
  have ih0 := slices_IndexFunc_Locus_impl_locusOf_1.mono_l k
  unfold slices_IndexFunc_Locus_impl_locusOf_1.f
  repeat' first
      | (with_reducible exact ih0 _ _ _ _)
      | (with_reducible exact LeO.refl _)
      | (with_reducible exact LeO.none _)
      | (with_reducible refine LeO.ite ?_ ?_)
      | (with_reducible refine LeO.bind ?_ (fun _ => ?_))
noncomputable def slices_IndexFunc_Locus_impl_locusOf_1.L0 (x0 : List (S55)) (x7 : Int) (x8 : Int) (x39000 : ByteArray) : Option (Int) := lim fun k => slices_IndexFunc_Locus_impl_locusOf_1.l0 k x0 x7 x8 x39000
theorem slices_IndexFunc_Locus_impl_locusOf_1.L0_lim (x0 : List (S55)) (x7 : Int) (x8 : Int) (x39000 : ByteArray) : Lim (fun k => slices_IndexFunc_Locus_impl_locusOf_1.l0 k x0 x7 x8 x39000) (slices_IndexFunc_Locus_impl_locusOf_1.L0 x0 x7 x8 x39000) := ⟨fun k => (slices_IndexFunc_Locus_impl_locusOf_1.mono_l k) x0 x7 x8 x39000, rfl⟩
noncomputable def slices_IndexFunc_Locus_impl_locusOf_1.F (l0 : List (S55)) (a1_0 : ByteArray) : Option (Int) := lim fun k => slices_IndexFunc_Locus_impl_locusOf_1.f k l0 a1_0
theorem slices_IndexFunc_Locus_impl_locusOf_1.F_lim (l0 : List (S55)) (a1_0 : ByteArray) : Lim (fun k => slices_IndexFunc_Locus_impl_locusOf_1.f k l0 a1_0) (slices_IndexFunc_Locus_impl_locusOf_1.F l0 a1_0) := ⟨slices_IndexFunc_Locus_impl_locusOf_1.mono l0 a1_0, rfl⟩
theorem slices_IndexFunc_Locus_impl_locusOf_1.L0_eq (x0 : List (S55)) (x7 : Int) (x8 : Int) (x39000 : ByteArray) : slices_IndexFunc_Locus_impl_locusOf_1.L0 x0 x7 x8 x39000 = (if x8 < x7 then (if 0 ≤ x8 then (if x8 < (x0.length : Int) then ((impl_locusOf_1.f ((rd_T55 x0 x8).f0) ((rd_T55 x0 x8).f1) x39000).bind fun t194 => (if t194 = true then (some x8) else (slices_IndexFunc_Locus_impl_locusOf_1.L0 x0 x7 (wrap64 (x8 + 1)) x39000))) else (none)) else (none)) else (some (-1))) := by
  refine Lim.succ_eq (slices_IndexFunc_Locus_impl_locusOf_1.L0_lim x0 x7 x8 x39000).mon ?_
  simp only [slices_IndexFunc_Locus_impl_locusOf_1.l0]
  repeat' first
  | (with_reducible exact slices_IndexFunc_Locus_impl_locusOf_1.L0_lim _ _ _ _)
  | (with_reducible refine Lim.ite ?_ ?_)
  | (with_reducible refine Lim.bind ?_ (fun _ => ?_))
  | (with_reducible exact Lim.const _)
theorem slices_IndexFunc_Locus_impl_locusOf_1.F_eq (l0 : List (S55)) (a1_0 : ByteArray) : slices_IndexFunc_Locus_impl_locusOf_1.F l0 a1_0 = (slices_IndexFunc_Locus_impl_locusOf_1.L0 l0 (l0.length : Int) 0 a1_0) := by
  refine Lim.eq_ ?_
  simp only [slices_IndexFunc_Locus_impl_locusOf_1.f]
  repeat' first
  | (with_reducible exact slices_IndexFunc_Locus_impl_locusOf_1.L0_lim _ _ _ _)
  | (with_reducible refine Lim.ite ?_ ?_)
  | (with_reducible refine Lim.bind ?_ (fun _ => ?_))
  | (with_reducible exact Lim.const _)
def impl_locusOf.f (k : Nat) (l0 : List (S55)) (a1 : ByteArray) : Option (Int) := (slices_IndexFunc_Locus_impl_locusOf_1.f k l0 a1).bind fun t196 => (some t196)
theorem impl_locusOf.mono : ∀ a0 a1 k, LeO (impl_locusOf.f k a0 a1) (impl_locusOf.f (k + 1) a0 a1) := by
  intro a0 a1 k
  unfold impl_locusOf.f
  repeat' first
      | (with_reducible exact slices_IndexFunc_Locus_impl_locusOf_1.mono _ _ _)
      | (with_reducible exact LeO.refl _)
      | (with_reducible exact LeO.none _)
      | (with_reducible refine LeO.ite ?_ ?_)
      | (with_reducible refine LeO.bind ?_ (fun _ => ?_))
noncomputable def impl_locusOf.F (l0 : List (S55)) (a1 : ByteArray) : Option (Int) := lim fun k => impl_locusOf.f k l0 a1
theorem impl_locusOf.F_lim (l0 : List (S55)) (a1 : ByteArray) : Lim (fun k => impl_locusOf.f k l0 a1) (impl_locusOf.F l0 a1) := ⟨impl_locusOf.mono l0 a1, rfl⟩
theorem impl_locusOf.F_eq (l0 : List (S55)) (a1 : ByteArray) : impl_locusOf.F l0 a1 = ((slices_IndexFunc_Locus_impl_locusOf_1.F l0 a1).bind fun t196 => (some t196)) := by
  refine Lim.eq_ ?_
  simp only [impl_locusOf.f]
  repeat' first
  | (with_reducible exact slices_IndexFunc_Locus_impl_locusOf_1.F_lim _ _)
  | (with_reducible refine Lim.ite ?_ ?_)
  | (with_reducible refine Lim.bind ?_ (fun _ => ?_))
  | (with_reducible exact Lim.const _)
def impl_AreLoci.l0 : Nat → List (S55) → List (S55) → Int → Int → Option (Bool)
  | 0, _, _, _, _ => none
  | k + 1, x0, x5, x6, x7 => if x7 < x6 then (if 0 ≤ x7 then (if x7 < (x5.length : Int) then ((impl_isWordOf.f k ((rd_T55 x5 x7).f0) (⟨#[97, 98, 99, 100, 101, 102, 103, 104, 105, 106, 107, 108, 109, 110, 111, 112, 113, 114, 115, 116, 117, 118, 119, 120, 121, 122]⟩ : ByteArray)).bind fun t199 => (if t199 = true then ((impl_isAngle.f ((rd_T55 x5 x7).f1)).bind fun t200 => (if t200 = true then (if x7 > 0 then (if 0 ≤ (wrap64 (x7 - 1)) then (if (wrap64 (x7 - 1)) < (x0.length : Int) then (if ((rd_T55 x5 x7).f1) ≤ ((rd_T55 x0 (wrap64 (x7 - 1))).f1) then (some false) else (if x7 ≤ (x0.length : Int) then ((impl_locusOf.f k (x0.take (x7 : Int).toNat) ((rd_T55 x5 x7).f0)).bind fun t206 => (if t206 ≥ 0 then (some false) else (impl_AreLoci.l0 k x0 x5 x6 (wrap64 (x7 + 1))))) else (none))) else (none)) else (none)) else (if x7 ≤ (x0.length : Int) then ((impl_locusOf.f k (x0.take (x7 : Int).toNat) ((rd_T55 x5 x7).f0)).bind fun t211 => (if t211 ≥ 0 then (some false) else (impl_AreLoci.l0 k x0 x5 x6 (wrap64 (x7 + 1))))) else (none))) else (some false))) else (some false))) else (none)) else (none)) else (some (decide ((x0.length : Int) ≤ 8)))
def impl_AreLoci.f (k : Nat) (l0 : List (S55)) : Option (Bool) := impl_AreLoci.l0 k l0 l0 (l0.length : Int) 0
theorem impl_AreLoci.mono_l : ∀ k, (∀ y0 y1 y2 y3, LeO (impl_AreLoci.l0 k y0 y1 y2 y3) (impl_AreLoci.l0 (k + 1) y0 y1 y2 y3))
  | 0 => fun _ _ _ _ r h => by simp [impl_AreLoci.l0] at h
  | k + 1 => by
    have ih0 := impl_AreLoci.mono_l k
    · intro y0 y1 y2 y3
      unfold impl_AreLoci.l0
      repeat' first
      | (with_reducible exact ih0 _ _ _ _)
      | (with_reducible exact impl_isWordOf.mono _ _ _)
      | (with_reducible exact impl_locusOf.mono _ _ _)
      | (with_reducible exact LeO.refl _)
      | (with_reducible exact LeO.none _)
      | (with_reducible refine LeO.ite ?_ ?_)
      | (with_reducible refine LeO.bind ?_ (fun _ => ?_))
theorem impl_AreLoci.mono : ∀ a0 k, LeO (impl_AreLoci.f k a0) (impl_AreLoci.f (k + 1) a0) := by
  intro a0 k
  have ih0 := impl_AreLoci.mono_l k
  unfold impl_AreLoci.f
  repeat' first
      | (with_reducible exact ih0 _ _ _ _)
      | (with_reducible exact impl_isWordOf.mono _ _ _)
      | (with_reducible exact impl_locusOf.mono _ _ _)
      | (with_reducible exact LeO.refl _)
      | (with_reducible exact LeO.none _)
      | (with_reducible refine LeO.ite ?_ ?_)
      | (with_reducible refine LeO.bind ?_ (fun _ => ?_))
noncomputable def impl_AreLoci.L0 (x0 : List (S55)) (x5 : List (S55)) (x6 : Int) (x7 : Int) : Option (Bool) := lim fun k => impl_AreLoci.l0 k x0 x5 x6 x7
theorem impl_AreLoci.L0_lim (x0 : List (S55)) (x5 : List (S55)) (x6 : Int) (x7 : Int) : Lim (fun k => impl_AreLoci.l0 k x0 x5 x6 x7) (impl_AreLoci.L0 x0 x5 x6 x7) := ⟨fun k => (impl_AreLoci.mono_l k) x0 x5 x6 x7, rfl⟩
noncomputable def impl_AreLoci.F (l0 : List (S55)) : Option (Bool) := lim fun k => impl_AreLoci.f k l0
theorem impl_AreLoci.F_lim (l0 : List (S55)) : Lim (fun k => impl_AreLoci.f k l0) (impl_AreLoci.F l0) := ⟨impl_AreLoci.mono l0, rfl⟩
theorem impl_AreLoci.L0_eq (x0 : List (S55)) (x5 : List (S55)) (x6 : Int) (x7 : Int) : impl_AreLoci.L0 x0 x5 x6 x7 = (if x7 < x6 then (if 0 ≤ x7 then (if x7 < (x5.length : Int) then ((impl_isWordOf.F ((rd_T55 x5 x7).f0) (⟨#[97, 98, 99, 100, 101, 102, 103, 104, 105, 106, 107, 108, 109, 110, 111, 112, 113, 114, 115, 116, 117, 118, 119, 120, 121, 122]⟩ : ByteArray)).bind fun t199 => (if t199 = true then ((impl_isAngle.f ((rd_T55 x5 x7).f1)).bind fun t200 => (if t200 = true then (if x7 > 0 then (if 0 ≤ (wrap64 (x7 - 1)) then (if (wrap64 (x7 - 1)) < (x0.length : Int) then (if ((rd_T55 x5 x7).f1) ≤ ((rd_T55 x0 (wrap64 (x7 - 1))).f1) then (some false) else (if x7 ≤ (x0.length : Int) then ((impl_locusOf.F (x0.take (x7 : Int).toNat) ((rd_T55 x5 x7).f0)).bind fun t206 => (if t206 ≥ 0 then (some false) else (impl_AreLoci.L0 x0 x5 x6 (wrap64 (x7 + 1))))) else (none))) else (none)) else (none)) else (if x7 ≤ (x0.length : Int) then ((impl_locusOf.F (x0.take (x7 : Int).toNat) ((rd_T55 x5 x7).f0)).bind fun t211 => (if t211 ≥ 0 then (some false) else (impl_AreLoci.L0 x0 x5 x6 (wrap64 (x7 + 1))))) else (none))) else (some false))) else (some false))) else (none)) else (none)) else (some (decide ((x0.length : Int) ≤ 8)))) := by
  refine Lim.succ_eq (impl_AreLoci.L0_lim x0 x5 x6 x7).mon ?_
  simp only [impl_AreLoci.l0]
  repeat' first
  | (with_reducible exact impl_AreLoci.L0_lim _ _ _ _)
  | (with_reducible exact impl_isWordOf.F_lim _ _)
  | (with_reducible exact impl_locusOf.F_lim _ _)
  | (with_reducible refine Lim.ite ?_ ?_)
  | (with_reducible refine Lim.bind ?_ (fun _ => ?_))
  | (with_reducible exact Lim.const _)
theorem impl_AreLoci.F_eq (l0 : List (S55)) : impl_AreLoci.F l0 = (impl_AreLoci.L0 l0 l0 (l0.length : Int) 0) := by
  refine Lim.eq_ ?_
  simp only [impl_AreLoci.f]
  repeat' first
  | (with_reducible exact impl_AreLoci.L0_lim _ _ _ _)
  | (with_reducible exact impl_isWordOf.F_lim _ _)
  | (with_reducible exact impl_locusOf.F_lim _ _)
  | (with_reducible refine Lim.ite ?_ ?_)
  | (with_reducible refine Lim.bind ?_ (fun _ => ?_))
  | (with_reducible exact Lim.const _)
def impl_sortedLoci_1.f (a0_0 : ByteArray) (a0_1 : Int) (a1_0 : ByteArray) (a1_1 : Int) : Option (Int) := some (wrap64 (a0_1 - a1_1))
def slices_SortFunc_Locus_impl_sortedLoci_1.key (x : S55) : Int := x.f1
instance : Inhabited S55 := ⟨z55⟩
instance : Inhabited (Keyed slices_SortFunc_Locus_impl_sortedLoci_1.key) := ⟨⟨z55, by decide⟩⟩
def slices_SortFunc_Locus_impl_sortedLoci_1.f (l0 : List S55) : Option (List S55) := if 0 < l0.length ∧ l0.length ≤ 12 ∧ ∀ x ∈ l0, InKey slices_SortFunc_Locus_impl_sortedLoci_1.key x then some (sortKey slices_SortFunc_Locus_impl_sortedLoci_1.key l0) else none
def impl_sortedLoci.f (k : Nat) (l0 : List (S55)) : Option ((List (S55)) × Bool) := (slices_SortFunc_Locus_impl_sortedLoci_1.f l0).bind fun t214 => ((impl_AreLoci.f k t214).bind fun t215 => (if t215 = true then (some (t214, true)) else (some (([] : List (S55)), false))))
theorem impl_sortedLoci.mono : ∀ a0 k, LeO (impl_sortedLoci.f k a0) (impl_sortedLoci.f (k + 1) a0) := by
  intro a0 k
  unfold impl_sortedLoci.f
  repeat' first
      | (with_reducible exact impl_AreLoci.mono _ _)
      | (with_reducible exact LeO.refl _)
      | (with_reducible exact LeO.none _)
      | (with_reducible refine LeO.ite ?_ ?_)
      | (with_reducible refine LeO.bind ?_ (fun _ => ?_))
noncomputable def impl_sortedLoci.F (l0 : List (S55)) : Option ((List (S55)) × Bool) := lim fun k => impl_sortedLoci.f k l0
theorem impl_sortedLoci.F_lim (l0 : List (S55)) : Lim (fun k => impl_sortedLoci.f k l0) (impl_sortedLoci.F l0) := ⟨impl_sortedLoci.mono l0, rfl⟩
theorem impl_sortedLoci.F_eq (l0 : List (S55)) : impl_sortedLoci.F l0 = ((slices_SortFunc_Locus_impl_sortedLoci_1.f l0).bind fun t214 => ((impl_AreLoci.F t214).bind fun t215 => (if t215 = true then (some (t214, true)) else (some (([] : List (S55)), false))))) := by
  refine Lim.eq_ ?_
  simp only [impl_sortedLoci.f]
  repeat' first
  | (with_reducible exact impl_AreLoci.F_lim _)
  | (with_reducible refine Lim.ite ?_ ?_)
  | (with_reducible refine Lim.bind ?_ (fun _ => ?_))
  | (with_reducible exact Lim.const _)
def slices_Clone_Locus.f (l0 : List (S55)) : Option ((List (S55))) := (some (([] : List (S55)) : List (S55))).bind fun y216 => (if y216.length + l0.length < 5864062014805 then (some (y216 ++ l0)) else (none))
def impl_without_1.f (a0_0 : ByteArray) (a0_1 : Int) (a1_0 : ByteArray) : Option (Bool) := some (a0_0.toList == a1_0.toList)
def slices_IndexFunc_Locus_impl_without_1.l0 : Nat → List (S55) → Int → Int → ByteArray → Option (Int)
  | 0, _, _, _, _ => none
  | k + 1, x0, x7, x8, x39000 => if x8 < x7 then (if 0 ≤ x8 then (if x8 < (x0.length : Int) then ((impl_without_1.f ((rd_T55 x0 x8).f0) ((rd_T55 x0 x8).f1) x39000).bind fun t224 => (if t224 = true then (some x8) else (slices_IndexFunc_Locus_impl_without_1.l0 k x0 x7 (wrap64 (x8 + 1)) x39000))) else (none)) else (none)) else (some (-1))
def slices_IndexFunc_Locus_impl_without_1.f (k : Nat) (l0 : List (S55)) (a1_0 : ByteArray) : Option (Int) := slices_IndexFunc_Locus_impl_without_1.l0 k l0 (l0.length : Int) 0 a1_0
theorem slices_IndexFunc_Locus_impl_without_1.mono_l : ∀ k, (∀ y0 y1 y2 y3, LeO (slices_IndexFunc_Locus_impl_without_1.l0 k y0 y1 y2 y3) (slices_IndexFunc_Locus_impl_without_1.l0 (k + 1) y0 y1 y2 y3))
  | 0 => fun _ _ _ _ r h => by simp [slices_IndexFunc_Locus_impl_without_1.l0] at h
  | k + 1 => by
    have ih0 := slices_IndexFunc_Locus_impl_without_1.mono_l k
    · intro y0 y1 y2 y3
      unfold slices_IndexFunc_Locus_impl_without_1.l0
      repeat' first
      | (with_reducible exact ih0 _ _ _ _)
      | (with_reducible exact LeO.refl _)
      | (with_reducible exact LeO.none _)
      | (with_reducible refine LeO.ite ?_ ?_)
      | (with_reducible refine LeO.bind ?_ (fun _ => ?_))
theorem slices_IndexFunc_Locus_impl_without_1.mono : ∀ a0 a1 k, LeO (slices_IndexFunc_Locus_impl_without_1.f k a0 a1) (slices_IndexFunc_Locus_impl_without_1.f (k + 1) a0 a1) := by
  intro a0 a1 k
  have ih0 := slices_IndexFunc_Locus_impl_without_1.mono_l k
  unfold slices_IndexFunc_Locus_impl_without_1.f
  repeat' first
      | (with_reducible exact ih0 _ _ _ _)
      | (with_reducible exact LeO.refl _)
      | (with_reducible exact LeO.none _)
      | (with_reducible refine LeO.ite ?_ ?_)
      | (with_reducible refine LeO.bind ?_ (fun _ => ?_))
noncomputable def slices_IndexFunc_Locus_impl_without_1.L0 (x0 : List (S55)) (x7 : Int) (x8 : Int) (x39000 : ByteArray) : Option (Int) := lim fun k => slices_IndexFunc_Locus_impl_without_1.l0 k x0 x7 x8 x39000
theorem slices_IndexFunc_Locus_impl_without_1.L0_lim (x0 : List (S55)) (x7 : Int) (x8 : Int) (x39000 : ByteArray) : Lim (fun k => slices_IndexFunc_Locus_impl_without_1.l0 k x0 x7 x8 x39000) (slices_IndexFunc_Locus_impl_without_1.L0 x0 x7 x8 x39000) := ⟨fun k => (slices_IndexFunc_Locus_impl_without_1.mono_l k) x0 x7 x8 x39000, rfl⟩
noncomputable def slices_IndexFunc_Locus_impl_without_1.F (l0 : List (S55)) (a1_0 : ByteArray) : Option (Int) := lim fun k => slices_IndexFunc_Locus_impl_without_1.f k l0 a1_0
theorem slices_IndexFunc_Locus_impl_without_1.F_lim (l0 : List (S55)) (a1_0 : ByteArray) : Lim (fun k => slices_IndexFunc_Locus_impl_without_1.f k l0 a1_0) (slices_IndexFunc_Locus_impl_without_1.F l0 a1_0) := ⟨slices_IndexFunc_Locus_impl_without_1.mono l0 a1_0, rfl⟩
theorem slices_IndexFunc_Locus_impl_without_1.L0_eq (x0 : List (S55)) (x7 : Int) (x8 : Int) (x39000 : ByteArray) : slices_IndexFunc_Locus_impl_without_1.L0 x0 x7 x8 x39000 = (if x8 < x7 then (if 0 ≤ x8 then (if x8 < (x0.length : Int) then ((impl_without_1.f ((rd_T55 x0 x8).f0) ((rd_T55 x0 x8).f1) x39000).bind fun t224 => (if t224 = true then (some x8) else (slices_IndexFunc_Locus_impl_without_1.L0 x0 x7 (wrap64 (x8 + 1)) x39000))) else (none)) else (none)) else (some (-1))) := by
  refine Lim.succ_eq (slices_IndexFunc_Locus_impl_without_1.L0_lim x0 x7 x8 x39000).mon ?_
  simp only [slices_IndexFunc_Locus_impl_without_1.l0]
  repeat' first
  | (with_reducible exact slices_IndexFunc_Locus_impl_without_1.L0_lim _ _ _ _)
  | (with_reducible refine Lim.ite ?_ ?_)
  | (with_reducible refine Lim.bind ?_ (fun _ => ?_))
  | (with_reducible exact Lim.const _)
theorem slices_IndexFunc_Locus_impl_without_1.F_eq (l0 : List (S55)) (a1_0 : ByteArray) : slices_IndexFunc_Locus_impl_without_1.F l0 a1_0 = (slices_IndexFunc_Locus_impl_without_1.L0 l0 (l0.length : Int) 0 a1_0) := by
  refine Lim.eq_ ?_
  simp only [slices_IndexFunc_Locus_impl_without_1.f]
  repeat' first
  | (with_reducible exact slices_IndexFunc_Locus_impl_without_1.L0_lim _ _ _ _)
  | (with_reducible refine Lim.ite ?_ ?_)
  | (with_reducible refine Lim.bind ?_ (fun _ => ?_))
  | (with_reducible exact Lim.const _)
def slices_DeleteFunc_Locus_impl_without_1.l0 : Nat → List (S55) → Int → Int → ByteArray → Option ((List (S55)))
  | 0, _, _, _, _ => none
  | k + 1, x0, x5, x6, x39000 => if x6 < (x0.length : Int) then (if 0 ≤ x6 then ((impl_without_1.f ((rd_T55 x0 x6).f0) ((rd_T55 x0 x6).f1) x39000).bind fun t225 => (if t225 = true then (slices_DeleteFunc_Locus_impl_without_1.l0 k x0 x5 (wrap64 (x6 + 1)) x39000) else (if 0 ≤ x5 then (if x5 < (x0.length : Int) then (slices_DeleteFunc_Locus_impl_without_1.l0 k (x0.set (x5 : Int).toNat (⟨(rd_T55 x0 x6).f0, (rd_T55 x0 x6).f1⟩ : S55)) (wrap64 (x5 + 1)) (wrap64 (x6 + 1)) x39000) else (none)) else (none)))) else (none)) else (if 0 ≤ x5 then (if x5 ≤ (x0.length : Int) then (some ((x0.take (x5 : Int).toNat ++ List.replicate (x0.length - (x5 : Int).toNat) z55).take (x5 : Int).toNat)) else (none)) else (none))
def slices_DeleteFunc_Locus_impl_without_1.f (k : Nat) (l0 : List (S55)) (a1_0 : ByteArray) : Option ((List (S55))) := (slices_IndexFunc_Locus_impl_without_1.f k l0 a1_0).bind fun t222 => (if t222 = (-1) then (some l0) else (slices_DeleteFunc_Locus_impl_without_1.l0 k l0 t222 (wrap64 (t222 + 1)) a1_0))
theorem slices_DeleteFunc_Locus_impl_without_1.mono_l : ∀ k, (∀ y0 y1 y2 y3, LeO (slices_DeleteFunc_Locus_impl_without_1.l0 k y0 y1 y2 y3) (slices_DeleteFunc_Locus_impl_without_1.l0 (k + 1) y0 y1 y2 y3))
  | 0 => fun _ _ _ _ r h => by simp [slices_DeleteFunc_Locus_impl_without_1.l0] at h
  | k + 1 => by
    have ih0 := slices_DeleteFunc_Locus_impl_without_1.mono_l k
    · intro y0 y1 y2 y3
      unfold slices_DeleteFunc_Locus_impl_without_1.l0
      repeat' first
      | (with_reducible exact ih0 _ _ _ _)
      | (with_reducible exact slices_IndexFunc_Locus_impl_without_1.mono _ _ _)
      | (with_reducible exact LeO.refl _)
      | (with_reducible exact LeO.none _)
      | (with_reducible refine LeO.ite ?_ ?_)
      | (with_reducible refine LeO.bind ?_ (fun _ => ?_))
theorem slices_DeleteFunc_Locus_impl_without_1.mono : ∀ a0 a1 k, LeO (slices_DeleteFunc_Locus_impl_without_1.f k a0 a1) (slices_DeleteFunc_Locus_impl_without_1.f (k + 1) a0 a1) := by
  intro a0 a1 k
  have ih0 := slices_DeleteFunc_Locus_impl_without_1.mono_l k
  unfold slices_DeleteFunc_Locus_impl_without_1.f
  repeat' first
      | (with_reducible exact ih0 _ _ _ _)
      | (with_reducible exact slices_IndexFunc_Locus_impl_without_1.mono _ _ _)
      | (with_reducible exact LeO.refl _)
      | (with_reducible exact LeO.none _)
      | (with_reducible refine LeO.ite ?_ ?_)
      | (with_reducible refine LeO.bind ?_ (fun _ => ?_))
noncomputable def slices_DeleteFunc_Locus_impl_without_1.L0 (x0 : List (S55)) (x5 : Int) (x6 : Int) (x39000 : ByteArray) : Option ((List (S55))) := lim fun k => slices_DeleteFunc_Locus_impl_without_1.l0 k x0 x5 x6 x39000
theorem slices_DeleteFunc_Locus_impl_without_1.L0_lim (x0 : List (S55)) (x5 : Int) (x6 : Int) (x39000 : ByteArray) : Lim (fun k => slices_DeleteFunc_Locus_impl_without_1.l0 k x0 x5 x6 x39000) (slices_DeleteFunc_Locus_impl_without_1.L0 x0 x5 x6 x39000) := ⟨fun k => (slices_DeleteFunc_Locus_impl_without_1.mono_l k) x0 x5 x6 x39000, rfl⟩
noncomputable def slices_DeleteFunc_Locus_impl_without_1.F (l0 : List (S55)) (a1_0 : ByteArray) : Option ((List (S55))) := lim fun k => slices_DeleteFunc_Locus_impl_without_1.f k l0 a1_0
theorem slices_DeleteFunc_Locus_impl_without_1.F_lim (l0 : List (S55)) (a1_0 : ByteArray) : Lim (fun k => slices_DeleteFunc_Locus_impl_without_1.f k l0 a1_0) (slices_DeleteFunc_Locus_impl_without_1.F l0 a1_0) := ⟨slices_DeleteFunc_Locus_impl_without_1.mono l0 a1_0, rfl⟩
theorem slices_DeleteFunc_Locus_impl_without_1.L0_eq (x0 : List (S55)) (x5 : Int) (x6 : Int) (x39000 : ByteArray) : slices_DeleteFunc_Locus_impl_without_1.L0 x0 x5 x6 x39000 = (if x6 < (x0.length : Int) then (if 0 ≤ x6 then ((impl_without_1.f ((rd_T55 x0 x6).f0) ((rd_T55 x0 x6).f1) x39000).bind fun t225 => (if t225 = true then (slices_DeleteFunc_Locus_impl_without_1.L0 x0 x5 (wrap64 (x6 + 1)) x39000) else (if 0 ≤ x5 then (if x5 < (x0.length : Int) then (slices_DeleteFunc_Locus_impl_without_1.L0 (x0.set (x5 : Int).toNat (⟨(rd_T55 x0 x6).f0, (rd_T55 x0 x6).f1⟩ : S55)) (wrap64 (x5 + 1)) (wrap64 (x6 + 1)) x39000) else (none)) else (none)))) else (none)) else (if 0 ≤ x5 then (if x5 ≤ (x0.length : Int) then (some ((x0.take (x5 : Int).toNat ++ List.replicate (x0.length - (x5 : Int).toNat) z55).take (x5 : Int).toNat)) else (none)) else (none))) := by
  refine Lim.succ_eq (slices_DeleteFunc_Locus_impl_without_1.L0_lim x0 x5 x6 x39000).mon ?_
  simp only [slices_DeleteFunc_Locus_impl_without_1.l0]
  repeat' first
  | (with_reducible exact slices_DeleteFunc_Locus_impl_without_1.L0_lim _ _ _ _)
  | (with_reducible exact slices_IndexFunc_Locus_impl_without_1.F_lim _ _)
  | (with_reducible refine Lim.ite ?_ ?_)
  | (with_reducible refine Lim.bind ?_ (fun _ => ?_))
  | (with_reducible exact Lim.const _)
theorem slices_DeleteFunc_Locus_impl_without_1.F_eq (l0 : List (S55)) (a1_0 : ByteArray) : slices_DeleteFunc_Locus_impl_without_1.F l0 a1_0 = ((slices_IndexFunc_Locus_impl_without_1.F l0 a1_0).bind fun t222 => (if t222 = (-1) then (some l0) else (slices_DeleteFunc_Locus_impl_without_1.L0 l0 t222 (wrap64 (t222 + 1)) a1_0))) := by
  refine Lim.eq_ ?_
  simp only [slices_DeleteFunc_Locus_impl_without_1.f]
  repeat' first
  | (with_reducible exact slices_DeleteFunc_Locus_impl_without_1.L0_lim _ _ _ _)
  | (with_reducible exact slices_IndexFunc_Locus_impl_without_1.F_lim _ _)
  | (with_reducible refine Lim.ite ?_ ?_)
  | (with_reducible refine Lim.bind ?_ (fun _ => ?_))
  | (with_reducible exact Lim.const _)
def impl_without.f (k : Nat) (l0 : List (S55)) (a1 : ByteArray) : Option ((List (S55))) := (slices_Clone_Locus.f l0).bind fun t232 => ((slices_DeleteFunc_Locus_impl_without_1.f k t232 a1).bind fun t235 => (some t235))
theorem impl_without.mono : ∀ a0 a1 k, LeO (impl_without.f k a0 a1) (impl_without.f (k + 1) a0 a1) := by
  intro a0 a1 k
  unfold impl_without.f
  repeat' first
      | (with_reducible exact slices_DeleteFunc_Locus_impl_without_1.mono _ _ _)
      | (with_reducible exact LeO.refl _)
      | (with_reducible exact LeO.none _)
      | (with_reducible refine LeO.ite ?_ ?_)
      | (with_reducible refine LeO.bind ?_ (fun _ => ?_))
noncomputable def impl_without.F (l0 : List (S55)) (a1 : ByteArray) : Option ((List (S55))) := lim fun k => impl_without.f k l0 a1
theorem impl_without.F_lim (l0 : List (S55)) (a1 : ByteArray) : Lim (fun k => impl_without.f k l0 a1) (impl_without.F l0 a1) := ⟨impl_without.mono l0 a1, rfl⟩
theorem impl_without.F_eq (l0 : List (S55)) (a1 : ByteArray) : impl_without.F l0 a1 = ((slices_Clone_Locus.f l0).bind fun t232 => ((slices_DeleteFunc_Locus_impl_without_1.F t232 a1).bind fun t235 => (some t235))) := by
  refine Lim.eq_ ?_
  simp only [impl_without.f]
  repeat' first
  | (with_reducible exact slices_DeleteFunc_Locus_impl_without_1.F_lim _ _)
  | (with_reducible refine Lim.ite ?_ ?_)
  | (with_reducible refine Lim.bind ?_ (fun _ => ?_))
  | (with_reducible exact Lim.const _)
def impl_PutReferent.j0 : Nat → List (S55) → ByteArray → Int → Bool → Option ((List (S55)) × Bool)
  | 0, _, _, _, _ => none
  | k + 1, x0, x1, x2, x20 => if x20 = true then (some (([] : List (S55)), false)) else ((impl_without.f k x0 x1).bind fun t241 => (if t241.length < 5864062014805 then ((impl_sortedLoci.f k (t241 ++ [(⟨x1, x2⟩ : S55)])).bind fun bt247 => (some (bt247.1, bt247.2))) else (none)))
def impl_PutReferent.f (k : Nat) (l0 : List (S55)) (a1 : ByteArray) (a2 : Int) : Option ((List (S55)) × Bool) := (impl_AreLoci.f k l0).bind fun t238 => (if t238 = true then ((impl_isWordOf.f k a1 (⟨#[97, 98, 99, 100, 101, 102, 103, 104, 105, 106, 107, 108, 109, 110, 111, 112, 113, 114, 115, 116, 117, 118, 119, 120, 121, 122]⟩ : ByteArray)).bind fun t239 => (if t239 = true then ((impl_isAngle.f a2).bind fun t240 => (impl_PutReferent.j0 k l0 a1 a2 (!t240))) else (impl_PutReferent.j0 k l0 a1 a2 true))) else (impl_PutReferent.j0 k l0 a1 a2 true))
theorem impl_PutReferent.mono_l : ∀ k, (∀ y0 y1 y2 y3, LeO (impl_PutReferent.j0 k y0 y1 y2 y3) (impl_PutReferent.j0 (k + 1) y0 y1 y2 y3))
  | 0 => fun _ _ _ _ r h => by simp [impl_PutReferent.j0] at h
  | k + 1 => by
    have ih0 := impl_PutReferent.mono_l k
    · intro y0 y1 y2 y3
      unfold impl_PutReferent.j0
      repeat' first
      | (with_reducible exact ih0 _ _ _ _)
      | (with_reducible exact impl_AreLoci.mono _ _)
      | (with_reducible exact impl_isWordOf.mono _ _ _)
      | (with_reducible exact impl_sortedLoci.mono _ _)
      | (with_reducible exact impl_without.mono _ _ _)
      | (with_reducible exact LeO.refl _)
      | (with_reducible exact LeO.none _)
      | (with_reducible refine LeO.ite ?_ ?_)
      | (with_reducible refine LeO.bind ?_ (fun _ => ?_))
theorem impl_PutReferent.mono : ∀ a0 a1 a2 k, LeO (impl_PutReferent.f k a0 a1 a2) (impl_PutReferent.f (k + 1) a0 a1 a2) := by
  intro a0 a1 a2 k
  have ih0 := impl_PutReferent.mono_l k
  unfold impl_PutReferent.f
  repeat' first
      | (with_reducible exact ih0 _ _ _ _)
      | (with_reducible exact impl_AreLoci.mono _ _)
      | (with_reducible exact impl_isWordOf.mono _ _ _)
      | (with_reducible exact impl_sortedLoci.mono _ _)
      | (with_reducible exact impl_without.mono _ _ _)
      | (with_reducible exact LeO.refl _)
      | (with_reducible exact LeO.none _)
      | (with_reducible refine LeO.ite ?_ ?_)
      | (with_reducible refine LeO.bind ?_ (fun _ => ?_))
noncomputable def impl_PutReferent.J0 (x0 : List (S55)) (x1 : ByteArray) (x2 : Int) (x20 : Bool) : Option ((List (S55)) × Bool) := lim fun k => impl_PutReferent.j0 k x0 x1 x2 x20
theorem impl_PutReferent.J0_lim (x0 : List (S55)) (x1 : ByteArray) (x2 : Int) (x20 : Bool) : Lim (fun k => impl_PutReferent.j0 k x0 x1 x2 x20) (impl_PutReferent.J0 x0 x1 x2 x20) := ⟨fun k => (impl_PutReferent.mono_l k) x0 x1 x2 x20, rfl⟩
noncomputable def impl_PutReferent.F (l0 : List (S55)) (a1 : ByteArray) (a2 : Int) : Option ((List (S55)) × Bool) := lim fun k => impl_PutReferent.f k l0 a1 a2
theorem impl_PutReferent.F_lim (l0 : List (S55)) (a1 : ByteArray) (a2 : Int) : Lim (fun k => impl_PutReferent.f k l0 a1 a2) (impl_PutReferent.F l0 a1 a2) := ⟨impl_PutReferent.mono l0 a1 a2, rfl⟩
theorem impl_PutReferent.J0_eq (x0 : List (S55)) (x1 : ByteArray) (x2 : Int) (x20 : Bool) : impl_PutReferent.J0 x0 x1 x2 x20 = (if x20 = true then (some (([] : List (S55)), false)) else ((impl_without.F x0 x1).bind fun t241 => (if t241.length < 5864062014805 then ((impl_sortedLoci.F (t241 ++ [(⟨x1, x2⟩ : S55)])).bind fun bt247 => (some (bt247.1, bt247.2))) else (none)))) := by
  refine Lim.succ_eq (impl_PutReferent.J0_lim x0 x1 x2 x20).mon ?_
  simp only [impl_PutReferent.j0]
  repeat' first
  | (with_reducible exact impl_PutReferent.J0_lim _ _ _ _)
  | (with_reducible exact impl_AreLoci.F_lim _)
  | (with_reducible exact impl_isWordOf.F_lim _ _)
  | (with_reducible exact impl_sortedLoci.F_lim _)
  | (with_reducible exact impl_without.F_lim _ _)
  | (with_reducible refine Lim.ite ?_ ?_)
  | (with_reducible refine Lim.bind ?_ (fun _ => ?_))
  | (with_reducible exact Lim.const _)
theorem impl_PutReferent.F_eq (l0 : List (S55)) (a1 : ByteArray) (a2 : Int) : impl_PutReferent.F l0 a1 a2 = ((impl_AreLoci.F l0).bind fun t238 => (if t238 = true then ((impl_isWordOf.F a1 (⟨#[97, 98, 99, 100, 101, 102, 103, 104, 105, 106, 107, 108, 109, 110, 111, 112, 113, 114, 115, 116, 117, 118, 119, 120, 121, 122]⟩ : ByteArray)).bind fun t239 => (if t239 = true then ((impl_isAngle.f a2).bind fun t240 => (impl_PutReferent.J0 l0 a1 a2 (!t240))) else (impl_PutReferent.J0 l0 a1 a2 true))) else (impl_PutReferent.J0 l0 a1 a2 true))) := by
  refine Lim.eq_ ?_
  simp only [impl_PutReferent.f]
  repeat' first
  | (with_reducible exact impl_PutReferent.J0_lim _ _ _ _)
  | (with_reducible exact impl_AreLoci.F_lim _)
  | (with_reducible exact impl_isWordOf.F_lim _ _)
  | (with_reducible exact impl_sortedLoci.F_lim _)
  | (with_reducible exact impl_without.F_lim _ _)
  | (with_reducible refine Lim.ite ?_ ?_)
  | (with_reducible refine Lim.bind ?_ (fun _ => ?_))
  | (with_reducible exact Lim.const _)
def spec_l1Most.f (a0 : Int) (a1 : Int) : Option (Int) := if a0 > a1 then (some a0) else (some a1)
def spec_l1Least.f (a0 : Int) (a1 : Int) : Option (Int) := if a0 < a1 then (some a0) else (some a1)
mutual
def spec_ShiftRole.j0 : Nat → List (S55) → ByteArray → Bool → Option ((List (S55)) × Bool)
  | 0, _, _, _ => none
  | k + 1, x0, x1, x18 => if x18 = true then (some (([] : List (S55)), false)) else ((spec_loFind.f k x0 x1).bind fun t253 => (if 0 ≤ t253 then (if t253 < (x0.length : Int) then ((spec_loWithout.f k x0 x1).bind fun t258 => (spec_ShiftRole.l0 k ((rd_T55 x0 t253).f1) (([(⟨(⟨#[115, 105, 103, 110, 101, 114]⟩ : ByteArray), 0⟩ : S55)] : List (S55))) t258 (t258.length : Int) 0)) else (none)) else (none)))
def spec_ShiftRole.l0 : Nat → Int → List (S55) → List (S55) → Int → Int → Option ((List (S55)) × Bool)
  | 0, _, _, _, _, _ => none
  | k + 1, x6, x7, x30, x31, x32 => if x32 < x31 then (if 0 ≤ x32 then (if x32 < (x30.length : Int) then ((spec_l1Least.f 90 (wrap64 (((rd_T55 x30 x32).f1) - x6))).bind fun t263 => ((spec_l1Most.f (-90) t263).bind fun t264 => ((spec_loPut.f k x7 ((rd_T55 x30 x32).f0) t264).bind fun t265 => (spec_ShiftRole.l0 k x6 t265 x30 x31 (wrap64 (x32 + 1)))))) else (none)) else (none)) else ((spec_loIf.f k x7).bind fun bt268 => (some (bt268.1, bt268.2)))
end
def spec_ShiftRole.f (k : Nat) (l0 : List (S55)) (a1 : ByteArray) : Option ((List (S55)) × Bool) := (spec_loGood.f k l0).bind fun t251 => (if t251 = true then ((spec_loFind.f k l0 a1).bind fun t252 => (spec_ShiftRole.j0 k l0 a1 (decide (t252 < 0)))) else (spec_ShiftRole.j0 k l0 a1 true))
theorem spec_ShiftRole.mono_l : ∀ k, (∀ y0 y1 y2, LeO (spec_ShiftRole.j0 k y0 y1 y2) (spec_ShiftRole.j0 (k + 1) y0 y1 y2)) ∧ (∀ y0 y1 y2 y3 y4, LeO (spec_ShiftRole.l0 k y0 y1 y2 y3 y4) (spec_ShiftRole.l0 (k + 1) y0 y1 y2 y3 y4))
  | 0 => ⟨fun _ _ _ r h => by simp [spec_ShiftRole.j0] at h, fun _ _ _ _ _ r h => by simp [spec_ShiftRole.l0] at h⟩
  | k + 1 => by
    obtain ⟨ih0, ih1⟩ := spec_ShiftRole.mono_l k
    refine ⟨?_, ?_⟩
    · intro y0 y1 y2
      unfold spec_ShiftRole.j0
      repeat' first
      | (with_reducible exact ih0 _ _ _)
      | (with_reducible exact ih1 _ _ _ _ _)
      | (with_reducible exact spec_loFind.mono _ _ _)
      | (with_reducible exact spec_loGood.mono _ _)
      | (with_reducible exact spec_loIf.mono _ _)
      | (with_reducible exact spec_loPut.mono _ _ _ _)
      | (with_reducible exact spec_loWithout.mono _ _ _)
      | (with_reducible exact LeO.refl _)
      | (with_reducible exact LeO.none _)
      | (with_reducible refine LeO.ite ?_ ?_)
      | (with_reducible refine LeO.bind ?_ (fun _ => ?_))
    · intro y0 y1 y2 y3 y4
      unfold spec_ShiftRole.l0
      repeat' first
      | (with_reducible exact ih0 _ _ _)
      | (with_reducible exact ih1 _ _ _ _ _)
      | (with_reducible exact spec_loFind.mono _ _ _)
      | (with_reducible exact spec_loGood.mono _ _)
      | (with_reducible exact spec_loIf.mono _ _)
      | (with_reducible exact spec_loPut.mono _ _ _ _)
      | (with_reducible exact spec_loWithout.mono _ _ _)
      | (with_reducible exact LeO.refl _)
      | (with_reducible exact LeO.none _)
      | (with_reducible refine LeO.ite ?_ ?_)
      | (with_reducible refine LeO.bind ?_ (fun _ => ?_))
theorem spec_ShiftRole.mono : ∀ a0 a1 k, LeO (spec_ShiftRole.f k a0 a1) (spec_ShiftRole.f (k + 1) a0 a1) := by
  intro a0 a1 k
  obtain ⟨ih0, ih1⟩ := spec_ShiftRole.mono_l k
  unfold spec_ShiftRole.f
  repeat' first
      | (with_reducible exact ih0 _ _ _)
      | (with_reducible exact ih1 _ _ _ _ _)
      | (with_reducible exact spec_loFind.mono _ _ _)
      | (with_reducible exact spec_loGood.mono _ _)
      | (with_reducible exact spec_loIf.mono _ _)
      | (with_reducible exact spec_loPut.mono _ _ _ _)
      | (with_reducible exact spec_loWithout.mono _ _ _)
      | (with_reducible exact LeO.refl _)
      | (with_reducible exact LeO.none _)
      | (with_reducible refine LeO.ite ?_ ?_)
      | (with_reducible refine LeO.bind ?_ (fun _ => ?_))
noncomputable def spec_ShiftRole.J0 (x0 : List (S55)) (x1 : ByteArray) (x18 : Bool) : Option ((List (S55)) × Bool) := lim fun k => spec_ShiftRole.j0 k x0 x1 x18
theorem spec_ShiftRole.J0_lim (x0 : List (S55)) (x1 : ByteArray) (x18 : Bool) : Lim (fun k => spec_ShiftRole.j0 k x0 x1 x18) (spec_ShiftRole.J0 x0 x1 x18) := ⟨fun k => (spec_ShiftRole.mono_l k).1 x0 x1 x18, rfl⟩
noncomputable def spec_ShiftRole.L0 (x6 : Int) (x7 : List (S55)) (x30 : List (S55)) (x31 : Int) (x32 : Int) : Option ((List (S55)) × Bool) := lim fun k => spec_ShiftRole.l0 k x6 x7 x30 x31 x32
theorem spec_ShiftRole.L0_lim (x6 : Int) (x7 : List (S55)) (x30 : List (S55)) (x31 : Int) (x32 : Int) : Lim (fun k => spec_ShiftRole.l0 k x6 x7 x30 x31 x32) (spec_ShiftRole.L0 x6 x7 x30 x31 x32) := ⟨fun k => (spec_ShiftRole.mono_l k).2 x6 x7 x30 x31 x32, rfl⟩
noncomputable def spec_ShiftRole.F (l0 : List (S55)) (a1 : ByteArray) : Option ((List (S55)) × Bool) := lim fun k => spec_ShiftRole.f k l0 a1
theorem spec_ShiftRole.F_lim (l0 : List (S55)) (a1 : ByteArray) : Lim (fun k => spec_ShiftRole.f k l0 a1) (spec_ShiftRole.F l0 a1) := ⟨spec_ShiftRole.mono l0 a1, rfl⟩
theorem spec_ShiftRole.J0_eq (x0 : List (S55)) (x1 : ByteArray) (x18 : Bool) : spec_ShiftRole.J0 x0 x1 x18 = (if x18 = true then (some (([] : List (S55)), false)) else ((spec_loFind.F x0 x1).bind fun t253 => (if 0 ≤ t253 then (if t253 < (x0.length : Int) then ((spec_loWithout.F x0 x1).bind fun t258 => (spec_ShiftRole.L0 ((rd_T55 x0 t253).f1) (([(⟨(⟨#[115, 105, 103, 110, 101, 114]⟩ : ByteArray), 0⟩ : S55)] : List (S55))) t258 (t258.length : Int) 0)) else (none)) else (none)))) := by
  refine Lim.succ_eq (spec_ShiftRole.J0_lim x0 x1 x18).mon ?_
  simp only [spec_ShiftRole.j0]
  repeat' first
  | (with_reducible exact spec_ShiftRole.J0_lim _ _ _)
  | (with_reducible exact spec_ShiftRole.L0_lim _ _ _ _ _)
  | (with_reducible exact spec_loFind.F_lim _ _)
  | (with_reducible exact spec_loGood.F_lim _)
  | (with_reducible exact spec_loIf.F_lim _)
  | (with_reducible exact spec_loPut.F_lim _ _ _)
  | (with_reducible exact spec_loWithout.F_lim _ _)
  | (with_reducible refine Lim.ite ?_ ?_)
  | (with_reducible refine Lim.bind ?_ (fun _ => ?_))
  | (with_reducible exact Lim.const _)
theorem spec_ShiftRole.L0_eq (x6 : Int) (x7 : List (S55)) (x30 : List (S55)) (x31 : Int) (x32 : Int) : spec_ShiftRole.L0 x6 x7 x30 x31 x32 = (if x32 < x31 then (if 0 ≤ x32 then (if x32 < (x30.length : Int) then ((spec_l1Least.f 90 (wrap64 (((rd_T55 x30 x32).f1) - x6))).bind fun t263 => ((spec_l1Most.f (-90) t263).bind fun t264 => ((spec_loPut.F x7 ((rd_T55 x30 x32).f0) t264).bind fun t265 => (spec_ShiftRole.L0 x6 t265 x30 x31 (wrap64 (x32 + 1)))))) else (none)) else (none)) else ((spec_loIf.F x7).bind fun bt268 => (some (bt268.1, bt268.2)))) := by
  refine Lim.succ_eq (spec_ShiftRole.L0_lim x6 x7 x30 x31 x32).mon ?_
  simp only [spec_ShiftRole.l0]
  repeat' first
  | (with_reducible exact spec_ShiftRole.J0_lim _ _ _)
  | (with_reducible exact spec_ShiftRole.L0_lim _ _ _ _ _)
  | (with_reducible exact spec_loFind.F_lim _ _)
  | (with_reducible exact spec_loGood.F_lim _)
  | (with_reducible exact spec_loIf.F_lim _)
  | (with_reducible exact spec_loPut.F_lim _ _ _)
  | (with_reducible exact spec_loWithout.F_lim _ _)
  | (with_reducible refine Lim.ite ?_ ?_)
  | (with_reducible refine Lim.bind ?_ (fun _ => ?_))
  | (with_reducible exact Lim.const _)
theorem spec_ShiftRole.F_eq (l0 : List (S55)) (a1 : ByteArray) : spec_ShiftRole.F l0 a1 = ((spec_loGood.F l0).bind fun t251 => (if t251 = true then ((spec_loFind.F l0 a1).bind fun t252 => (spec_ShiftRole.J0 l0 a1 (decide (t252 < 0)))) else (spec_ShiftRole.J0 l0 a1 true))) := by
  refine Lim.eq_ ?_
  simp only [spec_ShiftRole.f]
  repeat' first
  | (with_reducible exact spec_ShiftRole.J0_lim _ _ _)
  | (with_reducible exact spec_ShiftRole.L0_lim _ _ _ _ _)
  | (with_reducible exact spec_loFind.F_lim _ _)
  | (with_reducible exact spec_loGood.F_lim _)
  | (with_reducible exact spec_loIf.F_lim _)
  | (with_reducible exact spec_loPut.F_lim _ _ _)
  | (with_reducible exact spec_loWithout.F_lim _ _)
  | (with_reducible refine Lim.ite ?_ ?_)
  | (with_reducible refine Lim.bind ?_ (fun _ => ?_))
  | (with_reducible exact Lim.const _)
def impl_shifted.f (a0 : Int) (a1 : Int) : Option (Int) := some (mn (mx (wrap64 (a0 - a1)) (-90)) 90)
mutual
def impl_ShiftRole.j0 : Nat → List (S55) → ByteArray → Int → Bool → Option ((List (S55)) × Bool)
  | 0, _, _, _, _ => none
  | k + 1, x0, x1, x6, x19 => if x19 = true then (some (([] : List (S55)), false)) else ((impl_without.f k x0 x1).bind fun t277 => (impl_ShiftRole.l0 k x0 x6 (([(⟨(⟨#[115, 105, 103, 110, 101, 114]⟩ : ByteArray), 0⟩ : S55)] : List (S55))) t277 (t277.length : Int) 0))
def impl_ShiftRole.l0 : Nat → List (S55) → Int → List (S55) → List (S55) → Int → Int → Option ((List (S55)) × Bool)
  | 0, _, _, _, _, _, _ => none
  | k + 1, x0, x6, x7, x24, x25, x26 => if x26 < x25 then (if 0 ≤ x26 then (if x26 < (x24.length : Int) then (if 0 ≤ x6 then (if x6 < (x0.length : Int) then ((impl_shifted.f ((rd_T55 x24 x26).f1) ((rd_T55 x0 x6).f1)).bind fun t283 => (if x7.length < 5864062014805 then (impl_ShiftRole.l0 k x0 x6 (x7 ++ [(⟨(rd_T55 x24 x26).f0, t283⟩ : S55)]) x24 x25 (wrap64 (x26 + 1))) else (none))) else (none)) else (none)) else (none)) else (none)) else ((impl_sortedLoci.f k x7).bind fun bt287 => (some (bt287.1, bt287.2)))
end
def impl_ShiftRole.f (k : Nat) (l0 : List (S55)) (a1 : ByteArray) : Option ((List (S55)) × Bool) := (impl_locusOf.f k l0 a1).bind fun t272 => ((impl_AreLoci.f k l0).bind fun t273 => (if t273 = true then (impl_ShiftRole.j0 k l0 a1 t272 (decide (t272 < 0))) else (impl_ShiftRole.j0 k l0 a1 t272 true)))
theorem impl_ShiftRole.mono_l : ∀ k, (∀ y0 y1 y2 y3, LeO (impl_ShiftRole.j0 k y0 y1 y2 y3) (impl_ShiftRole.j0 (k + 1) y0 y1 y2 y3)) ∧ (∀ y0 y1 y2 y3 y4 y5, LeO (impl_ShiftRole.l0 k y0 y1 y2 y3 y4 y5) (impl_ShiftRole.l0 (k + 1) y0 y1 y2 y3 y4 y5))
  | 0 => ⟨fun _ _ _ _ r h => by simp [impl_ShiftRole.j0] at h, fun _ _ _ _ _ _ r h => by simp [impl_ShiftRole.l0] at h⟩
  | k + 1 => by
    obtain ⟨ih0, ih1⟩ := impl_ShiftRole.mono_l k
    refine ⟨?_, ?_⟩
    · intro y0 y1 y2 y3
      unfold impl_ShiftRole.j0
      repeat' first
      | (with_reducible exact ih0 _ _ _ _)
      | (with_reducible exact ih1 _ _ _ _ _ _)
      | (with_reducible exact impl_AreLoci.mono _ _)
      | (with_reducible exact impl_locusOf.mono _ _ _)
      | (with_reducible exact impl_sortedLoci.mono _ _)
      | (with_reducible exact impl_without.mono _ _ _)
      | (with_reducible exact LeO.refl _)
      | (with_reducible exact LeO.none _)
      | (with_reducible refine LeO.ite ?_ ?_)
      | (with_reducible refine LeO.bind ?_ (fun _ => ?_))
    · intro y0 y1 y2 y3 y4 y5
      unfold impl_ShiftRole.l0
      repeat' first
      | (with_reducible exact ih0 _ _ _ _)
      | (with_reducible exact ih1 _ _ _ _ _ _)
      | (with_reducible exact impl_AreLoci.mono _ _)
      | (with_reducible exact impl_locusOf.mono _ _ _)
      | (with_reducible exact impl_sortedLoci.mono _ _)
      | (with_reducible exact impl_without.mono _ _ _)
      | (with_reducible exact LeO.refl _)
      | (with_reducible exact LeO.none _)
      | (with_reducible refine LeO.ite ?_ ?_)
      | (with_reducible refine LeO.bind ?_ (fun _ => ?_))
theorem impl_ShiftRole.mono : ∀ a0 a1 k, LeO (impl_ShiftRole.f k a0 a1) (impl_ShiftRole.f (k + 1) a0 a1) := by
  intro a0 a1 k
  obtain ⟨ih0, ih1⟩ := impl_ShiftRole.mono_l k
  unfold impl_ShiftRole.f
  repeat' first
      | (with_reducible exact ih0 _ _ _ _)
      | (with_reducible exact ih1 _ _ _ _ _ _)
      | (with_reducible exact impl_AreLoci.mono _ _)
      | (with_reducible exact impl_locusOf.mono _ _ _)
      | (with_reducible exact impl_sortedLoci.mono _ _)
      | (with_reducible exact impl_without.mono _ _ _)
      | (with_reducible exact LeO.refl _)
      | (with_reducible exact LeO.none _)
      | (with_reducible refine LeO.ite ?_ ?_)
      | (with_reducible refine LeO.bind ?_ (fun _ => ?_))
noncomputable def impl_ShiftRole.J0 (x0 : List (S55)) (x1 : ByteArray) (x6 : Int) (x19 : Bool) : Option ((List (S55)) × Bool) := lim fun k => impl_ShiftRole.j0 k x0 x1 x6 x19
theorem impl_ShiftRole.J0_lim (x0 : List (S55)) (x1 : ByteArray) (x6 : Int) (x19 : Bool) : Lim (fun k => impl_ShiftRole.j0 k x0 x1 x6 x19) (impl_ShiftRole.J0 x0 x1 x6 x19) := ⟨fun k => (impl_ShiftRole.mono_l k).1 x0 x1 x6 x19, rfl⟩
noncomputable def impl_ShiftRole.L0 (x0 : List (S55)) (x6 : Int) (x7 : List (S55)) (x24 : List (S55)) (x25 : Int) (x26 : Int) : Option ((List (S55)) × Bool) := lim fun k => impl_ShiftRole.l0 k x0 x6 x7 x24 x25 x26
theorem impl_ShiftRole.L0_lim (x0 : List (S55)) (x6 : Int) (x7 : List (S55)) (x24 : List (S55)) (x25 : Int) (x26 : Int) : Lim (fun k => impl_ShiftRole.l0 k x0 x6 x7 x24 x25 x26) (impl_ShiftRole.L0 x0 x6 x7 x24 x25 x26) := ⟨fun k => (impl_ShiftRole.mono_l k).2 x0 x6 x7 x24 x25 x26, rfl⟩
noncomputable def impl_ShiftRole.F (l0 : List (S55)) (a1 : ByteArray) : Option ((List (S55)) × Bool) := lim fun k => impl_ShiftRole.f k l0 a1
theorem impl_ShiftRole.F_lim (l0 : List (S55)) (a1 : ByteArray) : Lim (fun k => impl_ShiftRole.f k l0 a1) (impl_ShiftRole.F l0 a1) := ⟨impl_ShiftRole.mono l0 a1, rfl⟩
theorem impl_ShiftRole.J0_eq (x0 : List (S55)) (x1 : ByteArray) (x6 : Int) (x19 : Bool) : impl_ShiftRole.J0 x0 x1 x6 x19 = (if x19 = true then (some (([] : List (S55)), false)) else ((impl_without.F x0 x1).bind fun t277 => (impl_ShiftRole.L0 x0 x6 (([(⟨(⟨#[115, 105, 103, 110, 101, 114]⟩ : ByteArray), 0⟩ : S55)] : List (S55))) t277 (t277.length : Int) 0))) := by
  refine Lim.succ_eq (impl_ShiftRole.J0_lim x0 x1 x6 x19).mon ?_
  simp only [impl_ShiftRole.j0]
  repeat' first
  | (with_reducible exact impl_ShiftRole.J0_lim _ _ _ _)
  | (with_reducible exact impl_ShiftRole.L0_lim _ _ _ _ _ _)
  | (with_reducible exact impl_AreLoci.F_lim _)
  | (with_reducible exact impl_locusOf.F_lim _ _)
  | (with_reducible exact impl_sortedLoci.F_lim _)
  | (with_reducible exact impl_without.F_lim _ _)
  | (with_reducible refine Lim.ite ?_ ?_)
  | (with_reducible refine Lim.bind ?_ (fun _ => ?_))
  | (with_reducible exact Lim.const _)
theorem impl_ShiftRole.L0_eq (x0 : List (S55)) (x6 : Int) (x7 : List (S55)) (x24 : List (S55)) (x25 : Int) (x26 : Int) : impl_ShiftRole.L0 x0 x6 x7 x24 x25 x26 = (if x26 < x25 then (if 0 ≤ x26 then (if x26 < (x24.length : Int) then (if 0 ≤ x6 then (if x6 < (x0.length : Int) then ((impl_shifted.f ((rd_T55 x24 x26).f1) ((rd_T55 x0 x6).f1)).bind fun t283 => (if x7.length < 5864062014805 then (impl_ShiftRole.L0 x0 x6 (x7 ++ [(⟨(rd_T55 x24 x26).f0, t283⟩ : S55)]) x24 x25 (wrap64 (x26 + 1))) else (none))) else (none)) else (none)) else (none)) else (none)) else ((impl_sortedLoci.F x7).bind fun bt287 => (some (bt287.1, bt287.2)))) := by
  refine Lim.succ_eq (impl_ShiftRole.L0_lim x0 x6 x7 x24 x25 x26).mon ?_
  simp only [impl_ShiftRole.l0]
  repeat' first
  | (with_reducible exact impl_ShiftRole.J0_lim _ _ _ _)
  | (with_reducible exact impl_ShiftRole.L0_lim _ _ _ _ _ _)
  | (with_reducible exact impl_AreLoci.F_lim _)
  | (with_reducible exact impl_locusOf.F_lim _ _)
  | (with_reducible exact impl_sortedLoci.F_lim _)
  | (with_reducible exact impl_without.F_lim _ _)
  | (with_reducible refine Lim.ite ?_ ?_)
  | (with_reducible refine Lim.bind ?_ (fun _ => ?_))
  | (with_reducible exact Lim.const _)
theorem impl_ShiftRole.F_eq (l0 : List (S55)) (a1 : ByteArray) : impl_ShiftRole.F l0 a1 = ((impl_locusOf.F l0 a1).bind fun t272 => ((impl_AreLoci.F l0).bind fun t273 => (if t273 = true then (impl_ShiftRole.J0 l0 a1 t272 (decide (t272 < 0))) else (impl_ShiftRole.J0 l0 a1 t272 true)))) := by
  refine Lim.eq_ ?_
  simp only [impl_ShiftRole.f]
  repeat' first
  | (with_reducible exact impl_ShiftRole.J0_lim _ _ _ _)
  | (with_reducible exact impl_ShiftRole.L0_lim _ _ _ _ _ _)
  | (with_reducible exact impl_AreLoci.F_lim _)
  | (with_reducible exact impl_locusOf.F_lim _ _)
  | (with_reducible exact impl_sortedLoci.F_lim _)
  | (with_reducible exact impl_without.F_lim _ _)
  | (with_reducible refine Lim.ite ?_ ?_)
  | (with_reducible refine Lim.bind ?_ (fun _ => ?_))
  | (with_reducible exact Lim.const _)
def laws_big.f (l0 : List Int) (l1 : List Int) : Option (Bool) := if (l0.length : Int) > 1048576 then (some true) else (some (decide ((l1.length : Int) > (wrap64 (1048576 - (l0.length : Int))))))
def spec_l1Cur_next.f (s0_0 : List Int) (s0_1 : Int) (s0_2 : Int) : Option (Int × Int × Int) := if s0_1 < (s0_0.length : Int) then (if 0 ≤ s0_1 then (if (wrap64 (s0_1 + 1)) ≤ (s0_0.length : Int) then (some (wrap64 (rd s0_0 s0_1), wrap64 (s0_1 + 1), IntKind.u64.wrap ((IntKind.u64.wrap ((IntKind.u64.wrap (s0_2 * 6364136223846793005)) + (IntKind.u64.wrap (wrap64 (rd s0_0 s0_1))))) + 1442695040888963407))) else (some (wrap64 (Go.bits .and .u64 ((IntKind.u64.wrap ((IntKind.u64.wrap ((IntKind.u64.wrap (s0_2 * 6364136223846793005)) + (IntKind.u64.wrap (wrap64 (rd s0_0 s0_1))))) + 1442695040888963407)) / 1099511627776) 255), wrap64 (s0_1 + 1), IntKind.u64.wrap ((IntKind.u64.wrap ((IntKind.u64.wrap (s0_2 * 6364136223846793005)) + (IntKind.u64.wrap (wrap64 (rd s0_0 s0_1))))) + 1442695040888963407)))) else (none)) else (if (wrap64 (s0_1 + 1)) ≤ (s0_0.length : Int) then (some (0, wrap64 (s0_1 + 1), IntKind.u64.wrap ((IntKind.u64.wrap ((IntKind.u64.wrap (s0_2 * 6364136223846793005)))) + 1442695040888963407))) else (some (wrap64 (Go.bits .and .u64 ((IntKind.u64.wrap ((IntKind.u64.wrap ((IntKind.u64.wrap (s0_2 * 6364136223846793005)))) + 1442695040888963407)) / 1099511627776) 255), wrap64 (s0_1 + 1), IntKind.u64.wrap ((IntKind.u64.wrap ((IntKind.u64.wrap (s0_2 * 6364136223846793005)))) + 1442695040888963407))))
def spec_l1Cur_pick.f (s0_0 : List Int) (s0_1 : Int) (s0_2 : Int) (a1 : Int) : Option (Int × Int × Int) := if a1 ≤ 1 then (some (0, s0_1, s0_2)) else ((spec_l1Cur_next.f s0_0 s0_1 s0_2).bind fun bt292 => (if a1 > 200 then ((spec_l1Cur_next.f s0_0 bt292.2.1 bt292.2.2).bind fun bt295 => (if a1 = 0 then (none) else (some (Int.tmod (wrap64 ((wrap64 (bt292.1 * 256)) + bt295.1)) a1, bt295.2.1, bt295.2.2)))) else (if a1 = 0 then (none) else (some (Int.tmod bt292.1 a1, bt292.2.1, bt292.2.2)))))
def spec_l1Cur_of.f (s0_0 : List Int) (s0_1 : Int) (s0_2 : Int) (l1 : List ByteArray) : Option (ByteArray × Int × Int) := (spec_l1Cur_pick.f s0_0 s0_1 s0_2 (l1.length : Int)).bind fun bt298 => (if 0 ≤ bt298.1 then (if bt298.1 < (l1.length : Int) then (some (rdOf ByteArray.empty l1 bt298.1, bt298.2.1, bt298.2.2)) else (none)) else (none))
def spec_l1Cur_anyReferent.f (s0_0 : List Int) (s0_1 : Int) (s0_2 : Int) : Option (ByteArray × Int × Int) := (spec_l1Cur_of.f s0_0 s0_1 s0_2 (([(⟨#[115, 105, 103, 110, 101, 114]⟩ : ByteArray), (⟨#[]⟩ : ByteArray), (⟨#[77, 97, 114, 121]⟩ : ByteArray), (⟨#[110, 105, 110, 101, 99, 104, 97, 114, 115]⟩ : ByteArray), (⟨#[122, 122]⟩ : ByteArray)] : List ByteArray))).bind fun bt305 => ((spec_l1Cur_of.f s0_0 bt305.2.1 bt305.2.2 (([(⟨#[109, 97, 114, 121]⟩ : ByteArray), (⟨#[106, 111, 104, 110]⟩ : ByteArray), (⟨#[100, 111, 103]⟩ : ByteArray), (⟨#[109, 97, 114, 121]⟩ : ByteArray), bt305.1] : List ByteArray))).bind fun bt311 => (some (bt311.1, bt311.2.1, bt311.2.2)))
def spec_l1Cur_among.f (s0_0 : List Int) (s0_1 : Int) (s0_2 : Int) (l1 : List Int) : Option (Int × Int × Int) := (spec_l1Cur_pick.f s0_0 s0_1 s0_2 (l1.length : Int)).bind fun bt314 => (if 0 ≤ bt314.1 then (if bt314.1 < (l1.length : Int) then (some (rd l1 bt314.1, bt314.2.1, bt314.2.2)) else (none)) else (none))
def spec_l1Cur_angleOf.f (s0_0 : List Int) (s0_1 : Int) (s0_2 : Int) : Option (Int × Int × Int) := (spec_l1Cur_pick.f s0_0 s0_1 s0_2 181).bind fun bt318 => ((spec_l1Cur_among.f s0_0 bt318.2.1 bt318.2.2 (([5, 91, (-91), (-9223372036854775808)] : List Int))).bind fun bt324 => ((spec_l1Cur_among.f s0_0 bt324.2.1 bt324.2.2 (([0, (-40), 30, 25, 10, wrap64 (bt318.1 - 90), 90, (-90), bt324.1] : List Int))).bind fun bt330 => (some (bt330.1, bt330.2.1, bt330.2.2))))
def spec_l1Cur_referent.f (s0_0 : List Int) (s0_1 : Int) (s0_2 : Int) : Option (ByteArray × Int × Int) := (spec_l1Cur_of.f s0_0 s0_1 s0_2 (([(⟨#[109, 97, 114, 121]⟩ : ByteArray), (⟨#[106, 111, 104, 110]⟩ : ByteArray), (⟨#[100, 111, 103]⟩ : ByteArray), (⟨#[99, 97, 116]⟩ : ByteArray), (⟨#[115, 105, 103, 110, 101, 114]⟩ : ByteArray)] : List ByteArray))).bind fun bt336 => (some (bt336.1, bt336.2.1, bt336.2.2))
mutual
def spec_l1Cur_loci.l0 : Nat → List (S55) → Int → List Int → Int → Int → Option ((List (S55)) × Int × Int)
  | 0, _, _, _, _, _ => none
  | k + 1, x3, x4, x1000, x1001, x1002 => if x4 > 0 then ((spec_l1Cur_referent.f x1000 x1001 x1002).bind fun bt342 => ((spec_l1Cur_angleOf.f x1000 bt342.2.1 bt342.2.2).bind fun bt345 => ((spec_PutReferent.f k x3 bt342.1 bt345.1).bind fun bt348 => (if bt348.2 = true then (spec_l1Cur_loci.l0 k bt348.1 (wrap64 (x4 - 1)) x1000 bt345.2.1 bt345.2.2) else (spec_l1Cur_loci.l0 k x3 (wrap64 (x4 - 1)) x1000 bt345.2.1 bt345.2.2))))) else ((spec_l1Cur_pick.f x1000 x1001 x1002 24).bind fun bt352 => (if bt352.1 = 0 then ((spec_l1Cur_anyReferent.f x1000 bt352.2.1 bt352.2.2).bind fun bt355 => ((spec_l1Cur_angleOf.f x1000 bt355.2.1 bt355.2.2).bind fun bt358 => (if x3.length < 5864062014805 then (some ((x3 ++ [(⟨bt355.1, bt358.1⟩ : S55)]), bt358.2.1, bt358.2.2)) else (none)))) else (if bt352.1 = 1 then ((spec_l1Cur_pick.f x1000 bt352.2.1 bt352.2.2 2).bind fun bt364 => (spec_l1Cur_loci.l1 k ([] : List (S55)) (wrap64 (8 + bt364.1)) x1000 bt364.2.1 bt364.2.2)) else (some (x3, bt352.2.1, bt352.2.2)))))
def spec_l1Cur_loci.l1 : Nat → List (S55) → Int → List Int → Int → Int → Option ((List (S55)) × Int × Int)
  | 0, _, _, _, _, _ => none
  | k + 1, x3, x7, x1000, x1001, x1002 => if (x3.length : Int) < x7 then (if 0 ≤ (x3.length : Int) then (if (x3.length : Int) ≤ (wrap64 ((x3.length : Int) + 1)) then (if (wrap64 ((x3.length : Int) + 1)) ≤ 9 then (if 1 + ((⟨#[97, 98, 99, 100, 101, 102, 103, 104, 105]⟩ : ByteArray).extract ((x3.length : Int) : Int).toNat ((wrap64 ((x3.length : Int) + 1)) : Int).toNat).size ≤ 9223372036854775807 then (if x3.length < 5864062014805 then (spec_l1Cur_loci.l1 k (x3 ++ [(⟨(⟨#[120]⟩ : ByteArray) ++ ((⟨#[97, 98, 99, 100, 101, 102, 103, 104, 105]⟩ : ByteArray).extract ((x3.length : Int) : Int).toNat ((wrap64 ((x3.length : Int) + 1)) : Int).toNat), wrap64 ((wrap64 (20 * (x3.length : Int))) - 90)⟩ : S55)]) x7 x1000 x1001 x1002) else (none)) else (none)) else (none)) else (none)) else (none)) else (some (x3, x1001, x1002))
end
def spec_l1Cur_loci.f (k : Nat) (s0_0 : List Int) (s0_1 : Int) (s0_2 : Int) : Option ((List (S55)) × Int × Int) := (spec_l1Cur_pick.f s0_0 s0_1 s0_2 6).bind fun bt339 => (spec_l1Cur_loci.l0 k ([] : List (S55)) bt339.1 s0_0 bt339.2.1 bt339.2.2)
theorem spec_l1Cur_loci.mono_l : ∀ k, (∀ y0 y1 y2 y3 y4, LeO (spec_l1Cur_loci.l0 k y0 y1 y2 y3 y4) (spec_l1Cur_loci.l0 (k + 1) y0 y1 y2 y3 y4)) ∧ (∀ y0 y1 y2 y3 y4, LeO (spec_l1Cur_loci.l1 k y0 y1 y2 y3 y4) (spec_l1Cur_loci.l1 (k + 1) y0 y1 y2 y3 y4))
  | 0 => ⟨fun _ _ _ _ _ r h => by simp [spec_l1Cur_loci.l0] at h, fun _ _ _ _ _ r h => by simp [spec_l1Cur_loci.l1] at h⟩
  | k + 1 => by
    obtain ⟨ih0, ih1⟩ := spec_l1Cur_loci.mono_l k
    refine ⟨?_, ?_⟩
    · intro y0 y1 y2 y3 y4
      unfold spec_l1Cur_loci.l0
      repeat' first
      | (with_reducible exact ih0 _ _ _ _ _)
      | (with_reducible exact ih1 _ _ _ _ _)
      | (with_reducible exact spec_PutReferent.mono _ _ _ _)
      | (with_reducible exact LeO.refl _)
      | (with_reducible exact LeO.none _)
      | (with_reducible refine LeO.ite ?_ ?_)
      | (with_reducible refine LeO.bind ?_ (fun _ => ?_))
    · intro y0 y1 y2 y3 y4
      unfold spec_l1Cur_loci.l1
      repeat' first
      | (with_reducible exact ih0 _ _ _ _ _)
      | (with_reducible exact ih1 _ _ _ _ _)
      | (with_reducible exact spec_PutReferent.mono _ _ _ _)
      | (with_reducible exact LeO.refl _)
      | (with_reducible exact LeO.none _)
      | (with_reducible refine LeO.ite ?_ ?_)
      | (with_reducible refine LeO.bind ?_ (fun _ => ?_))
theorem spec_l1Cur_loci.mono : ∀ a0 a1 a2 k, LeO (spec_l1Cur_loci.f k a0 a1 a2) (spec_l1Cur_loci.f (k + 1) a0 a1 a2) := by
  intro a0 a1 a2 k
  obtain ⟨ih0, ih1⟩ := spec_l1Cur_loci.mono_l k
  unfold spec_l1Cur_loci.f
  repeat' first
      | (with_reducible exact ih0 _ _ _ _ _)
      | (with_reducible exact ih1 _ _ _ _ _)
      | (with_reducible exact spec_PutReferent.mono _ _ _ _)
      | (with_reducible exact LeO.refl _)
      | (with_reducible exact LeO.none _)
      | (with_reducible refine LeO.ite ?_ ?_)
      | (with_reducible refine LeO.bind ?_ (fun _ => ?_))
noncomputable def spec_l1Cur_loci.L0 (x3 : List (S55)) (x4 : Int) (x1000 : List Int) (x1001 : Int) (x1002 : Int) : Option ((List (S55)) × Int × Int) := lim fun k => spec_l1Cur_loci.l0 k x3 x4 x1000 x1001 x1002
theorem spec_l1Cur_loci.L0_lim (x3 : List (S55)) (x4 : Int) (x1000 : List Int) (x1001 : Int) (x1002 : Int) : Lim (fun k => spec_l1Cur_loci.l0 k x3 x4 x1000 x1001 x1002) (spec_l1Cur_loci.L0 x3 x4 x1000 x1001 x1002) := ⟨fun k => (spec_l1Cur_loci.mono_l k).1 x3 x4 x1000 x1001 x1002, rfl⟩
noncomputable def spec_l1Cur_loci.L1 (x3 : List (S55)) (x7 : Int) (x1000 : List Int) (x1001 : Int) (x1002 : Int) : Option ((List (S55)) × Int × Int) := lim fun k => spec_l1Cur_loci.l1 k x3 x7 x1000 x1001 x1002
theorem spec_l1Cur_loci.L1_lim (x3 : List (S55)) (x7 : Int) (x1000 : List Int) (x1001 : Int) (x1002 : Int) : Lim (fun k => spec_l1Cur_loci.l1 k x3 x7 x1000 x1001 x1002) (spec_l1Cur_loci.L1 x3 x7 x1000 x1001 x1002) := ⟨fun k => (spec_l1Cur_loci.mono_l k).2 x3 x7 x1000 x1001 x1002, rfl⟩
noncomputable def spec_l1Cur_loci.F (s0_0 : List Int) (s0_1 : Int) (s0_2 : Int) : Option ((List (S55)) × Int × Int) := lim fun k => spec_l1Cur_loci.f k s0_0 s0_1 s0_2
theorem spec_l1Cur_loci.F_lim (s0_0 : List Int) (s0_1 : Int) (s0_2 : Int) : Lim (fun k => spec_l1Cur_loci.f k s0_0 s0_1 s0_2) (spec_l1Cur_loci.F s0_0 s0_1 s0_2) := ⟨spec_l1Cur_loci.mono s0_0 s0_1 s0_2, rfl⟩
theorem spec_l1Cur_loci.L0_eq (x3 : List (S55)) (x4 : Int) (x1000 : List Int) (x1001 : Int) (x1002 : Int) : spec_l1Cur_loci.L0 x3 x4 x1000 x1001 x1002 = (if x4 > 0 then ((spec_l1Cur_referent.f x1000 x1001 x1002).bind fun bt342 => ((spec_l1Cur_angleOf.f x1000 bt342.2.1 bt342.2.2).bind fun bt345 => ((spec_PutReferent.F x3 bt342.1 bt345.1).bind fun bt348 => (if bt348.2 = true then (spec_l1Cur_loci.L0 bt348.1 (wrap64 (x4 - 1)) x1000 bt345.2.1 bt345.2.2) else (spec_l1Cur_loci.L0 x3 (wrap64 (x4 - 1)) x1000 bt345.2.1 bt345.2.2))))) else ((spec_l1Cur_pick.f x1000 x1001 x1002 24).bind fun bt352 => (if bt352.1 = 0 then ((spec_l1Cur_anyReferent.f x1000 bt352.2.1 bt352.2.2).bind fun bt355 => ((spec_l1Cur_angleOf.f x1000 bt355.2.1 bt355.2.2).bind fun bt358 => (if x3.length < 5864062014805 then (some ((x3 ++ [(⟨bt355.1, bt358.1⟩ : S55)]), bt358.2.1, bt358.2.2)) else (none)))) else (if bt352.1 = 1 then ((spec_l1Cur_pick.f x1000 bt352.2.1 bt352.2.2 2).bind fun bt364 => (spec_l1Cur_loci.L1 ([] : List (S55)) (wrap64 (8 + bt364.1)) x1000 bt364.2.1 bt364.2.2)) else (some (x3, bt352.2.1, bt352.2.2)))))) := by
  refine Lim.succ_eq (spec_l1Cur_loci.L0_lim x3 x4 x1000 x1001 x1002).mon ?_
  simp only [spec_l1Cur_loci.l0]
  repeat' first
  | (with_reducible exact spec_l1Cur_loci.L0_lim _ _ _ _ _)
  | (with_reducible exact spec_l1Cur_loci.L1_lim _ _ _ _ _)
  | (with_reducible exact spec_PutReferent.F_lim _ _ _)
  | (with_reducible refine Lim.ite ?_ ?_)
  | (with_reducible refine Lim.bind ?_ (fun _ => ?_))
  | (with_reducible exact Lim.const _)
theorem spec_l1Cur_loci.L1_eq (x3 : List (S55)) (x7 : Int) (x1000 : List Int) (x1001 : Int) (x1002 : Int) : spec_l1Cur_loci.L1 x3 x7 x1000 x1001 x1002 = (if (x3.length : Int) < x7 then (if 0 ≤ (x3.length : Int) then (if (x3.length : Int) ≤ (wrap64 ((x3.length : Int) + 1)) then (if (wrap64 ((x3.length : Int) + 1)) ≤ 9 then (if 1 + ((⟨#[97, 98, 99, 100, 101, 102, 103, 104, 105]⟩ : ByteArray).extract ((x3.length : Int) : Int).toNat ((wrap64 ((x3.length : Int) + 1)) : Int).toNat).size ≤ 9223372036854775807 then (if x3.length < 5864062014805 then (spec_l1Cur_loci.L1 (x3 ++ [(⟨(⟨#[120]⟩ : ByteArray) ++ ((⟨#[97, 98, 99, 100, 101, 102, 103, 104, 105]⟩ : ByteArray).extract ((x3.length : Int) : Int).toNat ((wrap64 ((x3.length : Int) + 1)) : Int).toNat), wrap64 ((wrap64 (20 * (x3.length : Int))) - 90)⟩ : S55)]) x7 x1000 x1001 x1002) else (none)) else (none)) else (none)) else (none)) else (none)) else (some (x3, x1001, x1002))) := by
  refine Lim.succ_eq (spec_l1Cur_loci.L1_lim x3 x7 x1000 x1001 x1002).mon ?_
  simp only [spec_l1Cur_loci.l1]
  repeat' first
  | (with_reducible exact spec_l1Cur_loci.L0_lim _ _ _ _ _)
  | (with_reducible exact spec_l1Cur_loci.L1_lim _ _ _ _ _)
  | (with_reducible exact spec_PutReferent.F_lim _ _ _)
  | (with_reducible refine Lim.ite ?_ ?_)
  | (with_reducible refine Lim.bind ?_ (fun _ => ?_))
  | (with_reducible exact Lim.const _)
theorem spec_l1Cur_loci.F_eq (s0_0 : List Int) (s0_1 : Int) (s0_2 : Int) : spec_l1Cur_loci.F s0_0 s0_1 s0_2 = ((spec_l1Cur_pick.f s0_0 s0_1 s0_2 6).bind fun bt339 => (spec_l1Cur_loci.L0 ([] : List (S55)) bt339.1 s0_0 bt339.2.1 bt339.2.2)) := by
  refine Lim.eq_ ?_
  simp only [spec_l1Cur_loci.f]
  repeat' first
  | (with_reducible exact spec_l1Cur_loci.L0_lim _ _ _ _ _)
  | (with_reducible exact spec_l1Cur_loci.L1_lim _ _ _ _ _)
  | (with_reducible exact spec_PutReferent.F_lim _ _ _)
  | (with_reducible refine Lim.ite ?_ ?_)
  | (with_reducible refine Lim.bind ?_ (fun _ => ?_))
  | (with_reducible exact Lim.const _)
def spec_DrawPutReferent.f (k : Nat) (l0 : List Int) : Option ((List (S55)) × ByteArray × Int) := (spec_l1Cur_loci.f k l0 0 0).bind fun bt371 => ((spec_l1Cur_anyReferent.f l0 bt371.2.1 bt371.2.2).bind fun bt376 => ((spec_l1Cur_angleOf.f l0 bt376.2.1 bt376.2.2).bind fun bt379 => (some (bt371.1, bt376.1, bt379.1))))
theorem spec_DrawPutReferent.mono : ∀ a0 k, LeO (spec_DrawPutReferent.f k a0) (spec_DrawPutReferent.f (k + 1) a0) := by
  intro a0 k
  unfold spec_DrawPutReferent.f
  repeat' first
      | (with_reducible exact spec_l1Cur_loci.mono _ _ _ _)
      | (with_reducible exact LeO.refl _)
      | (with_reducible exact LeO.none _)
      | (with_reducible refine LeO.ite ?_ ?_)
      | (with_reducible refine LeO.bind ?_ (fun _ => ?_))
noncomputable def spec_DrawPutReferent.F (l0 : List Int) : Option ((List (S55)) × ByteArray × Int) := lim fun k => spec_DrawPutReferent.f k l0
theorem spec_DrawPutReferent.F_lim (l0 : List Int) : Lim (fun k => spec_DrawPutReferent.f k l0) (spec_DrawPutReferent.F l0) := ⟨spec_DrawPutReferent.mono l0, rfl⟩
theorem spec_DrawPutReferent.F_eq (l0 : List Int) : spec_DrawPutReferent.F l0 = ((spec_l1Cur_loci.F l0 0 0).bind fun bt371 => ((spec_l1Cur_anyReferent.f l0 bt371.2.1 bt371.2.2).bind fun bt376 => ((spec_l1Cur_angleOf.f l0 bt376.2.1 bt376.2.2).bind fun bt379 => (some (bt371.1, bt376.1, bt379.1))))) := by
  refine Lim.eq_ ?_
  simp only [spec_DrawPutReferent.f]
  repeat' first
  | (with_reducible exact spec_l1Cur_loci.F_lim _ _ _)
  | (with_reducible refine Lim.ite ?_ ?_)
  | (with_reducible refine Lim.bind ?_ (fun _ => ?_))
  | (with_reducible exact Lim.const _)
def laws_pSameLoci.l0 : Nat → List (S55) → List (S55) → Int → Int → Option (Bool)
  | 0, _, _, _, _ => none
  | k + 1, x0, x1, x12, x13 => if x13 < x12 then (if 0 ≤ x13 then (if x13 < (x0.length : Int) then (if x13 < (x1.length : Int) then (if (!((((rd_T55 x0 x13).f0).toList) == (((rd_T55 x1 x13).f0).toList)) || (!(((rd_T55 x0 x13).f1) == ((rd_T55 x1 x13).f1)))) = true then (some false) else (laws_pSameLoci.l0 k x0 x1 x12 (wrap64 (x13 + 1)))) else (none)) else (none)) else (none)) else (some true)
def laws_pSameLoci.f (k : Nat) (l0 : List (S55)) (l1 : List (S55)) : Option (Bool) := if (l0.length : Int) = (l1.length : Int) then (laws_pSameLoci.l0 k l0 l1 (l0.length : Int) 0) else (some false)
theorem laws_pSameLoci.mono_l : ∀ k, (∀ y0 y1 y2 y3, LeO (laws_pSameLoci.l0 k y0 y1 y2 y3) (laws_pSameLoci.l0 (k + 1) y0 y1 y2 y3))
  | 0 => fun _ _ _ _ r h => by simp [laws_pSameLoci.l0] at h
  | k + 1 => by
    have ih0 := laws_pSameLoci.mono_l k
    · intro y0 y1 y2 y3
      unfold laws_pSameLoci.l0
      repeat' first
      | (with_reducible exact ih0 _ _ _ _)
      | (with_reducible exact LeO.refl _)
      | (with_reducible exact LeO.none _)
      | (with_reducible refine LeO.ite ?_ ?_)
      | (with_reducible refine LeO.bind ?_ (fun _ => ?_))
theorem laws_pSameLoci.mono : ∀ a0 a1 k, LeO (laws_pSameLoci.f k a0 a1) (laws_pSameLoci.f (k + 1) a0 a1) := by
  intro a0 a1 k
  have ih0 := laws_pSameLoci.mono_l k
  unfold laws_pSameLoci.f
  repeat' first
      | (with_reducible exact ih0 _ _ _ _)
      | (with_reducible exact LeO.refl _)
      | (with_reducible exact LeO.none _)
      | (with_reducible refine LeO.ite ?_ ?_)
      | (with_reducible refine LeO.bind ?_ (fun _ => ?_))
noncomputable def laws_pSameLoci.L0 (x0 : List (S55)) (x1 : List (S55)) (x12 : Int) (x13 : Int) : Option (Bool) := lim fun k => laws_pSameLoci.l0 k x0 x1 x12 x13
theorem laws_pSameLoci.L0_lim (x0 : List (S55)) (x1 : List (S55)) (x12 : Int) (x13 : Int) : Lim (fun k => laws_pSameLoci.l0 k x0 x1 x12 x13) (laws_pSameLoci.L0 x0 x1 x12 x13) := ⟨fun k => (laws_pSameLoci.mono_l k) x0 x1 x12 x13, rfl⟩
noncomputable def laws_pSameLoci.F (l0 : List (S55)) (l1 : List (S55)) : Option (Bool) := lim fun k => laws_pSameLoci.f k l0 l1
theorem laws_pSameLoci.F_lim (l0 : List (S55)) (l1 : List (S55)) : Lim (fun k => laws_pSameLoci.f k l0 l1) (laws_pSameLoci.F l0 l1) := ⟨laws_pSameLoci.mono l0 l1, rfl⟩
theorem laws_pSameLoci.L0_eq (x0 : List (S55)) (x1 : List (S55)) (x12 : Int) (x13 : Int) : laws_pSameLoci.L0 x0 x1 x12 x13 = (if x13 < x12 then (if 0 ≤ x13 then (if x13 < (x0.length : Int) then (if x13 < (x1.length : Int) then (if (!((((rd_T55 x0 x13).f0).toList) == (((rd_T55 x1 x13).f0).toList)) || (!(((rd_T55 x0 x13).f1) == ((rd_T55 x1 x13).f1)))) = true then (some false) else (laws_pSameLoci.L0 x0 x1 x12 (wrap64 (x13 + 1)))) else (none)) else (none)) else (none)) else (some true)) := by
  refine Lim.succ_eq (laws_pSameLoci.L0_lim x0 x1 x12 x13).mon ?_
  simp only [laws_pSameLoci.l0]
  repeat' first
  | (with_reducible exact laws_pSameLoci.L0_lim _ _ _ _)
  | (with_reducible refine Lim.ite ?_ ?_)
  | (with_reducible refine Lim.bind ?_ (fun _ => ?_))
  | (with_reducible exact Lim.const _)
theorem laws_pSameLoci.F_eq (l0 : List (S55)) (l1 : List (S55)) : laws_pSameLoci.F l0 l1 = (if (l0.length : Int) = (l1.length : Int) then (laws_pSameLoci.L0 l0 l1 (l0.length : Int) 0) else (some false)) := by
  refine Lim.eq_ ?_
  simp only [laws_pSameLoci.f]
  repeat' first
  | (with_reducible exact laws_pSameLoci.L0_lim _ _ _ _)
  | (with_reducible refine Lim.ite ?_ ?_)
  | (with_reducible refine Lim.bind ?_ (fun _ => ?_))
  | (with_reducible exact Lim.const _)
def impl_distance.f (a0 : Int) (a1 : Int) : Option (Int) := some (mx (wrap64 (a0 - a1)) (wrap64 (a1 - a0)))
def impl_nearestLoci.l0 : Nat → Int → Int → List ByteArray → List (S55) → Int → Int → Option (Int × List ByteArray)
  | 0, _, _, _, _, _, _ => none
  | k + 1, x1, x6, x7, x11, x12, x13 => if x13 < x12 then (if 0 ≤ x13 then (if x13 < (x11.length : Int) then ((impl_distance.f ((rd_T55 x11 x13).f1) x1).bind fun t386 => (if t386 < x6 then (if t386 = t386 then (if ([] : List ByteArray).length < 8796093022208 then (impl_nearestLoci.l0 k x1 t386 (([] : List ByteArray) ++ [(rd_T55 x11 x13).f0]) x11 x12 (wrap64 (x13 + 1))) else (none)) else (impl_nearestLoci.l0 k x1 t386 ([] : List ByteArray) x11 x12 (wrap64 (x13 + 1)))) else (if t386 = x6 then (if x7.length < 8796093022208 then (impl_nearestLoci.l0 k x1 x6 (x7 ++ [(rd_T55 x11 x13).f0]) x11 x12 (wrap64 (x13 + 1))) else (none)) else (impl_nearestLoci.l0 k x1 x6 x7 x11 x12 (wrap64 (x13 + 1)))))) else (none)) else (none)) else (some (x6, x7))
def impl_nearestLoci.f (k : Nat) (l0 : List (S55)) (a1 : Int) : Option (Int × List ByteArray) := impl_nearestLoci.l0 k a1 181 ([] : List ByteArray) l0 (l0.length : Int) 0
theorem impl_nearestLoci.mono_l : ∀ k, (∀ y0 y1 y2 y3 y4 y5, LeO (impl_nearestLoci.l0 k y0 y1 y2 y3 y4 y5) (impl_nearestLoci.l0 (k + 1) y0 y1 y2 y3 y4 y5))
  | 0 => fun _ _ _ _ _ _ r h => by simp [impl_nearestLoci.l0] at h
  | k + 1 => by
    have ih0 := impl_nearestLoci.mono_l k
    · intro y0 y1 y2 y3 y4 y5
      unfold impl_nearestLoci.l0
      repeat' first
      | (with_reducible exact ih0 _ _ _ _ _ _)
      | (with_reducible exact LeO.refl _)
      | (with_reducible exact LeO.none _)
      | (with_reducible refine LeO.ite ?_ ?_)
      | (with_reducible refine LeO.bind ?_ (fun _ => ?_))
theorem impl_nearestLoci.mono : ∀ a0 a1 k, LeO (impl_nearestLoci.f k a0 a1) (impl_nearestLoci.f (k + 1) a0 a1) := by
  intro a0 a1 k
  have ih0 := impl_nearestLoci.mono_l k
  unfold impl_nearestLoci.f
  repeat' first
      | (with_reducible exact ih0 _ _ _ _ _ _)
      | (with_reducible exact LeO.refl _)
      | (with_reducible exact LeO.none _)
      | (with_reducible refine LeO.ite ?_ ?_)
      | (with_reducible refine LeO.bind ?_ (fun _ => ?_))
noncomputable def impl_nearestLoci.L0 (x1 : Int) (x6 : Int) (x7 : List ByteArray) (x11 : List (S55)) (x12 : Int) (x13 : Int) : Option (Int × List ByteArray) := lim fun k => impl_nearestLoci.l0 k x1 x6 x7 x11 x12 x13
theorem impl_nearestLoci.L0_lim (x1 : Int) (x6 : Int) (x7 : List ByteArray) (x11 : List (S55)) (x12 : Int) (x13 : Int) : Lim (fun k => impl_nearestLoci.l0 k x1 x6 x7 x11 x12 x13) (impl_nearestLoci.L0 x1 x6 x7 x11 x12 x13) := ⟨fun k => (impl_nearestLoci.mono_l k) x1 x6 x7 x11 x12 x13, rfl⟩
noncomputable def impl_nearestLoci.F (l0 : List (S55)) (a1 : Int) : Option (Int × List ByteArray) := lim fun k => impl_nearestLoci.f k l0 a1
theorem impl_nearestLoci.F_lim (l0 : List (S55)) (a1 : Int) : Lim (fun k => impl_nearestLoci.f k l0 a1) (impl_nearestLoci.F l0 a1) := ⟨impl_nearestLoci.mono l0 a1, rfl⟩
theorem impl_nearestLoci.L0_eq (x1 : Int) (x6 : Int) (x7 : List ByteArray) (x11 : List (S55)) (x12 : Int) (x13 : Int) : impl_nearestLoci.L0 x1 x6 x7 x11 x12 x13 = (if x13 < x12 then (if 0 ≤ x13 then (if x13 < (x11.length : Int) then ((impl_distance.f ((rd_T55 x11 x13).f1) x1).bind fun t386 => (if t386 < x6 then (if t386 = t386 then (if ([] : List ByteArray).length < 8796093022208 then (impl_nearestLoci.L0 x1 t386 (([] : List ByteArray) ++ [(rd_T55 x11 x13).f0]) x11 x12 (wrap64 (x13 + 1))) else (none)) else (impl_nearestLoci.L0 x1 t386 ([] : List ByteArray) x11 x12 (wrap64 (x13 + 1)))) else (if t386 = x6 then (if x7.length < 8796093022208 then (impl_nearestLoci.L0 x1 x6 (x7 ++ [(rd_T55 x11 x13).f0]) x11 x12 (wrap64 (x13 + 1))) else (none)) else (impl_nearestLoci.L0 x1 x6 x7 x11 x12 (wrap64 (x13 + 1)))))) else (none)) else (none)) else (some (x6, x7))) := by
  refine Lim.succ_eq (impl_nearestLoci.L0_lim x1 x6 x7 x11 x12 x13).mon ?_
  simp only [impl_nearestLoci.l0]
  repeat' first
  | (with_reducible exact impl_nearestLoci.L0_lim _ _ _ _ _ _)
  | (with_reducible refine Lim.ite ?_ ?_)
  | (with_reducible refine Lim.bind ?_ (fun _ => ?_))
  | (with_reducible exact Lim.const _)
theorem impl_nearestLoci.F_eq (l0 : List (S55)) (a1 : Int) : impl_nearestLoci.F l0 a1 = (impl_nearestLoci.L0 a1 181 ([] : List ByteArray) l0 (l0.length : Int) 0) := by
  refine Lim.eq_ ?_
  simp only [impl_nearestLoci.f]
  repeat' first
  | (with_reducible exact impl_nearestLoci.L0_lim _ _ _ _ _ _)
  | (with_reducible refine Lim.ite ?_ ?_)
  | (with_reducible refine Lim.bind ?_ (fun _ => ?_))
  | (with_reducible exact Lim.const _)
def impl_pointsAt.f (k : Nat) (l0 : List (S55)) (a1 : Int) : Option (ByteArray) := (impl_nearestLoci.f k l0 a1).bind fun bt393 => (if bt393.1 > 20 then (some (⟨#[]⟩ : ByteArray)) else (if (bt393.2.length : Int) = 1 then (if 0 < (bt393.2.length : Int) then (some (rdOf ByteArray.empty bt393.2 0)) else (none)) else (some (⟨#[]⟩ : ByteArray))))
theorem impl_pointsAt.mono : ∀ a0 a1 k, LeO (impl_pointsAt.f k a0 a1) (impl_pointsAt.f (k + 1) a0 a1) := by
  intro a0 a1 k
  unfold impl_pointsAt.f
  repeat' first
      | (with_reducible exact impl_nearestLoci.mono _ _ _)
      | (with_reducible exact LeO.refl _)
      | (with_reducible exact LeO.none _)
      | (with_reducible refine LeO.ite ?_ ?_)
      | (with_reducible refine LeO.bind ?_ (fun _ => ?_))
noncomputable def impl_pointsAt.F (l0 : List (S55)) (a1 : Int) : Option (ByteArray) := lim fun k => impl_pointsAt.f k l0 a1
theorem impl_pointsAt.F_lim (l0 : List (S55)) (a1 : Int) : Lim (fun k => impl_pointsAt.f k l0 a1) (impl_pointsAt.F l0 a1) := ⟨impl_pointsAt.mono l0 a1, rfl⟩
theorem impl_pointsAt.F_eq (l0 : List (S55)) (a1 : Int) : impl_pointsAt.F l0 a1 = ((impl_nearestLoci.F l0 a1).bind fun bt393 => (if bt393.1 > 20 then (some (⟨#[]⟩ : ByteArray)) else (if (bt393.2.length : Int) = 1 then (if 0 < (bt393.2.length : Int) then (some (rdOf ByteArray.empty bt393.2 0)) else (none)) else (some (⟨#[]⟩ : ByteArray))))) := by
  refine Lim.eq_ ?_
  simp only [impl_pointsAt.f]
  repeat' first
  | (with_reducible exact impl_nearestLoci.F_lim _ _)
  | (with_reducible refine Lim.ite ?_ ?_)
  | (with_reducible refine Lim.bind ?_ (fun _ => ?_))
  | (with_reducible exact Lim.const _)
def impl_PointsAt.f (k : Nat) (l0 : List (S55)) (a1 : Int) : Option (ByteArray × Bool) := (impl_AreLoci.f k l0).bind fun t398 => (if t398 = true then ((impl_isAngle.f a1).bind fun t399 => (if t399 = true then ((impl_pointsAt.f k l0 a1).bind fun t400 => (some (t400, (t400.toList != ([] : List UInt8))))) else (some ((⟨#[]⟩ : ByteArray), false)))) else (some ((⟨#[]⟩ : ByteArray), false)))
theorem impl_PointsAt.mono : ∀ a0 a1 k, LeO (impl_PointsAt.f k a0 a1) (impl_PointsAt.f (k + 1) a0 a1) := by
  intro a0 a1 k
  unfold impl_PointsAt.f
  repeat' first
      | (with_reducible exact impl_AreLoci.mono _ _)
      | (with_reducible exact impl_pointsAt.mono _ _ _)
      | (with_reducible exact LeO.refl _)
      | (with_reducible exact LeO.none _)
      | (with_reducible refine LeO.ite ?_ ?_)
      | (with_reducible refine LeO.bind ?_ (fun _ => ?_))
noncomputable def impl_PointsAt.F (l0 : List (S55)) (a1 : Int) : Option (ByteArray × Bool) := lim fun k => impl_PointsAt.f k l0 a1
theorem impl_PointsAt.F_lim (l0 : List (S55)) (a1 : Int) : Lim (fun k => impl_PointsAt.f k l0 a1) (impl_PointsAt.F l0 a1) := ⟨impl_PointsAt.mono l0 a1, rfl⟩
theorem impl_PointsAt.F_eq (l0 : List (S55)) (a1 : Int) : impl_PointsAt.F l0 a1 = ((impl_AreLoci.F l0).bind fun t398 => (if t398 = true then ((impl_isAngle.f a1).bind fun t399 => (if t399 = true then ((impl_pointsAt.F l0 a1).bind fun t400 => (some (t400, (t400.toList != ([] : List UInt8))))) else (some ((⟨#[]⟩ : ByteArray), false)))) else (some ((⟨#[]⟩ : ByteArray), false)))) := by
  refine Lim.eq_ ?_
  simp only [impl_PointsAt.f]
  repeat' first
  | (with_reducible exact impl_AreLoci.F_lim _)
  | (with_reducible exact impl_pointsAt.F_lim _ _)
  | (with_reducible refine Lim.ite ?_ ?_)
  | (with_reducible refine Lim.bind ?_ (fun _ => ?_))
  | (with_reducible exact Lim.const _)
def impl_DropReferent.f (k : Nat) (l0 : List (S55)) (a1 : ByteArray) : Option ((List (S55)) × Bool) := (impl_AreLoci.f k l0).bind fun t401 => (if t401 = true then ((impl_isWordOf.f k a1 (⟨#[97, 98, 99, 100, 101, 102, 103, 104, 105, 106, 107, 108, 109, 110, 111, 112, 113, 114, 115, 116, 117, 118, 119, 120, 121, 122]⟩ : ByteArray)).bind fun t402 => (if t402 = true then ((impl_locusOf.f k l0 a1).bind fun t403 => (if t403 < 0 then (some (([] : List (S55)), false)) else ((impl_without.f k l0 a1).bind fun t404 => (some (t404, true))))) else (some (([] : List (S55)), false)))) else (some (([] : List (S55)), false)))
theorem impl_DropReferent.mono : ∀ a0 a1 k, LeO (impl_DropReferent.f k a0 a1) (impl_DropReferent.f (k + 1) a0 a1) := by
  intro a0 a1 k
  unfold impl_DropReferent.f
  repeat' first
      | (with_reducible exact impl_AreLoci.mono _ _)
      | (with_reducible exact impl_isWordOf.mono _ _ _)
      | (with_reducible exact impl_locusOf.mono _ _ _)
      | (with_reducible exact impl_without.mono _ _ _)
      | (with_reducible exact LeO.refl _)
      | (with_reducible exact LeO.none _)
      | (with_reducible refine LeO.ite ?_ ?_)
      | (with_reducible refine LeO.bind ?_ (fun _ => ?_))
noncomputable def impl_DropReferent.F (l0 : List (S55)) (a1 : ByteArray) : Option ((List (S55)) × Bool) := lim fun k => impl_DropReferent.f k l0 a1
theorem impl_DropReferent.F_lim (l0 : List (S55)) (a1 : ByteArray) : Lim (fun k => impl_DropReferent.f k l0 a1) (impl_DropReferent.F l0 a1) := ⟨impl_DropReferent.mono l0 a1, rfl⟩
theorem impl_DropReferent.F_eq (l0 : List (S55)) (a1 : ByteArray) : impl_DropReferent.F l0 a1 = ((impl_AreLoci.F l0).bind fun t401 => (if t401 = true then ((impl_isWordOf.F a1 (⟨#[97, 98, 99, 100, 101, 102, 103, 104, 105, 106, 107, 108, 109, 110, 111, 112, 113, 114, 115, 116, 117, 118, 119, 120, 121, 122]⟩ : ByteArray)).bind fun t402 => (if t402 = true then ((impl_locusOf.F l0 a1).bind fun t403 => (if t403 < 0 then (some (([] : List (S55)), false)) else ((impl_without.F l0 a1).bind fun t404 => (some (t404, true))))) else (some (([] : List (S55)), false)))) else (some (([] : List (S55)), false)))) := by
  refine Lim.eq_ ?_
  simp only [impl_DropReferent.f]
  repeat' first
  | (with_reducible exact impl_AreLoci.F_lim _)
  | (with_reducible exact impl_isWordOf.F_lim _ _)
  | (with_reducible exact impl_locusOf.F_lim _ _)
  | (with_reducible exact impl_without.F_lim _ _)
  | (with_reducible refine Lim.ite ?_ ?_)
  | (with_reducible refine Lim.bind ?_ (fun _ => ?_))
  | (with_reducible exact Lim.const _)
def spec_DropReferent.f (k : Nat) (l0 : List (S55)) (a1 : ByteArray) : Option ((List (S55)) × Bool) := (spec_loGood.f k l0).bind fun t407 => (if t407 = true then ((spec_loFind.f k l0 a1).bind fun t408 => (if t408 < 0 then (some (([] : List (S55)), false)) else ((spec_loWithout.f k l0 a1).bind fun t409 => (some (t409, true))))) else (some (([] : List (S55)), false)))
theorem spec_DropReferent.mono : ∀ a0 a1 k, LeO (spec_DropReferent.f k a0 a1) (spec_DropReferent.f (k + 1) a0 a1) := by
  intro a0 a1 k
  unfold spec_DropReferent.f
  repeat' first
      | (with_reducible exact spec_loFind.mono _ _ _)
      | (with_reducible exact spec_loGood.mono _ _)
      | (with_reducible exact spec_loWithout.mono _ _ _)
      | (with_reducible exact LeO.refl _)
      | (with_reducible exact LeO.none _)
      | (with_reducible refine LeO.ite ?_ ?_)
      | (with_reducible refine LeO.bind ?_ (fun _ => ?_))
noncomputable def spec_DropReferent.F (l0 : List (S55)) (a1 : ByteArray) : Option ((List (S55)) × Bool) := lim fun k => spec_DropReferent.f k l0 a1
theorem spec_DropReferent.F_lim (l0 : List (S55)) (a1 : ByteArray) : Lim (fun k => spec_DropReferent.f k l0 a1) (spec_DropReferent.F l0 a1) := ⟨spec_DropReferent.mono l0 a1, rfl⟩
theorem spec_DropReferent.F_eq (l0 : List (S55)) (a1 : ByteArray) : spec_DropReferent.F l0 a1 = ((spec_loGood.F l0).bind fun t407 => (if t407 = true then ((spec_loFind.F l0 a1).bind fun t408 => (if t408 < 0 then (some (([] : List (S55)), false)) else ((spec_loWithout.F l0 a1).bind fun t409 => (some (t409, true))))) else (some (([] : List (S55)), false)))) := by
  refine Lim.eq_ ?_
  simp only [spec_DropReferent.f]
  repeat' first
  | (with_reducible exact spec_loFind.F_lim _ _)
  | (with_reducible exact spec_loGood.F_lim _)
  | (with_reducible exact spec_loWithout.F_lim _ _)
  | (with_reducible refine Lim.ite ?_ ?_)
  | (with_reducible refine Lim.bind ?_ (fun _ => ?_))
  | (with_reducible exact Lim.const _)
def spec_l1Cur_one.f (s0_0 : List Int) (s0_1 : Int) (s0_2 : Int) (a1 : Int) : Option (Bool × Int × Int) := (spec_l1Cur_pick.f s0_0 s0_1 s0_2 a1).bind fun bt412 => (some ((bt412.1 == 0), bt412.2.1, bt412.2.2))
def spec_DrawPointsAt.j0 : Nat → List (S55) → Bool → List Int → Int → Int → Option ((List (S55)) × Int)
  | 0, _, _, _, _, _ => none
  | k + 1, x5, x17, x416000, x416001, x416002 => if x17 = true then ((spec_l1Cur_pick.f x416000 x416001 x416002 (x5.length : Int)).bind fun bt424 => (if 0 ≤ bt424.1 then (if bt424.1 < (x5.length : Int) then ((spec_l1Cur_among.f x416000 bt424.2.1 bt424.2.2 (([0, 5, (-5), 20, 21, (-20)] : List Int))).bind fun bt431 => (some (x5, wrap64 (((rd_T55 x5 bt424.1).f1) + bt431.1)))) else (none)) else (none))) else ((spec_l1Cur_angleOf.f x416000 x416001 x416002).bind fun bt434 => (some (x5, bt434.1)))
def spec_DrawPointsAt.f (k : Nat) (l0 : List Int) : Option ((List (S55)) × Int) := (spec_l1Cur_loci.f k l0 0 0).bind fun bt416 => (if (bt416.1.length : Int) > 0 then ((spec_l1Cur_one.f l0 bt416.2.1 bt416.2.2 2).bind fun bt421 => (spec_DrawPointsAt.j0 k bt416.1 bt421.1 l0 bt421.2.1 bt421.2.2)) else (spec_DrawPointsAt.j0 k bt416.1 false l0 bt416.2.1 bt416.2.2))
theorem spec_DrawPointsAt.mono_l : ∀ k, (∀ y0 y1 y2 y3 y4, LeO (spec_DrawPointsAt.j0 k y0 y1 y2 y3 y4) (spec_DrawPointsAt.j0 (k + 1) y0 y1 y2 y3 y4))
  | 0 => fun _ _ _ _ _ r h => by simp [spec_DrawPointsAt.j0] at h
  | k + 1 => by
    have ih0 := spec_DrawPointsAt.mono_l k
    · intro y0 y1 y2 y3 y4
      unfold spec_DrawPointsAt.j0
      repeat' first
      | (with_reducible exact ih0 _ _ _ _ _)
      | (with_reducible exact spec_l1Cur_loci.mono _ _ _ _)
      | (with_reducible exact LeO.refl _)
      | (with_reducible exact LeO.none _)
      | (with_reducible refine LeO.ite ?_ ?_)
      | (with_reducible refine LeO.bind ?_ (fun _ => ?_))
theorem spec_DrawPointsAt.mono : ∀ a0 k, LeO (spec_DrawPointsAt.f k a0) (spec_DrawPointsAt.f (k + 1) a0) := by
  intro a0 k
  have ih0 := spec_DrawPointsAt.mono_l k
  unfold spec_DrawPointsAt.f
  repeat' first
      | (with_reducible exact ih0 _ _ _ _ _)
      | (with_reducible exact spec_l1Cur_loci.mono _ _ _ _)
      | (with_reducible exact LeO.refl _)
      | (with_reducible exact LeO.none _)
      | (with_reducible refine LeO.ite ?_ ?_)
      | (with_reducible refine LeO.bind ?_ (fun _ => ?_))
noncomputable def spec_DrawPointsAt.J0 (x5 : List (S55)) (x17 : Bool) (x416000 : List Int) (x416001 : Int) (x416002 : Int) : Option ((List (S55)) × Int) := lim fun k => spec_DrawPointsAt.j0 k x5 x17 x416000 x416001 x416002
theorem spec_DrawPointsAt.J0_lim (x5 : List (S55)) (x17 : Bool) (x416000 : List Int) (x416001 : Int) (x416002 : Int) : Lim (fun k => spec_DrawPointsAt.j0 k x5 x17 x416000 x416001 x416002) (spec_DrawPointsAt.J0 x5 x17 x416000 x416001 x416002) := ⟨fun k => (spec_DrawPointsAt.mono_l k) x5 x17 x416000 x416001 x416002, rfl⟩
noncomputable def spec_DrawPointsAt.F (l0 : List Int) : Option ((List (S55)) × Int) := lim fun k => spec_DrawPointsAt.f k l0
theorem spec_DrawPointsAt.F_lim (l0 : List Int) : Lim (fun k => spec_DrawPointsAt.f k l0) (spec_DrawPointsAt.F l0) := ⟨spec_DrawPointsAt.mono l0, rfl⟩
theorem spec_DrawPointsAt.J0_eq (x5 : List (S55)) (x17 : Bool) (x416000 : List Int) (x416001 : Int) (x416002 : Int) : spec_DrawPointsAt.J0 x5 x17 x416000 x416001 x416002 = (if x17 = true then ((spec_l1Cur_pick.f x416000 x416001 x416002 (x5.length : Int)).bind fun bt424 => (if 0 ≤ bt424.1 then (if bt424.1 < (x5.length : Int) then ((spec_l1Cur_among.f x416000 bt424.2.1 bt424.2.2 (([0, 5, (-5), 20, 21, (-20)] : List Int))).bind fun bt431 => (some (x5, wrap64 (((rd_T55 x5 bt424.1).f1) + bt431.1)))) else (none)) else (none))) else ((spec_l1Cur_angleOf.f x416000 x416001 x416002).bind fun bt434 => (some (x5, bt434.1)))) := by
  refine Lim.succ_eq (spec_DrawPointsAt.J0_lim x5 x17 x416000 x416001 x416002).mon ?_
  simp only [spec_DrawPointsAt.j0]
  repeat' first
  | (with_reducible exact spec_DrawPointsAt.J0_lim _ _ _ _ _)
  | (with_reducible exact spec_l1Cur_loci.F_lim _ _ _)
  | (with_reducible refine Lim.ite ?_ ?_)
  | (with_reducible refine Lim.bind ?_ (fun _ => ?_))
  | (with_reducible exact Lim.const _)
theorem spec_DrawPointsAt.F_eq (l0 : List Int) : spec_DrawPointsAt.F l0 = ((spec_l1Cur_loci.F l0 0 0).bind fun bt416 => (if (bt416.1.length : Int) > 0 then ((spec_l1Cur_one.f l0 bt416.2.1 bt416.2.2 2).bind fun bt421 => (spec_DrawPointsAt.J0 bt416.1 bt421.1 l0 bt421.2.1 bt421.2.2)) else (spec_DrawPointsAt.J0 bt416.1 false l0 bt416.2.1 bt416.2.2))) := by
  refine Lim.eq_ ?_
  simp only [spec_DrawPointsAt.f]
  repeat' first
  | (with_reducible exact spec_DrawPointsAt.J0_lim _ _ _ _ _)
  | (with_reducible exact spec_l1Cur_loci.F_lim _ _ _)
  | (with_reducible refine Lim.ite ?_ ?_)
  | (with_reducible refine Lim.bind ?_ (fun _ => ?_))
  | (with_reducible exact Lim.const _)
def spec_l1Abs.f (a0 : Int) : Option (Int) := (spec_l1Most.f a0 (wrap64 (-a0))).bind fun t437 => (some t437)
def spec_loLeast.l0 : Nat → Int → Int → Int → List (S55) → Int → Int → Option (Int × Int)
  | 0, _, _, _, _, _, _ => none
  | k + 1, x1, x6, x7, x11, x12, x13 => if x13 < x12 then (if 0 ≤ x13 then (if x13 < (x11.length : Int) then ((spec_l1Abs.f (wrap64 (((rd_T55 x11 x13).f1) - x1))).bind fun t440 => (if t440 < x6 then (spec_loLeast.l0 k x1 t440 1 x11 x12 (wrap64 (x13 + 1))) else (if t440 = x6 then (spec_loLeast.l0 k x1 x6 (wrap64 (x7 + 1)) x11 x12 (wrap64 (x13 + 1))) else (spec_loLeast.l0 k x1 x6 x7 x11 x12 (wrap64 (x13 + 1)))))) else (none)) else (none)) else (some (x6, x7))
def spec_loLeast.f (k : Nat) (l0 : List (S55)) (a1 : Int) : Option (Int × Int) := spec_loLeast.l0 k a1 181 0 l0 (l0.length : Int) 0
theorem spec_loLeast.mono_l : ∀ k, (∀ y0 y1 y2 y3 y4 y5, LeO (spec_loLeast.l0 k y0 y1 y2 y3 y4 y5) (spec_loLeast.l0 (k + 1) y0 y1 y2 y3 y4 y5))
  | 0 => fun _ _ _ _ _ _ r h => by simp [spec_loLeast.l0] at h
  | k + 1 => by
    have ih0 := spec_loLeast.mono_l k
    · intro y0 y1 y2 y3 y4 y5
      unfold spec_loLeast.l0
      repeat' first
      | (with_reducible exact ih0 _ _ _ _ _ _)
      | (with_reducible exact LeO.refl _)
      | (with_reducible exact LeO.none _)
      | (with_reducible refine LeO.ite ?_ ?_)
      | (with_reducible refine LeO.bind ?_ (fun _ => ?_))
theorem spec_loLeast.mono : ∀ a0 a1 k, LeO (spec_loLeast.f k a0 a1) (spec_loLeast.f (k + 1) a0 a1) := by
  intro a0 a1 k
  have ih0 := spec_loLeast.mono_l k
  unfold spec_loLeast.f
  repeat' first
      | (with_reducible exact ih0 _ _ _ _ _ _)
      | (with_reducible exact LeO.refl _)
      | (with_reducible exact LeO.none _)
      | (with_reducible refine LeO.ite ?_ ?_)
      | (with_reducible refine LeO.bind ?_ (fun _ => ?_))
noncomputable def spec_loLeast.L0 (x1 : Int) (x6 : Int) (x7 : Int) (x11 : List (S55)) (x12 : Int) (x13 : Int) : Option (Int × Int) := lim fun k => spec_loLeast.l0 k x1 x6 x7 x11 x12 x13
theorem spec_loLeast.L0_lim (x1 : Int) (x6 : Int) (x7 : Int) (x11 : List (S55)) (x12 : Int) (x13 : Int) : Lim (fun k => spec_loLeast.l0 k x1 x6 x7 x11 x12 x13) (spec_loLeast.L0 x1 x6 x7 x11 x12 x13) := ⟨fun k => (spec_loLeast.mono_l k) x1 x6 x7 x11 x12 x13, rfl⟩
noncomputable def spec_loLeast.F (l0 : List (S55)) (a1 : Int) : Option (Int × Int) := lim fun k => spec_loLeast.f k l0 a1
theorem spec_loLeast.F_lim (l0 : List (S55)) (a1 : Int) : Lim (fun k => spec_loLeast.f k l0 a1) (spec_loLeast.F l0 a1) := ⟨spec_loLeast.mono l0 a1, rfl⟩
theorem spec_loLeast.L0_eq (x1 : Int) (x6 : Int) (x7 : Int) (x11 : List (S55)) (x12 : Int) (x13 : Int) : spec_loLeast.L0 x1 x6 x7 x11 x12 x13 = (if x13 < x12 then (if 0 ≤ x13 then (if x13 < (x11.length : Int) then ((spec_l1Abs.f (wrap64 (((rd_T55 x11 x13).f1) - x1))).bind fun t440 => (if t440 < x6 then (spec_loLeast.L0 x1 t440 1 x11 x12 (wrap64 (x13 + 1))) else (if t440 = x6 then (spec_loLeast.L0 x1 x6 (wrap64 (x7 + 1)) x11 x12 (wrap64 (x13 + 1))) else (spec_loLeast.L0 x1 x6 x7 x11 x12 (wrap64 (x13 + 1)))))) else (none)) else (none)) else (some (x6, x7))) := by
  refine Lim.succ_eq (spec_loLeast.L0_lim x1 x6 x7 x11 x12 x13).mon ?_
  simp only [spec_loLeast.l0]
  repeat' first
  | (with_reducible exact spec_loLeast.L0_lim _ _ _ _ _ _)
  | (with_reducible refine Lim.ite ?_ ?_)
  | (with_reducible refine Lim.bind ?_ (fun _ => ?_))
  | (with_reducible exact Lim.const _)
theorem spec_loLeast.F_eq (l0 : List (S55)) (a1 : Int) : spec_loLeast.F l0 a1 = (spec_loLeast.L0 a1 181 0 l0 (l0.length : Int) 0) := by
  refine Lim.eq_ ?_
  simp only [spec_loLeast.f]
  repeat' first
  | (with_reducible exact spec_loLeast.L0_lim _ _ _ _ _ _)
  | (with_reducible refine Lim.ite ?_ ?_)
  | (with_reducible refine Lim.bind ?_ (fun _ => ?_))
  | (with_reducible exact Lim.const _)
mutual
def spec_loMeans.j0 : Nat → List (S55) → Int → Int → Bool → Option (ByteArray × Bool)
  | 0, _, _, _, _ => none
  | k + 1, x0, x1, x6, x21 => if x21 = true then (some ((⟨#[]⟩ : ByteArray), false)) else (spec_loMeans.l0 k x1 x6 x0 (x0.length : Int) 0)
def spec_loMeans.l0 : Nat → Int → Int → List (S55) → Int → Int → Option (ByteArray × Bool)
  | 0, _, _, _, _, _ => none
  | k + 1, x1, x6, x22, x23, x24 => if x24 < x23 then (if 0 ≤ x24 then (if x24 < (x22.length : Int) then ((spec_l1Abs.f (wrap64 (((rd_T55 x22 x24).f1) - x1))).bind fun t445 => (if t445 = x6 then (some ((rd_T55 x22 x24).f0, true)) else (spec_loMeans.l0 k x1 x6 x22 x23 (wrap64 (x24 + 1))))) else (none)) else (none)) else (some ((⟨#[]⟩ : ByteArray), false))
end
def spec_loMeans.f (k : Nat) (l0 : List (S55)) (a1 : Int) : Option (ByteArray × Bool) := (spec_loLeast.f k l0 a1).bind fun bt441 => (if bt441.1 > 20 then (spec_loMeans.j0 k l0 a1 bt441.1 true) else (spec_loMeans.j0 k l0 a1 bt441.1 (bt441.2 != 1)))
theorem spec_loMeans.mono_l : ∀ k, (∀ y0 y1 y2 y3, LeO (spec_loMeans.j0 k y0 y1 y2 y3) (spec_loMeans.j0 (k + 1) y0 y1 y2 y3)) ∧ (∀ y0 y1 y2 y3 y4, LeO (spec_loMeans.l0 k y0 y1 y2 y3 y4) (spec_loMeans.l0 (k + 1) y0 y1 y2 y3 y4))
  | 0 => ⟨fun _ _ _ _ r h => by simp [spec_loMeans.j0] at h, fun _ _ _ _ _ r h => by simp [spec_loMeans.l0] at h⟩
  | k + 1 => by
    obtain ⟨ih0, ih1⟩ := spec_loMeans.mono_l k
    refine ⟨?_, ?_⟩
    · intro y0 y1 y2 y3
      unfold spec_loMeans.j0
      repeat' first
      | (with_reducible exact ih0 _ _ _ _)
      | (with_reducible exact ih1 _ _ _ _ _)
      | (with_reducible exact spec_loLeast.mono _ _ _)
      | (with_reducible exact LeO.refl _)
      | (with_reducible exact LeO.none _)
      | (with_reducible refine LeO.ite ?_ ?_)
      | (with_reducible refine LeO.bind ?_ (fun _ => ?_))
    · intro y0 y1 y2 y3 y4
      unfold spec_loMeans.l0
      repeat' first
      | (with_reducible exact ih0 _ _ _ _)
      | (with_reducible exact ih1 _ _ _ _ _)
      | (with_reducible exact spec_loLeast.mono _ _ _)
      | (with_reducible exact LeO.refl _)
      | (with_reducible exact LeO.none _)
      | (with_reducible refine LeO.ite ?_ ?_)
      | (with_reducible refine LeO.bind ?_ (fun _ => ?_))
theorem spec_loMeans.mono : ∀ a0 a1 k, LeO (spec_loMeans.f k a0 a1) (spec_loMeans.f (k + 1) a0 a1) := by
  intro a0 a1 k
  obtain ⟨ih0, ih1⟩ := spec_loMeans.mono_l k
  unfold spec_loMeans.f
  repeat' first
      | (with_reducible exact ih0 _ _ _ _)
      | (with_reducible exact ih1 _ _ _ _ _)
      | (with_reducible exact spec_loLeast.mono _ _ _)
      | (with_reducible exact LeO.refl _)
      | (with_reducible exact LeO.none _)
      | (with_reducible refine LeO.ite ?_ ?_)
      | (with_reducible refine LeO.bind ?_ (fun _ => ?_))
noncomputable def spec_loMeans.J0 (x0 : List (S55)) (x1 : Int) (x6 : Int) (x21 : Bool) : Option (ByteArray × Bool) := lim fun k => spec_loMeans.j0 k x0 x1 x6 x21
theorem spec_loMeans.J0_lim (x0 : List (S55)) (x1 : Int) (x6 : Int) (x21 : Bool) : Lim (fun k => spec_loMeans.j0 k x0 x1 x6 x21) (spec_loMeans.J0 x0 x1 x6 x21) := ⟨fun k => (spec_loMeans.mono_l k).1 x0 x1 x6 x21, rfl⟩
noncomputable def spec_loMeans.L0 (x1 : Int) (x6 : Int) (x22 : List (S55)) (x23 : Int) (x24 : Int) : Option (ByteArray × Bool) := lim fun k => spec_loMeans.l0 k x1 x6 x22 x23 x24
theorem spec_loMeans.L0_lim (x1 : Int) (x6 : Int) (x22 : List (S55)) (x23 : Int) (x24 : Int) : Lim (fun k => spec_loMeans.l0 k x1 x6 x22 x23 x24) (spec_loMeans.L0 x1 x6 x22 x23 x24) := ⟨fun k => (spec_loMeans.mono_l k).2 x1 x6 x22 x23 x24, rfl⟩
noncomputable def spec_loMeans.F (l0 : List (S55)) (a1 : Int) : Option (ByteArray × Bool) := lim fun k => spec_loMeans.f k l0 a1
theorem spec_loMeans.F_lim (l0 : List (S55)) (a1 : Int) : Lim (fun k => spec_loMeans.f k l0 a1) (spec_loMeans.F l0 a1) := ⟨spec_loMeans.mono l0 a1, rfl⟩
theorem spec_loMeans.J0_eq (x0 : List (S55)) (x1 : Int) (x6 : Int) (x21 : Bool) : spec_loMeans.J0 x0 x1 x6 x21 = (if x21 = true then (some ((⟨#[]⟩ : ByteArray), false)) else (spec_loMeans.L0 x1 x6 x0 (x0.length : Int) 0)) := by
  refine Lim.succ_eq (spec_loMeans.J0_lim x0 x1 x6 x21).mon ?_
  simp only [spec_loMeans.j0]
  repeat' first
  | (with_reducible exact spec_loMeans.J0_lim _ _ _ _)
  | (with_reducible exact spec_loMeans.L0_lim _ _ _ _ _)
  | (with_reducible exact spec_loLeast.F_lim _ _)
  | (with_reducible refine Lim.ite ?_ ?_)
  | (with_reducible refine Lim.bind ?_ (fun _ => ?_))
  | (with_reducible exact Lim.const _)
theorem spec_loMeans.L0_eq (x1 : Int) (x6 : Int) (x22 : List (S55)) (x23 : Int) (x24 : Int) : spec_loMeans.L0 x1 x6 x22 x23 x24 = (if x24 < x23 then (if 0 ≤ x24 then (if x24 < (x22.length : Int) then ((spec_l1Abs.f (wrap64 (((rd_T55 x22 x24).f1) - x1))).bind fun t445 => (if t445 = x6 then (some ((rd_T55 x22 x24).f0, true)) else (spec_loMeans.L0 x1 x6 x22 x23 (wrap64 (x24 + 1))))) else (none)) else (none)) else (some ((⟨#[]⟩ : ByteArray), false))) := by
  refine Lim.succ_eq (spec_loMeans.L0_lim x1 x6 x22 x23 x24).mon ?_
  simp only [spec_loMeans.l0]
  repeat' first
  | (with_reducible exact spec_loMeans.J0_lim _ _ _ _)
  | (with_reducible exact spec_loMeans.L0_lim _ _ _ _ _)
  | (with_reducible exact spec_loLeast.F_lim _ _)
  | (with_reducible refine Lim.ite ?_ ?_)
  | (with_reducible refine Lim.bind ?_ (fun _ => ?_))
  | (with_reducible exact Lim.const _)
theorem spec_loMeans.F_eq (l0 : List (S55)) (a1 : Int) : spec_loMeans.F l0 a1 = ((spec_loLeast.F l0 a1).bind fun bt441 => (if bt441.1 > 20 then (spec_loMeans.J0 l0 a1 bt441.1 true) else (spec_loMeans.J0 l0 a1 bt441.1 (bt441.2 != 1)))) := by
  refine Lim.eq_ ?_
  simp only [spec_loMeans.f]
  repeat' first
  | (with_reducible exact spec_loMeans.J0_lim _ _ _ _)
  | (with_reducible exact spec_loMeans.L0_lim _ _ _ _ _)
  | (with_reducible exact spec_loLeast.F_lim _ _)
  | (with_reducible refine Lim.ite ?_ ?_)
  | (with_reducible refine Lim.bind ?_ (fun _ => ?_))
  | (with_reducible exact Lim.const _)
def spec_PointsAt.f (k : Nat) (l0 : List (S55)) (a1 : Int) : Option (ByteArray × Bool) := (spec_loGood.f k l0).bind fun t446 => (if t446 = true then ((spec_loAngle.f a1).bind fun t447 => (if t447 = true then ((spec_loMeans.f k l0 a1).bind fun bt448 => (some (bt448.1, bt448.2))) else (some ((⟨#[]⟩ : ByteArray), false)))) else (some ((⟨#[]⟩ : ByteArray), false)))
theorem spec_PointsAt.mono : ∀ a0 a1 k, LeO (spec_PointsAt.f k a0 a1) (spec_PointsAt.f (k + 1) a0 a1) := by
  intro a0 a1 k
  unfold spec_PointsAt.f
  repeat' first
      | (with_reducible exact spec_loGood.mono _ _)
      | (with_reducible exact spec_loMeans.mono _ _ _)
      | (with_reducible exact LeO.refl _)
      | (with_reducible exact LeO.none _)
      | (with_reducible refine LeO.ite ?_ ?_)
      | (with_reducible refine LeO.bind ?_ (fun _ => ?_))
noncomputable def spec_PointsAt.F (l0 : List (S55)) (a1 : Int) : Option (ByteArray × Bool) := lim fun k => spec_PointsAt.f k l0 a1
theorem spec_PointsAt.F_lim (l0 : List (S55)) (a1 : Int) : Lim (fun k => spec_PointsAt.f k l0 a1) (spec_PointsAt.F l0 a1) := ⟨spec_PointsAt.mono l0 a1, rfl⟩
theorem spec_PointsAt.F_eq (l0 : List (S55)) (a1 : Int) : spec_PointsAt.F l0 a1 = ((spec_loGood.F l0).bind fun t446 => (if t446 = true then ((spec_loAngle.f a1).bind fun t447 => (if t447 = true then ((spec_loMeans.F l0 a1).bind fun bt448 => (some (bt448.1, bt448.2))) else (some ((⟨#[]⟩ : ByteArray), false)))) else (some ((⟨#[]⟩ : ByteArray), false)))) := by
  refine Lim.eq_ ?_
  simp only [spec_PointsAt.f]
  repeat' first
  | (with_reducible exact spec_loGood.F_lim _)
  | (with_reducible exact spec_loMeans.F_lim _ _)
  | (with_reducible refine Lim.ite ?_ ?_)
  | (with_reducible refine Lim.bind ?_ (fun _ => ?_))
  | (with_reducible exact Lim.const _)
def laws_pAbs.f (a0 : Int) : Option (Int) := if a0 < 0 then (some (wrap64 (-a0))) else (some a0)
def spec_DrawDropReferent.j0 : Nat → List (S55) → Bool → List Int → Int → Int → Option ((List (S55)) × ByteArray)
  | 0, _, _, _, _, _ => none
  | k + 1, x5, x18, x451000, x451001, x451002 => if x18 = true then ((spec_l1Cur_pick.f x451000 x451001 x451002 (x5.length : Int)).bind fun bt459 => (if 0 ≤ bt459.1 then (if bt459.1 < (x5.length : Int) then (some (x5, (rd_T55 x5 bt459.1).f0)) else (none)) else (none))) else ((spec_l1Cur_anyReferent.f x451000 x451001 x451002).bind fun bt463 => (some (x5, bt463.1)))
def spec_DrawDropReferent.f (k : Nat) (l0 : List Int) : Option ((List (S55)) × ByteArray) := (spec_l1Cur_loci.f k l0 0 0).bind fun bt451 => (if (bt451.1.length : Int) > 0 then ((spec_l1Cur_one.f l0 bt451.2.1 bt451.2.2 4).bind fun bt456 => (spec_DrawDropReferent.j0 k bt451.1 (!bt456.1) l0 bt456.2.1 bt456.2.2)) else (spec_DrawDropReferent.j0 k bt451.1 false l0 bt451.2.1 bt451.2.2))
theorem spec_DrawDropReferent.mono_l : ∀ k, (∀ y0 y1 y2 y3 y4, LeO (spec_DrawDropReferent.j0 k y0 y1 y2 y3 y4) (spec_DrawDropReferent.j0 (k + 1) y0 y1 y2 y3 y4))
  | 0 => fun _ _ _ _ _ r h => by simp [spec_DrawDropReferent.j0] at h
  | k + 1 => by
    have ih0 := spec_DrawDropReferent.mono_l k
    · intro y0 y1 y2 y3 y4
      unfold spec_DrawDropReferent.j0
      repeat' first
      | (with_reducible exact ih0 _ _ _ _ _)
      | (with_reducible exact spec_l1Cur_loci.mono _ _ _ _)
      | (with_reducible exact LeO.refl _)
      | (with_reducible exact LeO.none _)
      | (with_reducible refine LeO.ite ?_ ?_)
      | (with_reducible refine LeO.bind ?_ (fun _ => ?_))
theorem spec_DrawDropReferent.mono : ∀ a0 k, LeO (spec_DrawDropReferent.f k a0) (spec_DrawDropReferent.f (k + 1) a0) := by
  intro a0 k
  have ih0 := spec_DrawDropReferent.mono_l k
  unfold spec_DrawDropReferent.f
  repeat' first
      | (with_reducible exact ih0 _ _ _ _ _)
      | (with_reducible exact spec_l1Cur_loci.mono _ _ _ _)
      | (with_reducible exact LeO.refl _)
      | (with_reducible exact LeO.none _)
      | (with_reducible refine LeO.ite ?_ ?_)
      | (with_reducible refine LeO.bind ?_ (fun _ => ?_))
noncomputable def spec_DrawDropReferent.J0 (x5 : List (S55)) (x18 : Bool) (x451000 : List Int) (x451001 : Int) (x451002 : Int) : Option ((List (S55)) × ByteArray) := lim fun k => spec_DrawDropReferent.j0 k x5 x18 x451000 x451001 x451002
theorem spec_DrawDropReferent.J0_lim (x5 : List (S55)) (x18 : Bool) (x451000 : List Int) (x451001 : Int) (x451002 : Int) : Lim (fun k => spec_DrawDropReferent.j0 k x5 x18 x451000 x451001 x451002) (spec_DrawDropReferent.J0 x5 x18 x451000 x451001 x451002) := ⟨fun k => (spec_DrawDropReferent.mono_l k) x5 x18 x451000 x451001 x451002, rfl⟩
noncomputable def spec_DrawDropReferent.F (l0 : List Int) : Option ((List (S55)) × ByteArray) := lim fun k => spec_DrawDropReferent.f k l0
theorem spec_DrawDropReferent.F_lim (l0 : List Int) : Lim (fun k => spec_DrawDropReferent.f k l0) (spec_DrawDropReferent.F l0) := ⟨spec_DrawDropReferent.mono l0, rfl⟩
theorem spec_DrawDropReferent.J0_eq (x5 : List (S55)) (x18 : Bool) (x451000 : List Int) (x451001 : Int) (x451002 : Int) : spec_DrawDropReferent.J0 x5 x18 x451000 x451001 x451002 = (if x18 = true then ((spec_l1Cur_pick.f x451000 x451001 x451002 (x5.length : Int)).bind fun bt459 => (if 0 ≤ bt459.1 then (if bt459.1 < (x5.length : Int) then (some (x5, (rd_T55 x5 bt459.1).f0)) else (none)) else (none))) else ((spec_l1Cur_anyReferent.f x451000 x451001 x451002).bind fun bt463 => (some (x5, bt463.1)))) := by
  refine Lim.succ_eq (spec_DrawDropReferent.J0_lim x5 x18 x451000 x451001 x451002).mon ?_
  simp only [spec_DrawDropReferent.j0]
  repeat' first
  | (with_reducible exact spec_DrawDropReferent.J0_lim _ _ _ _ _)
  | (with_reducible exact spec_l1Cur_loci.F_lim _ _ _)
  | (with_reducible refine Lim.ite ?_ ?_)
  | (with_reducible refine Lim.bind ?_ (fun _ => ?_))
  | (with_reducible exact Lim.const _)
theorem spec_DrawDropReferent.F_eq (l0 : List Int) : spec_DrawDropReferent.F l0 = ((spec_l1Cur_loci.F l0 0 0).bind fun bt451 => (if (bt451.1.length : Int) > 0 then ((spec_l1Cur_one.f l0 bt451.2.1 bt451.2.2 4).bind fun bt456 => (spec_DrawDropReferent.J0 bt451.1 (!bt456.1) l0 bt456.2.1 bt456.2.2)) else (spec_DrawDropReferent.J0 bt451.1 false l0 bt451.2.1 bt451.2.2))) := by
  refine Lim.eq_ ?_
  simp only [spec_DrawDropReferent.f]
  repeat' first
  | (with_reducible exact spec_DrawDropReferent.J0_lim _ _ _ _ _)
  | (with_reducible exact spec_l1Cur_loci.F_lim _ _ _)
  | (with_reducible refine Lim.ite ?_ ?_)
  | (with_reducible refine Lim.bind ?_ (fun _ => ?_))
  | (with_reducible exact Lim.const _)
def spec_DrawShiftRole.f (k : Nat) (l0 : List Int) : Option ((List (S55)) × ByteArray) := (spec_DrawDropReferent.f k l0).bind fun bt466 => (some (bt466.1, bt466.2))
theorem spec_DrawShiftRole.mono : ∀ a0 k, LeO (spec_DrawShiftRole.f k a0) (spec_DrawShiftRole.f (k + 1) a0) := by
  intro a0 k
  unfold spec_DrawShiftRole.f
  repeat' first
      | (with_reducible exact spec_DrawDropReferent.mono _ _)
      | (with_reducible exact LeO.refl _)
      | (with_reducible exact LeO.none _)
      | (with_reducible refine LeO.ite ?_ ?_)
      | (with_reducible refine LeO.bind ?_ (fun _ => ?_))
noncomputable def spec_DrawShiftRole.F (l0 : List Int) : Option ((List (S55)) × ByteArray) := lim fun k => spec_DrawShiftRole.f k l0
theorem spec_DrawShiftRole.F_lim (l0 : List Int) : Lim (fun k => spec_DrawShiftRole.f k l0) (spec_DrawShiftRole.F l0) := ⟨spec_DrawShiftRole.mono l0, rfl⟩
theorem spec_DrawShiftRole.F_eq (l0 : List Int) : spec_DrawShiftRole.F l0 = ((spec_DrawDropReferent.F l0).bind fun bt466 => (some (bt466.1, bt466.2))) := by
  refine Lim.eq_ ?_
  simp only [spec_DrawShiftRole.f]
  repeat' first
  | (with_reducible exact spec_DrawDropReferent.F_lim _)
  | (with_reducible refine Lim.ite ?_ ?_)
  | (with_reducible refine Lim.bind ?_ (fun _ => ?_))
  | (with_reducible exact Lim.const _)
def impl_NearestTo.j0 : Nat → List (S55) → ByteArray → Int → Bool → Option (ByteArray × Int × Bool)
  | 0, _, _, _, _ => none
  | k + 1, x0, x1, x7, x24 => if x24 = true then (some ((⟨#[]⟩ : ByteArray), 0, false)) else ((impl_without.f k x0 x1).bind fun t472 => (if 0 ≤ x7 then (if x7 < (x0.length : Int) then ((impl_nearestLoci.f k t472 ((rd_T55 x0 x7).f1)).bind fun bt476 => (if 0 < (bt476.2.length : Int) then (some (rdOf ByteArray.empty bt476.2 0, bt476.1, true)) else (none))) else (none)) else (none)))
def impl_NearestTo.f (k : Nat) (l0 : List (S55)) (a1 : ByteArray) : Option (ByteArray × Int × Bool) := (impl_locusOf.f k l0 a1).bind fun t470 => ((impl_AreLoci.f k l0).bind fun t471 => (if t471 = true then (if t470 < 0 then (impl_NearestTo.j0 k l0 a1 t470 true) else (impl_NearestTo.j0 k l0 a1 t470 ((l0.length : Int) == 1))) else (impl_NearestTo.j0 k l0 a1 t470 true)))
theorem impl_NearestTo.mono_l : ∀ k, (∀ y0 y1 y2 y3, LeO (impl_NearestTo.j0 k y0 y1 y2 y3) (impl_NearestTo.j0 (k + 1) y0 y1 y2 y3))
  | 0 => fun _ _ _ _ r h => by simp [impl_NearestTo.j0] at h
  | k + 1 => by
    have ih0 := impl_NearestTo.mono_l k
    · intro y0 y1 y2 y3
      unfold impl_NearestTo.j0
      repeat' first
      | (with_reducible exact ih0 _ _ _ _)
      | (with_reducible exact impl_AreLoci.mono _ _)
      | (with_reducible exact impl_locusOf.mono _ _ _)
      | (with_reducible exact impl_nearestLoci.mono _ _ _)
      | (with_reducible exact impl_without.mono _ _ _)
      | (with_reducible exact LeO.refl _)
      | (with_reducible exact LeO.none _)
      | (with_reducible refine LeO.ite ?_ ?_)
      | (with_reducible refine LeO.bind ?_ (fun _ => ?_))
theorem impl_NearestTo.mono : ∀ a0 a1 k, LeO (impl_NearestTo.f k a0 a1) (impl_NearestTo.f (k + 1) a0 a1) := by
  intro a0 a1 k
  have ih0 := impl_NearestTo.mono_l k
  unfold impl_NearestTo.f
  repeat' first
      | (with_reducible exact ih0 _ _ _ _)
      | (with_reducible exact impl_AreLoci.mono _ _)
      | (with_reducible exact impl_locusOf.mono _ _ _)
      | (with_reducible exact impl_nearestLoci.mono _ _ _)
      | (with_reducible exact impl_without.mono _ _ _)
      | (with_reducible exact LeO.refl _)
      | (with_reducible exact LeO.none _)
      | (with_reducible refine LeO.ite ?_ ?_)
      | (with_reducible refine LeO.bind ?_ (fun _ => ?_))
noncomputable def impl_NearestTo.J0 (x0 : List (S55)) (x1 : ByteArray) (x7 : Int) (x24 : Bool) : Option (ByteArray × Int × Bool) := lim fun k => impl_NearestTo.j0 k x0 x1 x7 x24
theorem impl_NearestTo.J0_lim (x0 : List (S55)) (x1 : ByteArray) (x7 : Int) (x24 : Bool) : Lim (fun k => impl_NearestTo.j0 k x0 x1 x7 x24) (impl_NearestTo.J0 x0 x1 x7 x24) := ⟨fun k => (impl_NearestTo.mono_l k) x0 x1 x7 x24, rfl⟩
noncomputable def impl_NearestTo.F (l0 : List (S55)) (a1 : ByteArray) : Option (ByteArray × Int × Bool) := lim fun k => impl_NearestTo.f k l0 a1
theorem impl_NearestTo.F_lim (l0 : List (S55)) (a1 : ByteArray) : Lim (fun k => impl_NearestTo.f k l0 a1) (impl_NearestTo.F l0 a1) := ⟨impl_NearestTo.mono l0 a1, rfl⟩
theorem impl_NearestTo.J0_eq (x0 : List (S55)) (x1 : ByteArray) (x7 : Int) (x24 : Bool) : impl_NearestTo.J0 x0 x1 x7 x24 = (if x24 = true then (some ((⟨#[]⟩ : ByteArray), 0, false)) else ((impl_without.F x0 x1).bind fun t472 => (if 0 ≤ x7 then (if x7 < (x0.length : Int) then ((impl_nearestLoci.F t472 ((rd_T55 x0 x7).f1)).bind fun bt476 => (if 0 < (bt476.2.length : Int) then (some (rdOf ByteArray.empty bt476.2 0, bt476.1, true)) else (none))) else (none)) else (none)))) := by
  refine Lim.succ_eq (impl_NearestTo.J0_lim x0 x1 x7 x24).mon ?_
  simp only [impl_NearestTo.j0]
  repeat' first
  | (with_reducible exact impl_NearestTo.J0_lim _ _ _ _)
  | (with_reducible exact impl_AreLoci.F_lim _)
  | (with_reducible exact impl_locusOf.F_lim _ _)
  | (with_reducible exact impl_nearestLoci.F_lim _ _)
  | (with_reducible exact impl_without.F_lim _ _)
  | (with_reducible refine Lim.ite ?_ ?_)
  | (with_reducible refine Lim.bind ?_ (fun _ => ?_))
  | (with_reducible exact Lim.const _)
theorem impl_NearestTo.F_eq (l0 : List (S55)) (a1 : ByteArray) : impl_NearestTo.F l0 a1 = ((impl_locusOf.F l0 a1).bind fun t470 => ((impl_AreLoci.F l0).bind fun t471 => (if t471 = true then (if t470 < 0 then (impl_NearestTo.J0 l0 a1 t470 true) else (impl_NearestTo.J0 l0 a1 t470 ((l0.length : Int) == 1))) else (impl_NearestTo.J0 l0 a1 t470 true)))) := by
  refine Lim.eq_ ?_
  simp only [impl_NearestTo.f]
  repeat' first
  | (with_reducible exact impl_NearestTo.J0_lim _ _ _ _)
  | (with_reducible exact impl_AreLoci.F_lim _)
  | (with_reducible exact impl_locusOf.F_lim _ _)
  | (with_reducible exact impl_nearestLoci.F_lim _ _)
  | (with_reducible exact impl_without.F_lim _ _)
  | (with_reducible refine Lim.ite ?_ ?_)
  | (with_reducible refine Lim.bind ?_ (fun _ => ?_))
  | (with_reducible exact Lim.const _)
mutual
def spec_NearestTo.j0 : Nat → List (S55) → Int → Bool → Option (ByteArray × Int × Bool)
  | 0, _, _, _ => none
  | k + 1, x0, x7, x25 => if x25 = true then (some ((⟨#[]⟩ : ByteArray), 0, false)) else (spec_NearestTo.l0 k x0 x7 (-1) x0 (x0.length : Int) 0)
def spec_NearestTo.l0 : Nat → List (S55) → Int → Int → List (S55) → Int → Int → Option (ByteArray × Int × Bool)
  | 0, _, _, _, _, _, _ => none
  | k + 1, x0, x7, x8, x26, x27, x28 => if x28 < x27 then (if 0 ≤ x28 then (if x28 < (x26.length : Int) then (if x28 = x7 then (spec_NearestTo.l0 k x0 x7 x8 x26 x27 (wrap64 (x28 + 1))) else (if x8 < 0 then (spec_NearestTo.l0 k x0 x7 x28 x26 x27 (wrap64 (x28 + 1))) else (if 0 ≤ x7 then (if x7 < (x0.length : Int) then ((spec_l1Abs.f (wrap64 (((rd_T55 x26 x28).f1) - ((rd_T55 x0 x7).f1)))).bind fun t490 => (if 0 ≤ x8 then (if x8 < (x0.length : Int) then ((spec_l1Abs.f (wrap64 (((rd_T55 x0 x8).f1) - ((rd_T55 x0 x7).f1)))).bind fun t493 => (if t490 < t493 then (spec_NearestTo.l0 k x0 x7 x28 x26 x27 (wrap64 (x28 + 1))) else (spec_NearestTo.l0 k x0 x7 x8 x26 x27 (wrap64 (x28 + 1))))) else (none)) else (none))) else (none)) else (none)))) else (none)) else (none)) else (if 0 ≤ x8 then (if x8 < (x0.length : Int) then (if 0 ≤ x7 then (if x7 < (x0.length : Int) then ((spec_l1Abs.f (wrap64 (((rd_T55 x0 x8).f1) - ((rd_T55 x0 x7).f1)))).bind fun t486 => (some ((rd_T55 x0 x8).f0, t486, true))) else (none)) else (none)) else (none)) else (none))
end
def spec_NearestTo.f (k : Nat) (l0 : List (S55)) (a1 : ByteArray) : Option (ByteArray × Int × Bool) := (spec_loFind.f k l0 a1).bind fun t481 => ((spec_loGood.f k l0).bind fun t482 => (if t482 = true then (if t481 < 0 then (spec_NearestTo.j0 k l0 t481 true) else (spec_NearestTo.j0 k l0 t481 ((l0.length : Int) == 1))) else (spec_NearestTo.j0 k l0 t481 true)))
theorem spec_NearestTo.mono_l : ∀ k, (∀ y0 y1 y2, LeO (spec_NearestTo.j0 k y0 y1 y2) (spec_NearestTo.j0 (k + 1) y0 y1 y2)) ∧ (∀ y0 y1 y2 y3 y4 y5, LeO (spec_NearestTo.l0 k y0 y1 y2 y3 y4 y5) (spec_NearestTo.l0 (k + 1) y0 y1 y2 y3 y4 y5))
  | 0 => ⟨fun _ _ _ r h => by simp [spec_NearestTo.j0] at h, fun _ _ _ _ _ _ r h => by simp [spec_NearestTo.l0] at h⟩
  | k + 1 => by
    obtain ⟨ih0, ih1⟩ := spec_NearestTo.mono_l k
    refine ⟨?_, ?_⟩
    · intro y0 y1 y2
      unfold spec_NearestTo.j0
      repeat' first
      | (with_reducible exact ih0 _ _ _)
      | (with_reducible exact ih1 _ _ _ _ _ _)
      | (with_reducible exact spec_loFind.mono _ _ _)
      | (with_reducible exact spec_loGood.mono _ _)
      | (with_reducible exact LeO.refl _)
      | (with_reducible exact LeO.none _)
      | (with_reducible refine LeO.ite ?_ ?_)
      | (with_reducible refine LeO.bind ?_ (fun _ => ?_))
    · intro y0 y1 y2 y3 y4 y5
      unfold spec_NearestTo.l0
      repeat' first
      | (with_reducible exact ih0 _ _ _)
      | (with_reducible exact ih1 _ _ _ _ _ _)
      | (with_reducible exact spec_loFind.mono _ _ _)
      | (with_reducible exact spec_loGood.mono _ _)
      | (with_reducible exact LeO.refl _)
      | (with_reducible exact LeO.none _)
      | (with_reducible refine LeO.ite ?_ ?_)
      | (with_reducible refine LeO.bind ?_ (fun _ => ?_))
theorem spec_NearestTo.mono : ∀ a0 a1 k, LeO (spec_NearestTo.f k a0 a1) (spec_NearestTo.f (k + 1) a0 a1) := by
  intro a0 a1 k
  obtain ⟨ih0, ih1⟩ := spec_NearestTo.mono_l k
  unfold spec_NearestTo.f
  repeat' first
      | (with_reducible exact ih0 _ _ _)
      | (with_reducible exact ih1 _ _ _ _ _ _)
      | (with_reducible exact spec_loFind.mono _ _ _)
      | (with_reducible exact spec_loGood.mono _ _)
      | (with_reducible exact LeO.refl _)
      | (with_reducible exact LeO.none _)
      | (with_reducible refine LeO.ite ?_ ?_)
      | (with_reducible refine LeO.bind ?_ (fun _ => ?_))
noncomputable def spec_NearestTo.J0 (x0 : List (S55)) (x7 : Int) (x25 : Bool) : Option (ByteArray × Int × Bool) := lim fun k => spec_NearestTo.j0 k x0 x7 x25
theorem spec_NearestTo.J0_lim (x0 : List (S55)) (x7 : Int) (x25 : Bool) : Lim (fun k => spec_NearestTo.j0 k x0 x7 x25) (spec_NearestTo.J0 x0 x7 x25) := ⟨fun k => (spec_NearestTo.mono_l k).1 x0 x7 x25, rfl⟩
noncomputable def spec_NearestTo.L0 (x0 : List (S55)) (x7 : Int) (x8 : Int) (x26 : List (S55)) (x27 : Int) (x28 : Int) : Option (ByteArray × Int × Bool) := lim fun k => spec_NearestTo.l0 k x0 x7 x8 x26 x27 x28
theorem spec_NearestTo.L0_lim (x0 : List (S55)) (x7 : Int) (x8 : Int) (x26 : List (S55)) (x27 : Int) (x28 : Int) : Lim (fun k => spec_NearestTo.l0 k x0 x7 x8 x26 x27 x28) (spec_NearestTo.L0 x0 x7 x8 x26 x27 x28) := ⟨fun k => (spec_NearestTo.mono_l k).2 x0 x7 x8 x26 x27 x28, rfl⟩
noncomputable def spec_NearestTo.F (l0 : List (S55)) (a1 : ByteArray) : Option (ByteArray × Int × Bool) := lim fun k => spec_NearestTo.f k l0 a1
theorem spec_NearestTo.F_lim (l0 : List (S55)) (a1 : ByteArray) : Lim (fun k => spec_NearestTo.f k l0 a1) (spec_NearestTo.F l0 a1) := ⟨spec_NearestTo.mono l0 a1, rfl⟩
theorem spec_NearestTo.J0_eq (x0 : List (S55)) (x7 : Int) (x25 : Bool) : spec_NearestTo.J0 x0 x7 x25 = (if x25 = true then (some ((⟨#[]⟩ : ByteArray), 0, false)) else (spec_NearestTo.L0 x0 x7 (-1) x0 (x0.length : Int) 0)) := by
  refine Lim.succ_eq (spec_NearestTo.J0_lim x0 x7 x25).mon ?_
  simp only [spec_NearestTo.j0]
  repeat' first
  | (with_reducible exact spec_NearestTo.J0_lim _ _ _)
  | (with_reducible exact spec_NearestTo.L0_lim _ _ _ _ _ _)
  | (with_reducible exact spec_loFind.F_lim _ _)
  | (with_reducible exact spec_loGood.F_lim _)
  | (with_reducible refine Lim.ite ?_ ?_)
  | (with_reducible refine Lim.bind ?_ (fun _ => ?_))
  | (with_reducible exact Lim.const _)
theorem spec_NearestTo.L0_eq (x0 : List (S55)) (x7 : Int) (x8 : Int) (x26 : List (S55)) (x27 : Int) (x28 : Int) : spec_NearestTo.L0 x0 x7 x8 x26 x27 x28 = (if x28 < x27 then (if 0 ≤ x28 then (if x28 < (x26.length : Int) then (if x28 = x7 then (spec_NearestTo.L0 x0 x7 x8 x26 x27 (wrap64 (x28 + 1))) else (if x8 < 0 then (spec_NearestTo.L0 x0 x7 x28 x26 x27 (wrap64 (x28 + 1))) else (if 0 ≤ x7 then (if x7 < (x0.length : Int) then ((spec_l1Abs.f (wrap64 (((rd_T55 x26 x28).f1) - ((rd_T55 x0 x7).f1)))).bind fun t490 => (if 0 ≤ x8 then (if x8 < (x0.length : Int) then ((spec_l1Abs.f (wrap64 (((rd_T55 x0 x8).f1) - ((rd_T55 x0 x7).f1)))).bind fun t493 => (if t490 < t493 then (spec_NearestTo.L0 x0 x7 x28 x26 x27 (wrap64 (x28 + 1))) else (spec_NearestTo.L0 x0 x7 x8 x26 x27 (wrap64 (x28 + 1))))) else (none)) else (none))) else (none)) else (none)))) else (none)) else (none)) else (if 0 ≤ x8 then (if x8 < (x0.length : Int) then (if 0 ≤ x7 then (if x7 < (x0.length : Int) then ((spec_l1Abs.f (wrap64 (((rd_T55 x0 x8).f1) - ((rd_T55 x0 x7).f1)))).bind fun t486 => (some ((rd_T55 x0 x8).f0, t486, true))) else (none)) else (none)) else (none)) else (none))) := by
  refine Lim.succ_eq (spec_NearestTo.L0_lim x0 x7 x8 x26 x27 x28).mon ?_
  simp only [spec_NearestTo.l0]
  repeat' first
  | (with_reducible exact spec_NearestTo.J0_lim _ _ _)
  | (with_reducible exact spec_NearestTo.L0_lim _ _ _ _ _ _)
  | (with_reducible exact spec_loFind.F_lim _ _)
  | (with_reducible exact spec_loGood.F_lim _)
  | (with_reducible refine Lim.ite ?_ ?_)
  | (with_reducible refine Lim.bind ?_ (fun _ => ?_))
  | (with_reducible exact Lim.const _)
theorem spec_NearestTo.F_eq (l0 : List (S55)) (a1 : ByteArray) : spec_NearestTo.F l0 a1 = ((spec_loFind.F l0 a1).bind fun t481 => ((spec_loGood.F l0).bind fun t482 => (if t482 = true then (if t481 < 0 then (spec_NearestTo.J0 l0 t481 true) else (spec_NearestTo.J0 l0 t481 ((l0.length : Int) == 1))) else (spec_NearestTo.J0 l0 t481 true)))) := by
  refine Lim.eq_ ?_
  simp only [spec_NearestTo.f]
  repeat' first
  | (with_reducible exact spec_NearestTo.J0_lim _ _ _)
  | (with_reducible exact spec_NearestTo.L0_lim _ _ _ _ _ _)
  | (with_reducible exact spec_loFind.F_lim _ _)
  | (with_reducible exact spec_loGood.F_lim _)
  | (with_reducible refine Lim.ite ?_ ?_)
  | (with_reducible refine Lim.bind ?_ (fun _ => ?_))
  | (with_reducible exact Lim.const _)
mutual
def laws_FnLoci.j0 : Nat → List Int → ByteArray → Int → List (S55) → Bool → List (S55) → Bool → Option (Bool)
  | 0, _, _, _, _, _, _, _ => none
  | k + 1, x1, x6, x7, x8, x9, x10, x79 => if x79 = true then (some false) else (if x9 = true then ((impl_PointsAt.f k x8 x7).bind fun bt509 => ((impl_DropReferent.f k x8 x6).bind fun bt511 => ((spec_DropReferent.f k x10 x6).bind fun bt515 => (if bt509.2 = true then (if bt509.1.toList = x6.toList then (if bt511.2 = true then (if bt515.2 = true then ((laws_pSameLoci.f k bt511.1 bt515.1).bind fun t519 => (if t519 = true then (if (bt515.1.length : Int) = (wrap64 ((x10.length : Int) - 1)) then ((impl_AreLoci.f k x8).bind fun t520 => (if t520 = true then (laws_FnLoci.j1 k x1) else (some false))) else (some false)) else (some false))) else (some false)) else (some false)) else (some false)) else (some false))))) else (laws_FnLoci.j1 k x1))
def laws_FnLoci.j1 : Nat → List Int → Option (Bool)
  | 0, _ => none
  | k + 1, x1 => (spec_DrawPointsAt.f k x1).bind fun bt521 => ((impl_PointsAt.f k bt521.1 bt521.2).bind fun bt525 => ((spec_PointsAt.f k bt521.1 bt521.2).bind fun bt527 => (if (bt525.2 != bt527.2) = true then (laws_FnLoci.j2 k x1 bt521.1 bt521.2 bt525.2 bt527.1 true) else (laws_FnLoci.j2 k x1 bt521.1 bt521.2 bt525.2 bt527.1 (bt525.1.toList != bt527.1.toList)))))
def laws_FnLoci.j2 : Nat → List Int → List (S55) → Int → Bool → ByteArray → Bool → Option (Bool)
  | 0, _, _, _, _, _, _ => none
  | k + 1, x1, x18, x19, x21, x22, x157 => if x157 = true then (some false) else (if x21 = true then (laws_FnLoci.l0 k x1 x18 x19 x22 (-1) x18 (x18.length : Int) 0) else (laws_FnLoci.j6 k x1))
def laws_FnLoci.j6 : Nat → List Int → Option (Bool)
  | 0, _ => none
  | k + 1, x1 => (spec_DrawShiftRole.f k x1).bind fun bt535 => ((impl_ShiftRole.f k bt535.1 bt535.2).bind fun bt539 => ((spec_ShiftRole.f k bt535.1 bt535.2).bind fun bt543 => ((impl_NearestTo.f k bt535.1 bt535.2).bind fun bt547 => ((spec_NearestTo.f k bt535.1 bt535.2).bind fun bt550 => (if (bt539.2 != bt543.2) = true then (laws_FnLoci.j7 k bt535.1 bt535.2 bt539.1 bt539.2 bt543.1 bt547.2.2 bt550.1 bt550.2.1 true) else ((laws_pSameLoci.f k bt539.1 bt543.1).bind fun t553 => (if t553 = true then (if (bt547.2.2 != bt550.2.2) = true then (laws_FnLoci.j7 k bt535.1 bt535.2 bt539.1 bt539.2 bt543.1 bt547.2.2 bt550.1 bt550.2.1 true) else (if bt547.1.toList = bt550.1.toList then (laws_FnLoci.j7 k bt535.1 bt535.2 bt539.1 bt539.2 bt543.1 bt547.2.2 bt550.1 bt550.2.1 (bt547.2.1 != bt550.2.1)) else (laws_FnLoci.j7 k bt535.1 bt535.2 bt539.1 bt539.2 bt543.1 bt547.2.2 bt550.1 bt550.2.1 true))) else (laws_FnLoci.j7 k bt535.1 bt535.2 bt539.1 bt539.2 bt543.1 bt547.2.2 bt550.1 bt550.2.1 true))))))))
def laws_FnLoci.j7 : Nat → List (S55) → ByteArray → List (S55) → Bool → List (S55) → Bool → ByteArray → Int → Bool → Option (Bool)
  | 0, _, _, _, _, _, _, _, _, _ => none
  | k + 1, x29, x30, x31, x32, x33, x37, x38, x39, x255 => if x255 = true then (some false) else (if x32 = true then ((impl_PointsAt.f k x31 0).bind fun bt554 => (if bt554.2 = true then (if bt554.1.toList = ([115, 105, 103, 110, 101, 114] : List UInt8) then (if (x33.length : Int) = (x29.length : Int) then ((impl_AreLoci.f k x31).bind fun t556 => (if t556 = true then (laws_FnLoci.j8 k x29 x30 x37 x38 x39) else (some false))) else (some false)) else (some false)) else (some false))) else (laws_FnLoci.j8 k x29 x30 x37 x38 x39))
def laws_FnLoci.j8 : Nat → List (S55) → ByteArray → Bool → ByteArray → Int → Option (Bool)
  | 0, _, _, _, _, _ => none
  | k + 1, x29, x30, x37, x38, x39 => if x37 = true then (laws_FnLoci.l2 k x29 x30 x38 x39 0 x29 (x29.length : Int) 0) else (some true)
def laws_FnLoci.l2 : Nat → List (S55) → ByteArray → ByteArray → Int → Int → List (S55) → Int → Int → Option (Bool)
  | 0, _, _, _, _, _, _, _, _ => none
  | k + 1, x29, x30, x38, x39, x43, x281, x282, x283 => if x283 < x282 then (if 0 ≤ x283 then (if x283 < (x281.length : Int) then (if ((rd_T55 x281 x283).f0).toList = x30.toList then (laws_FnLoci.l2 k x29 x30 x38 x39 ((rd_T55 x281 x283).f1) x281 x282 (wrap64 (x283 + 1))) else (laws_FnLoci.l2 k x29 x30 x38 x39 x43 x281 x282 (wrap64 (x283 + 1)))) else (none)) else (none)) else (laws_FnLoci.l3 k x30 x38 x39 x43 x29 (x29.length : Int) 0)
def laws_FnLoci.l3 : Nat → ByteArray → ByteArray → Int → Int → List (S55) → Int → Int → Option (Bool)
  | 0, _, _, _, _, _, _, _ => none
  | k + 1, x30, x38, x39, x43, x294, x295, x296 => if x296 < x295 then (if 0 ≤ x296 then (if x296 < (x294.length : Int) then (if ((rd_T55 x294 x296).f0).toList = x30.toList then (if ((rd_T55 x294 x296).f0).toList = x38.toList then ((laws_pAbs.f (wrap64 (((rd_T55 x294 x296).f1) - x43))).bind fun t561 => (if t561 = x39 then (laws_FnLoci.l3 k x30 x38 x39 x43 x294 x295 (wrap64 (x296 + 1))) else (some false))) else (laws_FnLoci.l3 k x30 x38 x39 x43 x294 x295 (wrap64 (x296 + 1)))) else ((laws_pAbs.f (wrap64 (((rd_T55 x294 x296).f1) - x43))).bind fun t562 => (if t562 < x39 then (some false) else (if ((rd_T55 x294 x296).f0).toList = x38.toList then ((laws_pAbs.f (wrap64 (((rd_T55 x294 x296).f1) - x43))).bind fun t563 => (if t563 = x39 then (laws_FnLoci.l3 k x30 x38 x39 x43 x294 x295 (wrap64 (x296 + 1))) else (some false))) else (laws_FnLoci.l3 k x30 x38 x39 x43 x294 x295 (wrap64 (x296 + 1))))))) else (none)) else (none)) else (some true)
def laws_FnLoci.l0 : Nat → List Int → List (S55) → Int → ByteArray → Int → List (S55) → Int → Int → Option (Bool)
  | 0, _, _, _, _, _, _, _, _ => none
  | k + 1, x1, x18, x19, x22, x24, x159, x160, x161 => if x161 < x160 then (if 0 ≤ x161 then (if x161 < (x159.length : Int) then (if ((rd_T55 x159 x161).f0).toList = x22.toList then ((laws_pAbs.f (wrap64 (((rd_T55 x159 x161).f1) - x19))).bind fun t531 => (laws_FnLoci.l0 k x1 x18 x19 x22 t531 x159 x160 (wrap64 (x161 + 1)))) else (laws_FnLoci.l0 k x1 x18 x19 x22 x24 x159 x160 (wrap64 (x161 + 1)))) else (none)) else (none)) else (if x24 < 0 then (laws_FnLoci.j4 k x1 x18 x19 x22 x24 true) else (laws_FnLoci.j4 k x1 x18 x19 x22 x24 (decide (x24 > 20))))
def laws_FnLoci.j4 : Nat → List Int → List (S55) → Int → ByteArray → Int → Bool → Option (Bool)
  | 0, _, _, _, _, _, _ => none
  | k + 1, x1, x18, x19, x22, x24, x180 => if x180 = true then (some false) else (laws_FnLoci.l1 k x1 x19 x22 x24 x18 (x18.length : Int) 0)
def laws_FnLoci.l1 : Nat → List Int → Int → ByteArray → Int → List (S55) → Int → Int → Option (Bool)
  | 0, _, _, _, _, _, _, _ => none
  | k + 1, x1, x19, x22, x24, x181, x182, x183 => if x183 < x182 then (if 0 ≤ x183 then (if x183 < (x181.length : Int) then (if ((rd_T55 x181 x183).f0).toList = x22.toList then (laws_FnLoci.l1 k x1 x19 x22 x24 x181 x182 (wrap64 (x183 + 1))) else ((laws_pAbs.f (wrap64 (((rd_T55 x181 x183).f1) - x19))).bind fun t534 => (if t534 ≤ x24 then (some false) else (laws_FnLoci.l1 k x1 x19 x22 x24 x181 x182 (wrap64 (x183 + 1)))))) else (none)) else (none)) else (laws_FnLoci.j6 k x1)
end
def laws_FnLoci.f (k : Nat) (l0 : List Int) (l1 : List Int) : Option (Bool) := (laws_big.f l0 l1).bind fun t494 => (if t494 = true then (some true) else ((spec_DrawPutReferent.f k l0).bind fun bt495 => ((impl_PutReferent.f k bt495.1 bt495.2.1 bt495.2.2).bind fun bt500 => ((spec_PutReferent.f k bt495.1 bt495.2.1 bt495.2.2).bind fun bt504 => (if (bt500.2 != bt504.2) = true then (laws_FnLoci.j0 k l1 bt495.2.1 bt495.2.2 bt500.1 bt500.2 bt504.1 true) else ((laws_pSameLoci.f k bt500.1 bt504.1).bind fun t508 => (laws_FnLoci.j0 k l1 bt495.2.1 bt495.2.2 bt500.1 bt500.2 bt504.1 (!t508))))))))
theorem laws_FnLoci.mono_l : ∀ k, (∀ y0 y1 y2 y3 y4 y5 y6, LeO (laws_FnLoci.j0 k y0 y1 y2 y3 y4 y5 y6) (laws_FnLoci.j0 (k + 1) y0 y1 y2 y3 y4 y5 y6)) ∧ (∀ y0, LeO (laws_FnLoci.j1 k y0) (laws_FnLoci.j1 (k + 1) y0)) ∧ (∀ y0 y1 y2 y3 y4 y5, LeO (laws_FnLoci.j2 k y0 y1 y2 y3 y4 y5) (laws_FnLoci.j2 (k + 1) y0 y1 y2 y3 y4 y5)) ∧ (∀ y0, LeO (laws_FnLoci.j6 k y0) (laws_FnLoci.j6 (k + 1) y0)) ∧ (∀ y0 y1 y2 y3 y4 y5 y6 y7 y8, LeO (laws_FnLoci.j7 k y0 y1 y2 y3 y4 y5 y6 y7 y8) (laws_FnLoci.j7 (k + 1) y0 y1 y2 y3 y4 y5 y6 y7 y8)) ∧ (∀ y0 y1 y2 y3 y4, LeO (laws_FnLoci.j8 k y0 y1 y2 y3 y4) (laws_FnLoci.j8 (k + 1) y0 y1 y2 y3 y4)) ∧ (∀ y0 y1 y2 y3 y4 y5 y6 y7, LeO (laws_FnLoci.l2 k y0 y1 y2 y3 y4 y5 y6 y7) (laws_FnLoci.l2 (k + 1) y0 y1 y2 y3 y4 y5 y6 y7)) ∧ (∀ y0 y1 y2 y3 y4 y5 y6, LeO (laws_FnLoci.l3 k y0 y1 y2 y3 y4 y5 y6) (laws_FnLoci.l3 (k + 1) y0 y1 y2 y3 y4 y5 y6)) ∧ (∀ y0 y1 y2 y3 y4 y5 y6 y7, LeO (laws_FnLoci.l0 k y0 y1 y2 y3 y4 y5 y6 y7) (laws_FnLoci.l0 (k + 1) y0 y1 y2 y3 y4 y5 y6 y7)) ∧ (∀ y0 y1 y2 y3 y4 y5, LeO (laws_FnLoci.j4 k y0 y1 y2 y3 y4 y5) (laws_FnLoci.j4 (k + 1) y0 y1 y2 y3 y4 y5)) ∧ (∀ y0 y1 y2 y3 y4 y5 y6, LeO (laws_FnLoci.l1 k y0 y1 y2 y3 y4 y5 y6) (laws_FnLoci.l1 (k + 1) y0 y1 y2 y3 y4 y5 y6))
  | 0 => ⟨fun _ _ _ _ _ _ _ r h => by simp [laws_FnLoci.j0] at h, fun _ r h => by simp [laws_FnLoci.j1] at h, fun _ _ _ _ _ _ r h => by simp [laws_FnLoci.j2] at h, fun _ r h => by simp [laws_FnLoci.j6] at h, fun _ _ _ _ _ _ _ _ _ r h => by simp [laws_FnLoci.j7] at h, fun _ _ _ _ _ r h => by simp [laws_FnLoci.j8] at h, fun _ _ _ _ _ _ _ _ r h => by simp [laws_FnLoci.l2] at h, fun _ _ _ _ _ _ _ r h => by simp [laws_FnLoci.l3] at h, fun _ _ _ _ _ _ _ _ r h => by simp [laws_FnLoci.l0] at h, fun _ _ _ _ _ _ r h => by simp [laws_FnLoci.j4] at h, fun _ _ _ _ _ _ _ r h => by simp [laws_FnLoci.l1] at h⟩
  | k + 1 => by
    obtain ⟨ih0, ih1, ih2, ih3, ih4, ih5, ih6, ih7, ih8, ih9, ih10⟩ := laws_FnLoci.mono_l k
    refine ⟨?_, ?_, ?_, ?_, ?_, ?_, ?_, ?_, ?_, ?_, ?_⟩
    · intro y0 y1 y2 y3 y4 y5 y6
      unfold laws_FnLoci.j0
      repeat' first
      | (with_reducible exact ih0 _ _ _ _ _ _ _)
      | (with_reducible exact ih1 _)
      | (with_reducible exact ih2 _ _ _ _ _ _)
      | (with_reducible exact ih3 _)
      | (with_reducible exact ih4 _ _ _ _ _ _ _ _ _)
      | (with_reducible exact ih5 _ _ _ _ _)
      | (with_reducible exact ih6 _ _ _ _ _ _ _ _)
      | (with_reducible exact ih7 _ _ _ _ _ _ _)
      | (with_reducible exact ih8 _ _ _ _ _ _ _ _)
      | (with_reducible exact ih9 _ _ _ _ _ _)
      | (with_reducible exact ih10 _ _ _ _ _ _ _)
      | (with_reducible exact impl_AreLoci.mono _ _)
      | (with_reducible exact impl_DropReferent.mono _ _ _)
      | (with_reducible exact impl_NearestTo.mono _ _ _)
      | (with_reducible exact impl_PointsAt.mono _ _ _)
      | (with_reducible exact impl_PutReferent.mono _ _ _ _)
      | (with_reducible exact impl_ShiftRole.mono _ _ _)
      | (with_reducible exact laws_pSameLoci.mono _ _ _)
      | (with_reducible exact spec_DrawPointsAt.mono _ _)
      | (with_reducible exact spec_DrawPutReferent.mono _ _)
      | (with_reducible exact spec_DrawShiftRole.mono _ _)
      | (with_reducible exact spec_DropReferent.mono _ _ _)
      | (with_reducible exact spec_NearestTo.mono _ _ _)
      | (with_reducible exact spec_PointsAt.mono _ _ _)
      | (with_reducible exact spec_PutReferent.mono _ _ _ _)
      | (with_reducible exact spec_ShiftRole.mono _ _ _)
      | (with_reducible exact LeO.refl _)
      | (with_reducible exact LeO.none _)
      | (with_reducible refine LeO.ite ?_ ?_)
      | (with_reducible refine LeO.bind ?_ (fun _ => ?_))
    · intro y0
      unfold laws_FnLoci.j1
      repeat' first
      | (with_reducible exact ih0 _ _ _ _ _ _ _)
      | (with_reducible exact ih1 _)
      | (with_reducible exact ih2 _ _ _ _ _ _)
      | (with_reducible exact ih3 _)
      | (with_reducible exact ih4 _ _ _ _ _ _ _ _ _)
      | (with_reducible exact ih5 _ _ _ _ _)
      | (with_reducible exact ih6 _ _ _ _ _ _ _ _)
      | (with_reducible exact ih7 _ _ _ _ _ _ _)
      | (with_reducible exact ih8 _ _ _ _ _ _ _ _)
      | (with_reducible exact ih9 _ _ _ _ _ _)
      | (with_reducible exact ih10 _ _ _ _ _ _ _)
      | (with_reducible exact impl_AreLoci.mono _ _)
      | (with_reducible exact impl_DropReferent.mono _ _ _)
      | (with_reducible exact impl_NearestTo.mono _ _ _)
      | (with_reducible exact impl_PointsAt.mono _ _ _)
      | (with_reducible exact impl_PutReferent.mono _ _ _ _)
      | (with_reducible exact impl_ShiftRole.mono _ _ _)
      | (with_reducible exact laws_pSameLoci.mono _ _ _)
      | (with_reducible exact spec_DrawPointsAt.mono _ _)
      | (with_reducible exact spec_DrawPutReferent.mono _ _)
      | (with_reducible exact spec_DrawShiftRole.mono _ _)
      | (with_reducible exact spec_DropReferent.mono _ _ _)
      | (with_reducible exact spec_NearestTo.mono _ _ _)
      | (with_reducible exact spec_PointsAt.mono _ _ _)
      | (with_reducible exact spec_PutReferent.mono _ _ _ _)
      | (with_reducible exact spec_ShiftRole.mono _ _ _)
      | (with_reducible exact LeO.refl _)
      | (with_reducible exact LeO.none _)
      | (with_reducible refine LeO.ite ?_ ?_)
      | (with_reducible refine LeO.bind ?_ (fun _ => ?_))
    · intro y0 y1 y2 y3 y4 y5
      unfold laws_FnLoci.j2
      repeat' first
      | (with_reducible exact ih0 _ _ _ _ _ _ _)
      | (with_reducible exact ih1 _)
      | (with_reducible exact ih2 _ _ _ _ _ _)
      | (with_reducible exact ih3 _)
      | (with_reducible exact ih4 _ _ _ _ _ _ _ _ _)
      | (with_reducible exact ih5 _ _ _ _ _)
      | (with_reducible exact ih6 _ _ _ _ _ _ _ _)
      | (with_reducible exact ih7 _ _ _ _ _ _ _)
      | (with_reducible exact ih8 _ _ _ _ _ _ _ _)
      | (with_reducible exact ih9 _ _ _ _ _ _)
      | (with_reducible exact ih10 _ _ _ _ _ _ _)
      | (with_reducible exact impl_AreLoci.mono _ _)
      | (with_reducible exact impl_DropReferent.mono _ _ _)
      | (with_reducible exact impl_NearestTo.mono _ _ _)
      | (with_reducible exact impl_PointsAt.mono _ _ _)
      | (with_reducible exact impl_PutReferent.mono _ _ _ _)
      | (with_reducible exact impl_ShiftRole.mono _ _ _)
      | (with_reducible exact laws_pSameLoci.mono _ _ _)
      | (with_reducible exact spec_DrawPointsAt.mono _ _)
      | (with_reducible exact spec_DrawPutReferent.mono _ _)
      | (with_reducible exact spec_DrawShiftRole.mono _ _)
      | (with_reducible exact spec_DropReferent.mono _ _ _)
      | (with_reducible exact spec_NearestTo.mono _ _ _)
      | (with_reducible exact spec_PointsAt.mono _ _ _)
      | (with_reducible exact spec_PutReferent.mono _ _ _ _)
      | (with_reducible exact spec_ShiftRole.mono _ _ _)
      | (with_reducible exact LeO.refl _)
      | (with_reducible exact LeO.none _)
      | (with_reducible refine LeO.ite ?_ ?_)
      | (with_reducible refine LeO.bind ?_ (fun _ => ?_))
    · intro y0
      unfold laws_FnLoci.j6
      repeat' first
      | (with_reducible exact ih0 _ _ _ _ _ _ _)
      | (with_reducible exact ih1 _)
      | (with_reducible exact ih2 _ _ _ _ _ _)
      | (with_reducible exact ih3 _)
      | (with_reducible exact ih4 _ _ _ _ _ _ _ _ _)
      | (with_reducible exact ih5 _ _ _ _ _)
      | (with_reducible exact ih6 _ _ _ _ _ _ _ _)
      | (with_reducible exact ih7 _ _ _ _ _ _ _)
      | (with_reducible exact ih8 _ _ _ _ _ _ _ _)
      | (with_reducible exact ih9 _ _ _ _ _ _)
      | (with_reducible exact ih10 _ _ _ _ _ _ _)
      | (with_reducible exact impl_AreLoci.mono _ _)
      | (with_reducible exact impl_DropReferent.mono _ _ _)
      | (with_reducible exact impl_NearestTo.mono _ _ _)
      | (with_reducible exact impl_PointsAt.mono _ _ _)
      | (with_reducible exact impl_PutReferent.mono _ _ _ _)
      | (with_reducible exact impl_ShiftRole.mono _ _ _)
      | (with_reducible exact laws_pSameLoci.mono _ _ _)
      | (with_reducible exact spec_DrawPointsAt.mono _ _)
      | (with_reducible exact spec_DrawPutReferent.mono _ _)
      | (with_reducible exact spec_DrawShiftRole.mono _ _)
      | (with_reducible exact spec_DropReferent.mono _ _ _)
      | (with_reducible exact spec_NearestTo.mono _ _ _)
      | (with_reducible exact spec_PointsAt.mono _ _ _)
      | (with_reducible exact spec_PutReferent.mono _ _ _ _)
      | (with_reducible exact spec_ShiftRole.mono _ _ _)
      | (with_reducible exact LeO.refl _)
      | (with_reducible exact LeO.none _)
      | (with_reducible refine LeO.ite ?_ ?_)
      | (with_reducible refine LeO.bind ?_ (fun _ => ?_))
    · intro y0 y1 y2 y3 y4 y5 y6 y7 y8
      unfold laws_FnLoci.j7
      repeat' first
      | (with_reducible exact ih0 _ _ _ _ _ _ _)
      | (with_reducible exact ih1 _)
      | (with_reducible exact ih2 _ _ _ _ _ _)
      | (with_reducible exact ih3 _)
      | (with_reducible exact ih4 _ _ _ _ _ _ _ _ _)
      | (with_reducible exact ih5 _ _ _ _ _)
      | (with_reducible exact ih6 _ _ _ _ _ _ _ _)
      | (with_reducible exact ih7 _ _ _ _ _ _ _)
      | (with_reducible exact ih8 _ _ _ _ _ _ _ _)
      | (with_reducible exact ih9 _ _ _ _ _ _)
      | (with_reducible exact ih10 _ _ _ _ _ _ _)
      | (with_reducible exact impl_AreLoci.mono _ _)
      | (with_reducible exact impl_DropReferent.mono _ _ _)
      | (with_reducible exact impl_NearestTo.mono _ _ _)
      | (with_reducible exact impl_PointsAt.mono _ _ _)
      | (with_reducible exact impl_PutReferent.mono _ _ _ _)
      | (with_reducible exact impl_ShiftRole.mono _ _ _)
      | (with_reducible exact laws_pSameLoci.mono _ _ _)
      | (with_reducible exact spec_DrawPointsAt.mono _ _)
      | (with_reducible exact spec_DrawPutReferent.mono _ _)
      | (with_reducible exact spec_DrawShiftRole.mono _ _)
      | (with_reducible exact spec_DropReferent.mono _ _ _)
      | (with_reducible exact spec_NearestTo.mono _ _ _)
      | (with_reducible exact spec_PointsAt.mono _ _ _)
      | (with_reducible exact spec_PutReferent.mono _ _ _ _)
      | (with_reducible exact spec_ShiftRole.mono _ _ _)
      | (with_reducible exact LeO.refl _)
      | (with_reducible exact LeO.none _)
      | (with_reducible refine LeO.ite ?_ ?_)
      | (with_reducible refine LeO.bind ?_ (fun _ => ?_))
    · intro y0 y1 y2 y3 y4
      unfold laws_FnLoci.j8
      repeat' first
      | (with_reducible exact ih0 _ _ _ _ _ _ _)
      | (with_reducible exact ih1 _)
      | (with_reducible exact ih2 _ _ _ _ _ _)
      | (with_reducible exact ih3 _)
      | (with_reducible exact ih4 _ _ _ _ _ _ _ _ _)
      | (with_reducible exact ih5 _ _ _ _ _)
      | (with_reducible exact ih6 _ _ _ _ _ _ _ _)
      | (with_reducible exact ih7 _ _ _ _ _ _ _)
      | (with_reducible exact ih8 _ _ _ _ _ _ _ _)
      | (with_reducible exact ih9 _ _ _ _ _ _)
      | (with_reducible exact ih10 _ _ _ _ _ _ _)
      | (with_reducible exact impl_AreLoci.mono _ _)
      | (with_reducible exact impl_DropReferent.mono _ _ _)
      | (with_reducible exact impl_NearestTo.mono _ _ _)
      | (with_reducible exact impl_PointsAt.mono _ _ _)
      | (with_reducible exact impl_PutReferent.mono _ _ _ _)
      | (with_reducible exact impl_ShiftRole.mono _ _ _)
      | (with_reducible exact laws_pSameLoci.mono _ _ _)
      | (with_reducible exact spec_DrawPointsAt.mono _ _)
      | (with_reducible exact spec_DrawPutReferent.mono _ _)
      | (with_reducible exact spec_DrawShiftRole.mono _ _)
      | (with_reducible exact spec_DropReferent.mono _ _ _)
      | (with_reducible exact spec_NearestTo.mono _ _ _)
      | (with_reducible exact spec_PointsAt.mono _ _ _)
      | (with_reducible exact spec_PutReferent.mono _ _ _ _)
      | (with_reducible exact spec_ShiftRole.mono _ _ _)
      | (with_reducible exact LeO.refl _)
      | (with_reducible exact LeO.none _)
      | (with_reducible refine LeO.ite ?_ ?_)
      | (with_reducible refine LeO.bind ?_ (fun _ => ?_))
    · intro y0 y1 y2 y3 y4 y5 y6 y7
      unfold laws_FnLoci.l2
      repeat' first
      | (with_reducible exact ih0 _ _ _ _ _ _ _)
      | (with_reducible exact ih1 _)
      | (with_reducible exact ih2 _ _ _ _ _ _)
      | (with_reducible exact ih3 _)
      | (with_reducible exact ih4 _ _ _ _ _ _ _ _ _)
      | (with_reducible exact ih5 _ _ _ _ _)
      | (with_reducible exact ih6 _ _ _ _ _ _ _ _)
      | (with_reducible exact ih7 _ _ _ _ _ _ _)
      | (with_reducible exact ih8 _ _ _ _ _ _ _ _)
      | (with_reducible exact ih9 _ _ _ _ _ _)
      | (with_reducible exact ih10 _ _ _ _ _ _ _)
      | (with_reducible exact impl_AreLoci.mono _ _)
      | (with_reducible exact impl_DropReferent.mono _ _ _)
      | (with_reducible exact impl_NearestTo.mono _ _ _)
      | (with_reducible exact impl_PointsAt.mono _ _ _)
      | (with_reducible exact impl_PutReferent.mono _ _ _ _)
      | (with_reducible exact impl_ShiftRole.mono _ _ _)
      | (with_reducible exact laws_pSameLoci.mono _ _ _)
      | (with_reducible exact spec_DrawPointsAt.mono _ _)
      | (with_reducible exact spec_DrawPutReferent.mono _ _)
      | (with_reducible exact spec_DrawShiftRole.mono _ _)
      | (with_reducible exact spec_DropReferent.mono _ _ _)
      | (with_reducible exact spec_NearestTo.mono _ _ _)
      | (with_reducible exact spec_PointsAt.mono _ _ _)
      | (with_reducible exact spec_PutReferent.mono _ _ _ _)
      | (with_reducible exact spec_ShiftRole.mono _ _ _)
      | (with_reducible exact LeO.refl _)
      | (with_reducible exact LeO.none _)
      | (with_reducible refine LeO.ite ?_ ?_)
      | (with_reducible refine LeO.bind ?_ (fun _ => ?_))
    · intro y0 y1 y2 y3 y4 y5 y6
      unfold laws_FnLoci.l3
      repeat' first
      | (with_reducible exact ih0 _ _ _ _ _ _ _)
      | (with_reducible exact ih1 _)
      | (with_reducible exact ih2 _ _ _ _ _ _)
      | (with_reducible exact ih3 _)
      | (with_reducible exact ih4 _ _ _ _ _ _ _ _ _)
      | (with_reducible exact ih5 _ _ _ _ _)
      | (with_reducible exact ih6 _ _ _ _ _ _ _ _)
      | (with_reducible exact ih7 _ _ _ _ _ _ _)
      | (with_reducible exact ih8 _ _ _ _ _ _ _ _)
      | (with_reducible exact ih9 _ _ _ _ _ _)
      | (with_reducible exact ih10 _ _ _ _ _ _ _)
      | (with_reducible exact impl_AreLoci.mono _ _)
      | (with_reducible exact impl_DropReferent.mono _ _ _)
      | (with_reducible exact impl_NearestTo.mono _ _ _)
      | (with_reducible exact impl_PointsAt.mono _ _ _)
      | (with_reducible exact impl_PutReferent.mono _ _ _ _)
      | (with_reducible exact impl_ShiftRole.mono _ _ _)
      | (with_reducible exact laws_pSameLoci.mono _ _ _)
      | (with_reducible exact spec_DrawPointsAt.mono _ _)
      | (with_reducible exact spec_DrawPutReferent.mono _ _)
      | (with_reducible exact spec_DrawShiftRole.mono _ _)
      | (with_reducible exact spec_DropReferent.mono _ _ _)
      | (with_reducible exact spec_NearestTo.mono _ _ _)
      | (with_reducible exact spec_PointsAt.mono _ _ _)
      | (with_reducible exact spec_PutReferent.mono _ _ _ _)
      | (with_reducible exact spec_ShiftRole.mono _ _ _)
      | (with_reducible exact LeO.refl _)
      | (with_reducible exact LeO.none _)
      | (with_reducible refine LeO.ite ?_ ?_)
      | (with_reducible refine LeO.bind ?_ (fun _ => ?_))
    · intro y0 y1 y2 y3 y4 y5 y6 y7
      unfold laws_FnLoci.l0
      repeat' first
      | (with_reducible exact ih0 _ _ _ _ _ _ _)
      | (with_reducible exact ih1 _)
      | (with_reducible exact ih2 _ _ _ _ _ _)
      | (with_reducible exact ih3 _)
      | (with_reducible exact ih4 _ _ _ _ _ _ _ _ _)
      | (with_reducible exact ih5 _ _ _ _ _)
      | (with_reducible exact ih6 _ _ _ _ _ _ _ _)
      | (with_reducible exact ih7 _ _ _ _ _ _ _)
      | (with_reducible exact ih8 _ _ _ _ _ _ _ _)
      | (with_reducible exact ih9 _ _ _ _ _ _)
      | (with_reducible exact ih10 _ _ _ _ _ _ _)
      | (with_reducible exact impl_AreLoci.mono _ _)
      | (with_reducible exact impl_DropReferent.mono _ _ _)
      | (with_reducible exact impl_NearestTo.mono _ _ _)
      | (with_reducible exact impl_PointsAt.mono _ _ _)
      | (with_reducible exact impl_PutReferent.mono _ _ _ _)
      | (with_reducible exact impl_ShiftRole.mono _ _ _)
      | (with_reducible exact laws_pSameLoci.mono _ _ _)
      | (with_reducible exact spec_DrawPointsAt.mono _ _)
      | (with_reducible exact spec_DrawPutReferent.mono _ _)
      | (with_reducible exact spec_DrawShiftRole.mono _ _)
      | (with_reducible exact spec_DropReferent.mono _ _ _)
      | (with_reducible exact spec_NearestTo.mono _ _ _)
      | (with_reducible exact spec_PointsAt.mono _ _ _)
      | (with_reducible exact spec_PutReferent.mono _ _ _ _)
      | (with_reducible exact spec_ShiftRole.mono _ _ _)
      | (with_reducible exact LeO.refl _)
      | (with_reducible exact LeO.none _)
      | (with_reducible refine LeO.ite ?_ ?_)
      | (with_reducible refine LeO.bind ?_ (fun _ => ?_))
    · intro y0 y1 y2 y3 y4 y5
      unfold laws_FnLoci.j4
      repeat' first
      | (with_reducible exact ih0 _ _ _ _ _ _ _)
      | (with_reducible exact ih1 _)
      | (with_reducible exact ih2 _ _ _ _ _ _)
      | (with_reducible exact ih3 _)
      | (with_reducible exact ih4 _ _ _ _ _ _ _ _ _)
      | (with_reducible exact ih5 _ _ _ _ _)
      | (with_reducible exact ih6 _ _ _ _ _ _ _ _)
      | (with_reducible exact ih7 _ _ _ _ _ _ _)
      | (with_reducible exact ih8 _ _ _ _ _ _ _ _)
      | (with_reducible exact ih9 _ _ _ _ _ _)
      | (with_reducible exact ih10 _ _ _ _ _ _ _)
      | (with_reducible exact impl_AreLoci.mono _ _)
      | (with_reducible exact impl_DropReferent.mono _ _ _)
      | (with_reducible exact impl_NearestTo.mono _ _ _)
      | (with_reducible exact impl_PointsAt.mono _ _ _)
      | (with_reducible exact impl_PutReferent.mono _ _ _ _)
      | (with_reducible exact impl_ShiftRole.mono _ _ _)
      | (with_reducible exact laws_pSameLoci.mono _ _ _)
      | (with_reducible exact spec_DrawPointsAt.mono _ _)
      | (with_reducible exact spec_DrawPutReferent.mono _ _)
      | (with_reducible exact spec_DrawShiftRole.mono _ _)
      | (with_reducible exact spec_DropReferent.mono _ _ _)
      | (with_reducible exact spec_NearestTo.mono _ _ _)
      | (with_reducible exact spec_PointsAt.mono _ _ _)
      | (with_reducible exact spec_PutReferent.mono _ _ _ _)
      | (with_reducible exact spec_ShiftRole.mono _ _ _)
      | (with_reducible exact LeO.refl _)
      | (with_reducible exact LeO.none _)
      | (with_reducible refine LeO.ite ?_ ?_)
      | (with_reducible refine LeO.bind ?_ (fun _ => ?_))
    · intro y0 y1 y2 y3 y4 y5 y6
      unfold laws_FnLoci.l1
      repeat' first
      | (with_reducible exact ih0 _ _ _ _ _ _ _)
      | (with_reducible exact ih1 _)
      | (with_reducible exact ih2 _ _ _ _ _ _)
      | (with_reducible exact ih3 _)
      | (with_reducible exact ih4 _ _ _ _ _ _ _ _ _)
      | (with_reducible exact ih5 _ _ _ _ _)
      | (with_reducible exact ih6 _ _ _ _ _ _ _ _)
      | (with_reducible exact ih7 _ _ _ _ _ _ _)
      | (with_reducible exact ih8 _ _ _ _ _ _ _ _)
      | (with_reducible exact ih9 _ _ _ _ _ _)
      | (with_reducible exact ih10 _ _ _ _ _ _ _)
      | (with_reducible exact impl_AreLoci.mono _ _)
      | (with_reducible exact impl_DropReferent.mono _ _ _)
      | (with_reducible exact impl_NearestTo.mono _ _ _)
      | (with_reducible exact impl_PointsAt.mono _ _ _)
      | (with_reducible exact impl_PutReferent.mono _ _ _ _)
      | (with_reducible exact impl_ShiftRole.mono _ _ _)
      | (with_reducible exact laws_pSameLoci.mono _ _ _)
      | (with_reducible exact spec_DrawPointsAt.mono _ _)
      | (with_reducible exact spec_DrawPutReferent.mono _ _)
      | (with_reducible exact spec_DrawShiftRole.mono _ _)
      | (with_reducible exact spec_DropReferent.mono _ _ _)
      | (with_reducible exact spec_NearestTo.mono _ _ _)
      | (with_reducible exact spec_PointsAt.mono _ _ _)
      | (with_reducible exact spec_PutReferent.mono _ _ _ _)
      | (with_reducible exact spec_ShiftRole.mono _ _ _)
      | (with_reducible exact LeO.refl _)
      | (with_reducible exact LeO.none _)
      | (with_reducible refine LeO.ite ?_ ?_)
      | (with_reducible refine LeO.bind ?_ (fun _ => ?_))
theorem laws_FnLoci.mono : ∀ a0 a1 k, LeO (laws_FnLoci.f k a0 a1) (laws_FnLoci.f (k + 1) a0 a1) := by
  intro a0 a1 k
  obtain ⟨ih0, ih1, ih2, ih3, ih4, ih5, ih6, ih7, ih8, ih9, ih10⟩ := laws_FnLoci.mono_l k
  unfold laws_FnLoci.f
  repeat' first
      | (with_reducible exact ih0 _ _ _ _ _ _ _)
      | (with_reducible exact ih1 _)
      | (with_reducible exact ih2 _ _ _ _ _ _)
      | (with_reducible exact ih3 _)
      | (with_reducible exact ih4 _ _ _ _ _ _ _ _ _)
      | (with_reducible exact ih5 _ _ _ _ _)
      | (with_reducible exact ih6 _ _ _ _ _ _ _ _)
      | (with_reducible exact ih7 _ _ _ _ _ _ _)
      | (with_reducible exact ih8 _ _ _ _ _ _ _ _)
      | (with_reducible exact ih9 _ _ _ _ _ _)
      | (with_reducible exact ih10 _ _ _ _ _ _ _)
      | (with_reducible exact impl_AreLoci.mono _ _)
      | (with_reducible exact impl_DropReferent.mono _ _ _)
      | (with_reducible exact impl_NearestTo.mono _ _ _)
      | (with_reducible exact impl_PointsAt.mono _ _ _)
      | (with_reducible exact impl_PutReferent.mono _ _ _ _)
      | (with_reducible exact impl_ShiftRole.mono _ _ _)
      | (with_reducible exact laws_pSameLoci.mono _ _ _)
      | (with_reducible exact spec_DrawPointsAt.mono _ _)
      | (with_reducible exact spec_DrawPutReferent.mono _ _)
      | (with_reducible exact spec_DrawShiftRole.mono _ _)
      | (with_reducible exact spec_DropReferent.mono _ _ _)
      | (with_reducible exact spec_NearestTo.mono _ _ _)
      | (with_reducible exact spec_PointsAt.mono _ _ _)
      | (with_reducible exact spec_PutReferent.mono _ _ _ _)
      | (with_reducible exact spec_ShiftRole.mono _ _ _)
      | (with_reducible exact LeO.refl _)
      | (with_reducible exact LeO.none _)
      | (with_reducible refine LeO.ite ?_ ?_)
      | (with_reducible refine LeO.bind ?_ (fun _ => ?_))
noncomputable def laws_FnLoci.J0 (x1 : List Int) (x6 : ByteArray) (x7 : Int) (x8 : List (S55)) (x9 : Bool) (x10 : List (S55)) (x79 : Bool) : Option (Bool) := lim fun k => laws_FnLoci.j0 k x1 x6 x7 x8 x9 x10 x79
theorem laws_FnLoci.J0_lim (x1 : List Int) (x6 : ByteArray) (x7 : Int) (x8 : List (S55)) (x9 : Bool) (x10 : List (S55)) (x79 : Bool) : Lim (fun k => laws_FnLoci.j0 k x1 x6 x7 x8 x9 x10 x79) (laws_FnLoci.J0 x1 x6 x7 x8 x9 x10 x79) := ⟨fun k => (laws_FnLoci.mono_l k).1 x1 x6 x7 x8 x9 x10 x79, rfl⟩
noncomputable def laws_FnLoci.J1 (x1 : List Int) : Option (Bool) := lim fun k => laws_FnLoci.j1 k x1
theorem laws_FnLoci.J1_lim (x1 : List Int) : Lim (fun k => laws_FnLoci.j1 k x1) (laws_FnLoci.J1 x1) := ⟨fun k => (laws_FnLoci.mono_l k).2.1 x1, rfl⟩
noncomputable def laws_FnLoci.J2 (x1 : List Int) (x18 : List (S55)) (x19 : Int) (x21 : Bool) (x22 : ByteArray) (x157 : Bool) : Option (Bool) := lim fun k => laws_FnLoci.j2 k x1 x18 x19 x21 x22 x157
theorem laws_FnLoci.J2_lim (x1 : List Int) (x18 : List (S55)) (x19 : Int) (x21 : Bool) (x22 : ByteArray) (x157 : Bool) : Lim (fun k => laws_FnLoci.j2 k x1 x18 x19 x21 x22 x157) (laws_FnLoci.J2 x1 x18 x19 x21 x22 x157) := ⟨fun k => (laws_FnLoci.mono_l k).2.2.1 x1 x18 x19 x21 x22 x157, rfl⟩
noncomputable def laws_FnLoci.J6 (x1 : List Int) : Option (Bool) := lim fun k => laws_FnLoci.j6 k x1
theorem laws_FnLoci.J6_lim (x1 : List Int) : Lim (fun k => laws_FnLoci.j6 k x1) (laws_FnLoci.J6 x1) := ⟨fun k => (laws_FnLoci.mono_l k).2.2.2.1 x1, rfl⟩
noncomputable def laws_FnLoci.J7 (x29 : List (S55)) (x30 : ByteArray) (x31 : List (S55)) (x32 : Bool) (x33 : List (S55)) (x37 : Bool) (x38 : ByteArray) (x39 : Int) (x255 : Bool) : Option (Bool) := lim fun k => laws_FnLoci.j7 k x29 x30 x31 x32 x33 x37 x38 x39 x255
theorem laws_FnLoci.J7_lim (x29 : List (S55)) (x30 : ByteArray) (x31 : List (S55)) (x32 : Bool) (x33 : List (S55)) (x37 : Bool) (x38 : ByteArray) (x39 : Int) (x255 : Bool) : Lim (fun k => laws_FnLoci.j7 k x29 x30 x31 x32 x33 x37 x38 x39 x255) (laws_FnLoci.J7 x29 x30 x31 x32 x33 x37 x38 x39 x255) := ⟨fun k => (laws_FnLoci.mono_l k).2.2.2.2.1 x29 x30 x31 x32 x33 x37 x38 x39 x255, rfl⟩
noncomputable def laws_FnLoci.J8 (x29 : List (S55)) (x30 : ByteArray) (x37 : Bool) (x38 : ByteArray) (x39 : Int) : Option (Bool) := lim fun k => laws_FnLoci.j8 k x29 x30 x37 x38 x39
theorem laws_FnLoci.J8_lim (x29 : List (S55)) (x30 : ByteArray) (x37 : Bool) (x38 : ByteArray) (x39 : Int) : Lim (fun k => laws_FnLoci.j8 k x29 x30 x37 x38 x39) (laws_FnLoci.J8 x29 x30 x37 x38 x39) := ⟨fun k => (laws_FnLoci.mono_l k).2.2.2.2.2.1 x29 x30 x37 x38 x39, rfl⟩
noncomputable def laws_FnLoci.L2 (x29 : List (S55)) (x30 : ByteArray) (x38 : ByteArray) (x39 : Int) (x43 : Int) (x281 : List (S55)) (x282 : Int) (x283 : Int) : Option (Bool) := lim fun k => laws_FnLoci.l2 k x29 x30 x38 x39 x43 x281 x282 x283
theorem laws_FnLoci.L2_lim (x29 : List (S55)) (x30 : ByteArray) (x38 : ByteArray) (x39 : Int) (x43 : Int) (x281 : List (S55)) (x282 : Int) (x283 : Int) : Lim (fun k => laws_FnLoci.l2 k x29 x30 x38 x39 x43 x281 x282 x283) (laws_FnLoci.L2 x29 x30 x38 x39 x43 x281 x282 x283) := ⟨fun k => (laws_FnLoci.mono_l k).2.2.2.2.2.2.1 x29 x30 x38 x39 x43 x281 x282 x283, rfl⟩
noncomputable def laws_FnLoci.L3 (x30 : ByteArray) (x38 : ByteArray) (x39 : Int) (x43 : Int) (x294 : List (S55)) (x295 : Int) (x296 : Int) : Option (Bool) := lim fun k => laws_FnLoci.l3 k x30 x38 x39 x43 x294 x295 x296
theorem laws_FnLoci.L3_lim (x30 : ByteArray) (x38 : ByteArray) (x39 : Int) (x43 : Int) (x294 : List (S55)) (x295 : Int) (x296 : Int) : Lim (fun k => laws_FnLoci.l3 k x30 x38 x39 x43 x294 x295 x296) (laws_FnLoci.L3 x30 x38 x39 x43 x294 x295 x296) := ⟨fun k => (laws_FnLoci.mono_l k).2.2.2.2.2.2.2.1 x30 x38 x39 x43 x294 x295 x296, rfl⟩
noncomputable def laws_FnLoci.L0 (x1 : List Int) (x18 : List (S55)) (x19 : Int) (x22 : ByteArray) (x24 : Int) (x159 : List (S55)) (x160 : Int) (x161 : Int) : Option (Bool) := lim fun k => laws_FnLoci.l0 k x1 x18 x19 x22 x24 x159 x160 x161
theorem laws_FnLoci.L0_lim (x1 : List Int) (x18 : List (S55)) (x19 : Int) (x22 : ByteArray) (x24 : Int) (x159 : List (S55)) (x160 : Int) (x161 : Int) : Lim (fun k => laws_FnLoci.l0 k x1 x18 x19 x22 x24 x159 x160 x161) (laws_FnLoci.L0 x1 x18 x19 x22 x24 x159 x160 x161) := ⟨fun k => (laws_FnLoci.mono_l k).2.2.2.2.2.2.2.2.1 x1 x18 x19 x22 x24 x159 x160 x161, rfl⟩
noncomputable def laws_FnLoci.J4 (x1 : List Int) (x18 : List (S55)) (x19 : Int) (x22 : ByteArray) (x24 : Int) (x180 : Bool) : Option (Bool) := lim fun k => laws_FnLoci.j4 k x1 x18 x19 x22 x24 x180
theorem laws_FnLoci.J4_lim (x1 : List Int) (x18 : List (S55)) (x19 : Int) (x22 : ByteArray) (x24 : Int) (x180 : Bool) : Lim (fun k => laws_FnLoci.j4 k x1 x18 x19 x22 x24 x180) (laws_FnLoci.J4 x1 x18 x19 x22 x24 x180) := ⟨fun k => (laws_FnLoci.mono_l k).2.2.2.2.2.2.2.2.2.1 x1 x18 x19 x22 x24 x180, rfl⟩
noncomputable def laws_FnLoci.L1 (x1 : List Int) (x19 : Int) (x22 : ByteArray) (x24 : Int) (x181 : List (S55)) (x182 : Int) (x183 : Int) : Option (Bool) := lim fun k => laws_FnLoci.l1 k x1 x19 x22 x24 x181 x182 x183
theorem laws_FnLoci.L1_lim (x1 : List Int) (x19 : Int) (x22 : ByteArray) (x24 : Int) (x181 : List (S55)) (x182 : Int) (x183 : Int) : Lim (fun k => laws_FnLoci.l1 k x1 x19 x22 x24 x181 x182 x183) (laws_FnLoci.L1 x1 x19 x22 x24 x181 x182 x183) := ⟨fun k => (laws_FnLoci.mono_l k).2.2.2.2.2.2.2.2.2.2 x1 x19 x22 x24 x181 x182 x183, rfl⟩
noncomputable def laws_FnLoci.F (l0 : List Int) (l1 : List Int) : Option (Bool) := lim fun k => laws_FnLoci.f k l0 l1
theorem laws_FnLoci.F_lim (l0 : List Int) (l1 : List Int) : Lim (fun k => laws_FnLoci.f k l0 l1) (laws_FnLoci.F l0 l1) := ⟨laws_FnLoci.mono l0 l1, rfl⟩
theorem laws_FnLoci.J0_eq (x1 : List Int) (x6 : ByteArray) (x7 : Int) (x8 : List (S55)) (x9 : Bool) (x10 : List (S55)) (x79 : Bool) : laws_FnLoci.J0 x1 x6 x7 x8 x9 x10 x79 = (if x79 = true then (some false) else (if x9 = true then ((impl_PointsAt.F x8 x7).bind fun bt509 => ((impl_DropReferent.F x8 x6).bind fun bt511 => ((spec_DropReferent.F x10 x6).bind fun bt515 => (if bt509.2 = true then (if bt509.1.toList = x6.toList then (if bt511.2 = true then (if bt515.2 = true then ((laws_pSameLoci.F bt511.1 bt515.1).bind fun t519 => (if t519 = true then (if (bt515.1.length : Int) = (wrap64 ((x10.length : Int) - 1)) then ((impl_AreLoci.F x8).bind fun t520 => (if t520 = true then (laws_FnLoci.J1 x1) else (some false))) else (some false)) else (some false))) else (some false)) else (some false)) else (some false)) else (some false))))) else (laws_FnLoci.J1 x1))) := by
  refine Lim.succ_eq (laws_FnLoci.J0_lim x1 x6 x7 x8 x9 x10 x79).mon ?_
  simp only [laws_FnLoci.j0]
  repeat' first
  | (with_reducible exact laws_FnLoci.J0_lim _ _ _ _ _ _ _)
  | (with_reducible exact laws_FnLoci.J1_lim _)
  | (with_reducible exact laws_FnLoci.J2_lim _ _ _ _ _ _)
  | (with_reducible exact laws_FnLoci.J6_lim _)
  | (with_reducible exact laws_FnLoci.J7_lim _ _ _ _ _ _ _ _ _)
  | (with_reducible exact laws_FnLoci.J8_lim _ _ _ _ _)
  | (with_reducible exact laws_FnLoci.L2_lim _ _ _ _ _ _ _ _)
  | (with_reducible exact laws_FnLoci.L3_lim _ _ _ _ _ _ _)
  | (with_reducible exact laws_FnLoci.L0_lim _ _ _ _ _ _ _ _)
  | (with_reducible exact laws_FnLoci.J4_lim _ _ _ _ _ _)
  | (with_reducible exact laws_FnLoci.L1_lim _ _ _ _ _ _ _)
  | (with_reducible exact impl_AreLoci.F_lim _)
  | (with_reducible exact impl_DropReferent.F_lim _ _)
  | (with_reducible exact impl_NearestTo.F_lim _ _)
  | (with_reducible exact impl_PointsAt.F_lim _ _)
  | (with_reducible exact impl_PutReferent.F_lim _ _ _)
  | (with_reducible exact impl_ShiftRole.F_lim _ _)
  | (with_reducible exact laws_pSameLoci.F_lim _ _)
  | (with_reducible exact spec_DrawPointsAt.F_lim _)
  | (with_reducible exact spec_DrawPutReferent.F_lim _)
  | (with_reducible exact spec_DrawShiftRole.F_lim _)
  | (with_reducible exact spec_DropReferent.F_lim _ _)
  | (with_reducible exact spec_NearestTo.F_lim _ _)
  | (with_reducible exact spec_PointsAt.F_lim _ _)
  | (with_reducible exact spec_PutReferent.F_lim _ _ _)
  | (with_reducible exact spec_ShiftRole.F_lim _ _)
  | (with_reducible refine Lim.ite ?_ ?_)
  | (with_reducible refine Lim.bind ?_ (fun _ => ?_))
  | (with_reducible exact Lim.const _)
theorem laws_FnLoci.J1_eq (x1 : List Int) : laws_FnLoci.J1 x1 = ((spec_DrawPointsAt.F x1).bind fun bt521 => ((impl_PointsAt.F bt521.1 bt521.2).bind fun bt525 => ((spec_PointsAt.F bt521.1 bt521.2).bind fun bt527 => (if (bt525.2 != bt527.2) = true then (laws_FnLoci.J2 x1 bt521.1 bt521.2 bt525.2 bt527.1 true) else (laws_FnLoci.J2 x1 bt521.1 bt521.2 bt525.2 bt527.1 (bt525.1.toList != bt527.1.toList)))))) := by
  refine Lim.succ_eq (laws_FnLoci.J1_lim x1).mon ?_
  simp only [laws_FnLoci.j1]
  repeat' first
  | (with_reducible exact laws_FnLoci.J0_lim _ _ _ _ _ _ _)
  | (with_reducible exact laws_FnLoci.J1_lim _)
  | (with_reducible exact laws_FnLoci.J2_lim _ _ _ _ _ _)
  | (with_reducible exact laws_FnLoci.J6_lim _)
  | (with_reducible exact laws_FnLoci.J7_lim _ _ _ _ _ _ _ _ _)
  | (with_reducible exact laws_FnLoci.J8_lim _ _ _ _ _)
  | (with_reducible exact laws_FnLoci.L2_lim _ _ _ _ _ _ _ _)
  | (with_reducible exact laws_FnLoci.L3_lim _ _ _ _ _ _ _)
  | (with_reducible exact laws_FnLoci.L0_lim _ _ _ _ _ _ _ _)
  | (with_reducible exact laws_FnLoci.J4_lim _ _ _ _ _ _)
  | (with_reducible exact laws_FnLoci.L1_lim _ _ _ _ _ _ _)
  | (with_reducible exact impl_AreLoci.F_lim _)
  | (with_reducible exact impl_DropReferent.F_lim _ _)
  | (with_reducible exact impl_NearestTo.F_lim _ _)
  | (with_reducible exact impl_PointsAt.F_lim _ _)
  | (with_reducible exact impl_PutReferent.F_lim _ _ _)
  | (with_reducible exact impl_ShiftRole.F_lim _ _)
  | (with_reducible exact laws_pSameLoci.F_lim _ _)
  | (with_reducible exact spec_DrawPointsAt.F_lim _)
  | (with_reducible exact spec_DrawPutReferent.F_lim _)
  | (with_reducible exact spec_DrawShiftRole.F_lim _)
  | (with_reducible exact spec_DropReferent.F_lim _ _)
  | (with_reducible exact spec_NearestTo.F_lim _ _)
  | (with_reducible exact spec_PointsAt.F_lim _ _)
  | (with_reducible exact spec_PutReferent.F_lim _ _ _)
  | (with_reducible exact spec_ShiftRole.F_lim _ _)
  | (with_reducible refine Lim.ite ?_ ?_)
  | (with_reducible refine Lim.bind ?_ (fun _ => ?_))
  | (with_reducible exact Lim.const _)
theorem laws_FnLoci.J2_eq (x1 : List Int) (x18 : List (S55)) (x19 : Int) (x21 : Bool) (x22 : ByteArray) (x157 : Bool) : laws_FnLoci.J2 x1 x18 x19 x21 x22 x157 = (if x157 = true then (some false) else (if x21 = true then (laws_FnLoci.L0 x1 x18 x19 x22 (-1) x18 (x18.length : Int) 0) else (laws_FnLoci.J6 x1))) := by
  refine Lim.succ_eq (laws_FnLoci.J2_lim x1 x18 x19 x21 x22 x157).mon ?_
  simp only [laws_FnLoci.j2]
  repeat' first
  | (with_reducible exact laws_FnLoci.J0_lim _ _ _ _ _ _ _)
  | (with_reducible exact laws_FnLoci.J1_lim _)
  | (with_reducible exact laws_FnLoci.J2_lim _ _ _ _ _ _)
  | (with_reducible exact laws_FnLoci.J6_lim _)
  | (with_reducible exact laws_FnLoci.J7_lim _ _ _ _ _ _ _ _ _)
  | (with_reducible exact laws_FnLoci.J8_lim _ _ _ _ _)
  | (with_reducible exact laws_FnLoci.L2_lim _ _ _ _ _ _ _ _)
  | (with_reducible exact laws_FnLoci.L3_lim _ _ _ _ _ _ _)
  | (with_reducible exact laws_FnLoci.L0_lim _ _ _ _ _ _ _ _)
  | (with_reducible exact laws_FnLoci.J4_lim _ _ _ _ _ _)
  | (with_reducible exact laws_FnLoci.L1_lim _ _ _ _ _ _ _)
  | (with_reducible exact impl_AreLoci.F_lim _)
  | (with_reducible exact impl_DropReferent.F_lim _ _)
  | (with_reducible exact impl_NearestTo.F_lim _ _)
  | (with_reducible exact impl_PointsAt.F_lim _ _)
  | (with_reducible exact impl_PutReferent.F_lim _ _ _)
  | (with_reducible exact impl_ShiftRole.F_lim _ _)
  | (with_reducible exact laws_pSameLoci.F_lim _ _)
  | (with_reducible exact spec_DrawPointsAt.F_lim _)
  | (with_reducible exact spec_DrawPutReferent.F_lim _)
  | (with_reducible exact spec_DrawShiftRole.F_lim _)
  | (with_reducible exact spec_DropReferent.F_lim _ _)
  | (with_reducible exact spec_NearestTo.F_lim _ _)
  | (with_reducible exact spec_PointsAt.F_lim _ _)
  | (with_reducible exact spec_PutReferent.F_lim _ _ _)
  | (with_reducible exact spec_ShiftRole.F_lim _ _)
  | (with_reducible refine Lim.ite ?_ ?_)
  | (with_reducible refine Lim.bind ?_ (fun _ => ?_))
  | (with_reducible exact Lim.const _)
theorem laws_FnLoci.J6_eq (x1 : List Int) : laws_FnLoci.J6 x1 = ((spec_DrawShiftRole.F x1).bind fun bt535 => ((impl_ShiftRole.F bt535.1 bt535.2).bind fun bt539 => ((spec_ShiftRole.F bt535.1 bt535.2).bind fun bt543 => ((impl_NearestTo.F bt535.1 bt535.2).bind fun bt547 => ((spec_NearestTo.F bt535.1 bt535.2).bind fun bt550 => (if (bt539.2 != bt543.2) = true then (laws_FnLoci.J7 bt535.1 bt535.2 bt539.1 bt539.2 bt543.1 bt547.2.2 bt550.1 bt550.2.1 true) else ((laws_pSameLoci.F bt539.1 bt543.1).bind fun t553 => (if t553 = true then (if (bt547.2.2 != bt550.2.2) = true then (laws_FnLoci.J7 bt535.1 bt535.2 bt539.1 bt539.2 bt543.1 bt547.2.2 bt550.1 bt550.2.1 true) else (if bt547.1.toList = bt550.1.toList then (laws_FnLoci.J7 bt535.1 bt535.2 bt539.1 bt539.2 bt543.1 bt547.2.2 bt550.1 bt550.2.1 (bt547.2.1 != bt550.2.1)) else (laws_FnLoci.J7 bt535.1 bt535.2 bt539.1 bt539.2 bt543.1 bt547.2.2 bt550.1 bt550.2.1 true))) else (laws_FnLoci.J7 bt535.1 bt535.2 bt539.1 bt539.2 bt543.1 bt547.2.2 bt550.1 bt550.2.1 true))))))))) := by
  refine Lim.succ_eq (laws_FnLoci.J6_lim x1).mon ?_
  simp only [laws_FnLoci.j6]
  repeat' first
  | (with_reducible exact laws_FnLoci.J0_lim _ _ _ _ _ _ _)
  | (with_reducible exact laws_FnLoci.J1_lim _)
  | (with_reducible exact laws_FnLoci.J2_lim _ _ _ _ _ _)
  | (with_reducible exact laws_FnLoci.J6_lim _)
  | (with_reducible exact laws_FnLoci.J7_lim _ _ _ _ _ _ _ _ _)
  | (with_reducible exact laws_FnLoci.J8_lim _ _ _ _ _)
  | (with_reducible exact laws_FnLoci.L2_lim _ _ _ _ _ _ _ _)
  | (with_reducible exact laws_FnLoci.L3_lim _ _ _ _ _ _ _)
  | (with_reducible exact laws_FnLoci.L0_lim _ _ _ _ _ _ _ _)
  | (with_reducible exact laws_FnLoci.J4_lim _ _ _ _ _ _)
  | (with_reducible exact laws_FnLoci.L1_lim _ _ _ _ _ _ _)
  | (with_reducible exact impl_AreLoci.F_lim _)
  | (with_reducible exact impl_DropReferent.F_lim _ _)
  | (with_reducible exact impl_NearestTo.F_lim _ _)
  | (with_reducible exact impl_PointsAt.F_lim _ _)
  | (with_reducible exact impl_PutReferent.F_lim _ _ _)
  | (with_reducible exact impl_ShiftRole.F_lim _ _)
  | (with_reducible exact laws_pSameLoci.F_lim _ _)
  | (with_reducible exact spec_DrawPointsAt.F_lim _)
  | (with_reducible exact spec_DrawPutReferent.F_lim _)
  | (with_reducible exact spec_DrawShiftRole.F_lim _)
  | (with_reducible exact spec_DropReferent.F_lim _ _)
  | (with_reducible exact spec_NearestTo.F_lim _ _)
  | (with_reducible exact spec_PointsAt.F_lim _ _)
  | (with_reducible exact spec_PutReferent.F_lim _ _ _)
  | (with_reducible exact spec_ShiftRole.F_lim _ _)
  | (with_reducible refine Lim.ite ?_ ?_)
  | (with_reducible refine Lim.bind ?_ (fun _ => ?_))
  | (with_reducible exact Lim.const _)
theorem laws_FnLoci.J7_eq (x29 : List (S55)) (x30 : ByteArray) (x31 : List (S55)) (x32 : Bool) (x33 : List (S55)) (x37 : Bool) (x38 : ByteArray) (x39 : Int) (x255 : Bool) : laws_FnLoci.J7 x29 x30 x31 x32 x33 x37 x38 x39 x255 = (if x255 = true then (some false) else (if x32 = true then ((impl_PointsAt.F x31 0).bind fun bt554 => (if bt554.2 = true then (if bt554.1.toList = ([115, 105, 103, 110, 101, 114] : List UInt8) then (if (x33.length : Int) = (x29.length : Int) then ((impl_AreLoci.F x31).bind fun t556 => (if t556 = true then (laws_FnLoci.J8 x29 x30 x37 x38 x39) else (some false))) else (some false)) else (some false)) else (some false))) else (laws_FnLoci.J8 x29 x30 x37 x38 x39))) := by
  refine Lim.succ_eq (laws_FnLoci.J7_lim x29 x30 x31 x32 x33 x37 x38 x39 x255).mon ?_
  simp only [laws_FnLoci.j7]
  repeat' first
  | (with_reducible exact laws_FnLoci.J0_lim _ _ _ _ _ _ _)
  | (with_reducible exact laws_FnLoci.J1_lim _)
  | (with_reducible exact laws_FnLoci.J2_lim _ _ _ _ _ _)
  | (with_reducible exact laws_FnLoci.J6_lim _)
  | (with_reducible exact laws_FnLoci.J7_lim _ _ _ _ _ _ _ _ _)
  | (with_reducible exact laws_FnLoci.J8_lim _ _ _ _ _)
  | (with_reducible exact laws_FnLoci.L2_lim _ _ _ _ _ _ _ _)
  | (with_reducible exact laws_FnLoci.L3_lim _ _ _ _ _ _ _)
  | (with_reducible exact laws_FnLoci.L0_lim _ _ _ _ _ _ _ _)
  | (with_reducible exact laws_FnLoci.J4_lim _ _ _ _ _ _)
  | (with_reducible exact laws_FnLoci.L1_lim _ _ _ _ _ _ _)
  | (with_reducible exact impl_AreLoci.F_lim _)
  | (with_reducible exact impl_DropReferent.F_lim _ _)
  | (with_reducible exact impl_NearestTo.F_lim _ _)
  | (with_reducible exact impl_PointsAt.F_lim _ _)
  | (with_reducible exact impl_PutReferent.F_lim _ _ _)
  | (with_reducible exact impl_ShiftRole.F_lim _ _)
  | (with_reducible exact laws_pSameLoci.F_lim _ _)
  | (with_reducible exact spec_DrawPointsAt.F_lim _)
  | (with_reducible exact spec_DrawPutReferent.F_lim _)
  | (with_reducible exact spec_DrawShiftRole.F_lim _)
  | (with_reducible exact spec_DropReferent.F_lim _ _)
  | (with_reducible exact spec_NearestTo.F_lim _ _)
  | (with_reducible exact spec_PointsAt.F_lim _ _)
  | (with_reducible exact spec_PutReferent.F_lim _ _ _)
  | (with_reducible exact spec_ShiftRole.F_lim _ _)
  | (with_reducible refine Lim.ite ?_ ?_)
  | (with_reducible refine Lim.bind ?_ (fun _ => ?_))
  | (with_reducible exact Lim.const _)
theorem laws_FnLoci.J8_eq (x29 : List (S55)) (x30 : ByteArray) (x37 : Bool) (x38 : ByteArray) (x39 : Int) : laws_FnLoci.J8 x29 x30 x37 x38 x39 = (if x37 = true then (laws_FnLoci.L2 x29 x30 x38 x39 0 x29 (x29.length : Int) 0) else (some true)) := by
  refine Lim.succ_eq (laws_FnLoci.J8_lim x29 x30 x37 x38 x39).mon ?_
  simp only [laws_FnLoci.j8]
  repeat' first
  | (with_reducible exact laws_FnLoci.J0_lim _ _ _ _ _ _ _)
  | (with_reducible exact laws_FnLoci.J1_lim _)
  | (with_reducible exact laws_FnLoci.J2_lim _ _ _ _ _ _)
  | (with_reducible exact laws_FnLoci.J6_lim _)
  | (with_reducible exact laws_FnLoci.J7_lim _ _ _ _ _ _ _ _ _)
  | (with_reducible exact laws_FnLoci.J8_lim _ _ _ _ _)
  | (with_reducible exact laws_FnLoci.L2_lim _ _ _ _ _ _ _ _)
  | (with_reducible exact laws_FnLoci.L3_lim _ _ _ _ _ _ _)
  | (with_reducible exact laws_FnLoci.L0_lim _ _ _ _ _ _ _ _)
  | (with_reducible exact laws_FnLoci.J4_lim _ _ _ _ _ _)
  | (with_reducible exact laws_FnLoci.L1_lim _ _ _ _ _ _ _)
  | (with_reducible exact impl_AreLoci.F_lim _)
  | (with_reducible exact impl_DropReferent.F_lim _ _)
  | (with_reducible exact impl_NearestTo.F_lim _ _)
  | (with_reducible exact impl_PointsAt.F_lim _ _)
  | (with_reducible exact impl_PutReferent.F_lim _ _ _)
  | (with_reducible exact impl_ShiftRole.F_lim _ _)
  | (with_reducible exact laws_pSameLoci.F_lim _ _)
  | (with_reducible exact spec_DrawPointsAt.F_lim _)
  | (with_reducible exact spec_DrawPutReferent.F_lim _)
  | (with_reducible exact spec_DrawShiftRole.F_lim _)
  | (with_reducible exact spec_DropReferent.F_lim _ _)
  | (with_reducible exact spec_NearestTo.F_lim _ _)
  | (with_reducible exact spec_PointsAt.F_lim _ _)
  | (with_reducible exact spec_PutReferent.F_lim _ _ _)
  | (with_reducible exact spec_ShiftRole.F_lim _ _)
  | (with_reducible refine Lim.ite ?_ ?_)
  | (with_reducible refine Lim.bind ?_ (fun _ => ?_))
  | (with_reducible exact Lim.const _)
theorem laws_FnLoci.L2_eq (x29 : List (S55)) (x30 : ByteArray) (x38 : ByteArray) (x39 : Int) (x43 : Int) (x281 : List (S55)) (x282 : Int) (x283 : Int) : laws_FnLoci.L2 x29 x30 x38 x39 x43 x281 x282 x283 = (if x283 < x282 then (if 0 ≤ x283 then (if x283 < (x281.length : Int) then (if ((rd_T55 x281 x283).f0).toList = x30.toList then (laws_FnLoci.L2 x29 x30 x38 x39 ((rd_T55 x281 x283).f1) x281 x282 (wrap64 (x283 + 1))) else (laws_FnLoci.L2 x29 x30 x38 x39 x43 x281 x282 (wrap64 (x283 + 1)))) else (none)) else (none)) else (laws_FnLoci.L3 x30 x38 x39 x43 x29 (x29.length : Int) 0)) := by
  refine Lim.succ_eq (laws_FnLoci.L2_lim x29 x30 x38 x39 x43 x281 x282 x283).mon ?_
  simp only [laws_FnLoci.l2]
  repeat' first
  | (with_reducible exact laws_FnLoci.J0_lim _ _ _ _ _ _ _)
  | (with_reducible exact laws_FnLoci.J1_lim _)
  | (with_reducible exact laws_FnLoci.J2_lim _ _ _ _ _ _)
  | (with_reducible exact laws_FnLoci.J6_lim _)
  | (with_reducible exact laws_FnLoci.J7_lim _ _ _ _ _ _ _ _ _)
  | (with_reducible exact laws_FnLoci.J8_lim _ _ _ _ _)
  | (with_reducible exact laws_FnLoci.L2_lim _ _ _ _ _ _ _ _)
  | (with_reducible exact laws_FnLoci.L3_lim _ _ _ _ _ _ _)
  | (with_reducible exact laws_FnLoci.L0_lim _ _ _ _ _ _ _ _)
  | (with_reducible exact laws_FnLoci.J4_lim _ _ _ _ _ _)
  | (with_reducible exact laws_FnLoci.L1_lim _ _ _ _ _ _ _)
  | (with_reducible exact impl_AreLoci.F_lim _)
  | (with_reducible exact impl_DropReferent.F_lim _ _)
  | (with_reducible exact impl_NearestTo.F_lim _ _)
  | (with_reducible exact impl_PointsAt.F_lim _ _)
  | (with_reducible exact impl_PutReferent.F_lim _ _ _)
  | (with_reducible exact impl_ShiftRole.F_lim _ _)
  | (with_reducible exact laws_pSameLoci.F_lim _ _)
  | (with_reducible exact spec_DrawPointsAt.F_lim _)
  | (with_reducible exact spec_DrawPutReferent.F_lim _)
  | (with_reducible exact spec_DrawShiftRole.F_lim _)
  | (with_reducible exact spec_DropReferent.F_lim _ _)
  | (with_reducible exact spec_NearestTo.F_lim _ _)
  | (with_reducible exact spec_PointsAt.F_lim _ _)
  | (with_reducible exact spec_PutReferent.F_lim _ _ _)
  | (with_reducible exact spec_ShiftRole.F_lim _ _)
  | (with_reducible refine Lim.ite ?_ ?_)
  | (with_reducible refine Lim.bind ?_ (fun _ => ?_))
  | (with_reducible exact Lim.const _)
theorem laws_FnLoci.L3_eq (x30 : ByteArray) (x38 : ByteArray) (x39 : Int) (x43 : Int) (x294 : List (S55)) (x295 : Int) (x296 : Int) : laws_FnLoci.L3 x30 x38 x39 x43 x294 x295 x296 = (if x296 < x295 then (if 0 ≤ x296 then (if x296 < (x294.length : Int) then (if ((rd_T55 x294 x296).f0).toList = x30.toList then (if ((rd_T55 x294 x296).f0).toList = x38.toList then ((laws_pAbs.f (wrap64 (((rd_T55 x294 x296).f1) - x43))).bind fun t561 => (if t561 = x39 then (laws_FnLoci.L3 x30 x38 x39 x43 x294 x295 (wrap64 (x296 + 1))) else (some false))) else (laws_FnLoci.L3 x30 x38 x39 x43 x294 x295 (wrap64 (x296 + 1)))) else ((laws_pAbs.f (wrap64 (((rd_T55 x294 x296).f1) - x43))).bind fun t562 => (if t562 < x39 then (some false) else (if ((rd_T55 x294 x296).f0).toList = x38.toList then ((laws_pAbs.f (wrap64 (((rd_T55 x294 x296).f1) - x43))).bind fun t563 => (if t563 = x39 then (laws_FnLoci.L3 x30 x38 x39 x43 x294 x295 (wrap64 (x296 + 1))) else (some false))) else (laws_FnLoci.L3 x30 x38 x39 x43 x294 x295 (wrap64 (x296 + 1))))))) else (none)) else (none)) else (some true)) := by
  refine Lim.succ_eq (laws_FnLoci.L3_lim x30 x38 x39 x43 x294 x295 x296).mon ?_
  simp only [laws_FnLoci.l3]
  repeat' first
  | (with_reducible exact laws_FnLoci.J0_lim _ _ _ _ _ _ _)
  | (with_reducible exact laws_FnLoci.J1_lim _)
  | (with_reducible exact laws_FnLoci.J2_lim _ _ _ _ _ _)
  | (with_reducible exact laws_FnLoci.J6_lim _)
  | (with_reducible exact laws_FnLoci.J7_lim _ _ _ _ _ _ _ _ _)
  | (with_reducible exact laws_FnLoci.J8_lim _ _ _ _ _)
  | (with_reducible exact laws_FnLoci.L2_lim _ _ _ _ _ _ _ _)
  | (with_reducible exact laws_FnLoci.L3_lim _ _ _ _ _ _ _)
  | (with_reducible exact laws_FnLoci.L0_lim _ _ _ _ _ _ _ _)
  | (with_reducible exact laws_FnLoci.J4_lim _ _ _ _ _ _)
  | (with_reducible exact laws_FnLoci.L1_lim _ _ _ _ _ _ _)
  | (with_reducible exact impl_AreLoci.F_lim _)
  | (with_reducible exact impl_DropReferent.F_lim _ _)
  | (with_reducible exact impl_NearestTo.F_lim _ _)
  | (with_reducible exact impl_PointsAt.F_lim _ _)
  | (with_reducible exact impl_PutReferent.F_lim _ _ _)
  | (with_reducible exact impl_ShiftRole.F_lim _ _)
  | (with_reducible exact laws_pSameLoci.F_lim _ _)
  | (with_reducible exact spec_DrawPointsAt.F_lim _)
  | (with_reducible exact spec_DrawPutReferent.F_lim _)
  | (with_reducible exact spec_DrawShiftRole.F_lim _)
  | (with_reducible exact spec_DropReferent.F_lim _ _)
  | (with_reducible exact spec_NearestTo.F_lim _ _)
  | (with_reducible exact spec_PointsAt.F_lim _ _)
  | (with_reducible exact spec_PutReferent.F_lim _ _ _)
  | (with_reducible exact spec_ShiftRole.F_lim _ _)
  | (with_reducible refine Lim.ite ?_ ?_)
  | (with_reducible refine Lim.bind ?_ (fun _ => ?_))
  | (with_reducible exact Lim.const _)
theorem laws_FnLoci.L0_eq (x1 : List Int) (x18 : List (S55)) (x19 : Int) (x22 : ByteArray) (x24 : Int) (x159 : List (S55)) (x160 : Int) (x161 : Int) : laws_FnLoci.L0 x1 x18 x19 x22 x24 x159 x160 x161 = (if x161 < x160 then (if 0 ≤ x161 then (if x161 < (x159.length : Int) then (if ((rd_T55 x159 x161).f0).toList = x22.toList then ((laws_pAbs.f (wrap64 (((rd_T55 x159 x161).f1) - x19))).bind fun t531 => (laws_FnLoci.L0 x1 x18 x19 x22 t531 x159 x160 (wrap64 (x161 + 1)))) else (laws_FnLoci.L0 x1 x18 x19 x22 x24 x159 x160 (wrap64 (x161 + 1)))) else (none)) else (none)) else (if x24 < 0 then (laws_FnLoci.J4 x1 x18 x19 x22 x24 true) else (laws_FnLoci.J4 x1 x18 x19 x22 x24 (decide (x24 > 20))))) := by
  refine Lim.succ_eq (laws_FnLoci.L0_lim x1 x18 x19 x22 x24 x159 x160 x161).mon ?_
  simp only [laws_FnLoci.l0]
  repeat' first
  | (with_reducible exact laws_FnLoci.J0_lim _ _ _ _ _ _ _)
  | (with_reducible exact laws_FnLoci.J1_lim _)
  | (with_reducible exact laws_FnLoci.J2_lim _ _ _ _ _ _)
  | (with_reducible exact laws_FnLoci.J6_lim _)
  | (with_reducible exact laws_FnLoci.J7_lim _ _ _ _ _ _ _ _ _)
  | (with_reducible exact laws_FnLoci.J8_lim _ _ _ _ _)
  | (with_reducible exact laws_FnLoci.L2_lim _ _ _ _ _ _ _ _)
  | (with_reducible exact laws_FnLoci.L3_lim _ _ _ _ _ _ _)
  | (with_reducible exact laws_FnLoci.L0_lim _ _ _ _ _ _ _ _)
  | (with_reducible exact laws_FnLoci.J4_lim _ _ _ _ _ _)
  | (with_reducible exact laws_FnLoci.L1_lim _ _ _ _ _ _ _)
  | (with_reducible exact impl_AreLoci.F_lim _)
  | (with_reducible exact impl_DropReferent.F_lim _ _)
  | (with_reducible exact impl_NearestTo.F_lim _ _)
  | (with_reducible exact impl_PointsAt.F_lim _ _)
  | (with_reducible exact impl_PutReferent.F_lim _ _ _)
  | (with_reducible exact impl_ShiftRole.F_lim _ _)
  | (with_reducible exact laws_pSameLoci.F_lim _ _)
  | (with_reducible exact spec_DrawPointsAt.F_lim _)
  | (with_reducible exact spec_DrawPutReferent.F_lim _)
  | (with_reducible exact spec_DrawShiftRole.F_lim _)
  | (with_reducible exact spec_DropReferent.F_lim _ _)
  | (with_reducible exact spec_NearestTo.F_lim _ _)
  | (with_reducible exact spec_PointsAt.F_lim _ _)
  | (with_reducible exact spec_PutReferent.F_lim _ _ _)
  | (with_reducible exact spec_ShiftRole.F_lim _ _)
  | (with_reducible refine Lim.ite ?_ ?_)
  | (with_reducible refine Lim.bind ?_ (fun _ => ?_))
  | (with_reducible exact Lim.const _)
theorem laws_FnLoci.J4_eq (x1 : List Int) (x18 : List (S55)) (x19 : Int) (x22 : ByteArray) (x24 : Int) (x180 : Bool) : laws_FnLoci.J4 x1 x18 x19 x22 x24 x180 = (if x180 = true then (some false) else (laws_FnLoci.L1 x1 x19 x22 x24 x18 (x18.length : Int) 0)) := by
  refine Lim.succ_eq (laws_FnLoci.J4_lim x1 x18 x19 x22 x24 x180).mon ?_
  simp only [laws_FnLoci.j4]
  repeat' first
  | (with_reducible exact laws_FnLoci.J0_lim _ _ _ _ _ _ _)
  | (with_reducible exact laws_FnLoci.J1_lim _)
  | (with_reducible exact laws_FnLoci.J2_lim _ _ _ _ _ _)
  | (with_reducible exact laws_FnLoci.J6_lim _)
  | (with_reducible exact laws_FnLoci.J7_lim _ _ _ _ _ _ _ _ _)
  | (with_reducible exact laws_FnLoci.J8_lim _ _ _ _ _)
  | (with_reducible exact laws_FnLoci.L2_lim _ _ _ _ _ _ _ _)
  | (with_reducible exact laws_FnLoci.L3_lim _ _ _ _ _ _ _)
  | (with_reducible exact laws_FnLoci.L0_lim _ _ _ _ _ _ _ _)
  | (with_reducible exact laws_FnLoci.J4_lim _ _ _ _ _ _)
  | (with_reducible exact laws_FnLoci.L1_lim _ _ _ _ _ _ _)
  | (with_reducible exact impl_AreLoci.F_lim _)
  | (with_reducible exact impl_DropReferent.F_lim _ _)
  | (with_reducible exact impl_NearestTo.F_lim _ _)
  | (with_reducible exact impl_PointsAt.F_lim _ _)
  | (with_reducible exact impl_PutReferent.F_lim _ _ _)
  | (with_reducible exact impl_ShiftRole.F_lim _ _)
  | (with_reducible exact laws_pSameLoci.F_lim _ _)
  | (with_reducible exact spec_DrawPointsAt.F_lim _)
  | (with_reducible exact spec_DrawPutReferent.F_lim _)
  | (with_reducible exact spec_DrawShiftRole.F_lim _)
  | (with_reducible exact spec_DropReferent.F_lim _ _)
  | (with_reducible exact spec_NearestTo.F_lim _ _)
  | (with_reducible exact spec_PointsAt.F_lim _ _)
  | (with_reducible exact spec_PutReferent.F_lim _ _ _)
  | (with_reducible exact spec_ShiftRole.F_lim _ _)
  | (with_reducible refine Lim.ite ?_ ?_)
  | (with_reducible refine Lim.bind ?_ (fun _ => ?_))
  | (with_reducible exact Lim.const _)
theorem laws_FnLoci.L1_eq (x1 : List Int) (x19 : Int) (x22 : ByteArray) (x24 : Int) (x181 : List (S55)) (x182 : Int) (x183 : Int) : laws_FnLoci.L1 x1 x19 x22 x24 x181 x182 x183 = (if x183 < x182 then (if 0 ≤ x183 then (if x183 < (x181.length : Int) then (if ((rd_T55 x181 x183).f0).toList = x22.toList then (laws_FnLoci.L1 x1 x19 x22 x24 x181 x182 (wrap64 (x183 + 1))) else ((laws_pAbs.f (wrap64 (((rd_T55 x181 x183).f1) - x19))).bind fun t534 => (if t534 ≤ x24 then (some false) else (laws_FnLoci.L1 x1 x19 x22 x24 x181 x182 (wrap64 (x183 + 1)))))) else (none)) else (none)) else (laws_FnLoci.J6 x1)) := by
  refine Lim.succ_eq (laws_FnLoci.L1_lim x1 x19 x22 x24 x181 x182 x183).mon ?_
  simp only [laws_FnLoci.l1]
  repeat' first
  | (with_reducible exact laws_FnLoci.J0_lim _ _ _ _ _ _ _)
  | (with_reducible exact laws_FnLoci.J1_lim _)
  | (with_reducible exact laws_FnLoci.J2_lim _ _ _ _ _ _)
  | (with_reducible exact laws_FnLoci.J6_lim _)
  | (with_reducible exact laws_FnLoci.J7_lim _ _ _ _ _ _ _ _ _)
  | (with_reducible exact laws_FnLoci.J8_lim _ _ _ _ _)
  | (with_reducible exact laws_FnLoci.L2_lim _ _ _ _ _ _ _ _)
  | (with_reducible exact laws_FnLoci.L3_lim _ _ _ _ _ _ _)
  | (with_reducible exact laws_FnLoci.L0_lim _ _ _ _ _ _ _ _)
  | (with_reducible exact laws_FnLoci.J4_lim _ _ _ _ _ _)
  | (with_reducible exact laws_FnLoci.L1_lim _ _ _ _ _ _ _)
  | (with_reducible exact impl_AreLoci.F_lim _)
  | (with_reducible exact impl_DropReferent.F_lim _ _)
  | (with_reducible exact impl_NearestTo.F_lim _ _)
  | (with_reducible exact impl_PointsAt.F_lim _ _)
  | (with_reducible exact impl_PutReferent.F_lim _ _ _)
  | (with_reducible exact impl_ShiftRole.F_lim _ _)
  | (with_reducible exact laws_pSameLoci.F_lim _ _)
  | (with_reducible exact spec_DrawPointsAt.F_lim _)
  | (with_reducible exact spec_DrawPutReferent.F_lim _)
  | (with_reducible exact spec_DrawShiftRole.F_lim _)
  | (with_reducible exact spec_DropReferent.F_lim _ _)
  | (with_reducible exact spec_NearestTo.F_lim _ _)
  | (with_reducible exact spec_PointsAt.F_lim _ _)
  | (with_reducible exact spec_PutReferent.F_lim _ _ _)
  | (with_reducible exact spec_ShiftRole.F_lim _ _)
  | (with_reducible refine Lim.ite ?_ ?_)
  | (with_reducible refine Lim.bind ?_ (fun _ => ?_))
  | (with_reducible exact Lim.const _)
theorem laws_FnLoci.F_eq (l0 : List Int) (l1 : List Int) : laws_FnLoci.F l0 l1 = ((laws_big.f l0 l1).bind fun t494 => (if t494 = true then (some true) else ((spec_DrawPutReferent.F l0).bind fun bt495 => ((impl_PutReferent.F bt495.1 bt495.2.1 bt495.2.2).bind fun bt500 => ((spec_PutReferent.F bt495.1 bt495.2.1 bt495.2.2).bind fun bt504 => (if (bt500.2 != bt504.2) = true then (laws_FnLoci.J0 l1 bt495.2.1 bt495.2.2 bt500.1 bt500.2 bt504.1 true) else ((laws_pSameLoci.F bt500.1 bt504.1).bind fun t508 => (laws_FnLoci.J0 l1 bt495.2.1 bt495.2.2 bt500.1 bt500.2 bt504.1 (!t508))))))))) := by
  refine Lim.eq_ ?_
  simp only [laws_FnLoci.f]
  repeat' first
  | (with_reducible exact laws_FnLoci.J0_lim _ _ _ _ _ _ _)
  | (with_reducible exact laws_FnLoci.J1_lim _)
  | (with_reducible exact laws_FnLoci.J2_lim _ _ _ _ _ _)
  | (with_reducible exact laws_FnLoci.J6_lim _)
  | (with_reducible exact laws_FnLoci.J7_lim _ _ _ _ _ _ _ _ _)
  | (with_reducible exact laws_FnLoci.J8_lim _ _ _ _ _)
  | (with_reducible exact laws_FnLoci.L2_lim _ _ _ _ _ _ _ _)
  | (with_reducible exact laws_FnLoci.L3_lim _ _ _ _ _ _ _)
  | (with_reducible exact laws_FnLoci.L0_lim _ _ _ _ _ _ _ _)
  | (with_reducible exact laws_FnLoci.J4_lim _ _ _ _ _ _)
  | (with_reducible exact laws_FnLoci.L1_lim _ _ _ _ _ _ _)
  | (with_reducible exact impl_AreLoci.F_lim _)
  | (with_reducible exact impl_DropReferent.F_lim _ _)
  | (with_reducible exact impl_NearestTo.F_lim _ _)
  | (with_reducible exact impl_PointsAt.F_lim _ _)
  | (with_reducible exact impl_PutReferent.F_lim _ _ _)
  | (with_reducible exact impl_ShiftRole.F_lim _ _)
  | (with_reducible exact laws_pSameLoci.F_lim _ _)
  | (with_reducible exact spec_DrawPointsAt.F_lim _)
  | (with_reducible exact spec_DrawPutReferent.F_lim _)
  | (with_reducible exact spec_DrawShiftRole.F_lim _)
  | (with_reducible exact spec_DropReferent.F_lim _ _)
  | (with_reducible exact spec_NearestTo.F_lim _ _)
  | (with_reducible exact spec_PointsAt.F_lim _ _)
  | (with_reducible exact spec_PutReferent.F_lim _ _ _)
  | (with_reducible exact spec_ShiftRole.F_lim _ _)
  | (with_reducible refine Lim.ite ?_ ?_)
  | (with_reducible refine Lim.bind ?_ (fun _ => ?_))
  | (with_reducible exact Lim.const _)
def laws_FnLoci.Pure : Prop := ∀ (l0 : List Int) (l1 : List Int), l0.length ≤ maxLen → l0.length * 1 ≤ 140737488351232 → (∀ x ∈ l0, (Lit.int .u8 x).wf = true) → l1.length ≤ maxLen → l1.length * 1 ≤ 140737488351232 → (∀ x ∈ l1, (Lit.int .u8 x).wf = true) → ∃ k, laws_FnLoci.f k l0 l1 = some true
end Go.Proofs.Ytbheajjagkdjmaa.PFnLoci
