/- Written by a program of this claim's author, out of the loaded program as Lean prints it: the functions as Lean functions, and that the calls answer so. -/
import Derived.Test.YtmlpogmedglncaaPFnExactAreWordsx0
namespace Go.Proofs.Ytmlpogmedglncaa.PFnExactAreWords
open Go.RowKit Go.Proofs.YtmlpogmedglncaaW.PrintWords Go.Proofs.YtmlpogmedglncaaW.PrintLast Go.Proofs.YtmlpogmedglncaaW.PrintMore
attribute [local go_sem] max2_int min2_int max_two min_two max_three min_three max_four min_four   -- for this text's walks alone
set_option linter.unusedVariables false
set_option linter.unusedSimpArgs false

def laws_szIntS.f (l0 : List Int) (a1 : Int) : Option (Int) := if (wrap64 (a1 - (l0.length : Int))) < 0 then (some (-1)) else (some (wrap64 (a1 - (l0.length : Int))))
def laws_szWord.f (a0_0 : ByteArray) (l0_1 : List Int) (a0_2 : Int) (a1 : Int) : Option (Int) := if (wrap64 (a1 - (a0_0.size : Int))) < 0 then (some (-1)) else ((laws_szIntS.f l0_1 (wrap64 (a1 - (a0_0.size : Int)))).bind fun t102 => (if t102 < 0 then (some (-1)) else (some t102)))
def laws_szWordS.l0 : Nat → List (S95) → Int → Int → Option (Int)
  | 0, _, _, _ => none
  | k + 1, x0, x1, x5 => if x5 < (x0.length : Int) then (if 0 ≤ x5 then ((laws_szWord.f ((rd_T95 x0 x5).f0) ((rd_T95 x0 x5).f1) ((rd_T95 x0 x5).f2) x1).bind fun t104 => (if t104 < 0 then (some (-1)) else (laws_szWordS.l0 k x0 t104 (wrap64 (x5 + 1))))) else (none)) else (some x1)
def laws_szWordS.f (k : Nat) (l0 : List (S95)) (a1 : Int) : Option (Int) := if (wrap64 (a1 - (l0.length : Int))) < 0 then (some (-1)) else (laws_szWordS.l0 k l0 (wrap64 (a1 - (l0.length : Int))) 0)
theorem laws_szWordS.mono_l : ∀ k, (∀ y0 y1 y2, LeO (laws_szWordS.l0 k y0 y1 y2) (laws_szWordS.l0 (k + 1) y0 y1 y2))
  | 0 => fun _ _ _ r h => by simp [laws_szWordS.l0] at h
  | k + 1 => by
    have ih0 := laws_szWordS.mono_l k
    · intro y0 y1 y2
      unfold laws_szWordS.l0
      repeat' first
      | (with_reducible exact ih0 _ _ _)
      | (with_reducible exact LeO.refl _)
      | (with_reducible exact LeO.none _)
      | (with_reducible refine LeO.ite ?_ ?_)
      | (with_reducible refine LeO.bind ?_ (fun _ => ?_))
      | exact ih0 _ _ _
      | exact LeO.none _
      | refine LeO.ite ?_ ?_
      | refine LeO.bind ?_ (fun _ => ?_)
theorem laws_szWordS.mono : ∀ a0 a1 k, LeO (laws_szWordS.f k a0 a1) (laws_szWordS.f (k + 1) a0 a1) := by
  intro a0 a1 k
  have ih0 := laws_szWordS.mono_l k
  unfold laws_szWordS.f
  repeat' first
      | (with_reducible exact ih0 _ _ _)
      | (with_reducible exact LeO.refl _)
      | (with_reducible exact LeO.none _)
      | (with_reducible refine LeO.ite ?_ ?_)
      | (with_reducible refine LeO.bind ?_ (fun _ => ?_))
      | exact ih0 _ _ _
      | exact LeO.none _
      | refine LeO.ite ?_ ?_
      | refine LeO.bind ?_ (fun _ => ?_)
noncomputable def laws_szWordS.L0 (x0 : List (S95)) (x1 : Int) (x5 : Int) : Option (Int) := lim fun k => laws_szWordS.l0 k x0 x1 x5
theorem laws_szWordS.L0_lim (x0 : List (S95)) (x1 : Int) (x5 : Int) : Lim (fun k => laws_szWordS.l0 k x0 x1 x5) (laws_szWordS.L0 x0 x1 x5) := ⟨fun k => (laws_szWordS.mono_l k) x0 x1 x5, rfl⟩
noncomputable def laws_szWordS.F (l0 : List (S95)) (a1 : Int) : Option (Int) := lim fun k => laws_szWordS.f k l0 a1
theorem laws_szWordS.F_lim (l0 : List (S95)) (a1 : Int) : Lim (fun k => laws_szWordS.f k l0 a1) (laws_szWordS.F l0 a1) := ⟨laws_szWordS.mono l0 a1, rfl⟩
theorem laws_szWordS.L0_eq (x0 : List (S95)) (x1 : Int) (x5 : Int) : laws_szWordS.L0 x0 x1 x5 = (if x5 < (x0.length : Int) then (if 0 ≤ x5 then ((laws_szWord.f ((rd_T95 x0 x5).f0) ((rd_T95 x0 x5).f1) ((rd_T95 x0 x5).f2) x1).bind fun t104 => (if t104 < 0 then (some (-1)) else (laws_szWordS.L0 x0 t104 (wrap64 (x5 + 1))))) else (none)) else (some x1)) := by
  refine Lim.succ_eq (laws_szWordS.L0_lim x0 x1 x5).mon ?_
  simp only [laws_szWordS.l0]
  repeat' first
  | (with_reducible exact laws_szWordS.L0_lim _ _ _)
  | (with_reducible refine Lim.ite ?_ ?_)
  | (with_reducible refine Lim.bind ?_ (fun _ => ?_))
  | (with_reducible exact Lim.const _)
theorem laws_szWordS.F_eq (l0 : List (S95)) (a1 : Int) : laws_szWordS.F l0 a1 = (if (wrap64 (a1 - (l0.length : Int))) < 0 then (some (-1)) else (laws_szWordS.L0 l0 (wrap64 (a1 - (l0.length : Int))) 0)) := by
  refine Lim.eq_ ?_
  simp only [laws_szWordS.f]
  repeat' first
  | (with_reducible exact laws_szWordS.L0_lim _ _ _)
  | (with_reducible refine Lim.ite ?_ ?_)
  | (with_reducible refine Lim.bind ?_ (fun _ => ?_))
  | (with_reducible exact Lim.const _)
def spec_l1In.f (a0 : Int) (a1 : Int) (a2 : Int) : Option (Bool) := if a0 ≥ a1 then (some (decide (a0 ≤ a2))) else (some false)
def spec_l1Has.l0 : Nat → Int → List Int → Int → Int → Option (Bool)
  | 0, _, _, _, _ => none
  | k + 1, x1, x7, x8, x9 => if x9 < x8 then (if 0 ≤ x9 then (if x9 < (x7.length : Int) then (if (rd x7 x9) = x1 then (some true) else (spec_l1Has.l0 k x1 x7 x8 (wrap64 (x9 + 1)))) else (none)) else (none)) else (some false)
def spec_l1Has.f (k : Nat) (l0 : List Int) (a1 : Int) : Option (Bool) := spec_l1Has.l0 k a1 l0 (l0.length : Int) 0
theorem spec_l1Has.mono_l : ∀ k, (∀ y0 y1 y2 y3, LeO (spec_l1Has.l0 k y0 y1 y2 y3) (spec_l1Has.l0 (k + 1) y0 y1 y2 y3))
  | 0 => fun _ _ _ _ r h => by simp [spec_l1Has.l0] at h
  | k + 1 => by
    have ih0 := spec_l1Has.mono_l k
    · intro y0 y1 y2 y3
      unfold spec_l1Has.l0
      repeat' first
      | (with_reducible exact ih0 _ _ _ _)
      | (with_reducible exact LeO.refl _)
      | (with_reducible exact LeO.none _)
      | (with_reducible refine LeO.ite ?_ ?_)
      | (with_reducible refine LeO.bind ?_ (fun _ => ?_))
      | exact ih0 _ _ _ _
      | exact LeO.none _
      | refine LeO.ite ?_ ?_
      | refine LeO.bind ?_ (fun _ => ?_)
theorem spec_l1Has.mono : ∀ a0 a1 k, LeO (spec_l1Has.f k a0 a1) (spec_l1Has.f (k + 1) a0 a1) := by
  intro a0 a1 k
  have ih0 := spec_l1Has.mono_l k
  unfold spec_l1Has.f
  repeat' first
      | (with_reducible exact ih0 _ _ _ _)
      | (with_reducible exact LeO.refl _)
      | (with_reducible exact LeO.none _)
      | (with_reducible refine LeO.ite ?_ ?_)
      | (with_reducible refine LeO.bind ?_ (fun _ => ?_))
      | exact ih0 _ _ _ _
      | exact LeO.none _
      | refine LeO.ite ?_ ?_
      | refine LeO.bind ?_ (fun _ => ?_)
noncomputable def spec_l1Has.L0 (x1 : Int) (x7 : List Int) (x8 : Int) (x9 : Int) : Option (Bool) := lim fun k => spec_l1Has.l0 k x1 x7 x8 x9
theorem spec_l1Has.L0_lim (x1 : Int) (x7 : List Int) (x8 : Int) (x9 : Int) : Lim (fun k => spec_l1Has.l0 k x1 x7 x8 x9) (spec_l1Has.L0 x1 x7 x8 x9) := ⟨fun k => (spec_l1Has.mono_l k) x1 x7 x8 x9, rfl⟩
noncomputable def spec_l1Has.F (l0 : List Int) (a1 : Int) : Option (Bool) := lim fun k => spec_l1Has.f k l0 a1
theorem spec_l1Has.F_lim (l0 : List Int) (a1 : Int) : Lim (fun k => spec_l1Has.f k l0 a1) (spec_l1Has.F l0 a1) := ⟨spec_l1Has.mono l0 a1, rfl⟩
theorem spec_l1Has.L0_eq (x1 : Int) (x7 : List Int) (x8 : Int) (x9 : Int) : spec_l1Has.L0 x1 x7 x8 x9 = (if x9 < x8 then (if 0 ≤ x9 then (if x9 < (x7.length : Int) then (if (rd x7 x9) = x1 then (some true) else (spec_l1Has.L0 x1 x7 x8 (wrap64 (x9 + 1)))) else (none)) else (none)) else (some false)) := by
  refine Lim.succ_eq (spec_l1Has.L0_lim x1 x7 x8 x9).mon ?_
  simp only [spec_l1Has.l0]
  repeat' first
  | (with_reducible exact spec_l1Has.L0_lim _ _ _ _)
  | (with_reducible refine Lim.ite ?_ ?_)
  | (with_reducible refine Lim.bind ?_ (fun _ => ?_))
  | (with_reducible exact Lim.const _)
theorem spec_l1Has.F_eq (l0 : List Int) (a1 : Int) : spec_l1Has.F l0 a1 = (spec_l1Has.L0 a1 l0 (l0.length : Int) 0) := by
  refine Lim.eq_ ?_
  simp only [spec_l1Has.f]
  repeat' first
  | (with_reducible exact spec_l1Has.L0_lim _ _ _ _)
  | (with_reducible refine Lim.ite ?_ ?_)
  | (with_reducible refine Lim.bind ?_ (fun _ => ?_))
  | (with_reducible exact Lim.const _)
def spec_enGloss.l0 : Nat → ByteArray → Int → Option (Bool)
  | 0, _, _ => none
  | k + 1, x0, x3 => if x3 < (x0.size : Int) then (if 0 ≤ x3 then (if (bt x0 x3) < 65 then (some false) else (if (bt x0 x3) > 90 then (some false) else (spec_enGloss.l0 k x0 (wrap64 (x3 + 1))))) else (none)) else ((spec_l1In.f (x0.size : Int) 1 8).bind fun t106 => (some t106))
def spec_enGloss.f (k : Nat) (a0 : ByteArray) : Option (Bool) := spec_enGloss.l0 k a0 0
theorem spec_enGloss.mono_l : ∀ k, (∀ y0 y1, LeO (spec_enGloss.l0 k y0 y1) (spec_enGloss.l0 (k + 1) y0 y1))
  | 0 => fun _ _ r h => by simp [spec_enGloss.l0] at h
  | k + 1 => by
    have ih0 := spec_enGloss.mono_l k
    · intro y0 y1
      unfold spec_enGloss.l0
      repeat' first
      | (with_reducible exact ih0 _ _)
      | (with_reducible exact LeO.refl _)
      | (with_reducible exact LeO.none _)
      | (with_reducible refine LeO.ite ?_ ?_)
      | (with_reducible refine LeO.bind ?_ (fun _ => ?_))
      | exact ih0 _ _
      | exact LeO.none _
      | refine LeO.ite ?_ ?_
      | refine LeO.bind ?_ (fun _ => ?_)
theorem spec_enGloss.mono : ∀ a0 k, LeO (spec_enGloss.f k a0) (spec_enGloss.f (k + 1) a0) := by
  intro a0 k
  have ih0 := spec_enGloss.mono_l k
  unfold spec_enGloss.f
  repeat' first
      | (with_reducible exact ih0 _ _)
      | (with_reducible exact LeO.refl _)
      | (with_reducible exact LeO.none _)
      | (with_reducible refine LeO.ite ?_ ?_)
      | (with_reducible refine LeO.bind ?_ (fun _ => ?_))
      | exact ih0 _ _
      | exact LeO.none _
      | refine LeO.ite ?_ ?_
      | refine LeO.bind ?_ (fun _ => ?_)
noncomputable def spec_enGloss.L0 (x0 : ByteArray) (x3 : Int) : Option (Bool) := lim fun k => spec_enGloss.l0 k x0 x3
theorem spec_enGloss.L0_lim (x0 : ByteArray) (x3 : Int) : Lim (fun k => spec_enGloss.l0 k x0 x3) (spec_enGloss.L0 x0 x3) := ⟨fun k => (spec_enGloss.mono_l k) x0 x3, rfl⟩
noncomputable def spec_enGloss.F (a0 : ByteArray) : Option (Bool) := lim fun k => spec_enGloss.f k a0
theorem spec_enGloss.F_lim (a0 : ByteArray) : Lim (fun k => spec_enGloss.f k a0) (spec_enGloss.F a0) := ⟨spec_enGloss.mono a0, rfl⟩
theorem spec_enGloss.L0_eq (x0 : ByteArray) (x3 : Int) : spec_enGloss.L0 x0 x3 = (if x3 < (x0.size : Int) then (if 0 ≤ x3 then (if (bt x0 x3) < 65 then (some false) else (if (bt x0 x3) > 90 then (some false) else (spec_enGloss.L0 x0 (wrap64 (x3 + 1))))) else (none)) else ((spec_l1In.f (x0.size : Int) 1 8).bind fun t106 => (some t106))) := by
  refine Lim.succ_eq (spec_enGloss.L0_lim x0 x3).mon ?_
  simp only [spec_enGloss.l0]
  repeat' first
  | (with_reducible exact spec_enGloss.L0_lim _ _)
  | (with_reducible refine Lim.ite ?_ ?_)
  | (with_reducible refine Lim.bind ?_ (fun _ => ?_))
  | (with_reducible exact Lim.const _)
theorem spec_enGloss.F_eq (a0 : ByteArray) : spec_enGloss.F a0 = (spec_enGloss.L0 a0 0) := by
  refine Lim.eq_ ?_
  simp only [spec_enGloss.f]
  repeat' first
  | (with_reducible exact spec_enGloss.L0_lim _ _)
  | (with_reducible refine Lim.ite ?_ ?_)
  | (with_reducible refine Lim.bind ?_ (fun _ => ?_))
  | (with_reducible exact Lim.const _)
def spec_l1Rising.l0 : Nat → List Int → Int → Int → List Int → Int → Int → Option (Bool)
  | 0, _, _, _, _, _, _ => none
  | k + 1, x0, x1, x2, x9, x10, x11 => if x11 < x10 then (if 0 ≤ x11 then (if x11 < (x9.length : Int) then ((spec_l1In.f (rd x9 x11) x1 x2).bind fun t108 => (if t108 = true then (if x11 > 0 then (if 0 ≤ (wrap64 (x11 - 1)) then (if (wrap64 (x11 - 1)) < (x0.length : Int) then (if (rd x0 (wrap64 (x11 - 1))) ≥ (rd x9 x11) then (some false) else (spec_l1Rising.l0 k x0 x1 x2 x9 x10 (wrap64 (x11 + 1)))) else (none)) else (none)) else (spec_l1Rising.l0 k x0 x1 x2 x9 x10 (wrap64 (x11 + 1)))) else (some false))) else (none)) else (none)) else (some true)
def spec_l1Rising.f (k : Nat) (l0 : List Int) (a1 : Int) (a2 : Int) : Option (Bool) := spec_l1Rising.l0 k l0 a1 a2 l0 (l0.length : Int) 0
theorem spec_l1Rising.mono_l : ∀ k, (∀ y0 y1 y2 y3 y4 y5, LeO (spec_l1Rising.l0 k y0 y1 y2 y3 y4 y5) (spec_l1Rising.l0 (k + 1) y0 y1 y2 y3 y4 y5))
  | 0 => fun _ _ _ _ _ _ r h => by simp [spec_l1Rising.l0] at h
  | k + 1 => by
    have ih0 := spec_l1Rising.mono_l k
    · intro y0 y1 y2 y3 y4 y5
      unfold spec_l1Rising.l0
      repeat' first
      | (with_reducible exact ih0 _ _ _ _ _ _)
      | (with_reducible exact LeO.refl _)
      | (with_reducible exact LeO.none _)
      | (with_reducible refine LeO.ite ?_ ?_)
      | (with_reducible refine LeO.bind ?_ (fun _ => ?_))
      | exact ih0 _ _ _ _ _ _
      | exact LeO.none _
      | refine LeO.ite ?_ ?_
      | refine LeO.bind ?_ (fun _ => ?_)
theorem spec_l1Rising.mono : ∀ a0 a1 a2 k, LeO (spec_l1Rising.f k a0 a1 a2) (spec_l1Rising.f (k + 1) a0 a1 a2) := by
  intro a0 a1 a2 k
  have ih0 := spec_l1Rising.mono_l k
  unfold spec_l1Rising.f
  repeat' first
      | (with_reducible exact ih0 _ _ _ _ _ _)
      | (with_reducible exact LeO.refl _)
      | (with_reducible exact LeO.none _)
      | (with_reducible refine LeO.ite ?_ ?_)
      | (with_reducible refine LeO.bind ?_ (fun _ => ?_))
      | exact ih0 _ _ _ _ _ _
      | exact LeO.none _
      | refine LeO.ite ?_ ?_
      | refine LeO.bind ?_ (fun _ => ?_)
noncomputable def spec_l1Rising.L0 (x0 : List Int) (x1 : Int) (x2 : Int) (x9 : List Int) (x10 : Int) (x11 : Int) : Option (Bool) := lim fun k => spec_l1Rising.l0 k x0 x1 x2 x9 x10 x11
theorem spec_l1Rising.L0_lim (x0 : List Int) (x1 : Int) (x2 : Int) (x9 : List Int) (x10 : Int) (x11 : Int) : Lim (fun k => spec_l1Rising.l0 k x0 x1 x2 x9 x10 x11) (spec_l1Rising.L0 x0 x1 x2 x9 x10 x11) := ⟨fun k => (spec_l1Rising.mono_l k) x0 x1 x2 x9 x10 x11, rfl⟩
noncomputable def spec_l1Rising.F (l0 : List Int) (a1 : Int) (a2 : Int) : Option (Bool) := lim fun k => spec_l1Rising.f k l0 a1 a2
theorem spec_l1Rising.F_lim (l0 : List Int) (a1 : Int) (a2 : Int) : Lim (fun k => spec_l1Rising.f k l0 a1 a2) (spec_l1Rising.F l0 a1 a2) := ⟨spec_l1Rising.mono l0 a1 a2, rfl⟩
theorem spec_l1Rising.L0_eq (x0 : List Int) (x1 : Int) (x2 : Int) (x9 : List Int) (x10 : Int) (x11 : Int) : spec_l1Rising.L0 x0 x1 x2 x9 x10 x11 = (if x11 < x10 then (if 0 ≤ x11 then (if x11 < (x9.length : Int) then ((spec_l1In.f (rd x9 x11) x1 x2).bind fun t108 => (if t108 = true then (if x11 > 0 then (if 0 ≤ (wrap64 (x11 - 1)) then (if (wrap64 (x11 - 1)) < (x0.length : Int) then (if (rd x0 (wrap64 (x11 - 1))) ≥ (rd x9 x11) then (some false) else (spec_l1Rising.L0 x0 x1 x2 x9 x10 (wrap64 (x11 + 1)))) else (none)) else (none)) else (spec_l1Rising.L0 x0 x1 x2 x9 x10 (wrap64 (x11 + 1)))) else (some false))) else (none)) else (none)) else (some true)) := by
  refine Lim.succ_eq (spec_l1Rising.L0_lim x0 x1 x2 x9 x10 x11).mon ?_
  simp only [spec_l1Rising.l0]
  repeat' first
  | (with_reducible exact spec_l1Rising.L0_lim _ _ _ _ _ _)
  | (with_reducible refine Lim.ite ?_ ?_)
  | (with_reducible refine Lim.bind ?_ (fun _ => ?_))
  | (with_reducible exact Lim.const _)
theorem spec_l1Rising.F_eq (l0 : List Int) (a1 : Int) (a2 : Int) : spec_l1Rising.F l0 a1 a2 = (spec_l1Rising.L0 l0 a1 a2 l0 (l0.length : Int) 0) := by
  refine Lim.eq_ ?_
  simp only [spec_l1Rising.f]
  repeat' first
  | (with_reducible exact spec_l1Rising.L0_lim _ _ _ _ _ _)
  | (with_reducible refine Lim.ite ?_ ?_)
  | (with_reducible refine Lim.bind ?_ (fun _ => ?_))
  | (with_reducible exact Lim.const _)
mutual
def spec_leGood.l0 : Nat → List (S96) → List (S96) → Int → Int → Option (Bool)
  | 0, _, _, _, _ => none
  | k + 1, x0, x7, x8, x9 => if x9 < x8 then (if 0 ≤ x9 then (if x9 < (x7.length : Int) then ((spec_enGloss.f k ((rd_T96 x7 x9).f0)).bind fun t112 => (if t112 = true then ((spec_l1Rising.f k ((rd_T96 x7 x9).f1) 0 (wrap64 ((x0.length : Int) - 1))).bind fun t113 => (if t113 = true then ((spec_l1Has.f k ((rd_T96 x7 x9).f1) x9).bind fun t114 => (if t114 = true then (spec_leGood.j1 k x0 x9 x7 x8 x9 true ((rd_T96 x7 x9).f0) ((rd_T96 x7 x9).f1) ((rd_T96 x7 x9).f2)) else ((spec_l1In.f ((rd_T96 x7 x9).f2) 0 99999).bind fun t115 => (spec_leGood.j1 k x0 x9 x7 x8 x9 (!t115) ((rd_T96 x7 x9).f0) ((rd_T96 x7 x9).f1) ((rd_T96 x7 x9).f2))))) else (spec_leGood.j1 k x0 x9 x7 x8 x9 true ((rd_T96 x7 x9).f0) ((rd_T96 x7 x9).f1) ((rd_T96 x7 x9).f2)))) else (spec_leGood.j1 k x0 x9 x7 x8 x9 true ((rd_T96 x7 x9).f0) ((rd_T96 x7 x9).f1) ((rd_T96 x7 x9).f2)))) else (none)) else (none)) else (some (decide ((x0.length : Int) ≤ 16)))
def spec_leGood.j1 : Nat → List (S96) → Int → List (S96) → Int → Int → Bool → ByteArray → List Int → Int → Option (Bool)
  | 0, _, _, _, _, _, _, _, _, _ => none
  | k + 1, x0, x3, x7, x8, x9, x38, x112000, x112001, x112002 => if x38 = true then (some false) else (if 0 ≤ x3 then (if x3 ≤ (x0.length : Int) then ((some (x0.take (x3 : Int).toNat : List (S96))).bind fun y116 => (spec_leGood.l1 k x0 x7 x8 x9 y116 (y116.length : Int) 0 x112000 x112001 x112002)) else (none)) else (none))
def spec_leGood.l1 : Nat → List (S96) → List (S96) → Int → Int → List (S96) → Int → Int → ByteArray → List Int → Int → Option (Bool)
  | 0, _, _, _, _, _, _, _, _, _, _ => none
  | k + 1, x0, x7, x8, x9, x41, x42, x43, x112000, x112001, x112002 => if x43 < x42 then (if 0 ≤ x43 then (if x43 < (x41.length : Int) then (if ((rd_T96 x41 x43).f0).toList = x112000.toList then (some false) else (spec_leGood.l1 k x0 x7 x8 x9 x41 x42 (wrap64 (x43 + 1)) x112000 x112001 x112002)) else (none)) else (none)) else (spec_leGood.l0 k x0 x7 x8 (wrap64 (x9 + 1)))
end
def spec_leGood.f (k : Nat) (l0 : List (S96)) : Option (Bool) := spec_leGood.l0 k l0 l0 (l0.length : Int) 0
theorem spec_leGood.mono_l : ∀ k, (∀ y0 y1 y2 y3, LeO (spec_leGood.l0 k y0 y1 y2 y3) (spec_leGood.l0 (k + 1) y0 y1 y2 y3)) ∧ (∀ y0 y1 y2 y3 y4 y5 y6 y7 y8, LeO (spec_leGood.j1 k y0 y1 y2 y3 y4 y5 y6 y7 y8) (spec_leGood.j1 (k + 1) y0 y1 y2 y3 y4 y5 y6 y7 y8)) ∧ (∀ y0 y1 y2 y3 y4 y5 y6 y7 y8 y9, LeO (spec_leGood.l1 k y0 y1 y2 y3 y4 y5 y6 y7 y8 y9) (spec_leGood.l1 (k + 1) y0 y1 y2 y3 y4 y5 y6 y7 y8 y9))
  | 0 => ⟨fun _ _ _ _ r h => by simp [spec_leGood.l0] at h, fun _ _ _ _ _ _ _ _ _ r h => by simp [spec_leGood.j1] at h, fun _ _ _ _ _ _ _ _ _ _ r h => by simp [spec_leGood.l1] at h⟩
  | k + 1 => by
    obtain ⟨ih0, ih1, ih2⟩ := spec_leGood.mono_l k
    refine ⟨?_, ?_, ?_⟩
    · intro y0 y1 y2 y3
      unfold spec_leGood.l0
      repeat' first
      | (with_reducible exact ih0 _ _ _ _)
      | (with_reducible exact ih1 _ _ _ _ _ _ _ _ _)
      | (with_reducible exact ih2 _ _ _ _ _ _ _ _ _ _)
      | (with_reducible exact spec_enGloss.mono _ _)
      | (with_reducible exact spec_l1Has.mono _ _ _)
      | (with_reducible exact spec_l1Rising.mono _ _ _ _)
      | (with_reducible exact LeO.refl _)
      | (with_reducible exact LeO.none _)
      | (with_reducible refine LeO.ite ?_ ?_)
      | (with_reducible refine LeO.bind ?_ (fun _ => ?_))
      | exact ih0 _ _ _ _
      | exact ih1 _ _ _ _ _ _ _ _ _
      | exact ih2 _ _ _ _ _ _ _ _ _ _
      | exact spec_enGloss.mono _ _
      | exact spec_l1Has.mono _ _ _
      | exact spec_l1Rising.mono _ _ _ _
      | exact LeO.none _
      | refine LeO.ite ?_ ?_
      | refine LeO.bind ?_ (fun _ => ?_)
    · intro y0 y1 y2 y3 y4 y5 y6 y7 y8
      unfold spec_leGood.j1
      repeat' first
      | (with_reducible exact ih0 _ _ _ _)
      | (with_reducible exact ih1 _ _ _ _ _ _ _ _ _)
      | (with_reducible exact ih2 _ _ _ _ _ _ _ _ _ _)
      | (with_reducible exact spec_enGloss.mono _ _)
      | (with_reducible exact spec_l1Has.mono _ _ _)
      | (with_reducible exact spec_l1Rising.mono _ _ _ _)
      | (with_reducible exact LeO.refl _)
      | (with_reducible exact LeO.none _)
      | (with_reducible refine LeO.ite ?_ ?_)
      | (with_reducible refine LeO.bind ?_ (fun _ => ?_))
      | exact ih0 _ _ _ _
      | exact ih1 _ _ _ _ _ _ _ _ _
      | exact ih2 _ _ _ _ _ _ _ _ _ _
      | exact spec_enGloss.mono _ _
      | exact spec_l1Has.mono _ _ _
      | exact spec_l1Rising.mono _ _ _ _
      | exact LeO.none _
      | refine LeO.ite ?_ ?_
      | refine LeO.bind ?_ (fun _ => ?_)
    · intro y0 y1 y2 y3 y4 y5 y6 y7 y8 y9
      unfold spec_leGood.l1
      repeat' first
      | (with_reducible exact ih0 _ _ _ _)
      | (with_reducible exact ih1 _ _ _ _ _ _ _ _ _)
      | (with_reducible exact ih2 _ _ _ _ _ _ _ _ _ _)
      | (with_reducible exact spec_enGloss.mono _ _)
      | (with_reducible exact spec_l1Has.mono _ _ _)
      | (with_reducible exact spec_l1Rising.mono _ _ _ _)
      | (with_reducible exact LeO.refl _)
      | (with_reducible exact LeO.none _)
      | (with_reducible refine LeO.ite ?_ ?_)
      | (with_reducible refine LeO.bind ?_ (fun _ => ?_))
      | exact ih0 _ _ _ _
      | exact ih1 _ _ _ _ _ _ _ _ _
      | exact ih2 _ _ _ _ _ _ _ _ _ _
      | exact spec_enGloss.mono _ _
      | exact spec_l1Has.mono _ _ _
      | exact spec_l1Rising.mono _ _ _ _
      | exact LeO.none _
      | refine LeO.ite ?_ ?_
      | refine LeO.bind ?_ (fun _ => ?_)
theorem spec_leGood.mono : ∀ a0 k, LeO (spec_leGood.f k a0) (spec_leGood.f (k + 1) a0) := by
  intro a0 k
  obtain ⟨ih0, ih1, ih2⟩ := spec_leGood.mono_l k
  unfold spec_leGood.f
  repeat' first
      | (with_reducible exact ih0 _ _ _ _)
      | (with_reducible exact ih1 _ _ _ _ _ _ _ _ _)
      | (with_reducible exact ih2 _ _ _ _ _ _ _ _ _ _)
      | (with_reducible exact spec_enGloss.mono _ _)
      | (with_reducible exact spec_l1Has.mono _ _ _)
      | (with_reducible exact spec_l1Rising.mono _ _ _ _)
      | (with_reducible exact LeO.refl _)
      | (with_reducible exact LeO.none _)
      | (with_reducible refine LeO.ite ?_ ?_)
      | (with_reducible refine LeO.bind ?_ (fun _ => ?_))
      | exact ih0 _ _ _ _
      | exact ih1 _ _ _ _ _ _ _ _ _
      | exact ih2 _ _ _ _ _ _ _ _ _ _
      | exact spec_enGloss.mono _ _
      | exact spec_l1Has.mono _ _ _
      | exact spec_l1Rising.mono _ _ _ _
      | exact LeO.none _
      | refine LeO.ite ?_ ?_
      | refine LeO.bind ?_ (fun _ => ?_)
noncomputable def spec_leGood.L0 (x0 : List (S96)) (x7 : List (S96)) (x8 : Int) (x9 : Int) : Option (Bool) := lim fun k => spec_leGood.l0 k x0 x7 x8 x9
theorem spec_leGood.L0_lim (x0 : List (S96)) (x7 : List (S96)) (x8 : Int) (x9 : Int) : Lim (fun k => spec_leGood.l0 k x0 x7 x8 x9) (spec_leGood.L0 x0 x7 x8 x9) := ⟨fun k => (spec_leGood.mono_l k).1 x0 x7 x8 x9, rfl⟩
noncomputable def spec_leGood.J1 (x0 : List (S96)) (x3 : Int) (x7 : List (S96)) (x8 : Int) (x9 : Int) (x38 : Bool) (x112000 : ByteArray) (x112001 : List Int) (x112002 : Int) : Option (Bool) := lim fun k => spec_leGood.j1 k x0 x3 x7 x8 x9 x38 x112000 x112001 x112002
theorem spec_leGood.J1_lim (x0 : List (S96)) (x3 : Int) (x7 : List (S96)) (x8 : Int) (x9 : Int) (x38 : Bool) (x112000 : ByteArray) (x112001 : List Int) (x112002 : Int) : Lim (fun k => spec_leGood.j1 k x0 x3 x7 x8 x9 x38 x112000 x112001 x112002) (spec_leGood.J1 x0 x3 x7 x8 x9 x38 x112000 x112001 x112002) := ⟨fun k => (spec_leGood.mono_l k).2.1 x0 x3 x7 x8 x9 x38 x112000 x112001 x112002, rfl⟩
noncomputable def spec_leGood.L1 (x0 : List (S96)) (x7 : List (S96)) (x8 : Int) (x9 : Int) (x41 : List (S96)) (x42 : Int) (x43 : Int) (x112000 : ByteArray) (x112001 : List Int) (x112002 : Int) : Option (Bool) := lim fun k => spec_leGood.l1 k x0 x7 x8 x9 x41 x42 x43 x112000 x112001 x112002
theorem spec_leGood.L1_lim (x0 : List (S96)) (x7 : List (S96)) (x8 : Int) (x9 : Int) (x41 : List (S96)) (x42 : Int) (x43 : Int) (x112000 : ByteArray) (x112001 : List Int) (x112002 : Int) : Lim (fun k => spec_leGood.l1 k x0 x7 x8 x9 x41 x42 x43 x112000 x112001 x112002) (spec_leGood.L1 x0 x7 x8 x9 x41 x42 x43 x112000 x112001 x112002) := ⟨fun k => (spec_leGood.mono_l k).2.2 x0 x7 x8 x9 x41 x42 x43 x112000 x112001 x112002, rfl⟩
noncomputable def spec_leGood.F (l0 : List (S96)) : Option (Bool) := lim fun k => spec_leGood.f k l0
theorem spec_leGood.F_lim (l0 : List (S96)) : Lim (fun k => spec_leGood.f k l0) (spec_leGood.F l0) := ⟨spec_leGood.mono l0, rfl⟩
theorem spec_leGood.L0_eq (x0 : List (S96)) (x7 : List (S96)) (x8 : Int) (x9 : Int) : spec_leGood.L0 x0 x7 x8 x9 = (if x9 < x8 then (if 0 ≤ x9 then (if x9 < (x7.length : Int) then ((spec_enGloss.F ((rd_T96 x7 x9).f0)).bind fun t112 => (if t112 = true then ((spec_l1Rising.F ((rd_T96 x7 x9).f1) 0 (wrap64 ((x0.length : Int) - 1))).bind fun t113 => (if t113 = true then ((spec_l1Has.F ((rd_T96 x7 x9).f1) x9).bind fun t114 => (if t114 = true then (spec_leGood.J1 x0 x9 x7 x8 x9 true ((rd_T96 x7 x9).f0) ((rd_T96 x7 x9).f1) ((rd_T96 x7 x9).f2)) else ((spec_l1In.f ((rd_T96 x7 x9).f2) 0 99999).bind fun t115 => (spec_leGood.J1 x0 x9 x7 x8 x9 (!t115) ((rd_T96 x7 x9).f0) ((rd_T96 x7 x9).f1) ((rd_T96 x7 x9).f2))))) else (spec_leGood.J1 x0 x9 x7 x8 x9 true ((rd_T96 x7 x9).f0) ((rd_T96 x7 x9).f1) ((rd_T96 x7 x9).f2)))) else (spec_leGood.J1 x0 x9 x7 x8 x9 true ((rd_T96 x7 x9).f0) ((rd_T96 x7 x9).f1) ((rd_T96 x7 x9).f2)))) else (none)) else (none)) else (some (decide ((x0.length : Int) ≤ 16)))) := by
  refine Lim.succ_eq (spec_leGood.L0_lim x0 x7 x8 x9).mon ?_
  simp only [spec_leGood.l0]
  repeat' first
  | (with_reducible exact spec_leGood.L0_lim _ _ _ _)
  | (with_reducible exact spec_leGood.J1_lim _ _ _ _ _ _ _ _ _)
  | (with_reducible exact spec_leGood.L1_lim _ _ _ _ _ _ _ _ _ _)
  | (with_reducible exact spec_enGloss.F_lim _)
  | (with_reducible exact spec_l1Has.F_lim _ _)
  | (with_reducible exact spec_l1Rising.F_lim _ _ _)
  | (with_reducible refine Lim.ite ?_ ?_)
  | (with_reducible refine Lim.bind ?_ (fun _ => ?_))
  | (with_reducible exact Lim.const _)
theorem spec_leGood.J1_eq (x0 : List (S96)) (x3 : Int) (x7 : List (S96)) (x8 : Int) (x9 : Int) (x38 : Bool) (x112000 : ByteArray) (x112001 : List Int) (x112002 : Int) : spec_leGood.J1 x0 x3 x7 x8 x9 x38 x112000 x112001 x112002 = (if x38 = true then (some false) else (if 0 ≤ x3 then (if x3 ≤ (x0.length : Int) then ((some (x0.take (x3 : Int).toNat : List (S96))).bind fun y116 => (spec_leGood.L1 x0 x7 x8 x9 y116 (y116.length : Int) 0 x112000 x112001 x112002)) else (none)) else (none))) := by
  refine Lim.succ_eq (spec_leGood.J1_lim x0 x3 x7 x8 x9 x38 x112000 x112001 x112002).mon ?_
  simp only [spec_leGood.j1]
  repeat' first
  | (with_reducible exact spec_leGood.L0_lim _ _ _ _)
  | (with_reducible exact spec_leGood.J1_lim _ _ _ _ _ _ _ _ _)
  | (with_reducible exact spec_leGood.L1_lim _ _ _ _ _ _ _ _ _ _)
  | (with_reducible exact spec_enGloss.F_lim _)
  | (with_reducible exact spec_l1Has.F_lim _ _)
  | (with_reducible exact spec_l1Rising.F_lim _ _ _)
  | (with_reducible refine Lim.ite ?_ ?_)
  | (with_reducible refine Lim.bind ?_ (fun _ => ?_))
  | (with_reducible exact Lim.const _)
theorem spec_leGood.L1_eq (x0 : List (S96)) (x7 : List (S96)) (x8 : Int) (x9 : Int) (x41 : List (S96)) (x42 : Int) (x43 : Int) (x112000 : ByteArray) (x112001 : List Int) (x112002 : Int) : spec_leGood.L1 x0 x7 x8 x9 x41 x42 x43 x112000 x112001 x112002 = (if x43 < x42 then (if 0 ≤ x43 then (if x43 < (x41.length : Int) then (if ((rd_T96 x41 x43).f0).toList = x112000.toList then (some false) else (spec_leGood.L1 x0 x7 x8 x9 x41 x42 (wrap64 (x43 + 1)) x112000 x112001 x112002)) else (none)) else (none)) else (spec_leGood.L0 x0 x7 x8 (wrap64 (x9 + 1)))) := by
  refine Lim.succ_eq (spec_leGood.L1_lim x0 x7 x8 x9 x41 x42 x43 x112000 x112001 x112002).mon ?_
  simp only [spec_leGood.l1]
  repeat' first
  | (with_reducible exact spec_leGood.L0_lim _ _ _ _)
  | (with_reducible exact spec_leGood.J1_lim _ _ _ _ _ _ _ _ _)
  | (with_reducible exact spec_leGood.L1_lim _ _ _ _ _ _ _ _ _ _)
  | (with_reducible exact spec_enGloss.F_lim _)
  | (with_reducible exact spec_l1Has.F_lim _ _)
  | (with_reducible exact spec_l1Rising.F_lim _ _ _)
  | (with_reducible refine Lim.ite ?_ ?_)
  | (with_reducible refine Lim.bind ?_ (fun _ => ?_))
  | (with_reducible exact Lim.const _)
theorem spec_leGood.F_eq (l0 : List (S96)) : spec_leGood.F l0 = (spec_leGood.L0 l0 l0 (l0.length : Int) 0) := by
  refine Lim.eq_ ?_
  simp only [spec_leGood.f]
  repeat' first
  | (with_reducible exact spec_leGood.L0_lim _ _ _ _)
  | (with_reducible exact spec_leGood.J1_lim _ _ _ _ _ _ _ _ _)
  | (with_reducible exact spec_leGood.L1_lim _ _ _ _ _ _ _ _ _ _)
  | (with_reducible exact spec_enGloss.F_lim _)
  | (with_reducible exact spec_l1Has.F_lim _ _)
  | (with_reducible exact spec_l1Rising.F_lim _ _ _)
  | (with_reducible refine Lim.ite ?_ ?_)
  | (with_reducible refine Lim.bind ?_ (fun _ => ?_))
  | (with_reducible exact Lim.const _)
def spec_AreWords.f (k : Nat) (l0 : List (S96)) : Option (Bool) := (spec_leGood.f k l0).bind fun t122 => (some t122)
theorem spec_AreWords.mono : ∀ a0 k, LeO (spec_AreWords.f k a0) (spec_AreWords.f (k + 1) a0) := by
  intro a0 k
  unfold spec_AreWords.f
  repeat' first
      | (with_reducible exact spec_leGood.mono _ _)
      | (with_reducible exact LeO.refl _)
      | (with_reducible exact LeO.none _)
      | (with_reducible refine LeO.ite ?_ ?_)
      | (with_reducible refine LeO.bind ?_ (fun _ => ?_))
      | exact spec_leGood.mono _ _
      | exact LeO.none _
      | refine LeO.ite ?_ ?_
      | refine LeO.bind ?_ (fun _ => ?_)
noncomputable def spec_AreWords.F (l0 : List (S96)) : Option (Bool) := lim fun k => spec_AreWords.f k l0
theorem spec_AreWords.F_lim (l0 : List (S96)) : Lim (fun k => spec_AreWords.f k l0) (spec_AreWords.F l0) := ⟨spec_AreWords.mono l0, rfl⟩
theorem spec_AreWords.F_eq (l0 : List (S96)) : spec_AreWords.F l0 = ((spec_leGood.F l0).bind fun t122 => (some t122)) := by
  refine Lim.eq_ ?_
  simp only [spec_AreWords.f]
  repeat' first
  | (with_reducible exact spec_leGood.F_lim _)
  | (with_reducible refine Lim.ite ?_ ?_)
  | (with_reducible refine Lim.bind ?_ (fun _ => ?_))
  | (with_reducible exact Lim.const _)
def laws_toIntS.l0 : Nat → List Int → List Int → Int → Option (List Int)
  | 0, _, _, _ => none
  | k + 1, x0, x3, x4 => if x4 < (x0.length : Int) then (if 0 ≤ x4 then (if x4 < (x3.length : Int) then (laws_toIntS.l0 k x0 (x3.set (x4 : Int).toNat (rd x0 x4)) (wrap64 (x4 + 1))) else (none)) else (none)) else (some x3)
def laws_toIntS.f (k : Nat) (l0 : List Int) : Option (List Int) := if 0 ≤ (l0.length : Int) then (if ((l0.length : Int) : Int).toNat ≤ 35184372088832 then (laws_toIntS.l0 k l0 (List.replicate ((l0.length : Int) : Int).toNat 0) 0) else (none)) else (none)
theorem laws_toIntS.mono_l : ∀ k, (∀ y0 y1 y2, LeO (laws_toIntS.l0 k y0 y1 y2) (laws_toIntS.l0 (k + 1) y0 y1 y2))
  | 0 => fun _ _ _ r h => by simp [laws_toIntS.l0] at h
  | k + 1 => by
    have ih0 := laws_toIntS.mono_l k
    · intro y0 y1 y2
      unfold laws_toIntS.l0
      repeat' first
      | (with_reducible exact ih0 _ _ _)
      | (with_reducible exact LeO.refl _)
      | (with_reducible exact LeO.none _)
      | (with_reducible refine LeO.ite ?_ ?_)
      | (with_reducible refine LeO.bind ?_ (fun _ => ?_))
      | exact ih0 _ _ _
      | exact LeO.none _
      | refine LeO.ite ?_ ?_
      | refine LeO.bind ?_ (fun _ => ?_)
theorem laws_toIntS.mono : ∀ a0 k, LeO (laws_toIntS.f k a0) (laws_toIntS.f (k + 1) a0) := by
  intro a0 k
  have ih0 := laws_toIntS.mono_l k
  unfold laws_toIntS.f
  repeat' first
      | (with_reducible exact ih0 _ _ _)
      | (with_reducible exact LeO.refl _)
      | (with_reducible exact LeO.none _)
      | (with_reducible refine LeO.ite ?_ ?_)
      | (with_reducible refine LeO.bind ?_ (fun _ => ?_))
      | exact ih0 _ _ _
      | exact LeO.none _
      | refine LeO.ite ?_ ?_
      | refine LeO.bind ?_ (fun _ => ?_)
noncomputable def laws_toIntS.L0 (x0 : List Int) (x3 : List Int) (x4 : Int) : Option (List Int) := lim fun k => laws_toIntS.l0 k x0 x3 x4
theorem laws_toIntS.L0_lim (x0 : List Int) (x3 : List Int) (x4 : Int) : Lim (fun k => laws_toIntS.l0 k x0 x3 x4) (laws_toIntS.L0 x0 x3 x4) := ⟨fun k => (laws_toIntS.mono_l k) x0 x3 x4, rfl⟩
noncomputable def laws_toIntS.F (l0 : List Int) : Option (List Int) := lim fun k => laws_toIntS.f k l0
theorem laws_toIntS.F_lim (l0 : List Int) : Lim (fun k => laws_toIntS.f k l0) (laws_toIntS.F l0) := ⟨laws_toIntS.mono l0, rfl⟩
theorem laws_toIntS.L0_eq (x0 : List Int) (x3 : List Int) (x4 : Int) : laws_toIntS.L0 x0 x3 x4 = (if x4 < (x0.length : Int) then (if 0 ≤ x4 then (if x4 < (x3.length : Int) then (laws_toIntS.L0 x0 (x3.set (x4 : Int).toNat (rd x0 x4)) (wrap64 (x4 + 1))) else (none)) else (none)) else (some x3)) := by
  refine Lim.succ_eq (laws_toIntS.L0_lim x0 x3 x4).mon ?_
  simp only [laws_toIntS.l0]
  repeat' first
  | (with_reducible exact laws_toIntS.L0_lim _ _ _)
  | (with_reducible refine Lim.ite ?_ ?_)
  | (with_reducible refine Lim.bind ?_ (fun _ => ?_))
  | (with_reducible exact Lim.const _)
theorem laws_toIntS.F_eq (l0 : List Int) : laws_toIntS.F l0 = (if 0 ≤ (l0.length : Int) then (if ((l0.length : Int) : Int).toNat ≤ 35184372088832 then (laws_toIntS.L0 l0 (List.replicate ((l0.length : Int) : Int).toNat 0) 0) else (none)) else (none)) := by
  refine Lim.eq_ ?_
  simp only [laws_toIntS.f]
  repeat' first
  | (with_reducible exact laws_toIntS.L0_lim _ _ _)
  | (with_reducible refine Lim.ite ?_ ?_)
  | (with_reducible refine Lim.bind ?_ (fun _ => ?_))
  | (with_reducible exact Lim.const _)
def laws_toWord.f (k : Nat) (a0_0 : ByteArray) (l0_1 : List Int) (a0_2 : Int) : Option (ByteArray × List Int × Int) := (laws_toIntS.f k l0_1).bind fun t131 => (some (a0_0, t131, a0_2))
theorem laws_toWord.mono : ∀ a0 a1 a2 k, LeO (laws_toWord.f k a0 a1 a2) (laws_toWord.f (k + 1) a0 a1 a2) := by
  intro a0 a1 a2 k
  unfold laws_toWord.f
  repeat' first
      | (with_reducible exact laws_toIntS.mono _ _)
      | (with_reducible exact LeO.refl _)
      | (with_reducible exact LeO.none _)
      | (with_reducible refine LeO.ite ?_ ?_)
      | (with_reducible refine LeO.bind ?_ (fun _ => ?_))
      | exact laws_toIntS.mono _ _
      | exact LeO.none _
      | refine LeO.ite ?_ ?_
      | refine LeO.bind ?_ (fun _ => ?_)
noncomputable def laws_toWord.F (a0_0 : ByteArray) (l0_1 : List Int) (a0_2 : Int) : Option (ByteArray × List Int × Int) := lim fun k => laws_toWord.f k a0_0 l0_1 a0_2
theorem laws_toWord.F_lim (a0_0 : ByteArray) (l0_1 : List Int) (a0_2 : Int) : Lim (fun k => laws_toWord.f k a0_0 l0_1 a0_2) (laws_toWord.F a0_0 l0_1 a0_2) := ⟨laws_toWord.mono a0_0 l0_1 a0_2, rfl⟩
theorem laws_toWord.F_eq (a0_0 : ByteArray) (l0_1 : List Int) (a0_2 : Int) : laws_toWord.F a0_0 l0_1 a0_2 = ((laws_toIntS.F l0_1).bind fun t131 => (some (a0_0, t131, a0_2))) := by
  refine Lim.eq_ ?_
  simp only [laws_toWord.f]
  repeat' first
  | (with_reducible exact laws_toIntS.F_lim _)
  | (with_reducible refine Lim.ite ?_ ?_)
  | (with_reducible refine Lim.bind ?_ (fun _ => ?_))
  | (with_reducible exact Lim.const _)
def laws_toWordS.l0 : Nat → List (S95) → List (S96) → Int → Option ((List (S96)))
  | 0, _, _, _ => none
  | k + 1, x0, x3, x4 => if x4 < (x0.length : Int) then (if 0 ≤ x4 then ((laws_toWord.f k ((rd_T95 x0 x4).f0) ((rd_T95 x0 x4).f1) ((rd_T95 x0 x4).f2)).bind fun bt138 => (if x4 < (x3.length : Int) then (laws_toWordS.l0 k x0 (x3.set (x4 : Int).toNat (⟨bt138.1, bt138.2.1, bt138.2.2⟩ : S96)) (wrap64 (x4 + 1))) else (none))) else (none)) else (some x3)
def laws_toWordS.f (k : Nat) (l0 : List (S95)) : Option ((List (S96))) := if 0 ≤ (l0.length : Int) then (if ((l0.length : Int) : Int).toNat ≤ 5864062014805 then (laws_toWordS.l0 k l0 (List.replicate ((l0.length : Int) : Int).toNat z96) 0) else (none)) else (none)
theorem laws_toWordS.mono_l : ∀ k, (∀ y0 y1 y2, LeO (laws_toWordS.l0 k y0 y1 y2) (laws_toWordS.l0 (k + 1) y0 y1 y2))
  | 0 => fun _ _ _ r h => by simp [laws_toWordS.l0] at h
  | k + 1 => by
    have ih0 := laws_toWordS.mono_l k
    · intro y0 y1 y2
      unfold laws_toWordS.l0
      repeat' first
      | (with_reducible exact ih0 _ _ _)
      | (with_reducible exact laws_toWord.mono _ _ _ _)
      | (with_reducible exact LeO.refl _)
      | (with_reducible exact LeO.none _)
      | (with_reducible refine LeO.ite ?_ ?_)
      | (with_reducible refine LeO.bind ?_ (fun _ => ?_))
      | exact ih0 _ _ _
      | exact laws_toWord.mono _ _ _ _
      | exact LeO.none _
      | refine LeO.ite ?_ ?_
      | refine LeO.bind ?_ (fun _ => ?_)
theorem laws_toWordS.mono : ∀ a0 k, LeO (laws_toWordS.f k a0) (laws_toWordS.f (k + 1) a0) := by
  intro a0 k
  have ih0 := laws_toWordS.mono_l k
  unfold laws_toWordS.f
  repeat' first
      | (with_reducible exact ih0 _ _ _)
      | (with_reducible exact laws_toWord.mono _ _ _ _)
      | (with_reducible exact LeO.refl _)
      | (with_reducible exact LeO.none _)
      | (with_reducible refine LeO.ite ?_ ?_)
      | (with_reducible refine LeO.bind ?_ (fun _ => ?_))
      | exact ih0 _ _ _
      | exact laws_toWord.mono _ _ _ _
      | exact LeO.none _
      | refine LeO.ite ?_ ?_
      | refine LeO.bind ?_ (fun _ => ?_)
noncomputable def laws_toWordS.L0 (x0 : List (S95)) (x3 : List (S96)) (x4 : Int) : Option ((List (S96))) := lim fun k => laws_toWordS.l0 k x0 x3 x4
theorem laws_toWordS.L0_lim (x0 : List (S95)) (x3 : List (S96)) (x4 : Int) : Lim (fun k => laws_toWordS.l0 k x0 x3 x4) (laws_toWordS.L0 x0 x3 x4) := ⟨fun k => (laws_toWordS.mono_l k) x0 x3 x4, rfl⟩
noncomputable def laws_toWordS.F (l0 : List (S95)) : Option ((List (S96))) := lim fun k => laws_toWordS.f k l0
theorem laws_toWordS.F_lim (l0 : List (S95)) : Lim (fun k => laws_toWordS.f k l0) (laws_toWordS.F l0) := ⟨laws_toWordS.mono l0, rfl⟩
theorem laws_toWordS.L0_eq (x0 : List (S95)) (x3 : List (S96)) (x4 : Int) : laws_toWordS.L0 x0 x3 x4 = (if x4 < (x0.length : Int) then (if 0 ≤ x4 then ((laws_toWord.F ((rd_T95 x0 x4).f0) ((rd_T95 x0 x4).f1) ((rd_T95 x0 x4).f2)).bind fun bt138 => (if x4 < (x3.length : Int) then (laws_toWordS.L0 x0 (x3.set (x4 : Int).toNat (⟨bt138.1, bt138.2.1, bt138.2.2⟩ : S96)) (wrap64 (x4 + 1))) else (none))) else (none)) else (some x3)) := by
  refine Lim.succ_eq (laws_toWordS.L0_lim x0 x3 x4).mon ?_
  simp only [laws_toWordS.l0]
  repeat' first
  | (with_reducible exact laws_toWordS.L0_lim _ _ _)
  | (with_reducible exact laws_toWord.F_lim _ _ _)
  | (with_reducible refine Lim.ite ?_ ?_)
  | (with_reducible refine Lim.bind ?_ (fun _ => ?_))
  | (with_reducible exact Lim.const _)
theorem laws_toWordS.F_eq (l0 : List (S95)) : laws_toWordS.F l0 = (if 0 ≤ (l0.length : Int) then (if ((l0.length : Int) : Int).toNat ≤ 5864062014805 then (laws_toWordS.L0 l0 (List.replicate ((l0.length : Int) : Int).toNat z96) 0) else (none)) else (none)) := by
  refine Lim.eq_ ?_
  simp only [laws_toWordS.f]
  repeat' first
  | (with_reducible exact laws_toWordS.L0_lim _ _ _)
  | (with_reducible exact laws_toWord.F_lim _ _ _)
  | (with_reducible refine Lim.ite ?_ ?_)
  | (with_reducible refine Lim.bind ?_ (fun _ => ?_))
  | (with_reducible exact Lim.const _)
def impl_within.f (a0 : Int) (a1 : Int) (a2 : Int) : Option (Bool) := if a0 ≥ a1 then (some (decide (a0 ≤ a2))) else (some false)
def stringslite_IndexByte.f (a0 : ByteArray) (a1 : Int) : Option (Int) := some (Lib.indexByte a0.data.toList a1.toNat.toUInt8)
def strings_IndexByte.f (a0 : ByteArray) (a1 : Int) : Option (Int) := (stringslite_IndexByte.f a0 a1).bind fun t144 => (some t144)
def impl_hasOnly.l0 : Nat → ByteArray → ByteArray → Int → Int → Option (Bool)
  | 0, _, _, _, _ => none
  | k + 1, x0, x1, x7, x8 => if x8 < x7 then (if 0 ≤ x8 then (if x8 < (x0.size : Int) then ((strings_IndexByte.f x1 (bt x0 x8)).bind fun t145 => (if t145 < 0 then (some false) else (impl_hasOnly.l0 k x0 x1 x7 (wrap64 (x8 + 1))))) else (none)) else (none)) else (some true)
def impl_hasOnly.f (k : Nat) (a0 : ByteArray) (a1 : ByteArray) : Option (Bool) := impl_hasOnly.l0 k a0 a1 (a0.size : Int) 0
theorem impl_hasOnly.mono_l : ∀ k, (∀ y0 y1 y2 y3, LeO (impl_hasOnly.l0 k y0 y1 y2 y3) (impl_hasOnly.l0 (k + 1) y0 y1 y2 y3))
  | 0 => fun _ _ _ _ r h => by simp [impl_hasOnly.l0] at h
  | k + 1 => by
    have ih0 := impl_hasOnly.mono_l k
    · intro y0 y1 y2 y3
      unfold impl_hasOnly.l0
      repeat' first
      | (with_reducible exact ih0 _ _ _ _)
      | (with_reducible exact LeO.refl _)
      | (with_reducible exact LeO.none _)
      | (with_reducible refine LeO.ite ?_ ?_)
      | (with_reducible refine LeO.bind ?_ (fun _ => ?_))
      | exact ih0 _ _ _ _
      | exact LeO.none _
      | refine LeO.ite ?_ ?_
      | refine LeO.bind ?_ (fun _ => ?_)
theorem impl_hasOnly.mono : ∀ a0 a1 k, LeO (impl_hasOnly.f k a0 a1) (impl_hasOnly.f (k + 1) a0 a1) := by
  intro a0 a1 k
  have ih0 := impl_hasOnly.mono_l k
  unfold impl_hasOnly.f
  repeat' first
      | (with_reducible exact ih0 _ _ _ _)
      | (with_reducible exact LeO.refl _)
      | (with_reducible exact LeO.none _)
      | (with_reducible refine LeO.ite ?_ ?_)
      | (with_reducible refine LeO.bind ?_ (fun _ => ?_))
      | exact ih0 _ _ _ _
      | exact LeO.none _
      | refine LeO.ite ?_ ?_
      | refine LeO.bind ?_ (fun _ => ?_)
noncomputable def impl_hasOnly.L0 (x0 : ByteArray) (x1 : ByteArray) (x7 : Int) (x8 : Int) : Option (Bool) := lim fun k => impl_hasOnly.l0 k x0 x1 x7 x8
theorem impl_hasOnly.L0_lim (x0 : ByteArray) (x1 : ByteArray) (x7 : Int) (x8 : Int) : Lim (fun k => impl_hasOnly.l0 k x0 x1 x7 x8) (impl_hasOnly.L0 x0 x1 x7 x8) := ⟨fun k => (impl_hasOnly.mono_l k) x0 x1 x7 x8, rfl⟩
noncomputable def impl_hasOnly.F (a0 : ByteArray) (a1 : ByteArray) : Option (Bool) := lim fun k => impl_hasOnly.f k a0 a1
theorem impl_hasOnly.F_lim (a0 : ByteArray) (a1 : ByteArray) : Lim (fun k => impl_hasOnly.f k a0 a1) (impl_hasOnly.F a0 a1) := ⟨impl_hasOnly.mono a0 a1, rfl⟩
theorem impl_hasOnly.L0_eq (x0 : ByteArray) (x1 : ByteArray) (x7 : Int) (x8 : Int) : impl_hasOnly.L0 x0 x1 x7 x8 = (if x8 < x7 then (if 0 ≤ x8 then (if x8 < (x0.size : Int) then ((strings_IndexByte.f x1 (bt x0 x8)).bind fun t145 => (if t145 < 0 then (some false) else (impl_hasOnly.L0 x0 x1 x7 (wrap64 (x8 + 1))))) else (none)) else (none)) else (some true)) := by
  refine Lim.succ_eq (impl_hasOnly.L0_lim x0 x1 x7 x8).mon ?_
  simp only [impl_hasOnly.l0]
  repeat' first
  | (with_reducible exact impl_hasOnly.L0_lim _ _ _ _)
  | (with_reducible refine Lim.ite ?_ ?_)
  | (with_reducible refine Lim.bind ?_ (fun _ => ?_))
  | (with_reducible exact Lim.const _)
theorem impl_hasOnly.F_eq (a0 : ByteArray) (a1 : ByteArray) : impl_hasOnly.F a0 a1 = (impl_hasOnly.L0 a0 a1 (a0.size : Int) 0) := by
  refine Lim.eq_ ?_
  simp only [impl_hasOnly.f]
  repeat' first
  | (with_reducible exact impl_hasOnly.L0_lim _ _ _ _)
  | (with_reducible refine Lim.ite ?_ ?_)
  | (with_reducible refine Lim.bind ?_ (fun _ => ?_))
  | (with_reducible exact Lim.const _)
def impl_isWordOf.f (k : Nat) (a0 : ByteArray) (a1 : ByteArray) : Option (Bool) := (impl_within.f (a0.size : Int) 1 8).bind fun t146 => (if t146 = true then ((impl_hasOnly.f k a0 a1).bind fun t147 => (some t147)) else (some false))
theorem impl_isWordOf.mono : ∀ a0 a1 k, LeO (impl_isWordOf.f k a0 a1) (impl_isWordOf.f (k + 1) a0 a1) := by
  intro a0 a1 k
  unfold impl_isWordOf.f
  repeat' first
      | (with_reducible exact impl_hasOnly.mono _ _ _)
      | (with_reducible exact LeO.refl _)
      | (with_reducible exact LeO.none _)
      | (with_reducible refine LeO.ite ?_ ?_)
      | (with_reducible refine LeO.bind ?_ (fun _ => ?_))
      | exact impl_hasOnly.mono _ _ _
      | exact LeO.none _
      | refine LeO.ite ?_ ?_
      | refine LeO.bind ?_ (fun _ => ?_)
noncomputable def impl_isWordOf.F (a0 : ByteArray) (a1 : ByteArray) : Option (Bool) := lim fun k => impl_isWordOf.f k a0 a1
theorem impl_isWordOf.F_lim (a0 : ByteArray) (a1 : ByteArray) : Lim (fun k => impl_isWordOf.f k a0 a1) (impl_isWordOf.F a0 a1) := ⟨impl_isWordOf.mono a0 a1, rfl⟩
theorem impl_isWordOf.F_eq (a0 : ByteArray) (a1 : ByteArray) : impl_isWordOf.F a0 a1 = ((impl_within.f (a0.size : Int) 1 8).bind fun t146 => (if t146 = true then ((impl_hasOnly.F a0 a1).bind fun t147 => (some t147)) else (some false))) := by
  refine Lim.eq_ ?_
  simp only [impl_isWordOf.f]
  repeat' first
  | (with_reducible exact impl_hasOnly.F_lim _ _)
  | (with_reducible refine Lim.ite ?_ ?_)
  | (with_reducible refine Lim.bind ?_ (fun _ => ?_))
  | (with_reducible exact Lim.const _)
def impl_IsGloss.f (k : Nat) (a0 : ByteArray) : Option (Bool) := (impl_isWordOf.f k a0 (⟨#[65, 66, 67, 68, 69, 70, 71, 72, 73, 74, 75, 76, 77, 78, 79, 80, 81, 82, 83, 84, 85, 86, 87, 88, 89, 90]⟩ : ByteArray)).bind fun t148 => (some t148)
theorem impl_IsGloss.mono : ∀ a0 k, LeO (impl_IsGloss.f k a0) (impl_IsGloss.f (k + 1) a0) := by
  intro a0 k
  unfold impl_IsGloss.f
  repeat' first
      | (with_reducible exact impl_isWordOf.mono _ _ _)
      | (with_reducible exact LeO.refl _)
      | (with_reducible exact LeO.none _)
      | (with_reducible refine LeO.ite ?_ ?_)
      | (with_reducible refine LeO.bind ?_ (fun _ => ?_))
      | exact impl_isWordOf.mono _ _ _
      | exact LeO.none _
      | refine LeO.ite ?_ ?_
      | refine LeO.bind ?_ (fun _ => ?_)
noncomputable def impl_IsGloss.F (a0 : ByteArray) : Option (Bool) := lim fun k => impl_IsGloss.f k a0
theorem impl_IsGloss.F_lim (a0 : ByteArray) : Lim (fun k => impl_IsGloss.f k a0) (impl_IsGloss.F a0) := ⟨impl_IsGloss.mono a0, rfl⟩
theorem impl_IsGloss.F_eq (a0 : ByteArray) : impl_IsGloss.F a0 = ((impl_isWordOf.F a0 (⟨#[65, 66, 67, 68, 69, 70, 71, 72, 73, 74, 75, 76, 77, 78, 79, 80, 81, 82, 83, 84, 85, 86, 87, 88, 89, 90]⟩ : ByteArray)).bind fun t148 => (some t148)) := by
  refine Lim.eq_ ?_
  simp only [impl_IsGloss.f]
  repeat' first
  | (with_reducible exact impl_isWordOf.F_lim _ _)
  | (with_reducible refine Lim.ite ?_ ?_)
  | (with_reducible refine Lim.bind ?_ (fun _ => ?_))
  | (with_reducible exact Lim.const _)
def impl_allWithin_1.f (a0 : Int) (a1_0 : Int) (a2_0 : Int) : Option (Bool) := (impl_within.f a0 a1_0 a2_0).bind fun t149 => (some (!t149))
def slices_IndexFunc_int_impl_allWithin_1.l0 : Nat → List Int → Int → Int → Int → Int → Option (Int)
  | 0, _, _, _, _, _ => none
  | k + 1, x0, x7, x8, x39000, x40000 => if x8 < x7 then (if 0 ≤ x8 then (if x8 < (x0.length : Int) then ((impl_allWithin_1.f (rd x0 x8) x39000 x40000).bind fun t151 => (if t151 = true then (some x8) else (slices_IndexFunc_int_impl_allWithin_1.l0 k x0 x7 (wrap64 (x8 + 1)) x39000 x40000))) else (none)) else (none)) else (some (-1))
def slices_IndexFunc_int_impl_allWithin_1.f (k : Nat) (l0 : List Int) (a1_0 : Int) (a1_1 : Int) : Option (Int) := slices_IndexFunc_int_impl_allWithin_1.l0 k l0 (l0.length : Int) 0 a1_0 a1_1
theorem slices_IndexFunc_int_impl_allWithin_1.mono_l : ∀ k, (∀ y0 y1 y2 y3 y4, LeO (slices_IndexFunc_int_impl_allWithin_1.l0 k y0 y1 y2 y3 y4) (slices_IndexFunc_int_impl_allWithin_1.l0 (k + 1) y0 y1 y2 y3 y4))
  | 0 => fun _ _ _ _ _ r h => by simp [slices_IndexFunc_int_impl_allWithin_1.l0] at h
  | k + 1 => by
    have ih0 := slices_IndexFunc_int_impl_allWithin_1.mono_l k
    · intro y0 y1 y2 y3 y4
      unfold slices_IndexFunc_int_impl_allWithin_1.l0
      repeat' first
      | (with_reducible exact ih0 _ _ _ _ _)
      | (with_reducible exact LeO.refl _)
      | (with_reducible exact LeO.none _)
      | (with_reducible refine LeO.ite ?_ ?_)
      | (with_reducible refine LeO.bind ?_ (fun _ => ?_))
      | exact ih0 _ _ _ _ _
      | exact LeO.none _
      | refine LeO.ite ?_ ?_
      | refine LeO.bind ?_ (fun _ => ?_)
theorem slices_IndexFunc_int_impl_allWithin_1.mono : ∀ a0 a1 a2 k, LeO (slices_IndexFunc_int_impl_allWithin_1.f k a0 a1 a2) (slices_IndexFunc_int_impl_allWithin_1.f (k + 1) a0 a1 a2) := by
  intro a0 a1 a2 k
  have ih0 := slices_IndexFunc_int_impl_allWithin_1.mono_l k
  unfold slices_IndexFunc_int_impl_allWithin_1.f
  repeat' first
      | (with_reducible exact ih0 _ _ _ _ _)
      | (with_reducible exact LeO.refl _)
      | (with_reducible exact LeO.none _)
      | (with_reducible refine LeO.ite ?_ ?_)
      | (with_reducible refine LeO.bind ?_ (fun _ => ?_))
      | exact ih0 _ _ _ _ _
      | exact LeO.none _
      | refine LeO.ite ?_ ?_
      | refine LeO.bind ?_ (fun _ => ?_)
noncomputable def slices_IndexFunc_int_impl_allWithin_1.L0 (x0 : List Int) (x7 : Int) (x8 : Int) (x39000 : Int) (x40000 : Int) : Option (Int) := lim fun k => slices_IndexFunc_int_impl_allWithin_1.l0 k x0 x7 x8 x39000 x40000
theorem slices_IndexFunc_int_impl_allWithin_1.L0_lim (x0 : List Int) (x7 : Int) (x8 : Int) (x39000 : Int) (x40000 : Int) : Lim (fun k => slices_IndexFunc_int_impl_allWithin_1.l0 k x0 x7 x8 x39000 x40000) (slices_IndexFunc_int_impl_allWithin_1.L0 x0 x7 x8 x39000 x40000) := ⟨fun k => (slices_IndexFunc_int_impl_allWithin_1.mono_l k) x0 x7 x8 x39000 x40000, rfl⟩
noncomputable def slices_IndexFunc_int_impl_allWithin_1.F (l0 : List Int) (a1_0 : Int) (a1_1 : Int) : Option (Int) := lim fun k => slices_IndexFunc_int_impl_allWithin_1.f k l0 a1_0 a1_1
theorem slices_IndexFunc_int_impl_allWithin_1.F_lim (l0 : List Int) (a1_0 : Int) (a1_1 : Int) : Lim (fun k => slices_IndexFunc_int_impl_allWithin_1.f k l0 a1_0 a1_1) (slices_IndexFunc_int_impl_allWithin_1.F l0 a1_0 a1_1) := ⟨slices_IndexFunc_int_impl_allWithin_1.mono l0 a1_0 a1_1, rfl⟩
theorem slices_IndexFunc_int_impl_allWithin_1.L0_eq (x0 : List Int) (x7 : Int) (x8 : Int) (x39000 : Int) (x40000 : Int) : slices_IndexFunc_int_impl_allWithin_1.L0 x0 x7 x8 x39000 x40000 = (if x8 < x7 then (if 0 ≤ x8 then (if x8 < (x0.length : Int) then ((impl_allWithin_1.f (rd x0 x8) x39000 x40000).bind fun t151 => (if t151 = true then (some x8) else (slices_IndexFunc_int_impl_allWithin_1.L0 x0 x7 (wrap64 (x8 + 1)) x39000 x40000))) else (none)) else (none)) else (some (-1))) := by
  refine Lim.succ_eq (slices_IndexFunc_int_impl_allWithin_1.L0_lim x0 x7 x8 x39000 x40000).mon ?_
  simp only [slices_IndexFunc_int_impl_allWithin_1.l0]
  repeat' first
  | (with_reducible exact slices_IndexFunc_int_impl_allWithin_1.L0_lim _ _ _ _ _)
  | (with_reducible refine Lim.ite ?_ ?_)
  | (with_reducible refine Lim.bind ?_ (fun _ => ?_))
  | (with_reducible exact Lim.const _)
theorem slices_IndexFunc_int_impl_allWithin_1.F_eq (l0 : List Int) (a1_0 : Int) (a1_1 : Int) : slices_IndexFunc_int_impl_allWithin_1.F l0 a1_0 a1_1 = (slices_IndexFunc_int_impl_allWithin_1.L0 l0 (l0.length : Int) 0 a1_0 a1_1) := by
  refine Lim.eq_ ?_
  simp only [slices_IndexFunc_int_impl_allWithin_1.f]
  repeat' first
  | (with_reducible exact slices_IndexFunc_int_impl_allWithin_1.L0_lim _ _ _ _ _)
  | (with_reducible refine Lim.ite ?_ ?_)
  | (with_reducible refine Lim.bind ?_ (fun _ => ?_))
  | (with_reducible exact Lim.const _)
def slices_ContainsFunc_int_impl_allWithin_1.f (k : Nat) (l0 : List Int) (a1_0 : Int) (a1_1 : Int) : Option (Bool) := (slices_IndexFunc_int_impl_allWithin_1.f k l0 a1_0 a1_1).bind fun t152 => (some (decide (t152 ≥ 0)))
theorem slices_ContainsFunc_int_impl_allWithin_1.mono : ∀ a0 a1 a2 k, LeO (slices_ContainsFunc_int_impl_allWithin_1.f k a0 a1 a2) (slices_ContainsFunc_int_impl_allWithin_1.f (k + 1) a0 a1 a2) := by
  intro a0 a1 a2 k
  unfold slices_ContainsFunc_int_impl_allWithin_1.f
  repeat' first
      | (with_reducible exact slices_IndexFunc_int_impl_allWithin_1.mono _ _ _ _)
      | (with_reducible exact LeO.refl _)
      | (with_reducible exact LeO.none _)
      | (with_reducible refine LeO.ite ?_ ?_)
      | (with_reducible refine LeO.bind ?_ (fun _ => ?_))
      | exact slices_IndexFunc_int_impl_allWithin_1.mono _ _ _ _
      | exact LeO.none _
      | refine LeO.ite ?_ ?_
      | refine LeO.bind ?_ (fun _ => ?_)
noncomputable def slices_ContainsFunc_int_impl_allWithin_1.F (l0 : List Int) (a1_0 : Int) (a1_1 : Int) : Option (Bool) := lim fun k => slices_ContainsFunc_int_impl_allWithin_1.f k l0 a1_0 a1_1
theorem slices_ContainsFunc_int_impl_allWithin_1.F_lim (l0 : List Int) (a1_0 : Int) (a1_1 : Int) : Lim (fun k => slices_ContainsFunc_int_impl_allWithin_1.f k l0 a1_0 a1_1) (slices_ContainsFunc_int_impl_allWithin_1.F l0 a1_0 a1_1) := ⟨slices_ContainsFunc_int_impl_allWithin_1.mono l0 a1_0 a1_1, rfl⟩
theorem slices_ContainsFunc_int_impl_allWithin_1.F_eq (l0 : List Int) (a1_0 : Int) (a1_1 : Int) : slices_ContainsFunc_int_impl_allWithin_1.F l0 a1_0 a1_1 = ((slices_IndexFunc_int_impl_allWithin_1.F l0 a1_0 a1_1).bind fun t152 => (some (decide (t152 ≥ 0)))) := by
  refine Lim.eq_ ?_
  simp only [slices_ContainsFunc_int_impl_allWithin_1.f]
  repeat' first
  | (with_reducible exact slices_IndexFunc_int_impl_allWithin_1.F_lim _ _ _)
  | (with_reducible refine Lim.ite ?_ ?_)
  | (with_reducible refine Lim.bind ?_ (fun _ => ?_))
  | (with_reducible exact Lim.const _)
def impl_allWithin.f (k : Nat) (l0 : List Int) (a1 : Int) (a2 : Int) : Option (Bool) := (slices_ContainsFunc_int_impl_allWithin_1.f k l0 a1 a2).bind fun t155 => (some (!t155))
theorem impl_allWithin.mono : ∀ a0 a1 a2 k, LeO (impl_allWithin.f k a0 a1 a2) (impl_allWithin.f (k + 1) a0 a1 a2) := by
  intro a0 a1 a2 k
  unfold impl_allWithin.f
  repeat' first
      | (with_reducible exact slices_ContainsFunc_int_impl_allWithin_1.mono _ _ _ _)
      | (with_reducible exact LeO.refl _)
      | (with_reducible exact LeO.none _)
      | (with_reducible refine LeO.ite ?_ ?_)
      | (with_reducible refine LeO.bind ?_ (fun _ => ?_))
      | exact slices_ContainsFunc_int_impl_allWithin_1.mono _ _ _ _
      | exact LeO.none _
      | refine LeO.ite ?_ ?_
      | refine LeO.bind ?_ (fun _ => ?_)
noncomputable def impl_allWithin.F (l0 : List Int) (a1 : Int) (a2 : Int) : Option (Bool) := lim fun k => impl_allWithin.f k l0 a1 a2
theorem impl_allWithin.F_lim (l0 : List Int) (a1 : Int) (a2 : Int) : Lim (fun k => impl_allWithin.f k l0 a1 a2) (impl_allWithin.F l0 a1 a2) := ⟨impl_allWithin.mono l0 a1 a2, rfl⟩
theorem impl_allWithin.F_eq (l0 : List Int) (a1 : Int) (a2 : Int) : impl_allWithin.F l0 a1 a2 = ((slices_ContainsFunc_int_impl_allWithin_1.F l0 a1 a2).bind fun t155 => (some (!t155))) := by
  refine Lim.eq_ ?_
  simp only [impl_allWithin.f]
  repeat' first
  | (with_reducible exact slices_ContainsFunc_int_impl_allWithin_1.F_lim _ _ _)
  | (with_reducible refine Lim.ite ?_ ?_)
  | (with_reducible refine Lim.bind ?_ (fun _ => ?_))
  | (with_reducible exact Lim.const _)
def slices_Index_int.l0 : Nat → List Int → Int → Int → Int → Option (Int)
  | 0, _, _, _, _ => none
  | k + 1, x0, x1, x7, x8 => if x8 < x7 then (if 0 ≤ x8 then (if x8 < (x0.length : Int) then (if x1 = (rd x0 x8) then (some x8) else (slices_Index_int.l0 k x0 x1 x7 (wrap64 (x8 + 1)))) else (none)) else (none)) else (some (-1))
def slices_Index_int.f (k : Nat) (l0 : List Int) (a1 : Int) : Option (Int) := slices_Index_int.l0 k l0 a1 (l0.length : Int) 0
theorem slices_Index_int.mono_l : ∀ k, (∀ y0 y1 y2 y3, LeO (slices_Index_int.l0 k y0 y1 y2 y3) (slices_Index_int.l0 (k + 1) y0 y1 y2 y3))
  | 0 => fun _ _ _ _ r h => by simp [slices_Index_int.l0] at h
  | k + 1 => by
    have ih0 := slices_Index_int.mono_l k
    · intro y0 y1 y2 y3
      unfold slices_Index_int.l0
      repeat' first
      | (with_reducible exact ih0 _ _ _ _)
      | (with_reducible exact LeO.refl _)
      | (with_reducible exact LeO.none _)
      | (with_reducible refine LeO.ite ?_ ?_)
      | (with_reducible refine LeO.bind ?_ (fun _ => ?_))
      | exact ih0 _ _ _ _
      | exact LeO.none _
      | refine LeO.ite ?_ ?_
      | refine LeO.bind ?_ (fun _ => ?_)
theorem slices_Index_int.mono : ∀ a0 a1 k, LeO (slices_Index_int.f k a0 a1) (slices_Index_int.f (k + 1) a0 a1) := by
  intro a0 a1 k
  have ih0 := slices_Index_int.mono_l k
  unfold slices_Index_int.f
  repeat' first
      | (with_reducible exact ih0 _ _ _ _)
      | (with_reducible exact LeO.refl _)
      | (with_reducible exact LeO.none _)
      | (with_reducible refine LeO.ite ?_ ?_)
      | (with_reducible refine LeO.bind ?_ (fun _ => ?_))
      | exact ih0 _ _ _ _
      | exact LeO.none _
      | refine LeO.ite ?_ ?_
      | refine LeO.bind ?_ (fun _ => ?_)
noncomputable def slices_Index_int.L0 (x0 : List Int) (x1 : Int) (x7 : Int) (x8 : Int) : Option (Int) := lim fun k => slices_Index_int.l0 k x0 x1 x7 x8
theorem slices_Index_int.L0_lim (x0 : List Int) (x1 : Int) (x7 : Int) (x8 : Int) : Lim (fun k => slices_Index_int.l0 k x0 x1 x7 x8) (slices_Index_int.L0 x0 x1 x7 x8) := ⟨fun k => (slices_Index_int.mono_l k) x0 x1 x7 x8, rfl⟩
noncomputable def slices_Index_int.F (l0 : List Int) (a1 : Int) : Option (Int) := lim fun k => slices_Index_int.f k l0 a1
theorem slices_Index_int.F_lim (l0 : List Int) (a1 : Int) : Lim (fun k => slices_Index_int.f k l0 a1) (slices_Index_int.F l0 a1) := ⟨slices_Index_int.mono l0 a1, rfl⟩
theorem slices_Index_int.L0_eq (x0 : List Int) (x1 : Int) (x7 : Int) (x8 : Int) : slices_Index_int.L0 x0 x1 x7 x8 = (if x8 < x7 then (if 0 ≤ x8 then (if x8 < (x0.length : Int) then (if x1 = (rd x0 x8) then (some x8) else (slices_Index_int.L0 x0 x1 x7 (wrap64 (x8 + 1)))) else (none)) else (none)) else (some (-1))) := by
  refine Lim.succ_eq (slices_Index_int.L0_lim x0 x1 x7 x8).mon ?_
  simp only [slices_Index_int.l0]
  repeat' first
  | (with_reducible exact slices_Index_int.L0_lim _ _ _ _)
  | (with_reducible refine Lim.ite ?_ ?_)
  | (with_reducible refine Lim.bind ?_ (fun _ => ?_))
  | (with_reducible exact Lim.const _)
theorem slices_Index_int.F_eq (l0 : List Int) (a1 : Int) : slices_Index_int.F l0 a1 = (slices_Index_int.L0 l0 a1 (l0.length : Int) 0) := by
  refine Lim.eq_ ?_
  simp only [slices_Index_int.f]
  repeat' first
  | (with_reducible exact slices_Index_int.L0_lim _ _ _ _)
  | (with_reducible refine Lim.ite ?_ ?_)
  | (with_reducible refine Lim.bind ?_ (fun _ => ?_))
  | (with_reducible exact Lim.const _)
def slices_Contains_int.f (k : Nat) (l0 : List Int) (a1 : Int) : Option (Bool) := (slices_Index_int.f k l0 a1).bind fun t157 => (some (decide (t157 ≥ 0)))
theorem slices_Contains_int.mono : ∀ a0 a1 k, LeO (slices_Contains_int.f k a0 a1) (slices_Contains_int.f (k + 1) a0 a1) := by
  intro a0 a1 k
  unfold slices_Contains_int.f
  repeat' first
      | (with_reducible exact slices_Index_int.mono _ _ _)
      | (with_reducible exact LeO.refl _)
      | (with_reducible exact LeO.none _)
      | (with_reducible refine LeO.ite ?_ ?_)
      | (with_reducible refine LeO.bind ?_ (fun _ => ?_))
      | exact slices_Index_int.mono _ _ _
      | exact LeO.none _
      | refine LeO.ite ?_ ?_
      | refine LeO.bind ?_ (fun _ => ?_)
noncomputable def slices_Contains_int.F (l0 : List Int) (a1 : Int) : Option (Bool) := lim fun k => slices_Contains_int.f k l0 a1
theorem slices_Contains_int.F_lim (l0 : List Int) (a1 : Int) : Lim (fun k => slices_Contains_int.f k l0 a1) (slices_Contains_int.F l0 a1) := ⟨slices_Contains_int.mono l0 a1, rfl⟩
theorem slices_Contains_int.F_eq (l0 : List Int) (a1 : Int) : slices_Contains_int.F l0 a1 = ((slices_Index_int.F l0 a1).bind fun t157 => (some (decide (t157 ≥ 0)))) := by
  refine Lim.eq_ ?_
  simp only [slices_Contains_int.f]
  repeat' first
  | (with_reducible exact slices_Index_int.F_lim _ _)
  | (with_reducible refine Lim.ite ?_ ?_)
  | (with_reducible refine Lim.bind ?_ (fun _ => ?_))
  | (with_reducible exact Lim.const _)
def slices_Clone_int.f (l0 : List Int) : Option (List Int) := (some (([] : List Int) : List Int)).bind fun y158 => (if y158.length + l0.length < 17592186044416 then (some (y158 ++ l0)) else (none))
def slices_Sort_int.f (l0 : List Int) : Option (List Int) := if l0.length < 4611686018427387904 then some (sortInts l0) else none
def slices_Compact_int.f (l0 : List Int) : Option (List Int) := if l0.length < 4611686018427387904 then some (onceInts l0) else none
def impl_distinct_int.f (l0 : List Int) : Option (List Int) := (slices_Clone_int.f l0).bind fun t164 => ((slices_Sort_int.f t164).bind fun t167 => ((slices_Compact_int.f t167).bind fun t168 => (some t168)))
def cmp_isNaN_int.f (a0 : Int) : Option (Bool) := some (a0 != a0)
def cmp_Less_int.f (a0 : Int) (a1 : Int) : Option (Bool) := (cmp_isNaN_int.f a0).bind fun t171 => (if t171 = true then ((cmp_isNaN_int.f a1).bind fun t172 => (if t172 = true then (some (decide (a0 < a1))) else (some true))) else (some (decide (a0 < a1))))
def slices_IsSorted_int.l0 : Nat → List Int → Int → Option (Bool)
  | 0, _, _ => none
  | k + 1, x0, x3 => if x3 > 0 then (if 0 ≤ x3 then (if x3 < (x0.length : Int) then (if 0 ≤ (wrap64 (x3 - 1)) then (if (wrap64 (x3 - 1)) < (x0.length : Int) then ((cmp_Less_int.f (rd x0 x3) (rd x0 (wrap64 (x3 - 1)))).bind fun t175 => (if t175 = true then (some false) else (slices_IsSorted_int.l0 k x0 (wrap64 (x3 - 1))))) else (none)) else (none)) else (none)) else (none)) else (some true)
def slices_IsSorted_int.f (k : Nat) (l0 : List Int) : Option (Bool) := slices_IsSorted_int.l0 k l0 (wrap64 ((l0.length : Int) - 1))
theorem slices_IsSorted_int.mono_l : ∀ k, (∀ y0 y1, LeO (slices_IsSorted_int.l0 k y0 y1) (slices_IsSorted_int.l0 (k + 1) y0 y1))
  | 0 => fun _ _ r h => by simp [slices_IsSorted_int.l0] at h
  | k + 1 => by
    have ih0 := slices_IsSorted_int.mono_l k
    · intro y0 y1
      unfold slices_IsSorted_int.l0
      repeat' first
      | (with_reducible exact ih0 _ _)
      | (with_reducible exact LeO.refl _)
      | (with_reducible exact LeO.none _)
      | (with_reducible refine LeO.ite ?_ ?_)
      | (with_reducible refine LeO.bind ?_ (fun _ => ?_))
      | exact ih0 _ _
      | exact LeO.none _
      | refine LeO.ite ?_ ?_
      | refine LeO.bind ?_ (fun _ => ?_)
theorem slices_IsSorted_int.mono : ∀ a0 k, LeO (slices_IsSorted_int.f k a0) (slices_IsSorted_int.f (k + 1) a0) := by
  intro a0 k
  have ih0 := slices_IsSorted_int.mono_l k
  unfold slices_IsSorted_int.f
  repeat' first
      | (with_reducible exact ih0 _ _)
      | (with_reducible exact LeO.refl _)
      | (with_reducible exact LeO.none _)
      | (with_reducible refine LeO.ite ?_ ?_)
      | (with_reducible refine LeO.bind ?_ (fun _ => ?_))
      | exact ih0 _ _
      | exact LeO.none _
      | refine LeO.ite ?_ ?_
      | refine LeO.bind ?_ (fun _ => ?_)
noncomputable def slices_IsSorted_int.L0 (x0 : List Int) (x3 : Int) : Option (Bool) := lim fun k => slices_IsSorted_int.l0 k x0 x3
theorem slices_IsSorted_int.L0_lim (x0 : List Int) (x3 : Int) : Lim (fun k => slices_IsSorted_int.l0 k x0 x3) (slices_IsSorted_int.L0 x0 x3) := ⟨fun k => (slices_IsSorted_int.mono_l k) x0 x3, rfl⟩
noncomputable def slices_IsSorted_int.F (l0 : List Int) : Option (Bool) := lim fun k => slices_IsSorted_int.f k l0
theorem slices_IsSorted_int.F_lim (l0 : List Int) : Lim (fun k => slices_IsSorted_int.f k l0) (slices_IsSorted_int.F l0) := ⟨slices_IsSorted_int.mono l0, rfl⟩
theorem slices_IsSorted_int.L0_eq (x0 : List Int) (x3 : Int) : slices_IsSorted_int.L0 x0 x3 = (if x3 > 0 then (if 0 ≤ x3 then (if x3 < (x0.length : Int) then (if 0 ≤ (wrap64 (x3 - 1)) then (if (wrap64 (x3 - 1)) < (x0.length : Int) then ((cmp_Less_int.f (rd x0 x3) (rd x0 (wrap64 (x3 - 1)))).bind fun t175 => (if t175 = true then (some false) else (slices_IsSorted_int.L0 x0 (wrap64 (x3 - 1))))) else (none)) else (none)) else (none)) else (none)) else (some true)) := by
  refine Lim.succ_eq (slices_IsSorted_int.L0_lim x0 x3).mon ?_
  simp only [slices_IsSorted_int.l0]
  repeat' first
  | (with_reducible exact slices_IsSorted_int.L0_lim _ _)
  | (with_reducible refine Lim.ite ?_ ?_)
  | (with_reducible refine Lim.bind ?_ (fun _ => ?_))
  | (with_reducible exact Lim.const _)
theorem slices_IsSorted_int.F_eq (l0 : List Int) : slices_IsSorted_int.F l0 = (slices_IsSorted_int.L0 l0 (wrap64 ((l0.length : Int) - 1))) := by
  refine Lim.eq_ ?_
  simp only [slices_IsSorted_int.f]
  repeat' first
  | (with_reducible exact slices_IsSorted_int.L0_lim _ _)
  | (with_reducible refine Lim.ite ?_ ?_)
  | (with_reducible refine Lim.bind ?_ (fun _ => ?_))
  | (with_reducible exact Lim.const _)
def impl_AreWords_1.f (a0_0 : ByteArray) (l0_1 : List Int) (a0_2 : Int) (a1_0 : ByteArray) (l1_1 : List Int) (a1_2 : Int) : Option (Bool) := some (a0_0.toList == a1_0.toList)
def slices_IndexFunc_Word_impl_AreWords_1.l0 : Nat → List (S96) → Int → Int → ByteArray → List Int → Int → Option (Int)
  | 0, _, _, _, _, _, _ => none
  | k + 1, x0, x7, x8, x39000, x39001, x39002 => if x8 < x7 then (if 0 ≤ x8 then (if x8 < (x0.length : Int) then ((impl_AreWords_1.f ((rd_T96 x0 x8).f0) ((rd_T96 x0 x8).f1) ((rd_T96 x0 x8).f2) x39000 x39001 x39002).bind fun t178 => (if t178 = true then (some x8) else (slices_IndexFunc_Word_impl_AreWords_1.l0 k x0 x7 (wrap64 (x8 + 1)) x39000 x39001 x39002))) else (none)) else (none)) else (some (-1))
def slices_IndexFunc_Word_impl_AreWords_1.f (k : Nat) (l0 : List (S96)) (a1_0 : ByteArray) (l1_1 : List Int) (a1_2 : Int) : Option (Int) := slices_IndexFunc_Word_impl_AreWords_1.l0 k l0 (l0.length : Int) 0 a1_0 l1_1 a1_2
theorem slices_IndexFunc_Word_impl_AreWords_1.mono_l : ∀ k, (∀ y0 y1 y2 y3 y4 y5, LeO (slices_IndexFunc_Word_impl_AreWords_1.l0 k y0 y1 y2 y3 y4 y5) (slices_IndexFunc_Word_impl_AreWords_1.l0 (k + 1) y0 y1 y2 y3 y4 y5))
  | 0 => fun _ _ _ _ _ _ r h => by simp [slices_IndexFunc_Word_impl_AreWords_1.l0] at h
  | k + 1 => by
    have ih0 := slices_IndexFunc_Word_impl_AreWords_1.mono_l k
    · intro y0 y1 y2 y3 y4 y5
      unfold slices_IndexFunc_Word_impl_AreWords_1.l0
      repeat' first
      | (with_reducible exact ih0 _ _ _ _ _ _)
      | (with_reducible exact LeO.refl _)
      | (with_reducible exact LeO.none _)
      | (with_reducible refine LeO.ite ?_ ?_)
      | (with_reducible refine LeO.bind ?_ (fun _ => ?_))
      | exact ih0 _ _ _ _ _ _
      | exact LeO.none _
      | refine LeO.ite ?_ ?_
      | refine LeO.bind ?_ (fun _ => ?_)
theorem slices_IndexFunc_Word_impl_AreWords_1.mono : ∀ a0 a1 a2 a3 k, LeO (slices_IndexFunc_Word_impl_AreWords_1.f k a0 a1 a2 a3) (slices_IndexFunc_Word_impl_AreWords_1.f (k + 1) a0 a1 a2 a3) := by
  intro a0 a1 a2 a3 k
  have ih0 := slices_IndexFunc_Word_impl_AreWords_1.mono_l k
  unfold slices_IndexFunc_Word_impl_AreWords_1.f
  repeat' first
      | (with_reducible exact ih0 _ _ _ _ _ _)
      | (with_reducible exact LeO.refl _)
      | (with_reducible exact LeO.none _)
      | (with_reducible refine LeO.ite ?_ ?_)
      | (with_reducible refine LeO.bind ?_ (fun _ => ?_))
      | exact ih0 _ _ _ _ _ _
      | exact LeO.none _
      | refine LeO.ite ?_ ?_
      | refine LeO.bind ?_ (fun _ => ?_)
noncomputable def slices_IndexFunc_Word_impl_AreWords_1.L0 (x0 : List (S96)) (x7 : Int) (x8 : Int) (x39000 : ByteArray) (x39001 : List Int) (x39002 : Int) : Option (Int) := lim fun k => slices_IndexFunc_Word_impl_AreWords_1.l0 k x0 x7 x8 x39000 x39001 x39002
theorem slices_IndexFunc_Word_impl_AreWords_1.L0_lim (x0 : List (S96)) (x7 : Int) (x8 : Int) (x39000 : ByteArray) (x39001 : List Int) (x39002 : Int) : Lim (fun k => slices_IndexFunc_Word_impl_AreWords_1.l0 k x0 x7 x8 x39000 x39001 x39002) (slices_IndexFunc_Word_impl_AreWords_1.L0 x0 x7 x8 x39000 x39001 x39002) := ⟨fun k => (slices_IndexFunc_Word_impl_AreWords_1.mono_l k) x0 x7 x8 x39000 x39001 x39002, rfl⟩
noncomputable def slices_IndexFunc_Word_impl_AreWords_1.F (l0 : List (S96)) (a1_0 : ByteArray) (l1_1 : List Int) (a1_2 : Int) : Option (Int) := lim fun k => slices_IndexFunc_Word_impl_AreWords_1.f k l0 a1_0 l1_1 a1_2
theorem slices_IndexFunc_Word_impl_AreWords_1.F_lim (l0 : List (S96)) (a1_0 : ByteArray) (l1_1 : List Int) (a1_2 : Int) : Lim (fun k => slices_IndexFunc_Word_impl_AreWords_1.f k l0 a1_0 l1_1 a1_2) (slices_IndexFunc_Word_impl_AreWords_1.F l0 a1_0 l1_1 a1_2) := ⟨slices_IndexFunc_Word_impl_AreWords_1.mono l0 a1_0 l1_1 a1_2, rfl⟩
theorem slices_IndexFunc_Word_impl_AreWords_1.L0_eq (x0 : List (S96)) (x7 : Int) (x8 : Int) (x39000 : ByteArray) (x39001 : List Int) (x39002 : Int) : slices_IndexFunc_Word_impl_AreWords_1.L0 x0 x7 x8 x39000 x39001 x39002 = (if x8 < x7 then (if 0 ≤ x8 then (if x8 < (x0.length : Int) then ((impl_AreWords_1.f ((rd_T96 x0 x8).f0) ((rd_T96 x0 x8).f1) ((rd_T96 x0 x8).f2) x39000 x39001 x39002).bind fun t178 => (if t178 = true then (some x8) else (slices_IndexFunc_Word_impl_AreWords_1.L0 x0 x7 (wrap64 (x8 + 1)) x39000 x39001 x39002))) else (none)) else (none)) else (some (-1))) := by
  refine Lim.succ_eq (slices_IndexFunc_Word_impl_AreWords_1.L0_lim x0 x7 x8 x39000 x39001 x39002).mon ?_
  simp only [slices_IndexFunc_Word_impl_AreWords_1.l0]
  repeat' first
  | (with_reducible exact slices_IndexFunc_Word_impl_AreWords_1.L0_lim _ _ _ _ _ _)
  | (with_reducible refine Lim.ite ?_ ?_)
  | (with_reducible refine Lim.bind ?_ (fun _ => ?_))
  | (with_reducible exact Lim.const _)
theorem slices_IndexFunc_Word_impl_AreWords_1.F_eq (l0 : List (S96)) (a1_0 : ByteArray) (l1_1 : List Int) (a1_2 : Int) : slices_IndexFunc_Word_impl_AreWords_1.F l0 a1_0 l1_1 a1_2 = (slices_IndexFunc_Word_impl_AreWords_1.L0 l0 (l0.length : Int) 0 a1_0 l1_1 a1_2) := by
  refine Lim.eq_ ?_
  simp only [slices_IndexFunc_Word_impl_AreWords_1.f]
  repeat' first
  | (with_reducible exact slices_IndexFunc_Word_impl_AreWords_1.L0_lim _ _ _ _ _ _)
  | (with_reducible refine Lim.ite ?_ ?_)
  | (with_reducible refine Lim.bind ?_ (fun _ => ?_))
  | (with_reducible exact Lim.const _)
def slices_ContainsFunc_Word_impl_AreWords_1.f (k : Nat) (l0 : List (S96)) (a1_0 : ByteArray) (l1_1 : List Int) (a1_2 : Int) : Option (Bool) := (slices_IndexFunc_Word_impl_AreWords_1.f k l0 a1_0 l1_1 a1_2).bind fun t179 => (some (decide (t179 ≥ 0)))
theorem slices_ContainsFunc_Word_impl_AreWords_1.mono : ∀ a0 a1 a2 a3 k, LeO (slices_ContainsFunc_Word_impl_AreWords_1.f k a0 a1 a2 a3) (slices_ContainsFunc_Word_impl_AreWords_1.f (k + 1) a0 a1 a2 a3) := by
  intro a0 a1 a2 a3 k
  unfold slices_ContainsFunc_Word_impl_AreWords_1.f
  repeat' first
      | (with_reducible exact slices_IndexFunc_Word_impl_AreWords_1.mono _ _ _ _ _)
      | (with_reducible exact LeO.refl _)
      | (with_reducible exact LeO.none _)
      | (with_reducible refine LeO.ite ?_ ?_)
      | (with_reducible refine LeO.bind ?_ (fun _ => ?_))
      | exact slices_IndexFunc_Word_impl_AreWords_1.mono _ _ _ _ _
      | exact LeO.none _
      | refine LeO.ite ?_ ?_
      | refine LeO.bind ?_ (fun _ => ?_)
noncomputable def slices_ContainsFunc_Word_impl_AreWords_1.F (l0 : List (S96)) (a1_0 : ByteArray) (l1_1 : List Int) (a1_2 : Int) : Option (Bool) := lim fun k => slices_ContainsFunc_Word_impl_AreWords_1.f k l0 a1_0 l1_1 a1_2
theorem slices_ContainsFunc_Word_impl_AreWords_1.F_lim (l0 : List (S96)) (a1_0 : ByteArray) (l1_1 : List Int) (a1_2 : Int) : Lim (fun k => slices_ContainsFunc_Word_impl_AreWords_1.f k l0 a1_0 l1_1 a1_2) (slices_ContainsFunc_Word_impl_AreWords_1.F l0 a1_0 l1_1 a1_2) := ⟨slices_ContainsFunc_Word_impl_AreWords_1.mono l0 a1_0 l1_1 a1_2, rfl⟩
theorem slices_ContainsFunc_Word_impl_AreWords_1.F_eq (l0 : List (S96)) (a1_0 : ByteArray) (l1_1 : List Int) (a1_2 : Int) : slices_ContainsFunc_Word_impl_AreWords_1.F l0 a1_0 l1_1 a1_2 = ((slices_IndexFunc_Word_impl_AreWords_1.F l0 a1_0 l1_1 a1_2).bind fun t179 => (some (decide (t179 ≥ 0)))) := by
  refine Lim.eq_ ?_
  simp only [slices_ContainsFunc_Word_impl_AreWords_1.f]
  repeat' first
  | (with_reducible exact slices_IndexFunc_Word_impl_AreWords_1.F_lim _ _ _ _)
  | (with_reducible refine Lim.ite ?_ ?_)
  | (with_reducible refine Lim.bind ?_ (fun _ => ?_))
  | (with_reducible exact Lim.const _)
mutual
def impl_AreWords.l0 : Nat → List (S96) → List (S96) → Int → Int → Option (Bool)
  | 0, _, _, _, _ => none
  | k + 1, x0, x5, x6, x7 => if x7 < x6 then (if 0 ≤ x7 then (if x7 < (x5.length : Int) then ((impl_IsGloss.f k ((rd_T96 x5 x7).f0)).bind fun t182 => (if t182 = true then ((impl_within.f ((rd_T96 x5 x7).f2) 0 99999).bind fun t183 => (if t183 = true then ((impl_allWithin.f k ((rd_T96 x5 x7).f1) 0 (wrap64 ((x0.length : Int) - 1))).bind fun t184 => (if t184 = true then ((slices_Contains_int.f k ((rd_T96 x5 x7).f1) x7).bind fun t185 => (impl_AreWords.j1 k x0 x7 x5 x6 x7 t185 ((rd_T96 x5 x7).f0) ((rd_T96 x5 x7).f1) ((rd_T96 x5 x7).f2))) else (impl_AreWords.j1 k x0 x7 x5 x6 x7 true ((rd_T96 x5 x7).f0) ((rd_T96 x5 x7).f1) ((rd_T96 x5 x7).f2)))) else (impl_AreWords.j1 k x0 x7 x5 x6 x7 true ((rd_T96 x5 x7).f0) ((rd_T96 x5 x7).f1) ((rd_T96 x5 x7).f2)))) else (impl_AreWords.j1 k x0 x7 x5 x6 x7 true ((rd_T96 x5 x7).f0) ((rd_T96 x5 x7).f1) ((rd_T96 x5 x7).f2)))) else (none)) else (none)) else (some (decide ((x0.length : Int) ≤ 16)))
def impl_AreWords.j1 : Nat → List (S96) → Int → List (S96) → Int → Int → Bool → ByteArray → List Int → Int → Option (Bool)
  | 0, _, _, _, _, _, _, _, _, _ => none
  | k + 1, x0, x3, x5, x6, x7, x36, x182000, x182001, x182002 => if x36 = true then (some false) else ((impl_distinct_int.f x182001).bind fun t186 => (if (t186.length : Int) = (x182001.length : Int) then ((slices_IsSorted_int.f k x182001).bind fun t189 => (impl_AreWords.j2 k x0 x3 x5 x6 x7 (!t189) x182000 x182001 x182002)) else (impl_AreWords.j2 k x0 x3 x5 x6 x7 true x182000 x182001 x182002)))
def impl_AreWords.j2 : Nat → List (S96) → Int → List (S96) → Int → Int → Bool → ByteArray → List Int → Int → Option (Bool)
  | 0, _, _, _, _, _, _, _, _, _ => none
  | k + 1, x0, x3, x5, x6, x7, x50, x182000, x182001, x182002 => if x50 = true then (some false) else (if 0 ≤ x3 then (if x3 ≤ (x0.length : Int) then ((slices_ContainsFunc_Word_impl_AreWords_1.f k (x0.take (x3 : Int).toNat) x182000 x182001 x182002).bind fun t194 => (if t194 = true then (some false) else (impl_AreWords.l0 k x0 x5 x6 (wrap64 (x7 + 1))))) else (none)) else (none))
end
def impl_AreWords.f (k : Nat) (l0 : List (S96)) : Option (Bool) := impl_AreWords.l0 k l0 l0 (l0.length : Int) 0
theorem impl_AreWords.mono_l : ∀ k, (∀ y0 y1 y2 y3, LeO (impl_AreWords.l0 k y0 y1 y2 y3) (impl_AreWords.l0 (k + 1) y0 y1 y2 y3)) ∧ (∀ y0 y1 y2 y3 y4 y5 y6 y7 y8, LeO (impl_AreWords.j1 k y0 y1 y2 y3 y4 y5 y6 y7 y8) (impl_AreWords.j1 (k + 1) y0 y1 y2 y3 y4 y5 y6 y7 y8)) ∧ (∀ y0 y1 y2 y3 y4 y5 y6 y7 y8, LeO (impl_AreWords.j2 k y0 y1 y2 y3 y4 y5 y6 y7 y8) (impl_AreWords.j2 (k + 1) y0 y1 y2 y3 y4 y5 y6 y7 y8))
  | 0 => ⟨fun _ _ _ _ r h => by simp [impl_AreWords.l0] at h, fun _ _ _ _ _ _ _ _ _ r h => by simp [impl_AreWords.j1] at h, fun _ _ _ _ _ _ _ _ _ r h => by simp [impl_AreWords.j2] at h⟩
  | k + 1 => by
    obtain ⟨ih0, ih1, ih2⟩ := impl_AreWords.mono_l k
    refine ⟨?_, ?_, ?_⟩
    · intro y0 y1 y2 y3
      unfold impl_AreWords.l0
      repeat' first
      | (with_reducible exact ih0 _ _ _ _)
      | (with_reducible exact ih1 _ _ _ _ _ _ _ _ _)
      | (with_reducible exact ih2 _ _ _ _ _ _ _ _ _)
      | (with_reducible exact impl_IsGloss.mono _ _)
      | (with_reducible exact impl_allWithin.mono _ _ _ _)
      | (with_reducible exact slices_ContainsFunc_Word_impl_AreWords_1.mono _ _ _ _ _)
      | (with_reducible exact slices_Contains_int.mono _ _ _)
      | (with_reducible exact slices_IsSorted_int.mono _ _)
      | (with_reducible exact LeO.refl _)
      | (with_reducible exact LeO.none _)
      | (with_reducible refine LeO.ite ?_ ?_)
      | (with_reducible refine LeO.bind ?_ (fun _ => ?_))
      | exact ih0 _ _ _ _
      | exact ih1 _ _ _ _ _ _ _ _ _
      | exact ih2 _ _ _ _ _ _ _ _ _
      | exact impl_IsGloss.mono _ _
      | exact impl_allWithin.mono _ _ _ _
      | exact slices_ContainsFunc_Word_impl_AreWords_1.mono _ _ _ _ _
      | exact slices_Contains_int.mono _ _ _
      | exact slices_IsSorted_int.mono _ _
      | exact LeO.none _
      | refine LeO.ite ?_ ?_
      | refine LeO.bind ?_ (fun _ => ?_)
    · intro y0 y1 y2 y3 y4 y5 y6 y7 y8
      unfold impl_AreWords.j1
      repeat' first
      | (with_reducible exact ih0 _ _ _ _)
      | (with_reducible exact ih1 _ _ _ _ _ _ _ _ _)
      | (with_reducible exact ih2 _ _ _ _ _ _ _ _ _)
      | (with_reducible exact impl_IsGloss.mono _ _)
      | (with_reducible exact impl_allWithin.mono _ _ _ _)
      | (with_reducible exact slices_ContainsFunc_Word_impl_AreWords_1.mono _ _ _ _ _)
      | (with_reducible exact slices_Contains_int.mono _ _ _)
      | (with_reducible exact slices_IsSorted_int.mono _ _)
      | (with_reducible exact LeO.refl _)
      | (with_reducible exact LeO.none _)
      | (with_reducible refine LeO.ite ?_ ?_)
      | (with_reducible refine LeO.bind ?_ (fun _ => ?_))
      | exact ih0 _ _ _ _
      | exact ih1 _ _ _ _ _ _ _ _ _
      | exact ih2 _ _ _ _ _ _ _ _ _
      | exact impl_IsGloss.mono _ _
      | exact impl_allWithin.mono _ _ _ _
      | exact slices_ContainsFunc_Word_impl_AreWords_1.mono _ _ _ _ _
      | exact slices_Contains_int.mono _ _ _
      | exact slices_IsSorted_int.mono _ _
      | exact LeO.none _
      | refine LeO.ite ?_ ?_
      | refine LeO.bind ?_ (fun _ => ?_)
    · intro y0 y1 y2 y3 y4 y5 y6 y7 y8
      unfold impl_AreWords.j2
      repeat' first
      | (with_reducible exact ih0 _ _ _ _)
      | (with_reducible exact ih1 _ _ _ _ _ _ _ _ _)
      | (with_reducible exact ih2 _ _ _ _ _ _ _ _ _)
      | (with_reducible exact impl_IsGloss.mono _ _)
      | (with_reducible exact impl_allWithin.mono _ _ _ _)
      | (with_reducible exact slices_ContainsFunc_Word_impl_AreWords_1.mono _ _ _ _ _)
      | (with_reducible exact slices_Contains_int.mono _ _ _)
      | (with_reducible exact slices_IsSorted_int.mono _ _)
      | (with_reducible exact LeO.refl _)
      | (with_reducible exact LeO.none _)
      | (with_reducible refine LeO.ite ?_ ?_)
      | (with_reducible refine LeO.bind ?_ (fun _ => ?_))
      | exact ih0 _ _ _ _
      | exact ih1 _ _ _ _ _ _ _ _ _
      | exact ih2 _ _ _ _ _ _ _ _ _
      | exact impl_IsGloss.mono _ _
      | exact impl_allWithin.mono _ _ _ _
      | exact slices_ContainsFunc_Word_impl_AreWords_1.mono _ _ _ _ _
      | exact slices_Contains_int.mono _ _ _
      | exact slices_IsSorted_int.mono _ _
      | exact LeO.none _
      | refine LeO.ite ?_ ?_
      | refine LeO.bind ?_ (fun _ => ?_)
theorem impl_AreWords.mono : ∀ a0 k, LeO (impl_AreWords.f k a0) (impl_AreWords.f (k + 1) a0) := by
  intro a0 k
  obtain ⟨ih0, ih1, ih2⟩ := impl_AreWords.mono_l k
  unfold impl_AreWords.f
  repeat' first
      | (with_reducible exact ih0 _ _ _ _)
      | (with_reducible exact ih1 _ _ _ _ _ _ _ _ _)
      | (with_reducible exact ih2 _ _ _ _ _ _ _ _ _)
      | (with_reducible exact impl_IsGloss.mono _ _)
      | (with_reducible exact impl_allWithin.mono _ _ _ _)
      | (with_reducible exact slices_ContainsFunc_Word_impl_AreWords_1.mono _ _ _ _ _)
      | (with_reducible exact slices_Contains_int.mono _ _ _)
      | (with_reducible exact slices_IsSorted_int.mono _ _)
      | (with_reducible exact LeO.refl _)
      | (with_reducible exact LeO.none _)
      | (with_reducible refine LeO.ite ?_ ?_)
      | (with_reducible refine LeO.bind ?_ (fun _ => ?_))
      | exact ih0 _ _ _ _
      | exact ih1 _ _ _ _ _ _ _ _ _
      | exact ih2 _ _ _ _ _ _ _ _ _
      | exact impl_IsGloss.mono _ _
      | exact impl_allWithin.mono _ _ _ _
      | exact slices_ContainsFunc_Word_impl_AreWords_1.mono _ _ _ _ _
      | exact slices_Contains_int.mono _ _ _
      | exact slices_IsSorted_int.mono _ _
      | exact LeO.none _
      | refine LeO.ite ?_ ?_
      | refine LeO.bind ?_ (fun _ => ?_)
noncomputable def impl_AreWords.L0 (x0 : List (S96)) (x5 : List (S96)) (x6 : Int) (x7 : Int) : Option (Bool) := lim fun k => impl_AreWords.l0 k x0 x5 x6 x7
theorem impl_AreWords.L0_lim (x0 : List (S96)) (x5 : List (S96)) (x6 : Int) (x7 : Int) : Lim (fun k => impl_AreWords.l0 k x0 x5 x6 x7) (impl_AreWords.L0 x0 x5 x6 x7) := ⟨fun k => (impl_AreWords.mono_l k).1 x0 x5 x6 x7, rfl⟩
noncomputable def impl_AreWords.J1 (x0 : List (S96)) (x3 : Int) (x5 : List (S96)) (x6 : Int) (x7 : Int) (x36 : Bool) (x182000 : ByteArray) (x182001 : List Int) (x182002 : Int) : Option (Bool) := lim fun k => impl_AreWords.j1 k x0 x3 x5 x6 x7 x36 x182000 x182001 x182002
theorem impl_AreWords.J1_lim (x0 : List (S96)) (x3 : Int) (x5 : List (S96)) (x6 : Int) (x7 : Int) (x36 : Bool) (x182000 : ByteArray) (x182001 : List Int) (x182002 : Int) : Lim (fun k => impl_AreWords.j1 k x0 x3 x5 x6 x7 x36 x182000 x182001 x182002) (impl_AreWords.J1 x0 x3 x5 x6 x7 x36 x182000 x182001 x182002) := ⟨fun k => (impl_AreWords.mono_l k).2.1 x0 x3 x5 x6 x7 x36 x182000 x182001 x182002, rfl⟩
noncomputable def impl_AreWords.J2 (x0 : List (S96)) (x3 : Int) (x5 : List (S96)) (x6 : Int) (x7 : Int) (x50 : Bool) (x182000 : ByteArray) (x182001 : List Int) (x182002 : Int) : Option (Bool) := lim fun k => impl_AreWords.j2 k x0 x3 x5 x6 x7 x50 x182000 x182001 x182002
theorem impl_AreWords.J2_lim (x0 : List (S96)) (x3 : Int) (x5 : List (S96)) (x6 : Int) (x7 : Int) (x50 : Bool) (x182000 : ByteArray) (x182001 : List Int) (x182002 : Int) : Lim (fun k => impl_AreWords.j2 k x0 x3 x5 x6 x7 x50 x182000 x182001 x182002) (impl_AreWords.J2 x0 x3 x5 x6 x7 x50 x182000 x182001 x182002) := ⟨fun k => (impl_AreWords.mono_l k).2.2 x0 x3 x5 x6 x7 x50 x182000 x182001 x182002, rfl⟩
noncomputable def impl_AreWords.F (l0 : List (S96)) : Option (Bool) := lim fun k => impl_AreWords.f k l0
theorem impl_AreWords.F_lim (l0 : List (S96)) : Lim (fun k => impl_AreWords.f k l0) (impl_AreWords.F l0) := ⟨impl_AreWords.mono l0, rfl⟩
theorem impl_AreWords.L0_eq (x0 : List (S96)) (x5 : List (S96)) (x6 : Int) (x7 : Int) : impl_AreWords.L0 x0 x5 x6 x7 = (if x7 < x6 then (if 0 ≤ x7 then (if x7 < (x5.length : Int) then ((impl_IsGloss.F ((rd_T96 x5 x7).f0)).bind fun t182 => (if t182 = true then ((impl_within.f ((rd_T96 x5 x7).f2) 0 99999).bind fun t183 => (if t183 = true then ((impl_allWithin.F ((rd_T96 x5 x7).f1) 0 (wrap64 ((x0.length : Int) - 1))).bind fun t184 => (if t184 = true then ((slices_Contains_int.F ((rd_T96 x5 x7).f1) x7).bind fun t185 => (impl_AreWords.J1 x0 x7 x5 x6 x7 t185 ((rd_T96 x5 x7).f0) ((rd_T96 x5 x7).f1) ((rd_T96 x5 x7).f2))) else (impl_AreWords.J1 x0 x7 x5 x6 x7 true ((rd_T96 x5 x7).f0) ((rd_T96 x5 x7).f1) ((rd_T96 x5 x7).f2)))) else (impl_AreWords.J1 x0 x7 x5 x6 x7 true ((rd_T96 x5 x7).f0) ((rd_T96 x5 x7).f1) ((rd_T96 x5 x7).f2)))) else (impl_AreWords.J1 x0 x7 x5 x6 x7 true ((rd_T96 x5 x7).f0) ((rd_T96 x5 x7).f1) ((rd_T96 x5 x7).f2)))) else (none)) else (none)) else (some (decide ((x0.length : Int) ≤ 16)))) := by
  refine Lim.succ_eq (impl_AreWords.L0_lim x0 x5 x6 x7).mon ?_
  simp only [impl_AreWords.l0]
  repeat' first
  | (with_reducible exact impl_AreWords.L0_lim _ _ _ _)
  | (with_reducible exact impl_AreWords.J1_lim _ _ _ _ _ _ _ _ _)
  | (with_reducible exact impl_AreWords.J2_lim _ _ _ _ _ _ _ _ _)
  | (with_reducible exact impl_IsGloss.F_lim _)
  | (with_reducible exact impl_allWithin.F_lim _ _ _)
  | (with_reducible exact slices_ContainsFunc_Word_impl_AreWords_1.F_lim _ _ _ _)
  | (with_reducible exact slices_Contains_int.F_lim _ _)
  | (with_reducible exact slices_IsSorted_int.F_lim _)
  | (with_reducible refine Lim.ite ?_ ?_)
  | (with_reducible refine Lim.bind ?_ (fun _ => ?_))
  | (with_reducible exact Lim.const _)
theorem impl_AreWords.J1_eq (x0 : List (S96)) (x3 : Int) (x5 : List (S96)) (x6 : Int) (x7 : Int) (x36 : Bool) (x182000 : ByteArray) (x182001 : List Int) (x182002 : Int) : impl_AreWords.J1 x0 x3 x5 x6 x7 x36 x182000 x182001 x182002 = (if x36 = true then (some false) else ((impl_distinct_int.f x182001).bind fun t186 => (if (t186.length : Int) = (x182001.length : Int) then ((slices_IsSorted_int.F x182001).bind fun t189 => (impl_AreWords.J2 x0 x3 x5 x6 x7 (!t189) x182000 x182001 x182002)) else (impl_AreWords.J2 x0 x3 x5 x6 x7 true x182000 x182001 x182002)))) := by
  refine Lim.succ_eq (impl_AreWords.J1_lim x0 x3 x5 x6 x7 x36 x182000 x182001 x182002).mon ?_
  simp only [impl_AreWords.j1]
  repeat' first
  | (with_reducible exact impl_AreWords.L0_lim _ _ _ _)
  | (with_reducible exact impl_AreWords.J1_lim _ _ _ _ _ _ _ _ _)
  | (with_reducible exact impl_AreWords.J2_lim _ _ _ _ _ _ _ _ _)
  | (with_reducible exact impl_IsGloss.F_lim _)
  | (with_reducible exact impl_allWithin.F_lim _ _ _)
  | (with_reducible exact slices_ContainsFunc_Word_impl_AreWords_1.F_lim _ _ _ _)
  | (with_reducible exact slices_Contains_int.F_lim _ _)
  | (with_reducible exact slices_IsSorted_int.F_lim _)
  | (with_reducible refine Lim.ite ?_ ?_)
  | (with_reducible refine Lim.bind ?_ (fun _ => ?_))
  | (with_reducible exact Lim.const _)
theorem impl_AreWords.J2_eq (x0 : List (S96)) (x3 : Int) (x5 : List (S96)) (x6 : Int) (x7 : Int) (x50 : Bool) (x182000 : ByteArray) (x182001 : List Int) (x182002 : Int) : impl_AreWords.J2 x0 x3 x5 x6 x7 x50 x182000 x182001 x182002 = (if x50 = true then (some false) else (if 0 ≤ x3 then (if x3 ≤ (x0.length : Int) then ((slices_ContainsFunc_Word_impl_AreWords_1.F (x0.take (x3 : Int).toNat) x182000 x182001 x182002).bind fun t194 => (if t194 = true then (some false) else (impl_AreWords.L0 x0 x5 x6 (wrap64 (x7 + 1))))) else (none)) else (none))) := by
  refine Lim.succ_eq (impl_AreWords.J2_lim x0 x3 x5 x6 x7 x50 x182000 x182001 x182002).mon ?_
  simp only [impl_AreWords.j2]
  repeat' first
  | (with_reducible exact impl_AreWords.L0_lim _ _ _ _)
  | (with_reducible exact impl_AreWords.J1_lim _ _ _ _ _ _ _ _ _)
  | (with_reducible exact impl_AreWords.J2_lim _ _ _ _ _ _ _ _ _)
  | (with_reducible exact impl_IsGloss.F_lim _)
  | (with_reducible exact impl_allWithin.F_lim _ _ _)
  | (with_reducible exact slices_ContainsFunc_Word_impl_AreWords_1.F_lim _ _ _ _)
  | (with_reducible exact slices_Contains_int.F_lim _ _)
  | (with_reducible exact slices_IsSorted_int.F_lim _)
  | (with_reducible refine Lim.ite ?_ ?_)
  | (with_reducible refine Lim.bind ?_ (fun _ => ?_))
  | (with_reducible exact Lim.const _)
theorem impl_AreWords.F_eq (l0 : List (S96)) : impl_AreWords.F l0 = (impl_AreWords.L0 l0 l0 (l0.length : Int) 0) := by
  refine Lim.eq_ ?_
  simp only [impl_AreWords.f]
  repeat' first
  | (with_reducible exact impl_AreWords.L0_lim _ _ _ _)
  | (with_reducible exact impl_AreWords.J1_lim _ _ _ _ _ _ _ _ _)
  | (with_reducible exact impl_AreWords.J2_lim _ _ _ _ _ _ _ _ _)
  | (with_reducible exact impl_IsGloss.F_lim _)
  | (with_reducible exact impl_allWithin.F_lim _ _ _)
  | (with_reducible exact slices_ContainsFunc_Word_impl_AreWords_1.F_lim _ _ _ _)
  | (with_reducible exact slices_Contains_int.F_lim _ _)
  | (with_reducible exact slices_IsSorted_int.F_lim _)
  | (with_reducible refine Lim.ite ?_ ?_)
  | (with_reducible refine Lim.bind ?_ (fun _ => ?_))
  | (with_reducible exact Lim.const _)
def laws_eqIntS.l0 : Nat → List Int → List Int → Int → Option (Bool)
  | 0, _, _, _ => none
  | k + 1, x0, x1, x5 => if x5 < (x0.length : Int) then (if 0 ≤ x5 then (if x5 < (x1.length : Int) then (if (rd x0 x5) = (rd x1 x5) then (laws_eqIntS.l0 k x0 x1 (wrap64 (x5 + 1))) else (some false)) else (none)) else (none)) else (some true)
def laws_eqIntS.f (k : Nat) (l0 : List Int) (l1 : List Int) : Option (Bool) := if (l0.length : Int) = (l1.length : Int) then (laws_eqIntS.l0 k l0 l1 0) else (some false)
theorem laws_eqIntS.mono_l : ∀ k, (∀ y0 y1 y2, LeO (laws_eqIntS.l0 k y0 y1 y2) (laws_eqIntS.l0 (k + 1) y0 y1 y2))
  | 0 => fun _ _ _ r h => by simp [laws_eqIntS.l0] at h
  | k + 1 => by
    have ih0 := laws_eqIntS.mono_l k
    · intro y0 y1 y2
      unfold laws_eqIntS.l0
      repeat' first
      | (with_reducible exact ih0 _ _ _)
      | (with_reducible exact LeO.refl _)
      | (with_reducible exact LeO.none _)
      | (with_reducible refine LeO.ite ?_ ?_)
      | (with_reducible refine LeO.bind ?_ (fun _ => ?_))
      | exact ih0 _ _ _
      | exact LeO.none _
      | refine LeO.ite ?_ ?_
      | refine LeO.bind ?_ (fun _ => ?_)
theorem laws_eqIntS.mono : ∀ a0 a1 k, LeO (laws_eqIntS.f k a0 a1) (laws_eqIntS.f (k + 1) a0 a1) := by
  intro a0 a1 k
  have ih0 := laws_eqIntS.mono_l k
  unfold laws_eqIntS.f
  repeat' first
      | (with_reducible exact ih0 _ _ _)
      | (with_reducible exact LeO.refl _)
      | (with_reducible exact LeO.none _)
      | (with_reducible refine LeO.ite ?_ ?_)
      | (with_reducible refine LeO.bind ?_ (fun _ => ?_))
      | exact ih0 _ _ _
      | exact LeO.none _
      | refine LeO.ite ?_ ?_
      | refine LeO.bind ?_ (fun _ => ?_)
noncomputable def laws_eqIntS.L0 (x0 : List Int) (x1 : List Int) (x5 : Int) : Option (Bool) := lim fun k => laws_eqIntS.l0 k x0 x1 x5
theorem laws_eqIntS.L0_lim (x0 : List Int) (x1 : List Int) (x5 : Int) : Lim (fun k => laws_eqIntS.l0 k x0 x1 x5) (laws_eqIntS.L0 x0 x1 x5) := ⟨fun k => (laws_eqIntS.mono_l k) x0 x1 x5, rfl⟩
noncomputable def laws_eqIntS.F (l0 : List Int) (l1 : List Int) : Option (Bool) := lim fun k => laws_eqIntS.f k l0 l1
theorem laws_eqIntS.F_lim (l0 : List Int) (l1 : List Int) : Lim (fun k => laws_eqIntS.f k l0 l1) (laws_eqIntS.F l0 l1) := ⟨laws_eqIntS.mono l0 l1, rfl⟩
theorem laws_eqIntS.L0_eq (x0 : List Int) (x1 : List Int) (x5 : Int) : laws_eqIntS.L0 x0 x1 x5 = (if x5 < (x0.length : Int) then (if 0 ≤ x5 then (if x5 < (x1.length : Int) then (if (rd x0 x5) = (rd x1 x5) then (laws_eqIntS.L0 x0 x1 (wrap64 (x5 + 1))) else (some false)) else (none)) else (none)) else (some true)) := by
  refine Lim.succ_eq (laws_eqIntS.L0_lim x0 x1 x5).mon ?_
  simp only [laws_eqIntS.l0]
  repeat' first
  | (with_reducible exact laws_eqIntS.L0_lim _ _ _)
  | (with_reducible refine Lim.ite ?_ ?_)
  | (with_reducible refine Lim.bind ?_ (fun _ => ?_))
  | (with_reducible exact Lim.const _)
theorem laws_eqIntS.F_eq (l0 : List Int) (l1 : List Int) : laws_eqIntS.F l0 l1 = (if (l0.length : Int) = (l1.length : Int) then (laws_eqIntS.L0 l0 l1 0) else (some false)) := by
  refine Lim.eq_ ?_
  simp only [laws_eqIntS.f]
  repeat' first
  | (with_reducible exact laws_eqIntS.L0_lim _ _ _)
  | (with_reducible refine Lim.ite ?_ ?_)
  | (with_reducible refine Lim.bind ?_ (fun _ => ?_))
  | (with_reducible exact Lim.const _)
def laws_eqWord.f (k : Nat) (a0_0 : ByteArray) (l0_1 : List Int) (a0_2 : Int) (a1_0 : ByteArray) (l1_1 : List Int) (a1_2 : Int) : Option (Bool) := if a0_0.toList = a1_0.toList then ((laws_eqIntS.f k l0_1 l1_1).bind fun t199 => (if t199 = true then (if a0_2 = a1_2 then (some true) else (some false)) else (some false))) else (some false)
theorem laws_eqWord.mono : ∀ a0 a1 a2 a3 a4 a5 k, LeO (laws_eqWord.f k a0 a1 a2 a3 a4 a5) (laws_eqWord.f (k + 1) a0 a1 a2 a3 a4 a5) := by
  intro a0 a1 a2 a3 a4 a5 k
  unfold laws_eqWord.f
  repeat' first
      | (with_reducible exact laws_eqIntS.mono _ _ _)
      | (with_reducible exact LeO.refl _)
      | (with_reducible exact LeO.none _)
      | (with_reducible refine LeO.ite ?_ ?_)
      | (with_reducible refine LeO.bind ?_ (fun _ => ?_))
      | exact laws_eqIntS.mono _ _ _
      | exact LeO.none _
      | refine LeO.ite ?_ ?_
      | refine LeO.bind ?_ (fun _ => ?_)
noncomputable def laws_eqWord.F (a0_0 : ByteArray) (l0_1 : List Int) (a0_2 : Int) (a1_0 : ByteArray) (l1_1 : List Int) (a1_2 : Int) : Option (Bool) := lim fun k => laws_eqWord.f k a0_0 l0_1 a0_2 a1_0 l1_1 a1_2
theorem laws_eqWord.F_lim (a0_0 : ByteArray) (l0_1 : List Int) (a0_2 : Int) (a1_0 : ByteArray) (l1_1 : List Int) (a1_2 : Int) : Lim (fun k => laws_eqWord.f k a0_0 l0_1 a0_2 a1_0 l1_1 a1_2) (laws_eqWord.F a0_0 l0_1 a0_2 a1_0 l1_1 a1_2) := ⟨laws_eqWord.mono a0_0 l0_1 a0_2 a1_0 l1_1 a1_2, rfl⟩
theorem laws_eqWord.F_eq (a0_0 : ByteArray) (l0_1 : List Int) (a0_2 : Int) (a1_0 : ByteArray) (l1_1 : List Int) (a1_2 : Int) : laws_eqWord.F a0_0 l0_1 a0_2 a1_0 l1_1 a1_2 = (if a0_0.toList = a1_0.toList then ((laws_eqIntS.F l0_1 l1_1).bind fun t199 => (if t199 = true then (if a0_2 = a1_2 then (some true) else (some false)) else (some false))) else (some false)) := by
  refine Lim.eq_ ?_
  simp only [laws_eqWord.f]
  repeat' first
  | (with_reducible exact laws_eqIntS.F_lim _ _)
  | (with_reducible refine Lim.ite ?_ ?_)
  | (with_reducible refine Lim.bind ?_ (fun _ => ?_))
  | (with_reducible exact Lim.const _)
def laws_eqWordS.l0 : Nat → List (S96) → List (S96) → Int → Option (Bool)
  | 0, _, _, _ => none
  | k + 1, x0, x1, x5 => if x5 < (x0.length : Int) then (if 0 ≤ x5 then (if x5 < (x1.length : Int) then ((laws_eqWord.f k ((rd_T96 x0 x5).f0) ((rd_T96 x0 x5).f1) ((rd_T96 x0 x5).f2) ((rd_T96 x1 x5).f0) ((rd_T96 x1 x5).f1) ((rd_T96 x1 x5).f2)).bind fun t202 => (if t202 = true then (laws_eqWordS.l0 k x0 x1 (wrap64 (x5 + 1))) else (some false))) else (none)) else (none)) else (some true)
def laws_eqWordS.f (k : Nat) (l0 : List (S96)) (l1 : List (S96)) : Option (Bool) := if (l0.length : Int) = (l1.length : Int) then (laws_eqWordS.l0 k l0 l1 0) else (some false)
theorem laws_eqWordS.mono_l : ∀ k, (∀ y0 y1 y2, LeO (laws_eqWordS.l0 k y0 y1 y2) (laws_eqWordS.l0 (k + 1) y0 y1 y2))
  | 0 => fun _ _ _ r h => by simp [laws_eqWordS.l0] at h
  | k + 1 => by
    have ih0 := laws_eqWordS.mono_l k
    · intro y0 y1 y2
      unfold laws_eqWordS.l0
      repeat' first
      | (with_reducible exact ih0 _ _ _)
      | (with_reducible exact laws_eqWord.mono _ _ _ _ _ _ _)
      | (with_reducible exact LeO.refl _)
      | (with_reducible exact LeO.none _)
      | (with_reducible refine LeO.ite ?_ ?_)
      | (with_reducible refine LeO.bind ?_ (fun _ => ?_))
      | exact ih0 _ _ _
      | exact laws_eqWord.mono _ _ _ _ _ _ _
      | exact LeO.none _
      | refine LeO.ite ?_ ?_
      | refine LeO.bind ?_ (fun _ => ?_)
theorem laws_eqWordS.mono : ∀ a0 a1 k, LeO (laws_eqWordS.f k a0 a1) (laws_eqWordS.f (k + 1) a0 a1) := by
  intro a0 a1 k
  have ih0 := laws_eqWordS.mono_l k
  unfold laws_eqWordS.f
  repeat' first
      | (with_reducible exact ih0 _ _ _)
      | (with_reducible exact laws_eqWord.mono _ _ _ _ _ _ _)
      | (with_reducible exact LeO.refl _)
      | (with_reducible exact LeO.none _)
      | (with_reducible refine LeO.ite ?_ ?_)
      | (with_reducible refine LeO.bind ?_ (fun _ => ?_))
      | exact ih0 _ _ _
      | exact laws_eqWord.mono _ _ _ _ _ _ _
      | exact LeO.none _
      | refine LeO.ite ?_ ?_
      | refine LeO.bind ?_ (fun _ => ?_)
noncomputable def laws_eqWordS.L0 (x0 : List (S96)) (x1 : List (S96)) (x5 : Int) : Option (Bool) := lim fun k => laws_eqWordS.l0 k x0 x1 x5
theorem laws_eqWordS.L0_lim (x0 : List (S96)) (x1 : List (S96)) (x5 : Int) : Lim (fun k => laws_eqWordS.l0 k x0 x1 x5) (laws_eqWordS.L0 x0 x1 x5) := ⟨fun k => (laws_eqWordS.mono_l k) x0 x1 x5, rfl⟩
noncomputable def laws_eqWordS.F (l0 : List (S96)) (l1 : List (S96)) : Option (Bool) := lim fun k => laws_eqWordS.f k l0 l1
theorem laws_eqWordS.F_lim (l0 : List (S96)) (l1 : List (S96)) : Lim (fun k => laws_eqWordS.f k l0 l1) (laws_eqWordS.F l0 l1) := ⟨laws_eqWordS.mono l0 l1, rfl⟩
theorem laws_eqWordS.L0_eq (x0 : List (S96)) (x1 : List (S96)) (x5 : Int) : laws_eqWordS.L0 x0 x1 x5 = (if x5 < (x0.length : Int) then (if 0 ≤ x5 then (if x5 < (x1.length : Int) then ((laws_eqWord.F ((rd_T96 x0 x5).f0) ((rd_T96 x0 x5).f1) ((rd_T96 x0 x5).f2) ((rd_T96 x1 x5).f0) ((rd_T96 x1 x5).f1) ((rd_T96 x1 x5).f2)).bind fun t202 => (if t202 = true then (laws_eqWordS.L0 x0 x1 (wrap64 (x5 + 1))) else (some false))) else (none)) else (none)) else (some true)) := by
  refine Lim.succ_eq (laws_eqWordS.L0_lim x0 x1 x5).mon ?_
  simp only [laws_eqWordS.l0]
  repeat' first
  | (with_reducible exact laws_eqWordS.L0_lim _ _ _)
  | (with_reducible exact laws_eqWord.F_lim _ _ _ _ _ _)
  | (with_reducible refine Lim.ite ?_ ?_)
  | (with_reducible refine Lim.bind ?_ (fun _ => ?_))
  | (with_reducible exact Lim.const _)
theorem laws_eqWordS.F_eq (l0 : List (S96)) (l1 : List (S96)) : laws_eqWordS.F l0 l1 = (if (l0.length : Int) = (l1.length : Int) then (laws_eqWordS.L0 l0 l1 0) else (some false)) := by
  refine Lim.eq_ ?_
  simp only [laws_eqWordS.f]
  repeat' first
  | (with_reducible exact laws_eqWordS.L0_lim _ _ _)
  | (with_reducible exact laws_eqWord.F_lim _ _ _ _ _ _)
  | (with_reducible refine Lim.ite ?_ ?_)
  | (with_reducible refine Lim.bind ?_ (fun _ => ?_))
  | (with_reducible exact Lim.const _)
def laws_FnExactAreWords.f (k : Nat) (l0 : List (S95)) : Option (Bool) := (laws_szWordS.f k l0 1048576).bind fun t203 => (if t203 < 0 then (some true) else ((laws_toWordS.f k l0).bind fun t204 => ((spec_AreWords.f k t204).bind fun t207 => ((laws_toWordS.f k l0).bind fun t208 => ((impl_AreWords.f k t208).bind fun t211 => (if (t211 != t207) = true then (some false) else ((laws_toWordS.f k l0).bind fun t212 => ((laws_eqWordS.f k t208 t212).bind fun t215 => (if t215 = true then (some true) else (some false))))))))))
theorem laws_FnExactAreWords.mono : ∀ a0 k, LeO (laws_FnExactAreWords.f k a0) (laws_FnExactAreWords.f (k + 1) a0) := by
  intro a0 k
  unfold laws_FnExactAreWords.f
  repeat' first
      | (with_reducible exact impl_AreWords.mono _ _)
      | (with_reducible exact laws_eqWordS.mono _ _ _)
      | (with_reducible exact laws_szWordS.mono _ _ _)
      | (with_reducible exact laws_toWordS.mono _ _)
      | (with_reducible exact spec_AreWords.mono _ _)
      | (with_reducible exact LeO.refl _)
      | (with_reducible exact LeO.none _)
      | (with_reducible refine LeO.ite ?_ ?_)
      | (with_reducible refine LeO.bind ?_ (fun _ => ?_))
      | exact impl_AreWords.mono _ _
      | exact laws_eqWordS.mono _ _ _
      | exact laws_szWordS.mono _ _ _
      | exact laws_toWordS.mono _ _
      | exact spec_AreWords.mono _ _
      | exact LeO.none _
      | refine LeO.ite ?_ ?_
      | refine LeO.bind ?_ (fun _ => ?_)
noncomputable def laws_FnExactAreWords.F (l0 : List (S95)) : Option (Bool) := lim fun k => laws_FnExactAreWords.f k l0
theorem laws_FnExactAreWords.F_lim (l0 : List (S95)) : Lim (fun k => laws_FnExactAreWords.f k l0) (laws_FnExactAreWords.F l0) := ⟨laws_FnExactAreWords.mono l0, rfl⟩
theorem laws_FnExactAreWords.F_eq (l0 : List (S95)) : laws_FnExactAreWords.F l0 = ((laws_szWordS.F l0 1048576).bind fun t203 => (if t203 < 0 then (some true) else ((laws_toWordS.F l0).bind fun t204 => ((spec_AreWords.F t204).bind fun t207 => ((laws_toWordS.F l0).bind fun t208 => ((impl_AreWords.F t208).bind fun t211 => (if (t211 != t207) = true then (some false) else ((laws_toWordS.F l0).bind fun t212 => ((laws_eqWordS.F t208 t212).bind fun t215 => (if t215 = true then (some true) else (some false))))))))))) := by
  refine Lim.eq_ ?_
  simp only [laws_FnExactAreWords.f]
  repeat' first
  | (with_reducible exact impl_AreWords.F_lim _)
  | (with_reducible exact laws_eqWordS.F_lim _ _)
  | (with_reducible exact laws_szWordS.F_lim _ _)
  | (with_reducible exact laws_toWordS.F_lim _)
  | (with_reducible exact spec_AreWords.F_lim _)
  | (with_reducible refine Lim.ite ?_ ?_)
  | (with_reducible refine Lim.bind ?_ (fun _ => ?_))
  | (with_reducible exact Lim.const _)
def Wf95 (x : S95) : Prop := x.f0.size ≤ 9223372036854775807 ∧ (x.f1.length ≤ 9223372036854775807 ∧ ∀ y_ ∈ x.f1, (Lit.int .i64 y_).wf = true) ∧ (Lit.int .i64 x.f2).wf = true
def laws_FnExactAreWords.Pure : Prop := ∀ (l0 : List (S95)), (l0.length ≤ 9223372036854775807 ∧ ∀ y_ ∈ l0, Wf95 y_) → ∃ k, laws_FnExactAreWords.f k l0 = some true
end Go.Proofs.Ytmlpogmedglncaa.PFnExactAreWords
