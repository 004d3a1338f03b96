/- Written by a program of this claim's author, out of the loaded program as Lean prints it: the functions as Lean functions, and that the calls answer so. -/
import Derived.Test.YtmongpocangocaaPFnExactNeededForx0
namespace Go.Proofs.Ytmongpocangocaa.PFnExactNeededFor
open Go.RowKit Go.Proofs.YtmongpocangocaaW.PrintWords Go.Proofs.YtmongpocangocaaW.PrintLast Go.Proofs.YtmongpocangocaaW.PrintMore
attribute [local go_sem] max2_int min2_int max_two min_two max_three min_three max_four min_four   -- for this text's walks alone
set_option linter.unusedVariables false
set_option linter.unusedSimpArgs false

def laws_szIntS.f (l0 : List Int) (a1 : Int) : Option (Int) := if (wrap64 (a1 - (l0.length : Int))) < 0 then (some (-1)) else (some (wrap64 (a1 - (l0.length : Int))))
def laws_szWord.f (a0_0 : ByteArray) (l0_1 : List Int) (a0_2 : Int) (a1 : Int) : Option (Int) := if (wrap64 (a1 - (a0_0.size : Int))) < 0 then (some (-1)) else ((laws_szIntS.f l0_1 (wrap64 (a1 - (a0_0.size : Int)))).bind fun t102 => (if t102 < 0 then (some (-1)) else (some t102)))
def laws_szWordS.l0 : Nat → List (S38) → Int → Int → Option (Int)
  | 0, _, _, _ => none
  | k + 1, x0, x1, x5 => if x5 < (x0.length : Int) then (if 0 ≤ x5 then ((laws_szWord.f ((rd_T38 x0 x5).f0) ((rd_T38 x0 x5).f1) ((rd_T38 x0 x5).f2) x1).bind fun t104 => (if t104 < 0 then (some (-1)) else (laws_szWordS.l0 k x0 t104 (wrap64 (x5 + 1))))) else (none)) else (some x1)
def laws_szWordS.f (k : Nat) (l0 : List (S38)) (a1 : Int) : Option (Int) := if (wrap64 (a1 - (l0.length : Int))) < 0 then (some (-1)) else (laws_szWordS.l0 k l0 (wrap64 (a1 - (l0.length : Int))) 0)
theorem laws_szWordS.mono_l : ∀ k, (∀ y0 y1 y2, LeO (laws_szWordS.l0 k y0 y1 y2) (laws_szWordS.l0 (k + 1) y0 y1 y2))
  | 0 => fun _ _ _ r h => by simp [laws_szWordS.l0] at h
  | k + 1 => by
    have ih0 := laws_szWordS.mono_l k
    · intro y0 y1 y2
      unfold laws_szWordS.l0
      repeat' first
      | (with_reducible exact ih0 _ _ _)
      | (with_reducible exact LeO.refl _)
      | (with_reducible exact LeO.none _)
      | (with_reducible refine LeO.ite ?_ ?_)
      | (with_reducible refine LeO.bind ?_ (fun _ => ?_))
      | exact ih0 _ _ _
      | exact LeO.none _
      | refine LeO.ite ?_ ?_
      | refine LeO.bind ?_ (fun _ => ?_)
theorem laws_szWordS.mono : ∀ a0 a1 k, LeO (laws_szWordS.f k a0 a1) (laws_szWordS.f (k + 1) a0 a1) := by
  intro a0 a1 k
  have ih0 := laws_szWordS.mono_l k
  unfold laws_szWordS.f
  repeat' first
      | (with_reducible exact ih0 _ _ _)
      | (with_reducible exact LeO.refl _)
      | (with_reducible exact LeO.none _)
      | (with_reducible refine LeO.ite ?_ ?_)
      | (with_reducible refine LeO.bind ?_ (fun _ => ?_))
      | exact ih0 _ _ _
      | exact LeO.none _
      | refine LeO.ite ?_ ?_
      | refine LeO.bind ?_ (fun _ => ?_)
noncomputable def laws_szWordS.L0 (x0 : List (S38)) (x1 : Int) (x5 : Int) : Option (Int) := lim fun k => laws_szWordS.l0 k x0 x1 x5
theorem laws_szWordS.L0_lim (x0 : List (S38)) (x1 : Int) (x5 : Int) : Lim (fun k => laws_szWordS.l0 k x0 x1 x5) (laws_szWordS.L0 x0 x1 x5) := ⟨fun k => (laws_szWordS.mono_l k) x0 x1 x5, rfl⟩
noncomputable def laws_szWordS.F (l0 : List (S38)) (a1 : Int) : Option (Int) := lim fun k => laws_szWordS.f k l0 a1
theorem laws_szWordS.F_lim (l0 : List (S38)) (a1 : Int) : Lim (fun k => laws_szWordS.f k l0 a1) (laws_szWordS.F l0 a1) := ⟨laws_szWordS.mono l0 a1, rfl⟩
theorem laws_szWordS.L0_eq (x0 : List (S38)) (x1 : Int) (x5 : Int) : laws_szWordS.L0 x0 x1 x5 = (if x5 < (x0.length : Int) then (if 0 ≤ x5 then ((laws_szWord.f ((rd_T38 x0 x5).f0) ((rd_T38 x0 x5).f1) ((rd_T38 x0 x5).f2) x1).bind fun t104 => (if t104 < 0 then (some (-1)) else (laws_szWordS.L0 x0 t104 (wrap64 (x5 + 1))))) else (none)) else (some x1)) := by
  refine Lim.succ_eq (laws_szWordS.L0_lim x0 x1 x5).mon ?_
  simp only [laws_szWordS.l0]
  repeat' first
  | (with_reducible exact laws_szWordS.L0_lim _ _ _)
  | (with_reducible refine Lim.ite ?_ ?_)
  | (with_reducible refine Lim.bind ?_ (fun _ => ?_))
  | (with_reducible exact Lim.const _)
theorem laws_szWordS.F_eq (l0 : List (S38)) (a1 : Int) : laws_szWordS.F l0 a1 = (if (wrap64 (a1 - (l0.length : Int))) < 0 then (some (-1)) else (laws_szWordS.L0 l0 (wrap64 (a1 - (l0.length : Int))) 0)) := by
  refine Lim.eq_ ?_
  simp only [laws_szWordS.f]
  repeat' first
  | (with_reducible exact laws_szWordS.L0_lim _ _ _)
  | (with_reducible refine Lim.ite ?_ ?_)
  | (with_reducible refine Lim.bind ?_ (fun _ => ?_))
  | (with_reducible exact Lim.const _)
def spec_l1In.f (a0 : Int) (a1 : Int) (a2 : Int) : Option (Bool) := if a0 ≥ a1 then (some (decide (a0 ≤ a2))) else (some false)
def spec_l1Has.l0 : Nat → Int → List Int → Int → Int → Option (Bool)
  | 0, _, _, _, _ => none
  | k + 1, x1, x7, x8, x9 => if x9 < x8 then (if 0 ≤ x9 then (if x9 < (x7.length : Int) then (if (rd x7 x9) = x1 then (some true) else (spec_l1Has.l0 k x1 x7 x8 (wrap64 (x9 + 1)))) else (none)) else (none)) else (some false)
def spec_l1Has.f (k : Nat) (l0 : List Int) (a1 : Int) : Option (Bool) := spec_l1Has.l0 k a1 l0 (l0.length : Int) 0
theorem spec_l1Has.mono_l : ∀ k, (∀ y0 y1 y2 y3, LeO (spec_l1Has.l0 k y0 y1 y2 y3) (spec_l1Has.l0 (k + 1) y0 y1 y2 y3))
  | 0 => fun _ _ _ _ r h => by simp [spec_l1Has.l0] at h
  | k + 1 => by
    have ih0 := spec_l1Has.mono_l k
    · intro y0 y1 y2 y3
      unfold spec_l1Has.l0
      repeat' first
      | (with_reducible exact ih0 _ _ _ _)
      | (with_reducible exact LeO.refl _)
      | (with_reducible exact LeO.none _)
      | (with_reducible refine LeO.ite ?_ ?_)
      | (with_reducible refine LeO.bind ?_ (fun _ => ?_))
      | exact ih0 _ _ _ _
      | exact LeO.none _
      | refine LeO.ite ?_ ?_
      | refine LeO.bind ?_ (fun _ => ?_)
theorem spec_l1Has.mono : ∀ a0 a1 k, LeO (spec_l1Has.f k a0 a1) (spec_l1Has.f (k + 1) a0 a1) := by
  intro a0 a1 k
  have ih0 := spec_l1Has.mono_l k
  unfold spec_l1Has.f
  repeat' first
      | (with_reducible exact ih0 _ _ _ _)
      | (with_reducible exact LeO.refl _)
      | (with_reducible exact LeO.none _)
      | (with_reducible refine LeO.ite ?_ ?_)
      | (with_reducible refine LeO.bind ?_ (fun _ => ?_))
      | exact ih0 _ _ _ _
      | exact LeO.none _
      | refine LeO.ite ?_ ?_
      | refine LeO.bind ?_ (fun _ => ?_)
noncomputable def spec_l1Has.L0 (x1 : Int) (x7 : List Int) (x8 : Int) (x9 : Int) : Option (Bool) := lim fun k => spec_l1Has.l0 k x1 x7 x8 x9
theorem spec_l1Has.L0_lim (x1 : Int) (x7 : List Int) (x8 : Int) (x9 : Int) : Lim (fun k => spec_l1Has.l0 k x1 x7 x8 x9) (spec_l1Has.L0 x1 x7 x8 x9) := ⟨fun k => (spec_l1Has.mono_l k) x1 x7 x8 x9, rfl⟩
noncomputable def spec_l1Has.F (l0 : List Int) (a1 : Int) : Option (Bool) := lim fun k => spec_l1Has.f k l0 a1
theorem spec_l1Has.F_lim (l0 : List Int) (a1 : Int) : Lim (fun k => spec_l1Has.f k l0 a1) (spec_l1Has.F l0 a1) := ⟨spec_l1Has.mono l0 a1, rfl⟩
theorem spec_l1Has.L0_eq (x1 : Int) (x7 : List Int) (x8 : Int) (x9 : Int) : spec_l1Has.L0 x1 x7 x8 x9 = (if x9 < x8 then (if 0 ≤ x9 then (if x9 < (x7.length : Int) then (if (rd x7 x9) = x1 then (some true) else (spec_l1Has.L0 x1 x7 x8 (wrap64 (x9 + 1)))) else (none)) else (none)) else (some false)) := by
  refine Lim.succ_eq (spec_l1Has.L0_lim x1 x7 x8 x9).mon ?_
  simp only [spec_l1Has.l0]
  repeat' first
  | (with_reducible exact spec_l1Has.L0_lim _ _ _ _)
  | (with_reducible refine Lim.ite ?_ ?_)
  | (with_reducible refine Lim.bind ?_ (fun _ => ?_))
  | (with_reducible exact Lim.const _)
theorem spec_l1Has.F_eq (l0 : List Int) (a1 : Int) : spec_l1Has.F l0 a1 = (spec_l1Has.L0 a1 l0 (l0.length : Int) 0) := by
  refine Lim.eq_ ?_
  simp only [spec_l1Has.f]
  repeat' first
  | (with_reducible exact spec_l1Has.L0_lim _ _ _ _)
  | (with_reducible refine Lim.ite ?_ ?_)
  | (with_reducible refine Lim.bind ?_ (fun _ => ?_))
  | (with_reducible exact Lim.const _)
def spec_enGloss.l0 : Nat → ByteArray → Int → Option (Bool)
  | 0, _, _ => none
  | k + 1, x0, x3 => if x3 < (x0.size : Int) then (if 0 ≤ x3 then (if (bt x0 x3) < 65 then (some false) else (if (bt x0 x3) > 90 then (some false) else (spec_enGloss.l0 k x0 (wrap64 (x3 + 1))))) else (none)) else ((spec_l1In.f (x0.size : Int) 1 8).bind fun t106 => (some t106))
def spec_enGloss.f (k : Nat) (a0 : ByteArray) : Option (Bool) := spec_enGloss.l0 k a0 0
theorem spec_enGloss.mono_l : ∀ k, (∀ y0 y1, LeO (spec_enGloss.l0 k y0 y1) (spec_enGloss.l0 (k + 1) y0 y1))
  | 0 => fun _ _ r h => by simp [spec_enGloss.l0] at h
  | k + 1 => by
    have ih0 := spec_enGloss.mono_l k
    · intro y0 y1
      unfold spec_enGloss.l0
      repeat' first
      | (with_reducible exact ih0 _ _)
      | (with_reducible exact LeO.refl _)
      | (with_reducible exact LeO.none _)
      | (with_reducible refine LeO.ite ?_ ?_)
      | (with_reducible refine LeO.bind ?_ (fun _ => ?_))
      | exact ih0 _ _
      | exact LeO.none _
      | refine LeO.ite ?_ ?_
      | refine LeO.bind ?_ (fun _ => ?_)
theorem spec_enGloss.mono : ∀ a0 k, LeO (spec_enGloss.f k a0) (spec_enGloss.f (k + 1) a0) := by
  intro a0 k
  have ih0 := spec_enGloss.mono_l k
  unfold spec_enGloss.f
  repeat' first
      | (with_reducible exact ih0 _ _)
      | (with_reducible exact LeO.refl _)
      | (with_reducible exact LeO.none _)
      | (with_reducible refine LeO.ite ?_ ?_)
      | (with_reducible refine LeO.bind ?_ (fun _ => ?_))
      | exact ih0 _ _
      | exact LeO.none _
      | refine LeO.ite ?_ ?_
      | refine LeO.bind ?_ (fun _ => ?_)
noncomputable def spec_enGloss.L0 (x0 : ByteArray) (x3 : Int) : Option (Bool) := lim fun k => spec_enGloss.l0 k x0 x3
theorem spec_enGloss.L0_lim (x0 : ByteArray) (x3 : Int) : Lim (fun k => spec_enGloss.l0 k x0 x3) (spec_enGloss.L0 x0 x3) := ⟨fun k => (spec_enGloss.mono_l k) x0 x3, rfl⟩
noncomputable def spec_enGloss.F (a0 : ByteArray) : Option (Bool) := lim fun k => spec_enGloss.f k a0
theorem spec_enGloss.F_lim (a0 : ByteArray) : Lim (fun k => spec_enGloss.f k a0) (spec_enGloss.F a0) := ⟨spec_enGloss.mono a0, rfl⟩
theorem spec_enGloss.L0_eq (x0 : ByteArray) (x3 : Int) : spec_enGloss.L0 x0 x3 = (if x3 < (x0.size : Int) then (if 0 ≤ x3 then (if (bt x0 x3) < 65 then (some false) else (if (bt x0 x3) > 90 then (some false) else (spec_enGloss.L0 x0 (wrap64 (x3 + 1))))) else (none)) else ((spec_l1In.f (x0.size : Int) 1 8).bind fun t106 => (some t106))) := by
  refine Lim.succ_eq (spec_enGloss.L0_lim x0 x3).mon ?_
  simp only [spec_enGloss.l0]
  repeat' first
  | (with_reducible exact spec_enGloss.L0_lim _ _)
  | (with_reducible refine Lim.ite ?_ ?_)
  | (with_reducible refine Lim.bind ?_ (fun _ => ?_))
  | (with_reducible exact Lim.const _)
theorem spec_enGloss.F_eq (a0 : ByteArray) : spec_enGloss.F a0 = (spec_enGloss.L0 a0 0) := by
  refine Lim.eq_ ?_
  simp only [spec_enGloss.f]
  repeat' first
  | (with_reducible exact spec_enGloss.L0_lim _ _)
  | (with_reducible refine Lim.ite ?_ ?_)
  | (with_reducible refine Lim.bind ?_ (fun _ => ?_))
  | (with_reducible exact Lim.const _)
def spec_l1Rising.l0 : Nat → List Int → Int → Int → List Int → Int → Int → Option (Bool)
  | 0, _, _, _, _, _, _ => none
  | k + 1, x0, x1, x2, x9, x10, x11 => if x11 < x10 then (if 0 ≤ x11 then (if x11 < (x9.length : Int) then ((spec_l1In.f (rd x9 x11) x1 x2).bind fun t108 => (if t108 = true then (if x11 > 0 then (if 0 ≤ (wrap64 (x11 - 1)) then (if (wrap64 (x11 - 1)) < (x0.length : Int) then (if (rd x0 (wrap64 (x11 - 1))) ≥ (rd x9 x11) then (some false) else (spec_l1Rising.l0 k x0 x1 x2 x9 x10 (wrap64 (x11 + 1)))) else (none)) else (none)) else (spec_l1Rising.l0 k x0 x1 x2 x9 x10 (wrap64 (x11 + 1)))) else (some false))) else (none)) else (none)) else (some true)
def spec_l1Rising.f (k : Nat) (l0 : List Int) (a1 : Int) (a2 : Int) : Option (Bool) := spec_l1Rising.l0 k l0 a1 a2 l0 (l0.length : Int) 0
theorem spec_l1Rising.mono_l : ∀ k, (∀ y0 y1 y2 y3 y4 y5, LeO (spec_l1Rising.l0 k y0 y1 y2 y3 y4 y5) (spec_l1Rising.l0 (k + 1) y0 y1 y2 y3 y4 y5))
  | 0 => fun _ _ _ _ _ _ r h => by simp [spec_l1Rising.l0] at h
  | k + 1 => by
    have ih0 := spec_l1Rising.mono_l k
    · intro y0 y1 y2 y3 y4 y5
      unfold spec_l1Rising.l0
      repeat' first
      | (with_reducible exact ih0 _ _ _ _ _ _)
      | (with_reducible exact LeO.refl _)
      | (with_reducible exact LeO.none _)
      | (with_reducible refine LeO.ite ?_ ?_)
      | (with_reducible refine LeO.bind ?_ (fun _ => ?_))
      | exact ih0 _ _ _ _ _ _
      | exact LeO.none _
      | refine LeO.ite ?_ ?_
      | refine LeO.bind ?_ (fun _ => ?_)
theorem spec_l1Rising.mono : ∀ a0 a1 a2 k, LeO (spec_l1Rising.f k a0 a1 a2) (spec_l1Rising.f (k + 1) a0 a1 a2) := by
  intro a0 a1 a2 k
  have ih0 := spec_l1Rising.mono_l k
  unfold spec_l1Rising.f
  repeat' first
      | (with_reducible exact ih0 _ _ _ _ _ _)
      | (with_reducible exact LeO.refl _)
      | (with_reducible exact LeO.none _)
      | (with_reducible refine LeO.ite ?_ ?_)
      | (with_reducible refine LeO.bind ?_ (fun _ => ?_))
      | exact ih0 _ _ _ _ _ _
      | exact LeO.none _
      | refine LeO.ite ?_ ?_
      | refine LeO.bind ?_ (fun _ => ?_)
noncomputable def spec_l1Rising.L0 (x0 : List Int) (x1 : Int) (x2 : Int) (x9 : List Int) (x10 : Int) (x11 : Int) : Option (Bool) := lim fun k => spec_l1Rising.l0 k x0 x1 x2 x9 x10 x11
theorem spec_l1Rising.L0_lim (x0 : List Int) (x1 : Int) (x2 : Int) (x9 : List Int) (x10 : Int) (x11 : Int) : Lim (fun k => spec_l1Rising.l0 k x0 x1 x2 x9 x10 x11) (spec_l1Rising.L0 x0 x1 x2 x9 x10 x11) := ⟨fun k => (spec_l1Rising.mono_l k) x0 x1 x2 x9 x10 x11, rfl⟩
noncomputable def spec_l1Rising.F (l0 : List Int) (a1 : Int) (a2 : Int) : Option (Bool) := lim fun k => spec_l1Rising.f k l0 a1 a2
theorem spec_l1Rising.F_lim (l0 : List Int) (a1 : Int) (a2 : Int) : Lim (fun k => spec_l1Rising.f k l0 a1 a2) (spec_l1Rising.F l0 a1 a2) := ⟨spec_l1Rising.mono l0 a1 a2, rfl⟩
theorem spec_l1Rising.L0_eq (x0 : List Int) (x1 : Int) (x2 : Int) (x9 : List Int) (x10 : Int) (x11 : Int) : spec_l1Rising.L0 x0 x1 x2 x9 x10 x11 = (if x11 < x10 then (if 0 ≤ x11 then (if x11 < (x9.length : Int) then ((spec_l1In.f (rd x9 x11) x1 x2).bind fun t108 => (if t108 = true then (if x11 > 0 then (if 0 ≤ (wrap64 (x11 - 1)) then (if (wrap64 (x11 - 1)) < (x0.length : Int) then (if (rd x0 (wrap64 (x11 - 1))) ≥ (rd x9 x11) then (some false) else (spec_l1Rising.L0 x0 x1 x2 x9 x10 (wrap64 (x11 + 1)))) else (none)) else (none)) else (spec_l1Rising.L0 x0 x1 x2 x9 x10 (wrap64 (x11 + 1)))) else (some false))) else (none)) else (none)) else (some true)) := by
  refine Lim.succ_eq (spec_l1Rising.L0_lim x0 x1 x2 x9 x10 x11).mon ?_
  simp only [spec_l1Rising.l0]
  repeat' first
  | (with_reducible exact spec_l1Rising.L0_lim _ _ _ _ _ _)
  | (with_reducible refine Lim.ite ?_ ?_)
  | (with_reducible refine Lim.bind ?_ (fun _ => ?_))
  | (with_reducible exact Lim.const _)
theorem spec_l1Rising.F_eq (l0 : List Int) (a1 : Int) (a2 : Int) : spec_l1Rising.F l0 a1 a2 = (spec_l1Rising.L0 l0 a1 a2 l0 (l0.length : Int) 0) := by
  refine Lim.eq_ ?_
  simp only [spec_l1Rising.f]
  repeat' first
  | (with_reducible exact spec_l1Rising.L0_lim _ _ _ _ _ _)
  | (with_reducible refine Lim.ite ?_ ?_)
  | (with_reducible refine Lim.bind ?_ (fun _ => ?_))
  | (with_reducible exact Lim.const _)
mutual
def spec_leGood.l0 : Nat → List (S43) → List (S43) → Int → Int → Option (Bool)
  | 0, _, _, _, _ => none
  | k + 1, x0, x7, x8, x9 => if x9 < x8 then (if 0 ≤ x9 then (if x9 < (x7.length : Int) then ((spec_enGloss.f k ((rd_T43 x7 x9).f0)).bind fun t112 => (if t112 = true then ((spec_l1Rising.f k ((rd_T43 x7 x9).f1) 0 (wrap64 ((x0.length : Int) - 1))).bind fun t113 => (if t113 = true then ((spec_l1Has.f k ((rd_T43 x7 x9).f1) x9).bind fun t114 => (if t114 = true then (spec_leGood.j1 k x0 x9 x7 x8 x9 true ((rd_T43 x7 x9).f0) ((rd_T43 x7 x9).f1) ((rd_T43 x7 x9).f2)) else ((spec_l1In.f ((rd_T43 x7 x9).f2) 0 99999).bind fun t115 => (spec_leGood.j1 k x0 x9 x7 x8 x9 (!t115) ((rd_T43 x7 x9).f0) ((rd_T43 x7 x9).f1) ((rd_T43 x7 x9).f2))))) else (spec_leGood.j1 k x0 x9 x7 x8 x9 true ((rd_T43 x7 x9).f0) ((rd_T43 x7 x9).f1) ((rd_T43 x7 x9).f2)))) else (spec_leGood.j1 k x0 x9 x7 x8 x9 true ((rd_T43 x7 x9).f0) ((rd_T43 x7 x9).f1) ((rd_T43 x7 x9).f2)))) else (none)) else (none)) else (some (decide ((x0.length : Int) ≤ 16)))
def spec_leGood.j1 : Nat → List (S43) → Int → List (S43) → Int → Int → Bool → ByteArray → List Int → Int → Option (Bool)
  | 0, _, _, _, _, _, _, _, _, _ => none
  | k + 1, x0, x3, x7, x8, x9, x38, x112000, x112001, x112002 => if x38 = true then (some false) else (if 0 ≤ x3 then (if x3 ≤ (x0.length : Int) then ((some (x0.take (x3 : Int).toNat : List (S43))).bind fun y116 => (spec_leGood.l1 k x0 x7 x8 x9 y116 (y116.length : Int) 0 x112000 x112001 x112002)) else (none)) else (none))
def spec_leGood.l1 : Nat → List (S43) → List (S43) → Int → Int → List (S43) → Int → Int → ByteArray → List Int → Int → Option (Bool)
  | 0, _, _, _, _, _, _, _, _, _, _ => none
  | k + 1, x0, x7, x8, x9, x41, x42, x43, x112000, x112001, x112002 => if x43 < x42 then (if 0 ≤ x43 then (if x43 < (x41.length : Int) then (if ((rd_T43 x41 x43).f0).toList = x112000.toList then (some false) else (spec_leGood.l1 k x0 x7 x8 x9 x41 x42 (wrap64 (x43 + 1)) x112000 x112001 x112002)) else (none)) else (none)) else (spec_leGood.l0 k x0 x7 x8 (wrap64 (x9 + 1)))
end
def spec_leGood.f (k : Nat) (l0 : List (S43)) : Option (Bool) := spec_leGood.l0 k l0 l0 (l0.length : Int) 0
theorem spec_leGood.mono_l : ∀ k, (∀ y0 y1 y2 y3, LeO (spec_leGood.l0 k y0 y1 y2 y3) (spec_leGood.l0 (k + 1) y0 y1 y2 y3)) ∧ (∀ y0 y1 y2 y3 y4 y5 y6 y7 y8, LeO (spec_leGood.j1 k y0 y1 y2 y3 y4 y5 y6 y7 y8) (spec_leGood.j1 (k + 1) y0 y1 y2 y3 y4 y5 y6 y7 y8)) ∧ (∀ y0 y1 y2 y3 y4 y5 y6 y7 y8 y9, LeO (spec_leGood.l1 k y0 y1 y2 y3 y4 y5 y6 y7 y8 y9) (spec_leGood.l1 (k + 1) y0 y1 y2 y3 y4 y5 y6 y7 y8 y9))
  | 0 => ⟨fun _ _ _ _ r h => by simp [spec_leGood.l0] at h, fun _ _ _ _ _ _ _ _ _ r h => by simp [spec_leGood.j1] at h, fun _ _ _ _ _ _ _ _ _ _ r h => by simp [spec_leGood.l1] at h⟩
  | k + 1 => by
    obtain ⟨ih0, ih1, ih2⟩ := spec_leGood.mono_l k
    refine ⟨?_, ?_, ?_⟩
    · intro y0 y1 y2 y3
      unfold spec_leGood.l0
      repeat' first
      | (with_reducible exact ih0 _ _ _ _)
      | (with_reducible exact ih1 _ _ _ _ _ _ _ _ _)
      | (with_reducible exact ih2 _ _ _ _ _ _ _ _ _ _)
      | (with_reducible exact spec_enGloss.mono _ _)
      | (with_reducible exact spec_l1Has.mono _ _ _)
      | (with_reducible exact spec_l1Rising.mono _ _ _ _)
      | (with_reducible exact LeO.refl _)
      | (with_reducible exact LeO.none _)
      | (with_reducible refine LeO.ite ?_ ?_)
      | (with_reducible refine LeO.bind ?_ (fun _ => ?_))
      | exact ih0 _ _ _ _
      | exact ih1 _ _ _ _ _ _ _ _ _
      | exact ih2 _ _ _ _ _ _ _ _ _ _
      | exact spec_enGloss.mono _ _
      | exact spec_l1Has.mono _ _ _
      | exact spec_l1Rising.mono _ _ _ _
      | exact LeO.none _
      | refine LeO.ite ?_ ?_
      | refine LeO.bind ?_ (fun _ => ?_)
    · intro y0 y1 y2 y3 y4 y5 y6 y7 y8
      unfold spec_leGood.j1
      repeat' first
      | (with_reducible exact ih0 _ _ _ _)
      | (with_reducible exact ih1 _ _ _ _ _ _ _ _ _)
      | (with_reducible exact ih2 _ _ _ _ _ _ _ _ _ _)
      | (with_reducible exact spec_enGloss.mono _ _)
      | (with_reducible exact spec_l1Has.mono _ _ _)
      | (with_reducible exact spec_l1Rising.mono _ _ _ _)
      | (with_reducible exact LeO.refl _)
      | (with_reducible exact LeO.none _)
      | (with_reducible refine LeO.ite ?_ ?_)
      | (with_reducible refine LeO.bind ?_ (fun _ => ?_))
      | exact ih0 _ _ _ _
      | exact ih1 _ _ _ _ _ _ _ _ _
      | exact ih2 _ _ _ _ _ _ _ _ _ _
      | exact spec_enGloss.mono _ _
      | exact spec_l1Has.mono _ _ _
      | exact spec_l1Rising.mono _ _ _ _
      | exact LeO.none _
      | refine LeO.ite ?_ ?_
      | refine LeO.bind ?_ (fun _ => ?_)
    · intro y0 y1 y2 y3 y4 y5 y6 y7 y8 y9
      unfold spec_leGood.l1
      repeat' first
      | (with_reducible exact ih0 _ _ _ _)
      | (with_reducible exact ih1 _ _ _ _ _ _ _ _ _)
      | (with_reducible exact ih2 _ _ _ _ _ _ _ _ _ _)
      | (with_reducible exact spec_enGloss.mono _ _)
      | (with_reducible exact spec_l1Has.mono _ _ _)
      | (with_reducible exact spec_l1Rising.mono _ _ _ _)
      | (with_reducible exact LeO.refl _)
      | (with_reducible exact LeO.none _)
      | (with_reducible refine LeO.ite ?_ ?_)
      | (with_reducible refine LeO.bind ?_ (fun _ => ?_))
      | exact ih0 _ _ _ _
      | exact ih1 _ _ _ _ _ _ _ _ _
      | exact ih2 _ _ _ _ _ _ _ _ _ _
      | exact spec_enGloss.mono _ _
      | exact spec_l1Has.mono _ _ _
      | exact spec_l1Rising.mono _ _ _ _
      | exact LeO.none _
      | refine LeO.ite ?_ ?_
      | refine LeO.bind ?_ (fun _ => ?_)
theorem spec_leGood.mono : ∀ a0 k, LeO (spec_leGood.f k a0) (spec_leGood.f (k + 1) a0) := by
  intro a0 k
  obtain ⟨ih0, ih1, ih2⟩ := spec_leGood.mono_l k
  unfold spec_leGood.f
  repeat' first
      | (with_reducible exact ih0 _ _ _ _)
      | (with_reducible exact ih1 _ _ _ _ _ _ _ _ _)
      | (with_reducible exact ih2 _ _ _ _ _ _ _ _ _ _)
      | (with_reducible exact spec_enGloss.mono _ _)
      | (with_reducible exact spec_l1Has.mono _ _ _)
      | (with_reducible exact spec_l1Rising.mono _ _ _ _)
      | (with_reducible exact LeO.refl _)
      | (with_reducible exact LeO.none _)
      | (with_reducible refine LeO.ite ?_ ?_)
      | (with_reducible refine LeO.bind ?_ (fun _ => ?_))
      | exact ih0 _ _ _ _
      | exact ih1 _ _ _ _ _ _ _ _ _
      | exact ih2 _ _ _ _ _ _ _ _ _ _
      | exact spec_enGloss.mono _ _
      | exact spec_l1Has.mono _ _ _
      | exact spec_l1Rising.mono _ _ _ _
      | exact LeO.none _
      | refine LeO.ite ?_ ?_
      | refine LeO.bind ?_ (fun _ => ?_)
noncomputable def spec_leGood.L0 (x0 : List (S43)) (x7 : List (S43)) (x8 : Int) (x9 : Int) : Option (Bool) := lim fun k => spec_leGood.l0 k x0 x7 x8 x9
theorem spec_leGood.L0_lim (x0 : List (S43)) (x7 : List (S43)) (x8 : Int) (x9 : Int) : Lim (fun k => spec_leGood.l0 k x0 x7 x8 x9) (spec_leGood.L0 x0 x7 x8 x9) := ⟨fun k => (spec_leGood.mono_l k).1 x0 x7 x8 x9, rfl⟩
noncomputable def spec_leGood.J1 (x0 : List (S43)) (x3 : Int) (x7 : List (S43)) (x8 : Int) (x9 : Int) (x38 : Bool) (x112000 : ByteArray) (x112001 : List Int) (x112002 : Int) : Option (Bool) := lim fun k => spec_leGood.j1 k x0 x3 x7 x8 x9 x38 x112000 x112001 x112002
theorem spec_leGood.J1_lim (x0 : List (S43)) (x3 : Int) (x7 : List (S43)) (x8 : Int) (x9 : Int) (x38 : Bool) (x112000 : ByteArray) (x112001 : List Int) (x112002 : Int) : Lim (fun k => spec_leGood.j1 k x0 x3 x7 x8 x9 x38 x112000 x112001 x112002) (spec_leGood.J1 x0 x3 x7 x8 x9 x38 x112000 x112001 x112002) := ⟨fun k => (spec_leGood.mono_l k).2.1 x0 x3 x7 x8 x9 x38 x112000 x112001 x112002, rfl⟩
noncomputable def spec_leGood.L1 (x0 : List (S43)) (x7 : List (S43)) (x8 : Int) (x9 : Int) (x41 : List (S43)) (x42 : Int) (x43 : Int) (x112000 : ByteArray) (x112001 : List Int) (x112002 : Int) : Option (Bool) := lim fun k => spec_leGood.l1 k x0 x7 x8 x9 x41 x42 x43 x112000 x112001 x112002
theorem spec_leGood.L1_lim (x0 : List (S43)) (x7 : List (S43)) (x8 : Int) (x9 : Int) (x41 : List (S43)) (x42 : Int) (x43 : Int) (x112000 : ByteArray) (x112001 : List Int) (x112002 : Int) : Lim (fun k => spec_leGood.l1 k x0 x7 x8 x9 x41 x42 x43 x112000 x112001 x112002) (spec_leGood.L1 x0 x7 x8 x9 x41 x42 x43 x112000 x112001 x112002) := ⟨fun k => (spec_leGood.mono_l k).2.2 x0 x7 x8 x9 x41 x42 x43 x112000 x112001 x112002, rfl⟩
noncomputable def spec_leGood.F (l0 : List (S43)) : Option (Bool) := lim fun k => spec_leGood.f k l0
theorem spec_leGood.F_lim (l0 : List (S43)) : Lim (fun k => spec_leGood.f k l0) (spec_leGood.F l0) := ⟨spec_leGood.mono l0, rfl⟩
theorem spec_leGood.L0_eq (x0 : List (S43)) (x7 : List (S43)) (x8 : Int) (x9 : Int) : spec_leGood.L0 x0 x7 x8 x9 = (if x9 < x8 then (if 0 ≤ x9 then (if x9 < (x7.length : Int) then ((spec_enGloss.F ((rd_T43 x7 x9).f0)).bind fun t112 => (if t112 = true then ((spec_l1Rising.F ((rd_T43 x7 x9).f1) 0 (wrap64 ((x0.length : Int) - 1))).bind fun t113 => (if t113 = true then ((spec_l1Has.F ((rd_T43 x7 x9).f1) x9).bind fun t114 => (if t114 = true then (spec_leGood.J1 x0 x9 x7 x8 x9 true ((rd_T43 x7 x9).f0) ((rd_T43 x7 x9).f1) ((rd_T43 x7 x9).f2)) else ((spec_l1In.f ((rd_T43 x7 x9).f2) 0 99999).bind fun t115 => (spec_leGood.J1 x0 x9 x7 x8 x9 (!t115) ((rd_T43 x7 x9).f0) ((rd_T43 x7 x9).f1) ((rd_T43 x7 x9).f2))))) else (spec_leGood.J1 x0 x9 x7 x8 x9 true ((rd_T43 x7 x9).f0) ((rd_T43 x7 x9).f1) ((rd_T43 x7 x9).f2)))) else (spec_leGood.J1 x0 x9 x7 x8 x9 true ((rd_T43 x7 x9).f0) ((rd_T43 x7 x9).f1) ((rd_T43 x7 x9).f2)))) else (none)) else (none)) else (some (decide ((x0.length : Int) ≤ 16)))) := by
  refine Lim.succ_eq (spec_leGood.L0_lim x0 x7 x8 x9).mon ?_
  simp only [spec_leGood.l0]
  repeat' first
  | (with_reducible exact spec_leGood.L0_lim _ _ _ _)
  | (with_reducible exact spec_leGood.J1_lim _ _ _ _ _ _ _ _ _)
  | (with_reducible exact spec_leGood.L1_lim _ _ _ _ _ _ _ _ _ _)
  | (with_reducible exact spec_enGloss.F_lim _)
  | (with_reducible exact spec_l1Has.F_lim _ _)
  | (with_reducible exact spec_l1Rising.F_lim _ _ _)
  | (with_reducible refine Lim.ite ?_ ?_)
  | (with_reducible refine Lim.bind ?_ (fun _ => ?_))
  | (with_reducible exact Lim.const _)
theorem spec_leGood.J1_eq (x0 : List (S43)) (x3 : Int) (x7 : List (S43)) (x8 : Int) (x9 : Int) (x38 : Bool) (x112000 : ByteArray) (x112001 : List Int) (x112002 : Int) : spec_leGood.J1 x0 x3 x7 x8 x9 x38 x112000 x112001 x112002 = (if x38 = true then (some false) else (if 0 ≤ x3 then (if x3 ≤ (x0.length : Int) then ((some (x0.take (x3 : Int).toNat : List (S43))).bind fun y116 => (spec_leGood.L1 x0 x7 x8 x9 y116 (y116.length : Int) 0 x112000 x112001 x112002)) else (none)) else (none))) := by
  refine Lim.succ_eq (spec_leGood.J1_lim x0 x3 x7 x8 x9 x38 x112000 x112001 x112002).mon ?_
  simp only [spec_leGood.j1]
  repeat' first
  | (with_reducible exact spec_leGood.L0_lim _ _ _ _)
  | (with_reducible exact spec_leGood.J1_lim _ _ _ _ _ _ _ _ _)
  | (with_reducible exact spec_leGood.L1_lim _ _ _ _ _ _ _ _ _ _)
  | (with_reducible exact spec_enGloss.F_lim _)
  | (with_reducible exact spec_l1Has.F_lim _ _)
  | (with_reducible exact spec_l1Rising.F_lim _ _ _)
  | (with_reducible refine Lim.ite ?_ ?_)
  | (with_reducible refine Lim.bind ?_ (fun _ => ?_))
  | (with_reducible exact Lim.const _)
theorem spec_leGood.L1_eq (x0 : List (S43)) (x7 : List (S43)) (x8 : Int) (x9 : Int) (x41 : List (S43)) (x42 : Int) (x43 : Int) (x112000 : ByteArray) (x112001 : List Int) (x112002 : Int) : spec_leGood.L1 x0 x7 x8 x9 x41 x42 x43 x112000 x112001 x112002 = (if x43 < x42 then (if 0 ≤ x43 then (if x43 < (x41.length : Int) then (if ((rd_T43 x41 x43).f0).toList = x112000.toList then (some false) else (spec_leGood.L1 x0 x7 x8 x9 x41 x42 (wrap64 (x43 + 1)) x112000 x112001 x112002)) else (none)) else (none)) else (spec_leGood.L0 x0 x7 x8 (wrap64 (x9 + 1)))) := by
  refine Lim.succ_eq (spec_leGood.L1_lim x0 x7 x8 x9 x41 x42 x43 x112000 x112001 x112002).mon ?_
  simp only [spec_leGood.l1]
  repeat' first
  | (with_reducible exact spec_leGood.L0_lim _ _ _ _)
  | (with_reducible exact spec_leGood.J1_lim _ _ _ _ _ _ _ _ _)
  | (with_reducible exact spec_leGood.L1_lim _ _ _ _ _ _ _ _ _ _)
  | (with_reducible exact spec_enGloss.F_lim _)
  | (with_reducible exact spec_l1Has.F_lim _ _)
  | (with_reducible exact spec_l1Rising.F_lim _ _ _)
  | (with_reducible refine Lim.ite ?_ ?_)
  | (with_reducible refine Lim.bind ?_ (fun _ => ?_))
  | (with_reducible exact Lim.const _)
theorem spec_leGood.F_eq (l0 : List (S43)) : spec_leGood.F l0 = (spec_leGood.L0 l0 l0 (l0.length : Int) 0) := by
  refine Lim.eq_ ?_
  simp only [spec_leGood.f]
  repeat' first
  | (with_reducible exact spec_leGood.L0_lim _ _ _ _)
  | (with_reducible exact spec_leGood.J1_lim _ _ _ _ _ _ _ _ _)
  | (with_reducible exact spec_leGood.L1_lim _ _ _ _ _ _ _ _ _ _)
  | (with_reducible exact spec_enGloss.F_lim _)
  | (with_reducible exact spec_l1Has.F_lim _ _)
  | (with_reducible exact spec_l1Rising.F_lim _ _ _)
  | (with_reducible refine Lim.ite ?_ ?_)
  | (with_reducible refine Lim.bind ?_ (fun _ => ?_))
  | (with_reducible exact Lim.const _)
def spec_l1Own.f (l0 : List Int) : Option (List Int) := (some (([] : List Int) : List Int)).bind fun y122 => (if y122.length + l0.length < 17592186044416 then (some (y122 ++ l0)) else (none))
def spec_l1Put.l0 : Nat → List Int → Int → Int → Option (List Int)
  | 0, _, _, _ => none
  | k + 1, x0, x1, x5 => if x5 < (x0.length : Int) then (if 0 ≤ x5 then (if (rd x0 x5) < x1 then (spec_l1Put.l0 k x0 x1 (wrap64 (x5 + 1))) else (if (rd x0 x5) = x1 then (some x0) else ((some (([] : List Int) : List Int)).bind fun y130 => (if x5 ≤ (x0.length : Int) then ((some (x0.take (x5 : Int).toNat : List Int)).bind fun y133 => (if y130.length + y133.length < 17592186044416 then ((some (y130 ++ y133 : List Int)).bind fun y137 => (if y137.length < 17592186044416 then ((some (y137 ++ [x1] : List Int)).bind fun y140 => ((some (x0.drop (x5 : Int).toNat : List Int)).bind fun y143 => (if y140.length + y143.length < 17592186044416 then (some (y140 ++ y143)) else (none)))) else (none))) else (none))) else (none))))) else (none)) else ((some (([] : List Int) : List Int)).bind fun y150 => (if 0 ≤ x5 then (if x5 ≤ (x0.length : Int) then ((some (x0.take (x5 : Int).toNat : List Int)).bind fun y153 => (if y150.length + y153.length < 17592186044416 then ((some (y150 ++ y153 : List Int)).bind fun y157 => (if y157.length < 17592186044416 then ((some (y157 ++ [x1] : List Int)).bind fun y160 => ((some (x0.drop (x5 : Int).toNat : List Int)).bind fun y163 => (if y160.length + y163.length < 17592186044416 then (some (y160 ++ y163)) else (none)))) else (none))) else (none))) else (none)) else (none)))
def spec_l1Put.f (k : Nat) (l0 : List Int) (a1 : Int) : Option (List Int) := spec_l1Put.l0 k l0 a1 0
theorem spec_l1Put.mono_l : ∀ k, (∀ y0 y1 y2, LeO (spec_l1Put.l0 k y0 y1 y2) (spec_l1Put.l0 (k + 1) y0 y1 y2))
  | 0 => fun _ _ _ r h => by simp [spec_l1Put.l0] at h
  | k + 1 => by
    have ih0 := spec_l1Put.mono_l k
    · intro y0 y1 y2
      unfold spec_l1Put.l0
      repeat' first
      | (with_reducible exact ih0 _ _ _)
      | (with_reducible exact LeO.refl _)
      | (with_reducible exact LeO.none _)
      | (with_reducible refine LeO.ite ?_ ?_)
      | (with_reducible refine LeO.bind ?_ (fun _ => ?_))
      | exact ih0 _ _ _
      | exact LeO.none _
      | refine LeO.ite ?_ ?_
      | refine LeO.bind ?_ (fun _ => ?_)
theorem spec_l1Put.mono : ∀ a0 a1 k, LeO (spec_l1Put.f k a0 a1) (spec_l1Put.f (k + 1) a0 a1) := by
  intro a0 a1 k
  have ih0 := spec_l1Put.mono_l k
  unfold spec_l1Put.f
  repeat' first
      | (with_reducible exact ih0 _ _ _)
      | (with_reducible exact LeO.refl _)
      | (with_reducible exact LeO.none _)
      | (with_reducible refine LeO.ite ?_ ?_)
      | (with_reducible refine LeO.bind ?_ (fun _ => ?_))
      | exact ih0 _ _ _
      | exact LeO.none _
      | refine LeO.ite ?_ ?_
      | refine LeO.bind ?_ (fun _ => ?_)
noncomputable def spec_l1Put.L0 (x0 : List Int) (x1 : Int) (x5 : Int) : Option (List Int) := lim fun k => spec_l1Put.l0 k x0 x1 x5
theorem spec_l1Put.L0_lim (x0 : List Int) (x1 : Int) (x5 : Int) : Lim (fun k => spec_l1Put.l0 k x0 x1 x5) (spec_l1Put.L0 x0 x1 x5) := ⟨fun k => (spec_l1Put.mono_l k) x0 x1 x5, rfl⟩
noncomputable def spec_l1Put.F (l0 : List Int) (a1 : Int) : Option (List Int) := lim fun k => spec_l1Put.f k l0 a1
theorem spec_l1Put.F_lim (l0 : List Int) (a1 : Int) : Lim (fun k => spec_l1Put.f k l0 a1) (spec_l1Put.F l0 a1) := ⟨spec_l1Put.mono l0 a1, rfl⟩
theorem spec_l1Put.L0_eq (x0 : List Int) (x1 : Int) (x5 : Int) : spec_l1Put.L0 x0 x1 x5 = (if x5 < (x0.length : Int) then (if 0 ≤ x5 then (if (rd x0 x5) < x1 then (spec_l1Put.L0 x0 x1 (wrap64 (x5 + 1))) else (if (rd x0 x5) = x1 then (some x0) else ((some (([] : List Int) : List Int)).bind fun y130 => (if x5 ≤ (x0.length : Int) then ((some (x0.take (x5 : Int).toNat : List Int)).bind fun y133 => (if y130.length + y133.length < 17592186044416 then ((some (y130 ++ y133 : List Int)).bind fun y137 => (if y137.length < 17592186044416 then ((some (y137 ++ [x1] : List Int)).bind fun y140 => ((some (x0.drop (x5 : Int).toNat : List Int)).bind fun y143 => (if y140.length + y143.length < 17592186044416 then (some (y140 ++ y143)) else (none)))) else (none))) else (none))) else (none))))) else (none)) else ((some (([] : List Int) : List Int)).bind fun y150 => (if 0 ≤ x5 then (if x5 ≤ (x0.length : Int) then ((some (x0.take (x5 : Int).toNat : List Int)).bind fun y153 => (if y150.length + y153.length < 17592186044416 then ((some (y150 ++ y153 : List Int)).bind fun y157 => (if y157.length < 17592186044416 then ((some (y157 ++ [x1] : List Int)).bind fun y160 => ((some (x0.drop (x5 : Int).toNat : List Int)).bind fun y163 => (if y160.length + y163.length < 17592186044416 then (some (y160 ++ y163)) else (none)))) else (none))) else (none))) else (none)) else (none)))) := by
  refine Lim.succ_eq (spec_l1Put.L0_lim x0 x1 x5).mon ?_
  simp only [spec_l1Put.l0]
  repeat' first
  | (with_reducible exact spec_l1Put.L0_lim _ _ _)
  | (with_reducible refine Lim.ite ?_ ?_)
  | (with_reducible refine Lim.bind ?_ (fun _ => ?_))
  | (with_reducible exact Lim.const _)
theorem spec_l1Put.F_eq (l0 : List Int) (a1 : Int) : spec_l1Put.F l0 a1 = (spec_l1Put.L0 l0 a1 0) := by
  refine Lim.eq_ ?_
  simp only [spec_l1Put.f]
  repeat' first
  | (with_reducible exact spec_l1Put.L0_lim _ _ _)
  | (with_reducible refine Lim.ite ?_ ?_)
  | (with_reducible refine Lim.bind ?_ (fun _ => ?_))
  | (with_reducible exact Lim.const _)
def spec_leNeeded.l0 : Nat → List (S43) → List Int → List Int → Option (List Int)
  | 0, _, _, _ => none
  | k + 1, x0, x5, x6 => if (x6.length : Int) > 0 then (if 0 < (x6.length : Int) then (if 1 ≤ (x6.length : Int) then ((some (x6.drop (1 : Int).toNat : List Int)).bind fun y175 => ((spec_l1Has.f k x5 (rd x6 0)).bind fun t178 => (if t178 = true then (spec_leNeeded.l0 k x0 x5 y175) else ((spec_l1Put.f k x5 (rd x6 0)).bind fun t179 => (if 0 ≤ (rd x6 0) then (if (rd x6 0) < (x0.length : Int) then (if y175.length + ((rd_T43 x0 (rd x6 0)).f1).length < 17592186044416 then (spec_leNeeded.l0 k x0 t179 (y175 ++ ((rd_T43 x0 (rd x6 0)).f1))) else (none)) else (none)) else (none)))))) else (none)) else (none)) else (some x5)
def spec_leNeeded.f (k : Nat) (l0 : List (S43)) (a1 : Int) : Option (List Int) := if 0 ≤ a1 then (if a1 < (l0.length : Int) then ((spec_l1Own.f ((rd_T43 l0 a1).f1)).bind fun t171 => (spec_leNeeded.l0 k l0 ([] : List Int) t171)) else (none)) else (none)
theorem spec_leNeeded.mono_l : ∀ k, (∀ y0 y1 y2, LeO (spec_leNeeded.l0 k y0 y1 y2) (spec_leNeeded.l0 (k + 1) y0 y1 y2))
  | 0 => fun _ _ _ r h => by simp [spec_leNeeded.l0] at h
  | k + 1 => by
    have ih0 := spec_leNeeded.mono_l k
    · intro y0 y1 y2
      unfold spec_leNeeded.l0
      repeat' first
      | (with_reducible exact ih0 _ _ _)
      | (with_reducible exact spec_l1Has.mono _ _ _)
      | (with_reducible exact spec_l1Put.mono _ _ _)
      | (with_reducible exact LeO.refl _)
      | (with_reducible exact LeO.none _)
      | (with_reducible refine LeO.ite ?_ ?_)
      | (with_reducible refine LeO.bind ?_ (fun _ => ?_))
      | exact ih0 _ _ _
      | exact spec_l1Has.mono _ _ _
      | exact spec_l1Put.mono _ _ _
      | exact LeO.none _
      | refine LeO.ite ?_ ?_
      | refine LeO.bind ?_ (fun _ => ?_)
theorem spec_leNeeded.mono : ∀ a0 a1 k, LeO (spec_leNeeded.f k a0 a1) (spec_leNeeded.f (k + 1) a0 a1) := by
  intro a0 a1 k
  have ih0 := spec_leNeeded.mono_l k
  unfold spec_leNeeded.f
  repeat' first
      | (with_reducible exact ih0 _ _ _)
      | (with_reducible exact spec_l1Has.mono _ _ _)
      | (with_reducible exact spec_l1Put.mono _ _ _)
      | (with_reducible exact LeO.refl _)
      | (with_reducible exact LeO.none _)
      | (with_reducible refine LeO.ite ?_ ?_)
      | (with_reducible refine LeO.bind ?_ (fun _ => ?_))
      | exact ih0 _ _ _
      | exact spec_l1Has.mono _ _ _
      | exact spec_l1Put.mono _ _ _
      | exact LeO.none _
      | refine LeO.ite ?_ ?_
      | refine LeO.bind ?_ (fun _ => ?_)
noncomputable def spec_leNeeded.L0 (x0 : List (S43)) (x5 : List Int) (x6 : List Int) : Option (List Int) := lim fun k => spec_leNeeded.l0 k x0 x5 x6
theorem spec_leNeeded.L0_lim (x0 : List (S43)) (x5 : List Int) (x6 : List Int) : Lim (fun k => spec_leNeeded.l0 k x0 x5 x6) (spec_leNeeded.L0 x0 x5 x6) := ⟨fun k => (spec_leNeeded.mono_l k) x0 x5 x6, rfl⟩
noncomputable def spec_leNeeded.F (l0 : List (S43)) (a1 : Int) : Option (List Int) := lim fun k => spec_leNeeded.f k l0 a1
theorem spec_leNeeded.F_lim (l0 : List (S43)) (a1 : Int) : Lim (fun k => spec_leNeeded.f k l0 a1) (spec_leNeeded.F l0 a1) := ⟨spec_leNeeded.mono l0 a1, rfl⟩
theorem spec_leNeeded.L0_eq (x0 : List (S43)) (x5 : List Int) (x6 : List Int) : spec_leNeeded.L0 x0 x5 x6 = (if (x6.length : Int) > 0 then (if 0 < (x6.length : Int) then (if 1 ≤ (x6.length : Int) then ((some (x6.drop (1 : Int).toNat : List Int)).bind fun y175 => ((spec_l1Has.F x5 (rd x6 0)).bind fun t178 => (if t178 = true then (spec_leNeeded.L0 x0 x5 y175) else ((spec_l1Put.F x5 (rd x6 0)).bind fun t179 => (if 0 ≤ (rd x6 0) then (if (rd x6 0) < (x0.length : Int) then (if y175.length + ((rd_T43 x0 (rd x6 0)).f1).length < 17592186044416 then (spec_leNeeded.L0 x0 t179 (y175 ++ ((rd_T43 x0 (rd x6 0)).f1))) else (none)) else (none)) else (none)))))) else (none)) else (none)) else (some x5)) := by
  refine Lim.succ_eq (spec_leNeeded.L0_lim x0 x5 x6).mon ?_
  simp only [spec_leNeeded.l0]
  repeat' first
  | (with_reducible exact spec_leNeeded.L0_lim _ _ _)
  | (with_reducible exact spec_l1Has.F_lim _ _)
  | (with_reducible exact spec_l1Put.F_lim _ _)
  | (with_reducible refine Lim.ite ?_ ?_)
  | (with_reducible refine Lim.bind ?_ (fun _ => ?_))
  | (with_reducible exact Lim.const _)
theorem spec_leNeeded.F_eq (l0 : List (S43)) (a1 : Int) : spec_leNeeded.F l0 a1 = (if 0 ≤ a1 then (if a1 < (l0.length : Int) then ((spec_l1Own.f ((rd_T43 l0 a1).f1)).bind fun t171 => (spec_leNeeded.L0 l0 ([] : List Int) t171)) else (none)) else (none)) := by
  refine Lim.eq_ ?_
  simp only [spec_leNeeded.f]
  repeat' first
  | (with_reducible exact spec_leNeeded.L0_lim _ _ _)
  | (with_reducible exact spec_l1Has.F_lim _ _)
  | (with_reducible exact spec_l1Put.F_lim _ _)
  | (with_reducible refine Lim.ite ?_ ?_)
  | (with_reducible refine Lim.bind ?_ (fun _ => ?_))
  | (with_reducible exact Lim.const _)
def spec_NeededFor.f (k : Nat) (l0 : List (S43)) (a1 : Int) : Option (List Int × Bool) := (spec_leGood.f k l0).bind fun t186 => (if t186 = true then ((spec_l1In.f a1 0 (wrap64 ((l0.length : Int) - 1))).bind fun t187 => (if t187 = true then ((spec_leNeeded.f k l0 a1).bind fun t188 => ((spec_l1Has.f k t188 a1).bind fun t191 => (if t191 = true then (some (([] : List Int), false)) else ((spec_leNeeded.f k l0 a1).bind fun t192 => (some (t192, true)))))) else (some (([] : List Int), false)))) else (some (([] : List Int), false)))
theorem spec_NeededFor.mono : ∀ a0 a1 k, LeO (spec_NeededFor.f k a0 a1) (spec_NeededFor.f (k + 1) a0 a1) := by
  intro a0 a1 k
  unfold spec_NeededFor.f
  repeat' first
      | (with_reducible exact spec_l1Has.mono _ _ _)
      | (with_reducible exact spec_leGood.mono _ _)
      | (with_reducible exact spec_leNeeded.mono _ _ _)
      | (with_reducible exact LeO.refl _)
      | (with_reducible exact LeO.none _)
      | (with_reducible refine LeO.ite ?_ ?_)
      | (with_reducible refine LeO.bind ?_ (fun _ => ?_))
      | exact spec_l1Has.mono _ _ _
      | exact spec_leGood.mono _ _
      | exact spec_leNeeded.mono _ _ _
      | exact LeO.none _
      | refine LeO.ite ?_ ?_
      | refine LeO.bind ?_ (fun _ => ?_)
noncomputable def spec_NeededFor.F (l0 : List (S43)) (a1 : Int) : Option (List Int × Bool) := lim fun k => spec_NeededFor.f k l0 a1
theorem spec_NeededFor.F_lim (l0 : List (S43)) (a1 : Int) : Lim (fun k => spec_NeededFor.f k l0 a1) (spec_NeededFor.F l0 a1) := ⟨spec_NeededFor.mono l0 a1, rfl⟩
theorem spec_NeededFor.F_eq (l0 : List (S43)) (a1 : Int) : spec_NeededFor.F l0 a1 = ((spec_leGood.F l0).bind fun t186 => (if t186 = true then ((spec_l1In.f a1 0 (wrap64 ((l0.length : Int) - 1))).bind fun t187 => (if t187 = true then ((spec_leNeeded.F l0 a1).bind fun t188 => ((spec_l1Has.F t188 a1).bind fun t191 => (if t191 = true then (some (([] : List Int), false)) else ((spec_leNeeded.F l0 a1).bind fun t192 => (some (t192, true)))))) else (some (([] : List Int), false)))) else (some (([] : List Int), false)))) := by
  refine Lim.eq_ ?_
  simp only [spec_NeededFor.f]
  repeat' first
  | (with_reducible exact spec_l1Has.F_lim _ _)
  | (with_reducible exact spec_leGood.F_lim _)
  | (with_reducible exact spec_leNeeded.F_lim _ _)
  | (with_reducible refine Lim.ite ?_ ?_)
  | (with_reducible refine Lim.bind ?_ (fun _ => ?_))
  | (with_reducible exact Lim.const _)
def laws_toIntS.l0 : Nat → List Int → List Int → Int → Option (List Int)
  | 0, _, _, _ => none
  | k + 1, x0, x3, x4 => if x4 < (x0.length : Int) then (if 0 ≤ x4 then (if x4 < (x3.length : Int) then (laws_toIntS.l0 k x0 (x3.set (x4 : Int).toNat (rd x0 x4)) (wrap64 (x4 + 1))) else (none)) else (none)) else (some x3)
def laws_toIntS.f (k : Nat) (l0 : List Int) : Option (List Int) := if 0 ≤ (l0.length : Int) then (if ((l0.length : Int) : Int).toNat ≤ 35184372088832 then (laws_toIntS.l0 k l0 (List.replicate ((l0.length : Int) : Int).toNat 0) 0) else (none)) else (none)
theorem laws_toIntS.mono_l : ∀ k, (∀ y0 y1 y2, LeO (laws_toIntS.l0 k y0 y1 y2) (laws_toIntS.l0 (k + 1) y0 y1 y2))
  | 0 => fun _ _ _ r h => by simp [laws_toIntS.l0] at h
  | k + 1 => by
    have ih0 := laws_toIntS.mono_l k
    · intro y0 y1 y2
      unfold laws_toIntS.l0
      repeat' first
      | (with_reducible exact ih0 _ _ _)
      | (with_reducible exact LeO.refl _)
      | (with_reducible exact LeO.none _)
      | (with_reducible refine LeO.ite ?_ ?_)
      | (with_reducible refine LeO.bind ?_ (fun _ => ?_))
      | exact ih0 _ _ _
      | exact LeO.none _
      | refine LeO.ite ?_ ?_
      | refine LeO.bind ?_ (fun _ => ?_)
theorem laws_toIntS.mono : ∀ a0 k, LeO (laws_toIntS.f k a0) (laws_toIntS.f (k + 1) a0) := by
  intro a0 k
  have ih0 := laws_toIntS.mono_l k
  unfold laws_toIntS.f
  repeat' first
      | (with_reducible exact ih0 _ _ _)
      | (with_reducible exact LeO.refl _)
      | (with_reducible exact LeO.none _)
      | (with_reducible refine LeO.ite ?_ ?_)
      | (with_reducible refine LeO.bind ?_ (fun _ => ?_))
      | exact ih0 _ _ _
      | exact LeO.none _
      | refine LeO.ite ?_ ?_
      | refine LeO.bind ?_ (fun _ => ?_)
noncomputable def laws_toIntS.L0 (x0 : List Int) (x3 : List Int) (x4 : Int) : Option (List Int) := lim fun k => laws_toIntS.l0 k x0 x3 x4
theorem laws_toIntS.L0_lim (x0 : List Int) (x3 : List Int) (x4 : Int) : Lim (fun k => laws_toIntS.l0 k x0 x3 x4) (laws_toIntS.L0 x0 x3 x4) := ⟨fun k => (laws_toIntS.mono_l k) x0 x3 x4, rfl⟩
noncomputable def laws_toIntS.F (l0 : List Int) : Option (List Int) := lim fun k => laws_toIntS.f k l0
theorem laws_toIntS.F_lim (l0 : List Int) : Lim (fun k => laws_toIntS.f k l0) (laws_toIntS.F l0) := ⟨laws_toIntS.mono l0, rfl⟩
theorem laws_toIntS.L0_eq (x0 : List Int) (x3 : List Int) (x4 : Int) : laws_toIntS.L0 x0 x3 x4 = (if x4 < (x0.length : Int) then (if 0 ≤ x4 then (if x4 < (x3.length : Int) then (laws_toIntS.L0 x0 (x3.set (x4 : Int).toNat (rd x0 x4)) (wrap64 (x4 + 1))) else (none)) else (none)) else (some x3)) := by
  refine Lim.succ_eq (laws_toIntS.L0_lim x0 x3 x4).mon ?_
  simp only [laws_toIntS.l0]
  repeat' first
  | (with_reducible exact laws_toIntS.L0_lim _ _ _)
  | (with_reducible refine Lim.ite ?_ ?_)
  | (with_reducible refine Lim.bind ?_ (fun _ => ?_))
  | (with_reducible exact Lim.const _)
theorem laws_toIntS.F_eq (l0 : List Int) : laws_toIntS.F l0 = (if 0 ≤ (l0.length : Int) then (if ((l0.length : Int) : Int).toNat ≤ 35184372088832 then (laws_toIntS.L0 l0 (List.replicate ((l0.length : Int) : Int).toNat 0) 0) else (none)) else (none)) := by
  refine Lim.eq_ ?_
  simp only [laws_toIntS.f]
  repeat' first
  | (with_reducible exact laws_toIntS.L0_lim _ _ _)
  | (with_reducible refine Lim.ite ?_ ?_)
  | (with_reducible refine Lim.bind ?_ (fun _ => ?_))
  | (with_reducible exact Lim.const _)
def laws_toWord.f (k : Nat) (a0_0 : ByteArray) (l0_1 : List Int) (a0_2 : Int) : Option (ByteArray × List Int × Int) := (laws_toIntS.f k l0_1).bind fun t203 => (some (a0_0, t203, a0_2))
theorem laws_toWord.mono : ∀ a0 a1 a2 k, LeO (laws_toWord.f k a0 a1 a2) (laws_toWord.f (k + 1) a0 a1 a2) := by
  intro a0 a1 a2 k
  unfold laws_toWord.f
  repeat' first
      | (with_reducible exact laws_toIntS.mono _ _)
      | (with_reducible exact LeO.refl _)
      | (with_reducible exact LeO.none _)
      | (with_reducible refine LeO.ite ?_ ?_)
      | (with_reducible refine LeO.bind ?_ (fun _ => ?_))
      | exact laws_toIntS.mono _ _
      | exact LeO.none _
      | refine LeO.ite ?_ ?_
      | refine LeO.bind ?_ (fun _ => ?_)
noncomputable def laws_toWord.F (a0_0 : ByteArray) (l0_1 : List Int) (a0_2 : Int) : Option (ByteArray × List Int × Int) := lim fun k => laws_toWord.f k a0_0 l0_1 a0_2
theorem laws_toWord.F_lim (a0_0 : ByteArray) (l0_1 : List Int) (a0_2 : Int) : Lim (fun k => laws_toWord.f k a0_0 l0_1 a0_2) (laws_toWord.F a0_0 l0_1 a0_2) := ⟨laws_toWord.mono a0_0 l0_1 a0_2, rfl⟩
theorem laws_toWord.F_eq (a0_0 : ByteArray) (l0_1 : List Int) (a0_2 : Int) : laws_toWord.F a0_0 l0_1 a0_2 = ((laws_toIntS.F l0_1).bind fun t203 => (some (a0_0, t203, a0_2))) := by
  refine Lim.eq_ ?_
  simp only [laws_toWord.f]
  repeat' first
  | (with_reducible exact laws_toIntS.F_lim _)
  | (with_reducible refine Lim.ite ?_ ?_)
  | (with_reducible refine Lim.bind ?_ (fun _ => ?_))
  | (with_reducible exact Lim.const _)
def laws_toWordS.l0 : Nat → List (S38) → List (S43) → Int → Option ((List (S43)))
  | 0, _, _, _ => none
  | k + 1, x0, x3, x4 => if x4 < (x0.length : Int) then (if 0 ≤ x4 then ((laws_toWord.f k ((rd_T38 x0 x4).f0) ((rd_T38 x0 x4).f1) ((rd_T38 x0 x4).f2)).bind fun bt210 => (if x4 < (x3.length : Int) then (laws_toWordS.l0 k x0 (x3.set (x4 : Int).toNat (⟨bt210.1, bt210.2.1, bt210.2.2⟩ : S43)) (wrap64 (x4 + 1))) else (none))) else (none)) else (some x3)
def laws_toWordS.f (k : Nat) (l0 : List (S38)) : Option ((List (S43))) := if 0 ≤ (l0.length : Int) then (if ((l0.length : Int) : Int).toNat ≤ 5864062014805 then (laws_toWordS.l0 k l0 (List.replicate ((l0.length : Int) : Int).toNat z43) 0) else (none)) else (none)
theorem laws_toWordS.mono_l : ∀ k, (∀ y0 y1 y2, LeO (laws_toWordS.l0 k y0 y1 y2) (laws_toWordS.l0 (k + 1) y0 y1 y2))
  | 0 => fun _ _ _ r h => by simp [laws_toWordS.l0] at h
  | k + 1 => by
    have ih0 := laws_toWordS.mono_l k
    · intro y0 y1 y2
      unfold laws_toWordS.l0
      repeat' first
      | (with_reducible exact ih0 _ _ _)
      | (with_reducible exact laws_toWord.mono _ _ _ _)
      | (with_reducible exact LeO.refl _)
      | (with_reducible exact LeO.none _)
      | (with_reducible refine LeO.ite ?_ ?_)
      | (with_reducible refine LeO.bind ?_ (fun _ => ?_))
      | exact ih0 _ _ _
      | exact laws_toWord.mono _ _ _ _
      | exact LeO.none _
      | refine LeO.ite ?_ ?_
      | refine LeO.bind ?_ (fun _ => ?_)
theorem laws_toWordS.mono : ∀ a0 k, LeO (laws_toWordS.f k a0) (laws_toWordS.f (k + 1) a0) := by
  intro a0 k
  have ih0 := laws_toWordS.mono_l k
  unfold laws_toWordS.f
  repeat' first
      | (with_reducible exact ih0 _ _ _)
      | (with_reducible exact laws_toWord.mono _ _ _ _)
      | (with_reducible exact LeO.refl _)
      | (with_reducible exact LeO.none _)
      | (with_reducible refine LeO.ite ?_ ?_)
      | (with_reducible refine LeO.bind ?_ (fun _ => ?_))
      | exact ih0 _ _ _
      | exact laws_toWord.mono _ _ _ _
      | exact LeO.none _
      | refine LeO.ite ?_ ?_
      | refine LeO.bind ?_ (fun _ => ?_)
noncomputable def laws_toWordS.L0 (x0 : List (S38)) (x3 : List (S43)) (x4 : Int) : Option ((List (S43))) := lim fun k => laws_toWordS.l0 k x0 x3 x4
theorem laws_toWordS.L0_lim (x0 : List (S38)) (x3 : List (S43)) (x4 : Int) : Lim (fun k => laws_toWordS.l0 k x0 x3 x4) (laws_toWordS.L0 x0 x3 x4) := ⟨fun k => (laws_toWordS.mono_l k) x0 x3 x4, rfl⟩
noncomputable def laws_toWordS.F (l0 : List (S38)) : Option ((List (S43))) := lim fun k => laws_toWordS.f k l0
theorem laws_toWordS.F_lim (l0 : List (S38)) : Lim (fun k => laws_toWordS.f k l0) (laws_toWordS.F l0) := ⟨laws_toWordS.mono l0, rfl⟩
theorem laws_toWordS.L0_eq (x0 : List (S38)) (x3 : List (S43)) (x4 : Int) : laws_toWordS.L0 x0 x3 x4 = (if x4 < (x0.length : Int) then (if 0 ≤ x4 then ((laws_toWord.F ((rd_T38 x0 x4).f0) ((rd_T38 x0 x4).f1) ((rd_T38 x0 x4).f2)).bind fun bt210 => (if x4 < (x3.length : Int) then (laws_toWordS.L0 x0 (x3.set (x4 : Int).toNat (⟨bt210.1, bt210.2.1, bt210.2.2⟩ : S43)) (wrap64 (x4 + 1))) else (none))) else (none)) else (some x3)) := by
  refine Lim.succ_eq (laws_toWordS.L0_lim x0 x3 x4).mon ?_
  simp only [laws_toWordS.l0]
  repeat' first
  | (with_reducible exact laws_toWordS.L0_lim _ _ _)
  | (with_reducible exact laws_toWord.F_lim _ _ _)
  | (with_reducible refine Lim.ite ?_ ?_)
  | (with_reducible refine Lim.bind ?_ (fun _ => ?_))
  | (with_reducible exact Lim.const _)
theorem laws_toWordS.F_eq (l0 : List (S38)) : laws_toWordS.F l0 = (if 0 ≤ (l0.length : Int) then (if ((l0.length : Int) : Int).toNat ≤ 5864062014805 then (laws_toWordS.L0 l0 (List.replicate ((l0.length : Int) : Int).toNat z43) 0) else (none)) else (none)) := by
  refine Lim.eq_ ?_
  simp only [laws_toWordS.f]
  repeat' first
  | (with_reducible exact laws_toWordS.L0_lim _ _ _)
  | (with_reducible exact laws_toWord.F_lim _ _ _)
  | (with_reducible refine Lim.ite ?_ ?_)
  | (with_reducible refine Lim.bind ?_ (fun _ => ?_))
  | (with_reducible exact Lim.const _)
def impl_within.f (a0 : Int) (a1 : Int) (a2 : Int) : Option (Bool) := if a0 ≥ a1 then (some (decide (a0 ≤ a2))) else (some false)
def slices_Index_int.l0 : Nat → List Int → Int → Int → Int → Option (Int)
  | 0, _, _, _, _ => none
  | k + 1, x0, x1, x7, x8 => if x8 < x7 then (if 0 ≤ x8 then (if x8 < (x0.length : Int) then (if x1 = (rd x0 x8) then (some x8) else (slices_Index_int.l0 k x0 x1 x7 (wrap64 (x8 + 1)))) else (none)) else (none)) else (some (-1))
def slices_Index_int.f (k : Nat) (l0 : List Int) (a1 : Int) : Option (Int) := slices_Index_int.l0 k l0 a1 (l0.length : Int) 0
theorem slices_Index_int.mono_l : ∀ k, (∀ y0 y1 y2 y3, LeO (slices_Index_int.l0 k y0 y1 y2 y3) (slices_Index_int.l0 (k + 1) y0 y1 y2 y3))
  | 0 => fun _ _ _ _ r h => by simp [slices_Index_int.l0] at h
  | k + 1 => by
    have ih0 := slices_Index_int.mono_l k
    · intro y0 y1 y2 y3
      unfold slices_Index_int.l0
      repeat' first
      | (with_reducible exact ih0 _ _ _ _)
      | (with_reducible exact LeO.refl _)
      | (with_reducible exact LeO.none _)
      | (with_reducible refine LeO.ite ?_ ?_)
      | (with_reducible refine LeO.bind ?_ (fun _ => ?_))
      | exact ih0 _ _ _ _
      | exact LeO.none _
      | refine LeO.ite ?_ ?_
      | refine LeO.bind ?_ (fun _ => ?_)
theorem slices_Index_int.mono : ∀ a0 a1 k, LeO (slices_Index_int.f k a0 a1) (slices_Index_int.f (k + 1) a0 a1) := by
  intro a0 a1 k
  have ih0 := slices_Index_int.mono_l k
  unfold slices_Index_int.f
  repeat' first
      | (with_reducible exact ih0 _ _ _ _)
      | (with_reducible exact LeO.refl _)
      | (with_reducible exact LeO.none _)
      | (with_reducible refine LeO.ite ?_ ?_)
      | (with_reducible refine LeO.bind ?_ (fun _ => ?_))
      | exact ih0 _ _ _ _
      | exact LeO.none _
      | refine LeO.ite ?_ ?_
      | refine LeO.bind ?_ (fun _ => ?_)
noncomputable def slices_Index_int.L0 (x0 : List Int) (x1 : Int) (x7 : Int) (x8 : Int) : Option (Int) := lim fun k => slices_Index_int.l0 k x0 x1 x7 x8
theorem slices_Index_int.L0_lim (x0 : List Int) (x1 : Int) (x7 : Int) (x8 : Int) : Lim (fun k => slices_Index_int.l0 k x0 x1 x7 x8) (slices_Index_int.L0 x0 x1 x7 x8) := ⟨fun k => (slices_Index_int.mono_l k) x0 x1 x7 x8, rfl⟩
noncomputable def slices_Index_int.F (l0 : List Int) (a1 : Int) : Option (Int) := lim fun k => slices_Index_int.f k l0 a1
theorem slices_Index_int.F_lim (l0 : List Int) (a1 : Int) : Lim (fun k => slices_Index_int.f k l0 a1) (slices_Index_int.F l0 a1) := ⟨slices_Index_int.mono l0 a1, rfl⟩
theorem slices_Index_int.L0_eq (x0 : List Int) (x1 : Int) (x7 : Int) (x8 : Int) : slices_Index_int.L0 x0 x1 x7 x8 = (if x8 < x7 then (if 0 ≤ x8 then (if x8 < (x0.length : Int) then (if x1 = (rd x0 x8) then (some x8) else (slices_Index_int.L0 x0 x1 x7 (wrap64 (x8 + 1)))) else (none)) else (none)) else (some (-1))) := by
  refine Lim.succ_eq (slices_Index_int.L0_lim x0 x1 x7 x8).mon ?_
  simp only [slices_Index_int.l0]
  repeat' first
  | (with_reducible exact slices_Index_int.L0_lim _ _ _ _)
  | (with_reducible refine Lim.ite ?_ ?_)
  | (with_reducible refine Lim.bind ?_ (fun _ => ?_))
  | (with_reducible exact Lim.const _)
theorem slices_Index_int.F_eq (l0 : List Int) (a1 : Int) : slices_Index_int.F l0 a1 = (slices_Index_int.L0 l0 a1 (l0.length : Int) 0) := by
  refine Lim.eq_ ?_
  simp only [slices_Index_int.f]
  repeat' first
  | (with_reducible exact slices_Index_int.L0_lim _ _ _ _)
  | (with_reducible refine Lim.ite ?_ ?_)
  | (with_reducible refine Lim.bind ?_ (fun _ => ?_))
  | (with_reducible exact Lim.const _)
def slices_Contains_int.f (k : Nat) (l0 : List Int) (a1 : Int) : Option (Bool) := (slices_Index_int.f k l0 a1).bind fun t217 => (some (decide (t217 ≥ 0)))
theorem slices_Contains_int.mono : ∀ a0 a1 k, LeO (slices_Contains_int.f k a0 a1) (slices_Contains_int.f (k + 1) a0 a1) := by
  intro a0 a1 k
  unfold slices_Contains_int.f
  repeat' first
      | (with_reducible exact slices_Index_int.mono _ _ _)
      | (with_reducible exact LeO.refl _)
      | (with_reducible exact LeO.none _)
      | (with_reducible refine LeO.ite ?_ ?_)
      | (with_reducible refine LeO.bind ?_ (fun _ => ?_))
      | exact slices_Index_int.mono _ _ _
      | exact LeO.none _
      | refine LeO.ite ?_ ?_
      | refine LeO.bind ?_ (fun _ => ?_)
noncomputable def slices_Contains_int.F (l0 : List Int) (a1 : Int) : Option (Bool) := lim fun k => slices_Contains_int.f k l0 a1
theorem slices_Contains_int.F_lim (l0 : List Int) (a1 : Int) : Lim (fun k => slices_Contains_int.f k l0 a1) (slices_Contains_int.F l0 a1) := ⟨slices_Contains_int.mono l0 a1, rfl⟩
theorem slices_Contains_int.F_eq (l0 : List Int) (a1 : Int) : slices_Contains_int.F l0 a1 = ((slices_Index_int.F l0 a1).bind fun t217 => (some (decide (t217 ≥ 0)))) := by
  refine Lim.eq_ ?_
  simp only [slices_Contains_int.f]
  repeat' first
  | (with_reducible exact slices_Index_int.F_lim _ _)
  | (with_reducible refine Lim.ite ?_ ?_)
  | (with_reducible refine Lim.bind ?_ (fun _ => ?_))
  | (with_reducible exact Lim.const _)
def stringslite_IndexByte.f (a0 : ByteArray) (a1 : Int) : Option (Int) := some (Lib.indexByte a0.data.toList a1.toNat.toUInt8)
def strings_IndexByte.f (a0 : ByteArray) (a1 : Int) : Option (Int) := (stringslite_IndexByte.f a0 a1).bind fun t218 => (some t218)
def impl_hasOnly.l0 : Nat → ByteArray → ByteArray → Int → Int → Option (Bool)
  | 0, _, _, _, _ => none
  | k + 1, x0, x1, x7, x8 => if x8 < x7 then (if 0 ≤ x8 then (if x8 < (x0.size : Int) then ((strings_IndexByte.f x1 (bt x0 x8)).bind fun t219 => (if t219 < 0 then (some false) else (impl_hasOnly.l0 k x0 x1 x7 (wrap64 (x8 + 1))))) else (none)) else (none)) else (some true)
def impl_hasOnly.f (k : Nat) (a0 : ByteArray) (a1 : ByteArray) : Option (Bool) := impl_hasOnly.l0 k a0 a1 (a0.size : Int) 0
theorem impl_hasOnly.mono_l : ∀ k, (∀ y0 y1 y2 y3, LeO (impl_hasOnly.l0 k y0 y1 y2 y3) (impl_hasOnly.l0 (k + 1) y0 y1 y2 y3))
  | 0 => fun _ _ _ _ r h => by simp [impl_hasOnly.l0] at h
  | k + 1 => by
    have ih0 := impl_hasOnly.mono_l k
    · intro y0 y1 y2 y3
      unfold impl_hasOnly.l0
      repeat' first
      | (with_reducible exact ih0 _ _ _ _)
      | (with_reducible exact LeO.refl _)
      | (with_reducible exact LeO.none _)
      | (with_reducible refine LeO.ite ?_ ?_)
      | (with_reducible refine LeO.bind ?_ (fun _ => ?_))
      | exact ih0 _ _ _ _
      | exact LeO.none _
      | refine LeO.ite ?_ ?_
      | refine LeO.bind ?_ (fun _ => ?_)
theorem impl_hasOnly.mono : ∀ a0 a1 k, LeO (impl_hasOnly.f k a0 a1) (impl_hasOnly.f (k + 1) a0 a1) := by
  intro a0 a1 k
  have ih0 := impl_hasOnly.mono_l k
  unfold impl_hasOnly.f
  repeat' first
      | (with_reducible exact ih0 _ _ _ _)
      | (with_reducible exact LeO.refl _)
      | (with_reducible exact LeO.none _)
      | (with_reducible refine LeO.ite ?_ ?_)
      | (with_reducible refine LeO.bind ?_ (fun _ => ?_))
      | exact ih0 _ _ _ _
      | exact LeO.none _
      | refine LeO.ite ?_ ?_
      | refine LeO.bind ?_ (fun _ => ?_)
noncomputable def impl_hasOnly.L0 (x0 : ByteArray) (x1 : ByteArray) (x7 : Int) (x8 : Int) : Option (Bool) := lim fun k => impl_hasOnly.l0 k x0 x1 x7 x8
theorem impl_hasOnly.L0_lim (x0 : ByteArray) (x1 : ByteArray) (x7 : Int) (x8 : Int) : Lim (fun k => impl_hasOnly.l0 k x0 x1 x7 x8) (impl_hasOnly.L0 x0 x1 x7 x8) := ⟨fun k => (impl_hasOnly.mono_l k) x0 x1 x7 x8, rfl⟩
noncomputable def impl_hasOnly.F (a0 : ByteArray) (a1 : ByteArray) : Option (Bool) := lim fun k => impl_hasOnly.f k a0 a1
theorem impl_hasOnly.F_lim (a0 : ByteArray) (a1 : ByteArray) : Lim (fun k => impl_hasOnly.f k a0 a1) (impl_hasOnly.F a0 a1) := ⟨impl_hasOnly.mono a0 a1, rfl⟩
theorem impl_hasOnly.L0_eq (x0 : ByteArray) (x1 : ByteArray) (x7 : Int) (x8 : Int) : impl_hasOnly.L0 x0 x1 x7 x8 = (if x8 < x7 then (if 0 ≤ x8 then (if x8 < (x0.size : Int) then ((strings_IndexByte.f x1 (bt x0 x8)).bind fun t219 => (if t219 < 0 then (some false) else (impl_hasOnly.L0 x0 x1 x7 (wrap64 (x8 + 1))))) else (none)) else (none)) else (some true)) := by
  refine Lim.succ_eq (impl_hasOnly.L0_lim x0 x1 x7 x8).mon ?_
  simp only [impl_hasOnly.l0]
  repeat' first
  | (with_reducible exact impl_hasOnly.L0_lim _ _ _ _)
  | (with_reducible refine Lim.ite ?_ ?_)
  | (with_reducible refine Lim.bind ?_ (fun _ => ?_))
  | (with_reducible exact Lim.const _)
theorem impl_hasOnly.F_eq (a0 : ByteArray) (a1 : ByteArray) : impl_hasOnly.F a0 a1 = (impl_hasOnly.L0 a0 a1 (a0.size : Int) 0) := by
  refine Lim.eq_ ?_
  simp only [impl_hasOnly.f]
  repeat' first
  | (with_reducible exact impl_hasOnly.L0_lim _ _ _ _)
  | (with_reducible refine Lim.ite ?_ ?_)
  | (with_reducible refine Lim.bind ?_ (fun _ => ?_))
  | (with_reducible exact Lim.const _)
def impl_isWordOf.f (k : Nat) (a0 : ByteArray) (a1 : ByteArray) : Option (Bool) := (impl_within.f (a0.size : Int) 1 8).bind fun t220 => (if t220 = true then ((impl_hasOnly.f k a0 a1).bind fun t221 => (some t221)) else (some false))
theorem impl_isWordOf.mono : ∀ a0 a1 k, LeO (impl_isWordOf.f k a0 a1) (impl_isWordOf.f (k + 1) a0 a1) := by
  intro a0 a1 k
  unfold impl_isWordOf.f
  repeat' first
      | (with_reducible exact impl_hasOnly.mono _ _ _)
      | (with_reducible exact LeO.refl _)
      | (with_reducible exact LeO.none _)
      | (with_reducible refine LeO.ite ?_ ?_)
      | (with_reducible refine LeO.bind ?_ (fun _ => ?_))
      | exact impl_hasOnly.mono _ _ _
      | exact LeO.none _
      | refine LeO.ite ?_ ?_
      | refine LeO.bind ?_ (fun _ => ?_)
noncomputable def impl_isWordOf.F (a0 : ByteArray) (a1 : ByteArray) : Option (Bool) := lim fun k => impl_isWordOf.f k a0 a1
theorem impl_isWordOf.F_lim (a0 : ByteArray) (a1 : ByteArray) : Lim (fun k => impl_isWordOf.f k a0 a1) (impl_isWordOf.F a0 a1) := ⟨impl_isWordOf.mono a0 a1, rfl⟩
theorem impl_isWordOf.F_eq (a0 : ByteArray) (a1 : ByteArray) : impl_isWordOf.F a0 a1 = ((impl_within.f (a0.size : Int) 1 8).bind fun t220 => (if t220 = true then ((impl_hasOnly.F a0 a1).bind fun t221 => (some t221)) else (some false))) := by
  refine Lim.eq_ ?_
  simp only [impl_isWordOf.f]
  repeat' first
  | (with_reducible exact impl_hasOnly.F_lim _ _)
  | (with_reducible refine Lim.ite ?_ ?_)
  | (with_reducible refine Lim.bind ?_ (fun _ => ?_))
  | (with_reducible exact Lim.const _)
def impl_IsGloss.f (k : Nat) (a0 : ByteArray) : Option (Bool) := (impl_isWordOf.f k a0 (⟨#[65, 66, 67, 68, 69, 70, 71, 72, 73, 74, 75, 76, 77, 78, 79, 80, 81, 82, 83, 84, 85, 86, 87, 88, 89, 90]⟩ : ByteArray)).bind fun t222 => (some t222)
theorem impl_IsGloss.mono : ∀ a0 k, LeO (impl_IsGloss.f k a0) (impl_IsGloss.f (k + 1) a0) := by
  intro a0 k
  unfold impl_IsGloss.f
  repeat' first
      | (with_reducible exact impl_isWordOf.mono _ _ _)
      | (with_reducible exact LeO.refl _)
      | (with_reducible exact LeO.none _)
      | (with_reducible refine LeO.ite ?_ ?_)
      | (with_reducible refine LeO.bind ?_ (fun _ => ?_))
      | exact impl_isWordOf.mono _ _ _
      | exact LeO.none _
      | refine LeO.ite ?_ ?_
      | refine LeO.bind ?_ (fun _ => ?_)
noncomputable def impl_IsGloss.F (a0 : ByteArray) : Option (Bool) := lim fun k => impl_IsGloss.f k a0
theorem impl_IsGloss.F_lim (a0 : ByteArray) : Lim (fun k => impl_IsGloss.f k a0) (impl_IsGloss.F a0) := ⟨impl_IsGloss.mono a0, rfl⟩
theorem impl_IsGloss.F_eq (a0 : ByteArray) : impl_IsGloss.F a0 = ((impl_isWordOf.F a0 (⟨#[65, 66, 67, 68, 69, 70, 71, 72, 73, 74, 75, 76, 77, 78, 79, 80, 81, 82, 83, 84, 85, 86, 87, 88, 89, 90]⟩ : ByteArray)).bind fun t222 => (some t222)) := by
  refine Lim.eq_ ?_
  simp only [impl_IsGloss.f]
  repeat' first
  | (with_reducible exact impl_isWordOf.F_lim _ _)
  | (with_reducible refine Lim.ite ?_ ?_)
  | (with_reducible refine Lim.bind ?_ (fun _ => ?_))
  | (with_reducible exact Lim.const _)
def impl_allWithin_1.f (a0 : Int) (a1_0 : Int) (a2_0 : Int) : Option (Bool) := (impl_within.f a0 a1_0 a2_0).bind fun t223 => (some (!t223))
def slices_IndexFunc_int_impl_allWithin_1.l0 : Nat → List Int → Int → Int → Int → Int → Option (Int)
  | 0, _, _, _, _, _ => none
  | k + 1, x0, x7, x8, x39000, x40000 => if x8 < x7 then (if 0 ≤ x8 then (if x8 < (x0.length : Int) then ((impl_allWithin_1.f (rd x0 x8) x39000 x40000).bind fun t225 => (if t225 = true then (some x8) else (slices_IndexFunc_int_impl_allWithin_1.l0 k x0 x7 (wrap64 (x8 + 1)) x39000 x40000))) else (none)) else (none)) else (some (-1))
def slices_IndexFunc_int_impl_allWithin_1.f (k : Nat) (l0 : List Int) (a1_0 : Int) (a1_1 : Int) : Option (Int) := slices_IndexFunc_int_impl_allWithin_1.l0 k l0 (l0.length : Int) 0 a1_0 a1_1
theorem slices_IndexFunc_int_impl_allWithin_1.mono_l : ∀ k, (∀ y0 y1 y2 y3 y4, LeO (slices_IndexFunc_int_impl_allWithin_1.l0 k y0 y1 y2 y3 y4) (slices_IndexFunc_int_impl_allWithin_1.l0 (k + 1) y0 y1 y2 y3 y4))
  | 0 => fun _ _ _ _ _ r h => by simp [slices_IndexFunc_int_impl_allWithin_1.l0] at h
  | k + 1 => by
    have ih0 := slices_IndexFunc_int_impl_allWithin_1.mono_l k
    · intro y0 y1 y2 y3 y4
      unfold slices_IndexFunc_int_impl_allWithin_1.l0
      repeat' first
      | (with_reducible exact ih0 _ _ _ _ _)
      | (with_reducible exact LeO.refl _)
      | (with_reducible exact LeO.none _)
      | (with_reducible refine LeO.ite ?_ ?_)
      | (with_reducible refine LeO.bind ?_ (fun _ => ?_))
      | exact ih0 _ _ _ _ _
      | exact LeO.none _
      | refine LeO.ite ?_ ?_
      | refine LeO.bind ?_ (fun _ => ?_)
theorem slices_IndexFunc_int_impl_allWithin_1.mono : ∀ a0 a1 a2 k, LeO (slices_IndexFunc_int_impl_allWithin_1.f k a0 a1 a2) (slices_IndexFunc_int_impl_allWithin_1.f (k + 1) a0 a1 a2) := by
  intro a0 a1 a2 k
  have ih0 := slices_IndexFunc_int_impl_allWithin_1.mono_l k
  unfold slices_IndexFunc_int_impl_allWithin_1.f
  repeat' first
      | (with_reducible exact ih0 _ _ _ _ _)
      | (with_reducible exact LeO.refl _)
      | (with_reducible exact LeO.none _)
      | (with_reducible refine LeO.ite ?_ ?_)
      | (with_reducible refine LeO.bind ?_ (fun _ => ?_))
      | exact ih0 _ _ _ _ _
      | exact LeO.none _
      | refine LeO.ite ?_ ?_
      | refine LeO.bind ?_ (fun _ => ?_)
noncomputable def slices_IndexFunc_int_impl_allWithin_1.L0 (x0 : List Int) (x7 : Int) (x8 : Int) (x39000 : Int) (x40000 : Int) : Option (Int) := lim fun k => slices_IndexFunc_int_impl_allWithin_1.l0 k x0 x7 x8 x39000 x40000
theorem slices_IndexFunc_int_impl_allWithin_1.L0_lim (x0 : List Int) (x7 : Int) (x8 : Int) (x39000 : Int) (x40000 : Int) : Lim (fun k => slices_IndexFunc_int_impl_allWithin_1.l0 k x0 x7 x8 x39000 x40000) (slices_IndexFunc_int_impl_allWithin_1.L0 x0 x7 x8 x39000 x40000) := ⟨fun k => (slices_IndexFunc_int_impl_allWithin_1.mono_l k) x0 x7 x8 x39000 x40000, rfl⟩
noncomputable def slices_IndexFunc_int_impl_allWithin_1.F (l0 : List Int) (a1_0 : Int) (a1_1 : Int) : Option (Int) := lim fun k => slices_IndexFunc_int_impl_allWithin_1.f k l0 a1_0 a1_1
theorem slices_IndexFunc_int_impl_allWithin_1.F_lim (l0 : List Int) (a1_0 : Int) (a1_1 : Int) : Lim (fun k => slices_IndexFunc_int_impl_allWithin_1.f k l0 a1_0 a1_1) (slices_IndexFunc_int_impl_allWithin_1.F l0 a1_0 a1_1) := ⟨slices_IndexFunc_int_impl_allWithin_1.mono l0 a1_0 a1_1, rfl⟩
theorem slices_IndexFunc_int_impl_allWithin_1.L0_eq (x0 : List Int) (x7 : Int) (x8 : Int) (x39000 : Int) (x40000 : Int) : slices_IndexFunc_int_impl_allWithin_1.L0 x0 x7 x8 x39000 x40000 = (if x8 < x7 then (if 0 ≤ x8 then (if x8 < (x0.length : Int) then ((impl_allWithin_1.f (rd x0 x8) x39000 x40000).bind fun t225 => (if t225 = true then (some x8) else (slices_IndexFunc_int_impl_allWithin_1.L0 x0 x7 (wrap64 (x8 + 1)) x39000 x40000))) else (none)) else (none)) else (some (-1))) := by
  refine Lim.succ_eq (slices_IndexFunc_int_impl_allWithin_1.L0_lim x0 x7 x8 x39000 x40000).mon ?_
  simp only [slices_IndexFunc_int_impl_allWithin_1.l0]
  repeat' first
  | (with_reducible exact slices_IndexFunc_int_impl_allWithin_1.L0_lim _ _ _ _ _)
  | (with_reducible refine Lim.ite ?_ ?_)
  | (with_reducible refine Lim.bind ?_ (fun _ => ?_))
  | (with_reducible exact Lim.const _)
theorem slices_IndexFunc_int_impl_allWithin_1.F_eq (l0 : List Int) (a1_0 : Int) (a1_1 : Int) : slices_IndexFunc_int_impl_allWithin_1.F l0 a1_0 a1_1 = (slices_IndexFunc_int_impl_allWithin_1.L0 l0 (l0.length : Int) 0 a1_0 a1_1) := by
  refine Lim.eq_ ?_
  simp only [slices_IndexFunc_int_impl_allWithin_1.f]
  repeat' first
  | (with_reducible exact slices_IndexFunc_int_impl_allWithin_1.L0_lim _ _ _ _ _)
  | (with_reducible refine Lim.ite ?_ ?_)
  | (with_reducible refine Lim.bind ?_ (fun _ => ?_))
  | (with_reducible exact Lim.const _)
def slices_ContainsFunc_int_impl_allWithin_1.f (k : Nat) (l0 : List Int) (a1_0 : Int) (a1_1 : Int) : Option (Bool) := (slices_IndexFunc_int_impl_allWithin_1.f k l0 a1_0 a1_1).bind fun t226 => (some (decide (t226 ≥ 0)))
theorem slices_ContainsFunc_int_impl_allWithin_1.mono : ∀ a0 a1 a2 k, LeO (slices_ContainsFunc_int_impl_allWithin_1.f k a0 a1 a2) (slices_ContainsFunc_int_impl_allWithin_1.f (k + 1) a0 a1 a2) := by
  intro a0 a1 a2 k
  unfold slices_ContainsFunc_int_impl_allWithin_1.f
  repeat' first
      | (with_reducible exact slices_IndexFunc_int_impl_allWithin_1.mono _ _ _ _)
      | (with_reducible exact LeO.refl _)
      | (with_reducible exact LeO.none _)
      | (with_reducible refine LeO.ite ?_ ?_)
      | (with_reducible refine LeO.bind ?_ (fun _ => ?_))
      | exact slices_IndexFunc_int_impl_allWithin_1.mono _ _ _ _
      | exact LeO.none _
      | refine LeO.ite ?_ ?_
      | refine LeO.bind ?_ (fun _ => ?_)
noncomputable def slices_ContainsFunc_int_impl_allWithin_1.F (l0 : List Int) (a1_0 : Int) (a1_1 : Int) : Option (Bool) := lim fun k => slices_ContainsFunc_int_impl_allWithin_1.f k l0 a1_0 a1_1
theorem slices_ContainsFunc_int_impl_allWithin_1.F_lim (l0 : List Int) (a1_0 : Int) (a1_1 : Int) : Lim (fun k => slices_ContainsFunc_int_impl_allWithin_1.f k l0 a1_0 a1_1) (slices_ContainsFunc_int_impl_allWithin_1.F l0 a1_0 a1_1) := ⟨slices_ContainsFunc_int_impl_allWithin_1.mono l0 a1_0 a1_1, rfl⟩
theorem slices_ContainsFunc_int_impl_allWithin_1.F_eq (l0 : List Int) (a1_0 : Int) (a1_1 : Int) : slices_ContainsFunc_int_impl_allWithin_1.F l0 a1_0 a1_1 = ((slices_IndexFunc_int_impl_allWithin_1.F l0 a1_0 a1_1).bind fun t226 => (some (decide (t226 ≥ 0)))) := by
  refine Lim.eq_ ?_
  simp only [slices_ContainsFunc_int_impl_allWithin_1.f]
  repeat' first
  | (with_reducible exact slices_IndexFunc_int_impl_allWithin_1.F_lim _ _ _)
  | (with_reducible refine Lim.ite ?_ ?_)
  | (with_reducible refine Lim.bind ?_ (fun _ => ?_))
  | (with_reducible exact Lim.const _)
def impl_allWithin.f (k : Nat) (l0 : List Int) (a1 : Int) (a2 : Int) : Option (Bool) := (slices_ContainsFunc_int_impl_allWithin_1.f k l0 a1 a2).bind fun t229 => (some (!t229))
theorem impl_allWithin.mono : ∀ a0 a1 a2 k, LeO (impl_allWithin.f k a0 a1 a2) (impl_allWithin.f (k + 1) a0 a1 a2) := by
  intro a0 a1 a2 k
  unfold impl_allWithin.f
  repeat' first
      | (with_reducible exact slices_ContainsFunc_int_impl_allWithin_1.mono _ _ _ _)
      | (with_reducible exact LeO.refl _)
      | (with_reducible exact LeO.none _)
      | (with_reducible refine LeO.ite ?_ ?_)
      | (with_reducible refine LeO.bind ?_ (fun _ => ?_))
      | exact slices_ContainsFunc_int_impl_allWithin_1.mono _ _ _ _
      | exact LeO.none _
      | refine LeO.ite ?_ ?_
      | refine LeO.bind ?_ (fun _ => ?_)
noncomputable def impl_allWithin.F (l0 : List Int) (a1 : Int) (a2 : Int) : Option (Bool) := lim fun k => impl_allWithin.f k l0 a1 a2
theorem impl_allWithin.F_lim (l0 : List Int) (a1 : Int) (a2 : Int) : Lim (fun k => impl_allWithin.f k l0 a1 a2) (impl_allWithin.F l0 a1 a2) := ⟨impl_allWithin.mono l0 a1 a2, rfl⟩
theorem impl_allWithin.F_eq (l0 : List Int) (a1 : Int) (a2 : Int) : impl_allWithin.F l0 a1 a2 = ((slices_ContainsFunc_int_impl_allWithin_1.F l0 a1 a2).bind fun t229 => (some (!t229))) := by
  refine Lim.eq_ ?_
  simp only [impl_allWithin.f]
  repeat' first
  | (with_reducible exact slices_ContainsFunc_int_impl_allWithin_1.F_lim _ _ _)
  | (with_reducible refine Lim.ite ?_ ?_)
  | (with_reducible refine Lim.bind ?_ (fun _ => ?_))
  | (with_reducible exact Lim.const _)
def slices_Clone_int.f (l0 : List Int) : Option (List Int) := (some (([] : List Int) : List Int)).bind fun y230 => (if y230.length + l0.length < 17592186044416 then (some (y230 ++ l0)) else (none))
def slices_Sort_int.f (l0 : List Int) : Option (List Int) := if l0.length < 4611686018427387904 then some (sortInts l0) else none
def slices_Compact_int.f (l0 : List Int) : Option (List Int) := if l0.length < 4611686018427387904 then some (onceInts l0) else none
def impl_distinct_int.f (l0 : List Int) : Option (List Int) := (slices_Clone_int.f l0).bind fun t236 => ((slices_Sort_int.f t236).bind fun t239 => ((slices_Compact_int.f t239).bind fun t240 => (some t240)))
def cmp_isNaN_int.f (a0 : Int) : Option (Bool) := some (a0 != a0)
def cmp_Less_int.f (a0 : Int) (a1 : Int) : Option (Bool) := (cmp_isNaN_int.f a0).bind fun t243 => (if t243 = true then ((cmp_isNaN_int.f a1).bind fun t244 => (if t244 = true then (some (decide (a0 < a1))) else (some true))) else (some (decide (a0 < a1))))
def slices_IsSorted_int.l0 : Nat → List Int → Int → Option (Bool)
  | 0, _, _ => none
  | k + 1, x0, x3 => if x3 > 0 then (if 0 ≤ x3 then (if x3 < (x0.length : Int) then (if 0 ≤ (wrap64 (x3 - 1)) then (if (wrap64 (x3 - 1)) < (x0.length : Int) then ((cmp_Less_int.f (rd x0 x3) (rd x0 (wrap64 (x3 - 1)))).bind fun t247 => (if t247 = true then (some false) else (slices_IsSorted_int.l0 k x0 (wrap64 (x3 - 1))))) else (none)) else (none)) else (none)) else (none)) else (some true)
def slices_IsSorted_int.f (k : Nat) (l0 : List Int) : Option (Bool) := slices_IsSorted_int.l0 k l0 (wrap64 ((l0.length : Int) - 1))
theorem slices_IsSorted_int.mono_l : ∀ k, (∀ y0 y1, LeO (slices_IsSorted_int.l0 k y0 y1) (slices_IsSorted_int.l0 (k + 1) y0 y1))
  | 0 => fun _ _ r h => by simp [slices_IsSorted_int.l0] at h
  | k + 1 => by
    have ih0 := slices_IsSorted_int.mono_l k
    · intro y0 y1
      unfold slices_IsSorted_int.l0
      repeat' first
      | (with_reducible exact ih0 _ _)
      | (with_reducible exact LeO.refl _)
      | (with_reducible exact LeO.none _)
      | (with_reducible refine LeO.ite ?_ ?_)
      | (with_reducible refine LeO.bind ?_ (fun _ => ?_))
      | exact ih0 _ _
      | exact LeO.none _
      | refine LeO.ite ?_ ?_
      | refine LeO.bind ?_ (fun _ => ?_)
theorem slices_IsSorted_int.mono : ∀ a0 k, LeO (slices_IsSorted_int.f k a0) (slices_IsSorted_int.f (k + 1) a0) := by
  intro a0 k
  have ih0 := slices_IsSorted_int.mono_l k
  unfold slices_IsSorted_int.f
  repeat' first
      | (with_reducible exact ih0 _ _)
      | (with_reducible exact LeO.refl _)
      | (with_reducible exact LeO.none _)
      | (with_reducible refine LeO.ite ?_ ?_)
      | (with_reducible refine LeO.bind ?_ (fun _ => ?_))
      | exact ih0 _ _
      | exact LeO.none _
      | refine LeO.ite ?_ ?_
      | refine LeO.bind ?_ (fun _ => ?_)
noncomputable def slices_IsSorted_int.L0 (x0 : List Int) (x3 : Int) : Option (Bool) := lim fun k => slices_IsSorted_int.l0 k x0 x3
theorem slices_IsSorted_int.L0_lim (x0 : List Int) (x3 : Int) : Lim (fun k => slices_IsSorted_int.l0 k x0 x3) (slices_IsSorted_int.L0 x0 x3) := ⟨fun k => (slices_IsSorted_int.mono_l k) x0 x3, rfl⟩
noncomputable def slices_IsSorted_int.F (l0 : List Int) : Option (Bool) := lim fun k => slices_IsSorted_int.f k l0
theorem slices_IsSorted_int.F_lim (l0 : List Int) : Lim (fun k => slices_IsSorted_int.f k l0) (slices_IsSorted_int.F l0) := ⟨slices_IsSorted_int.mono l0, rfl⟩
theorem slices_IsSorted_int.L0_eq (x0 : List Int) (x3 : Int) : slices_IsSorted_int.L0 x0 x3 = (if x3 > 0 then (if 0 ≤ x3 then (if x3 < (x0.length : Int) then (if 0 ≤ (wrap64 (x3 - 1)) then (if (wrap64 (x3 - 1)) < (x0.length : Int) then ((cmp_Less_int.f (rd x0 x3) (rd x0 (wrap64 (x3 - 1)))).bind fun t247 => (if t247 = true then (some false) else (slices_IsSorted_int.L0 x0 (wrap64 (x3 - 1))))) else (none)) else (none)) else (none)) else (none)) else (some true)) := by
  refine Lim.succ_eq (slices_IsSorted_int.L0_lim x0 x3).mon ?_
  simp only [slices_IsSorted_int.l0]
  repeat' first
  | (with_reducible exact slices_IsSorted_int.L0_lim _ _)
  | (with_reducible refine Lim.ite ?_ ?_)
  | (with_reducible refine Lim.bind ?_ (fun _ => ?_))
  | (with_reducible exact Lim.const _)
theorem slices_IsSorted_int.F_eq (l0 : List Int) : slices_IsSorted_int.F l0 = (slices_IsSorted_int.L0 l0 (wrap64 ((l0.length : Int) - 1))) := by
  refine Lim.eq_ ?_
  simp only [slices_IsSorted_int.f]
  repeat' first
  | (with_reducible exact slices_IsSorted_int.L0_lim _ _)
  | (with_reducible refine Lim.ite ?_ ?_)
  | (with_reducible refine Lim.bind ?_ (fun _ => ?_))
  | (with_reducible exact Lim.const _)
def impl_AreWords_1.f (a0_0 : ByteArray) (l0_1 : List Int) (a0_2 : Int) (a1_0 : ByteArray) (l1_1 : List Int) (a1_2 : Int) : Option (Bool) := some (a0_0.toList == a1_0.toList)
def slices_IndexFunc_Word_impl_AreWords_1.l0 : Nat → List (S43) → Int → Int → ByteArray → List Int → Int → Option (Int)
  | 0, _, _, _, _, _, _ => none
  | k + 1, x0, x7, x8, x39000, x39001, x39002 => if x8 < x7 then (if 0 ≤ x8 then (if x8 < (x0.length : Int) then ((impl_AreWords_1.f ((rd_T43 x0 x8).f0) ((rd_T43 x0 x8).f1) ((rd_T43 x0 x8).f2) x39000 x39001 x39002).bind fun t250 => (if t250 = true then (some x8) else (slices_IndexFunc_Word_impl_AreWords_1.l0 k x0 x7 (wrap64 (x8 + 1)) x39000 x39001 x39002))) else (none)) else (none)) else (some (-1))
def slices_IndexFunc_Word_impl_AreWords_1.f (k : Nat) (l0 : List (S43)) (a1_0 : ByteArray) (l1_1 : List Int) (a1_2 : Int) : Option (Int) := slices_IndexFunc_Word_impl_AreWords_1.l0 k l0 (l0.length : Int) 0 a1_0 l1_1 a1_2
theorem slices_IndexFunc_Word_impl_AreWords_1.mono_l : ∀ k, (∀ y0 y1 y2 y3 y4 y5, LeO (slices_IndexFunc_Word_impl_AreWords_1.l0 k y0 y1 y2 y3 y4 y5) (slices_IndexFunc_Word_impl_AreWords_1.l0 (k + 1) y0 y1 y2 y3 y4 y5))
  | 0 => fun _ _ _ _ _ _ r h => by simp [slices_IndexFunc_Word_impl_AreWords_1.l0] at h
  | k + 1 => by
    have ih0 := slices_IndexFunc_Word_impl_AreWords_1.mono_l k
    · intro y0 y1 y2 y3 y4 y5
      unfold slices_IndexFunc_Word_impl_AreWords_1.l0
      repeat' first
      | (with_reducible exact ih0 _ _ _ _ _ _)
      | (with_reducible exact LeO.refl _)
      | (with_reducible exact LeO.none _)
      | (with_reducible refine LeO.ite ?_ ?_)
      | (with_reducible refine LeO.bind ?_ (fun _ => ?_))
      | exact ih0 _ _ _ _ _ _
      | exact LeO.none _
      | refine LeO.ite ?_ ?_
      | refine LeO.bind ?_ (fun _ => ?_)
theorem slices_IndexFunc_Word_impl_AreWords_1.mono : ∀ a0 a1 a2 a3 k, LeO (slices_IndexFunc_Word_impl_AreWords_1.f k a0 a1 a2 a3) (slices_IndexFunc_Word_impl_AreWords_1.f (k + 1) a0 a1 a2 a3) := by
  intro a0 a1 a2 a3 k
  have ih0 := slices_IndexFunc_Word_impl_AreWords_1.mono_l k
  unfold slices_IndexFunc_Word_impl_AreWords_1.f
  repeat' first
      | (with_reducible exact ih0 _ _ _ _ _ _)
      | (with_reducible exact LeO.refl _)
      | (with_reducible exact LeO.none _)
      | (with_reducible refine LeO.ite ?_ ?_)
      | (with_reducible refine LeO.bind ?_ (fun _ => ?_))
      | exact ih0 _ _ _ _ _ _
      | exact LeO.none _
      | refine LeO.ite ?_ ?_
      | refine LeO.bind ?_ (fun _ => ?_)
noncomputable def slices_IndexFunc_Word_impl_AreWords_1.L0 (x0 : List (S43)) (x7 : Int) (x8 : Int) (x39000 : ByteArray) (x39001 : List Int) (x39002 : Int) : Option (Int) := lim fun k => slices_IndexFunc_Word_impl_AreWords_1.l0 k x0 x7 x8 x39000 x39001 x39002
theorem slices_IndexFunc_Word_impl_AreWords_1.L0_lim (x0 : List (S43)) (x7 : Int) (x8 : Int) (x39000 : ByteArray) (x39001 : List Int) (x39002 : Int) : Lim (fun k => slices_IndexFunc_Word_impl_AreWords_1.l0 k x0 x7 x8 x39000 x39001 x39002) (slices_IndexFunc_Word_impl_AreWords_1.L0 x0 x7 x8 x39000 x39001 x39002) := ⟨fun k => (slices_IndexFunc_Word_impl_AreWords_1.mono_l k) x0 x7 x8 x39000 x39001 x39002, rfl⟩
noncomputable def slices_IndexFunc_Word_impl_AreWords_1.F (l0 : List (S43)) (a1_0 : ByteArray) (l1_1 : List Int) (a1_2 : Int) : Option (Int) := lim fun k => slices_IndexFunc_Word_impl_AreWords_1.f k l0 a1_0 l1_1 a1_2
theorem slices_IndexFunc_Word_impl_AreWords_1.F_lim (l0 : List (S43)) (a1_0 : ByteArray) (l1_1 : List Int) (a1_2 : Int) : Lim (fun k => slices_IndexFunc_Word_impl_AreWords_1.f k l0 a1_0 l1_1 a1_2) (slices_IndexFunc_Word_impl_AreWords_1.F l0 a1_0 l1_1 a1_2) := ⟨slices_IndexFunc_Word_impl_AreWords_1.mono l0 a1_0 l1_1 a1_2, rfl⟩
theorem slices_IndexFunc_Word_impl_AreWords_1.L0_eq (x0 : List (S43)) (x7 : Int) (x8 : Int) (x39000 : ByteArray) (x39001 : List Int) (x39002 : Int) : slices_IndexFunc_Word_impl_AreWords_1.L0 x0 x7 x8 x39000 x39001 x39002 = (if x8 < x7 then (if 0 ≤ x8 then (if x8 < (x0.length : Int) then ((impl_AreWords_1.f ((rd_T43 x0 x8).f0) ((rd_T43 x0 x8).f1) ((rd_T43 x0 x8).f2) x39000 x39001 x39002).bind fun t250 => (if t250 = true then (some x8) else (slices_IndexFunc_Word_impl_AreWords_1.L0 x0 x7 (wrap64 (x8 + 1)) x39000 x39001 x39002))) else (none)) else (none)) else (some (-1))) := by
  refine Lim.succ_eq (slices_IndexFunc_Word_impl_AreWords_1.L0_lim x0 x7 x8 x39000 x39001 x39002).mon ?_
  simp only [slices_IndexFunc_Word_impl_AreWords_1.l0]
  repeat' first
  | (with_reducible exact slices_IndexFunc_Word_impl_AreWords_1.L0_lim _ _ _ _ _ _)
  | (with_reducible refine Lim.ite ?_ ?_)
  | (with_reducible refine Lim.bind ?_ (fun _ => ?_))
  | (with_reducible exact Lim.const _)
theorem slices_IndexFunc_Word_impl_AreWords_1.F_eq (l0 : List (S43)) (a1_0 : ByteArray) (l1_1 : List Int) (a1_2 : Int) : slices_IndexFunc_Word_impl_AreWords_1.F l0 a1_0 l1_1 a1_2 = (slices_IndexFunc_Word_impl_AreWords_1.L0 l0 (l0.length : Int) 0 a1_0 l1_1 a1_2) := by
  refine Lim.eq_ ?_
  simp only [slices_IndexFunc_Word_impl_AreWords_1.f]
  repeat' first
  | (with_reducible exact slices_IndexFunc_Word_impl_AreWords_1.L0_lim _ _ _ _ _ _)
  | (with_reducible refine Lim.ite ?_ ?_)
  | (with_reducible refine Lim.bind ?_ (fun _ => ?_))
  | (with_reducible exact Lim.const _)
def slices_ContainsFunc_Word_impl_AreWords_1.f (k : Nat) (l0 : List (S43)) (a1_0 : ByteArray) (l1_1 : List Int) (a1_2 : Int) : Option (Bool) := (slices_IndexFunc_Word_impl_AreWords_1.f k l0 a1_0 l1_1 a1_2).bind fun t251 => (some (decide (t251 ≥ 0)))
theorem slices_ContainsFunc_Word_impl_AreWords_1.mono : ∀ a0 a1 a2 a3 k, LeO (slices_ContainsFunc_Word_impl_AreWords_1.f k a0 a1 a2 a3) (slices_ContainsFunc_Word_impl_AreWords_1.f (k + 1) a0 a1 a2 a3) := by
  intro a0 a1 a2 a3 k
  unfold slices_ContainsFunc_Word_impl_AreWords_1.f
  repeat' first
      | (with_reducible exact slices_IndexFunc_Word_impl_AreWords_1.mono _ _ _ _ _)
      | (with_reducible exact LeO.refl _)
      | (with_reducible exact LeO.none _)
      | (with_reducible refine LeO.ite ?_ ?_)
      | (with_reducible refine LeO.bind ?_ (fun _ => ?_))
      | exact slices_IndexFunc_Word_impl_AreWords_1.mono _ _ _ _ _
      | exact LeO.none _
      | refine LeO.ite ?_ ?_
      | refine LeO.bind ?_ (fun _ => ?_)
noncomputable def slices_ContainsFunc_Word_impl_AreWords_1.F (l0 : List (S43)) (a1_0 : ByteArray) (l1_1 : List Int) (a1_2 : Int) : Option (Bool) := lim fun k => slices_ContainsFunc_Word_impl_AreWords_1.f k l0 a1_0 l1_1 a1_2
theorem slices_ContainsFunc_Word_impl_AreWords_1.F_lim (l0 : List (S43)) (a1_0 : ByteArray) (l1_1 : List Int) (a1_2 : Int) : Lim (fun k => slices_ContainsFunc_Word_impl_AreWords_1.f k l0 a1_0 l1_1 a1_2) (slices_ContainsFunc_Word_impl_AreWords_1.F l0 a1_0 l1_1 a1_2) := ⟨slices_ContainsFunc_Word_impl_AreWords_1.mono l0 a1_0 l1_1 a1_2, rfl⟩
theorem slices_ContainsFunc_Word_impl_AreWords_1.F_eq (l0 : List (S43)) (a1_0 : ByteArray) (l1_1 : List Int) (a1_2 : Int) : slices_ContainsFunc_Word_impl_AreWords_1.F l0 a1_0 l1_1 a1_2 = ((slices_IndexFunc_Word_impl_AreWords_1.F l0 a1_0 l1_1 a1_2).bind fun t251 => (some (decide (t251 ≥ 0)))) := by
  refine Lim.eq_ ?_
  simp only [slices_ContainsFunc_Word_impl_AreWords_1.f]
  repeat' first
  | (with_reducible exact slices_IndexFunc_Word_impl_AreWords_1.F_lim _ _ _ _)
  | (with_reducible refine Lim.ite ?_ ?_)
  | (with_reducible refine Lim.bind ?_ (fun _ => ?_))
  | (with_reducible exact Lim.const _)
mutual
def impl_AreWords.l0 : Nat → List (S43) → List (S43) → Int → Int → Option (Bool)
  | 0, _, _, _, _ => none
  | k + 1, x0, x5, x6, x7 => if x7 < x6 then (if 0 ≤ x7 then (if x7 < (x5.length : Int) then ((impl_IsGloss.f k ((rd_T43 x5 x7).f0)).bind fun t254 => (if t254 = true then ((impl_within.f ((rd_T43 x5 x7).f2) 0 99999).bind fun t255 => (if t255 = true then ((impl_allWithin.f k ((rd_T43 x5 x7).f1) 0 (wrap64 ((x0.length : Int) - 1))).bind fun t256 => (if t256 = true then ((slices_Contains_int.f k ((rd_T43 x5 x7).f1) x7).bind fun t257 => (impl_AreWords.j1 k x0 x7 x5 x6 x7 t257 ((rd_T43 x5 x7).f0) ((rd_T43 x5 x7).f1) ((rd_T43 x5 x7).f2))) else (impl_AreWords.j1 k x0 x7 x5 x6 x7 true ((rd_T43 x5 x7).f0) ((rd_T43 x5 x7).f1) ((rd_T43 x5 x7).f2)))) else (impl_AreWords.j1 k x0 x7 x5 x6 x7 true ((rd_T43 x5 x7).f0) ((rd_T43 x5 x7).f1) ((rd_T43 x5 x7).f2)))) else (impl_AreWords.j1 k x0 x7 x5 x6 x7 true ((rd_T43 x5 x7).f0) ((rd_T43 x5 x7).f1) ((rd_T43 x5 x7).f2)))) else (none)) else (none)) else (some (decide ((x0.length : Int) ≤ 16)))
def impl_AreWords.j1 : Nat → List (S43) → Int → List (S43) → Int → Int → Bool → ByteArray → List Int → Int → Option (Bool)
  | 0, _, _, _, _, _, _, _, _, _ => none
  | k + 1, x0, x3, x5, x6, x7, x36, x254000, x254001, x254002 => if x36 = true then (some false) else ((impl_distinct_int.f x254001).bind fun t258 => (if (t258.length : Int) = (x254001.length : Int) then ((slices_IsSorted_int.f k x254001).bind fun t261 => (impl_AreWords.j2 k x0 x3 x5 x6 x7 (!t261) x254000 x254001 x254002)) else (impl_AreWords.j2 k x0 x3 x5 x6 x7 true x254000 x254001 x254002)))
def impl_AreWords.j2 : Nat → List (S43) → Int → List (S43) → Int → Int → Bool → ByteArray → List Int → Int → Option (Bool)
  | 0, _, _, _, _, _, _, _, _, _ => none
  | k + 1, x0, x3, x5, x6, x7, x50, x254000, x254001, x254002 => if x50 = true then (some false) else (if 0 ≤ x3 then (if x3 ≤ (x0.length : Int) then ((slices_ContainsFunc_Word_impl_AreWords_1.f k (x0.take (x3 : Int).toNat) x254000 x254001 x254002).bind fun t266 => (if t266 = true then (some false) else (impl_AreWords.l0 k x0 x5 x6 (wrap64 (x7 + 1))))) else (none)) else (none))
end
def impl_AreWords.f (k : Nat) (l0 : List (S43)) : Option (Bool) := impl_AreWords.l0 k l0 l0 (l0.length : Int) 0
theorem impl_AreWords.mono_l : ∀ k, (∀ y0 y1 y2 y3, LeO (impl_AreWords.l0 k y0 y1 y2 y3) (impl_AreWords.l0 (k + 1) y0 y1 y2 y3)) ∧ (∀ y0 y1 y2 y3 y4 y5 y6 y7 y8, LeO (impl_AreWords.j1 k y0 y1 y2 y3 y4 y5 y6 y7 y8) (impl_AreWords.j1 (k + 1) y0 y1 y2 y3 y4 y5 y6 y7 y8)) ∧ (∀ y0 y1 y2 y3 y4 y5 y6 y7 y8, LeO (impl_AreWords.j2 k y0 y1 y2 y3 y4 y5 y6 y7 y8) (impl_AreWords.j2 (k + 1) y0 y1 y2 y3 y4 y5 y6 y7 y8))
  | 0 => ⟨fun _ _ _ _ r h => by simp [impl_AreWords.l0] at h, fun _ _ _ _ _ _ _ _ _ r h => by simp [impl_AreWords.j1] at h, fun _ _ _ _ _ _ _ _ _ r h => by simp [impl_AreWords.j2] at h⟩
  | k + 1 => by
    obtain ⟨ih0, ih1, ih2⟩ := impl_AreWords.mono_l k
    refine ⟨?_, ?_, ?_⟩
    · intro y0 y1 y2 y3
      unfold impl_AreWords.l0
      repeat' first
      | (with_reducible exact ih0 _ _ _ _)
      | (with_reducible exact ih1 _ _ _ _ _ _ _ _ _)
      | (with_reducible exact ih2 _ _ _ _ _ _ _ _ _)
      | (with_reducible exact impl_IsGloss.mono _ _)
      | (with_reducible exact impl_allWithin.mono _ _ _ _)
      | (with_reducible exact slices_ContainsFunc_Word_impl_AreWords_1.mono _ _ _ _ _)
      | (with_reducible exact slices_Contains_int.mono _ _ _)
      | (with_reducible exact slices_IsSorted_int.mono _ _)
      | (with_reducible exact LeO.refl _)
      | (with_reducible exact LeO.none _)
      | (with_reducible refine LeO.ite ?_ ?_)
      | (with_reducible refine LeO.bind ?_ (fun _ => ?_))
      | exact ih0 _ _ _ _
      | exact ih1 _ _ _ _ _ _ _ _ _
      | exact ih2 _ _ _ _ _ _ _ _ _
      | exact impl_IsGloss.mono _ _
      | exact impl_allWithin.mono _ _ _ _
      | exact slices_ContainsFunc_Word_impl_AreWords_1.mono _ _ _ _ _
      | exact slices_Contains_int.mono _ _ _
      | exact slices_IsSorted_int.mono _ _
      | exact LeO.none _
      | refine LeO.ite ?_ ?_
      | refine LeO.bind ?_ (fun _ => ?_)
    · intro y0 y1 y2 y3 y4 y5 y6 y7 y8
      unfold impl_AreWords.j1
      repeat' first
      | (with_reducible exact ih0 _ _ _ _)
      | (with_reducible exact ih1 _ _ _ _ _ _ _ _ _)
      | (with_reducible exact ih2 _ _ _ _ _ _ _ _ _)
      | (with_reducible exact impl_IsGloss.mono _ _)
      | (with_reducible exact impl_allWithin.mono _ _ _ _)
      | (with_reducible exact slices_ContainsFunc_Word_impl_AreWords_1.mono _ _ _ _ _)
      | (with_reducible exact slices_Contains_int.mono _ _ _)
      | (with_reducible exact slices_IsSorted_int.mono _ _)
      | (with_reducible exact LeO.refl _)
      | (with_reducible exact LeO.none _)
      | (with_reducible refine LeO.ite ?_ ?_)
      | (with_reducible refine LeO.bind ?_ (fun _ => ?_))
      | exact ih0 _ _ _ _
      | exact ih1 _ _ _ _ _ _ _ _ _
      | exact ih2 _ _ _ _ _ _ _ _ _
      | exact impl_IsGloss.mono _ _
      | exact impl_allWithin.mono _ _ _ _
      | exact slices_ContainsFunc_Word_impl_AreWords_1.mono _ _ _ _ _
      | exact slices_Contains_int.mono _ _ _
      | exact slices_IsSorted_int.mono _ _
      | exact LeO.none _
      | refine LeO.ite ?_ ?_
      | refine LeO.bind ?_ (fun _ => ?_)
    · intro y0 y1 y2 y3 y4 y5 y6 y7 y8
      unfold impl_AreWords.j2
      repeat' first
      | (with_reducible exact ih0 _ _ _ _)
      | (with_reducible exact ih1 _ _ _ _ _ _ _ _ _)
      | (with_reducible exact ih2 _ _ _ _ _ _ _ _ _)
      | (with_reducible exact impl_IsGloss.mono _ _)
      | (with_reducible exact impl_allWithin.mono _ _ _ _)
      | (with_reducible exact slices_ContainsFunc_Word_impl_AreWords_1.mono _ _ _ _ _)
      | (with_reducible exact slices_Contains_int.mono _ _ _)
      | (with_reducible exact slices_IsSorted_int.mono _ _)
      | (with_reducible exact LeO.refl _)
      | (with_reducible exact LeO.none _)
      | (with_reducible refine LeO.ite ?_ ?_)
      | (with_reducible refine LeO.bind ?_ (fun _ => ?_))
      | exact ih0 _ _ _ _
      | exact ih1 _ _ _ _ _ _ _ _ _
      | exact ih2 _ _ _ _ _ _ _ _ _
      | exact impl_IsGloss.mono _ _
      | exact impl_allWithin.mono _ _ _ _
      | exact slices_ContainsFunc_Word_impl_AreWords_1.mono _ _ _ _ _
      | exact slices_Contains_int.mono _ _ _
      | exact slices_IsSorted_int.mono _ _
      | exact LeO.none _
      | refine LeO.ite ?_ ?_
      | refine LeO.bind ?_ (fun _ => ?_)
theorem impl_AreWords.mono : ∀ a0 k, LeO (impl_AreWords.f k a0) (impl_AreWords.f (k + 1) a0) := by
  intro a0 k
  obtain ⟨ih0, ih1, ih2⟩ := impl_AreWords.mono_l k
  unfold impl_AreWords.f
  repeat' first
      | (with_reducible exact ih0 _ _ _ _)
      | (with_reducible exact ih1 _ _ _ _ _ _ _ _ _)
      | (with_reducible exact ih2 _ _ _ _ _ _ _ _ _)
      | (with_reducible exact impl_IsGloss.mono _ _)
      | (with_reducible exact impl_allWithin.mono _ _ _ _)
      | (with_reducible exact slices_ContainsFunc_Word_impl_AreWords_1.mono _ _ _ _ _)
      | (with_reducible exact slices_Contains_int.mono _ _ _)
      | (with_reducible exact slices_IsSorted_int.mono _ _)
      | (with_reducible exact LeO.refl _)
      | (with_reducible exact LeO.none _)
      | (with_reducible refine LeO.ite ?_ ?_)
      | (with_reducible refine LeO.bind ?_ (fun _ => ?_))
      | exact ih0 _ _ _ _
      | exact ih1 _ _ _ _ _ _ _ _ _
      | exact ih2 _ _ _ _ _ _ _ _ _
      | exact impl_IsGloss.mono _ _
      | exact impl_allWithin.mono _ _ _ _
      | exact slices_ContainsFunc_Word_impl_AreWords_1.mono _ _ _ _ _
      | exact slices_Contains_int.mono _ _ _
      | exact slices_IsSorted_int.mono _ _
      | exact LeO.none _
      | refine LeO.ite ?_ ?_
      | refine LeO.bind ?_ (fun _ => ?_)
noncomputable def impl_AreWords.L0 (x0 : List (S43)) (x5 : List (S43)) (x6 : Int) (x7 : Int) : Option (Bool) := lim fun k => impl_AreWords.l0 k x0 x5 x6 x7
theorem impl_AreWords.L0_lim (x0 : List (S43)) (x5 : List (S43)) (x6 : Int) (x7 : Int) : Lim (fun k => impl_AreWords.l0 k x0 x5 x6 x7) (impl_AreWords.L0 x0 x5 x6 x7) := ⟨fun k => (impl_AreWords.mono_l k).1 x0 x5 x6 x7, rfl⟩
noncomputable def impl_AreWords.J1 (x0 : List (S43)) (x3 : Int) (x5 : List (S43)) (x6 : Int) (x7 : Int) (x36 : Bool) (x254000 : ByteArray) (x254001 : List Int) (x254002 : Int) : Option (Bool) := lim fun k => impl_AreWords.j1 k x0 x3 x5 x6 x7 x36 x254000 x254001 x254002
theorem impl_AreWords.J1_lim (x0 : List (S43)) (x3 : Int) (x5 : List (S43)) (x6 : Int) (x7 : Int) (x36 : Bool) (x254000 : ByteArray) (x254001 : List Int) (x254002 : Int) : Lim (fun k => impl_AreWords.j1 k x0 x3 x5 x6 x7 x36 x254000 x254001 x254002) (impl_AreWords.J1 x0 x3 x5 x6 x7 x36 x254000 x254001 x254002) := ⟨fun k => (impl_AreWords.mono_l k).2.1 x0 x3 x5 x6 x7 x36 x254000 x254001 x254002, rfl⟩
noncomputable def impl_AreWords.J2 (x0 : List (S43)) (x3 : Int) (x5 : List (S43)) (x6 : Int) (x7 : Int) (x50 : Bool) (x254000 : ByteArray) (x254001 : List Int) (x254002 : Int) : Option (Bool) := lim fun k => impl_AreWords.j2 k x0 x3 x5 x6 x7 x50 x254000 x254001 x254002
theorem impl_AreWords.J2_lim (x0 : List (S43)) (x3 : Int) (x5 : List (S43)) (x6 : Int) (x7 : Int) (x50 : Bool) (x254000 : ByteArray) (x254001 : List Int) (x254002 : Int) : Lim (fun k => impl_AreWords.j2 k x0 x3 x5 x6 x7 x50 x254000 x254001 x254002) (impl_AreWords.J2 x0 x3 x5 x6 x7 x50 x254000 x254001 x254002) := ⟨fun k => (impl_AreWords.mono_l k).2.2 x0 x3 x5 x6 x7 x50 x254000 x254001 x254002, rfl⟩
noncomputable def impl_AreWords.F (l0 : List (S43)) : Option (Bool) := lim fun k => impl_AreWords.f k l0
theorem impl_AreWords.F_lim (l0 : List (S43)) : Lim (fun k => impl_AreWords.f k l0) (impl_AreWords.F l0) := ⟨impl_AreWords.mono l0, rfl⟩
theorem impl_AreWords.L0_eq (x0 : List (S43)) (x5 : List (S43)) (x6 : Int) (x7 : Int) : impl_AreWords.L0 x0 x5 x6 x7 = (if x7 < x6 then (if 0 ≤ x7 then (if x7 < (x5.length : Int) then ((impl_IsGloss.F ((rd_T43 x5 x7).f0)).bind fun t254 => (if t254 = true then ((impl_within.f ((rd_T43 x5 x7).f2) 0 99999).bind fun t255 => (if t255 = true then ((impl_allWithin.F ((rd_T43 x5 x7).f1) 0 (wrap64 ((x0.length : Int) - 1))).bind fun t256 => (if t256 = true then ((slices_Contains_int.F ((rd_T43 x5 x7).f1) x7).bind fun t257 => (impl_AreWords.J1 x0 x7 x5 x6 x7 t257 ((rd_T43 x5 x7).f0) ((rd_T43 x5 x7).f1) ((rd_T43 x5 x7).f2))) else (impl_AreWords.J1 x0 x7 x5 x6 x7 true ((rd_T43 x5 x7).f0) ((rd_T43 x5 x7).f1) ((rd_T43 x5 x7).f2)))) else (impl_AreWords.J1 x0 x7 x5 x6 x7 true ((rd_T43 x5 x7).f0) ((rd_T43 x5 x7).f1) ((rd_T43 x5 x7).f2)))) else (impl_AreWords.J1 x0 x7 x5 x6 x7 true ((rd_T43 x5 x7).f0) ((rd_T43 x5 x7).f1) ((rd_T43 x5 x7).f2)))) else (none)) else (none)) else (some (decide ((x0.length : Int) ≤ 16)))) := by
  refine Lim.succ_eq (impl_AreWords.L0_lim x0 x5 x6 x7).mon ?_
  simp only [impl_AreWords.l0]
  repeat' first
  | (with_reducible exact impl_AreWords.L0_lim _ _ _ _)
  | (with_reducible exact impl_AreWords.J1_lim _ _ _ _ _ _ _ _ _)
  | (with_reducible exact impl_AreWords.J2_lim _ _ _ _ _ _ _ _ _)
  | (with_reducible exact impl_IsGloss.F_lim _)
  | (with_reducible exact impl_allWithin.F_lim _ _ _)
  | (with_reducible exact slices_ContainsFunc_Word_impl_AreWords_1.F_lim _ _ _ _)
  | (with_reducible exact slices_Contains_int.F_lim _ _)
  | (with_reducible exact slices_IsSorted_int.F_lim _)
  | (with_reducible refine Lim.ite ?_ ?_)
  | (with_reducible refine Lim.bind ?_ (fun _ => ?_))
  | (with_reducible exact Lim.const _)
theorem impl_AreWords.J1_eq (x0 : List (S43)) (x3 : Int) (x5 : List (S43)) (x6 : Int) (x7 : Int) (x36 : Bool) (x254000 : ByteArray) (x254001 : List Int) (x254002 : Int) : impl_AreWords.J1 x0 x3 x5 x6 x7 x36 x254000 x254001 x254002 = (if x36 = true then (some false) else ((impl_distinct_int.f x254001).bind fun t258 => (if (t258.length : Int) = (x254001.length : Int) then ((slices_IsSorted_int.F x254001).bind fun t261 => (impl_AreWords.J2 x0 x3 x5 x6 x7 (!t261) x254000 x254001 x254002)) else (impl_AreWords.J2 x0 x3 x5 x6 x7 true x254000 x254001 x254002)))) := by
  refine Lim.succ_eq (impl_AreWords.J1_lim x0 x3 x5 x6 x7 x36 x254000 x254001 x254002).mon ?_
  simp only [impl_AreWords.j1]
  repeat' first
  | (with_reducible exact impl_AreWords.L0_lim _ _ _ _)
  | (with_reducible exact impl_AreWords.J1_lim _ _ _ _ _ _ _ _ _)
  | (with_reducible exact impl_AreWords.J2_lim _ _ _ _ _ _ _ _ _)
  | (with_reducible exact impl_IsGloss.F_lim _)
  | (with_reducible exact impl_allWithin.F_lim _ _ _)
  | (with_reducible exact slices_ContainsFunc_Word_impl_AreWords_1.F_lim _ _ _ _)
  | (with_reducible exact slices_Contains_int.F_lim _ _)
  | (with_reducible exact slices_IsSorted_int.F_lim _)
  | (with_reducible refine Lim.ite ?_ ?_)
  | (with_reducible refine Lim.bind ?_ (fun _ => ?_))
  | (with_reducible exact Lim.const _)
theorem impl_AreWords.J2_eq (x0 : List (S43)) (x3 : Int) (x5 : List (S43)) (x6 : Int) (x7 : Int) (x50 : Bool) (x254000 : ByteArray) (x254001 : List Int) (x254002 : Int) : impl_AreWords.J2 x0 x3 x5 x6 x7 x50 x254000 x254001 x254002 = (if x50 = true then (some false) else (if 0 ≤ x3 then (if x3 ≤ (x0.length : Int) then ((slices_ContainsFunc_Word_impl_AreWords_1.F (x0.take (x3 : Int).toNat) x254000 x254001 x254002).bind fun t266 => (if t266 = true then (some false) else (impl_AreWords.L0 x0 x5 x6 (wrap64 (x7 + 1))))) else (none)) else (none))) := by
  refine Lim.succ_eq (impl_AreWords.J2_lim x0 x3 x5 x6 x7 x50 x254000 x254001 x254002).mon ?_
  simp only [impl_AreWords.j2]
  repeat' first
  | (with_reducible exact impl_AreWords.L0_lim _ _ _ _)
  | (with_reducible exact impl_AreWords.J1_lim _ _ _ _ _ _ _ _ _)
  | (with_reducible exact impl_AreWords.J2_lim _ _ _ _ _ _ _ _ _)
  | (with_reducible exact impl_IsGloss.F_lim _)
  | (with_reducible exact impl_allWithin.F_lim _ _ _)
  | (with_reducible exact slices_ContainsFunc_Word_impl_AreWords_1.F_lim _ _ _ _)
  | (with_reducible exact slices_Contains_int.F_lim _ _)
  | (with_reducible exact slices_IsSorted_int.F_lim _)
  | (with_reducible refine Lim.ite ?_ ?_)
  | (with_reducible refine Lim.bind ?_ (fun _ => ?_))
  | (with_reducible exact Lim.const _)
theorem impl_AreWords.F_eq (l0 : List (S43)) : impl_AreWords.F l0 = (impl_AreWords.L0 l0 l0 (l0.length : Int) 0) := by
  refine Lim.eq_ ?_
  simp only [impl_AreWords.f]
  repeat' first
  | (with_reducible exact impl_AreWords.L0_lim _ _ _ _)
  | (with_reducible exact impl_AreWords.J1_lim _ _ _ _ _ _ _ _ _)
  | (with_reducible exact impl_AreWords.J2_lim _ _ _ _ _ _ _ _ _)
  | (with_reducible exact impl_IsGloss.F_lim _)
  | (with_reducible exact impl_allWithin.F_lim _ _ _)
  | (with_reducible exact slices_ContainsFunc_Word_impl_AreWords_1.F_lim _ _ _ _)
  | (with_reducible exact slices_Contains_int.F_lim _ _)
  | (with_reducible exact slices_IsSorted_int.F_lim _)
  | (with_reducible refine Lim.ite ?_ ?_)
  | (with_reducible refine Lim.bind ?_ (fun _ => ?_))
  | (with_reducible exact Lim.const _)
mutual
def impl_neededFor.l0 : Nat → List (S43) → List Int → Int → Option (List Int)
  | 0, _, _, _ => none
  | k + 1, x0, x5, x6 => if x6 < (x5.length : Int) then (if 0 ≤ x6 then (if 0 ≤ (rd x5 x6) then (if (rd x5 x6) < (x0.length : Int) then (impl_neededFor.l1 k x0 x5 x6 ((rd_T43 x0 (rd x5 x6)).f1) (((rd_T43 x0 (rd x5 x6)).f1).length : Int) 0) else (none)) else (none)) else (none)) else ((slices_Sort_int.f x5).bind fun t271 => (some t271))
def impl_neededFor.l1 : Nat → List (S43) → List Int → Int → List Int → Int → Int → Option (List Int)
  | 0, _, _, _, _, _, _ => none
  | k + 1, x0, x5, x6, x28, x29, x30 => if x30 < x29 then (if 0 ≤ x30 then (if x30 < (x28.length : Int) then ((slices_Contains_int.f k x5 (rd x28 x30)).bind fun t275 => (if t275 = true then (impl_neededFor.l1 k x0 x5 x6 x28 x29 (wrap64 (x30 + 1))) else (if x5.length < 17592186044416 then (impl_neededFor.l1 k x0 (x5 ++ [rd x28 x30]) x6 x28 x29 (wrap64 (x30 + 1))) else (none)))) else (none)) else (none)) else (impl_neededFor.l0 k x0 x5 (wrap64 (x6 + 1)))
end
def impl_neededFor.f (k : Nat) (l0 : List (S43)) (a1 : Int) : Option (List Int) := if 0 ≤ a1 then (if a1 < (l0.length : Int) then ((slices_Clone_int.f ((rd_T43 l0 a1).f1)).bind fun t268 => (impl_neededFor.l0 k l0 t268 0)) else (none)) else (none)
theorem impl_neededFor.mono_l : ∀ k, (∀ y0 y1 y2, LeO (impl_neededFor.l0 k y0 y1 y2) (impl_neededFor.l0 (k + 1) y0 y1 y2)) ∧ (∀ y0 y1 y2 y3 y4 y5, LeO (impl_neededFor.l1 k y0 y1 y2 y3 y4 y5) (impl_neededFor.l1 (k + 1) y0 y1 y2 y3 y4 y5))
  | 0 => ⟨fun _ _ _ r h => by simp [impl_neededFor.l0] at h, fun _ _ _ _ _ _ r h => by simp [impl_neededFor.l1] at h⟩
  | k + 1 => by
    obtain ⟨ih0, ih1⟩ := impl_neededFor.mono_l k
    refine ⟨?_, ?_⟩
    · intro y0 y1 y2
      unfold impl_neededFor.l0
      repeat' first
      | (with_reducible exact ih0 _ _ _)
      | (with_reducible exact ih1 _ _ _ _ _ _)
      | (with_reducible exact slices_Contains_int.mono _ _ _)
      | (with_reducible exact LeO.refl _)
      | (with_reducible exact LeO.none _)
      | (with_reducible refine LeO.ite ?_ ?_)
      | (with_reducible refine LeO.bind ?_ (fun _ => ?_))
      | exact ih0 _ _ _
      | exact ih1 _ _ _ _ _ _
      | exact slices_Contains_int.mono _ _ _
      | exact LeO.none _
      | refine LeO.ite ?_ ?_
      | refine LeO.bind ?_ (fun _ => ?_)
    · intro y0 y1 y2 y3 y4 y5
      unfold impl_neededFor.l1
      repeat' first
      | (with_reducible exact ih0 _ _ _)
      | (with_reducible exact ih1 _ _ _ _ _ _)
      | (with_reducible exact slices_Contains_int.mono _ _ _)
      | (with_reducible exact LeO.refl _)
      | (with_reducible exact LeO.none _)
      | (with_reducible refine LeO.ite ?_ ?_)
      | (with_reducible refine LeO.bind ?_ (fun _ => ?_))
      | exact ih0 _ _ _
      | exact ih1 _ _ _ _ _ _
      | exact slices_Contains_int.mono _ _ _
      | exact LeO.none _
      | refine LeO.ite ?_ ?_
      | refine LeO.bind ?_ (fun _ => ?_)
theorem impl_neededFor.mono : ∀ a0 a1 k, LeO (impl_neededFor.f k a0 a1) (impl_neededFor.f (k + 1) a0 a1) := by
  intro a0 a1 k
  obtain ⟨ih0, ih1⟩ := impl_neededFor.mono_l k
  unfold impl_neededFor.f
  repeat' first
      | (with_reducible exact ih0 _ _ _)
      | (with_reducible exact ih1 _ _ _ _ _ _)
      | (with_reducible exact slices_Contains_int.mono _ _ _)
      | (with_reducible exact LeO.refl _)
      | (with_reducible exact LeO.none _)
      | (with_reducible refine LeO.ite ?_ ?_)
      | (with_reducible refine LeO.bind ?_ (fun _ => ?_))
      | exact ih0 _ _ _
      | exact ih1 _ _ _ _ _ _
      | exact slices_Contains_int.mono _ _ _
      | exact LeO.none _
      | refine LeO.ite ?_ ?_
      | refine LeO.bind ?_ (fun _ => ?_)
noncomputable def impl_neededFor.L0 (x0 : List (S43)) (x5 : List Int) (x6 : Int) : Option (List Int) := lim fun k => impl_neededFor.l0 k x0 x5 x6
theorem impl_neededFor.L0_lim (x0 : List (S43)) (x5 : List Int) (x6 : Int) : Lim (fun k => impl_neededFor.l0 k x0 x5 x6) (impl_neededFor.L0 x0 x5 x6) := ⟨fun k => (impl_neededFor.mono_l k).1 x0 x5 x6, rfl⟩
noncomputable def impl_neededFor.L1 (x0 : List (S43)) (x5 : List Int) (x6 : Int) (x28 : List Int) (x29 : Int) (x30 : Int) : Option (List Int) := lim fun k => impl_neededFor.l1 k x0 x5 x6 x28 x29 x30
theorem impl_neededFor.L1_lim (x0 : List (S43)) (x5 : List Int) (x6 : Int) (x28 : List Int) (x29 : Int) (x30 : Int) : Lim (fun k => impl_neededFor.l1 k x0 x5 x6 x28 x29 x30) (impl_neededFor.L1 x0 x5 x6 x28 x29 x30) := ⟨fun k => (impl_neededFor.mono_l k).2 x0 x5 x6 x28 x29 x30, rfl⟩
noncomputable def impl_neededFor.F (l0 : List (S43)) (a1 : Int) : Option (List Int) := lim fun k => impl_neededFor.f k l0 a1
theorem impl_neededFor.F_lim (l0 : List (S43)) (a1 : Int) : Lim (fun k => impl_neededFor.f k l0 a1) (impl_neededFor.F l0 a1) := ⟨impl_neededFor.mono l0 a1, rfl⟩
theorem impl_neededFor.L0_eq (x0 : List (S43)) (x5 : List Int) (x6 : Int) : impl_neededFor.L0 x0 x5 x6 = (if x6 < (x5.length : Int) then (if 0 ≤ x6 then (if 0 ≤ (rd x5 x6) then (if (rd x5 x6) < (x0.length : Int) then (impl_neededFor.L1 x0 x5 x6 ((rd_T43 x0 (rd x5 x6)).f1) (((rd_T43 x0 (rd x5 x6)).f1).length : Int) 0) else (none)) else (none)) else (none)) else ((slices_Sort_int.f x5).bind fun t271 => (some t271))) := by
  refine Lim.succ_eq (impl_neededFor.L0_lim x0 x5 x6).mon ?_
  simp only [impl_neededFor.l0]
  repeat' first
  | (with_reducible exact impl_neededFor.L0_lim _ _ _)
  | (with_reducible exact impl_neededFor.L1_lim _ _ _ _ _ _)
  | (with_reducible exact slices_Contains_int.F_lim _ _)
  | (with_reducible refine Lim.ite ?_ ?_)
  | (with_reducible refine Lim.bind ?_ (fun _ => ?_))
  | (with_reducible exact Lim.const _)
theorem impl_neededFor.L1_eq (x0 : List (S43)) (x5 : List Int) (x6 : Int) (x28 : List Int) (x29 : Int) (x30 : Int) : impl_neededFor.L1 x0 x5 x6 x28 x29 x30 = (if x30 < x29 then (if 0 ≤ x30 then (if x30 < (x28.length : Int) then ((slices_Contains_int.F x5 (rd x28 x30)).bind fun t275 => (if t275 = true then (impl_neededFor.L1 x0 x5 x6 x28 x29 (wrap64 (x30 + 1))) else (if x5.length < 17592186044416 then (impl_neededFor.L1 x0 (x5 ++ [rd x28 x30]) x6 x28 x29 (wrap64 (x30 + 1))) else (none)))) else (none)) else (none)) else (impl_neededFor.L0 x0 x5 (wrap64 (x6 + 1)))) := by
  refine Lim.succ_eq (impl_neededFor.L1_lim x0 x5 x6 x28 x29 x30).mon ?_
  simp only [impl_neededFor.l1]
  repeat' first
  | (with_reducible exact impl_neededFor.L0_lim _ _ _)
  | (with_reducible exact impl_neededFor.L1_lim _ _ _ _ _ _)
  | (with_reducible exact slices_Contains_int.F_lim _ _)
  | (with_reducible refine Lim.ite ?_ ?_)
  | (with_reducible refine Lim.bind ?_ (fun _ => ?_))
  | (with_reducible exact Lim.const _)
theorem impl_neededFor.F_eq (l0 : List (S43)) (a1 : Int) : impl_neededFor.F l0 a1 = (if 0 ≤ a1 then (if a1 < (l0.length : Int) then ((slices_Clone_int.f ((rd_T43 l0 a1).f1)).bind fun t268 => (impl_neededFor.L0 l0 t268 0)) else (none)) else (none)) := by
  refine Lim.eq_ ?_
  simp only [impl_neededFor.f]
  repeat' first
  | (with_reducible exact impl_neededFor.L0_lim _ _ _)
  | (with_reducible exact impl_neededFor.L1_lim _ _ _ _ _ _)
  | (with_reducible exact slices_Contains_int.F_lim _ _)
  | (with_reducible refine Lim.ite ?_ ?_)
  | (with_reducible refine Lim.bind ?_ (fun _ => ?_))
  | (with_reducible exact Lim.const _)
def impl_NeededFor.j0 : Nat → List (S43) → Int → Bool → Option (List Int × Bool)
  | 0, _, _, _ => none
  | k + 1, x0, x1, x17 => if x17 = true then (some (([] : List Int), false)) else ((impl_neededFor.f k x0 x1).bind fun t281 => ((slices_Contains_int.f k t281 x1).bind fun t284 => (if t284 = true then (some (([] : List Int), false)) else (some (t281, true)))))
def impl_NeededFor.f (k : Nat) (l0 : List (S43)) (a1 : Int) : Option (List Int × Bool) := (impl_AreWords.f k l0).bind fun t279 => (if t279 = true then ((impl_within.f a1 0 (wrap64 ((l0.length : Int) - 1))).bind fun t280 => (impl_NeededFor.j0 k l0 a1 (!t280))) else (impl_NeededFor.j0 k l0 a1 true))
theorem impl_NeededFor.mono_l : ∀ k, (∀ y0 y1 y2, LeO (impl_NeededFor.j0 k y0 y1 y2) (impl_NeededFor.j0 (k + 1) y0 y1 y2))
  | 0 => fun _ _ _ r h => by simp [impl_NeededFor.j0] at h
  | k + 1 => by
    have ih0 := impl_NeededFor.mono_l k
    · intro y0 y1 y2
      unfold impl_NeededFor.j0
      repeat' first
      | (with_reducible exact ih0 _ _ _)
      | (with_reducible exact impl_AreWords.mono _ _)
      | (with_reducible exact impl_neededFor.mono _ _ _)
      | (with_reducible exact slices_Contains_int.mono _ _ _)
      | (with_reducible exact LeO.refl _)
      | (with_reducible exact LeO.none _)
      | (with_reducible refine LeO.ite ?_ ?_)
      | (with_reducible refine LeO.bind ?_ (fun _ => ?_))
      | exact ih0 _ _ _
      | exact impl_AreWords.mono _ _
      | exact impl_neededFor.mono _ _ _
      | exact slices_Contains_int.mono _ _ _
      | exact LeO.none _
      | refine LeO.ite ?_ ?_
      | refine LeO.bind ?_ (fun _ => ?_)
theorem impl_NeededFor.mono : ∀ a0 a1 k, LeO (impl_NeededFor.f k a0 a1) (impl_NeededFor.f (k + 1) a0 a1) := by
  intro a0 a1 k
  have ih0 := impl_NeededFor.mono_l k
  unfold impl_NeededFor.f
  repeat' first
      | (with_reducible exact ih0 _ _ _)
      | (with_reducible exact impl_AreWords.mono _ _)
      | (with_reducible exact impl_neededFor.mono _ _ _)
      | (with_reducible exact slices_Contains_int.mono _ _ _)
      | (with_reducible exact LeO.refl _)
      | (with_reducible exact LeO.none _)
      | (with_reducible refine LeO.ite ?_ ?_)
      | (with_reducible refine LeO.bind ?_ (fun _ => ?_))
      | exact ih0 _ _ _
      | exact impl_AreWords.mono _ _
      | exact impl_neededFor.mono _ _ _
      | exact slices_Contains_int.mono _ _ _
      | exact LeO.none _
      | refine LeO.ite ?_ ?_
      | refine LeO.bind ?_ (fun _ => ?_)
noncomputable def impl_NeededFor.J0 (x0 : List (S43)) (x1 : Int) (x17 : Bool) : Option (List Int × Bool) := lim fun k => impl_NeededFor.j0 k x0 x1 x17
theorem impl_NeededFor.J0_lim (x0 : List (S43)) (x1 : Int) (x17 : Bool) : Lim (fun k => impl_NeededFor.j0 k x0 x1 x17) (impl_NeededFor.J0 x0 x1 x17) := ⟨fun k => (impl_NeededFor.mono_l k) x0 x1 x17, rfl⟩
noncomputable def impl_NeededFor.F (l0 : List (S43)) (a1 : Int) : Option (List Int × Bool) := lim fun k => impl_NeededFor.f k l0 a1
theorem impl_NeededFor.F_lim (l0 : List (S43)) (a1 : Int) : Lim (fun k => impl_NeededFor.f k l0 a1) (impl_NeededFor.F l0 a1) := ⟨impl_NeededFor.mono l0 a1, rfl⟩
theorem impl_NeededFor.J0_eq (x0 : List (S43)) (x1 : Int) (x17 : Bool) : impl_NeededFor.J0 x0 x1 x17 = (if x17 = true then (some (([] : List Int), false)) else ((impl_neededFor.F x0 x1).bind fun t281 => ((slices_Contains_int.F t281 x1).bind fun t284 => (if t284 = true then (some (([] : List Int), false)) else (some (t281, true)))))) := by
  refine Lim.succ_eq (impl_NeededFor.J0_lim x0 x1 x17).mon ?_
  simp only [impl_NeededFor.j0]
  repeat' first
  | (with_reducible exact impl_NeededFor.J0_lim _ _ _)
  | (with_reducible exact impl_AreWords.F_lim _)
  | (with_reducible exact impl_neededFor.F_lim _ _)
  | (with_reducible exact slices_Contains_int.F_lim _ _)
  | (with_reducible refine Lim.ite ?_ ?_)
  | (with_reducible refine Lim.bind ?_ (fun _ => ?_))
  | (with_reducible exact Lim.const _)
theorem impl_NeededFor.F_eq (l0 : List (S43)) (a1 : Int) : impl_NeededFor.F l0 a1 = ((impl_AreWords.F l0).bind fun t279 => (if t279 = true then ((impl_within.f a1 0 (wrap64 ((l0.length : Int) - 1))).bind fun t280 => (impl_NeededFor.J0 l0 a1 (!t280))) else (impl_NeededFor.J0 l0 a1 true))) := by
  refine Lim.eq_ ?_
  simp only [impl_NeededFor.f]
  repeat' first
  | (with_reducible exact impl_NeededFor.J0_lim _ _ _)
  | (with_reducible exact impl_AreWords.F_lim _)
  | (with_reducible exact impl_neededFor.F_lim _ _)
  | (with_reducible exact slices_Contains_int.F_lim _ _)
  | (with_reducible refine Lim.ite ?_ ?_)
  | (with_reducible refine Lim.bind ?_ (fun _ => ?_))
  | (with_reducible exact Lim.const _)
def laws_eqIntS.l0 : Nat → List Int → List Int → Int → Option (Bool)
  | 0, _, _, _ => none
  | k + 1, x0, x1, x5 => if x5 < (x0.length : Int) then (if 0 ≤ x5 then (if x5 < (x1.length : Int) then (if (rd x0 x5) = (rd x1 x5) then (laws_eqIntS.l0 k x0 x1 (wrap64 (x5 + 1))) else (some false)) else (none)) else (none)) else (some true)
def laws_eqIntS.f (k : Nat) (l0 : List Int) (l1 : List Int) : Option (Bool) := if (l0.length : Int) = (l1.length : Int) then (laws_eqIntS.l0 k l0 l1 0) else (some false)
theorem laws_eqIntS.mono_l : ∀ k, (∀ y0 y1 y2, LeO (laws_eqIntS.l0 k y0 y1 y2) (laws_eqIntS.l0 (k + 1) y0 y1 y2))
  | 0 => fun _ _ _ r h => by simp [laws_eqIntS.l0] at h
  | k + 1 => by
    have ih0 := laws_eqIntS.mono_l k
    · intro y0 y1 y2
      unfold laws_eqIntS.l0
      repeat' first
      | (with_reducible exact ih0 _ _ _)
      | (with_reducible exact LeO.refl _)
      | (with_reducible exact LeO.none _)
      | (with_reducible refine LeO.ite ?_ ?_)
      | (with_reducible refine LeO.bind ?_ (fun _ => ?_))
      | exact ih0 _ _ _
      | exact LeO.none _
      | refine LeO.ite ?_ ?_
      | refine LeO.bind ?_ (fun _ => ?_)
theorem laws_eqIntS.mono : ∀ a0 a1 k, LeO (laws_eqIntS.f k a0 a1) (laws_eqIntS.f (k + 1) a0 a1) := by
  intro a0 a1 k
  have ih0 := laws_eqIntS.mono_l k
  unfold laws_eqIntS.f
  repeat' first
      | (with_reducible exact ih0 _ _ _)
      | (with_reducible exact LeO.refl _)
      | (with_reducible exact LeO.none _)
      | (with_reducible refine LeO.ite ?_ ?_)
      | (with_reducible refine LeO.bind ?_ (fun _ => ?_))
      | exact ih0 _ _ _
      | exact LeO.none _
      | refine LeO.ite ?_ ?_
      | refine LeO.bind ?_ (fun _ => ?_)
noncomputable def laws_eqIntS.L0 (x0 : List Int) (x1 : List Int) (x5 : Int) : Option (Bool) := lim fun k => laws_eqIntS.l0 k x0 x1 x5
theorem laws_eqIntS.L0_lim (x0 : List Int) (x1 : List Int) (x5 : Int) : Lim (fun k => laws_eqIntS.l0 k x0 x1 x5) (laws_eqIntS.L0 x0 x1 x5) := ⟨fun k => (laws_eqIntS.mono_l k) x0 x1 x5, rfl⟩
noncomputable def laws_eqIntS.F (l0 : List Int) (l1 : List Int) : Option (Bool) := lim fun k => laws_eqIntS.f k l0 l1
theorem laws_eqIntS.F_lim (l0 : List Int) (l1 : List Int) : Lim (fun k => laws_eqIntS.f k l0 l1) (laws_eqIntS.F l0 l1) := ⟨laws_eqIntS.mono l0 l1, rfl⟩
theorem laws_eqIntS.L0_eq (x0 : List Int) (x1 : List Int) (x5 : Int) : laws_eqIntS.L0 x0 x1 x5 = (if x5 < (x0.length : Int) then (if 0 ≤ x5 then (if x5 < (x1.length : Int) then (if (rd x0 x5) = (rd x1 x5) then (laws_eqIntS.L0 x0 x1 (wrap64 (x5 + 1))) else (some false)) else (none)) else (none)) else (some true)) := by
  refine Lim.succ_eq (laws_eqIntS.L0_lim x0 x1 x5).mon ?_
  simp only [laws_eqIntS.l0]
  repeat' first
  | (with_reducible exact laws_eqIntS.L0_lim _ _ _)
  | (with_reducible refine Lim.ite ?_ ?_)
  | (with_reducible refine Lim.bind ?_ (fun _ => ?_))
  | (with_reducible exact Lim.const _)
theorem laws_eqIntS.F_eq (l0 : List Int) (l1 : List Int) : laws_eqIntS.F l0 l1 = (if (l0.length : Int) = (l1.length : Int) then (laws_eqIntS.L0 l0 l1 0) else (some false)) := by
  refine Lim.eq_ ?_
  simp only [laws_eqIntS.f]
  repeat' first
  | (with_reducible exact laws_eqIntS.L0_lim _ _ _)
  | (with_reducible refine Lim.ite ?_ ?_)
  | (with_reducible refine Lim.bind ?_ (fun _ => ?_))
  | (with_reducible exact Lim.const _)
def laws_eqWord.f (k : Nat) (a0_0 : ByteArray) (l0_1 : List Int) (a0_2 : Int) (a1_0 : ByteArray) (l1_1 : List Int) (a1_2 : Int) : Option (Bool) := if a0_0.toList = a1_0.toList then ((laws_eqIntS.f k l0_1 l1_1).bind fun t289 => (if t289 = true then (if a0_2 = a1_2 then (some true) else (some false)) else (some false))) else (some false)
theorem laws_eqWord.mono : ∀ a0 a1 a2 a3 a4 a5 k, LeO (laws_eqWord.f k a0 a1 a2 a3 a4 a5) (laws_eqWord.f (k + 1) a0 a1 a2 a3 a4 a5) := by
  intro a0 a1 a2 a3 a4 a5 k
  unfold laws_eqWord.f
  repeat' first
      | (with_reducible exact laws_eqIntS.mono _ _ _)
      | (with_reducible exact LeO.refl _)
      | (with_reducible exact LeO.none _)
      | (with_reducible refine LeO.ite ?_ ?_)
      | (with_reducible refine LeO.bind ?_ (fun _ => ?_))
      | exact laws_eqIntS.mono _ _ _
      | exact LeO.none _
      | refine LeO.ite ?_ ?_
      | refine LeO.bind ?_ (fun _ => ?_)
noncomputable def laws_eqWord.F (a0_0 : ByteArray) (l0_1 : List Int) (a0_2 : Int) (a1_0 : ByteArray) (l1_1 : List Int) (a1_2 : Int) : Option (Bool) := lim fun k => laws_eqWord.f k a0_0 l0_1 a0_2 a1_0 l1_1 a1_2
theorem laws_eqWord.F_lim (a0_0 : ByteArray) (l0_1 : List Int) (a0_2 : Int) (a1_0 : ByteArray) (l1_1 : List Int) (a1_2 : Int) : Lim (fun k => laws_eqWord.f k a0_0 l0_1 a0_2 a1_0 l1_1 a1_2) (laws_eqWord.F a0_0 l0_1 a0_2 a1_0 l1_1 a1_2) := ⟨laws_eqWord.mono a0_0 l0_1 a0_2 a1_0 l1_1 a1_2, rfl⟩
theorem laws_eqWord.F_eq (a0_0 : ByteArray) (l0_1 : List Int) (a0_2 : Int) (a1_0 : ByteArray) (l1_1 : List Int) (a1_2 : Int) : laws_eqWord.F a0_0 l0_1 a0_2 a1_0 l1_1 a1_2 = (if a0_0.toList = a1_0.toList then ((laws_eqIntS.F l0_1 l1_1).bind fun t289 => (if t289 = true then (if a0_2 = a1_2 then (some true) else (some false)) else (some false))) else (some false)) := by
  refine Lim.eq_ ?_
  simp only [laws_eqWord.f]
  repeat' first
  | (with_reducible exact laws_eqIntS.F_lim _ _)
  | (with_reducible refine Lim.ite ?_ ?_)
  | (with_reducible refine Lim.bind ?_ (fun _ => ?_))
  | (with_reducible exact Lim.const _)
def laws_eqWordS.l0 : Nat → List (S43) → List (S43) → Int → Option (Bool)
  | 0, _, _, _ => none
  | k + 1, x0, x1, x5 => if x5 < (x0.length : Int) then (if 0 ≤ x5 then (if x5 < (x1.length : Int) then ((laws_eqWord.f k ((rd_T43 x0 x5).f0) ((rd_T43 x0 x5).f1) ((rd_T43 x0 x5).f2) ((rd_T43 x1 x5).f0) ((rd_T43 x1 x5).f1) ((rd_T43 x1 x5).f2)).bind fun t292 => (if t292 = true then (laws_eqWordS.l0 k x0 x1 (wrap64 (x5 + 1))) else (some false))) else (none)) else (none)) else (some true)
def laws_eqWordS.f (k : Nat) (l0 : List (S43)) (l1 : List (S43)) : Option (Bool) := if (l0.length : Int) = (l1.length : Int) then (laws_eqWordS.l0 k l0 l1 0) else (some false)
theorem laws_eqWordS.mono_l : ∀ k, (∀ y0 y1 y2, LeO (laws_eqWordS.l0 k y0 y1 y2) (laws_eqWordS.l0 (k + 1) y0 y1 y2))
  | 0 => fun _ _ _ r h => by simp [laws_eqWordS.l0] at h
  | k + 1 => by
    have ih0 := laws_eqWordS.mono_l k
    · intro y0 y1 y2
      unfold laws_eqWordS.l0
      repeat' first
      | (with_reducible exact ih0 _ _ _)
      | (with_reducible exact laws_eqWord.mono _ _ _ _ _ _ _)
      | (with_reducible exact LeO.refl _)
      | (with_reducible exact LeO.none _)
      | (with_reducible refine LeO.ite ?_ ?_)
      | (with_reducible refine LeO.bind ?_ (fun _ => ?_))
      | exact ih0 _ _ _
      | exact laws_eqWord.mono _ _ _ _ _ _ _
      | exact LeO.none _
      | refine LeO.ite ?_ ?_
      | refine LeO.bind ?_ (fun _ => ?_)
theorem laws_eqWordS.mono : ∀ a0 a1 k, LeO (laws_eqWordS.f k a0 a1) (laws_eqWordS.f (k + 1) a0 a1) := by
  intro a0 a1 k
  have ih0 := laws_eqWordS.mono_l k
  unfold laws_eqWordS.f
  repeat' first
      | (with_reducible exact ih0 _ _ _)
      | (with_reducible exact laws_eqWord.mono _ _ _ _ _ _ _)
      | (with_reducible exact LeO.refl _)
      | (with_reducible exact LeO.none _)
      | (with_reducible refine LeO.ite ?_ ?_)
      | (with_reducible refine LeO.bind ?_ (fun _ => ?_))
      | exact ih0 _ _ _
      | exact laws_eqWord.mono _ _ _ _ _ _ _
      | exact LeO.none _
      | refine LeO.ite ?_ ?_
      | refine LeO.bind ?_ (fun _ => ?_)
noncomputable def laws_eqWordS.L0 (x0 : List (S43)) (x1 : List (S43)) (x5 : Int) : Option (Bool) := lim fun k => laws_eqWordS.l0 k x0 x1 x5
theorem laws_eqWordS.L0_lim (x0 : List (S43)) (x1 : List (S43)) (x5 : Int) : Lim (fun k => laws_eqWordS.l0 k x0 x1 x5) (laws_eqWordS.L0 x0 x1 x5) := ⟨fun k => (laws_eqWordS.mono_l k) x0 x1 x5, rfl⟩
noncomputable def laws_eqWordS.F (l0 : List (S43)) (l1 : List (S43)) : Option (Bool) := lim fun k => laws_eqWordS.f k l0 l1
theorem laws_eqWordS.F_lim (l0 : List (S43)) (l1 : List (S43)) : Lim (fun k => laws_eqWordS.f k l0 l1) (laws_eqWordS.F l0 l1) := ⟨laws_eqWordS.mono l0 l1, rfl⟩
theorem laws_eqWordS.L0_eq (x0 : List (S43)) (x1 : List (S43)) (x5 : Int) : laws_eqWordS.L0 x0 x1 x5 = (if x5 < (x0.length : Int) then (if 0 ≤ x5 then (if x5 < (x1.length : Int) then ((laws_eqWord.F ((rd_T43 x0 x5).f0) ((rd_T43 x0 x5).f1) ((rd_T43 x0 x5).f2) ((rd_T43 x1 x5).f0) ((rd_T43 x1 x5).f1) ((rd_T43 x1 x5).f2)).bind fun t292 => (if t292 = true then (laws_eqWordS.L0 x0 x1 (wrap64 (x5 + 1))) else (some false))) else (none)) else (none)) else (some true)) := by
  refine Lim.succ_eq (laws_eqWordS.L0_lim x0 x1 x5).mon ?_
  simp only [laws_eqWordS.l0]
  repeat' first
  | (with_reducible exact laws_eqWordS.L0_lim _ _ _)
  | (with_reducible exact laws_eqWord.F_lim _ _ _ _ _ _)
  | (with_reducible refine Lim.ite ?_ ?_)
  | (with_reducible refine Lim.bind ?_ (fun _ => ?_))
  | (with_reducible exact Lim.const _)
theorem laws_eqWordS.F_eq (l0 : List (S43)) (l1 : List (S43)) : laws_eqWordS.F l0 l1 = (if (l0.length : Int) = (l1.length : Int) then (laws_eqWordS.L0 l0 l1 0) else (some false)) := by
  refine Lim.eq_ ?_
  simp only [laws_eqWordS.f]
  repeat' first
  | (with_reducible exact laws_eqWordS.L0_lim _ _ _)
  | (with_reducible exact laws_eqWord.F_lim _ _ _ _ _ _)
  | (with_reducible refine Lim.ite ?_ ?_)
  | (with_reducible refine Lim.bind ?_ (fun _ => ?_))
  | (with_reducible exact Lim.const _)
def laws_markIntS.l0 : Nat → List Int → Int → Int → Option (Int × List Int)
  | 0, _, _, _ => none
  | k + 1, x0, x1, x5 => if x5 < (x0.length : Int) then (if 0 ≤ x5 then (laws_markIntS.l0 k (x0.set (x5 : Int).toNat x1) (wrap64 (x1 + 1)) (wrap64 (x5 + 1))) else (none)) else (some (x1, x0))
def laws_markIntS.f (k : Nat) (l0 : List Int) (a1 : Int) : Option (Int × List Int) := laws_markIntS.l0 k l0 a1 0
theorem laws_markIntS.mono_l : ∀ k, (∀ y0 y1 y2, LeO (laws_markIntS.l0 k y0 y1 y2) (laws_markIntS.l0 (k + 1) y0 y1 y2))
  | 0 => fun _ _ _ r h => by simp [laws_markIntS.l0] at h
  | k + 1 => by
    have ih0 := laws_markIntS.mono_l k
    · intro y0 y1 y2
      unfold laws_markIntS.l0
      repeat' first
      | (with_reducible exact ih0 _ _ _)
      | (with_reducible exact LeO.refl _)
      | (with_reducible exact LeO.none _)
      | (with_reducible refine LeO.ite ?_ ?_)
      | (with_reducible refine LeO.bind ?_ (fun _ => ?_))
      | exact ih0 _ _ _
      | exact LeO.none _
      | refine LeO.ite ?_ ?_
      | refine LeO.bind ?_ (fun _ => ?_)
theorem laws_markIntS.mono : ∀ a0 a1 k, LeO (laws_markIntS.f k a0 a1) (laws_markIntS.f (k + 1) a0 a1) := by
  intro a0 a1 k
  have ih0 := laws_markIntS.mono_l k
  unfold laws_markIntS.f
  repeat' first
      | (with_reducible exact ih0 _ _ _)
      | (with_reducible exact LeO.refl _)
      | (with_reducible exact LeO.none _)
      | (with_reducible refine LeO.ite ?_ ?_)
      | (with_reducible refine LeO.bind ?_ (fun _ => ?_))
      | exact ih0 _ _ _
      | exact LeO.none _
      | refine LeO.ite ?_ ?_
      | refine LeO.bind ?_ (fun _ => ?_)
noncomputable def laws_markIntS.L0 (x0 : List Int) (x1 : Int) (x5 : Int) : Option (Int × List Int) := lim fun k => laws_markIntS.l0 k x0 x1 x5
theorem laws_markIntS.L0_lim (x0 : List Int) (x1 : Int) (x5 : Int) : Lim (fun k => laws_markIntS.l0 k x0 x1 x5) (laws_markIntS.L0 x0 x1 x5) := ⟨fun k => (laws_markIntS.mono_l k) x0 x1 x5, rfl⟩
noncomputable def laws_markIntS.F (l0 : List Int) (a1 : Int) : Option (Int × List Int) := lim fun k => laws_markIntS.f k l0 a1
theorem laws_markIntS.F_lim (l0 : List Int) (a1 : Int) : Lim (fun k => laws_markIntS.f k l0 a1) (laws_markIntS.F l0 a1) := ⟨laws_markIntS.mono l0 a1, rfl⟩
theorem laws_markIntS.L0_eq (x0 : List Int) (x1 : Int) (x5 : Int) : laws_markIntS.L0 x0 x1 x5 = (if x5 < (x0.length : Int) then (if 0 ≤ x5 then (laws_markIntS.L0 (x0.set (x5 : Int).toNat x1) (wrap64 (x1 + 1)) (wrap64 (x5 + 1))) else (none)) else (some (x1, x0))) := by
  refine Lim.succ_eq (laws_markIntS.L0_lim x0 x1 x5).mon ?_
  simp only [laws_markIntS.l0]
  repeat' first
  | (with_reducible exact laws_markIntS.L0_lim _ _ _)
  | (with_reducible refine Lim.ite ?_ ?_)
  | (with_reducible refine Lim.bind ?_ (fun _ => ?_))
  | (with_reducible exact Lim.const _)
theorem laws_markIntS.F_eq (l0 : List Int) (a1 : Int) : laws_markIntS.F l0 a1 = (laws_markIntS.L0 l0 a1 0) := by
  refine Lim.eq_ ?_
  simp only [laws_markIntS.f]
  repeat' first
  | (with_reducible exact laws_markIntS.L0_lim _ _ _)
  | (with_reducible refine Lim.ite ?_ ?_)
  | (with_reducible refine Lim.bind ?_ (fun _ => ?_))
  | (with_reducible exact Lim.const _)
def laws_markText.l0 : Nat → Int → ByteArray → Option (ByteArray)
  | 0, _, _ => none
  | k + 1, x0, x3 => if x0 > 0 then ((some (([(wrap64 (48 + (Int.tmod x0 10))) % 256] : List Int) : List Int)).bind fun y294 => (if (strOfNums y294).size + x3.size ≤ 9223372036854775807 then (laws_markText.l0 k (wrap64 (Int.tdiv x0 10)) ((strOfNums y294) ++ x3)) else (none))) else (if 1 + x3.size ≤ 9223372036854775807 then (some ((⟨#[109]⟩ : ByteArray) ++ x3)) else (none))
def laws_markText.f (k : Nat) (a0 : Int) : Option (ByteArray) := if a0 ≤ 0 then (some (⟨#[109, 48]⟩ : ByteArray)) else (laws_markText.l0 k a0 (⟨#[]⟩ : ByteArray))
theorem laws_markText.mono_l : ∀ k, (∀ y0 y1, LeO (laws_markText.l0 k y0 y1) (laws_markText.l0 (k + 1) y0 y1))
  | 0 => fun _ _ r h => by simp [laws_markText.l0] at h
  | k + 1 => by
    have ih0 := laws_markText.mono_l k
    · intro y0 y1
      unfold laws_markText.l0
      repeat' first
      | (with_reducible exact ih0 _ _)
      | (with_reducible exact LeO.refl _)
      | (with_reducible exact LeO.none _)
      | (with_reducible refine LeO.ite ?_ ?_)
      | (with_reducible refine LeO.bind ?_ (fun _ => ?_))
      | exact ih0 _ _
      | exact LeO.none _
      | refine LeO.ite ?_ ?_
      | refine LeO.bind ?_ (fun _ => ?_)
theorem laws_markText.mono : ∀ a0 k, LeO (laws_markText.f k a0) (laws_markText.f (k + 1) a0) := by
  intro a0 k
  have ih0 := laws_markText.mono_l k
  unfold laws_markText.f
  repeat' first
      | (with_reducible exact ih0 _ _)
      | (with_reducible exact LeO.refl _)
      | (with_reducible exact LeO.none _)
      | (with_reducible refine LeO.ite ?_ ?_)
      | (with_reducible refine LeO.bind ?_ (fun _ => ?_))
      | exact ih0 _ _
      | exact LeO.none _
      | refine LeO.ite ?_ ?_
      | refine LeO.bind ?_ (fun _ => ?_)
noncomputable def laws_markText.L0 (x0 : Int) (x3 : ByteArray) : Option (ByteArray) := lim fun k => laws_markText.l0 k x0 x3
theorem laws_markText.L0_lim (x0 : Int) (x3 : ByteArray) : Lim (fun k => laws_markText.l0 k x0 x3) (laws_markText.L0 x0 x3) := ⟨fun k => (laws_markText.mono_l k) x0 x3, rfl⟩
noncomputable def laws_markText.F (a0 : Int) : Option (ByteArray) := lim fun k => laws_markText.f k a0
theorem laws_markText.F_lim (a0 : Int) : Lim (fun k => laws_markText.f k a0) (laws_markText.F a0) := ⟨laws_markText.mono a0, rfl⟩
theorem laws_markText.L0_eq (x0 : Int) (x3 : ByteArray) : laws_markText.L0 x0 x3 = (if x0 > 0 then ((some (([(wrap64 (48 + (Int.tmod x0 10))) % 256] : List Int) : List Int)).bind fun y294 => (if (strOfNums y294).size + x3.size ≤ 9223372036854775807 then (laws_markText.L0 (wrap64 (Int.tdiv x0 10)) ((strOfNums y294) ++ x3)) else (none))) else (if 1 + x3.size ≤ 9223372036854775807 then (some ((⟨#[109]⟩ : ByteArray) ++ x3)) else (none))) := by
  refine Lim.succ_eq (laws_markText.L0_lim x0 x3).mon ?_
  simp only [laws_markText.l0]
  repeat' first
  | (with_reducible exact laws_markText.L0_lim _ _)
  | (with_reducible refine Lim.ite ?_ ?_)
  | (with_reducible refine Lim.bind ?_ (fun _ => ?_))
  | (with_reducible exact Lim.const _)
theorem laws_markText.F_eq (a0 : Int) : laws_markText.F a0 = (if a0 ≤ 0 then (some (⟨#[109, 48]⟩ : ByteArray)) else (laws_markText.L0 a0 (⟨#[]⟩ : ByteArray))) := by
  refine Lim.eq_ ?_
  simp only [laws_markText.f]
  repeat' first
  | (with_reducible exact laws_markText.L0_lim _ _)
  | (with_reducible refine Lim.ite ?_ ?_)
  | (with_reducible refine Lim.bind ?_ (fun _ => ?_))
  | (with_reducible exact Lim.const _)
def laws_markWordS.nums (a : Int) : Nat → List Int
  | 0 => []
  | n + 1 => a :: laws_markWordS.nums (a + 1) n
theorem laws_markWordS.nums_length (a : Int) : ∀ n, (laws_markWordS.nums a n).length = n
  | 0 => rfl
  | n + 1 => by rw [laws_markWordS.nums, List.length_cons, laws_markWordS.nums_length]
theorem laws_markWordS.take_set (l : List Int) (i : Nat) (v : Int) (h : i < l.length) : (l.set i v).take (i + 1) = l.take i ++ [v] := by
  rw [List.take_succ_eq_append_getElem (by rw [List.length_set]; exact h), List.getElem_set_self, List.take_set_of_le (Nat.le_refl _)]
theorem laws_markWordS.one_ (K : Nat) : ∀ (d i : Nat) (l : List Int) (a : Int), i + d = l.length → d < K → 0 ≤ a → l.length ≤ 1048576 → a ≤ 4611686018427387904 - d → laws_markIntS.l0 K l a (i : Int) = some (a + d, l.take i ++ laws_markWordS.nums a d) := by
  induction K with
  | zero => intro d i l a _ h; omega
  | succ K ih =>
    intro d i l a hd hk h0 hl h1
    simp only [laws_markIntS.l0]
    cases d with
    | zero => rw [if_neg (by omega), List.take_of_length_le (by omega)]; simp [laws_markWordS.nums]
    | succ d =>
      have w1 : wrap64 (a + 1) = a + 1 := by unfold wrap64; omega
      have w3 : wrap64 ((i : Int) + 1) = ((i + 1 : Nat) : Int) := by unfold wrap64; omega
      rw [if_pos (by omega), if_pos (by omega), w1, w3, Int.toNat_natCast, ih d (i + 1) (l.set i a) (a + 1) (by rw [List.length_set]; omega) (by omega) (by omega) (by rw [List.length_set]; omega) (by omega), laws_markWordS.take_set l i a (by omega)]
      have e : a + 1 + (d : Int) = a + ((d + 1 : Nat) : Int) := by omega
      rw [e, List.append_assoc]
      rfl
theorem laws_markWordS.row_ (l : List Int) (a : Int) (h0 : 0 ≤ a) (hl : l.length ≤ 1048576) (h1 : a ≤ 4611686018426339328) : laws_markIntS.f (l.length + 1) l a = some (a + l.length, laws_markWordS.nums a l.length) := by
  have := laws_markWordS.one_ (l.length + 1) l.length 0 l a (by omega) (by omega) h0 hl (by omega)
  unfold laws_markIntS.f
  simpa using this
/-- Struct after struct from i on. -/
def laws_markWordS.run : Nat → List S43 → Int → Nat → Option (Int × List S43)
  | 0, ys, a, _ => some (a, ys)
  | d + 1, ys, a, i => (laws_markText.f 64 a).bind fun t => laws_markWordS.run d (ys.set i ⟨t, laws_markWordS.nums (a + 1) (ys.getD i z43).f1.length, a + 1 + (ys.getD i z43).f1.length⟩) (a + 1 + (ys.getD i z43).f1.length + 1) (i + 1)
def laws_markWordS.f (l0 : List S43) (a1 : Int) : Option (Int × List S43) := if l0.length ≤ 1048576 ∧ (∀ y ∈ l0, y.f1.length ≤ 1048576) ∧ 0 ≤ a1 ∧ a1 ≤ 1048576 then laws_markWordS.run l0.length l0 a1 0 else none
def laws_heldIntS.l0 : Nat → List Int → Int → Int → Option (Int)
  | 0, _, _, _ => none
  | k + 1, x0, x1, x5 => if x5 < (x0.length : Int) then (if 0 ≤ x5 then (if (rd x0 x5) = x1 then (laws_heldIntS.l0 k x0 (wrap64 (x1 + 1)) (wrap64 (x5 + 1))) else (some (-1))) else (none)) else (some x1)
def laws_heldIntS.f (k : Nat) (l0 : List Int) (a1 : Int) : Option (Int) := laws_heldIntS.l0 k l0 a1 0
theorem laws_heldIntS.mono_l : ∀ k, (∀ y0 y1 y2, LeO (laws_heldIntS.l0 k y0 y1 y2) (laws_heldIntS.l0 (k + 1) y0 y1 y2))
  | 0 => fun _ _ _ r h => by simp [laws_heldIntS.l0] at h
  | k + 1 => by
    have ih0 := laws_heldIntS.mono_l k
    · intro y0 y1 y2
      unfold laws_heldIntS.l0
      repeat' first
      | (with_reducible exact ih0 _ _ _)
      | (with_reducible exact LeO.refl _)
      | (with_reducible exact LeO.none _)
      | (with_reducible refine LeO.ite ?_ ?_)
      | (with_reducible refine LeO.bind ?_ (fun _ => ?_))
      | exact ih0 _ _ _
      | exact LeO.none _
      | refine LeO.ite ?_ ?_
      | refine LeO.bind ?_ (fun _ => ?_)
theorem laws_heldIntS.mono : ∀ a0 a1 k, LeO (laws_heldIntS.f k a0 a1) (laws_heldIntS.f (k + 1) a0 a1) := by
  intro a0 a1 k
  have ih0 := laws_heldIntS.mono_l k
  unfold laws_heldIntS.f
  repeat' first
      | (with_reducible exact ih0 _ _ _)
      | (with_reducible exact LeO.refl _)
      | (with_reducible exact LeO.none _)
      | (with_reducible refine LeO.ite ?_ ?_)
      | (with_reducible refine LeO.bind ?_ (fun _ => ?_))
      | exact ih0 _ _ _
      | exact LeO.none _
      | refine LeO.ite ?_ ?_
      | refine LeO.bind ?_ (fun _ => ?_)
noncomputable def laws_heldIntS.L0 (x0 : List Int) (x1 : Int) (x5 : Int) : Option (Int) := lim fun k => laws_heldIntS.l0 k x0 x1 x5
theorem laws_heldIntS.L0_lim (x0 : List Int) (x1 : Int) (x5 : Int) : Lim (fun k => laws_heldIntS.l0 k x0 x1 x5) (laws_heldIntS.L0 x0 x1 x5) := ⟨fun k => (laws_heldIntS.mono_l k) x0 x1 x5, rfl⟩
noncomputable def laws_heldIntS.F (l0 : List Int) (a1 : Int) : Option (Int) := lim fun k => laws_heldIntS.f k l0 a1
theorem laws_heldIntS.F_lim (l0 : List Int) (a1 : Int) : Lim (fun k => laws_heldIntS.f k l0 a1) (laws_heldIntS.F l0 a1) := ⟨laws_heldIntS.mono l0 a1, rfl⟩
theorem laws_heldIntS.L0_eq (x0 : List Int) (x1 : Int) (x5 : Int) : laws_heldIntS.L0 x0 x1 x5 = (if x5 < (x0.length : Int) then (if 0 ≤ x5 then (if (rd x0 x5) = x1 then (laws_heldIntS.L0 x0 (wrap64 (x1 + 1)) (wrap64 (x5 + 1))) else (some (-1))) else (none)) else (some x1)) := by
  refine Lim.succ_eq (laws_heldIntS.L0_lim x0 x1 x5).mon ?_
  simp only [laws_heldIntS.l0]
  repeat' first
  | (with_reducible exact laws_heldIntS.L0_lim _ _ _)
  | (with_reducible refine Lim.ite ?_ ?_)
  | (with_reducible refine Lim.bind ?_ (fun _ => ?_))
  | (with_reducible exact Lim.const _)
theorem laws_heldIntS.F_eq (l0 : List Int) (a1 : Int) : laws_heldIntS.F l0 a1 = (laws_heldIntS.L0 l0 a1 0) := by
  refine Lim.eq_ ?_
  simp only [laws_heldIntS.f]
  repeat' first
  | (with_reducible exact laws_heldIntS.L0_lim _ _ _)
  | (with_reducible refine Lim.ite ?_ ?_)
  | (with_reducible refine Lim.bind ?_ (fun _ => ?_))
  | (with_reducible exact Lim.const _)
mutual
def laws_FnExactNeededFor.j0 : Nat → List (S38) → Int → List Int → Bool → List (S43) → List Int → Bool → Bool → Option (Bool)
  | 0, _, _, _, _, _, _, _, _ => none
  | k + 1, x0, x1, x6, x7, x8, x9, x10, x44 => if x44 = true then (some false) else ((laws_toWordS.f k x0).bind fun t314 => ((laws_eqWordS.f k x8 t314).bind fun t317 => (if t317 = true then ((laws_markWordS.f x8 1).bind fun bt318 => (if bt318.1 < 0 then (laws_FnExactNeededFor.j1 k x0 x1 x6 x7 x9 true) else ((laws_eqIntS.f k x9 x6).bind fun t320 => (if t320 = true then (laws_FnExactNeededFor.j1 k x0 x1 x6 x7 x9 (x10 != x7)) else (laws_FnExactNeededFor.j1 k x0 x1 x6 x7 x9 true))))) else (some false))))
def laws_FnExactNeededFor.j1 : Nat → List (S38) → Int → List Int → Bool → List Int → Bool → Option (Bool)
  | 0, _, _, _, _, _, _ => none
  | k + 1, x0, x1, x6, x7, x9, x65 => if x65 = true then (some false) else ((laws_markIntS.f k x9 1).bind fun bt321 => ((laws_heldIntS.f k bt321.2 1).bind fun t323 => (if t323 < 0 then (some false) else (if t323 = bt321.1 then ((laws_toWordS.f k x0).bind fun t324 => ((impl_NeededFor.f k t324 x1).bind fun bt327 => ((laws_eqIntS.f k bt327.1 x6).bind fun t331 => (if t331 = true then (laws_FnExactNeededFor.j2 k bt321.2 bt321.1 (bt327.2 != x7)) else (laws_FnExactNeededFor.j2 k bt321.2 bt321.1 true))))) else (some false)))))
def laws_FnExactNeededFor.j2 : Nat → List Int → Int → Bool → Option (Bool)
  | 0, _, _, _ => none
  | k + 1, x9, x12, x92 => if x92 = true then (some false) else ((laws_heldIntS.f k x9 1).bind fun t332 => (if t332 < 0 then (some false) else (if t332 = x12 then (some true) else (some false))))
end
def laws_FnExactNeededFor.f (k : Nat) (l0 : List (S38)) (a1 : Int) : Option (Bool) := (laws_szWordS.f k l0 1048576).bind fun t298 => (if t298 < 0 then (some true) else ((laws_toWordS.f k l0).bind fun t299 => ((spec_NeededFor.f k t299 a1).bind fun bt302 => ((laws_toWordS.f k l0).bind fun t306 => ((impl_NeededFor.f k t306 a1).bind fun bt309 => ((laws_eqIntS.f k bt309.1 bt302.1).bind fun t313 => (if t313 = true then (laws_FnExactNeededFor.j0 k l0 a1 bt302.1 bt302.2 t306 bt309.1 bt309.2 (bt309.2 != bt302.2)) else (laws_FnExactNeededFor.j0 k l0 a1 bt302.1 bt302.2 t306 bt309.1 bt309.2 true))))))))
theorem laws_FnExactNeededFor.mono_l : ∀ k, (∀ y0 y1 y2 y3 y4 y5 y6 y7, LeO (laws_FnExactNeededFor.j0 k y0 y1 y2 y3 y4 y5 y6 y7) (laws_FnExactNeededFor.j0 (k + 1) y0 y1 y2 y3 y4 y5 y6 y7)) ∧ (∀ y0 y1 y2 y3 y4 y5, LeO (laws_FnExactNeededFor.j1 k y0 y1 y2 y3 y4 y5) (laws_FnExactNeededFor.j1 (k + 1) y0 y1 y2 y3 y4 y5)) ∧ (∀ y0 y1 y2, LeO (laws_FnExactNeededFor.j2 k y0 y1 y2) (laws_FnExactNeededFor.j2 (k + 1) y0 y1 y2))
  | 0 => ⟨fun _ _ _ _ _ _ _ _ r h => by simp [laws_FnExactNeededFor.j0] at h, fun _ _ _ _ _ _ r h => by simp [laws_FnExactNeededFor.j1] at h, fun _ _ _ r h => by simp [laws_FnExactNeededFor.j2] at h⟩
  | k + 1 => by
    obtain ⟨ih0, ih1, ih2⟩ := laws_FnExactNeededFor.mono_l k
    refine ⟨?_, ?_, ?_⟩
    · intro y0 y1 y2 y3 y4 y5 y6 y7
      unfold laws_FnExactNeededFor.j0
      repeat' first
      | (with_reducible exact ih0 _ _ _ _ _ _ _ _)
      | (with_reducible exact ih1 _ _ _ _ _ _)
      | (with_reducible exact ih2 _ _ _)
      | (with_reducible exact impl_NeededFor.mono _ _ _)
      | (with_reducible exact laws_eqIntS.mono _ _ _)
      | (with_reducible exact laws_eqWordS.mono _ _ _)
      | (with_reducible exact laws_heldIntS.mono _ _ _)
      | (with_reducible exact laws_markIntS.mono _ _ _)
      | (with_reducible exact laws_szWordS.mono _ _ _)
      | (with_reducible exact laws_toWordS.mono _ _)
      | (with_reducible exact spec_NeededFor.mono _ _ _)
      | (with_reducible exact LeO.refl _)
      | (with_reducible exact LeO.none _)
      | (with_reducible refine LeO.ite ?_ ?_)
      | (with_reducible refine LeO.bind ?_ (fun _ => ?_))
      | exact ih0 _ _ _ _ _ _ _ _
      | exact ih1 _ _ _ _ _ _
      | exact ih2 _ _ _
      | exact impl_NeededFor.mono _ _ _
      | exact laws_eqIntS.mono _ _ _
      | exact laws_eqWordS.mono _ _ _
      | exact laws_heldIntS.mono _ _ _
      | exact laws_markIntS.mono _ _ _
      | exact laws_szWordS.mono _ _ _
      | exact laws_toWordS.mono _ _
      | exact spec_NeededFor.mono _ _ _
      | exact LeO.none _
      | refine LeO.ite ?_ ?_
      | refine LeO.bind ?_ (fun _ => ?_)
    · intro y0 y1 y2 y3 y4 y5
      unfold laws_FnExactNeededFor.j1
      repeat' first
      | (with_reducible exact ih0 _ _ _ _ _ _ _ _)
      | (with_reducible exact ih1 _ _ _ _ _ _)
      | (with_reducible exact ih2 _ _ _)
      | (with_reducible exact impl_NeededFor.mono _ _ _)
      | (with_reducible exact laws_eqIntS.mono _ _ _)
      | (with_reducible exact laws_eqWordS.mono _ _ _)
      | (with_reducible exact laws_heldIntS.mono _ _ _)
      | (with_reducible exact laws_markIntS.mono _ _ _)
      | (with_reducible exact laws_szWordS.mono _ _ _)
      | (with_reducible exact laws_toWordS.mono _ _)
      | (with_reducible exact spec_NeededFor.mono _ _ _)
      | (with_reducible exact LeO.refl _)
      | (with_reducible exact LeO.none _)
      | (with_reducible refine LeO.ite ?_ ?_)
      | (with_reducible refine LeO.bind ?_ (fun _ => ?_))
      | exact ih0 _ _ _ _ _ _ _ _
      | exact ih1 _ _ _ _ _ _
      | exact ih2 _ _ _
      | exact impl_NeededFor.mono _ _ _
      | exact laws_eqIntS.mono _ _ _
      | exact laws_eqWordS.mono _ _ _
      | exact laws_heldIntS.mono _ _ _
      | exact laws_markIntS.mono _ _ _
      | exact laws_szWordS.mono _ _ _
      | exact laws_toWordS.mono _ _
      | exact spec_NeededFor.mono _ _ _
      | exact LeO.none _
      | refine LeO.ite ?_ ?_
      | refine LeO.bind ?_ (fun _ => ?_)
    · intro y0 y1 y2
      unfold laws_FnExactNeededFor.j2
      repeat' first
      | (with_reducible exact ih0 _ _ _ _ _ _ _ _)
      | (with_reducible exact ih1 _ _ _ _ _ _)
      | (with_reducible exact ih2 _ _ _)
      | (with_reducible exact impl_NeededFor.mono _ _ _)
      | (with_reducible exact laws_eqIntS.mono _ _ _)
      | (with_reducible exact laws_eqWordS.mono _ _ _)
      | (with_reducible exact laws_heldIntS.mono _ _ _)
      | (with_reducible exact laws_markIntS.mono _ _ _)
      | (with_reducible exact laws_szWordS.mono _ _ _)
      | (with_reducible exact laws_toWordS.mono _ _)
      | (with_reducible exact spec_NeededFor.mono _ _ _)
      | (with_reducible exact LeO.refl _)
      | (with_reducible exact LeO.none _)
      | (with_reducible refine LeO.ite ?_ ?_)
      | (with_reducible refine LeO.bind ?_ (fun _ => ?_))
      | exact ih0 _ _ _ _ _ _ _ _
      | exact ih1 _ _ _ _ _ _
      | exact ih2 _ _ _
      | exact impl_NeededFor.mono _ _ _
      | exact laws_eqIntS.mono _ _ _
      | exact laws_eqWordS.mono _ _ _
      | exact laws_heldIntS.mono _ _ _
      | exact laws_markIntS.mono _ _ _
      | exact laws_szWordS.mono _ _ _
      | exact laws_toWordS.mono _ _
      | exact spec_NeededFor.mono _ _ _
      | exact LeO.none _
      | refine LeO.ite ?_ ?_
      | refine LeO.bind ?_ (fun _ => ?_)
theorem laws_FnExactNeededFor.mono : ∀ a0 a1 k, LeO (laws_FnExactNeededFor.f k a0 a1) (laws_FnExactNeededFor.f (k + 1) a0 a1) := by
  intro a0 a1 k
  obtain ⟨ih0, ih1, ih2⟩ := laws_FnExactNeededFor.mono_l k
  unfold laws_FnExactNeededFor.f
  repeat' first
      | (with_reducible exact ih0 _ _ _ _ _ _ _ _)
      | (with_reducible exact ih1 _ _ _ _ _ _)
      | (with_reducible exact ih2 _ _ _)
      | (with_reducible exact impl_NeededFor.mono _ _ _)
      | (with_reducible exact laws_eqIntS.mono _ _ _)
      | (with_reducible exact laws_eqWordS.mono _ _ _)
      | (with_reducible exact laws_heldIntS.mono _ _ _)
      | (with_reducible exact laws_markIntS.mono _ _ _)
      | (with_reducible exact laws_szWordS.mono _ _ _)
      | (with_reducible exact laws_toWordS.mono _ _)
      | (with_reducible exact spec_NeededFor.mono _ _ _)
      | (with_reducible exact LeO.refl _)
      | (with_reducible exact LeO.none _)
      | (with_reducible refine LeO.ite ?_ ?_)
      | (with_reducible refine LeO.bind ?_ (fun _ => ?_))
      | exact ih0 _ _ _ _ _ _ _ _
      | exact ih1 _ _ _ _ _ _
      | exact ih2 _ _ _
      | exact impl_NeededFor.mono _ _ _
      | exact laws_eqIntS.mono _ _ _
      | exact laws_eqWordS.mono _ _ _
      | exact laws_heldIntS.mono _ _ _
      | exact laws_markIntS.mono _ _ _
      | exact laws_szWordS.mono _ _ _
      | exact laws_toWordS.mono _ _
      | exact spec_NeededFor.mono _ _ _
      | exact LeO.none _
      | refine LeO.ite ?_ ?_
      | refine LeO.bind ?_ (fun _ => ?_)
noncomputable def laws_FnExactNeededFor.J0 (x0 : List (S38)) (x1 : Int) (x6 : List Int) (x7 : Bool) (x8 : List (S43)) (x9 : List Int) (x10 : Bool) (x44 : Bool) : Option (Bool) := lim fun k => laws_FnExactNeededFor.j0 k x0 x1 x6 x7 x8 x9 x10 x44
theorem laws_FnExactNeededFor.J0_lim (x0 : List (S38)) (x1 : Int) (x6 : List Int) (x7 : Bool) (x8 : List (S43)) (x9 : List Int) (x10 : Bool) (x44 : Bool) : Lim (fun k => laws_FnExactNeededFor.j0 k x0 x1 x6 x7 x8 x9 x10 x44) (laws_FnExactNeededFor.J0 x0 x1 x6 x7 x8 x9 x10 x44) := ⟨fun k => (laws_FnExactNeededFor.mono_l k).1 x0 x1 x6 x7 x8 x9 x10 x44, rfl⟩
noncomputable def laws_FnExactNeededFor.J1 (x0 : List (S38)) (x1 : Int) (x6 : List Int) (x7 : Bool) (x9 : List Int) (x65 : Bool) : Option (Bool) := lim fun k => laws_FnExactNeededFor.j1 k x0 x1 x6 x7 x9 x65
theorem laws_FnExactNeededFor.J1_lim (x0 : List (S38)) (x1 : Int) (x6 : List Int) (x7 : Bool) (x9 : List Int) (x65 : Bool) : Lim (fun k => laws_FnExactNeededFor.j1 k x0 x1 x6 x7 x9 x65) (laws_FnExactNeededFor.J1 x0 x1 x6 x7 x9 x65) := ⟨fun k => (laws_FnExactNeededFor.mono_l k).2.1 x0 x1 x6 x7 x9 x65, rfl⟩
noncomputable def laws_FnExactNeededFor.J2 (x9 : List Int) (x12 : Int) (x92 : Bool) : Option (Bool) := lim fun k => laws_FnExactNeededFor.j2 k x9 x12 x92
theorem laws_FnExactNeededFor.J2_lim (x9 : List Int) (x12 : Int) (x92 : Bool) : Lim (fun k => laws_FnExactNeededFor.j2 k x9 x12 x92) (laws_FnExactNeededFor.J2 x9 x12 x92) := ⟨fun k => (laws_FnExactNeededFor.mono_l k).2.2 x9 x12 x92, rfl⟩
noncomputable def laws_FnExactNeededFor.F (l0 : List (S38)) (a1 : Int) : Option (Bool) := lim fun k => laws_FnExactNeededFor.f k l0 a1
theorem laws_FnExactNeededFor.F_lim (l0 : List (S38)) (a1 : Int) : Lim (fun k => laws_FnExactNeededFor.f k l0 a1) (laws_FnExactNeededFor.F l0 a1) := ⟨laws_FnExactNeededFor.mono l0 a1, rfl⟩
theorem laws_FnExactNeededFor.J0_eq (x0 : List (S38)) (x1 : Int) (x6 : List Int) (x7 : Bool) (x8 : List (S43)) (x9 : List Int) (x10 : Bool) (x44 : Bool) : laws_FnExactNeededFor.J0 x0 x1 x6 x7 x8 x9 x10 x44 = (if x44 = true then (some false) else ((laws_toWordS.F x0).bind fun t314 => ((laws_eqWordS.F x8 t314).bind fun t317 => (if t317 = true then ((laws_markWordS.f x8 1).bind fun bt318 => (if bt318.1 < 0 then (laws_FnExactNeededFor.J1 x0 x1 x6 x7 x9 true) else ((laws_eqIntS.F x9 x6).bind fun t320 => (if t320 = true then (laws_FnExactNeededFor.J1 x0 x1 x6 x7 x9 (x10 != x7)) else (laws_FnExactNeededFor.J1 x0 x1 x6 x7 x9 true))))) else (some false))))) := by
  refine Lim.succ_eq (laws_FnExactNeededFor.J0_lim x0 x1 x6 x7 x8 x9 x10 x44).mon ?_
  simp only [laws_FnExactNeededFor.j0]
  repeat' first
  | (with_reducible exact laws_FnExactNeededFor.J0_lim _ _ _ _ _ _ _ _)
  | (with_reducible exact laws_FnExactNeededFor.J1_lim _ _ _ _ _ _)
  | (with_reducible exact laws_FnExactNeededFor.J2_lim _ _ _)
  | (with_reducible exact impl_NeededFor.F_lim _ _)
  | (with_reducible exact laws_eqIntS.F_lim _ _)
  | (with_reducible exact laws_eqWordS.F_lim _ _)
  | (with_reducible exact laws_heldIntS.F_lim _ _)
  | (with_reducible exact laws_markIntS.F_lim _ _)
  | (with_reducible exact laws_szWordS.F_lim _ _)
  | (with_reducible exact laws_toWordS.F_lim _)
  | (with_reducible exact spec_NeededFor.F_lim _ _)
  | (with_reducible refine Lim.ite ?_ ?_)
  | (with_reducible refine Lim.bind ?_ (fun _ => ?_))
  | (with_reducible exact Lim.const _)
theorem laws_FnExactNeededFor.J1_eq (x0 : List (S38)) (x1 : Int) (x6 : List Int) (x7 : Bool) (x9 : List Int) (x65 : Bool) : laws_FnExactNeededFor.J1 x0 x1 x6 x7 x9 x65 = (if x65 = true then (some false) else ((laws_markIntS.F x9 1).bind fun bt321 => ((laws_heldIntS.F bt321.2 1).bind fun t323 => (if t323 < 0 then (some false) else (if t323 = bt321.1 then ((laws_toWordS.F x0).bind fun t324 => ((impl_NeededFor.F t324 x1).bind fun bt327 => ((laws_eqIntS.F bt327.1 x6).bind fun t331 => (if t331 = true then (laws_FnExactNeededFor.J2 bt321.2 bt321.1 (bt327.2 != x7)) else (laws_FnExactNeededFor.J2 bt321.2 bt321.1 true))))) else (some false)))))) := by
  refine Lim.succ_eq (laws_FnExactNeededFor.J1_lim x0 x1 x6 x7 x9 x65).mon ?_
  simp only [laws_FnExactNeededFor.j1]
  repeat' first
  | (with_reducible exact laws_FnExactNeededFor.J0_lim _ _ _ _ _ _ _ _)
  | (with_reducible exact laws_FnExactNeededFor.J1_lim _ _ _ _ _ _)
  | (with_reducible exact laws_FnExactNeededFor.J2_lim _ _ _)
  | (with_reducible exact impl_NeededFor.F_lim _ _)
  | (with_reducible exact laws_eqIntS.F_lim _ _)
  | (with_reducible exact laws_eqWordS.F_lim _ _)
  | (with_reducible exact laws_heldIntS.F_lim _ _)
  | (with_reducible exact laws_markIntS.F_lim _ _)
  | (with_reducible exact laws_szWordS.F_lim _ _)
  | (with_reducible exact laws_toWordS.F_lim _)
  | (with_reducible exact spec_NeededFor.F_lim _ _)
  | (with_reducible refine Lim.ite ?_ ?_)
  | (with_reducible refine Lim.bind ?_ (fun _ => ?_))
  | (with_reducible exact Lim.const _)
theorem laws_FnExactNeededFor.J2_eq (x9 : List Int) (x12 : Int) (x92 : Bool) : laws_FnExactNeededFor.J2 x9 x12 x92 = (if x92 = true then (some false) else ((laws_heldIntS.F x9 1).bind fun t332 => (if t332 < 0 then (some false) else (if t332 = x12 then (some true) else (some false))))) := by
  refine Lim.succ_eq (laws_FnExactNeededFor.J2_lim x9 x12 x92).mon ?_
  simp only [laws_FnExactNeededFor.j2]
  repeat' first
  | (with_reducible exact laws_FnExactNeededFor.J0_lim _ _ _ _ _ _ _ _)
  | (with_reducible exact laws_FnExactNeededFor.J1_lim _ _ _ _ _ _)
  | (with_reducible exact laws_FnExactNeededFor.J2_lim _ _ _)
  | (with_reducible exact impl_NeededFor.F_lim _ _)
  | (with_reducible exact laws_eqIntS.F_lim _ _)
  | (with_reducible exact laws_eqWordS.F_lim _ _)
  | (with_reducible exact laws_heldIntS.F_lim _ _)
  | (with_reducible exact laws_markIntS.F_lim _ _)
  | (with_reducible exact laws_szWordS.F_lim _ _)
  | (with_reducible exact laws_toWordS.F_lim _)
  | (with_reducible exact spec_NeededFor.F_lim _ _)
  | (with_reducible refine Lim.ite ?_ ?_)
  | (with_reducible refine Lim.bind ?_ (fun _ => ?_))
  | (with_reducible exact Lim.const _)
theorem laws_FnExactNeededFor.F_eq (l0 : List (S38)) (a1 : Int) : laws_FnExactNeededFor.F l0 a1 = ((laws_szWordS.F l0 1048576).bind fun t298 => (if t298 < 0 then (some true) else ((laws_toWordS.F l0).bind fun t299 => ((spec_NeededFor.F t299 a1).bind fun bt302 => ((laws_toWordS.F l0).bind fun t306 => ((impl_NeededFor.F t306 a1).bind fun bt309 => ((laws_eqIntS.F bt309.1 bt302.1).bind fun t313 => (if t313 = true then (laws_FnExactNeededFor.J0 l0 a1 bt302.1 bt302.2 t306 bt309.1 bt309.2 (bt309.2 != bt302.2)) else (laws_FnExactNeededFor.J0 l0 a1 bt302.1 bt302.2 t306 bt309.1 bt309.2 true))))))))) := by
  refine Lim.eq_ ?_
  simp only [laws_FnExactNeededFor.f]
  repeat' first
  | (with_reducible exact laws_FnExactNeededFor.J0_lim _ _ _ _ _ _ _ _)
  | (with_reducible exact laws_FnExactNeededFor.J1_lim _ _ _ _ _ _)
  | (with_reducible exact laws_FnExactNeededFor.J2_lim _ _ _)
  | (with_reducible exact impl_NeededFor.F_lim _ _)
  | (with_reducible exact laws_eqIntS.F_lim _ _)
  | (with_reducible exact laws_eqWordS.F_lim _ _)
  | (with_reducible exact laws_heldIntS.F_lim _ _)
  | (with_reducible exact laws_markIntS.F_lim _ _)
  | (with_reducible exact laws_szWordS.F_lim _ _)
  | (with_reducible exact laws_toWordS.F_lim _)
  | (with_reducible exact spec_NeededFor.F_lim _ _)
  | (with_reducible refine Lim.ite ?_ ?_)
  | (with_reducible refine Lim.bind ?_ (fun _ => ?_))
  | (with_reducible exact Lim.const _)
def Wf38 (x : S38) : Prop := x.f0.size ≤ 9223372036854775807 ∧ (x.f1.length ≤ 9223372036854775807 ∧ ∀ y_ ∈ x.f1, (Lit.int .i64 y_).wf = true) ∧ (Lit.int .i64 x.f2).wf = true
def laws_FnExactNeededFor.Pure : Prop := ∀ (l0 : List (S38)) (a1 : Int), (l0.length ≤ 9223372036854775807 ∧ ∀ y_ ∈ l0, Wf38 y_) → ((Lit.int .i64 a1).wf = true) → ∃ k, laws_FnExactNeededFor.f k l0 a1 = some true
end Go.Proofs.Ytmongpocangocaa.PFnExactNeededFor
