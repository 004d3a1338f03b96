/- Written by a program of this claim's author, out of the loaded program as Lean prints it: the functions as Lean functions, and that the calls answer so. -/
import Derived.Test.YtnmgcphajacdnaaPFnExactNearestLikex0
namespace Go.Proofs.Ytnmgcphajacdnaa.PFnExactNearestLike
open Go.RowKit Go.Proofs.YtnmgcphajacdnaaW.PrintWords Go.Proofs.YtnmgcphajacdnaaW.PrintLast Go.Proofs.YtnmgcphajacdnaaW.PrintMore
attribute [local go_sem] max2_int min2_int max_two min_two max_three min_three max_four min_four   -- for this text's walks alone
set_option linter.unusedVariables false
set_option linter.unusedSimpArgs false

def laws_szNote.f (a0_0 : Int) (a0_1 : Int) (a0_2 : ByteArray) (a1 : Int) : Option (Int) := if (wrap64 (a1 - (a0_2.size : Int))) < 0 then (some (-1)) else (some (wrap64 (a1 - (a0_2.size : Int))))
def laws_szNoteS.l0 : Nat → List (S81) → Int → Int → Option (Int)
  | 0, _, _, _ => none
  | k + 1, x0, x1, x5 => if x5 < (x0.length : Int) then (if 0 ≤ x5 then ((laws_szNote.f ((rd_T81 x0 x5).f0) ((rd_T81 x0 x5).f1) ((rd_T81 x0 x5).f2) x1).bind fun t103 => (if t103 < 0 then (some (-1)) else (laws_szNoteS.l0 k x0 t103 (wrap64 (x5 + 1))))) else (none)) else (some x1)
def laws_szNoteS.f (k : Nat) (l0 : List (S81)) (a1 : Int) : Option (Int) := if (wrap64 (a1 - (l0.length : Int))) < 0 then (some (-1)) else (laws_szNoteS.l0 k l0 (wrap64 (a1 - (l0.length : Int))) 0)
theorem laws_szNoteS.mono_l : ∀ k, (∀ y0 y1 y2, LeO (laws_szNoteS.l0 k y0 y1 y2) (laws_szNoteS.l0 (k + 1) y0 y1 y2))
  | 0 => fun _ _ _ r h => by simp [laws_szNoteS.l0] at h
  | k + 1 => by
    have ih0 := laws_szNoteS.mono_l k
    · intro y0 y1 y2
      unfold laws_szNoteS.l0
      repeat' first
      | (with_reducible exact ih0 _ _ _)
      | (with_reducible exact LeO.refl _)
      | (with_reducible exact LeO.none _)
      | (with_reducible refine LeO.ite ?_ ?_)
      | (with_reducible refine LeO.bind ?_ (fun _ => ?_))
      | exact ih0 _ _ _
      | exact LeO.none _
      | refine LeO.ite ?_ ?_
      | refine LeO.bind ?_ (fun _ => ?_)
theorem laws_szNoteS.mono : ∀ a0 a1 k, LeO (laws_szNoteS.f k a0 a1) (laws_szNoteS.f (k + 1) a0 a1) := by
  intro a0 a1 k
  have ih0 := laws_szNoteS.mono_l k
  unfold laws_szNoteS.f
  repeat' first
      | (with_reducible exact ih0 _ _ _)
      | (with_reducible exact LeO.refl _)
      | (with_reducible exact LeO.none _)
      | (with_reducible refine LeO.ite ?_ ?_)
      | (with_reducible refine LeO.bind ?_ (fun _ => ?_))
      | exact ih0 _ _ _
      | exact LeO.none _
      | refine LeO.ite ?_ ?_
      | refine LeO.bind ?_ (fun _ => ?_)
noncomputable def laws_szNoteS.L0 (x0 : List (S81)) (x1 : Int) (x5 : Int) : Option (Int) := lim fun k => laws_szNoteS.l0 k x0 x1 x5
theorem laws_szNoteS.L0_lim (x0 : List (S81)) (x1 : Int) (x5 : Int) : Lim (fun k => laws_szNoteS.l0 k x0 x1 x5) (laws_szNoteS.L0 x0 x1 x5) := ⟨fun k => (laws_szNoteS.mono_l k) x0 x1 x5, rfl⟩
noncomputable def laws_szNoteS.F (l0 : List (S81)) (a1 : Int) : Option (Int) := lim fun k => laws_szNoteS.f k l0 a1
theorem laws_szNoteS.F_lim (l0 : List (S81)) (a1 : Int) : Lim (fun k => laws_szNoteS.f k l0 a1) (laws_szNoteS.F l0 a1) := ⟨laws_szNoteS.mono l0 a1, rfl⟩
theorem laws_szNoteS.L0_eq (x0 : List (S81)) (x1 : Int) (x5 : Int) : laws_szNoteS.L0 x0 x1 x5 = (if x5 < (x0.length : Int) then (if 0 ≤ x5 then ((laws_szNote.f ((rd_T81 x0 x5).f0) ((rd_T81 x0 x5).f1) ((rd_T81 x0 x5).f2) x1).bind fun t103 => (if t103 < 0 then (some (-1)) else (laws_szNoteS.L0 x0 t103 (wrap64 (x5 + 1))))) else (none)) else (some x1)) := by
  refine Lim.succ_eq (laws_szNoteS.L0_lim x0 x1 x5).mon ?_
  simp only [laws_szNoteS.l0]
  repeat' first
  | (with_reducible exact laws_szNoteS.L0_lim _ _ _)
  | (with_reducible refine Lim.ite ?_ ?_)
  | (with_reducible refine Lim.bind ?_ (fun _ => ?_))
  | (with_reducible exact Lim.const _)
theorem laws_szNoteS.F_eq (l0 : List (S81)) (a1 : Int) : laws_szNoteS.F l0 a1 = (if (wrap64 (a1 - (l0.length : Int))) < 0 then (some (-1)) else (laws_szNoteS.L0 l0 (wrap64 (a1 - (l0.length : Int))) 0)) := by
  refine Lim.eq_ ?_
  simp only [laws_szNoteS.f]
  repeat' first
  | (with_reducible exact laws_szNoteS.L0_lim _ _ _)
  | (with_reducible refine Lim.ite ?_ ?_)
  | (with_reducible refine Lim.bind ?_ (fun _ => ?_))
  | (with_reducible exact Lim.const _)
def spec_l1In.f (a0 : Int) (a1 : Int) (a2 : Int) : Option (Bool) := if a0 ≥ a1 then (some (decide (a0 ≤ a2))) else (some false)
def spec_tiFrame.f (a0 : Int) : Option (Bool) := (spec_l1In.f a0 0 99999).bind fun t104 => (some t104)
def spec_fsWord.l0 : Nat → ByteArray → Int → Option (Bool)
  | 0, _, _ => none
  | k + 1, x0, x3 => if x3 < (x0.size : Int) then (if 0 ≤ x3 then (if (bt x0 x3) < 65 then (some false) else (if (bt x0 x3) > 90 then (some false) else (spec_fsWord.l0 k x0 (wrap64 (x3 + 1))))) else (none)) else ((spec_l1In.f (x0.size : Int) 1 8).bind fun t105 => (some t105))
def spec_fsWord.f (k : Nat) (a0 : ByteArray) : Option (Bool) := spec_fsWord.l0 k a0 0
theorem spec_fsWord.mono_l : ∀ k, (∀ y0 y1, LeO (spec_fsWord.l0 k y0 y1) (spec_fsWord.l0 (k + 1) y0 y1))
  | 0 => fun _ _ r h => by simp [spec_fsWord.l0] at h
  | k + 1 => by
    have ih0 := spec_fsWord.mono_l k
    · intro y0 y1
      unfold spec_fsWord.l0
      repeat' first
      | (with_reducible exact ih0 _ _)
      | (with_reducible exact LeO.refl _)
      | (with_reducible exact LeO.none _)
      | (with_reducible refine LeO.ite ?_ ?_)
      | (with_reducible refine LeO.bind ?_ (fun _ => ?_))
      | exact ih0 _ _
      | exact LeO.none _
      | refine LeO.ite ?_ ?_
      | refine LeO.bind ?_ (fun _ => ?_)
theorem spec_fsWord.mono : ∀ a0 k, LeO (spec_fsWord.f k a0) (spec_fsWord.f (k + 1) a0) := by
  intro a0 k
  have ih0 := spec_fsWord.mono_l k
  unfold spec_fsWord.f
  repeat' first
      | (with_reducible exact ih0 _ _)
      | (with_reducible exact LeO.refl _)
      | (with_reducible exact LeO.none _)
      | (with_reducible refine LeO.ite ?_ ?_)
      | (with_reducible refine LeO.bind ?_ (fun _ => ?_))
      | exact ih0 _ _
      | exact LeO.none _
      | refine LeO.ite ?_ ?_
      | refine LeO.bind ?_ (fun _ => ?_)
noncomputable def spec_fsWord.L0 (x0 : ByteArray) (x3 : Int) : Option (Bool) := lim fun k => spec_fsWord.l0 k x0 x3
theorem spec_fsWord.L0_lim (x0 : ByteArray) (x3 : Int) : Lim (fun k => spec_fsWord.l0 k x0 x3) (spec_fsWord.L0 x0 x3) := ⟨fun k => (spec_fsWord.mono_l k) x0 x3, rfl⟩
noncomputable def spec_fsWord.F (a0 : ByteArray) : Option (Bool) := lim fun k => spec_fsWord.f k a0
theorem spec_fsWord.F_lim (a0 : ByteArray) : Lim (fun k => spec_fsWord.f k a0) (spec_fsWord.F a0) := ⟨spec_fsWord.mono a0, rfl⟩
theorem spec_fsWord.L0_eq (x0 : ByteArray) (x3 : Int) : spec_fsWord.L0 x0 x3 = (if x3 < (x0.size : Int) then (if 0 ≤ x3 then (if (bt x0 x3) < 65 then (some false) else (if (bt x0 x3) > 90 then (some false) else (spec_fsWord.L0 x0 (wrap64 (x3 + 1))))) else (none)) else ((spec_l1In.f (x0.size : Int) 1 8).bind fun t105 => (some t105))) := by
  refine Lim.succ_eq (spec_fsWord.L0_lim x0 x3).mon ?_
  simp only [spec_fsWord.l0]
  repeat' first
  | (with_reducible exact spec_fsWord.L0_lim _ _)
  | (with_reducible refine Lim.ite ?_ ?_)
  | (with_reducible refine Lim.bind ?_ (fun _ => ?_))
  | (with_reducible exact Lim.const _)
theorem spec_fsWord.F_eq (a0 : ByteArray) : spec_fsWord.F a0 = (spec_fsWord.L0 a0 0) := by
  refine Lim.eq_ ?_
  simp only [spec_fsWord.f]
  repeat' first
  | (with_reducible exact spec_fsWord.L0_lim _ _)
  | (with_reducible refine Lim.ite ?_ ?_)
  | (with_reducible refine Lim.bind ?_ (fun _ => ?_))
  | (with_reducible exact Lim.const _)
def spec_tiNote.f (k : Nat) (a0_0 : Int) (a0_1 : Int) (a0_2 : ByteArray) : Option (Bool) := (spec_tiFrame.f a0_0).bind fun t107 => (if t107 = true then ((spec_tiFrame.f a0_1).bind fun t108 => (if t108 = true then (if a0_0 < a0_1 then ((spec_fsWord.f k a0_2).bind fun t109 => (some t109)) else (some false)) else (some false))) else (some false))
theorem spec_tiNote.mono : ∀ a0 a1 a2 k, LeO (spec_tiNote.f k a0 a1 a2) (spec_tiNote.f (k + 1) a0 a1 a2) := by
  intro a0 a1 a2 k
  unfold spec_tiNote.f
  repeat' first
      | (with_reducible exact spec_fsWord.mono _ _)
      | (with_reducible exact LeO.refl _)
      | (with_reducible exact LeO.none _)
      | (with_reducible refine LeO.ite ?_ ?_)
      | (with_reducible refine LeO.bind ?_ (fun _ => ?_))
      | exact spec_fsWord.mono _ _
      | exact LeO.none _
      | refine LeO.ite ?_ ?_
      | refine LeO.bind ?_ (fun _ => ?_)
noncomputable def spec_tiNote.F (a0_0 : Int) (a0_1 : Int) (a0_2 : ByteArray) : Option (Bool) := lim fun k => spec_tiNote.f k a0_0 a0_1 a0_2
theorem spec_tiNote.F_lim (a0_0 : Int) (a0_1 : Int) (a0_2 : ByteArray) : Lim (fun k => spec_tiNote.f k a0_0 a0_1 a0_2) (spec_tiNote.F a0_0 a0_1 a0_2) := ⟨spec_tiNote.mono a0_0 a0_1 a0_2, rfl⟩
theorem spec_tiNote.F_eq (a0_0 : Int) (a0_1 : Int) (a0_2 : ByteArray) : spec_tiNote.F a0_0 a0_1 a0_2 = ((spec_tiFrame.f a0_0).bind fun t107 => (if t107 = true then ((spec_tiFrame.f a0_1).bind fun t108 => (if t108 = true then (if a0_0 < a0_1 then ((spec_fsWord.F a0_2).bind fun t109 => (some t109)) else (some false)) else (some false))) else (some false))) := by
  refine Lim.eq_ ?_
  simp only [spec_tiNote.f]
  repeat' first
  | (with_reducible exact spec_fsWord.F_lim _)
  | (with_reducible refine Lim.ite ?_ ?_)
  | (with_reducible refine Lim.bind ?_ (fun _ => ?_))
  | (with_reducible exact Lim.const _)
def spec_tiGood.l0 : Nat → List (S66) → List (S66) → Int → Int → Option (Bool)
  | 0, _, _, _, _ => none
  | k + 1, x0, x5, x6, x7 => if x7 < x6 then (if 0 ≤ x7 then (if x7 < (x5.length : Int) then ((spec_tiNote.f k ((rd_T66 x5 x7).f0) ((rd_T66 x5 x7).f1) ((rd_T66 x5 x7).f2)).bind fun t112 => (if t112 = true then (if x7 > 0 then (if 0 ≤ (wrap64 (x7 - 1)) then (if (wrap64 (x7 - 1)) < (x0.length : Int) then (if ((rd_T66 x0 (wrap64 (x7 - 1))).f1) > ((rd_T66 x5 x7).f0) then (some false) else (spec_tiGood.l0 k x0 x5 x6 (wrap64 (x7 + 1)))) else (none)) else (none)) else (spec_tiGood.l0 k x0 x5 x6 (wrap64 (x7 + 1)))) else (some false))) else (none)) else (none)) else (some (decide ((x0.length : Int) ≤ 40)))
def spec_tiGood.f (k : Nat) (l0 : List (S66)) : Option (Bool) := spec_tiGood.l0 k l0 l0 (l0.length : Int) 0
theorem spec_tiGood.mono_l : ∀ k, (∀ y0 y1 y2 y3, LeO (spec_tiGood.l0 k y0 y1 y2 y3) (spec_tiGood.l0 (k + 1) y0 y1 y2 y3))
  | 0 => fun _ _ _ _ r h => by simp [spec_tiGood.l0] at h
  | k + 1 => by
    have ih0 := spec_tiGood.mono_l k
    · intro y0 y1 y2 y3
      unfold spec_tiGood.l0
      repeat' first
      | (with_reducible exact ih0 _ _ _ _)
      | (with_reducible exact spec_tiNote.mono _ _ _ _)
      | (with_reducible exact LeO.refl _)
      | (with_reducible exact LeO.none _)
      | (with_reducible refine LeO.ite ?_ ?_)
      | (with_reducible refine LeO.bind ?_ (fun _ => ?_))
      | exact ih0 _ _ _ _
      | exact spec_tiNote.mono _ _ _ _
      | exact LeO.none _
      | refine LeO.ite ?_ ?_
      | refine LeO.bind ?_ (fun _ => ?_)
theorem spec_tiGood.mono : ∀ a0 k, LeO (spec_tiGood.f k a0) (spec_tiGood.f (k + 1) a0) := by
  intro a0 k
  have ih0 := spec_tiGood.mono_l k
  unfold spec_tiGood.f
  repeat' first
      | (with_reducible exact ih0 _ _ _ _)
      | (with_reducible exact spec_tiNote.mono _ _ _ _)
      | (with_reducible exact LeO.refl _)
      | (with_reducible exact LeO.none _)
      | (with_reducible refine LeO.ite ?_ ?_)
      | (with_reducible refine LeO.bind ?_ (fun _ => ?_))
      | exact ih0 _ _ _ _
      | exact spec_tiNote.mono _ _ _ _
      | exact LeO.none _
      | refine LeO.ite ?_ ?_
      | refine LeO.bind ?_ (fun _ => ?_)
noncomputable def spec_tiGood.L0 (x0 : List (S66)) (x5 : List (S66)) (x6 : Int) (x7 : Int) : Option (Bool) := lim fun k => spec_tiGood.l0 k x0 x5 x6 x7
theorem spec_tiGood.L0_lim (x0 : List (S66)) (x5 : List (S66)) (x6 : Int) (x7 : Int) : Lim (fun k => spec_tiGood.l0 k x0 x5 x6 x7) (spec_tiGood.L0 x0 x5 x6 x7) := ⟨fun k => (spec_tiGood.mono_l k) x0 x5 x6 x7, rfl⟩
noncomputable def spec_tiGood.F (l0 : List (S66)) : Option (Bool) := lim fun k => spec_tiGood.f k l0
theorem spec_tiGood.F_lim (l0 : List (S66)) : Lim (fun k => spec_tiGood.f k l0) (spec_tiGood.F l0) := ⟨spec_tiGood.mono l0, rfl⟩
theorem spec_tiGood.L0_eq (x0 : List (S66)) (x5 : List (S66)) (x6 : Int) (x7 : Int) : spec_tiGood.L0 x0 x5 x6 x7 = (if x7 < x6 then (if 0 ≤ x7 then (if x7 < (x5.length : Int) then ((spec_tiNote.F ((rd_T66 x5 x7).f0) ((rd_T66 x5 x7).f1) ((rd_T66 x5 x7).f2)).bind fun t112 => (if t112 = true then (if x7 > 0 then (if 0 ≤ (wrap64 (x7 - 1)) then (if (wrap64 (x7 - 1)) < (x0.length : Int) then (if ((rd_T66 x0 (wrap64 (x7 - 1))).f1) > ((rd_T66 x5 x7).f0) then (some false) else (spec_tiGood.L0 x0 x5 x6 (wrap64 (x7 + 1)))) else (none)) else (none)) else (spec_tiGood.L0 x0 x5 x6 (wrap64 (x7 + 1)))) else (some false))) else (none)) else (none)) else (some (decide ((x0.length : Int) ≤ 40)))) := by
  refine Lim.succ_eq (spec_tiGood.L0_lim x0 x5 x6 x7).mon ?_
  simp only [spec_tiGood.l0]
  repeat' first
  | (with_reducible exact spec_tiGood.L0_lim _ _ _ _)
  | (with_reducible exact spec_tiNote.F_lim _ _ _)
  | (with_reducible refine Lim.ite ?_ ?_)
  | (with_reducible refine Lim.bind ?_ (fun _ => ?_))
  | (with_reducible exact Lim.const _)
theorem spec_tiGood.F_eq (l0 : List (S66)) : spec_tiGood.F l0 = (spec_tiGood.L0 l0 l0 (l0.length : Int) 0) := by
  refine Lim.eq_ ?_
  simp only [spec_tiGood.f]
  repeat' first
  | (with_reducible exact spec_tiGood.L0_lim _ _ _ _)
  | (with_reducible exact spec_tiNote.F_lim _ _ _)
  | (with_reducible refine Lim.ite ?_ ?_)
  | (with_reducible refine Lim.bind ?_ (fun _ => ?_))
  | (with_reducible exact Lim.const _)
def spec_quPattern.l0 : Nat → ByteArray → Int → Option (Bool)
  | 0, _, _ => none
  | k + 1, x0, x3 => if x3 < (x0.size : Int) then (if 0 ≤ x3 then (if (bt x0 x3) < 65 then (if (bt x0 x3) = 63 then (spec_quPattern.l0 k x0 (wrap64 (x3 + 1))) else (if (bt x0 x3) = 42 then (spec_quPattern.l0 k x0 (wrap64 (x3 + 1))) else (some false))) else (if (bt x0 x3) > 90 then (if (bt x0 x3) = 63 then (spec_quPattern.l0 k x0 (wrap64 (x3 + 1))) else (if (bt x0 x3) = 42 then (spec_quPattern.l0 k x0 (wrap64 (x3 + 1))) else (some false))) else (spec_quPattern.l0 k x0 (wrap64 (x3 + 1))))) else (none)) else ((spec_l1In.f (x0.size : Int) 1 8).bind fun t114 => (some t114))
def spec_quPattern.f (k : Nat) (a0 : ByteArray) : Option (Bool) := spec_quPattern.l0 k a0 0
theorem spec_quPattern.mono_l : ∀ k, (∀ y0 y1, LeO (spec_quPattern.l0 k y0 y1) (spec_quPattern.l0 (k + 1) y0 y1))
  | 0 => fun _ _ r h => by simp [spec_quPattern.l0] at h
  | k + 1 => by
    have ih0 := spec_quPattern.mono_l k
    · intro y0 y1
      unfold spec_quPattern.l0
      repeat' first
      | (with_reducible exact ih0 _ _)
      | (with_reducible exact LeO.refl _)
      | (with_reducible exact LeO.none _)
      | (with_reducible refine LeO.ite ?_ ?_)
      | (with_reducible refine LeO.bind ?_ (fun _ => ?_))
      | exact ih0 _ _
      | exact LeO.none _
      | refine LeO.ite ?_ ?_
      | refine LeO.bind ?_ (fun _ => ?_)
theorem spec_quPattern.mono : ∀ a0 k, LeO (spec_quPattern.f k a0) (spec_quPattern.f (k + 1) a0) := by
  intro a0 k
  have ih0 := spec_quPattern.mono_l k
  unfold spec_quPattern.f
  repeat' first
      | (with_reducible exact ih0 _ _)
      | (with_reducible exact LeO.refl _)
      | (with_reducible exact LeO.none _)
      | (with_reducible refine LeO.ite ?_ ?_)
      | (with_reducible refine LeO.bind ?_ (fun _ => ?_))
      | exact ih0 _ _
      | exact LeO.none _
      | refine LeO.ite ?_ ?_
      | refine LeO.bind ?_ (fun _ => ?_)
noncomputable def spec_quPattern.L0 (x0 : ByteArray) (x3 : Int) : Option (Bool) := lim fun k => spec_quPattern.l0 k x0 x3
theorem spec_quPattern.L0_lim (x0 : ByteArray) (x3 : Int) : Lim (fun k => spec_quPattern.l0 k x0 x3) (spec_quPattern.L0 x0 x3) := ⟨fun k => (spec_quPattern.mono_l k) x0 x3, rfl⟩
noncomputable def spec_quPattern.F (a0 : ByteArray) : Option (Bool) := lim fun k => spec_quPattern.f k a0
theorem spec_quPattern.F_lim (a0 : ByteArray) : Lim (fun k => spec_quPattern.f k a0) (spec_quPattern.F a0) := ⟨spec_quPattern.mono a0, rfl⟩
theorem spec_quPattern.L0_eq (x0 : ByteArray) (x3 : Int) : spec_quPattern.L0 x0 x3 = (if x3 < (x0.size : Int) then (if 0 ≤ x3 then (if (bt x0 x3) < 65 then (if (bt x0 x3) = 63 then (spec_quPattern.L0 x0 (wrap64 (x3 + 1))) else (if (bt x0 x3) = 42 then (spec_quPattern.L0 x0 (wrap64 (x3 + 1))) else (some false))) else (if (bt x0 x3) > 90 then (if (bt x0 x3) = 63 then (spec_quPattern.L0 x0 (wrap64 (x3 + 1))) else (if (bt x0 x3) = 42 then (spec_quPattern.L0 x0 (wrap64 (x3 + 1))) else (some false))) else (spec_quPattern.L0 x0 (wrap64 (x3 + 1))))) else (none)) else ((spec_l1In.f (x0.size : Int) 1 8).bind fun t114 => (some t114))) := by
  refine Lim.succ_eq (spec_quPattern.L0_lim x0 x3).mon ?_
  simp only [spec_quPattern.l0]
  repeat' first
  | (with_reducible exact spec_quPattern.L0_lim _ _)
  | (with_reducible refine Lim.ite ?_ ?_)
  | (with_reducible refine Lim.bind ?_ (fun _ => ?_))
  | (with_reducible exact Lim.const _)
theorem spec_quPattern.F_eq (a0 : ByteArray) : spec_quPattern.F a0 = (spec_quPattern.L0 a0 0) := by
  refine Lim.eq_ ?_
  simp only [spec_quPattern.f]
  repeat' first
  | (with_reducible exact spec_quPattern.L0_lim _ _)
  | (with_reducible refine Lim.ite ?_ ?_)
  | (with_reducible refine Lim.bind ?_ (fun _ => ?_))
  | (with_reducible exact Lim.const _)
def spec_quLike.f : Nat → ByteArray → ByteArray → Option (Bool)
  | 0, _, _ => none
  | k + 1, a0, a1 => if a0.toList = ([] : List UInt8) then (some (a1.toList == ([] : List UInt8))) else (if 0 < (a0.size : Int) then (if (bt a0 0) = 42 then (if 1 ≤ (a0.size : Int) then ((spec_quLike.f k (a0.extract 1 a0.size) a1).bind fun t115 => (if t115 = true then (some true) else (if a1.toList = ([] : List UInt8) then (some false) else (if 1 ≤ (a1.size : Int) then ((spec_quLike.f k a0 (a1.extract 1 a1.size)).bind fun t116 => (some t116)) else (none))))) else (none)) else (if a1.toList = ([] : List UInt8) then (some false) else (if (bt a0 0) = 63 then (if 1 ≤ (a0.size : Int) then (if 1 ≤ (a1.size : Int) then ((spec_quLike.f k (a0.extract 1 a0.size) (a1.extract 1 a1.size)).bind fun t117 => (some t117)) else (none)) else (none)) else (if 0 < (a1.size : Int) then (if (bt a0 0) = (bt a1 0) then (if 1 ≤ (a0.size : Int) then (if 1 ≤ (a1.size : Int) then ((spec_quLike.f k (a0.extract 1 a0.size) (a1.extract 1 a1.size)).bind fun t118 => (some t118)) else (none)) else (none)) else (some false)) else (none))))) else (none))
theorem spec_quLike.mono_l : ∀ k, (∀ y0 y1, LeO (spec_quLike.f k y0 y1) (spec_quLike.f (k + 1) y0 y1))
  | 0 => fun _ _ r h => by simp [spec_quLike.f] at h
  | k + 1 => by
    have ih0 := spec_quLike.mono_l k
    · intro y0 y1
      unfold spec_quLike.f
      repeat' first
      | (with_reducible exact ih0 _ _)
      | (with_reducible exact LeO.refl _)
      | (with_reducible exact LeO.none _)
      | (with_reducible refine LeO.ite ?_ ?_)
      | (with_reducible refine LeO.bind ?_ (fun _ => ?_))
      | exact ih0 _ _
      | exact LeO.none _
      | refine LeO.ite ?_ ?_
      | refine LeO.bind ?_ (fun _ => ?_)
theorem spec_quLike.mono : ∀ a0 a1 k, LeO (spec_quLike.f k a0 a1) (spec_quLike.f (k + 1) a0 a1) := by
  intro a0 a1 k
  have ih0 := spec_quLike.mono_l k
  exact ih0 a0 a1
noncomputable def spec_quLike.F (a0 : ByteArray) (a1 : ByteArray) : Option (Bool) := lim fun k => spec_quLike.f k a0 a1
theorem spec_quLike.F_lim (a0 : ByteArray) (a1 : ByteArray) : Lim (fun k => spec_quLike.f k a0 a1) (spec_quLike.F a0 a1) := ⟨spec_quLike.mono a0 a1, rfl⟩
theorem spec_quLike.F_eq (a0 : ByteArray) (a1 : ByteArray) : spec_quLike.F a0 a1 = (if a0.toList = ([] : List UInt8) then (some (a1.toList == ([] : List UInt8))) else (if 0 < (a0.size : Int) then (if (bt a0 0) = 42 then (if 1 ≤ (a0.size : Int) then ((spec_quLike.F (a0.extract 1 a0.size) a1).bind fun t115 => (if t115 = true then (some true) else (if a1.toList = ([] : List UInt8) then (some false) else (if 1 ≤ (a1.size : Int) then ((spec_quLike.F a0 (a1.extract 1 a1.size)).bind fun t116 => (some t116)) else (none))))) else (none)) else (if a1.toList = ([] : List UInt8) then (some false) else (if (bt a0 0) = 63 then (if 1 ≤ (a0.size : Int) then (if 1 ≤ (a1.size : Int) then ((spec_quLike.F (a0.extract 1 a0.size) (a1.extract 1 a1.size)).bind fun t117 => (some t117)) else (none)) else (none)) else (if 0 < (a1.size : Int) then (if (bt a0 0) = (bt a1 0) then (if 1 ≤ (a0.size : Int) then (if 1 ≤ (a1.size : Int) then ((spec_quLike.F (a0.extract 1 a0.size) (a1.extract 1 a1.size)).bind fun t118 => (some t118)) else (none)) else (none)) else (some false)) else (none))))) else (none))) := by
  refine Lim.succ_eq (spec_quLike.F_lim a0 a1).mon ?_
  simp only [spec_quLike.f]
  repeat' first
  | (with_reducible exact spec_quLike.F_lim _ _)
  | (with_reducible refine Lim.ite ?_ ?_)
  | (with_reducible refine Lim.bind ?_ (fun _ => ?_))
  | (with_reducible exact Lim.const _)
def spec_l1Most.f (a0 : Int) (a1 : Int) : Option (Int) := if a0 > a1 then (some a0) else (some a1)
def spec_quAway.f (a0_0 : Int) (a0_1 : Int) (a0_2 : ByteArray) (a1 : Int) : Option (Int) := (spec_l1Most.f (wrap64 (a0_0 - a1)) (wrap64 ((wrap64 (a1 - a0_1)) + 1))).bind fun t120 => ((spec_l1Most.f 0 t120).bind fun t121 => (some t121))
mutual
def spec_NearestLike.j0 : Nat → List (S66) → ByteArray → Int → Bool → Option (Int × Bool)
  | 0, _, _, _, _ => none
  | k + 1, x0, x1, x2, x23 => if x23 = true then (some (0, false)) else (spec_NearestLike.l0 k x0 x1 x2 (-1) x0 (x0.length : Int) 0)
def spec_NearestLike.l0 : Nat → List (S66) → ByteArray → Int → Int → List (S66) → Int → Int → Option (Int × Bool)
  | 0, _, _, _, _, _, _, _ => none
  | k + 1, x0, x1, x2, x8, x24, x25, x26 => if x26 < x25 then (if 0 ≤ x26 then (if x26 < (x24.length : Int) then ((spec_quLike.f k x1 ((rd_T66 x24 x26).f2)).bind fun t127 => (if t127 = true then (if x8 < 0 then (spec_NearestLike.l0 k x0 x1 x2 x26 x24 x25 (wrap64 (x26 + 1))) else ((spec_quAway.f ((rd_T66 x24 x26).f0) ((rd_T66 x24 x26).f1) ((rd_T66 x24 x26).f2) x2).bind fun t128 => (if 0 ≤ x8 then (if x8 < (x0.length : Int) then ((spec_quAway.f ((rd_T66 x0 x8).f0) ((rd_T66 x0 x8).f1) ((rd_T66 x0 x8).f2) x2).bind fun t130 => (if t128 < t130 then (spec_NearestLike.l0 k x0 x1 x2 x26 x24 x25 (wrap64 (x26 + 1))) else (spec_NearestLike.l0 k x0 x1 x2 x8 x24 x25 (wrap64 (x26 + 1))))) else (none)) else (none)))) else (spec_NearestLike.l0 k x0 x1 x2 x8 x24 x25 (wrap64 (x26 + 1))))) else (none)) else (none)) else (if x8 < 0 then (some (0, false)) else (some (x8, true)))
end
def spec_NearestLike.f (k : Nat) (l0 : List (S66)) (a1 : ByteArray) (a2 : Int) : Option (Int × Bool) := (spec_tiGood.f k l0).bind fun t122 => (if t122 = true then ((spec_quPattern.f k a1).bind fun t123 => (if t123 = true then ((spec_tiFrame.f a2).bind fun t124 => (spec_NearestLike.j0 k l0 a1 a2 (!t124))) else (spec_NearestLike.j0 k l0 a1 a2 true))) else (spec_NearestLike.j0 k l0 a1 a2 true))
theorem spec_NearestLike.mono_l : ∀ k, (∀ y0 y1 y2 y3, LeO (spec_NearestLike.j0 k y0 y1 y2 y3) (spec_NearestLike.j0 (k + 1) y0 y1 y2 y3)) ∧ (∀ y0 y1 y2 y3 y4 y5 y6, LeO (spec_NearestLike.l0 k y0 y1 y2 y3 y4 y5 y6) (spec_NearestLike.l0 (k + 1) y0 y1 y2 y3 y4 y5 y6))
  | 0 => ⟨fun _ _ _ _ r h => by simp [spec_NearestLike.j0] at h, fun _ _ _ _ _ _ _ r h => by simp [spec_NearestLike.l0] at h⟩
  | k + 1 => by
    obtain ⟨ih0, ih1⟩ := spec_NearestLike.mono_l k
    refine ⟨?_, ?_⟩
    · intro y0 y1 y2 y3
      unfold spec_NearestLike.j0
      repeat' first
      | (with_reducible exact ih0 _ _ _ _)
      | (with_reducible exact ih1 _ _ _ _ _ _ _)
      | (with_reducible exact spec_quLike.mono _ _ _)
      | (with_reducible exact spec_quPattern.mono _ _)
      | (with_reducible exact spec_tiGood.mono _ _)
      | (with_reducible exact LeO.refl _)
      | (with_reducible exact LeO.none _)
      | (with_reducible refine LeO.ite ?_ ?_)
      | (with_reducible refine LeO.bind ?_ (fun _ => ?_))
      | exact ih0 _ _ _ _
      | exact ih1 _ _ _ _ _ _ _
      | exact spec_quLike.mono _ _ _
      | exact spec_quPattern.mono _ _
      | exact spec_tiGood.mono _ _
      | exact LeO.none _
      | refine LeO.ite ?_ ?_
      | refine LeO.bind ?_ (fun _ => ?_)
    · intro y0 y1 y2 y3 y4 y5 y6
      unfold spec_NearestLike.l0
      repeat' first
      | (with_reducible exact ih0 _ _ _ _)
      | (with_reducible exact ih1 _ _ _ _ _ _ _)
      | (with_reducible exact spec_quLike.mono _ _ _)
      | (with_reducible exact spec_quPattern.mono _ _)
      | (with_reducible exact spec_tiGood.mono _ _)
      | (with_reducible exact LeO.refl _)
      | (with_reducible exact LeO.none _)
      | (with_reducible refine LeO.ite ?_ ?_)
      | (with_reducible refine LeO.bind ?_ (fun _ => ?_))
      | exact ih0 _ _ _ _
      | exact ih1 _ _ _ _ _ _ _
      | exact spec_quLike.mono _ _ _
      | exact spec_quPattern.mono _ _
      | exact spec_tiGood.mono _ _
      | exact LeO.none _
      | refine LeO.ite ?_ ?_
      | refine LeO.bind ?_ (fun _ => ?_)
theorem spec_NearestLike.mono : ∀ a0 a1 a2 k, LeO (spec_NearestLike.f k a0 a1 a2) (spec_NearestLike.f (k + 1) a0 a1 a2) := by
  intro a0 a1 a2 k
  obtain ⟨ih0, ih1⟩ := spec_NearestLike.mono_l k
  unfold spec_NearestLike.f
  repeat' first
      | (with_reducible exact ih0 _ _ _ _)
      | (with_reducible exact ih1 _ _ _ _ _ _ _)
      | (with_reducible exact spec_quLike.mono _ _ _)
      | (with_reducible exact spec_quPattern.mono _ _)
      | (with_reducible exact spec_tiGood.mono _ _)
      | (with_reducible exact LeO.refl _)
      | (with_reducible exact LeO.none _)
      | (with_reducible refine LeO.ite ?_ ?_)
      | (with_reducible refine LeO.bind ?_ (fun _ => ?_))
      | exact ih0 _ _ _ _
      | exact ih1 _ _ _ _ _ _ _
      | exact spec_quLike.mono _ _ _
      | exact spec_quPattern.mono _ _
      | exact spec_tiGood.mono _ _
      | exact LeO.none _
      | refine LeO.ite ?_ ?_
      | refine LeO.bind ?_ (fun _ => ?_)
noncomputable def spec_NearestLike.J0 (x0 : List (S66)) (x1 : ByteArray) (x2 : Int) (x23 : Bool) : Option (Int × Bool) := lim fun k => spec_NearestLike.j0 k x0 x1 x2 x23
theorem spec_NearestLike.J0_lim (x0 : List (S66)) (x1 : ByteArray) (x2 : Int) (x23 : Bool) : Lim (fun k => spec_NearestLike.j0 k x0 x1 x2 x23) (spec_NearestLike.J0 x0 x1 x2 x23) := ⟨fun k => (spec_NearestLike.mono_l k).1 x0 x1 x2 x23, rfl⟩
noncomputable def spec_NearestLike.L0 (x0 : List (S66)) (x1 : ByteArray) (x2 : Int) (x8 : Int) (x24 : List (S66)) (x25 : Int) (x26 : Int) : Option (Int × Bool) := lim fun k => spec_NearestLike.l0 k x0 x1 x2 x8 x24 x25 x26
theorem spec_NearestLike.L0_lim (x0 : List (S66)) (x1 : ByteArray) (x2 : Int) (x8 : Int) (x24 : List (S66)) (x25 : Int) (x26 : Int) : Lim (fun k => spec_NearestLike.l0 k x0 x1 x2 x8 x24 x25 x26) (spec_NearestLike.L0 x0 x1 x2 x8 x24 x25 x26) := ⟨fun k => (spec_NearestLike.mono_l k).2 x0 x1 x2 x8 x24 x25 x26, rfl⟩
noncomputable def spec_NearestLike.F (l0 : List (S66)) (a1 : ByteArray) (a2 : Int) : Option (Int × Bool) := lim fun k => spec_NearestLike.f k l0 a1 a2
theorem spec_NearestLike.F_lim (l0 : List (S66)) (a1 : ByteArray) (a2 : Int) : Lim (fun k => spec_NearestLike.f k l0 a1 a2) (spec_NearestLike.F l0 a1 a2) := ⟨spec_NearestLike.mono l0 a1 a2, rfl⟩
theorem spec_NearestLike.J0_eq (x0 : List (S66)) (x1 : ByteArray) (x2 : Int) (x23 : Bool) : spec_NearestLike.J0 x0 x1 x2 x23 = (if x23 = true then (some (0, false)) else (spec_NearestLike.L0 x0 x1 x2 (-1) x0 (x0.length : Int) 0)) := by
  refine Lim.succ_eq (spec_NearestLike.J0_lim x0 x1 x2 x23).mon ?_
  simp only [spec_NearestLike.j0]
  repeat' first
  | (with_reducible exact spec_NearestLike.J0_lim _ _ _ _)
  | (with_reducible exact spec_NearestLike.L0_lim _ _ _ _ _ _ _)
  | (with_reducible exact spec_quLike.F_lim _ _)
  | (with_reducible exact spec_quPattern.F_lim _)
  | (with_reducible exact spec_tiGood.F_lim _)
  | (with_reducible refine Lim.ite ?_ ?_)
  | (with_reducible refine Lim.bind ?_ (fun _ => ?_))
  | (with_reducible exact Lim.const _)
theorem spec_NearestLike.L0_eq (x0 : List (S66)) (x1 : ByteArray) (x2 : Int) (x8 : Int) (x24 : List (S66)) (x25 : Int) (x26 : Int) : spec_NearestLike.L0 x0 x1 x2 x8 x24 x25 x26 = (if x26 < x25 then (if 0 ≤ x26 then (if x26 < (x24.length : Int) then ((spec_quLike.F x1 ((rd_T66 x24 x26).f2)).bind fun t127 => (if t127 = true then (if x8 < 0 then (spec_NearestLike.L0 x0 x1 x2 x26 x24 x25 (wrap64 (x26 + 1))) else ((spec_quAway.f ((rd_T66 x24 x26).f0) ((rd_T66 x24 x26).f1) ((rd_T66 x24 x26).f2) x2).bind fun t128 => (if 0 ≤ x8 then (if x8 < (x0.length : Int) then ((spec_quAway.f ((rd_T66 x0 x8).f0) ((rd_T66 x0 x8).f1) ((rd_T66 x0 x8).f2) x2).bind fun t130 => (if t128 < t130 then (spec_NearestLike.L0 x0 x1 x2 x26 x24 x25 (wrap64 (x26 + 1))) else (spec_NearestLike.L0 x0 x1 x2 x8 x24 x25 (wrap64 (x26 + 1))))) else (none)) else (none)))) else (spec_NearestLike.L0 x0 x1 x2 x8 x24 x25 (wrap64 (x26 + 1))))) else (none)) else (none)) else (if x8 < 0 then (some (0, false)) else (some (x8, true)))) := by
  refine Lim.succ_eq (spec_NearestLike.L0_lim x0 x1 x2 x8 x24 x25 x26).mon ?_
  simp only [spec_NearestLike.l0]
  repeat' first
  | (with_reducible exact spec_NearestLike.J0_lim _ _ _ _)
  | (with_reducible exact spec_NearestLike.L0_lim _ _ _ _ _ _ _)
  | (with_reducible exact spec_quLike.F_lim _ _)
  | (with_reducible exact spec_quPattern.F_lim _)
  | (with_reducible exact spec_tiGood.F_lim _)
  | (with_reducible refine Lim.ite ?_ ?_)
  | (with_reducible refine Lim.bind ?_ (fun _ => ?_))
  | (with_reducible exact Lim.const _)
theorem spec_NearestLike.F_eq (l0 : List (S66)) (a1 : ByteArray) (a2 : Int) : spec_NearestLike.F l0 a1 a2 = ((spec_tiGood.F l0).bind fun t122 => (if t122 = true then ((spec_quPattern.F a1).bind fun t123 => (if t123 = true then ((spec_tiFrame.f a2).bind fun t124 => (spec_NearestLike.J0 l0 a1 a2 (!t124))) else (spec_NearestLike.J0 l0 a1 a2 true))) else (spec_NearestLike.J0 l0 a1 a2 true))) := by
  refine Lim.eq_ ?_
  simp only [spec_NearestLike.f]
  repeat' first
  | (with_reducible exact spec_NearestLike.J0_lim _ _ _ _)
  | (with_reducible exact spec_NearestLike.L0_lim _ _ _ _ _ _ _)
  | (with_reducible exact spec_quLike.F_lim _ _)
  | (with_reducible exact spec_quPattern.F_lim _)
  | (with_reducible exact spec_tiGood.F_lim _)
  | (with_reducible refine Lim.ite ?_ ?_)
  | (with_reducible refine Lim.bind ?_ (fun _ => ?_))
  | (with_reducible exact Lim.const _)
def laws_toNote.f (a0_0 : Int) (a0_1 : Int) (a0_2 : ByteArray) : Option (Int × Int × ByteArray) := some (a0_0, a0_1, a0_2)
def laws_toNoteS.l0 : Nat → List (S81) → List (S66) → Int → Option ((List (S66)))
  | 0, _, _, _ => none
  | k + 1, x0, x3, x4 => if x4 < (x0.length : Int) then (if 0 ≤ x4 then ((laws_toNote.f ((rd_T81 x0 x4).f0) ((rd_T81 x0 x4).f1) ((rd_T81 x0 x4).f2)).bind fun bt138 => (if x4 < (x3.length : Int) then (laws_toNoteS.l0 k x0 (x3.set (x4 : Int).toNat (⟨bt138.1, bt138.2.1, bt138.2.2⟩ : S66)) (wrap64 (x4 + 1))) else (none))) else (none)) else (some x3)
def laws_toNoteS.f (k : Nat) (l0 : List (S81)) : Option ((List (S66))) := if 0 ≤ (l0.length : Int) then (if ((l0.length : Int) : Int).toNat ≤ 8796093022208 then (laws_toNoteS.l0 k l0 (List.replicate ((l0.length : Int) : Int).toNat z66) 0) else (none)) else (none)
theorem laws_toNoteS.mono_l : ∀ k, (∀ y0 y1 y2, LeO (laws_toNoteS.l0 k y0 y1 y2) (laws_toNoteS.l0 (k + 1) y0 y1 y2))
  | 0 => fun _ _ _ r h => by simp [laws_toNoteS.l0] at h
  | k + 1 => by
    have ih0 := laws_toNoteS.mono_l k
    · intro y0 y1 y2
      unfold laws_toNoteS.l0
      repeat' first
      | (with_reducible exact ih0 _ _ _)
      | (with_reducible exact LeO.refl _)
      | (with_reducible exact LeO.none _)
      | (with_reducible refine LeO.ite ?_ ?_)
      | (with_reducible refine LeO.bind ?_ (fun _ => ?_))
      | exact ih0 _ _ _
      | exact LeO.none _
      | refine LeO.ite ?_ ?_
      | refine LeO.bind ?_ (fun _ => ?_)
theorem laws_toNoteS.mono : ∀ a0 k, LeO (laws_toNoteS.f k a0) (laws_toNoteS.f (k + 1) a0) := by
  intro a0 k
  have ih0 := laws_toNoteS.mono_l k
  unfold laws_toNoteS.f
  repeat' first
      | (with_reducible exact ih0 _ _ _)
      | (with_reducible exact LeO.refl _)
      | (with_reducible exact LeO.none _)
      | (with_reducible refine LeO.ite ?_ ?_)
      | (with_reducible refine LeO.bind ?_ (fun _ => ?_))
      | exact ih0 _ _ _
      | exact LeO.none _
      | refine LeO.ite ?_ ?_
      | refine LeO.bind ?_ (fun _ => ?_)
noncomputable def laws_toNoteS.L0 (x0 : List (S81)) (x3 : List (S66)) (x4 : Int) : Option ((List (S66))) := lim fun k => laws_toNoteS.l0 k x0 x3 x4
theorem laws_toNoteS.L0_lim (x0 : List (S81)) (x3 : List (S66)) (x4 : Int) : Lim (fun k => laws_toNoteS.l0 k x0 x3 x4) (laws_toNoteS.L0 x0 x3 x4) := ⟨fun k => (laws_toNoteS.mono_l k) x0 x3 x4, rfl⟩
noncomputable def laws_toNoteS.F (l0 : List (S81)) : Option ((List (S66))) := lim fun k => laws_toNoteS.f k l0
theorem laws_toNoteS.F_lim (l0 : List (S81)) : Lim (fun k => laws_toNoteS.f k l0) (laws_toNoteS.F l0) := ⟨laws_toNoteS.mono l0, rfl⟩
theorem laws_toNoteS.L0_eq (x0 : List (S81)) (x3 : List (S66)) (x4 : Int) : laws_toNoteS.L0 x0 x3 x4 = (if x4 < (x0.length : Int) then (if 0 ≤ x4 then ((laws_toNote.f ((rd_T81 x0 x4).f0) ((rd_T81 x0 x4).f1) ((rd_T81 x0 x4).f2)).bind fun bt138 => (if x4 < (x3.length : Int) then (laws_toNoteS.L0 x0 (x3.set (x4 : Int).toNat (⟨bt138.1, bt138.2.1, bt138.2.2⟩ : S66)) (wrap64 (x4 + 1))) else (none))) else (none)) else (some x3)) := by
  refine Lim.succ_eq (laws_toNoteS.L0_lim x0 x3 x4).mon ?_
  simp only [laws_toNoteS.l0]
  repeat' first
  | (with_reducible exact laws_toNoteS.L0_lim _ _ _)
  | (with_reducible refine Lim.ite ?_ ?_)
  | (with_reducible refine Lim.bind ?_ (fun _ => ?_))
  | (with_reducible exact Lim.const _)
theorem laws_toNoteS.F_eq (l0 : List (S81)) : laws_toNoteS.F l0 = (if 0 ≤ (l0.length : Int) then (if ((l0.length : Int) : Int).toNat ≤ 8796093022208 then (laws_toNoteS.L0 l0 (List.replicate ((l0.length : Int) : Int).toNat z66) 0) else (none)) else (none)) := by
  refine Lim.eq_ ?_
  simp only [laws_toNoteS.f]
  repeat' first
  | (with_reducible exact laws_toNoteS.L0_lim _ _ _)
  | (with_reducible refine Lim.ite ?_ ?_)
  | (with_reducible refine Lim.bind ?_ (fun _ => ?_))
  | (with_reducible exact Lim.const _)
def impl_within.f (a0 : Int) (a1 : Int) (a2 : Int) : Option (Bool) := if a0 ≥ a1 then (some (decide (a0 ≤ a2))) else (some false)
def impl_isFrame.f (a0 : Int) : Option (Bool) := (impl_within.f a0 0 99999).bind fun t142 => (some t142)
def stringslite_IndexByte.f (a0 : ByteArray) (a1 : Int) : Option (Int) := some (Lib.indexByte a0.data.toList a1.toNat.toUInt8)
def strings_IndexByte.f (a0 : ByteArray) (a1 : Int) : Option (Int) := (stringslite_IndexByte.f a0 a1).bind fun t143 => (some t143)
def impl_hasOnly.l0 : Nat → ByteArray → ByteArray → Int → Int → Option (Bool)
  | 0, _, _, _, _ => none
  | k + 1, x0, x1, x7, x8 => if x8 < x7 then (if 0 ≤ x8 then (if x8 < (x0.size : Int) then ((strings_IndexByte.f x1 (bt x0 x8)).bind fun t144 => (if t144 < 0 then (some false) else (impl_hasOnly.l0 k x0 x1 x7 (wrap64 (x8 + 1))))) else (none)) else (none)) else (some true)
def impl_hasOnly.f (k : Nat) (a0 : ByteArray) (a1 : ByteArray) : Option (Bool) := impl_hasOnly.l0 k a0 a1 (a0.size : Int) 0
theorem impl_hasOnly.mono_l : ∀ k, (∀ y0 y1 y2 y3, LeO (impl_hasOnly.l0 k y0 y1 y2 y3) (impl_hasOnly.l0 (k + 1) y0 y1 y2 y3))
  | 0 => fun _ _ _ _ r h => by simp [impl_hasOnly.l0] at h
  | k + 1 => by
    have ih0 := impl_hasOnly.mono_l k
    · intro y0 y1 y2 y3
      unfold impl_hasOnly.l0
      repeat' first
      | (with_reducible exact ih0 _ _ _ _)
      | (with_reducible exact LeO.refl _)
      | (with_reducible exact LeO.none _)
      | (with_reducible refine LeO.ite ?_ ?_)
      | (with_reducible refine LeO.bind ?_ (fun _ => ?_))
      | exact ih0 _ _ _ _
      | exact LeO.none _
      | refine LeO.ite ?_ ?_
      | refine LeO.bind ?_ (fun _ => ?_)
theorem impl_hasOnly.mono : ∀ a0 a1 k, LeO (impl_hasOnly.f k a0 a1) (impl_hasOnly.f (k + 1) a0 a1) := by
  intro a0 a1 k
  have ih0 := impl_hasOnly.mono_l k
  unfold impl_hasOnly.f
  repeat' first
      | (with_reducible exact ih0 _ _ _ _)
      | (with_reducible exact LeO.refl _)
      | (with_reducible exact LeO.none _)
      | (with_reducible refine LeO.ite ?_ ?_)
      | (with_reducible refine LeO.bind ?_ (fun _ => ?_))
      | exact ih0 _ _ _ _
      | exact LeO.none _
      | refine LeO.ite ?_ ?_
      | refine LeO.bind ?_ (fun _ => ?_)
noncomputable def impl_hasOnly.L0 (x0 : ByteArray) (x1 : ByteArray) (x7 : Int) (x8 : Int) : Option (Bool) := lim fun k => impl_hasOnly.l0 k x0 x1 x7 x8
theorem impl_hasOnly.L0_lim (x0 : ByteArray) (x1 : ByteArray) (x7 : Int) (x8 : Int) : Lim (fun k => impl_hasOnly.l0 k x0 x1 x7 x8) (impl_hasOnly.L0 x0 x1 x7 x8) := ⟨fun k => (impl_hasOnly.mono_l k) x0 x1 x7 x8, rfl⟩
noncomputable def impl_hasOnly.F (a0 : ByteArray) (a1 : ByteArray) : Option (Bool) := lim fun k => impl_hasOnly.f k a0 a1
theorem impl_hasOnly.F_lim (a0 : ByteArray) (a1 : ByteArray) : Lim (fun k => impl_hasOnly.f k a0 a1) (impl_hasOnly.F a0 a1) := ⟨impl_hasOnly.mono a0 a1, rfl⟩
theorem impl_hasOnly.L0_eq (x0 : ByteArray) (x1 : ByteArray) (x7 : Int) (x8 : Int) : impl_hasOnly.L0 x0 x1 x7 x8 = (if x8 < x7 then (if 0 ≤ x8 then (if x8 < (x0.size : Int) then ((strings_IndexByte.f x1 (bt x0 x8)).bind fun t144 => (if t144 < 0 then (some false) else (impl_hasOnly.L0 x0 x1 x7 (wrap64 (x8 + 1))))) else (none)) else (none)) else (some true)) := by
  refine Lim.succ_eq (impl_hasOnly.L0_lim x0 x1 x7 x8).mon ?_
  simp only [impl_hasOnly.l0]
  repeat' first
  | (with_reducible exact impl_hasOnly.L0_lim _ _ _ _)
  | (with_reducible refine Lim.ite ?_ ?_)
  | (with_reducible refine Lim.bind ?_ (fun _ => ?_))
  | (with_reducible exact Lim.const _)
theorem impl_hasOnly.F_eq (a0 : ByteArray) (a1 : ByteArray) : impl_hasOnly.F a0 a1 = (impl_hasOnly.L0 a0 a1 (a0.size : Int) 0) := by
  refine Lim.eq_ ?_
  simp only [impl_hasOnly.f]
  repeat' first
  | (with_reducible exact impl_hasOnly.L0_lim _ _ _ _)
  | (with_reducible refine Lim.ite ?_ ?_)
  | (with_reducible refine Lim.bind ?_ (fun _ => ?_))
  | (with_reducible exact Lim.const _)
def impl_isWordOf.f (k : Nat) (a0 : ByteArray) (a1 : ByteArray) : Option (Bool) := (impl_within.f (a0.size : Int) 1 8).bind fun t145 => (if t145 = true then ((impl_hasOnly.f k a0 a1).bind fun t146 => (some t146)) else (some false))
theorem impl_isWordOf.mono : ∀ a0 a1 k, LeO (impl_isWordOf.f k a0 a1) (impl_isWordOf.f (k + 1) a0 a1) := by
  intro a0 a1 k
  unfold impl_isWordOf.f
  repeat' first
      | (with_reducible exact impl_hasOnly.mono _ _ _)
      | (with_reducible exact LeO.refl _)
      | (with_reducible exact LeO.none _)
      | (with_reducible refine LeO.ite ?_ ?_)
      | (with_reducible refine LeO.bind ?_ (fun _ => ?_))
      | exact impl_hasOnly.mono _ _ _
      | exact LeO.none _
      | refine LeO.ite ?_ ?_
      | refine LeO.bind ?_ (fun _ => ?_)
noncomputable def impl_isWordOf.F (a0 : ByteArray) (a1 : ByteArray) : Option (Bool) := lim fun k => impl_isWordOf.f k a0 a1
theorem impl_isWordOf.F_lim (a0 : ByteArray) (a1 : ByteArray) : Lim (fun k => impl_isWordOf.f k a0 a1) (impl_isWordOf.F a0 a1) := ⟨impl_isWordOf.mono a0 a1, rfl⟩
theorem impl_isWordOf.F_eq (a0 : ByteArray) (a1 : ByteArray) : impl_isWordOf.F a0 a1 = ((impl_within.f (a0.size : Int) 1 8).bind fun t145 => (if t145 = true then ((impl_hasOnly.F a0 a1).bind fun t146 => (some t146)) else (some false))) := by
  refine Lim.eq_ ?_
  simp only [impl_isWordOf.f]
  repeat' first
  | (with_reducible exact impl_hasOnly.F_lim _ _)
  | (with_reducible refine Lim.ite ?_ ?_)
  | (with_reducible refine Lim.bind ?_ (fun _ => ?_))
  | (with_reducible exact Lim.const _)
def impl_IsNote.f (k : Nat) (a0_0 : Int) (a0_1 : Int) (a0_2 : ByteArray) : Option (Bool) := (impl_isFrame.f a0_0).bind fun t148 => (if t148 = true then ((impl_isFrame.f a0_1).bind fun t149 => (if t149 = true then (if a0_0 < a0_1 then ((impl_isWordOf.f k a0_2 (⟨#[65, 66, 67, 68, 69, 70, 71, 72, 73, 74, 75, 76, 77, 78, 79, 80, 81, 82, 83, 84, 85, 86, 87, 88, 89, 90]⟩ : ByteArray)).bind fun t150 => (some t150)) else (some false)) else (some false))) else (some false))
theorem impl_IsNote.mono : ∀ a0 a1 a2 k, LeO (impl_IsNote.f k a0 a1 a2) (impl_IsNote.f (k + 1) a0 a1 a2) := by
  intro a0 a1 a2 k
  unfold impl_IsNote.f
  repeat' first
      | (with_reducible exact impl_isWordOf.mono _ _ _)
      | (with_reducible exact LeO.refl _)
      | (with_reducible exact LeO.none _)
      | (with_reducible refine LeO.ite ?_ ?_)
      | (with_reducible refine LeO.bind ?_ (fun _ => ?_))
      | exact impl_isWordOf.mono _ _ _
      | exact LeO.none _
      | refine LeO.ite ?_ ?_
      | refine LeO.bind ?_ (fun _ => ?_)
noncomputable def impl_IsNote.F (a0_0 : Int) (a0_1 : Int) (a0_2 : ByteArray) : Option (Bool) := lim fun k => impl_IsNote.f k a0_0 a0_1 a0_2
theorem impl_IsNote.F_lim (a0_0 : Int) (a0_1 : Int) (a0_2 : ByteArray) : Lim (fun k => impl_IsNote.f k a0_0 a0_1 a0_2) (impl_IsNote.F a0_0 a0_1 a0_2) := ⟨impl_IsNote.mono a0_0 a0_1 a0_2, rfl⟩
theorem impl_IsNote.F_eq (a0_0 : Int) (a0_1 : Int) (a0_2 : ByteArray) : impl_IsNote.F a0_0 a0_1 a0_2 = ((impl_isFrame.f a0_0).bind fun t148 => (if t148 = true then ((impl_isFrame.f a0_1).bind fun t149 => (if t149 = true then (if a0_0 < a0_1 then ((impl_isWordOf.F a0_2 (⟨#[65, 66, 67, 68, 69, 70, 71, 72, 73, 74, 75, 76, 77, 78, 79, 80, 81, 82, 83, 84, 85, 86, 87, 88, 89, 90]⟩ : ByteArray)).bind fun t150 => (some t150)) else (some false)) else (some false))) else (some false))) := by
  refine Lim.eq_ ?_
  simp only [impl_IsNote.f]
  repeat' first
  | (with_reducible exact impl_isWordOf.F_lim _ _)
  | (with_reducible refine Lim.ite ?_ ?_)
  | (with_reducible refine Lim.bind ?_ (fun _ => ?_))
  | (with_reducible exact Lim.const _)
def impl_IsTier.l0 : Nat → List (S66) → List (S66) → Int → Int → Option (Bool)
  | 0, _, _, _, _ => none
  | k + 1, x0, x5, x6, x7 => if x7 < x6 then (if 0 ≤ x7 then (if x7 < (x5.length : Int) then ((impl_IsNote.f k ((rd_T66 x5 x7).f0) ((rd_T66 x5 x7).f1) ((rd_T66 x5 x7).f2)).bind fun t153 => (if t153 = true then (if x7 > 0 then (if 0 ≤ (wrap64 (x7 - 1)) then (if (wrap64 (x7 - 1)) < (x0.length : Int) then (if ((rd_T66 x0 (wrap64 (x7 - 1))).f1) > ((rd_T66 x5 x7).f0) then (some false) else (impl_IsTier.l0 k x0 x5 x6 (wrap64 (x7 + 1)))) else (none)) else (none)) else (impl_IsTier.l0 k x0 x5 x6 (wrap64 (x7 + 1)))) else (some false))) else (none)) else (none)) else (some (decide ((x0.length : Int) ≤ 40)))
def impl_IsTier.f (k : Nat) (l0 : List (S66)) : Option (Bool) := impl_IsTier.l0 k l0 l0 (l0.length : Int) 0
theorem impl_IsTier.mono_l : ∀ k, (∀ y0 y1 y2 y3, LeO (impl_IsTier.l0 k y0 y1 y2 y3) (impl_IsTier.l0 (k + 1) y0 y1 y2 y3))
  | 0 => fun _ _ _ _ r h => by simp [impl_IsTier.l0] at h
  | k + 1 => by
    have ih0 := impl_IsTier.mono_l k
    · intro y0 y1 y2 y3
      unfold impl_IsTier.l0
      repeat' first
      | (with_reducible exact ih0 _ _ _ _)
      | (with_reducible exact impl_IsNote.mono _ _ _ _)
      | (with_reducible exact LeO.refl _)
      | (with_reducible exact LeO.none _)
      | (with_reducible refine LeO.ite ?_ ?_)
      | (with_reducible refine LeO.bind ?_ (fun _ => ?_))
      | exact ih0 _ _ _ _
      | exact impl_IsNote.mono _ _ _ _
      | exact LeO.none _
      | refine LeO.ite ?_ ?_
      | refine LeO.bind ?_ (fun _ => ?_)
theorem impl_IsTier.mono : ∀ a0 k, LeO (impl_IsTier.f k a0) (impl_IsTier.f (k + 1) a0) := by
  intro a0 k
  have ih0 := impl_IsTier.mono_l k
  unfold impl_IsTier.f
  repeat' first
      | (with_reducible exact ih0 _ _ _ _)
      | (with_reducible exact impl_IsNote.mono _ _ _ _)
      | (with_reducible exact LeO.refl _)
      | (with_reducible exact LeO.none _)
      | (with_reducible refine LeO.ite ?_ ?_)
      | (with_reducible refine LeO.bind ?_ (fun _ => ?_))
      | exact ih0 _ _ _ _
      | exact impl_IsNote.mono _ _ _ _
      | exact LeO.none _
      | refine LeO.ite ?_ ?_
      | refine LeO.bind ?_ (fun _ => ?_)
noncomputable def impl_IsTier.L0 (x0 : List (S66)) (x5 : List (S66)) (x6 : Int) (x7 : Int) : Option (Bool) := lim fun k => impl_IsTier.l0 k x0 x5 x6 x7
theorem impl_IsTier.L0_lim (x0 : List (S66)) (x5 : List (S66)) (x6 : Int) (x7 : Int) : Lim (fun k => impl_IsTier.l0 k x0 x5 x6 x7) (impl_IsTier.L0 x0 x5 x6 x7) := ⟨fun k => (impl_IsTier.mono_l k) x0 x5 x6 x7, rfl⟩
noncomputable def impl_IsTier.F (l0 : List (S66)) : Option (Bool) := lim fun k => impl_IsTier.f k l0
theorem impl_IsTier.F_lim (l0 : List (S66)) : Lim (fun k => impl_IsTier.f k l0) (impl_IsTier.F l0) := ⟨impl_IsTier.mono l0, rfl⟩
theorem impl_IsTier.L0_eq (x0 : List (S66)) (x5 : List (S66)) (x6 : Int) (x7 : Int) : impl_IsTier.L0 x0 x5 x6 x7 = (if x7 < x6 then (if 0 ≤ x7 then (if x7 < (x5.length : Int) then ((impl_IsNote.F ((rd_T66 x5 x7).f0) ((rd_T66 x5 x7).f1) ((rd_T66 x5 x7).f2)).bind fun t153 => (if t153 = true then (if x7 > 0 then (if 0 ≤ (wrap64 (x7 - 1)) then (if (wrap64 (x7 - 1)) < (x0.length : Int) then (if ((rd_T66 x0 (wrap64 (x7 - 1))).f1) > ((rd_T66 x5 x7).f0) then (some false) else (impl_IsTier.L0 x0 x5 x6 (wrap64 (x7 + 1)))) else (none)) else (none)) else (impl_IsTier.L0 x0 x5 x6 (wrap64 (x7 + 1)))) else (some false))) else (none)) else (none)) else (some (decide ((x0.length : Int) ≤ 40)))) := by
  refine Lim.succ_eq (impl_IsTier.L0_lim x0 x5 x6 x7).mon ?_
  simp only [impl_IsTier.l0]
  repeat' first
  | (with_reducible exact impl_IsTier.L0_lim _ _ _ _)
  | (with_reducible exact impl_IsNote.F_lim _ _ _)
  | (with_reducible refine Lim.ite ?_ ?_)
  | (with_reducible refine Lim.bind ?_ (fun _ => ?_))
  | (with_reducible exact Lim.const _)
theorem impl_IsTier.F_eq (l0 : List (S66)) : impl_IsTier.F l0 = (impl_IsTier.L0 l0 l0 (l0.length : Int) 0) := by
  refine Lim.eq_ ?_
  simp only [impl_IsTier.f]
  repeat' first
  | (with_reducible exact impl_IsTier.L0_lim _ _ _ _)
  | (with_reducible exact impl_IsNote.F_lim _ _ _)
  | (with_reducible refine Lim.ite ?_ ?_)
  | (with_reducible refine Lim.bind ?_ (fun _ => ?_))
  | (with_reducible exact Lim.const _)
def impl_isGlossPattern.f (k : Nat) (a0 : ByteArray) : Option (Bool) := (impl_isWordOf.f k a0 (⟨#[65, 66, 67, 68, 69, 70, 71, 72, 73, 74, 75, 76, 77, 78, 79, 80, 81, 82, 83, 84, 85, 86, 87, 88, 89, 90, 63, 42]⟩ : ByteArray)).bind fun t155 => (some t155)
theorem impl_isGlossPattern.mono : ∀ a0 k, LeO (impl_isGlossPattern.f k a0) (impl_isGlossPattern.f (k + 1) a0) := by
  intro a0 k
  unfold impl_isGlossPattern.f
  repeat' first
      | (with_reducible exact impl_isWordOf.mono _ _ _)
      | (with_reducible exact LeO.refl _)
      | (with_reducible exact LeO.none _)
      | (with_reducible refine LeO.ite ?_ ?_)
      | (with_reducible refine LeO.bind ?_ (fun _ => ?_))
      | exact impl_isWordOf.mono _ _ _
      | exact LeO.none _
      | refine LeO.ite ?_ ?_
      | refine LeO.bind ?_ (fun _ => ?_)
noncomputable def impl_isGlossPattern.F (a0 : ByteArray) : Option (Bool) := lim fun k => impl_isGlossPattern.f k a0
theorem impl_isGlossPattern.F_lim (a0 : ByteArray) : Lim (fun k => impl_isGlossPattern.f k a0) (impl_isGlossPattern.F a0) := ⟨impl_isGlossPattern.mono a0, rfl⟩
theorem impl_isGlossPattern.F_eq (a0 : ByteArray) : impl_isGlossPattern.F a0 = ((impl_isWordOf.F a0 (⟨#[65, 66, 67, 68, 69, 70, 71, 72, 73, 74, 75, 76, 77, 78, 79, 80, 81, 82, 83, 84, 85, 86, 87, 88, 89, 90, 63, 42]⟩ : ByteArray)).bind fun t155 => (some t155)) := by
  refine Lim.eq_ ?_
  simp only [impl_isGlossPattern.f]
  repeat' first
  | (with_reducible exact impl_isWordOf.F_lim _ _)
  | (with_reducible refine Lim.ite ?_ ?_)
  | (with_reducible refine Lim.bind ?_ (fun _ => ?_))
  | (with_reducible exact Lim.const _)
mutual
def impl_fits.l0 : Nat → ByteArray → ByteArray → List Bool → Int → Int → Option (Bool)
  | 0, _, _, _, _, _ => none
  | k + 1, x0, x1, x5, x20, x21 => if x21 < x20 then (if 0 ≤ (x5.length : Int) then (if ((x5.length : Int) : Int).toNat ≤ 281474976710656 then (impl_fits.l1 k x0 x1 x5 x21 (List.replicate ((x5.length : Int) : Int).toNat false) x20 x21 (x5.length : Int) 0) else (none)) else (none)) else (if 0 ≤ (x1.size : Int) then (if (x1.size : Int) < (x5.length : Int) then (some (rdOf false x5 (x1.size : Int))) else (none)) else (none))
def impl_fits.l1 : Nat → ByteArray → ByteArray → List Bool → Int → List Bool → Int → Int → Int → Int → Option (Bool)
  | 0, _, _, _, _, _, _, _, _, _ => none
  | k + 1, x0, x1, x5, x6, x7, x20, x21, x28, x29 => if x29 < x28 then (if 0 ≤ x6 then (if x6 < (x0.size : Int) then (if (bt x0 x6) = 42 then (if 0 ≤ x29 then (if x29 < (x5.length : Int) then (if rdOf false x5 x29 = true then (if x29 < (x7.length : Int) then (impl_fits.l1 k x0 x1 x5 x6 (x7.set (x29 : Int).toNat true) x20 x21 x28 (wrap64 (x29 + 1))) else (none)) else (if x29 > 0 then (if 0 ≤ (wrap64 (x29 - 1)) then (if (wrap64 (x29 - 1)) < (x7.length : Int) then (if x29 < (x7.length : Int) then (impl_fits.l1 k x0 x1 x5 x6 (x7.set (x29 : Int).toNat (rdOf false x7 (wrap64 (x29 - 1)))) x20 x21 x28 (wrap64 (x29 + 1))) else (none)) else (none)) else (none)) else (if x29 < (x7.length : Int) then (impl_fits.l1 k x0 x1 x5 x6 (x7.set (x29 : Int).toNat false) x20 x21 x28 (wrap64 (x29 + 1))) else (none)))) else (none)) else (none)) else (if x29 > 0 then (if 0 ≤ (wrap64 (x29 - 1)) then (if (wrap64 (x29 - 1)) < (x5.length : Int) then (if rdOf false x5 (wrap64 (x29 - 1)) = true then (if (bt x0 x6) = 63 then (if 0 ≤ x29 then (if x29 < (x7.length : Int) then (impl_fits.l1 k x0 x1 x5 x6 (x7.set (x29 : Int).toNat true) x20 x21 x28 (wrap64 (x29 + 1))) else (none)) else (none)) else (if (wrap64 (x29 - 1)) < (x1.size : Int) then (if 0 ≤ x29 then (if x29 < (x7.length : Int) then (impl_fits.l1 k x0 x1 x5 x6 (x7.set (x29 : Int).toNat ((bt x0 x6) == (bt x1 (wrap64 (x29 - 1))))) x20 x21 x28 (wrap64 (x29 + 1))) else (none)) else (none)) else (none))) else (if 0 ≤ x29 then (if x29 < (x7.length : Int) then (impl_fits.l1 k x0 x1 x5 x6 (x7.set (x29 : Int).toNat false) x20 x21 x28 (wrap64 (x29 + 1))) else (none)) else (none))) else (none)) else (none)) else (if 0 ≤ x29 then (if x29 < (x7.length : Int) then (impl_fits.l1 k x0 x1 x5 x6 (x7.set (x29 : Int).toNat false) x20 x21 x28 (wrap64 (x29 + 1))) else (none)) else (none)))) else (none)) else (none)) else (impl_fits.l0 k x0 x1 x7 x20 (wrap64 (x21 + 1)))
end
def impl_fits.f (k : Nat) (a0 : ByteArray) (a1 : ByteArray) : Option (Bool) := if a0.toList = ([] : List UInt8) then (some (a1.toList == ([] : List UInt8))) else (if 0 ≤ (wrap64 ((a1.size : Int) + 1)) then (if (wrap64 ((a1.size : Int) + 1) : Int).toNat ≤ 281474976710656 then ((some (List.replicate (wrap64 ((a1.size : Int) + 1) : Int).toNat false : List Bool)).bind fun y156 => (if 0 < (y156.length : Int) then (impl_fits.l0 k a0 a1 (y156.set (0 : Int).toNat true) (a0.size : Int) 0) else (none))) else (none)) else (none))
theorem impl_fits.mono_l : ∀ k, (∀ y0 y1 y2 y3 y4, LeO (impl_fits.l0 k y0 y1 y2 y3 y4) (impl_fits.l0 (k + 1) y0 y1 y2 y3 y4)) ∧ (∀ y0 y1 y2 y3 y4 y5 y6 y7 y8, LeO (impl_fits.l1 k y0 y1 y2 y3 y4 y5 y6 y7 y8) (impl_fits.l1 (k + 1) y0 y1 y2 y3 y4 y5 y6 y7 y8))
  | 0 => ⟨fun _ _ _ _ _ r h => by simp [impl_fits.l0] at h, fun _ _ _ _ _ _ _ _ _ r h => by simp [impl_fits.l1] at h⟩
  | k + 1 => by
    obtain ⟨ih0, ih1⟩ := impl_fits.mono_l k
    refine ⟨?_, ?_⟩
    · intro y0 y1 y2 y3 y4
      unfold impl_fits.l0
      repeat' first
      | (with_reducible exact ih0 _ _ _ _ _)
      | (with_reducible exact ih1 _ _ _ _ _ _ _ _ _)
      | (with_reducible exact LeO.refl _)
      | (with_reducible exact LeO.none _)
      | (with_reducible refine LeO.ite ?_ ?_)
      | (with_reducible refine LeO.bind ?_ (fun _ => ?_))
      | exact ih0 _ _ _ _ _
      | exact ih1 _ _ _ _ _ _ _ _ _
      | exact LeO.none _
      | refine LeO.ite ?_ ?_
      | refine LeO.bind ?_ (fun _ => ?_)
    · intro y0 y1 y2 y3 y4 y5 y6 y7 y8
      unfold impl_fits.l1
      repeat' first
      | (with_reducible exact ih0 _ _ _ _ _)
      | (with_reducible exact ih1 _ _ _ _ _ _ _ _ _)
      | (with_reducible exact LeO.refl _)
      | (with_reducible exact LeO.none _)
      | (with_reducible refine LeO.ite ?_ ?_)
      | (with_reducible refine LeO.bind ?_ (fun _ => ?_))
      | exact ih0 _ _ _ _ _
      | exact ih1 _ _ _ _ _ _ _ _ _
      | exact LeO.none _
      | refine LeO.ite ?_ ?_
      | refine LeO.bind ?_ (fun _ => ?_)
theorem impl_fits.mono : ∀ a0 a1 k, LeO (impl_fits.f k a0 a1) (impl_fits.f (k + 1) a0 a1) := by
  intro a0 a1 k
  obtain ⟨ih0, ih1⟩ := impl_fits.mono_l k
  unfold impl_fits.f
  repeat' first
      | (with_reducible exact ih0 _ _ _ _ _)
      | (with_reducible exact ih1 _ _ _ _ _ _ _ _ _)
      | (with_reducible exact LeO.refl _)
      | (with_reducible exact LeO.none _)
      | (with_reducible refine LeO.ite ?_ ?_)
      | (with_reducible refine LeO.bind ?_ (fun _ => ?_))
      | exact ih0 _ _ _ _ _
      | exact ih1 _ _ _ _ _ _ _ _ _
      | exact LeO.none _
      | refine LeO.ite ?_ ?_
      | refine LeO.bind ?_ (fun _ => ?_)
noncomputable def impl_fits.L0 (x0 : ByteArray) (x1 : ByteArray) (x5 : List Bool) (x20 : Int) (x21 : Int) : Option (Bool) := lim fun k => impl_fits.l0 k x0 x1 x5 x20 x21
theorem impl_fits.L0_lim (x0 : ByteArray) (x1 : ByteArray) (x5 : List Bool) (x20 : Int) (x21 : Int) : Lim (fun k => impl_fits.l0 k x0 x1 x5 x20 x21) (impl_fits.L0 x0 x1 x5 x20 x21) := ⟨fun k => (impl_fits.mono_l k).1 x0 x1 x5 x20 x21, rfl⟩
noncomputable def impl_fits.L1 (x0 : ByteArray) (x1 : ByteArray) (x5 : List Bool) (x6 : Int) (x7 : List Bool) (x20 : Int) (x21 : Int) (x28 : Int) (x29 : Int) : Option (Bool) := lim fun k => impl_fits.l1 k x0 x1 x5 x6 x7 x20 x21 x28 x29
theorem impl_fits.L1_lim (x0 : ByteArray) (x1 : ByteArray) (x5 : List Bool) (x6 : Int) (x7 : List Bool) (x20 : Int) (x21 : Int) (x28 : Int) (x29 : Int) : Lim (fun k => impl_fits.l1 k x0 x1 x5 x6 x7 x20 x21 x28 x29) (impl_fits.L1 x0 x1 x5 x6 x7 x20 x21 x28 x29) := ⟨fun k => (impl_fits.mono_l k).2 x0 x1 x5 x6 x7 x20 x21 x28 x29, rfl⟩
noncomputable def impl_fits.F (a0 : ByteArray) (a1 : ByteArray) : Option (Bool) := lim fun k => impl_fits.f k a0 a1
theorem impl_fits.F_lim (a0 : ByteArray) (a1 : ByteArray) : Lim (fun k => impl_fits.f k a0 a1) (impl_fits.F a0 a1) := ⟨impl_fits.mono a0 a1, rfl⟩
theorem impl_fits.L0_eq (x0 : ByteArray) (x1 : ByteArray) (x5 : List Bool) (x20 : Int) (x21 : Int) : impl_fits.L0 x0 x1 x5 x20 x21 = (if x21 < x20 then (if 0 ≤ (x5.length : Int) then (if ((x5.length : Int) : Int).toNat ≤ 281474976710656 then (impl_fits.L1 x0 x1 x5 x21 (List.replicate ((x5.length : Int) : Int).toNat false) x20 x21 (x5.length : Int) 0) else (none)) else (none)) else (if 0 ≤ (x1.size : Int) then (if (x1.size : Int) < (x5.length : Int) then (some (rdOf false x5 (x1.size : Int))) else (none)) else (none))) := by
  refine Lim.succ_eq (impl_fits.L0_lim x0 x1 x5 x20 x21).mon ?_
  simp only [impl_fits.l0]
  repeat' first
  | (with_reducible exact impl_fits.L0_lim _ _ _ _ _)
  | (with_reducible exact impl_fits.L1_lim _ _ _ _ _ _ _ _ _)
  | (with_reducible refine Lim.ite ?_ ?_)
  | (with_reducible refine Lim.bind ?_ (fun _ => ?_))
  | (with_reducible exact Lim.const _)
theorem impl_fits.L1_eq (x0 : ByteArray) (x1 : ByteArray) (x5 : List Bool) (x6 : Int) (x7 : List Bool) (x20 : Int) (x21 : Int) (x28 : Int) (x29 : Int) : impl_fits.L1 x0 x1 x5 x6 x7 x20 x21 x28 x29 = (if x29 < x28 then (if 0 ≤ x6 then (if x6 < (x0.size : Int) then (if (bt x0 x6) = 42 then (if 0 ≤ x29 then (if x29 < (x5.length : Int) then (if rdOf false x5 x29 = true then (if x29 < (x7.length : Int) then (impl_fits.L1 x0 x1 x5 x6 (x7.set (x29 : Int).toNat true) x20 x21 x28 (wrap64 (x29 + 1))) else (none)) else (if x29 > 0 then (if 0 ≤ (wrap64 (x29 - 1)) then (if (wrap64 (x29 - 1)) < (x7.length : Int) then (if x29 < (x7.length : Int) then (impl_fits.L1 x0 x1 x5 x6 (x7.set (x29 : Int).toNat (rdOf false x7 (wrap64 (x29 - 1)))) x20 x21 x28 (wrap64 (x29 + 1))) else (none)) else (none)) else (none)) else (if x29 < (x7.length : Int) then (impl_fits.L1 x0 x1 x5 x6 (x7.set (x29 : Int).toNat false) x20 x21 x28 (wrap64 (x29 + 1))) else (none)))) else (none)) else (none)) else (if x29 > 0 then (if 0 ≤ (wrap64 (x29 - 1)) then (if (wrap64 (x29 - 1)) < (x5.length : Int) then (if rdOf false x5 (wrap64 (x29 - 1)) = true then (if (bt x0 x6) = 63 then (if 0 ≤ x29 then (if x29 < (x7.length : Int) then (impl_fits.L1 x0 x1 x5 x6 (x7.set (x29 : Int).toNat true) x20 x21 x28 (wrap64 (x29 + 1))) else (none)) else (none)) else (if (wrap64 (x29 - 1)) < (x1.size : Int) then (if 0 ≤ x29 then (if x29 < (x7.length : Int) then (impl_fits.L1 x0 x1 x5 x6 (x7.set (x29 : Int).toNat ((bt x0 x6) == (bt x1 (wrap64 (x29 - 1))))) x20 x21 x28 (wrap64 (x29 + 1))) else (none)) else (none)) else (none))) else (if 0 ≤ x29 then (if x29 < (x7.length : Int) then (impl_fits.L1 x0 x1 x5 x6 (x7.set (x29 : Int).toNat false) x20 x21 x28 (wrap64 (x29 + 1))) else (none)) else (none))) else (none)) else (none)) else (if 0 ≤ x29 then (if x29 < (x7.length : Int) then (impl_fits.L1 x0 x1 x5 x6 (x7.set (x29 : Int).toNat false) x20 x21 x28 (wrap64 (x29 + 1))) else (none)) else (none)))) else (none)) else (none)) else (impl_fits.L0 x0 x1 x7 x20 (wrap64 (x21 + 1)))) := by
  refine Lim.succ_eq (impl_fits.L1_lim x0 x1 x5 x6 x7 x20 x21 x28 x29).mon ?_
  simp only [impl_fits.l1]
  repeat' first
  | (with_reducible exact impl_fits.L0_lim _ _ _ _ _)
  | (with_reducible exact impl_fits.L1_lim _ _ _ _ _ _ _ _ _)
  | (with_reducible refine Lim.ite ?_ ?_)
  | (with_reducible refine Lim.bind ?_ (fun _ => ?_))
  | (with_reducible exact Lim.const _)
theorem impl_fits.F_eq (a0 : ByteArray) (a1 : ByteArray) : impl_fits.F a0 a1 = (if a0.toList = ([] : List UInt8) then (some (a1.toList == ([] : List UInt8))) else (if 0 ≤ (wrap64 ((a1.size : Int) + 1)) then (if (wrap64 ((a1.size : Int) + 1) : Int).toNat ≤ 281474976710656 then ((some (List.replicate (wrap64 ((a1.size : Int) + 1) : Int).toNat false : List Bool)).bind fun y156 => (if 0 < (y156.length : Int) then (impl_fits.L0 a0 a1 (y156.set (0 : Int).toNat true) (a0.size : Int) 0) else (none))) else (none)) else (none))) := by
  refine Lim.eq_ ?_
  simp only [impl_fits.f]
  repeat' first
  | (with_reducible exact impl_fits.L0_lim _ _ _ _ _)
  | (with_reducible exact impl_fits.L1_lim _ _ _ _ _ _ _ _ _)
  | (with_reducible refine Lim.ite ?_ ?_)
  | (with_reducible refine Lim.bind ?_ (fun _ => ?_))
  | (with_reducible exact Lim.const _)
def impl_NearestLike_1.f (k : Nat) (a0_0 : Int) (a0_1 : Int) (a0_2 : ByteArray) (a1_0 : ByteArray) : Option (Bool) := (impl_fits.f k a1_0 a0_2).bind fun t175 => (some t175)
theorem impl_NearestLike_1.mono : ∀ a0 a1 a2 a3 k, LeO (impl_NearestLike_1.f k a0 a1 a2 a3) (impl_NearestLike_1.f (k + 1) a0 a1 a2 a3) := by
  intro a0 a1 a2 a3 k
  unfold impl_NearestLike_1.f
  repeat' first
      | (with_reducible exact impl_fits.mono _ _ _)
      | (with_reducible exact LeO.refl _)
      | (with_reducible exact LeO.none _)
      | (with_reducible refine LeO.ite ?_ ?_)
      | (with_reducible refine LeO.bind ?_ (fun _ => ?_))
      | exact impl_fits.mono _ _ _
      | exact LeO.none _
      | refine LeO.ite ?_ ?_
      | refine LeO.bind ?_ (fun _ => ?_)
noncomputable def impl_NearestLike_1.F (a0_0 : Int) (a0_1 : Int) (a0_2 : ByteArray) (a1_0 : ByteArray) : Option (Bool) := lim fun k => impl_NearestLike_1.f k a0_0 a0_1 a0_2 a1_0
theorem impl_NearestLike_1.F_lim (a0_0 : Int) (a0_1 : Int) (a0_2 : ByteArray) (a1_0 : ByteArray) : Lim (fun k => impl_NearestLike_1.f k a0_0 a0_1 a0_2 a1_0) (impl_NearestLike_1.F a0_0 a0_1 a0_2 a1_0) := ⟨impl_NearestLike_1.mono a0_0 a0_1 a0_2 a1_0, rfl⟩
theorem impl_NearestLike_1.F_eq (a0_0 : Int) (a0_1 : Int) (a0_2 : ByteArray) (a1_0 : ByteArray) : impl_NearestLike_1.F a0_0 a0_1 a0_2 a1_0 = ((impl_fits.F a1_0 a0_2).bind fun t175 => (some t175)) := by
  refine Lim.eq_ ?_
  simp only [impl_NearestLike_1.f]
  repeat' first
  | (with_reducible exact impl_fits.F_lim _ _)
  | (with_reducible refine Lim.ite ?_ ?_)
  | (with_reducible refine Lim.bind ?_ (fun _ => ?_))
  | (with_reducible exact Lim.const _)
def impl_those_Note_impl_NearestLike_1.l0 : Nat → List Int → List (S66) → Int → Int → ByteArray → Option (List Int)
  | 0, _, _, _, _, _ => none
  | k + 1, x5, x8, x9, x10, x39000 => if x10 < x9 then (if 0 ≤ x10 then (if x10 < (x8.length : Int) then ((impl_NearestLike_1.f k ((rd_T66 x8 x10).f0) ((rd_T66 x8 x10).f1) ((rd_T66 x8 x10).f2) x39000).bind fun t178 => (if t178 = true then (if x5.length < 17592186044416 then (impl_those_Note_impl_NearestLike_1.l0 k (x5 ++ [x10]) x8 x9 (wrap64 (x10 + 1)) x39000) else (none)) else (impl_those_Note_impl_NearestLike_1.l0 k x5 x8 x9 (wrap64 (x10 + 1)) x39000))) else (none)) else (none)) else (some x5)
def impl_those_Note_impl_NearestLike_1.f (k : Nat) (l0 : List (S66)) (a1_0 : ByteArray) : Option (List Int) := impl_those_Note_impl_NearestLike_1.l0 k ([] : List Int) l0 (l0.length : Int) 0 a1_0
theorem impl_those_Note_impl_NearestLike_1.mono_l : ∀ k, (∀ y0 y1 y2 y3 y4, LeO (impl_those_Note_impl_NearestLike_1.l0 k y0 y1 y2 y3 y4) (impl_those_Note_impl_NearestLike_1.l0 (k + 1) y0 y1 y2 y3 y4))
  | 0 => fun _ _ _ _ _ r h => by simp [impl_those_Note_impl_NearestLike_1.l0] at h
  | k + 1 => by
    have ih0 := impl_those_Note_impl_NearestLike_1.mono_l k
    · intro y0 y1 y2 y3 y4
      unfold impl_those_Note_impl_NearestLike_1.l0
      repeat' first
      | (with_reducible exact ih0 _ _ _ _ _)
      | (with_reducible exact impl_NearestLike_1.mono _ _ _ _ _)
      | (with_reducible exact LeO.refl _)
      | (with_reducible exact LeO.none _)
      | (with_reducible refine LeO.ite ?_ ?_)
      | (with_reducible refine LeO.bind ?_ (fun _ => ?_))
      | exact ih0 _ _ _ _ _
      | exact impl_NearestLike_1.mono _ _ _ _ _
      | exact LeO.none _
      | refine LeO.ite ?_ ?_
      | refine LeO.bind ?_ (fun _ => ?_)
theorem impl_those_Note_impl_NearestLike_1.mono : ∀ a0 a1 k, LeO (impl_those_Note_impl_NearestLike_1.f k a0 a1) (impl_those_Note_impl_NearestLike_1.f (k + 1) a0 a1) := by
  intro a0 a1 k
  have ih0 := impl_those_Note_impl_NearestLike_1.mono_l k
  unfold impl_those_Note_impl_NearestLike_1.f
  repeat' first
      | (with_reducible exact ih0 _ _ _ _ _)
      | (with_reducible exact impl_NearestLike_1.mono _ _ _ _ _)
      | (with_reducible exact LeO.refl _)
      | (with_reducible exact LeO.none _)
      | (with_reducible refine LeO.ite ?_ ?_)
      | (with_reducible refine LeO.bind ?_ (fun _ => ?_))
      | exact ih0 _ _ _ _ _
      | exact impl_NearestLike_1.mono _ _ _ _ _
      | exact LeO.none _
      | refine LeO.ite ?_ ?_
      | refine LeO.bind ?_ (fun _ => ?_)
noncomputable def impl_those_Note_impl_NearestLike_1.L0 (x5 : List Int) (x8 : List (S66)) (x9 : Int) (x10 : Int) (x39000 : ByteArray) : Option (List Int) := lim fun k => impl_those_Note_impl_NearestLike_1.l0 k x5 x8 x9 x10 x39000
theorem impl_those_Note_impl_NearestLike_1.L0_lim (x5 : List Int) (x8 : List (S66)) (x9 : Int) (x10 : Int) (x39000 : ByteArray) : Lim (fun k => impl_those_Note_impl_NearestLike_1.l0 k x5 x8 x9 x10 x39000) (impl_those_Note_impl_NearestLike_1.L0 x5 x8 x9 x10 x39000) := ⟨fun k => (impl_those_Note_impl_NearestLike_1.mono_l k) x5 x8 x9 x10 x39000, rfl⟩
noncomputable def impl_those_Note_impl_NearestLike_1.F (l0 : List (S66)) (a1_0 : ByteArray) : Option (List Int) := lim fun k => impl_those_Note_impl_NearestLike_1.f k l0 a1_0
theorem impl_those_Note_impl_NearestLike_1.F_lim (l0 : List (S66)) (a1_0 : ByteArray) : Lim (fun k => impl_those_Note_impl_NearestLike_1.f k l0 a1_0) (impl_those_Note_impl_NearestLike_1.F l0 a1_0) := ⟨impl_those_Note_impl_NearestLike_1.mono l0 a1_0, rfl⟩
theorem impl_those_Note_impl_NearestLike_1.L0_eq (x5 : List Int) (x8 : List (S66)) (x9 : Int) (x10 : Int) (x39000 : ByteArray) : impl_those_Note_impl_NearestLike_1.L0 x5 x8 x9 x10 x39000 = (if x10 < x9 then (if 0 ≤ x10 then (if x10 < (x8.length : Int) then ((impl_NearestLike_1.F ((rd_T66 x8 x10).f0) ((rd_T66 x8 x10).f1) ((rd_T66 x8 x10).f2) x39000).bind fun t178 => (if t178 = true then (if x5.length < 17592186044416 then (impl_those_Note_impl_NearestLike_1.L0 (x5 ++ [x10]) x8 x9 (wrap64 (x10 + 1)) x39000) else (none)) else (impl_those_Note_impl_NearestLike_1.L0 x5 x8 x9 (wrap64 (x10 + 1)) x39000))) else (none)) else (none)) else (some x5)) := by
  refine Lim.succ_eq (impl_those_Note_impl_NearestLike_1.L0_lim x5 x8 x9 x10 x39000).mon ?_
  simp only [impl_those_Note_impl_NearestLike_1.l0]
  repeat' first
  | (with_reducible exact impl_those_Note_impl_NearestLike_1.L0_lim _ _ _ _ _)
  | (with_reducible exact impl_NearestLike_1.F_lim _ _ _ _)
  | (with_reducible refine Lim.ite ?_ ?_)
  | (with_reducible refine Lim.bind ?_ (fun _ => ?_))
  | (with_reducible exact Lim.const _)
theorem impl_those_Note_impl_NearestLike_1.F_eq (l0 : List (S66)) (a1_0 : ByteArray) : impl_those_Note_impl_NearestLike_1.F l0 a1_0 = (impl_those_Note_impl_NearestLike_1.L0 ([] : List Int) l0 (l0.length : Int) 0 a1_0) := by
  refine Lim.eq_ ?_
  simp only [impl_those_Note_impl_NearestLike_1.f]
  repeat' first
  | (with_reducible exact impl_those_Note_impl_NearestLike_1.L0_lim _ _ _ _ _)
  | (with_reducible exact impl_NearestLike_1.F_lim _ _ _ _)
  | (with_reducible refine Lim.ite ?_ ?_)
  | (with_reducible refine Lim.bind ?_ (fun _ => ?_))
  | (with_reducible exact Lim.const _)
mutual
def impl_NearestLike.j0 : Nat → List (S66) → Int → Bool → ByteArray → Option (Int × Bool)
  | 0, _, _, _, _ => none
  | k + 1, x0, x2, x25, x183000 => if x25 = true then (some (0, false)) else ((impl_those_Note_impl_NearestLike_1.f k x0 x183000).bind fun t186 => (impl_NearestLike.l0 k x0 x2 (-1) 0 t186 (t186.length : Int) 0))
def impl_NearestLike.l0 : Nat → List (S66) → Int → Int → Int → List Int → Int → Int → Option (Int × Bool)
  | 0, _, _, _, _, _, _, _ => none
  | k + 1, x0, x2, x8, x9, x28, x29, x30 => if x30 < x29 then (if 0 ≤ x30 then (if x30 < (x28.length : Int) then (if 0 ≤ (rd x28 x30) then (if (rd x28 x30) < (x0.length : Int) then (if x8 < 0 then (impl_NearestLike.l0 k x0 x2 (rd x28 x30) (mx (mx 0 (wrap64 (((rd_T66 x0 (rd x28 x30)).f0) - x2))) (wrap64 (x2 - (wrap64 (((rd_T66 x0 (rd x28 x30)).f1) - 1))))) x28 x29 (wrap64 (x30 + 1))) else (if (mx (mx 0 (wrap64 (((rd_T66 x0 (rd x28 x30)).f0) - x2))) (wrap64 (x2 - (wrap64 (((rd_T66 x0 (rd x28 x30)).f1) - 1))))) < x9 then (impl_NearestLike.l0 k x0 x2 (rd x28 x30) (mx (mx 0 (wrap64 (((rd_T66 x0 (rd x28 x30)).f0) - x2))) (wrap64 (x2 - (wrap64 (((rd_T66 x0 (rd x28 x30)).f1) - 1))))) x28 x29 (wrap64 (x30 + 1))) else (impl_NearestLike.l0 k x0 x2 x8 x9 x28 x29 (wrap64 (x30 + 1))))) else (none)) else (none)) else (none)) else (none)) else (if x8 < 0 then (some (0, false)) else (some (x8, true)))
end
def impl_NearestLike.f (k : Nat) (l0 : List (S66)) (a1 : ByteArray) (a2 : Int) : Option (Int × Bool) := (impl_IsTier.f k l0).bind fun t183 => (if t183 = true then ((impl_isGlossPattern.f k a1).bind fun t184 => (if t184 = true then ((impl_isFrame.f a2).bind fun t185 => (impl_NearestLike.j0 k l0 a2 (!t185) a1)) else (impl_NearestLike.j0 k l0 a2 true a1))) else (impl_NearestLike.j0 k l0 a2 true a1))
theorem impl_NearestLike.mono_l : ∀ k, (∀ y0 y1 y2 y3, LeO (impl_NearestLike.j0 k y0 y1 y2 y3) (impl_NearestLike.j0 (k + 1) y0 y1 y2 y3)) ∧ (∀ y0 y1 y2 y3 y4 y5 y6, LeO (impl_NearestLike.l0 k y0 y1 y2 y3 y4 y5 y6) (impl_NearestLike.l0 (k + 1) y0 y1 y2 y3 y4 y5 y6))
  | 0 => ⟨fun _ _ _ _ r h => by simp [impl_NearestLike.j0] at h, fun _ _ _ _ _ _ _ r h => by simp [impl_NearestLike.l0] at h⟩
  | k + 1 => by
    obtain ⟨ih0, ih1⟩ := impl_NearestLike.mono_l k
    refine ⟨?_, ?_⟩
    · intro y0 y1 y2 y3
      unfold impl_NearestLike.j0
      repeat' first
      | (with_reducible exact ih0 _ _ _ _)
      | (with_reducible exact ih1 _ _ _ _ _ _ _)
      | (with_reducible exact impl_IsTier.mono _ _)
      | (with_reducible exact impl_isGlossPattern.mono _ _)
      | (with_reducible exact impl_those_Note_impl_NearestLike_1.mono _ _ _)
      | (with_reducible exact LeO.refl _)
      | (with_reducible exact LeO.none _)
      | (with_reducible refine LeO.ite ?_ ?_)
      | (with_reducible refine LeO.bind ?_ (fun _ => ?_))
      | exact ih0 _ _ _ _
      | exact ih1 _ _ _ _ _ _ _
      | exact impl_IsTier.mono _ _
      | exact impl_isGlossPattern.mono _ _
      | exact impl_those_Note_impl_NearestLike_1.mono _ _ _
      | exact LeO.none _
      | refine LeO.ite ?_ ?_
      | refine LeO.bind ?_ (fun _ => ?_)
    · intro y0 y1 y2 y3 y4 y5 y6
      unfold impl_NearestLike.l0
      repeat' first
      | (with_reducible exact ih0 _ _ _ _)
      | (with_reducible exact ih1 _ _ _ _ _ _ _)
      | (with_reducible exact impl_IsTier.mono _ _)
      | (with_reducible exact impl_isGlossPattern.mono _ _)
      | (with_reducible exact impl_those_Note_impl_NearestLike_1.mono _ _ _)
      | (with_reducible exact LeO.refl _)
      | (with_reducible exact LeO.none _)
      | (with_reducible refine LeO.ite ?_ ?_)
      | (with_reducible refine LeO.bind ?_ (fun _ => ?_))
      | exact ih0 _ _ _ _
      | exact ih1 _ _ _ _ _ _ _
      | exact impl_IsTier.mono _ _
      | exact impl_isGlossPattern.mono _ _
      | exact impl_those_Note_impl_NearestLike_1.mono _ _ _
      | exact LeO.none _
      | refine LeO.ite ?_ ?_
      | refine LeO.bind ?_ (fun _ => ?_)
theorem impl_NearestLike.mono : ∀ a0 a1 a2 k, LeO (impl_NearestLike.f k a0 a1 a2) (impl_NearestLike.f (k + 1) a0 a1 a2) := by
  intro a0 a1 a2 k
  obtain ⟨ih0, ih1⟩ := impl_NearestLike.mono_l k
  unfold impl_NearestLike.f
  repeat' first
      | (with_reducible exact ih0 _ _ _ _)
      | (with_reducible exact ih1 _ _ _ _ _ _ _)
      | (with_reducible exact impl_IsTier.mono _ _)
      | (with_reducible exact impl_isGlossPattern.mono _ _)
      | (with_reducible exact impl_those_Note_impl_NearestLike_1.mono _ _ _)
      | (with_reducible exact LeO.refl _)
      | (with_reducible exact LeO.none _)
      | (with_reducible refine LeO.ite ?_ ?_)
      | (with_reducible refine LeO.bind ?_ (fun _ => ?_))
      | exact ih0 _ _ _ _
      | exact ih1 _ _ _ _ _ _ _
      | exact impl_IsTier.mono _ _
      | exact impl_isGlossPattern.mono _ _
      | exact impl_those_Note_impl_NearestLike_1.mono _ _ _
      | exact LeO.none _
      | refine LeO.ite ?_ ?_
      | refine LeO.bind ?_ (fun _ => ?_)
noncomputable def impl_NearestLike.J0 (x0 : List (S66)) (x2 : Int) (x25 : Bool) (x183000 : ByteArray) : Option (Int × Bool) := lim fun k => impl_NearestLike.j0 k x0 x2 x25 x183000
theorem impl_NearestLike.J0_lim (x0 : List (S66)) (x2 : Int) (x25 : Bool) (x183000 : ByteArray) : Lim (fun k => impl_NearestLike.j0 k x0 x2 x25 x183000) (impl_NearestLike.J0 x0 x2 x25 x183000) := ⟨fun k => (impl_NearestLike.mono_l k).1 x0 x2 x25 x183000, rfl⟩
noncomputable def impl_NearestLike.L0 (x0 : List (S66)) (x2 : Int) (x8 : Int) (x9 : Int) (x28 : List Int) (x29 : Int) (x30 : Int) : Option (Int × Bool) := lim fun k => impl_NearestLike.l0 k x0 x2 x8 x9 x28 x29 x30
theorem impl_NearestLike.L0_lim (x0 : List (S66)) (x2 : Int) (x8 : Int) (x9 : Int) (x28 : List Int) (x29 : Int) (x30 : Int) : Lim (fun k => impl_NearestLike.l0 k x0 x2 x8 x9 x28 x29 x30) (impl_NearestLike.L0 x0 x2 x8 x9 x28 x29 x30) := ⟨fun k => (impl_NearestLike.mono_l k).2 x0 x2 x8 x9 x28 x29 x30, rfl⟩
noncomputable def impl_NearestLike.F (l0 : List (S66)) (a1 : ByteArray) (a2 : Int) : Option (Int × Bool) := lim fun k => impl_NearestLike.f k l0 a1 a2
theorem impl_NearestLike.F_lim (l0 : List (S66)) (a1 : ByteArray) (a2 : Int) : Lim (fun k => impl_NearestLike.f k l0 a1 a2) (impl_NearestLike.F l0 a1 a2) := ⟨impl_NearestLike.mono l0 a1 a2, rfl⟩
theorem impl_NearestLike.J0_eq (x0 : List (S66)) (x2 : Int) (x25 : Bool) (x183000 : ByteArray) : impl_NearestLike.J0 x0 x2 x25 x183000 = (if x25 = true then (some (0, false)) else ((impl_those_Note_impl_NearestLike_1.F x0 x183000).bind fun t186 => (impl_NearestLike.L0 x0 x2 (-1) 0 t186 (t186.length : Int) 0))) := by
  refine Lim.succ_eq (impl_NearestLike.J0_lim x0 x2 x25 x183000).mon ?_
  simp only [impl_NearestLike.j0]
  repeat' first
  | (with_reducible exact impl_NearestLike.J0_lim _ _ _ _)
  | (with_reducible exact impl_NearestLike.L0_lim _ _ _ _ _ _ _)
  | (with_reducible exact impl_IsTier.F_lim _)
  | (with_reducible exact impl_isGlossPattern.F_lim _)
  | (with_reducible exact impl_those_Note_impl_NearestLike_1.F_lim _ _)
  | (with_reducible refine Lim.ite ?_ ?_)
  | (with_reducible refine Lim.bind ?_ (fun _ => ?_))
  | (with_reducible exact Lim.const _)
theorem impl_NearestLike.L0_eq (x0 : List (S66)) (x2 : Int) (x8 : Int) (x9 : Int) (x28 : List Int) (x29 : Int) (x30 : Int) : impl_NearestLike.L0 x0 x2 x8 x9 x28 x29 x30 = (if x30 < x29 then (if 0 ≤ x30 then (if x30 < (x28.length : Int) then (if 0 ≤ (rd x28 x30) then (if (rd x28 x30) < (x0.length : Int) then (if x8 < 0 then (impl_NearestLike.L0 x0 x2 (rd x28 x30) (mx (mx 0 (wrap64 (((rd_T66 x0 (rd x28 x30)).f0) - x2))) (wrap64 (x2 - (wrap64 (((rd_T66 x0 (rd x28 x30)).f1) - 1))))) x28 x29 (wrap64 (x30 + 1))) else (if (mx (mx 0 (wrap64 (((rd_T66 x0 (rd x28 x30)).f0) - x2))) (wrap64 (x2 - (wrap64 (((rd_T66 x0 (rd x28 x30)).f1) - 1))))) < x9 then (impl_NearestLike.L0 x0 x2 (rd x28 x30) (mx (mx 0 (wrap64 (((rd_T66 x0 (rd x28 x30)).f0) - x2))) (wrap64 (x2 - (wrap64 (((rd_T66 x0 (rd x28 x30)).f1) - 1))))) x28 x29 (wrap64 (x30 + 1))) else (impl_NearestLike.L0 x0 x2 x8 x9 x28 x29 (wrap64 (x30 + 1))))) else (none)) else (none)) else (none)) else (none)) else (if x8 < 0 then (some (0, false)) else (some (x8, true)))) := by
  refine Lim.succ_eq (impl_NearestLike.L0_lim x0 x2 x8 x9 x28 x29 x30).mon ?_
  simp only [impl_NearestLike.l0]
  repeat' first
  | (with_reducible exact impl_NearestLike.J0_lim _ _ _ _)
  | (with_reducible exact impl_NearestLike.L0_lim _ _ _ _ _ _ _)
  | (with_reducible exact impl_IsTier.F_lim _)
  | (with_reducible exact impl_isGlossPattern.F_lim _)
  | (with_reducible exact impl_those_Note_impl_NearestLike_1.F_lim _ _)
  | (with_reducible refine Lim.ite ?_ ?_)
  | (with_reducible refine Lim.bind ?_ (fun _ => ?_))
  | (with_reducible exact Lim.const _)
theorem impl_NearestLike.F_eq (l0 : List (S66)) (a1 : ByteArray) (a2 : Int) : impl_NearestLike.F l0 a1 a2 = ((impl_IsTier.F l0).bind fun t183 => (if t183 = true then ((impl_isGlossPattern.F a1).bind fun t184 => (if t184 = true then ((impl_isFrame.f a2).bind fun t185 => (impl_NearestLike.J0 l0 a2 (!t185) a1)) else (impl_NearestLike.J0 l0 a2 true a1))) else (impl_NearestLike.J0 l0 a2 true a1))) := by
  refine Lim.eq_ ?_
  simp only [impl_NearestLike.f]
  repeat' first
  | (with_reducible exact impl_NearestLike.J0_lim _ _ _ _)
  | (with_reducible exact impl_NearestLike.L0_lim _ _ _ _ _ _ _)
  | (with_reducible exact impl_IsTier.F_lim _)
  | (with_reducible exact impl_isGlossPattern.F_lim _)
  | (with_reducible exact impl_those_Note_impl_NearestLike_1.F_lim _ _)
  | (with_reducible refine Lim.ite ?_ ?_)
  | (with_reducible refine Lim.bind ?_ (fun _ => ?_))
  | (with_reducible exact Lim.const _)
def laws_eqNote.f (a0_0 : Int) (a0_1 : Int) (a0_2 : ByteArray) (a1_0 : Int) (a1_1 : Int) (a1_2 : ByteArray) : Option (Bool) := if a0_0 = a1_0 then (if a0_1 = a1_1 then (if a0_2.toList = a1_2.toList then (some true) else (some false)) else (some false)) else (some false)
def laws_eqNoteS.l0 : Nat → List (S66) → List (S66) → Int → Option (Bool)
  | 0, _, _, _ => none
  | k + 1, x0, x1, x5 => if x5 < (x0.length : Int) then (if 0 ≤ x5 then (if x5 < (x1.length : Int) then ((laws_eqNote.f ((rd_T66 x0 x5).f0) ((rd_T66 x0 x5).f1) ((rd_T66 x0 x5).f2) ((rd_T66 x1 x5).f0) ((rd_T66 x1 x5).f1) ((rd_T66 x1 x5).f2)).bind fun t196 => (if t196 = true then (laws_eqNoteS.l0 k x0 x1 (wrap64 (x5 + 1))) else (some false))) else (none)) else (none)) else (some true)
def laws_eqNoteS.f (k : Nat) (l0 : List (S66)) (l1 : List (S66)) : Option (Bool) := if (l0.length : Int) = (l1.length : Int) then (laws_eqNoteS.l0 k l0 l1 0) else (some false)
theorem laws_eqNoteS.mono_l : ∀ k, (∀ y0 y1 y2, LeO (laws_eqNoteS.l0 k y0 y1 y2) (laws_eqNoteS.l0 (k + 1) y0 y1 y2))
  | 0 => fun _ _ _ r h => by simp [laws_eqNoteS.l0] at h
  | k + 1 => by
    have ih0 := laws_eqNoteS.mono_l k
    · intro y0 y1 y2
      unfold laws_eqNoteS.l0
      repeat' first
      | (with_reducible exact ih0 _ _ _)
      | (with_reducible exact LeO.refl _)
      | (with_reducible exact LeO.none _)
      | (with_reducible refine LeO.ite ?_ ?_)
      | (with_reducible refine LeO.bind ?_ (fun _ => ?_))
      | exact ih0 _ _ _
      | exact LeO.none _
      | refine LeO.ite ?_ ?_
      | refine LeO.bind ?_ (fun _ => ?_)
theorem laws_eqNoteS.mono : ∀ a0 a1 k, LeO (laws_eqNoteS.f k a0 a1) (laws_eqNoteS.f (k + 1) a0 a1) := by
  intro a0 a1 k
  have ih0 := laws_eqNoteS.mono_l k
  unfold laws_eqNoteS.f
  repeat' first
      | (with_reducible exact ih0 _ _ _)
      | (with_reducible exact LeO.refl _)
      | (with_reducible exact LeO.none _)
      | (with_reducible refine LeO.ite ?_ ?_)
      | (with_reducible refine LeO.bind ?_ (fun _ => ?_))
      | exact ih0 _ _ _
      | exact LeO.none _
      | refine LeO.ite ?_ ?_
      | refine LeO.bind ?_ (fun _ => ?_)
noncomputable def laws_eqNoteS.L0 (x0 : List (S66)) (x1 : List (S66)) (x5 : Int) : Option (Bool) := lim fun k => laws_eqNoteS.l0 k x0 x1 x5
theorem laws_eqNoteS.L0_lim (x0 : List (S66)) (x1 : List (S66)) (x5 : Int) : Lim (fun k => laws_eqNoteS.l0 k x0 x1 x5) (laws_eqNoteS.L0 x0 x1 x5) := ⟨fun k => (laws_eqNoteS.mono_l k) x0 x1 x5, rfl⟩
noncomputable def laws_eqNoteS.F (l0 : List (S66)) (l1 : List (S66)) : Option (Bool) := lim fun k => laws_eqNoteS.f k l0 l1
theorem laws_eqNoteS.F_lim (l0 : List (S66)) (l1 : List (S66)) : Lim (fun k => laws_eqNoteS.f k l0 l1) (laws_eqNoteS.F l0 l1) := ⟨laws_eqNoteS.mono l0 l1, rfl⟩
theorem laws_eqNoteS.L0_eq (x0 : List (S66)) (x1 : List (S66)) (x5 : Int) : laws_eqNoteS.L0 x0 x1 x5 = (if x5 < (x0.length : Int) then (if 0 ≤ x5 then (if x5 < (x1.length : Int) then ((laws_eqNote.f ((rd_T66 x0 x5).f0) ((rd_T66 x0 x5).f1) ((rd_T66 x0 x5).f2) ((rd_T66 x1 x5).f0) ((rd_T66 x1 x5).f1) ((rd_T66 x1 x5).f2)).bind fun t196 => (if t196 = true then (laws_eqNoteS.L0 x0 x1 (wrap64 (x5 + 1))) else (some false))) else (none)) else (none)) else (some true)) := by
  refine Lim.succ_eq (laws_eqNoteS.L0_lim x0 x1 x5).mon ?_
  simp only [laws_eqNoteS.l0]
  repeat' first
  | (with_reducible exact laws_eqNoteS.L0_lim _ _ _)
  | (with_reducible refine Lim.ite ?_ ?_)
  | (with_reducible refine Lim.bind ?_ (fun _ => ?_))
  | (with_reducible exact Lim.const _)
theorem laws_eqNoteS.F_eq (l0 : List (S66)) (l1 : List (S66)) : laws_eqNoteS.F l0 l1 = (if (l0.length : Int) = (l1.length : Int) then (laws_eqNoteS.L0 l0 l1 0) else (some false)) := by
  refine Lim.eq_ ?_
  simp only [laws_eqNoteS.f]
  repeat' first
  | (with_reducible exact laws_eqNoteS.L0_lim _ _ _)
  | (with_reducible refine Lim.ite ?_ ?_)
  | (with_reducible refine Lim.bind ?_ (fun _ => ?_))
  | (with_reducible exact Lim.const _)
def laws_FnExactNearestLike.j0 : Nat → List (S81) → List (S66) → Bool → Option (Bool)
  | 0, _, _, _ => none
  | k + 1, x0, x10, x45 => if x45 = true then (some false) else ((laws_toNoteS.f k x0).bind fun t208 => ((laws_eqNoteS.f k x10 t208).bind fun t211 => (if t211 = true then (some true) else (some false))))
def laws_FnExactNearestLike.f (k : Nat) (l0 : List (S81)) (a1 : ByteArray) (a2 : Int) : Option (Bool) := if (a1.size : Int) > 1048576 then (some true) else ((laws_szNoteS.f k l0 1048576).bind fun t197 => (if t197 < 0 then (some true) else ((laws_toNoteS.f k l0).bind fun t198 => ((spec_NearestLike.f k t198 a1 a2).bind fun bt201 => ((laws_toNoteS.f k l0).bind fun t203 => ((impl_NearestLike.f k t203 a1 a2).bind fun bt206 => (if bt206.1 = bt201.1 then (laws_FnExactNearestLike.j0 k l0 t203 (bt206.2 != bt201.2)) else (laws_FnExactNearestLike.j0 k l0 t203 true))))))))
theorem laws_FnExactNearestLike.mono_l : ∀ k, (∀ y0 y1 y2, LeO (laws_FnExactNearestLike.j0 k y0 y1 y2) (laws_FnExactNearestLike.j0 (k + 1) y0 y1 y2))
  | 0 => fun _ _ _ r h => by simp [laws_FnExactNearestLike.j0] at h
  | k + 1 => by
    have ih0 := laws_FnExactNearestLike.mono_l k
    · intro y0 y1 y2
      unfold laws_FnExactNearestLike.j0
      repeat' first
      | (with_reducible exact ih0 _ _ _)
      | (with_reducible exact impl_NearestLike.mono _ _ _ _)
      | (with_reducible exact laws_eqNoteS.mono _ _ _)
      | (with_reducible exact laws_szNoteS.mono _ _ _)
      | (with_reducible exact laws_toNoteS.mono _ _)
      | (with_reducible exact spec_NearestLike.mono _ _ _ _)
      | (with_reducible exact LeO.refl _)
      | (with_reducible exact LeO.none _)
      | (with_reducible refine LeO.ite ?_ ?_)
      | (with_reducible refine LeO.bind ?_ (fun _ => ?_))
      | exact ih0 _ _ _
      | exact impl_NearestLike.mono _ _ _ _
      | exact laws_eqNoteS.mono _ _ _
      | exact laws_szNoteS.mono _ _ _
      | exact laws_toNoteS.mono _ _
      | exact spec_NearestLike.mono _ _ _ _
      | exact LeO.none _
      | refine LeO.ite ?_ ?_
      | refine LeO.bind ?_ (fun _ => ?_)
theorem laws_FnExactNearestLike.mono : ∀ a0 a1 a2 k, LeO (laws_FnExactNearestLike.f k a0 a1 a2) (laws_FnExactNearestLike.f (k + 1) a0 a1 a2) := by
  intro a0 a1 a2 k
  have ih0 := laws_FnExactNearestLike.mono_l k
  unfold laws_FnExactNearestLike.f
  repeat' first
      | (with_reducible exact ih0 _ _ _)
      | (with_reducible exact impl_NearestLike.mono _ _ _ _)
      | (with_reducible exact laws_eqNoteS.mono _ _ _)
      | (with_reducible exact laws_szNoteS.mono _ _ _)
      | (with_reducible exact laws_toNoteS.mono _ _)
      | (with_reducible exact spec_NearestLike.mono _ _ _ _)
      | (with_reducible exact LeO.refl _)
      | (with_reducible exact LeO.none _)
      | (with_reducible refine LeO.ite ?_ ?_)
      | (with_reducible refine LeO.bind ?_ (fun _ => ?_))
      | exact ih0 _ _ _
      | exact impl_NearestLike.mono _ _ _ _
      | exact laws_eqNoteS.mono _ _ _
      | exact laws_szNoteS.mono _ _ _
      | exact laws_toNoteS.mono _ _
      | exact spec_NearestLike.mono _ _ _ _
      | exact LeO.none _
      | refine LeO.ite ?_ ?_
      | refine LeO.bind ?_ (fun _ => ?_)
noncomputable def laws_FnExactNearestLike.J0 (x0 : List (S81)) (x10 : List (S66)) (x45 : Bool) : Option (Bool) := lim fun k => laws_FnExactNearestLike.j0 k x0 x10 x45
theorem laws_FnExactNearestLike.J0_lim (x0 : List (S81)) (x10 : List (S66)) (x45 : Bool) : Lim (fun k => laws_FnExactNearestLike.j0 k x0 x10 x45) (laws_FnExactNearestLike.J0 x0 x10 x45) := ⟨fun k => (laws_FnExactNearestLike.mono_l k) x0 x10 x45, rfl⟩
noncomputable def laws_FnExactNearestLike.F (l0 : List (S81)) (a1 : ByteArray) (a2 : Int) : Option (Bool) := lim fun k => laws_FnExactNearestLike.f k l0 a1 a2
theorem laws_FnExactNearestLike.F_lim (l0 : List (S81)) (a1 : ByteArray) (a2 : Int) : Lim (fun k => laws_FnExactNearestLike.f k l0 a1 a2) (laws_FnExactNearestLike.F l0 a1 a2) := ⟨laws_FnExactNearestLike.mono l0 a1 a2, rfl⟩
theorem laws_FnExactNearestLike.J0_eq (x0 : List (S81)) (x10 : List (S66)) (x45 : Bool) : laws_FnExactNearestLike.J0 x0 x10 x45 = (if x45 = true then (some false) else ((laws_toNoteS.F x0).bind fun t208 => ((laws_eqNoteS.F x10 t208).bind fun t211 => (if t211 = true then (some true) else (some false))))) := by
  refine Lim.succ_eq (laws_FnExactNearestLike.J0_lim x0 x10 x45).mon ?_
  simp only [laws_FnExactNearestLike.j0]
  repeat' first
  | (with_reducible exact laws_FnExactNearestLike.J0_lim _ _ _)
  | (with_reducible exact impl_NearestLike.F_lim _ _ _)
  | (with_reducible exact laws_eqNoteS.F_lim _ _)
  | (with_reducible exact laws_szNoteS.F_lim _ _)
  | (with_reducible exact laws_toNoteS.F_lim _)
  | (with_reducible exact spec_NearestLike.F_lim _ _ _)
  | (with_reducible refine Lim.ite ?_ ?_)
  | (with_reducible refine Lim.bind ?_ (fun _ => ?_))
  | (with_reducible exact Lim.const _)
theorem laws_FnExactNearestLike.F_eq (l0 : List (S81)) (a1 : ByteArray) (a2 : Int) : laws_FnExactNearestLike.F l0 a1 a2 = (if (a1.size : Int) > 1048576 then (some true) else ((laws_szNoteS.F l0 1048576).bind fun t197 => (if t197 < 0 then (some true) else ((laws_toNoteS.F l0).bind fun t198 => ((spec_NearestLike.F t198 a1 a2).bind fun bt201 => ((laws_toNoteS.F l0).bind fun t203 => ((impl_NearestLike.F t203 a1 a2).bind fun bt206 => (if bt206.1 = bt201.1 then (laws_FnExactNearestLike.J0 l0 t203 (bt206.2 != bt201.2)) else (laws_FnExactNearestLike.J0 l0 t203 true))))))))) := by
  refine Lim.eq_ ?_
  simp only [laws_FnExactNearestLike.f]
  repeat' first
  | (with_reducible exact laws_FnExactNearestLike.J0_lim _ _ _)
  | (with_reducible exact impl_NearestLike.F_lim _ _ _)
  | (with_reducible exact laws_eqNoteS.F_lim _ _)
  | (with_reducible exact laws_szNoteS.F_lim _ _)
  | (with_reducible exact laws_toNoteS.F_lim _)
  | (with_reducible exact spec_NearestLike.F_lim _ _ _)
  | (with_reducible refine Lim.ite ?_ ?_)
  | (with_reducible refine Lim.bind ?_ (fun _ => ?_))
  | (with_reducible exact Lim.const _)
def Wf81 (x : S81) : Prop := (Lit.int .i64 x.f0).wf = true ∧ (Lit.int .i64 x.f1).wf = true ∧ x.f2.size ≤ 9223372036854775807
def laws_FnExactNearestLike.Pure : Prop := ∀ (l0 : List (S81)) (a1 : ByteArray) (a2 : Int), (l0.length ≤ 9223372036854775807 ∧ ∀ x ∈ l0, Wf81 x) → (a1.size ≤ 9223372036854775807) → ((Lit.int .i64 a2).wf = true) → ∃ k, laws_FnExactNearestLike.f k l0 a1 a2 = some true
end Go.Proofs.Ytnmgcphajacdnaa.PFnExactNearestLike
