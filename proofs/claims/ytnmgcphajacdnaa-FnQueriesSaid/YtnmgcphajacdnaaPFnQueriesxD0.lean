/- Written by a program of this claim's author, out of the loaded program as Lean prints it: the functions as Lean functions, and that the calls answer so. -/
import Derived.Test.YtnmgcphajacdnaaPFnQueriesx0
namespace Go.Proofs.Ytnmgcphajacdnaa.PFnQueries
open Go.RowKit Go.Proofs.YtnmgcphajacdnaaW.PrintWords Go.Proofs.YtnmgcphajacdnaaW.PrintLast Go.Proofs.YtnmgcphajacdnaaW.PrintMore
attribute [local go_sem] max2_int min2_int max_two min_two max_three min_three max_four min_four   -- for this text's walks alone
set_option linter.unusedVariables false
set_option linter.unusedSimpArgs false

def spec_l1In.f (a0 : Int) (a1 : Int) (a2 : Int) : Option (Bool) := if a0 ≥ a1 then (some (decide (a0 ≤ a2))) else (some false)
def spec_tiFrame.f (a0 : Int) : Option (Bool) := (spec_l1In.f a0 0 99999).bind fun t101 => (some t101)
def spec_fsWord.l0 : Nat → ByteArray → Int → Option (Bool)
  | 0, _, _ => none
  | k + 1, x0, x3 => if x3 < (x0.size : Int) then (if 0 ≤ x3 then (if (bt x0 x3) < 65 then (some false) else (if (bt x0 x3) > 90 then (some false) else (spec_fsWord.l0 k x0 (wrap64 (x3 + 1))))) else (none)) else ((spec_l1In.f (x0.size : Int) 1 8).bind fun t102 => (some t102))
def spec_fsWord.f (k : Nat) (a0 : ByteArray) : Option (Bool) := spec_fsWord.l0 k a0 0
theorem spec_fsWord.mono_l : ∀ k, (∀ y0 y1, LeO (spec_fsWord.l0 k y0 y1) (spec_fsWord.l0 (k + 1) y0 y1))
  | 0 => fun _ _ r h => by simp [spec_fsWord.l0] at h
  | k + 1 => by
    have ih0 := spec_fsWord.mono_l k
    · intro y0 y1
      unfold spec_fsWord.l0
      repeat' first
      | (with_reducible exact ih0 _ _)
      | (with_reducible exact LeO.refl _)
      | (with_reducible exact LeO.none _)
      | (with_reducible refine LeO.ite ?_ ?_)
      | (with_reducible refine LeO.bind ?_ (fun _ => ?_))
theorem spec_fsWord.mono : ∀ a0 k, LeO (spec_fsWord.f k a0) (spec_fsWord.f (k + 1) a0) := by
  intro a0 k
  have ih0 := spec_fsWord.mono_l k
  unfold spec_fsWord.f
  repeat' first
      | (with_reducible exact ih0 _ _)
      | (with_reducible exact LeO.refl _)
      | (with_reducible exact LeO.none _)
      | (with_reducible refine LeO.ite ?_ ?_)
      | (with_reducible refine LeO.bind ?_ (fun _ => ?_))
noncomputable def spec_fsWord.L0 (x0 : ByteArray) (x3 : Int) : Option (Bool) := lim fun k => spec_fsWord.l0 k x0 x3
theorem spec_fsWord.L0_lim (x0 : ByteArray) (x3 : Int) : Lim (fun k => spec_fsWord.l0 k x0 x3) (spec_fsWord.L0 x0 x3) := ⟨fun k => (spec_fsWord.mono_l k) x0 x3, rfl⟩
noncomputable def spec_fsWord.F (a0 : ByteArray) : Option (Bool) := lim fun k => spec_fsWord.f k a0
theorem spec_fsWord.F_lim (a0 : ByteArray) : Lim (fun k => spec_fsWord.f k a0) (spec_fsWord.F a0) := ⟨spec_fsWord.mono a0, rfl⟩
theorem spec_fsWord.L0_eq (x0 : ByteArray) (x3 : Int) : spec_fsWord.L0 x0 x3 = (if x3 < (x0.size : Int) then (if 0 ≤ x3 then (if (bt x0 x3) < 65 then (some false) else (if (bt x0 x3) > 90 then (some false) else (spec_fsWord.L0 x0 (wrap64 (x3 + 1))))) else (none)) else ((spec_l1In.f (x0.size : Int) 1 8).bind fun t102 => (some t102))) := by
  refine Lim.succ_eq (spec_fsWord.L0_lim x0 x3).mon ?_
  simp only [spec_fsWord.l0]
  repeat' first
  | (with_reducible exact spec_fsWord.L0_lim _ _)
  | (with_reducible refine Lim.ite ?_ ?_)
  | (with_reducible refine Lim.bind ?_ (fun _ => ?_))
  | (with_reducible exact Lim.const _)
theorem spec_fsWord.F_eq (a0 : ByteArray) : spec_fsWord.F a0 = (spec_fsWord.L0 a0 0) := by
  refine Lim.eq_ ?_
  simp only [spec_fsWord.f]
  repeat' first
  | (with_reducible exact spec_fsWord.L0_lim _ _)
  | (with_reducible refine Lim.ite ?_ ?_)
  | (with_reducible refine Lim.bind ?_ (fun _ => ?_))
  | (with_reducible exact Lim.const _)
def spec_tiNote.f (k : Nat) (a0_0 : Int) (a0_1 : Int) (a0_2 : ByteArray) : Option (Bool) := (spec_tiFrame.f a0_0).bind fun t104 => (if t104 = true then ((spec_tiFrame.f a0_1).bind fun t105 => (if t105 = true then (if a0_0 < a0_1 then ((spec_fsWord.f k a0_2).bind fun t106 => (some t106)) else (some false)) else (some false))) else (some false))
theorem spec_tiNote.mono : ∀ a0 a1 a2 k, LeO (spec_tiNote.f k a0 a1 a2) (spec_tiNote.f (k + 1) a0 a1 a2) := by
  intro a0 a1 a2 k
  unfold spec_tiNote.f
  repeat' first
      | (with_reducible exact spec_fsWord.mono _ _)
      | (with_reducible exact LeO.refl _)
      | (with_reducible exact LeO.none _)
      | (with_reducible refine LeO.ite ?_ ?_)
      | (with_reducible refine LeO.bind ?_ (fun _ => ?_))
noncomputable def spec_tiNote.F (a0_0 : Int) (a0_1 : Int) (a0_2 : ByteArray) : Option (Bool) := lim fun k => spec_tiNote.f k a0_0 a0_1 a0_2
theorem spec_tiNote.F_lim (a0_0 : Int) (a0_1 : Int) (a0_2 : ByteArray) : Lim (fun k => spec_tiNote.f k a0_0 a0_1 a0_2) (spec_tiNote.F a0_0 a0_1 a0_2) := ⟨spec_tiNote.mono a0_0 a0_1 a0_2, rfl⟩
theorem spec_tiNote.F_eq (a0_0 : Int) (a0_1 : Int) (a0_2 : ByteArray) : spec_tiNote.F a0_0 a0_1 a0_2 = ((spec_tiFrame.f a0_0).bind fun t104 => (if t104 = true then ((spec_tiFrame.f a0_1).bind fun t105 => (if t105 = true then (if a0_0 < a0_1 then ((spec_fsWord.F a0_2).bind fun t106 => (some t106)) else (some false)) else (some false))) else (some false))) := by
  refine Lim.eq_ ?_
  simp only [spec_tiNote.f]
  repeat' first
  | (with_reducible exact spec_fsWord.F_lim _)
  | (with_reducible refine Lim.ite ?_ ?_)
  | (with_reducible refine Lim.bind ?_ (fun _ => ?_))
  | (with_reducible exact Lim.const _)
def spec_tiGood.l0 : Nat → List (S66) → List (S66) → Int → Int → Option (Bool)
  | 0, _, _, _, _ => none
  | k + 1, x0, x5, x6, x7 => if x7 < x6 then (if 0 ≤ x7 then (if x7 < (x5.length : Int) then ((spec_tiNote.f k ((rd_T66 x5 x7).f0) ((rd_T66 x5 x7).f1) ((rd_T66 x5 x7).f2)).bind fun t109 => (if t109 = true then (if x7 > 0 then (if 0 ≤ (wrap64 (x7 - 1)) then (if (wrap64 (x7 - 1)) < (x0.length : Int) then (if ((rd_T66 x0 (wrap64 (x7 - 1))).f1) > ((rd_T66 x5 x7).f0) then (some false) else (spec_tiGood.l0 k x0 x5 x6 (wrap64 (x7 + 1)))) else (none)) else (none)) else (spec_tiGood.l0 k x0 x5 x6 (wrap64 (x7 + 1)))) else (some false))) else (none)) else (none)) else (some (decide ((x0.length : Int) ≤ 40)))
def spec_tiGood.f (k : Nat) (l0 : List (S66)) : Option (Bool) := spec_tiGood.l0 k l0 l0 (l0.length : Int) 0
theorem spec_tiGood.mono_l : ∀ k, (∀ y0 y1 y2 y3, LeO (spec_tiGood.l0 k y0 y1 y2 y3) (spec_tiGood.l0 (k + 1) y0 y1 y2 y3))
  | 0 => fun _ _ _ _ r h => by simp [spec_tiGood.l0] at h
  | k + 1 => by
    have ih0 := spec_tiGood.mono_l k
    · intro y0 y1 y2 y3
      unfold spec_tiGood.l0
      repeat' first
      | (with_reducible exact ih0 _ _ _ _)
      | (with_reducible exact spec_tiNote.mono _ _ _ _)
      | (with_reducible exact LeO.refl _)
      | (with_reducible exact LeO.none _)
      | (with_reducible refine LeO.ite ?_ ?_)
      | (with_reducible refine LeO.bind ?_ (fun _ => ?_))
theorem spec_tiGood.mono : ∀ a0 k, LeO (spec_tiGood.f k a0) (spec_tiGood.f (k + 1) a0) := by
  intro a0 k
  have ih0 := spec_tiGood.mono_l k
  unfold spec_tiGood.f
  repeat' first
      | (with_reducible exact ih0 _ _ _ _)
      | (with_reducible exact spec_tiNote.mono _ _ _ _)
      | (with_reducible exact LeO.refl _)
      | (with_reducible exact LeO.none _)
      | (with_reducible refine LeO.ite ?_ ?_)
      | (with_reducible refine LeO.bind ?_ (fun _ => ?_))
noncomputable def spec_tiGood.L0 (x0 : List (S66)) (x5 : List (S66)) (x6 : Int) (x7 : Int) : Option (Bool) := lim fun k => spec_tiGood.l0 k x0 x5 x6 x7
theorem spec_tiGood.L0_lim (x0 : List (S66)) (x5 : List (S66)) (x6 : Int) (x7 : Int) : Lim (fun k => spec_tiGood.l0 k x0 x5 x6 x7) (spec_tiGood.L0 x0 x5 x6 x7) := ⟨fun k => (spec_tiGood.mono_l k) x0 x5 x6 x7, rfl⟩
noncomputable def spec_tiGood.F (l0 : List (S66)) : Option (Bool) := lim fun k => spec_tiGood.f k l0
theorem spec_tiGood.F_lim (l0 : List (S66)) : Lim (fun k => spec_tiGood.f k l0) (spec_tiGood.F l0) := ⟨spec_tiGood.mono l0, rfl⟩
theorem spec_tiGood.L0_eq (x0 : List (S66)) (x5 : List (S66)) (x6 : Int) (x7 : Int) : spec_tiGood.L0 x0 x5 x6 x7 = (if x7 < x6 then (if 0 ≤ x7 then (if x7 < (x5.length : Int) then ((spec_tiNote.F ((rd_T66 x5 x7).f0) ((rd_T66 x5 x7).f1) ((rd_T66 x5 x7).f2)).bind fun t109 => (if t109 = true then (if x7 > 0 then (if 0 ≤ (wrap64 (x7 - 1)) then (if (wrap64 (x7 - 1)) < (x0.length : Int) then (if ((rd_T66 x0 (wrap64 (x7 - 1))).f1) > ((rd_T66 x5 x7).f0) then (some false) else (spec_tiGood.L0 x0 x5 x6 (wrap64 (x7 + 1)))) else (none)) else (none)) else (spec_tiGood.L0 x0 x5 x6 (wrap64 (x7 + 1)))) else (some false))) else (none)) else (none)) else (some (decide ((x0.length : Int) ≤ 40)))) := by
  refine Lim.succ_eq (spec_tiGood.L0_lim x0 x5 x6 x7).mon ?_
  simp only [spec_tiGood.l0]
  repeat' first
  | (with_reducible exact spec_tiGood.L0_lim _ _ _ _)
  | (with_reducible exact spec_tiNote.F_lim _ _ _)
  | (with_reducible refine Lim.ite ?_ ?_)
  | (with_reducible refine Lim.bind ?_ (fun _ => ?_))
  | (with_reducible exact Lim.const _)
theorem spec_tiGood.F_eq (l0 : List (S66)) : spec_tiGood.F l0 = (spec_tiGood.L0 l0 l0 (l0.length : Int) 0) := by
  refine Lim.eq_ ?_
  simp only [spec_tiGood.f]
  repeat' first
  | (with_reducible exact spec_tiGood.L0_lim _ _ _ _)
  | (with_reducible exact spec_tiNote.F_lim _ _ _)
  | (with_reducible refine Lim.ite ?_ ?_)
  | (with_reducible refine Lim.bind ?_ (fun _ => ?_))
  | (with_reducible exact Lim.const _)
def spec_quPattern.l0 : Nat → ByteArray → Int → Option (Bool)
  | 0, _, _ => none
  | k + 1, x0, x3 => if x3 < (x0.size : Int) then (if 0 ≤ x3 then (if (bt x0 x3) < 65 then (if (bt x0 x3) = 63 then (spec_quPattern.l0 k x0 (wrap64 (x3 + 1))) else (if (bt x0 x3) = 42 then (spec_quPattern.l0 k x0 (wrap64 (x3 + 1))) else (some false))) else (if (bt x0 x3) > 90 then (if (bt x0 x3) = 63 then (spec_quPattern.l0 k x0 (wrap64 (x3 + 1))) else (if (bt x0 x3) = 42 then (spec_quPattern.l0 k x0 (wrap64 (x3 + 1))) else (some false))) else (spec_quPattern.l0 k x0 (wrap64 (x3 + 1))))) else (none)) else ((spec_l1In.f (x0.size : Int) 1 8).bind fun t111 => (some t111))
def spec_quPattern.f (k : Nat) (a0 : ByteArray) : Option (Bool) := spec_quPattern.l0 k a0 0
theorem spec_quPattern.mono_l : ∀ k, (∀ y0 y1, LeO (spec_quPattern.l0 k y0 y1) (spec_quPattern.l0 (k + 1) y0 y1))
  | 0 => fun _ _ r h => by simp [spec_quPattern.l0] at h
  | k + 1 => by
    have ih0 := spec_quPattern.mono_l k
    · intro y0 y1
      unfold spec_quPattern.l0
      repeat' first
      | (with_reducible exact ih0 _ _)
      | (with_reducible exact LeO.refl _)
      | (with_reducible exact LeO.none _)
      | (with_reducible refine LeO.ite ?_ ?_)
      | (with_reducible refine LeO.bind ?_ (fun _ => ?_))
theorem spec_quPattern.mono : ∀ a0 k, LeO (spec_quPattern.f k a0) (spec_quPattern.f (k + 1) a0) := by
  intro a0 k
  have ih0 := spec_quPattern.mono_l k
  unfold spec_quPattern.f
  repeat' first
      | (with_reducible exact ih0 _ _)
      | (with_reducible exact LeO.refl _)
      | (with_reducible exact LeO.none _)
      | (with_reducible refine LeO.ite ?_ ?_)
      | (with_reducible refine LeO.bind ?_ (fun _ => ?_))
noncomputable def spec_quPattern.L0 (x0 : ByteArray) (x3 : Int) : Option (Bool) := lim fun k => spec_quPattern.l0 k x0 x3
theorem spec_quPattern.L0_lim (x0 : ByteArray) (x3 : Int) : Lim (fun k => spec_quPattern.l0 k x0 x3) (spec_quPattern.L0 x0 x3) := ⟨fun k => (spec_quPattern.mono_l k) x0 x3, rfl⟩
noncomputable def spec_quPattern.F (a0 : ByteArray) : Option (Bool) := lim fun k => spec_quPattern.f k a0
theorem spec_quPattern.F_lim (a0 : ByteArray) : Lim (fun k => spec_quPattern.f k a0) (spec_quPattern.F a0) := ⟨spec_quPattern.mono a0, rfl⟩
theorem spec_quPattern.L0_eq (x0 : ByteArray) (x3 : Int) : spec_quPattern.L0 x0 x3 = (if x3 < (x0.size : Int) then (if 0 ≤ x3 then (if (bt x0 x3) < 65 then (if (bt x0 x3) = 63 then (spec_quPattern.L0 x0 (wrap64 (x3 + 1))) else (if (bt x0 x3) = 42 then (spec_quPattern.L0 x0 (wrap64 (x3 + 1))) else (some false))) else (if (bt x0 x3) > 90 then (if (bt x0 x3) = 63 then (spec_quPattern.L0 x0 (wrap64 (x3 + 1))) else (if (bt x0 x3) = 42 then (spec_quPattern.L0 x0 (wrap64 (x3 + 1))) else (some false))) else (spec_quPattern.L0 x0 (wrap64 (x3 + 1))))) else (none)) else ((spec_l1In.f (x0.size : Int) 1 8).bind fun t111 => (some t111))) := by
  refine Lim.succ_eq (spec_quPattern.L0_lim x0 x3).mon ?_
  simp only [spec_quPattern.l0]
  repeat' first
  | (with_reducible exact spec_quPattern.L0_lim _ _)
  | (with_reducible refine Lim.ite ?_ ?_)
  | (with_reducible refine Lim.bind ?_ (fun _ => ?_))
  | (with_reducible exact Lim.const _)
theorem spec_quPattern.F_eq (a0 : ByteArray) : spec_quPattern.F a0 = (spec_quPattern.L0 a0 0) := by
  refine Lim.eq_ ?_
  simp only [spec_quPattern.f]
  repeat' first
  | (with_reducible exact spec_quPattern.L0_lim _ _)
  | (with_reducible refine Lim.ite ?_ ?_)
  | (with_reducible refine Lim.bind ?_ (fun _ => ?_))
  | (with_reducible exact Lim.const _)
def spec_quLike.f : Nat → ByteArray → ByteArray → Option (Bool)
  | 0, _, _ => none
  | k + 1, a0, a1 => if a0.toList = ([] : List UInt8) then (some (a1.toList == ([] : List UInt8))) else (if 0 < (a0.size : Int) then (if (bt a0 0) = 42 then (if 1 ≤ (a0.size : Int) then ((spec_quLike.f k (a0.extract 1 a0.size) a1).bind fun t112 => (if t112 = true then (some true) else (if a1.toList = ([] : List UInt8) then (some false) else (if 1 ≤ (a1.size : Int) then ((spec_quLike.f k a0 (a1.extract 1 a1.size)).bind fun t113 => (some t113)) else (none))))) else (none)) else (if a1.toList = ([] : List UInt8) then (some false) else (if (bt a0 0) = 63 then (if 1 ≤ (a0.size : Int) then (if 1 ≤ (a1.size : Int) then ((spec_quLike.f k (a0.extract 1 a0.size) (a1.extract 1 a1.size)).bind fun t114 => (some t114)) else (none)) else (none)) else (if 0 < (a1.size : Int) then (if (bt a0 0) = (bt a1 0) then (if 1 ≤ (a0.size : Int) then (if 1 ≤ (a1.size : Int) then ((spec_quLike.f k (a0.extract 1 a0.size) (a1.extract 1 a1.size)).bind fun t115 => (some t115)) else (none)) else (none)) else (some false)) else (none))))) else (none))
theorem spec_quLike.mono_l : ∀ k, (∀ y0 y1, LeO (spec_quLike.f k y0 y1) (spec_quLike.f (k + 1) y0 y1))
  | 0 => fun _ _ r h => by simp [spec_quLike.f] at h
  | k + 1 => by
    have ih0 := spec_quLike.mono_l k
    · intro y0 y1
      unfold spec_quLike.f
      repeat' first
      | (with_reducible exact ih0 _ _)
      | (with_reducible exact LeO.refl _)
      | (with_reducible exact LeO.none _)
      | (with_reducible refine LeO.ite ?_ ?_)
      | (with_reducible refine LeO.bind ?_ (fun _ => ?_))
theorem spec_quLike.mono : ∀ a0 a1 k, LeO (spec_quLike.f k a0 a1) (spec_quLike.f (k + 1) a0 a1) := by
  intro a0 a1 k
  have ih0 := spec_quLike.mono_l k
  exact ih0 a0 a1
noncomputable def spec_quLike.F (a0 : ByteArray) (a1 : ByteArray) : Option (Bool) := lim fun k => spec_quLike.f k a0 a1
theorem spec_quLike.F_lim (a0 : ByteArray) (a1 : ByteArray) : Lim (fun k => spec_quLike.f k a0 a1) (spec_quLike.F a0 a1) := ⟨spec_quLike.mono a0 a1, rfl⟩
theorem spec_quLike.F_eq (a0 : ByteArray) (a1 : ByteArray) : spec_quLike.F a0 a1 = (if a0.toList = ([] : List UInt8) then (some (a1.toList == ([] : List UInt8))) else (if 0 < (a0.size : Int) then (if (bt a0 0) = 42 then (if 1 ≤ (a0.size : Int) then ((spec_quLike.F (a0.extract 1 a0.size) a1).bind fun t112 => (if t112 = true then (some true) else (if a1.toList = ([] : List UInt8) then (some false) else (if 1 ≤ (a1.size : Int) then ((spec_quLike.F a0 (a1.extract 1 a1.size)).bind fun t113 => (some t113)) else (none))))) else (none)) else (if a1.toList = ([] : List UInt8) then (some false) else (if (bt a0 0) = 63 then (if 1 ≤ (a0.size : Int) then (if 1 ≤ (a1.size : Int) then ((spec_quLike.F (a0.extract 1 a0.size) (a1.extract 1 a1.size)).bind fun t114 => (some t114)) else (none)) else (none)) else (if 0 < (a1.size : Int) then (if (bt a0 0) = (bt a1 0) then (if 1 ≤ (a0.size : Int) then (if 1 ≤ (a1.size : Int) then ((spec_quLike.F (a0.extract 1 a0.size) (a1.extract 1 a1.size)).bind fun t115 => (some t115)) else (none)) else (none)) else (some false)) else (none))))) else (none))) := by
  refine Lim.succ_eq (spec_quLike.F_lim a0 a1).mon ?_
  simp only [spec_quLike.f]
  repeat' first
  | (with_reducible exact spec_quLike.F_lim _ _)
  | (with_reducible refine Lim.ite ?_ ?_)
  | (with_reducible refine Lim.bind ?_ (fun _ => ?_))
  | (with_reducible exact Lim.const _)
mutual
def spec_NotesLike.j0 : Nat → List (S66) → ByteArray → Bool → Option (List Int × Bool)
  | 0, _, _, _ => none
  | k + 1, x0, x1, x16 => if x16 = true then (some (([] : List Int), false)) else (spec_NotesLike.l0 k x1 ([] : List Int) x0 (x0.length : Int) 0)
def spec_NotesLike.l0 : Nat → ByteArray → List Int → List (S66) → Int → Int → Option (List Int × Bool)
  | 0, _, _, _, _, _ => none
  | k + 1, x1, x6, x17, x18, x19 => if x19 < x18 then (if 0 ≤ x19 then (if x19 < (x17.length : Int) then ((spec_quLike.f k x1 ((rd_T66 x17 x19).f2)).bind fun t120 => (if t120 = true then (if x6.length < 17592186044416 then (spec_NotesLike.l0 k x1 (x6 ++ [x19]) x17 x18 (wrap64 (x19 + 1))) else (none)) else (spec_NotesLike.l0 k x1 x6 x17 x18 (wrap64 (x19 + 1))))) else (none)) else (none)) else (some (x6, true))
end
def spec_NotesLike.f (k : Nat) (l0 : List (S66)) (a1 : ByteArray) : Option (List Int × Bool) := (spec_tiGood.f k l0).bind fun t116 => (if t116 = true then ((spec_quPattern.f k a1).bind fun t117 => (spec_NotesLike.j0 k l0 a1 (!t117))) else (spec_NotesLike.j0 k l0 a1 true))
theorem spec_NotesLike.mono_l : ∀ k, (∀ y0 y1 y2, LeO (spec_NotesLike.j0 k y0 y1 y2) (spec_NotesLike.j0 (k + 1) y0 y1 y2)) ∧ (∀ y0 y1 y2 y3 y4, LeO (spec_NotesLike.l0 k y0 y1 y2 y3 y4) (spec_NotesLike.l0 (k + 1) y0 y1 y2 y3 y4))
  | 0 => ⟨fun _ _ _ r h => by simp [spec_NotesLike.j0] at h, fun _ _ _ _ _ r h => by simp [spec_NotesLike.l0] at h⟩
  | k + 1 => by
    obtain ⟨ih0, ih1⟩ := spec_NotesLike.mono_l k
    refine ⟨?_, ?_⟩
    · intro y0 y1 y2
      unfold spec_NotesLike.j0
      repeat' first
      | (with_reducible exact ih0 _ _ _)
      | (with_reducible exact ih1 _ _ _ _ _)
      | (with_reducible exact spec_quLike.mono _ _ _)
      | (with_reducible exact spec_quPattern.mono _ _)
      | (with_reducible exact spec_tiGood.mono _ _)
      | (with_reducible exact LeO.refl _)
      | (with_reducible exact LeO.none _)
      | (with_reducible refine LeO.ite ?_ ?_)
      | (with_reducible refine LeO.bind ?_ (fun _ => ?_))
    · intro y0 y1 y2 y3 y4
      unfold spec_NotesLike.l0
      repeat' first
      | (with_reducible exact ih0 _ _ _)
      | (with_reducible exact ih1 _ _ _ _ _)
      | (with_reducible exact spec_quLike.mono _ _ _)
      | (with_reducible exact spec_quPattern.mono _ _)
      | (with_reducible exact spec_tiGood.mono _ _)
      | (with_reducible exact LeO.refl _)
      | (with_reducible exact LeO.none _)
      | (with_reducible refine LeO.ite ?_ ?_)
      | (with_reducible refine LeO.bind ?_ (fun _ => ?_))
theorem spec_NotesLike.mono : ∀ a0 a1 k, LeO (spec_NotesLike.f k a0 a1) (spec_NotesLike.f (k + 1) a0 a1) := by
  intro a0 a1 k
  obtain ⟨ih0, ih1⟩ := spec_NotesLike.mono_l k
  unfold spec_NotesLike.f
  repeat' first
      | (with_reducible exact ih0 _ _ _)
      | (with_reducible exact ih1 _ _ _ _ _)
      | (with_reducible exact spec_quLike.mono _ _ _)
      | (with_reducible exact spec_quPattern.mono _ _)
      | (with_reducible exact spec_tiGood.mono _ _)
      | (with_reducible exact LeO.refl _)
      | (with_reducible exact LeO.none _)
      | (with_reducible refine LeO.ite ?_ ?_)
      | (with_reducible refine LeO.bind ?_ (fun _ => ?_))
noncomputable def spec_NotesLike.J0 (x0 : List (S66)) (x1 : ByteArray) (x16 : Bool) : Option (List Int × Bool) := lim fun k => spec_NotesLike.j0 k x0 x1 x16
theorem spec_NotesLike.J0_lim (x0 : List (S66)) (x1 : ByteArray) (x16 : Bool) : Lim (fun k => spec_NotesLike.j0 k x0 x1 x16) (spec_NotesLike.J0 x0 x1 x16) := ⟨fun k => (spec_NotesLike.mono_l k).1 x0 x1 x16, rfl⟩
noncomputable def spec_NotesLike.L0 (x1 : ByteArray) (x6 : List Int) (x17 : List (S66)) (x18 : Int) (x19 : Int) : Option (List Int × Bool) := lim fun k => spec_NotesLike.l0 k x1 x6 x17 x18 x19
theorem spec_NotesLike.L0_lim (x1 : ByteArray) (x6 : List Int) (x17 : List (S66)) (x18 : Int) (x19 : Int) : Lim (fun k => spec_NotesLike.l0 k x1 x6 x17 x18 x19) (spec_NotesLike.L0 x1 x6 x17 x18 x19) := ⟨fun k => (spec_NotesLike.mono_l k).2 x1 x6 x17 x18 x19, rfl⟩
noncomputable def spec_NotesLike.F (l0 : List (S66)) (a1 : ByteArray) : Option (List Int × Bool) := lim fun k => spec_NotesLike.f k l0 a1
theorem spec_NotesLike.F_lim (l0 : List (S66)) (a1 : ByteArray) : Lim (fun k => spec_NotesLike.f k l0 a1) (spec_NotesLike.F l0 a1) := ⟨spec_NotesLike.mono l0 a1, rfl⟩
theorem spec_NotesLike.J0_eq (x0 : List (S66)) (x1 : ByteArray) (x16 : Bool) : spec_NotesLike.J0 x0 x1 x16 = (if x16 = true then (some (([] : List Int), false)) else (spec_NotesLike.L0 x1 ([] : List Int) x0 (x0.length : Int) 0)) := by
  refine Lim.succ_eq (spec_NotesLike.J0_lim x0 x1 x16).mon ?_
  simp only [spec_NotesLike.j0]
  repeat' first
  | (with_reducible exact spec_NotesLike.J0_lim _ _ _)
  | (with_reducible exact spec_NotesLike.L0_lim _ _ _ _ _)
  | (with_reducible exact spec_quLike.F_lim _ _)
  | (with_reducible exact spec_quPattern.F_lim _)
  | (with_reducible exact spec_tiGood.F_lim _)
  | (with_reducible refine Lim.ite ?_ ?_)
  | (with_reducible refine Lim.bind ?_ (fun _ => ?_))
  | (with_reducible exact Lim.const _)
theorem spec_NotesLike.L0_eq (x1 : ByteArray) (x6 : List Int) (x17 : List (S66)) (x18 : Int) (x19 : Int) : spec_NotesLike.L0 x1 x6 x17 x18 x19 = (if x19 < x18 then (if 0 ≤ x19 then (if x19 < (x17.length : Int) then ((spec_quLike.F x1 ((rd_T66 x17 x19).f2)).bind fun t120 => (if t120 = true then (if x6.length < 17592186044416 then (spec_NotesLike.L0 x1 (x6 ++ [x19]) x17 x18 (wrap64 (x19 + 1))) else (none)) else (spec_NotesLike.L0 x1 x6 x17 x18 (wrap64 (x19 + 1))))) else (none)) else (none)) else (some (x6, true))) := by
  refine Lim.succ_eq (spec_NotesLike.L0_lim x1 x6 x17 x18 x19).mon ?_
  simp only [spec_NotesLike.l0]
  repeat' first
  | (with_reducible exact spec_NotesLike.J0_lim _ _ _)
  | (with_reducible exact spec_NotesLike.L0_lim _ _ _ _ _)
  | (with_reducible exact spec_quLike.F_lim _ _)
  | (with_reducible exact spec_quPattern.F_lim _)
  | (with_reducible exact spec_tiGood.F_lim _)
  | (with_reducible refine Lim.ite ?_ ?_)
  | (with_reducible refine Lim.bind ?_ (fun _ => ?_))
  | (with_reducible exact Lim.const _)
theorem spec_NotesLike.F_eq (l0 : List (S66)) (a1 : ByteArray) : spec_NotesLike.F l0 a1 = ((spec_tiGood.F l0).bind fun t116 => (if t116 = true then ((spec_quPattern.F a1).bind fun t117 => (spec_NotesLike.J0 l0 a1 (!t117))) else (spec_NotesLike.J0 l0 a1 true))) := by
  refine Lim.eq_ ?_
  simp only [spec_NotesLike.f]
  repeat' first
  | (with_reducible exact spec_NotesLike.J0_lim _ _ _)
  | (with_reducible exact spec_NotesLike.L0_lim _ _ _ _ _)
  | (with_reducible exact spec_quLike.F_lim _ _)
  | (with_reducible exact spec_quPattern.F_lim _)
  | (with_reducible exact spec_tiGood.F_lim _)
  | (with_reducible refine Lim.ite ?_ ?_)
  | (with_reducible refine Lim.bind ?_ (fun _ => ?_))
  | (with_reducible exact Lim.const _)
def impl_within.f (a0 : Int) (a1 : Int) (a2 : Int) : Option (Bool) := if a0 ≥ a1 then (some (decide (a0 ≤ a2))) else (some false)
def impl_isFrame.f (a0 : Int) : Option (Bool) := (impl_within.f a0 0 99999).bind fun t124 => (some t124)
def stringslite_IndexByte.f (a0 : ByteArray) (a1 : Int) : Option (Int) := some (Lib.indexByte a0.data.toList a1.toNat.toUInt8)
def strings_IndexByte.f (a0 : ByteArray) (a1 : Int) : Option (Int) := (stringslite_IndexByte.f a0 a1).bind fun t125 => (some t125)
def impl_hasOnly.l0 : Nat → ByteArray → ByteArray → Int → Int → Option (Bool)
  | 0, _, _, _, _ => none
  | k + 1, x0, x1, x7, x8 => if x8 < x7 then (if 0 ≤ x8 then (if x8 < (x0.size : Int) then ((strings_IndexByte.f x1 (bt x0 x8)).bind fun t126 => (if t126 < 0 then (some false) else (impl_hasOnly.l0 k x0 x1 x7 (wrap64 (x8 + 1))))) else (none)) else (none)) else (some true)
def impl_hasOnly.f (k : Nat) (a0 : ByteArray) (a1 : ByteArray) : Option (Bool) := impl_hasOnly.l0 k a0 a1 (a0.size : Int) 0
theorem impl_hasOnly.mono_l : ∀ k, (∀ y0 y1 y2 y3, LeO (impl_hasOnly.l0 k y0 y1 y2 y3) (impl_hasOnly.l0 (k + 1) y0 y1 y2 y3))
  | 0 => fun _ _ _ _ r h => by simp [impl_hasOnly.l0] at h
  | k + 1 => by
    have ih0 := impl_hasOnly.mono_l k
    · intro y0 y1 y2 y3
      unfold impl_hasOnly.l0
      repeat' first
      | (with_reducible exact ih0 _ _ _ _)
      | (with_reducible exact LeO.refl _)
      | (with_reducible exact LeO.none _)
      | (with_reducible refine LeO.ite ?_ ?_)
      | (with_reducible refine LeO.bind ?_ (fun _ => ?_))
theorem impl_hasOnly.mono : ∀ a0 a1 k, LeO (impl_hasOnly.f k a0 a1) (impl_hasOnly.f (k + 1) a0 a1) := by
  intro a0 a1 k
  have ih0 := impl_hasOnly.mono_l k
  unfold impl_hasOnly.f
  repeat' first
      | (with_reducible exact ih0 _ _ _ _)
      | (with_reducible exact LeO.refl _)
      | (with_reducible exact LeO.none _)
      | (with_reducible refine LeO.ite ?_ ?_)
      | (with_reducible refine LeO.bind ?_ (fun _ => ?_))
noncomputable def impl_hasOnly.L0 (x0 : ByteArray) (x1 : ByteArray) (x7 : Int) (x8 : Int) : Option (Bool) := lim fun k => impl_hasOnly.l0 k x0 x1 x7 x8
theorem impl_hasOnly.L0_lim (x0 : ByteArray) (x1 : ByteArray) (x7 : Int) (x8 : Int) : Lim (fun k => impl_hasOnly.l0 k x0 x1 x7 x8) (impl_hasOnly.L0 x0 x1 x7 x8) := ⟨fun k => (impl_hasOnly.mono_l k) x0 x1 x7 x8, rfl⟩
noncomputable def impl_hasOnly.F (a0 : ByteArray) (a1 : ByteArray) : Option (Bool) := lim fun k => impl_hasOnly.f k a0 a1
theorem impl_hasOnly.F_lim (a0 : ByteArray) (a1 : ByteArray) : Lim (fun k => impl_hasOnly.f k a0 a1) (impl_hasOnly.F a0 a1) := ⟨impl_hasOnly.mono a0 a1, rfl⟩
theorem impl_hasOnly.L0_eq (x0 : ByteArray) (x1 : ByteArray) (x7 : Int) (x8 : Int) : impl_hasOnly.L0 x0 x1 x7 x8 = (if x8 < x7 then (if 0 ≤ x8 then (if x8 < (x0.size : Int) then ((strings_IndexByte.f x1 (bt x0 x8)).bind fun t126 => (if t126 < 0 then (some false) else (impl_hasOnly.L0 x0 x1 x7 (wrap64 (x8 + 1))))) else (none)) else (none)) else (some true)) := by
  refine Lim.succ_eq (impl_hasOnly.L0_lim x0 x1 x7 x8).mon ?_
  simp only [impl_hasOnly.l0]
  repeat' first
  | (with_reducible exact impl_hasOnly.L0_lim _ _ _ _)
  | (with_reducible refine Lim.ite ?_ ?_)
  | (with_reducible refine Lim.bind ?_ (fun _ => ?_))
  | (with_reducible exact Lim.const _)
theorem impl_hasOnly.F_eq (a0 : ByteArray) (a1 : ByteArray) : impl_hasOnly.F a0 a1 = (impl_hasOnly.L0 a0 a1 (a0.size : Int) 0) := by
  refine Lim.eq_ ?_
  simp only [impl_hasOnly.f]
  repeat' first
  | (with_reducible exact impl_hasOnly.L0_lim _ _ _ _)
  | (with_reducible refine Lim.ite ?_ ?_)
  | (with_reducible refine Lim.bind ?_ (fun _ => ?_))
  | (with_reducible exact Lim.const _)
def impl_isWordOf.f (k : Nat) (a0 : ByteArray) (a1 : ByteArray) : Option (Bool) := (impl_within.f (a0.size : Int) 1 8).bind fun t127 => (if t127 = true then ((impl_hasOnly.f k a0 a1).bind fun t128 => (some t128)) else (some false))
theorem impl_isWordOf.mono : ∀ a0 a1 k, LeO (impl_isWordOf.f k a0 a1) (impl_isWordOf.f (k + 1) a0 a1) := by
  intro a0 a1 k
  unfold impl_isWordOf.f
  repeat' first
      | (with_reducible exact impl_hasOnly.mono _ _ _)
      | (with_reducible exact LeO.refl _)
      | (with_reducible exact LeO.none _)
      | (with_reducible refine LeO.ite ?_ ?_)
      | (with_reducible refine LeO.bind ?_ (fun _ => ?_))
noncomputable def impl_isWordOf.F (a0 : ByteArray) (a1 : ByteArray) : Option (Bool) := lim fun k => impl_isWordOf.f k a0 a1
theorem impl_isWordOf.F_lim (a0 : ByteArray) (a1 : ByteArray) : Lim (fun k => impl_isWordOf.f k a0 a1) (impl_isWordOf.F a0 a1) := ⟨impl_isWordOf.mono a0 a1, rfl⟩
theorem impl_isWordOf.F_eq (a0 : ByteArray) (a1 : ByteArray) : impl_isWordOf.F a0 a1 = ((impl_within.f (a0.size : Int) 1 8).bind fun t127 => (if t127 = true then ((impl_hasOnly.F a0 a1).bind fun t128 => (some t128)) else (some false))) := by
  refine Lim.eq_ ?_
  simp only [impl_isWordOf.f]
  repeat' first
  | (with_reducible exact impl_hasOnly.F_lim _ _)
  | (with_reducible refine Lim.ite ?_ ?_)
  | (with_reducible refine Lim.bind ?_ (fun _ => ?_))
  | (with_reducible exact Lim.const _)
def impl_IsNote.f (k : Nat) (a0_0 : Int) (a0_1 : Int) (a0_2 : ByteArray) : Option (Bool) := (impl_isFrame.f a0_0).bind fun t130 => (if t130 = true then ((impl_isFrame.f a0_1).bind fun t131 => (if t131 = true then (if a0_0 < a0_1 then ((impl_isWordOf.f k a0_2 (⟨#[65, 66, 67, 68, 69, 70, 71, 72, 73, 74, 75, 76, 77, 78, 79, 80, 81, 82, 83, 84, 85, 86, 87, 88, 89, 90]⟩ : ByteArray)).bind fun t132 => (some t132)) else (some false)) else (some false))) else (some false))
theorem impl_IsNote.mono : ∀ a0 a1 a2 k, LeO (impl_IsNote.f k a0 a1 a2) (impl_IsNote.f (k + 1) a0 a1 a2) := by
  intro a0 a1 a2 k
  unfold impl_IsNote.f
  repeat' first
      | (with_reducible exact impl_isWordOf.mono _ _ _)
      | (with_reducible exact LeO.refl _)
      | (with_reducible exact LeO.none _)
      | (with_reducible refine LeO.ite ?_ ?_)
      | (with_reducible refine LeO.bind ?_ (fun _ => ?_))
noncomputable def impl_IsNote.F (a0_0 : Int) (a0_1 : Int) (a0_2 : ByteArray) : Option (Bool) := lim fun k => impl_IsNote.f k a0_0 a0_1 a0_2
theorem impl_IsNote.F_lim (a0_0 : Int) (a0_1 : Int) (a0_2 : ByteArray) : Lim (fun k => impl_IsNote.f k a0_0 a0_1 a0_2) (impl_IsNote.F a0_0 a0_1 a0_2) := ⟨impl_IsNote.mono a0_0 a0_1 a0_2, rfl⟩
theorem impl_IsNote.F_eq (a0_0 : Int) (a0_1 : Int) (a0_2 : ByteArray) : impl_IsNote.F a0_0 a0_1 a0_2 = ((impl_isFrame.f a0_0).bind fun t130 => (if t130 = true then ((impl_isFrame.f a0_1).bind fun t131 => (if t131 = true then (if a0_0 < a0_1 then ((impl_isWordOf.F a0_2 (⟨#[65, 66, 67, 68, 69, 70, 71, 72, 73, 74, 75, 76, 77, 78, 79, 80, 81, 82, 83, 84, 85, 86, 87, 88, 89, 90]⟩ : ByteArray)).bind fun t132 => (some t132)) else (some false)) else (some false))) else (some false))) := by
  refine Lim.eq_ ?_
  simp only [impl_IsNote.f]
  repeat' first
  | (with_reducible exact impl_isWordOf.F_lim _ _)
  | (with_reducible refine Lim.ite ?_ ?_)
  | (with_reducible refine Lim.bind ?_ (fun _ => ?_))
  | (with_reducible exact Lim.const _)
def impl_IsTier.l0 : Nat → List (S66) → List (S66) → Int → Int → Option (Bool)
  | 0, _, _, _, _ => none
  | k + 1, x0, x5, x6, x7 => if x7 < x6 then (if 0 ≤ x7 then (if x7 < (x5.length : Int) then ((impl_IsNote.f k ((rd_T66 x5 x7).f0) ((rd_T66 x5 x7).f1) ((rd_T66 x5 x7).f2)).bind fun t135 => (if t135 = true then (if x7 > 0 then (if 0 ≤ (wrap64 (x7 - 1)) then (if (wrap64 (x7 - 1)) < (x0.length : Int) then (if ((rd_T66 x0 (wrap64 (x7 - 1))).f1) > ((rd_T66 x5 x7).f0) then (some false) else (impl_IsTier.l0 k x0 x5 x6 (wrap64 (x7 + 1)))) else (none)) else (none)) else (impl_IsTier.l0 k x0 x5 x6 (wrap64 (x7 + 1)))) else (some false))) else (none)) else (none)) else (some (decide ((x0.length : Int) ≤ 40)))
def impl_IsTier.f (k : Nat) (l0 : List (S66)) : Option (Bool) := impl_IsTier.l0 k l0 l0 (l0.length : Int) 0
theorem impl_IsTier.mono_l : ∀ k, (∀ y0 y1 y2 y3, LeO (impl_IsTier.l0 k y0 y1 y2 y3) (impl_IsTier.l0 (k + 1) y0 y1 y2 y3))
  | 0 => fun _ _ _ _ r h => by simp [impl_IsTier.l0] at h
  | k + 1 => by
    have ih0 := impl_IsTier.mono_l k
    · intro y0 y1 y2 y3
      unfold impl_IsTier.l0
      repeat' first
      | (with_reducible exact ih0 _ _ _ _)
      | (with_reducible exact impl_IsNote.mono _ _ _ _)
      | (with_reducible exact LeO.refl _)
      | (with_reducible exact LeO.none _)
      | (with_reducible refine LeO.ite ?_ ?_)
      | (with_reducible refine LeO.bind ?_ (fun _ => ?_))
theorem impl_IsTier.mono : ∀ a0 k, LeO (impl_IsTier.f k a0) (impl_IsTier.f (k + 1) a0) := by
  intro a0 k
  have ih0 := impl_IsTier.mono_l k
  unfold impl_IsTier.f
  repeat' first
      | (with_reducible exact ih0 _ _ _ _)
      | (with_reducible exact impl_IsNote.mono _ _ _ _)
      | (with_reducible exact LeO.refl _)
      | (with_reducible exact LeO.none _)
      | (with_reducible refine LeO.ite ?_ ?_)
      | (with_reducible refine LeO.bind ?_ (fun _ => ?_))
noncomputable def impl_IsTier.L0 (x0 : List (S66)) (x5 : List (S66)) (x6 : Int) (x7 : Int) : Option (Bool) := lim fun k => impl_IsTier.l0 k x0 x5 x6 x7
theorem impl_IsTier.L0_lim (x0 : List (S66)) (x5 : List (S66)) (x6 : Int) (x7 : Int) : Lim (fun k => impl_IsTier.l0 k x0 x5 x6 x7) (impl_IsTier.L0 x0 x5 x6 x7) := ⟨fun k => (impl_IsTier.mono_l k) x0 x5 x6 x7, rfl⟩
noncomputable def impl_IsTier.F (l0 : List (S66)) : Option (Bool) := lim fun k => impl_IsTier.f k l0
theorem impl_IsTier.F_lim (l0 : List (S66)) : Lim (fun k => impl_IsTier.f k l0) (impl_IsTier.F l0) := ⟨impl_IsTier.mono l0, rfl⟩
theorem impl_IsTier.L0_eq (x0 : List (S66)) (x5 : List (S66)) (x6 : Int) (x7 : Int) : impl_IsTier.L0 x0 x5 x6 x7 = (if x7 < x6 then (if 0 ≤ x7 then (if x7 < (x5.length : Int) then ((impl_IsNote.F ((rd_T66 x5 x7).f0) ((rd_T66 x5 x7).f1) ((rd_T66 x5 x7).f2)).bind fun t135 => (if t135 = true then (if x7 > 0 then (if 0 ≤ (wrap64 (x7 - 1)) then (if (wrap64 (x7 - 1)) < (x0.length : Int) then (if ((rd_T66 x0 (wrap64 (x7 - 1))).f1) > ((rd_T66 x5 x7).f0) then (some false) else (impl_IsTier.L0 x0 x5 x6 (wrap64 (x7 + 1)))) else (none)) else (none)) else (impl_IsTier.L0 x0 x5 x6 (wrap64 (x7 + 1)))) else (some false))) else (none)) else (none)) else (some (decide ((x0.length : Int) ≤ 40)))) := by
  refine Lim.succ_eq (impl_IsTier.L0_lim x0 x5 x6 x7).mon ?_
  simp only [impl_IsTier.l0]
  repeat' first
  | (with_reducible exact impl_IsTier.L0_lim _ _ _ _)
  | (with_reducible exact impl_IsNote.F_lim _ _ _)
  | (with_reducible refine Lim.ite ?_ ?_)
  | (with_reducible refine Lim.bind ?_ (fun _ => ?_))
  | (with_reducible exact Lim.const _)
theorem impl_IsTier.F_eq (l0 : List (S66)) : impl_IsTier.F l0 = (impl_IsTier.L0 l0 l0 (l0.length : Int) 0) := by
  refine Lim.eq_ ?_
  simp only [impl_IsTier.f]
  repeat' first
  | (with_reducible exact impl_IsTier.L0_lim _ _ _ _)
  | (with_reducible exact impl_IsNote.F_lim _ _ _)
  | (with_reducible refine Lim.ite ?_ ?_)
  | (with_reducible refine Lim.bind ?_ (fun _ => ?_))
  | (with_reducible exact Lim.const _)
def impl_isGlossPattern.f (k : Nat) (a0 : ByteArray) : Option (Bool) := (impl_isWordOf.f k a0 (⟨#[65, 66, 67, 68, 69, 70, 71, 72, 73, 74, 75, 76, 77, 78, 79, 80, 81, 82, 83, 84, 85, 86, 87, 88, 89, 90, 63, 42]⟩ : ByteArray)).bind fun t137 => (some t137)
theorem impl_isGlossPattern.mono : ∀ a0 k, LeO (impl_isGlossPattern.f k a0) (impl_isGlossPattern.f (k + 1) a0) := by
  intro a0 k
  unfold impl_isGlossPattern.f
  repeat' first
      | (with_reducible exact impl_isWordOf.mono _ _ _)
      | (with_reducible exact LeO.refl _)
      | (with_reducible exact LeO.none _)
      | (with_reducible refine LeO.ite ?_ ?_)
      | (with_reducible refine LeO.bind ?_ (fun _ => ?_))
noncomputable def impl_isGlossPattern.F (a0 : ByteArray) : Option (Bool) := lim fun k => impl_isGlossPattern.f k a0
theorem impl_isGlossPattern.F_lim (a0 : ByteArray) : Lim (fun k => impl_isGlossPattern.f k a0) (impl_isGlossPattern.F a0) := ⟨impl_isGlossPattern.mono a0, rfl⟩
theorem impl_isGlossPattern.F_eq (a0 : ByteArray) : impl_isGlossPattern.F a0 = ((impl_isWordOf.F a0 (⟨#[65, 66, 67, 68, 69, 70, 71, 72, 73, 74, 75, 76, 77, 78, 79, 80, 81, 82, 83, 84, 85, 86, 87, 88, 89, 90, 63, 42]⟩ : ByteArray)).bind fun t137 => (some t137)) := by
  refine Lim.eq_ ?_
  simp only [impl_isGlossPattern.f]
  repeat' first
  | (with_reducible exact impl_isWordOf.F_lim _ _)
  | (with_reducible refine Lim.ite ?_ ?_)
  | (with_reducible refine Lim.bind ?_ (fun _ => ?_))
  | (with_reducible exact Lim.const _)
mutual
def impl_fits.l0 : Nat → ByteArray → ByteArray → List Bool → Int → Int → Option (Bool)
  | 0, _, _, _, _, _ => none
  | k + 1, x0, x1, x5, x20, x21 => if x21 < x20 then (if 0 ≤ (x5.length : Int) then (if ((x5.length : Int) : Int).toNat ≤ 281474976710656 then (impl_fits.l1 k x0 x1 x5 x21 (List.replicate ((x5.length : Int) : Int).toNat false) x20 x21 (x5.length : Int) 0) else (none)) else (none)) else (if 0 ≤ (x1.size : Int) then (if (x1.size : Int) < (x5.length : Int) then (some (rdOf false x5 (x1.size : Int))) else (none)) else (none))
def impl_fits.l1 : Nat → ByteArray → ByteArray → List Bool → Int → List Bool → Int → Int → Int → Int → Option (Bool)
  | 0, _, _, _, _, _, _, _, _, _ => none
  | k + 1, x0, x1, x5, x6, x7, x20, x21, x28, x29 => if x29 < x28 then (if 0 ≤ x6 then (if x6 < (x0.size : Int) then (if (bt x0 x6) = 42 then (if 0 ≤ x29 then (if x29 < (x5.length : Int) then (if rdOf false x5 x29 = true then (if x29 < (x7.length : Int) then (impl_fits.l1 k x0 x1 x5 x6 (x7.set (x29 : Int).toNat true) x20 x21 x28 (wrap64 (x29 + 1))) else (none)) else (if x29 > 0 then (if 0 ≤ (wrap64 (x29 - 1)) then (if (wrap64 (x29 - 1)) < (x7.length : Int) then (if x29 < (x7.length : Int) then (impl_fits.l1 k x0 x1 x5 x6 (x7.set (x29 : Int).toNat (rdOf false x7 (wrap64 (x29 - 1)))) x20 x21 x28 (wrap64 (x29 + 1))) else (none)) else (none)) else (none)) else (if x29 < (x7.length : Int) then (impl_fits.l1 k x0 x1 x5 x6 (x7.set (x29 : Int).toNat false) x20 x21 x28 (wrap64 (x29 + 1))) else (none)))) else (none)) else (none)) else (if x29 > 0 then (if 0 ≤ (wrap64 (x29 - 1)) then (if (wrap64 (x29 - 1)) < (x5.length : Int) then (if rdOf false x5 (wrap64 (x29 - 1)) = true then (if (bt x0 x6) = 63 then (if 0 ≤ x29 then (if x29 < (x7.length : Int) then (impl_fits.l1 k x0 x1 x5 x6 (x7.set (x29 : Int).toNat true) x20 x21 x28 (wrap64 (x29 + 1))) else (none)) else (none)) else (if (wrap64 (x29 - 1)) < (x1.size : Int) then (if 0 ≤ x29 then (if x29 < (x7.length : Int) then (impl_fits.l1 k x0 x1 x5 x6 (x7.set (x29 : Int).toNat ((bt x0 x6) == (bt x1 (wrap64 (x29 - 1))))) x20 x21 x28 (wrap64 (x29 + 1))) else (none)) else (none)) else (none))) else (if 0 ≤ x29 then (if x29 < (x7.length : Int) then (impl_fits.l1 k x0 x1 x5 x6 (x7.set (x29 : Int).toNat false) x20 x21 x28 (wrap64 (x29 + 1))) else (none)) else (none))) else (none)) else (none)) else (if 0 ≤ x29 then (if x29 < (x7.length : Int) then (impl_fits.l1 k x0 x1 x5 x6 (x7.set (x29 : Int).toNat false) x20 x21 x28 (wrap64 (x29 + 1))) else (none)) else (none)))) else (none)) else (none)) else (impl_fits.l0 k x0 x1 x7 x20 (wrap64 (x21 + 1)))
end
def impl_fits.f (k : Nat) (a0 : ByteArray) (a1 : ByteArray) : Option (Bool) := if a0.toList = ([] : List UInt8) then (some (a1.toList == ([] : List UInt8))) else (if 0 ≤ (wrap64 ((a1.size : Int) + 1)) then (if (wrap64 ((a1.size : Int) + 1) : Int).toNat ≤ 281474976710656 then ((some (List.replicate (wrap64 ((a1.size : Int) + 1) : Int).toNat false : List Bool)).bind fun y138 => (if 0 < (y138.length : Int) then (impl_fits.l0 k a0 a1 (y138.set (0 : Int).toNat true) (a0.size : Int) 0) else (none))) else (none)) else (none))
theorem impl_fits.mono_l : ∀ k, (∀ y0 y1 y2 y3 y4, LeO (impl_fits.l0 k y0 y1 y2 y3 y4) (impl_fits.l0 (k + 1) y0 y1 y2 y3 y4)) ∧ (∀ y0 y1 y2 y3 y4 y5 y6 y7 y8, LeO (impl_fits.l1 k y0 y1 y2 y3 y4 y5 y6 y7 y8) (impl_fits.l1 (k + 1) y0 y1 y2 y3 y4 y5 y6 y7 y8))
  | 0 => ⟨fun _ _ _ _ _ r h => by simp [impl_fits.l0] at h, fun _ _ _ _ _ _ _ _ _ r h => by simp [impl_fits.l1] at h⟩
  | k + 1 => by
    obtain ⟨ih0, ih1⟩ := impl_fits.mono_l k
    refine ⟨?_, ?_⟩
    · intro y0 y1 y2 y3 y4
      unfold impl_fits.l0
      repeat' first
      | (with_reducible exact ih0 _ _ _ _ _)
      | (with_reducible exact ih1 _ _ _ _ _ _ _ _ _)
      | (with_reducible exact LeO.refl _)
      | (with_reducible exact LeO.none _)
      | (with_reducible refine LeO.ite ?_ ?_)
      | (with_reducible refine LeO.bind ?_ (fun _ => ?_))
    · intro y0 y1 y2 y3 y4 y5 y6 y7 y8
      unfold impl_fits.l1
      repeat' first
      | (with_reducible exact ih0 _ _ _ _ _)
      | (with_reducible exact ih1 _ _ _ _ _ _ _ _ _)
      | (with_reducible exact LeO.refl _)
      | (with_reducible exact LeO.none _)
      | (with_reducible refine LeO.ite ?_ ?_)
      | (with_reducible refine LeO.bind ?_ (fun _ => ?_))
theorem impl_fits.mono : ∀ a0 a1 k, LeO (impl_fits.f k a0 a1) (impl_fits.f (k + 1) a0 a1) := by
  intro a0 a1 k
  obtain ⟨ih0, ih1⟩ := impl_fits.mono_l k
  unfold impl_fits.f
  repeat' first
      | (with_reducible exact ih0 _ _ _ _ _)
      | (with_reducible exact ih1 _ _ _ _ _ _ _ _ _)
      | (with_reducible exact LeO.refl _)
      | (with_reducible exact LeO.none _)
      | (with_reducible refine LeO.ite ?_ ?_)
      | (with_reducible refine LeO.bind ?_ (fun _ => ?_))
noncomputable def impl_fits.L0 (x0 : ByteArray) (x1 : ByteArray) (x5 : List Bool) (x20 : Int) (x21 : Int) : Option (Bool) := lim fun k => impl_fits.l0 k x0 x1 x5 x20 x21
theorem impl_fits.L0_lim (x0 : ByteArray) (x1 : ByteArray) (x5 : List Bool) (x20 : Int) (x21 : Int) : Lim (fun k => impl_fits.l0 k x0 x1 x5 x20 x21) (impl_fits.L0 x0 x1 x5 x20 x21) := ⟨fun k => (impl_fits.mono_l k).1 x0 x1 x5 x20 x21, rfl⟩
noncomputable def impl_fits.L1 (x0 : ByteArray) (x1 : ByteArray) (x5 : List Bool) (x6 : Int) (x7 : List Bool) (x20 : Int) (x21 : Int) (x28 : Int) (x29 : Int) : Option (Bool) := lim fun k => impl_fits.l1 k x0 x1 x5 x6 x7 x20 x21 x28 x29
theorem impl_fits.L1_lim (x0 : ByteArray) (x1 : ByteArray) (x5 : List Bool) (x6 : Int) (x7 : List Bool) (x20 : Int) (x21 : Int) (x28 : Int) (x29 : Int) : Lim (fun k => impl_fits.l1 k x0 x1 x5 x6 x7 x20 x21 x28 x29) (impl_fits.L1 x0 x1 x5 x6 x7 x20 x21 x28 x29) := ⟨fun k => (impl_fits.mono_l k).2 x0 x1 x5 x6 x7 x20 x21 x28 x29, rfl⟩
noncomputable def impl_fits.F (a0 : ByteArray) (a1 : ByteArray) : Option (Bool) := lim fun k => impl_fits.f k a0 a1
theorem impl_fits.F_lim (a0 : ByteArray) (a1 : ByteArray) : Lim (fun k => impl_fits.f k a0 a1) (impl_fits.F a0 a1) := ⟨impl_fits.mono a0 a1, rfl⟩
theorem impl_fits.L0_eq (x0 : ByteArray) (x1 : ByteArray) (x5 : List Bool) (x20 : Int) (x21 : Int) : impl_fits.L0 x0 x1 x5 x20 x21 = (if x21 < x20 then (if 0 ≤ (x5.length : Int) then (if ((x5.length : Int) : Int).toNat ≤ 281474976710656 then (impl_fits.L1 x0 x1 x5 x21 (List.replicate ((x5.length : Int) : Int).toNat false) x20 x21 (x5.length : Int) 0) else (none)) else (none)) else (if 0 ≤ (x1.size : Int) then (if (x1.size : Int) < (x5.length : Int) then (some (rdOf false x5 (x1.size : Int))) else (none)) else (none))) := by
  refine Lim.succ_eq (impl_fits.L0_lim x0 x1 x5 x20 x21).mon ?_
  simp only [impl_fits.l0]
  repeat' first
  | (with_reducible exact impl_fits.L0_lim _ _ _ _ _)
  | (with_reducible exact impl_fits.L1_lim _ _ _ _ _ _ _ _ _)
  | (with_reducible refine Lim.ite ?_ ?_)
  | (with_reducible refine Lim.bind ?_ (fun _ => ?_))
  | (with_reducible exact Lim.const _)
theorem impl_fits.L1_eq (x0 : ByteArray) (x1 : ByteArray) (x5 : List Bool) (x6 : Int) (x7 : List Bool) (x20 : Int) (x21 : Int) (x28 : Int) (x29 : Int) : impl_fits.L1 x0 x1 x5 x6 x7 x20 x21 x28 x29 = (if x29 < x28 then (if 0 ≤ x6 then (if x6 < (x0.size : Int) then (if (bt x0 x6) = 42 then (if 0 ≤ x29 then (if x29 < (x5.length : Int) then (if rdOf false x5 x29 = true then (if x29 < (x7.length : Int) then (impl_fits.L1 x0 x1 x5 x6 (x7.set (x29 : Int).toNat true) x20 x21 x28 (wrap64 (x29 + 1))) else (none)) else (if x29 > 0 then (if 0 ≤ (wrap64 (x29 - 1)) then (if (wrap64 (x29 - 1)) < (x7.length : Int) then (if x29 < (x7.length : Int) then (impl_fits.L1 x0 x1 x5 x6 (x7.set (x29 : Int).toNat (rdOf false x7 (wrap64 (x29 - 1)))) x20 x21 x28 (wrap64 (x29 + 1))) else (none)) else (none)) else (none)) else (if x29 < (x7.length : Int) then (impl_fits.L1 x0 x1 x5 x6 (x7.set (x29 : Int).toNat false) x20 x21 x28 (wrap64 (x29 + 1))) else (none)))) else (none)) else (none)) else (if x29 > 0 then (if 0 ≤ (wrap64 (x29 - 1)) then (if (wrap64 (x29 - 1)) < (x5.length : Int) then (if rdOf false x5 (wrap64 (x29 - 1)) = true then (if (bt x0 x6) = 63 then (if 0 ≤ x29 then (if x29 < (x7.length : Int) then (impl_fits.L1 x0 x1 x5 x6 (x7.set (x29 : Int).toNat true) x20 x21 x28 (wrap64 (x29 + 1))) else (none)) else (none)) else (if (wrap64 (x29 - 1)) < (x1.size : Int) then (if 0 ≤ x29 then (if x29 < (x7.length : Int) then (impl_fits.L1 x0 x1 x5 x6 (x7.set (x29 : Int).toNat ((bt x0 x6) == (bt x1 (wrap64 (x29 - 1))))) x20 x21 x28 (wrap64 (x29 + 1))) else (none)) else (none)) else (none))) else (if 0 ≤ x29 then (if x29 < (x7.length : Int) then (impl_fits.L1 x0 x1 x5 x6 (x7.set (x29 : Int).toNat false) x20 x21 x28 (wrap64 (x29 + 1))) else (none)) else (none))) else (none)) else (none)) else (if 0 ≤ x29 then (if x29 < (x7.length : Int) then (impl_fits.L1 x0 x1 x5 x6 (x7.set (x29 : Int).toNat false) x20 x21 x28 (wrap64 (x29 + 1))) else (none)) else (none)))) else (none)) else (none)) else (impl_fits.L0 x0 x1 x7 x20 (wrap64 (x21 + 1)))) := by
  refine Lim.succ_eq (impl_fits.L1_lim x0 x1 x5 x6 x7 x20 x21 x28 x29).mon ?_
  simp only [impl_fits.l1]
  repeat' first
  | (with_reducible exact impl_fits.L0_lim _ _ _ _ _)
  | (with_reducible exact impl_fits.L1_lim _ _ _ _ _ _ _ _ _)
  | (with_reducible refine Lim.ite ?_ ?_)
  | (with_reducible refine Lim.bind ?_ (fun _ => ?_))
  | (with_reducible exact Lim.const _)
theorem impl_fits.F_eq (a0 : ByteArray) (a1 : ByteArray) : impl_fits.F a0 a1 = (if a0.toList = ([] : List UInt8) then (some (a1.toList == ([] : List UInt8))) else (if 0 ≤ (wrap64 ((a1.size : Int) + 1)) then (if (wrap64 ((a1.size : Int) + 1) : Int).toNat ≤ 281474976710656 then ((some (List.replicate (wrap64 ((a1.size : Int) + 1) : Int).toNat false : List Bool)).bind fun y138 => (if 0 < (y138.length : Int) then (impl_fits.L0 a0 a1 (y138.set (0 : Int).toNat true) (a0.size : Int) 0) else (none))) else (none)) else (none))) := by
  refine Lim.eq_ ?_
  simp only [impl_fits.f]
  repeat' first
  | (with_reducible exact impl_fits.L0_lim _ _ _ _ _)
  | (with_reducible exact impl_fits.L1_lim _ _ _ _ _ _ _ _ _)
  | (with_reducible refine Lim.ite ?_ ?_)
  | (with_reducible refine Lim.bind ?_ (fun _ => ?_))
  | (with_reducible exact Lim.const _)
def impl_NotesLike_1.f (k : Nat) (a0_0 : Int) (a0_1 : Int) (a0_2 : ByteArray) (a1_0 : ByteArray) : Option (Bool) := (impl_fits.f k a1_0 a0_2).bind fun t157 => (some t157)
theorem impl_NotesLike_1.mono : ∀ a0 a1 a2 a3 k, LeO (impl_NotesLike_1.f k a0 a1 a2 a3) (impl_NotesLike_1.f (k + 1) a0 a1 a2 a3) := by
  intro a0 a1 a2 a3 k
  unfold impl_NotesLike_1.f
  repeat' first
      | (with_reducible exact impl_fits.mono _ _ _)
      | (with_reducible exact LeO.refl _)
      | (with_reducible exact LeO.none _)
      | (with_reducible refine LeO.ite ?_ ?_)
      | (with_reducible refine LeO.bind ?_ (fun _ => ?_))
noncomputable def impl_NotesLike_1.F (a0_0 : Int) (a0_1 : Int) (a0_2 : ByteArray) (a1_0 : ByteArray) : Option (Bool) := lim fun k => impl_NotesLike_1.f k a0_0 a0_1 a0_2 a1_0
theorem impl_NotesLike_1.F_lim (a0_0 : Int) (a0_1 : Int) (a0_2 : ByteArray) (a1_0 : ByteArray) : Lim (fun k => impl_NotesLike_1.f k a0_0 a0_1 a0_2 a1_0) (impl_NotesLike_1.F a0_0 a0_1 a0_2 a1_0) := ⟨impl_NotesLike_1.mono a0_0 a0_1 a0_2 a1_0, rfl⟩
theorem impl_NotesLike_1.F_eq (a0_0 : Int) (a0_1 : Int) (a0_2 : ByteArray) (a1_0 : ByteArray) : impl_NotesLike_1.F a0_0 a0_1 a0_2 a1_0 = ((impl_fits.F a1_0 a0_2).bind fun t157 => (some t157)) := by
  refine Lim.eq_ ?_
  simp only [impl_NotesLike_1.f]
  repeat' first
  | (with_reducible exact impl_fits.F_lim _ _)
  | (with_reducible refine Lim.ite ?_ ?_)
  | (with_reducible refine Lim.bind ?_ (fun _ => ?_))
  | (with_reducible exact Lim.const _)
def impl_those_Note_impl_NotesLike_1.l0 : Nat → List Int → List (S66) → Int → Int → ByteArray → Option (List Int)
  | 0, _, _, _, _, _ => none
  | k + 1, x5, x8, x9, x10, x39000 => if x10 < x9 then (if 0 ≤ x10 then (if x10 < (x8.length : Int) then ((impl_NotesLike_1.f k ((rd_T66 x8 x10).f0) ((rd_T66 x8 x10).f1) ((rd_T66 x8 x10).f2) x39000).bind fun t160 => (if t160 = true then (if x5.length < 17592186044416 then (impl_those_Note_impl_NotesLike_1.l0 k (x5 ++ [x10]) x8 x9 (wrap64 (x10 + 1)) x39000) else (none)) else (impl_those_Note_impl_NotesLike_1.l0 k x5 x8 x9 (wrap64 (x10 + 1)) x39000))) else (none)) else (none)) else (some x5)
def impl_those_Note_impl_NotesLike_1.f (k : Nat) (l0 : List (S66)) (a1_0 : ByteArray) : Option (List Int) := impl_those_Note_impl_NotesLike_1.l0 k ([] : List Int) l0 (l0.length : Int) 0 a1_0
theorem impl_those_Note_impl_NotesLike_1.mono_l : ∀ k, (∀ y0 y1 y2 y3 y4, LeO (impl_those_Note_impl_NotesLike_1.l0 k y0 y1 y2 y3 y4) (impl_those_Note_impl_NotesLike_1.l0 (k + 1) y0 y1 y2 y3 y4))
  | 0 => fun _ _ _ _ _ r h => by simp [impl_those_Note_impl_NotesLike_1.l0] at h
  | k + 1 => by
    have ih0 := impl_those_Note_impl_NotesLike_1.mono_l k
    · intro y0 y1 y2 y3 y4
      unfold impl_those_Note_impl_NotesLike_1.l0
      repeat' first
      | (with_reducible exact ih0 _ _ _ _ _)
      | (with_reducible exact impl_NotesLike_1.mono _ _ _ _ _)
      | (with_reducible exact LeO.refl _)
      | (with_reducible exact LeO.none _)
      | (with_reducible refine LeO.ite ?_ ?_)
      | (with_reducible refine LeO.bind ?_ (fun _ => ?_))
theorem impl_those_Note_impl_NotesLike_1.mono : ∀ a0 a1 k, LeO (impl_those_Note_impl_NotesLike_1.f k a0 a1) (impl_those_Note_impl_NotesLike_1.f (k + 1) a0 a1) := by
  intro a0 a1 k
  have ih0 := impl_those_Note_impl_NotesLike_1.mono_l k
  unfold impl_those_Note_impl_NotesLike_1.f
  repeat' first
      | (with_reducible exact ih0 _ _ _ _ _)
      | (with_reducible exact impl_NotesLike_1.mono _ _ _ _ _)
      | (with_reducible exact LeO.refl _)
      | (with_reducible exact LeO.none _)
      | (with_reducible refine LeO.ite ?_ ?_)
      | (with_reducible refine LeO.bind ?_ (fun _ => ?_))
noncomputable def impl_those_Note_impl_NotesLike_1.L0 (x5 : List Int) (x8 : List (S66)) (x9 : Int) (x10 : Int) (x39000 : ByteArray) : Option (List Int) := lim fun k => impl_those_Note_impl_NotesLike_1.l0 k x5 x8 x9 x10 x39000
theorem impl_those_Note_impl_NotesLike_1.L0_lim (x5 : List Int) (x8 : List (S66)) (x9 : Int) (x10 : Int) (x39000 : ByteArray) : Lim (fun k => impl_those_Note_impl_NotesLike_1.l0 k x5 x8 x9 x10 x39000) (impl_those_Note_impl_NotesLike_1.L0 x5 x8 x9 x10 x39000) := ⟨fun k => (impl_those_Note_impl_NotesLike_1.mono_l k) x5 x8 x9 x10 x39000, rfl⟩
noncomputable def impl_those_Note_impl_NotesLike_1.F (l0 : List (S66)) (a1_0 : ByteArray) : Option (List Int) := lim fun k => impl_those_Note_impl_NotesLike_1.f k l0 a1_0
theorem impl_those_Note_impl_NotesLike_1.F_lim (l0 : List (S66)) (a1_0 : ByteArray) : Lim (fun k => impl_those_Note_impl_NotesLike_1.f k l0 a1_0) (impl_those_Note_impl_NotesLike_1.F l0 a1_0) := ⟨impl_those_Note_impl_NotesLike_1.mono l0 a1_0, rfl⟩
theorem impl_those_Note_impl_NotesLike_1.L0_eq (x5 : List Int) (x8 : List (S66)) (x9 : Int) (x10 : Int) (x39000 : ByteArray) : impl_those_Note_impl_NotesLike_1.L0 x5 x8 x9 x10 x39000 = (if x10 < x9 then (if 0 ≤ x10 then (if x10 < (x8.length : Int) then ((impl_NotesLike_1.F ((rd_T66 x8 x10).f0) ((rd_T66 x8 x10).f1) ((rd_T66 x8 x10).f2) x39000).bind fun t160 => (if t160 = true then (if x5.length < 17592186044416 then (impl_those_Note_impl_NotesLike_1.L0 (x5 ++ [x10]) x8 x9 (wrap64 (x10 + 1)) x39000) else (none)) else (impl_those_Note_impl_NotesLike_1.L0 x5 x8 x9 (wrap64 (x10 + 1)) x39000))) else (none)) else (none)) else (some x5)) := by
  refine Lim.succ_eq (impl_those_Note_impl_NotesLike_1.L0_lim x5 x8 x9 x10 x39000).mon ?_
  simp only [impl_those_Note_impl_NotesLike_1.l0]
  repeat' first
  | (with_reducible exact impl_those_Note_impl_NotesLike_1.L0_lim _ _ _ _ _)
  | (with_reducible exact impl_NotesLike_1.F_lim _ _ _ _)
  | (with_reducible refine Lim.ite ?_ ?_)
  | (with_reducible refine Lim.bind ?_ (fun _ => ?_))
  | (with_reducible exact Lim.const _)
theorem impl_those_Note_impl_NotesLike_1.F_eq (l0 : List (S66)) (a1_0 : ByteArray) : impl_those_Note_impl_NotesLike_1.F l0 a1_0 = (impl_those_Note_impl_NotesLike_1.L0 ([] : List Int) l0 (l0.length : Int) 0 a1_0) := by
  refine Lim.eq_ ?_
  simp only [impl_those_Note_impl_NotesLike_1.f]
  repeat' first
  | (with_reducible exact impl_those_Note_impl_NotesLike_1.L0_lim _ _ _ _ _)
  | (with_reducible exact impl_NotesLike_1.F_lim _ _ _ _)
  | (with_reducible refine Lim.ite ?_ ?_)
  | (with_reducible refine Lim.bind ?_ (fun _ => ?_))
  | (with_reducible exact Lim.const _)
def impl_NotesLike.f (k : Nat) (l0 : List (S66)) (a1 : ByteArray) : Option (List Int × Bool) := (impl_IsTier.f k l0).bind fun t165 => (if t165 = true then ((impl_isGlossPattern.f k a1).bind fun t166 => (if t166 = true then ((impl_those_Note_impl_NotesLike_1.f k l0 a1).bind fun t167 => (some (t167, true))) else (some (([] : List Int), false)))) else (some (([] : List Int), false)))
theorem impl_NotesLike.mono : ∀ a0 a1 k, LeO (impl_NotesLike.f k a0 a1) (impl_NotesLike.f (k + 1) a0 a1) := by
  intro a0 a1 k
  unfold impl_NotesLike.f
  repeat' first
      | (with_reducible exact impl_IsTier.mono _ _)
      | (with_reducible exact impl_isGlossPattern.mono _ _)
      | (with_reducible exact impl_those_Note_impl_NotesLike_1.mono _ _ _)
      | (with_reducible exact LeO.refl _)
      | (with_reducible exact LeO.none _)
      | (with_reducible refine LeO.ite ?_ ?_)
      | (with_reducible refine LeO.bind ?_ (fun _ => ?_))
noncomputable def impl_NotesLike.F (l0 : List (S66)) (a1 : ByteArray) : Option (List Int × Bool) := lim fun k => impl_NotesLike.f k l0 a1
theorem impl_NotesLike.F_lim (l0 : List (S66)) (a1 : ByteArray) : Lim (fun k => impl_NotesLike.f k l0 a1) (impl_NotesLike.F l0 a1) := ⟨impl_NotesLike.mono l0 a1, rfl⟩
theorem impl_NotesLike.F_eq (l0 : List (S66)) (a1 : ByteArray) : impl_NotesLike.F l0 a1 = ((impl_IsTier.F l0).bind fun t165 => (if t165 = true then ((impl_isGlossPattern.F a1).bind fun t166 => (if t166 = true then ((impl_those_Note_impl_NotesLike_1.F l0 a1).bind fun t167 => (some (t167, true))) else (some (([] : List Int), false)))) else (some (([] : List Int), false)))) := by
  refine Lim.eq_ ?_
  simp only [impl_NotesLike.f]
  repeat' first
  | (with_reducible exact impl_IsTier.F_lim _)
  | (with_reducible exact impl_isGlossPattern.F_lim _)
  | (with_reducible exact impl_those_Note_impl_NotesLike_1.F_lim _ _)
  | (with_reducible refine Lim.ite ?_ ?_)
  | (with_reducible refine Lim.bind ?_ (fun _ => ?_))
  | (with_reducible exact Lim.const _)
mutual
def spec_PairsWithin.j0 : Nat → List (S66) → ByteArray → ByteArray → Int → Bool → Option ((List (List Int)) × Bool)
  | 0, _, _, _, _, _ => none
  | k + 1, x0, x1, x2, x3, x31 => if x31 = true then (some (([] : List (List Int)), false)) else (spec_PairsWithin.l0 k x0 x1 x2 x3 ([] : List (List Int)) x0 (x0.length : Int) 0)
def spec_PairsWithin.l0 : Nat → List (S66) → ByteArray → ByteArray → Int → List (List Int) → List (S66) → Int → Int → Option ((List (List Int)) × Bool)
  | 0, _, _, _, _, _, _, _, _ => none
  | k + 1, x0, x1, x2, x3, x10, x32, x33, x34 => if x34 < x33 then (if 0 ≤ x34 then (if x34 < (x32.length : Int) then (spec_PairsWithin.l1 k x0 x1 x2 x3 x10 x34 (wrap64 (x34 + 1)) x32 x33 x34 ((rd_T66 x32 x34).f0) ((rd_T66 x32 x34).f1) ((rd_T66 x32 x34).f2)) else (none)) else (none)) else (some (x10, true))
def spec_PairsWithin.l1 : Nat → List (S66) → ByteArray → ByteArray → Int → List (List Int) → Int → Int → List (S66) → Int → Int → Int → Int → ByteArray → Option ((List (List Int)) × Bool)
  | 0, _, _, _, _, _, _, _, _, _, _, _, _, _ => none
  | k + 1, x0, x1, x2, x3, x10, x11, x13, x32, x33, x34, x176000, x176001, x176002 => if x13 < (x0.length : Int) then ((spec_quLike.f k x1 x176002).bind fun t176 => (if t176 = true then (if 0 ≤ x13 then ((spec_quLike.f k x2 ((rd_T66 x0 x13).f2)).bind fun t178 => (if t178 = true then (if (wrap64 (((rd_T66 x0 x13).f0) - x176001)) ≤ x3 then (if x10.length < 5864062014805 then (spec_PairsWithin.l1 k x0 x1 x2 x3 (x10 ++ [(([x11, x13] : List Int))]) x11 (wrap64 (x13 + 1)) x32 x33 x34 x176000 x176001 x176002) else (none)) else (spec_PairsWithin.l1 k x0 x1 x2 x3 x10 x11 (wrap64 (x13 + 1)) x32 x33 x34 x176000 x176001 x176002)) else (spec_PairsWithin.l1 k x0 x1 x2 x3 x10 x11 (wrap64 (x13 + 1)) x32 x33 x34 x176000 x176001 x176002))) else (none)) else (spec_PairsWithin.l1 k x0 x1 x2 x3 x10 x11 (wrap64 (x13 + 1)) x32 x33 x34 x176000 x176001 x176002))) else (spec_PairsWithin.l0 k x0 x1 x2 x3 x10 x32 x33 (wrap64 (x34 + 1)))
end
def spec_PairsWithin.f (k : Nat) (l0 : List (S66)) (a1 : ByteArray) (a2 : ByteArray) (a3 : Int) : Option ((List (List Int)) × Bool) := (spec_tiGood.f k l0).bind fun t170 => (if t170 = true then ((spec_quPattern.f k a1).bind fun t171 => (if t171 = true then ((spec_quPattern.f k a2).bind fun t172 => (if t172 = true then ((spec_tiFrame.f a3).bind fun t173 => (spec_PairsWithin.j0 k l0 a1 a2 a3 (!t173))) else (spec_PairsWithin.j0 k l0 a1 a2 a3 true))) else (spec_PairsWithin.j0 k l0 a1 a2 a3 true))) else (spec_PairsWithin.j0 k l0 a1 a2 a3 true))
theorem spec_PairsWithin.mono_l : ∀ k, (∀ y0 y1 y2 y3 y4, LeO (spec_PairsWithin.j0 k y0 y1 y2 y3 y4) (spec_PairsWithin.j0 (k + 1) y0 y1 y2 y3 y4)) ∧ (∀ y0 y1 y2 y3 y4 y5 y6 y7, LeO (spec_PairsWithin.l0 k y0 y1 y2 y3 y4 y5 y6 y7) (spec_PairsWithin.l0 (k + 1) y0 y1 y2 y3 y4 y5 y6 y7)) ∧ (∀ y0 y1 y2 y3 y4 y5 y6 y7 y8 y9 y10 y11 y12, LeO (spec_PairsWithin.l1 k y0 y1 y2 y3 y4 y5 y6 y7 y8 y9 y10 y11 y12) (spec_PairsWithin.l1 (k + 1) y0 y1 y2 y3 y4 y5 y6 y7 y8 y9 y10 y11 y12))
  | 0 => ⟨fun _ _ _ _ _ r h => by simp [spec_PairsWithin.j0] at h, fun _ _ _ _ _ _ _ _ r h => by simp [spec_PairsWithin.l0] at h, fun _ _ _ _ _ _ _ _ _ _ _ _ _ r h => by simp [spec_PairsWithin.l1] at h⟩
  | k + 1 => by
    obtain ⟨ih0, ih1, ih2⟩ := spec_PairsWithin.mono_l k
    refine ⟨?_, ?_, ?_⟩
    · intro y0 y1 y2 y3 y4
      unfold spec_PairsWithin.j0
      repeat' first
      | (with_reducible exact ih0 _ _ _ _ _)
      | (with_reducible exact ih1 _ _ _ _ _ _ _ _)
      | (with_reducible exact ih2 _ _ _ _ _ _ _ _ _ _ _ _ _)
      | (with_reducible exact spec_quLike.mono _ _ _)
      | (with_reducible exact spec_quPattern.mono _ _)
      | (with_reducible exact spec_tiGood.mono _ _)
      | (with_reducible exact LeO.refl _)
      | (with_reducible exact LeO.none _)
      | (with_reducible refine LeO.ite ?_ ?_)
      | (with_reducible refine LeO.bind ?_ (fun _ => ?_))
    · intro y0 y1 y2 y3 y4 y5 y6 y7
      unfold spec_PairsWithin.l0
      repeat' first
      | (with_reducible exact ih0 _ _ _ _ _)
      | (with_reducible exact ih1 _ _ _ _ _ _ _ _)
      | (with_reducible exact ih2 _ _ _ _ _ _ _ _ _ _ _ _ _)
      | (with_reducible exact spec_quLike.mono _ _ _)
      | (with_reducible exact spec_quPattern.mono _ _)
      | (with_reducible exact spec_tiGood.mono _ _)
      | (with_reducible exact LeO.refl _)
      | (with_reducible exact LeO.none _)
      | (with_reducible refine LeO.ite ?_ ?_)
      | (with_reducible refine LeO.bind ?_ (fun _ => ?_))
    · intro y0 y1 y2 y3 y4 y5 y6 y7 y8 y9 y10 y11 y12
      unfold spec_PairsWithin.l1
      repeat' first
      | (with_reducible exact ih0 _ _ _ _ _)
      | (with_reducible exact ih1 _ _ _ _ _ _ _ _)
      | (with_reducible exact ih2 _ _ _ _ _ _ _ _ _ _ _ _ _)
      | (with_reducible exact spec_quLike.mono _ _ _)
      | (with_reducible exact spec_quPattern.mono _ _)
      | (with_reducible exact spec_tiGood.mono _ _)
      | (with_reducible exact LeO.refl _)
      | (with_reducible exact LeO.none _)
      | (with_reducible refine LeO.ite ?_ ?_)
      | (with_reducible refine LeO.bind ?_ (fun _ => ?_))
theorem spec_PairsWithin.mono : ∀ a0 a1 a2 a3 k, LeO (spec_PairsWithin.f k a0 a1 a2 a3) (spec_PairsWithin.f (k + 1) a0 a1 a2 a3) := by
  intro a0 a1 a2 a3 k
  obtain ⟨ih0, ih1, ih2⟩ := spec_PairsWithin.mono_l k
  unfold spec_PairsWithin.f
  repeat' first
      | (with_reducible exact ih0 _ _ _ _ _)
      | (with_reducible exact ih1 _ _ _ _ _ _ _ _)
      | (with_reducible exact ih2 _ _ _ _ _ _ _ _ _ _ _ _ _)
      | (with_reducible exact spec_quLike.mono _ _ _)
      | (with_reducible exact spec_quPattern.mono _ _)
      | (with_reducible exact spec_tiGood.mono _ _)
      | (with_reducible exact LeO.refl _)
      | (with_reducible exact LeO.none _)
      | (with_reducible refine LeO.ite ?_ ?_)
      | (with_reducible refine LeO.bind ?_ (fun _ => ?_))
noncomputable def spec_PairsWithin.J0 (x0 : List (S66)) (x1 : ByteArray) (x2 : ByteArray) (x3 : Int) (x31 : Bool) : Option ((List (List Int)) × Bool) := lim fun k => spec_PairsWithin.j0 k x0 x1 x2 x3 x31
theorem spec_PairsWithin.J0_lim (x0 : List (S66)) (x1 : ByteArray) (x2 : ByteArray) (x3 : Int) (x31 : Bool) : Lim (fun k => spec_PairsWithin.j0 k x0 x1 x2 x3 x31) (spec_PairsWithin.J0 x0 x1 x2 x3 x31) := ⟨fun k => (spec_PairsWithin.mono_l k).1 x0 x1 x2 x3 x31, rfl⟩
noncomputable def spec_PairsWithin.L0 (x0 : List (S66)) (x1 : ByteArray) (x2 : ByteArray) (x3 : Int) (x10 : List (List Int)) (x32 : List (S66)) (x33 : Int) (x34 : Int) : Option ((List (List Int)) × Bool) := lim fun k => spec_PairsWithin.l0 k x0 x1 x2 x3 x10 x32 x33 x34
theorem spec_PairsWithin.L0_lim (x0 : List (S66)) (x1 : ByteArray) (x2 : ByteArray) (x3 : Int) (x10 : List (List Int)) (x32 : List (S66)) (x33 : Int) (x34 : Int) : Lim (fun k => spec_PairsWithin.l0 k x0 x1 x2 x3 x10 x32 x33 x34) (spec_PairsWithin.L0 x0 x1 x2 x3 x10 x32 x33 x34) := ⟨fun k => (spec_PairsWithin.mono_l k).2.1 x0 x1 x2 x3 x10 x32 x33 x34, rfl⟩
noncomputable def spec_PairsWithin.L1 (x0 : List (S66)) (x1 : ByteArray) (x2 : ByteArray) (x3 : Int) (x10 : List (List Int)) (x11 : Int) (x13 : Int) (x32 : List (S66)) (x33 : Int) (x34 : Int) (x176000 : Int) (x176001 : Int) (x176002 : ByteArray) : Option ((List (List Int)) × Bool) := lim fun k => spec_PairsWithin.l1 k x0 x1 x2 x3 x10 x11 x13 x32 x33 x34 x176000 x176001 x176002
theorem spec_PairsWithin.L1_lim (x0 : List (S66)) (x1 : ByteArray) (x2 : ByteArray) (x3 : Int) (x10 : List (List Int)) (x11 : Int) (x13 : Int) (x32 : List (S66)) (x33 : Int) (x34 : Int) (x176000 : Int) (x176001 : Int) (x176002 : ByteArray) : Lim (fun k => spec_PairsWithin.l1 k x0 x1 x2 x3 x10 x11 x13 x32 x33 x34 x176000 x176001 x176002) (spec_PairsWithin.L1 x0 x1 x2 x3 x10 x11 x13 x32 x33 x34 x176000 x176001 x176002) := ⟨fun k => (spec_PairsWithin.mono_l k).2.2 x0 x1 x2 x3 x10 x11 x13 x32 x33 x34 x176000 x176001 x176002, rfl⟩
noncomputable def spec_PairsWithin.F (l0 : List (S66)) (a1 : ByteArray) (a2 : ByteArray) (a3 : Int) : Option ((List (List Int)) × Bool) := lim fun k => spec_PairsWithin.f k l0 a1 a2 a3
theorem spec_PairsWithin.F_lim (l0 : List (S66)) (a1 : ByteArray) (a2 : ByteArray) (a3 : Int) : Lim (fun k => spec_PairsWithin.f k l0 a1 a2 a3) (spec_PairsWithin.F l0 a1 a2 a3) := ⟨spec_PairsWithin.mono l0 a1 a2 a3, rfl⟩
theorem spec_PairsWithin.J0_eq (x0 : List (S66)) (x1 : ByteArray) (x2 : ByteArray) (x3 : Int) (x31 : Bool) : spec_PairsWithin.J0 x0 x1 x2 x3 x31 = (if x31 = true then (some (([] : List (List Int)), false)) else (spec_PairsWithin.L0 x0 x1 x2 x3 ([] : List (List Int)) x0 (x0.length : Int) 0)) := by
  refine Lim.succ_eq (spec_PairsWithin.J0_lim x0 x1 x2 x3 x31).mon ?_
  simp only [spec_PairsWithin.j0]
  repeat' first
  | (with_reducible exact spec_PairsWithin.J0_lim _ _ _ _ _)
  | (with_reducible exact spec_PairsWithin.L0_lim _ _ _ _ _ _ _ _)
  | (with_reducible exact spec_PairsWithin.L1_lim _ _ _ _ _ _ _ _ _ _ _ _ _)
  | (with_reducible exact spec_quLike.F_lim _ _)
  | (with_reducible exact spec_quPattern.F_lim _)
  | (with_reducible exact spec_tiGood.F_lim _)
  | (with_reducible refine Lim.ite ?_ ?_)
  | (with_reducible refine Lim.bind ?_ (fun _ => ?_))
  | (with_reducible exact Lim.const _)
theorem spec_PairsWithin.L0_eq (x0 : List (S66)) (x1 : ByteArray) (x2 : ByteArray) (x3 : Int) (x10 : List (List Int)) (x32 : List (S66)) (x33 : Int) (x34 : Int) : spec_PairsWithin.L0 x0 x1 x2 x3 x10 x32 x33 x34 = (if x34 < x33 then (if 0 ≤ x34 then (if x34 < (x32.length : Int) then (spec_PairsWithin.L1 x0 x1 x2 x3 x10 x34 (wrap64 (x34 + 1)) x32 x33 x34 ((rd_T66 x32 x34).f0) ((rd_T66 x32 x34).f1) ((rd_T66 x32 x34).f2)) else (none)) else (none)) else (some (x10, true))) := by
  refine Lim.succ_eq (spec_PairsWithin.L0_lim x0 x1 x2 x3 x10 x32 x33 x34).mon ?_
  simp only [spec_PairsWithin.l0]
  repeat' first
  | (with_reducible exact spec_PairsWithin.J0_lim _ _ _ _ _)
  | (with_reducible exact spec_PairsWithin.L0_lim _ _ _ _ _ _ _ _)
  | (with_reducible exact spec_PairsWithin.L1_lim _ _ _ _ _ _ _ _ _ _ _ _ _)
  | (with_reducible exact spec_quLike.F_lim _ _)
  | (with_reducible exact spec_quPattern.F_lim _)
  | (with_reducible exact spec_tiGood.F_lim _)
  | (with_reducible refine Lim.ite ?_ ?_)
  | (with_reducible refine Lim.bind ?_ (fun _ => ?_))
  | (with_reducible exact Lim.const _)
theorem spec_PairsWithin.L1_eq (x0 : List (S66)) (x1 : ByteArray) (x2 : ByteArray) (x3 : Int) (x10 : List (List Int)) (x11 : Int) (x13 : Int) (x32 : List (S66)) (x33 : Int) (x34 : Int) (x176000 : Int) (x176001 : Int) (x176002 : ByteArray) : spec_PairsWithin.L1 x0 x1 x2 x3 x10 x11 x13 x32 x33 x34 x176000 x176001 x176002 = (if x13 < (x0.length : Int) then ((spec_quLike.F x1 x176002).bind fun t176 => (if t176 = true then (if 0 ≤ x13 then ((spec_quLike.F x2 ((rd_T66 x0 x13).f2)).bind fun t178 => (if t178 = true then (if (wrap64 (((rd_T66 x0 x13).f0) - x176001)) ≤ x3 then (if x10.length < 5864062014805 then (spec_PairsWithin.L1 x0 x1 x2 x3 (x10 ++ [(([x11, x13] : List Int))]) x11 (wrap64 (x13 + 1)) x32 x33 x34 x176000 x176001 x176002) else (none)) else (spec_PairsWithin.L1 x0 x1 x2 x3 x10 x11 (wrap64 (x13 + 1)) x32 x33 x34 x176000 x176001 x176002)) else (spec_PairsWithin.L1 x0 x1 x2 x3 x10 x11 (wrap64 (x13 + 1)) x32 x33 x34 x176000 x176001 x176002))) else (none)) else (spec_PairsWithin.L1 x0 x1 x2 x3 x10 x11 (wrap64 (x13 + 1)) x32 x33 x34 x176000 x176001 x176002))) else (spec_PairsWithin.L0 x0 x1 x2 x3 x10 x32 x33 (wrap64 (x34 + 1)))) := by
  refine Lim.succ_eq (spec_PairsWithin.L1_lim x0 x1 x2 x3 x10 x11 x13 x32 x33 x34 x176000 x176001 x176002).mon ?_
  simp only [spec_PairsWithin.l1]
  repeat' first
  | (with_reducible exact spec_PairsWithin.J0_lim _ _ _ _ _)
  | (with_reducible exact spec_PairsWithin.L0_lim _ _ _ _ _ _ _ _)
  | (with_reducible exact spec_PairsWithin.L1_lim _ _ _ _ _ _ _ _ _ _ _ _ _)
  | (with_reducible exact spec_quLike.F_lim _ _)
  | (with_reducible exact spec_quPattern.F_lim _)
  | (with_reducible exact spec_tiGood.F_lim _)
  | (with_reducible refine Lim.ite ?_ ?_)
  | (with_reducible refine Lim.bind ?_ (fun _ => ?_))
  | (with_reducible exact Lim.const _)
theorem spec_PairsWithin.F_eq (l0 : List (S66)) (a1 : ByteArray) (a2 : ByteArray) (a3 : Int) : spec_PairsWithin.F l0 a1 a2 a3 = ((spec_tiGood.F l0).bind fun t170 => (if t170 = true then ((spec_quPattern.F a1).bind fun t171 => (if t171 = true then ((spec_quPattern.F a2).bind fun t172 => (if t172 = true then ((spec_tiFrame.f a3).bind fun t173 => (spec_PairsWithin.J0 l0 a1 a2 a3 (!t173))) else (spec_PairsWithin.J0 l0 a1 a2 a3 true))) else (spec_PairsWithin.J0 l0 a1 a2 a3 true))) else (spec_PairsWithin.J0 l0 a1 a2 a3 true))) := by
  refine Lim.eq_ ?_
  simp only [spec_PairsWithin.f]
  repeat' first
  | (with_reducible exact spec_PairsWithin.J0_lim _ _ _ _ _)
  | (with_reducible exact spec_PairsWithin.L0_lim _ _ _ _ _ _ _ _)
  | (with_reducible exact spec_PairsWithin.L1_lim _ _ _ _ _ _ _ _ _ _ _ _ _)
  | (with_reducible exact spec_quLike.F_lim _ _)
  | (with_reducible exact spec_quPattern.F_lim _)
  | (with_reducible exact spec_tiGood.F_lim _)
  | (with_reducible refine Lim.ite ?_ ?_)
  | (with_reducible refine Lim.bind ?_ (fun _ => ?_))
  | (with_reducible exact Lim.const _)
mutual
def impl_PairsWithin.j0 : Nat → List (S66) → ByteArray → ByteArray → Int → Bool → Option ((List (List Int)) × Bool)
  | 0, _, _, _, _, _ => none
  | k + 1, x0, x1, x2, x3, x31 => if x31 = true then (some (([] : List (List Int)), false)) else (impl_PairsWithin.l0 k x0 x1 x2 x3 ([] : List (List Int)) x0 (x0.length : Int) 0)
def impl_PairsWithin.l0 : Nat → List (S66) → ByteArray → ByteArray → Int → List (List Int) → List (S66) → Int → Int → Option ((List (List Int)) × Bool)
  | 0, _, _, _, _, _, _, _, _ => none
  | k + 1, x0, x1, x2, x3, x10, x32, x33, x34 => if x34 < x33 then (if 0 ≤ x34 then (if x34 < (x32.length : Int) then (impl_PairsWithin.l1 k x0 x1 x2 x3 x10 x34 (wrap64 (x34 + 1)) x32 x33 x34 ((rd_T66 x32 x34).f0) ((rd_T66 x32 x34).f1) ((rd_T66 x32 x34).f2)) else (none)) else (none)) else (some (x10, true))
def impl_PairsWithin.l1 : Nat → List (S66) → ByteArray → ByteArray → Int → List (List Int) → Int → Int → List (S66) → Int → Int → Int → Int → ByteArray → Option ((List (List Int)) × Bool)
  | 0, _, _, _, _, _, _, _, _, _, _, _, _, _ => none
  | k + 1, x0, x1, x2, x3, x10, x11, x13, x32, x33, x34, x192000, x192001, x192002 => if x13 < (x0.length : Int) then ((impl_fits.f k x1 x192002).bind fun t192 => (if t192 = true then (if 0 ≤ x13 then ((impl_fits.f k x2 ((rd_T66 x0 x13).f2)).bind fun t194 => (if t194 = true then (if (wrap64 (((rd_T66 x0 x13).f0) - x192001)) ≤ x3 then (if x10.length < 5864062014805 then (impl_PairsWithin.l1 k x0 x1 x2 x3 (x10 ++ [(([x11, x13] : List Int))]) x11 (wrap64 (x13 + 1)) x32 x33 x34 x192000 x192001 x192002) else (none)) else (impl_PairsWithin.l1 k x0 x1 x2 x3 x10 x11 (wrap64 (x13 + 1)) x32 x33 x34 x192000 x192001 x192002)) else (impl_PairsWithin.l1 k x0 x1 x2 x3 x10 x11 (wrap64 (x13 + 1)) x32 x33 x34 x192000 x192001 x192002))) else (none)) else (impl_PairsWithin.l1 k x0 x1 x2 x3 x10 x11 (wrap64 (x13 + 1)) x32 x33 x34 x192000 x192001 x192002))) else (impl_PairsWithin.l0 k x0 x1 x2 x3 x10 x32 x33 (wrap64 (x34 + 1)))
end
def impl_PairsWithin.f (k : Nat) (l0 : List (S66)) (a1 : ByteArray) (a2 : ByteArray) (a3 : Int) : Option ((List (List Int)) × Bool) := (impl_IsTier.f k l0).bind fun t186 => (if t186 = true then ((impl_isGlossPattern.f k a1).bind fun t187 => (if t187 = true then ((impl_isGlossPattern.f k a2).bind fun t188 => (if t188 = true then ((impl_isFrame.f a3).bind fun t189 => (impl_PairsWithin.j0 k l0 a1 a2 a3 (!t189))) else (impl_PairsWithin.j0 k l0 a1 a2 a3 true))) else (impl_PairsWithin.j0 k l0 a1 a2 a3 true))) else (impl_PairsWithin.j0 k l0 a1 a2 a3 true))
theorem impl_PairsWithin.mono_l : ∀ k, (∀ y0 y1 y2 y3 y4, LeO (impl_PairsWithin.j0 k y0 y1 y2 y3 y4) (impl_PairsWithin.j0 (k + 1) y0 y1 y2 y3 y4)) ∧ (∀ y0 y1 y2 y3 y4 y5 y6 y7, LeO (impl_PairsWithin.l0 k y0 y1 y2 y3 y4 y5 y6 y7) (impl_PairsWithin.l0 (k + 1) y0 y1 y2 y3 y4 y5 y6 y7)) ∧ (∀ y0 y1 y2 y3 y4 y5 y6 y7 y8 y9 y10 y11 y12, LeO (impl_PairsWithin.l1 k y0 y1 y2 y3 y4 y5 y6 y7 y8 y9 y10 y11 y12) (impl_PairsWithin.l1 (k + 1) y0 y1 y2 y3 y4 y5 y6 y7 y8 y9 y10 y11 y12))
  | 0 => ⟨fun _ _ _ _ _ r h => by simp [impl_PairsWithin.j0] at h, fun _ _ _ _ _ _ _ _ r h => by simp [impl_PairsWithin.l0] at h, fun _ _ _ _ _ _ _ _ _ _ _ _ _ r h => by simp [impl_PairsWithin.l1] at h⟩
  | k + 1 => by
    obtain ⟨ih0, ih1, ih2⟩ := impl_PairsWithin.mono_l k
    refine ⟨?_, ?_, ?_⟩
    · intro y0 y1 y2 y3 y4
      unfold impl_PairsWithin.j0
      repeat' first
      | (with_reducible exact ih0 _ _ _ _ _)
      | (with_reducible exact ih1 _ _ _ _ _ _ _ _)
      | (with_reducible exact ih2 _ _ _ _ _ _ _ _ _ _ _ _ _)
      | (with_reducible exact impl_IsTier.mono _ _)
      | (with_reducible exact impl_fits.mono _ _ _)
      | (with_reducible exact impl_isGlossPattern.mono _ _)
      | (with_reducible exact LeO.refl _)
      | (with_reducible exact LeO.none _)
      | (with_reducible refine LeO.ite ?_ ?_)
      | (with_reducible refine LeO.bind ?_ (fun _ => ?_))
    · intro y0 y1 y2 y3 y4 y5 y6 y7
      unfold impl_PairsWithin.l0
      repeat' first
      | (with_reducible exact ih0 _ _ _ _ _)
      | (with_reducible exact ih1 _ _ _ _ _ _ _ _)
      | (with_reducible exact ih2 _ _ _ _ _ _ _ _ _ _ _ _ _)
      | (with_reducible exact impl_IsTier.mono _ _)
      | (with_reducible exact impl_fits.mono _ _ _)
      | (with_reducible exact impl_isGlossPattern.mono _ _)
      | (with_reducible exact LeO.refl _)
      | (with_reducible exact LeO.none _)
      | (with_reducible refine LeO.ite ?_ ?_)
      | (with_reducible refine LeO.bind ?_ (fun _ => ?_))
    · intro y0 y1 y2 y3 y4 y5 y6 y7 y8 y9 y10 y11 y12
      unfold impl_PairsWithin.l1
      repeat' first
      | (with_reducible exact ih0 _ _ _ _ _)
      | (with_reducible exact ih1 _ _ _ _ _ _ _ _)
      | (with_reducible exact ih2 _ _ _ _ _ _ _ _ _ _ _ _ _)
      | (with_reducible exact impl_IsTier.mono _ _)
      | (with_reducible exact impl_fits.mono _ _ _)
      | (with_reducible exact impl_isGlossPattern.mono _ _)
      | (with_reducible exact LeO.refl _)
      | (with_reducible exact LeO.none _)
      | (with_reducible refine LeO.ite ?_ ?_)
      | (with_reducible refine LeO.bind ?_ (fun _ => ?_))
theorem impl_PairsWithin.mono : ∀ a0 a1 a2 a3 k, LeO (impl_PairsWithin.f k a0 a1 a2 a3) (impl_PairsWithin.f (k + 1) a0 a1 a2 a3) := by
  intro a0 a1 a2 a3 k
  obtain ⟨ih0, ih1, ih2⟩ := impl_PairsWithin.mono_l k
  unfold impl_PairsWithin.f
  repeat' first
      | (with_reducible exact ih0 _ _ _ _ _)
      | (with_reducible exact ih1 _ _ _ _ _ _ _ _)
      | (with_reducible exact ih2 _ _ _ _ _ _ _ _ _ _ _ _ _)
      | (with_reducible exact impl_IsTier.mono _ _)
      | (with_reducible exact impl_fits.mono _ _ _)
      | (with_reducible exact impl_isGlossPattern.mono _ _)
      | (with_reducible exact LeO.refl _)
      | (with_reducible exact LeO.none _)
      | (with_reducible refine LeO.ite ?_ ?_)
      | (with_reducible refine LeO.bind ?_ (fun _ => ?_))
noncomputable def impl_PairsWithin.J0 (x0 : List (S66)) (x1 : ByteArray) (x2 : ByteArray) (x3 : Int) (x31 : Bool) : Option ((List (List Int)) × Bool) := lim fun k => impl_PairsWithin.j0 k x0 x1 x2 x3 x31
theorem impl_PairsWithin.J0_lim (x0 : List (S66)) (x1 : ByteArray) (x2 : ByteArray) (x3 : Int) (x31 : Bool) : Lim (fun k => impl_PairsWithin.j0 k x0 x1 x2 x3 x31) (impl_PairsWithin.J0 x0 x1 x2 x3 x31) := ⟨fun k => (impl_PairsWithin.mono_l k).1 x0 x1 x2 x3 x31, rfl⟩
noncomputable def impl_PairsWithin.L0 (x0 : List (S66)) (x1 : ByteArray) (x2 : ByteArray) (x3 : Int) (x10 : List (List Int)) (x32 : List (S66)) (x33 : Int) (x34 : Int) : Option ((List (List Int)) × Bool) := lim fun k => impl_PairsWithin.l0 k x0 x1 x2 x3 x10 x32 x33 x34
theorem impl_PairsWithin.L0_lim (x0 : List (S66)) (x1 : ByteArray) (x2 : ByteArray) (x3 : Int) (x10 : List (List Int)) (x32 : List (S66)) (x33 : Int) (x34 : Int) : Lim (fun k => impl_PairsWithin.l0 k x0 x1 x2 x3 x10 x32 x33 x34) (impl_PairsWithin.L0 x0 x1 x2 x3 x10 x32 x33 x34) := ⟨fun k => (impl_PairsWithin.mono_l k).2.1 x0 x1 x2 x3 x10 x32 x33 x34, rfl⟩
noncomputable def impl_PairsWithin.L1 (x0 : List (S66)) (x1 : ByteArray) (x2 : ByteArray) (x3 : Int) (x10 : List (List Int)) (x11 : Int) (x13 : Int) (x32 : List (S66)) (x33 : Int) (x34 : Int) (x192000 : Int) (x192001 : Int) (x192002 : ByteArray) : Option ((List (List Int)) × Bool) := lim fun k => impl_PairsWithin.l1 k x0 x1 x2 x3 x10 x11 x13 x32 x33 x34 x192000 x192001 x192002
theorem impl_PairsWithin.L1_lim (x0 : List (S66)) (x1 : ByteArray) (x2 : ByteArray) (x3 : Int) (x10 : List (List Int)) (x11 : Int) (x13 : Int) (x32 : List (S66)) (x33 : Int) (x34 : Int) (x192000 : Int) (x192001 : Int) (x192002 : ByteArray) : Lim (fun k => impl_PairsWithin.l1 k x0 x1 x2 x3 x10 x11 x13 x32 x33 x34 x192000 x192001 x192002) (impl_PairsWithin.L1 x0 x1 x2 x3 x10 x11 x13 x32 x33 x34 x192000 x192001 x192002) := ⟨fun k => (impl_PairsWithin.mono_l k).2.2 x0 x1 x2 x3 x10 x11 x13 x32 x33 x34 x192000 x192001 x192002, rfl⟩
noncomputable def impl_PairsWithin.F (l0 : List (S66)) (a1 : ByteArray) (a2 : ByteArray) (a3 : Int) : Option ((List (List Int)) × Bool) := lim fun k => impl_PairsWithin.f k l0 a1 a2 a3
theorem impl_PairsWithin.F_lim (l0 : List (S66)) (a1 : ByteArray) (a2 : ByteArray) (a3 : Int) : Lim (fun k => impl_PairsWithin.f k l0 a1 a2 a3) (impl_PairsWithin.F l0 a1 a2 a3) := ⟨impl_PairsWithin.mono l0 a1 a2 a3, rfl⟩
theorem impl_PairsWithin.J0_eq (x0 : List (S66)) (x1 : ByteArray) (x2 : ByteArray) (x3 : Int) (x31 : Bool) : impl_PairsWithin.J0 x0 x1 x2 x3 x31 = (if x31 = true then (some (([] : List (List Int)), false)) else (impl_PairsWithin.L0 x0 x1 x2 x3 ([] : List (List Int)) x0 (x0.length : Int) 0)) := by
  refine Lim.succ_eq (impl_PairsWithin.J0_lim x0 x1 x2 x3 x31).mon ?_
  simp only [impl_PairsWithin.j0]
  repeat' first
  | (with_reducible exact impl_PairsWithin.J0_lim _ _ _ _ _)
  | (with_reducible exact impl_PairsWithin.L0_lim _ _ _ _ _ _ _ _)
  | (with_reducible exact impl_PairsWithin.L1_lim _ _ _ _ _ _ _ _ _ _ _ _ _)
  | (with_reducible exact impl_IsTier.F_lim _)
  | (with_reducible exact impl_fits.F_lim _ _)
  | (with_reducible exact impl_isGlossPattern.F_lim _)
  | (with_reducible refine Lim.ite ?_ ?_)
  | (with_reducible refine Lim.bind ?_ (fun _ => ?_))
  | (with_reducible exact Lim.const _)
theorem impl_PairsWithin.L0_eq (x0 : List (S66)) (x1 : ByteArray) (x2 : ByteArray) (x3 : Int) (x10 : List (List Int)) (x32 : List (S66)) (x33 : Int) (x34 : Int) : impl_PairsWithin.L0 x0 x1 x2 x3 x10 x32 x33 x34 = (if x34 < x33 then (if 0 ≤ x34 then (if x34 < (x32.length : Int) then (impl_PairsWithin.L1 x0 x1 x2 x3 x10 x34 (wrap64 (x34 + 1)) x32 x33 x34 ((rd_T66 x32 x34).f0) ((rd_T66 x32 x34).f1) ((rd_T66 x32 x34).f2)) else (none)) else (none)) else (some (x10, true))) := by
  refine Lim.succ_eq (impl_PairsWithin.L0_lim x0 x1 x2 x3 x10 x32 x33 x34).mon ?_
  simp only [impl_PairsWithin.l0]
  repeat' first
  | (with_reducible exact impl_PairsWithin.J0_lim _ _ _ _ _)
  | (with_reducible exact impl_PairsWithin.L0_lim _ _ _ _ _ _ _ _)
  | (with_reducible exact impl_PairsWithin.L1_lim _ _ _ _ _ _ _ _ _ _ _ _ _)
  | (with_reducible exact impl_IsTier.F_lim _)
  | (with_reducible exact impl_fits.F_lim _ _)
  | (with_reducible exact impl_isGlossPattern.F_lim _)
  | (with_reducible refine Lim.ite ?_ ?_)
  | (with_reducible refine Lim.bind ?_ (fun _ => ?_))
  | (with_reducible exact Lim.const _)
theorem impl_PairsWithin.L1_eq (x0 : List (S66)) (x1 : ByteArray) (x2 : ByteArray) (x3 : Int) (x10 : List (List Int)) (x11 : Int) (x13 : Int) (x32 : List (S66)) (x33 : Int) (x34 : Int) (x192000 : Int) (x192001 : Int) (x192002 : ByteArray) : impl_PairsWithin.L1 x0 x1 x2 x3 x10 x11 x13 x32 x33 x34 x192000 x192001 x192002 = (if x13 < (x0.length : Int) then ((impl_fits.F x1 x192002).bind fun t192 => (if t192 = true then (if 0 ≤ x13 then ((impl_fits.F x2 ((rd_T66 x0 x13).f2)).bind fun t194 => (if t194 = true then (if (wrap64 (((rd_T66 x0 x13).f0) - x192001)) ≤ x3 then (if x10.length < 5864062014805 then (impl_PairsWithin.L1 x0 x1 x2 x3 (x10 ++ [(([x11, x13] : List Int))]) x11 (wrap64 (x13 + 1)) x32 x33 x34 x192000 x192001 x192002) else (none)) else (impl_PairsWithin.L1 x0 x1 x2 x3 x10 x11 (wrap64 (x13 + 1)) x32 x33 x34 x192000 x192001 x192002)) else (impl_PairsWithin.L1 x0 x1 x2 x3 x10 x11 (wrap64 (x13 + 1)) x32 x33 x34 x192000 x192001 x192002))) else (none)) else (impl_PairsWithin.L1 x0 x1 x2 x3 x10 x11 (wrap64 (x13 + 1)) x32 x33 x34 x192000 x192001 x192002))) else (impl_PairsWithin.L0 x0 x1 x2 x3 x10 x32 x33 (wrap64 (x34 + 1)))) := by
  refine Lim.succ_eq (impl_PairsWithin.L1_lim x0 x1 x2 x3 x10 x11 x13 x32 x33 x34 x192000 x192001 x192002).mon ?_
  simp only [impl_PairsWithin.l1]
  repeat' first
  | (with_reducible exact impl_PairsWithin.J0_lim _ _ _ _ _)
  | (with_reducible exact impl_PairsWithin.L0_lim _ _ _ _ _ _ _ _)
  | (with_reducible exact impl_PairsWithin.L1_lim _ _ _ _ _ _ _ _ _ _ _ _ _)
  | (with_reducible exact impl_IsTier.F_lim _)
  | (with_reducible exact impl_fits.F_lim _ _)
  | (with_reducible exact impl_isGlossPattern.F_lim _)
  | (with_reducible refine Lim.ite ?_ ?_)
  | (with_reducible refine Lim.bind ?_ (fun _ => ?_))
  | (with_reducible exact Lim.const _)
theorem impl_PairsWithin.F_eq (l0 : List (S66)) (a1 : ByteArray) (a2 : ByteArray) (a3 : Int) : impl_PairsWithin.F l0 a1 a2 a3 = ((impl_IsTier.F l0).bind fun t186 => (if t186 = true then ((impl_isGlossPattern.F a1).bind fun t187 => (if t187 = true then ((impl_isGlossPattern.F a2).bind fun t188 => (if t188 = true then ((impl_isFrame.f a3).bind fun t189 => (impl_PairsWithin.J0 l0 a1 a2 a3 (!t189))) else (impl_PairsWithin.J0 l0 a1 a2 a3 true))) else (impl_PairsWithin.J0 l0 a1 a2 a3 true))) else (impl_PairsWithin.J0 l0 a1 a2 a3 true))) := by
  refine Lim.eq_ ?_
  simp only [impl_PairsWithin.f]
  repeat' first
  | (with_reducible exact impl_PairsWithin.J0_lim _ _ _ _ _)
  | (with_reducible exact impl_PairsWithin.L0_lim _ _ _ _ _ _ _ _)
  | (with_reducible exact impl_PairsWithin.L1_lim _ _ _ _ _ _ _ _ _ _ _ _ _)
  | (with_reducible exact impl_IsTier.F_lim _)
  | (with_reducible exact impl_fits.F_lim _ _)
  | (with_reducible exact impl_isGlossPattern.F_lim _)
  | (with_reducible refine Lim.ite ?_ ?_)
  | (with_reducible refine Lim.bind ?_ (fun _ => ?_))
  | (with_reducible exact Lim.const _)
mutual
def spec_SequencesOf.j0 : Nat → List (S66) → List ByteArray → Bool → Option (List Int × Bool)
  | 0, _, _, _ => none
  | k + 1, x0, x1, x21 => if x21 = true then (some (([] : List Int), false)) else (spec_SequencesOf.l0 k x0 x1 x1 (x1.length : Int) 0)
def spec_SequencesOf.l0 : Nat → List (S66) → List ByteArray → List ByteArray → Int → Int → Option (List Int × Bool)
  | 0, _, _, _, _, _ => none
  | k + 1, x0, x1, x22, x23, x24 => if x24 < x23 then (if 0 ≤ x24 then (if x24 < (x22.length : Int) then ((spec_quPattern.f k (rdOf ByteArray.empty x22 x24)).bind fun t205 => (if t205 = true then (spec_SequencesOf.l0 k x0 x1 x22 x23 (wrap64 (x24 + 1))) else (some (([] : List Int), false)))) else (none)) else (none)) else (spec_SequencesOf.l1 k x0 x1 ([] : List Int) 0)
def spec_SequencesOf.l1 : Nat → List (S66) → List ByteArray → List Int → Int → Option (List Int × Bool)
  | 0, _, _, _, _ => none
  | k + 1, x0, x1, x8, x9 => if (wrap64 (x9 + (x1.length : Int))) ≤ (x0.length : Int) then (spec_SequencesOf.l2 k x0 x1 x8 x9 true x1 (x1.length : Int) 0) else (some (x8, true))
def spec_SequencesOf.l2 : Nat → List (S66) → List ByteArray → List Int → Int → Bool → List ByteArray → Int → Int → Option (List Int × Bool)
  | 0, _, _, _, _, _, _, _, _ => none
  | k + 1, x0, x1, x8, x9, x10, x41, x42, x43 => if x43 < x42 then (if 0 ≤ x43 then (if x43 < (x41.length : Int) then (if x10 = true then (if 0 ≤ (wrap64 (x9 + x43)) then (if (wrap64 (x9 + x43)) < (x0.length : Int) then ((spec_quLike.f k (rdOf ByteArray.empty x41 x43) ((rd_T66 x0 (wrap64 (x9 + x43))).f2)).bind fun t208 => (spec_SequencesOf.l2 k x0 x1 x8 x9 t208 x41 x42 (wrap64 (x43 + 1)))) else (none)) else (none)) else (spec_SequencesOf.l2 k x0 x1 x8 x9 false x41 x42 (wrap64 (x43 + 1)))) else (none)) else (none)) else (if x10 = true then (if x8.length < 17592186044416 then (spec_SequencesOf.l1 k x0 x1 (x8 ++ [x9]) (wrap64 (x9 + 1))) else (none)) else (spec_SequencesOf.l1 k x0 x1 x8 (wrap64 (x9 + 1))))
end
def spec_SequencesOf.f (k : Nat) (l0 : List (S66)) (l1 : List ByteArray) : Option (List Int × Bool) := (spec_tiGood.f k l0).bind fun t202 => (if t202 = true then ((spec_l1In.f (l1.length : Int) 1 8).bind fun t203 => (spec_SequencesOf.j0 k l0 l1 (!t203))) else (spec_SequencesOf.j0 k l0 l1 true))
theorem spec_SequencesOf.mono_l : ∀ k, (∀ y0 y1 y2, LeO (spec_SequencesOf.j0 k y0 y1 y2) (spec_SequencesOf.j0 (k + 1) y0 y1 y2)) ∧ (∀ y0 y1 y2 y3 y4, LeO (spec_SequencesOf.l0 k y0 y1 y2 y3 y4) (spec_SequencesOf.l0 (k + 1) y0 y1 y2 y3 y4)) ∧ (∀ y0 y1 y2 y3, LeO (spec_SequencesOf.l1 k y0 y1 y2 y3) (spec_SequencesOf.l1 (k + 1) y0 y1 y2 y3)) ∧ (∀ y0 y1 y2 y3 y4 y5 y6 y7, LeO (spec_SequencesOf.l2 k y0 y1 y2 y3 y4 y5 y6 y7) (spec_SequencesOf.l2 (k + 1) y0 y1 y2 y3 y4 y5 y6 y7))
  | 0 => ⟨fun _ _ _ r h => by simp [spec_SequencesOf.j0] at h, fun _ _ _ _ _ r h => by simp [spec_SequencesOf.l0] at h, fun _ _ _ _ r h => by simp [spec_SequencesOf.l1] at h, fun _ _ _ _ _ _ _ _ r h => by simp [spec_SequencesOf.l2] at h⟩
  | k + 1 => by
    obtain ⟨ih0, ih1, ih2, ih3⟩ := spec_SequencesOf.mono_l k
    refine ⟨?_, ?_, ?_, ?_⟩
    · intro y0 y1 y2
      unfold spec_SequencesOf.j0
      repeat' first
      | (with_reducible exact ih0 _ _ _)
      | (with_reducible exact ih1 _ _ _ _ _)
      | (with_reducible exact ih2 _ _ _ _)
      | (with_reducible exact ih3 _ _ _ _ _ _ _ _)
      | (with_reducible exact spec_quLike.mono _ _ _)
      | (with_reducible exact spec_quPattern.mono _ _)
      | (with_reducible exact spec_tiGood.mono _ _)
      | (with_reducible exact LeO.refl _)
      | (with_reducible exact LeO.none _)
      | (with_reducible refine LeO.ite ?_ ?_)
      | (with_reducible refine LeO.bind ?_ (fun _ => ?_))
    · intro y0 y1 y2 y3 y4
      unfold spec_SequencesOf.l0
      repeat' first
      | (with_reducible exact ih0 _ _ _)
      | (with_reducible exact ih1 _ _ _ _ _)
      | (with_reducible exact ih2 _ _ _ _)
      | (with_reducible exact ih3 _ _ _ _ _ _ _ _)
      | (with_reducible exact spec_quLike.mono _ _ _)
      | (with_reducible exact spec_quPattern.mono _ _)
      | (with_reducible exact spec_tiGood.mono _ _)
      | (with_reducible exact LeO.refl _)
      | (with_reducible exact LeO.none _)
      | (with_reducible refine LeO.ite ?_ ?_)
      | (with_reducible refine LeO.bind ?_ (fun _ => ?_))
    · intro y0 y1 y2 y3
      unfold spec_SequencesOf.l1
      repeat' first
      | (with_reducible exact ih0 _ _ _)
      | (with_reducible exact ih1 _ _ _ _ _)
      | (with_reducible exact ih2 _ _ _ _)
      | (with_reducible exact ih3 _ _ _ _ _ _ _ _)
      | (with_reducible exact spec_quLike.mono _ _ _)
      | (with_reducible exact spec_quPattern.mono _ _)
      | (with_reducible exact spec_tiGood.mono _ _)
      | (with_reducible exact LeO.refl _)
      | (with_reducible exact LeO.none _)
      | (with_reducible refine LeO.ite ?_ ?_)
      | (with_reducible refine LeO.bind ?_ (fun _ => ?_))
    · intro y0 y1 y2 y3 y4 y5 y6 y7
      unfold spec_SequencesOf.l2
      repeat' first
      | (with_reducible exact ih0 _ _ _)
      | (with_reducible exact ih1 _ _ _ _ _)
      | (with_reducible exact ih2 _ _ _ _)
      | (with_reducible exact ih3 _ _ _ _ _ _ _ _)
      | (with_reducible exact spec_quLike.mono _ _ _)
      | (with_reducible exact spec_quPattern.mono _ _)
      | (with_reducible exact spec_tiGood.mono _ _)
      | (with_reducible exact LeO.refl _)
      | (with_reducible exact LeO.none _)
      | (with_reducible refine LeO.ite ?_ ?_)
      | (with_reducible refine LeO.bind ?_ (fun _ => ?_))
theorem spec_SequencesOf.mono : ∀ a0 a1 k, LeO (spec_SequencesOf.f k a0 a1) (spec_SequencesOf.f (k + 1) a0 a1) := by
  intro a0 a1 k
  obtain ⟨ih0, ih1, ih2, ih3⟩ := spec_SequencesOf.mono_l k
  unfold spec_SequencesOf.f
  repeat' first
      | (with_reducible exact ih0 _ _ _)
      | (with_reducible exact ih1 _ _ _ _ _)
      | (with_reducible exact ih2 _ _ _ _)
      | (with_reducible exact ih3 _ _ _ _ _ _ _ _)
      | (with_reducible exact spec_quLike.mono _ _ _)
      | (with_reducible exact spec_quPattern.mono _ _)
      | (with_reducible exact spec_tiGood.mono _ _)
      | (with_reducible exact LeO.refl _)
      | (with_reducible exact LeO.none _)
      | (with_reducible refine LeO.ite ?_ ?_)
      | (with_reducible refine LeO.bind ?_ (fun _ => ?_))
noncomputable def spec_SequencesOf.J0 (x0 : List (S66)) (x1 : List ByteArray) (x21 : Bool) : Option (List Int × Bool) := lim fun k => spec_SequencesOf.j0 k x0 x1 x21
theorem spec_SequencesOf.J0_lim (x0 : List (S66)) (x1 : List ByteArray) (x21 : Bool) : Lim (fun k => spec_SequencesOf.j0 k x0 x1 x21) (spec_SequencesOf.J0 x0 x1 x21) := ⟨fun k => (spec_SequencesOf.mono_l k).1 x0 x1 x21, rfl⟩
noncomputable def spec_SequencesOf.L0 (x0 : List (S66)) (x1 : List ByteArray) (x22 : List ByteArray) (x23 : Int) (x24 : Int) : Option (List Int × Bool) := lim fun k => spec_SequencesOf.l0 k x0 x1 x22 x23 x24
theorem spec_SequencesOf.L0_lim (x0 : List (S66)) (x1 : List ByteArray) (x22 : List ByteArray) (x23 : Int) (x24 : Int) : Lim (fun k => spec_SequencesOf.l0 k x0 x1 x22 x23 x24) (spec_SequencesOf.L0 x0 x1 x22 x23 x24) := ⟨fun k => (spec_SequencesOf.mono_l k).2.1 x0 x1 x22 x23 x24, rfl⟩
noncomputable def spec_SequencesOf.L1 (x0 : List (S66)) (x1 : List ByteArray) (x8 : List Int) (x9 : Int) : Option (List Int × Bool) := lim fun k => spec_SequencesOf.l1 k x0 x1 x8 x9
theorem spec_SequencesOf.L1_lim (x0 : List (S66)) (x1 : List ByteArray) (x8 : List Int) (x9 : Int) : Lim (fun k => spec_SequencesOf.l1 k x0 x1 x8 x9) (spec_SequencesOf.L1 x0 x1 x8 x9) := ⟨fun k => (spec_SequencesOf.mono_l k).2.2.1 x0 x1 x8 x9, rfl⟩
noncomputable def spec_SequencesOf.L2 (x0 : List (S66)) (x1 : List ByteArray) (x8 : List Int) (x9 : Int) (x10 : Bool) (x41 : List ByteArray) (x42 : Int) (x43 : Int) : Option (List Int × Bool) := lim fun k => spec_SequencesOf.l2 k x0 x1 x8 x9 x10 x41 x42 x43
theorem spec_SequencesOf.L2_lim (x0 : List (S66)) (x1 : List ByteArray) (x8 : List Int) (x9 : Int) (x10 : Bool) (x41 : List ByteArray) (x42 : Int) (x43 : Int) : Lim (fun k => spec_SequencesOf.l2 k x0 x1 x8 x9 x10 x41 x42 x43) (spec_SequencesOf.L2 x0 x1 x8 x9 x10 x41 x42 x43) := ⟨fun k => (spec_SequencesOf.mono_l k).2.2.2 x0 x1 x8 x9 x10 x41 x42 x43, rfl⟩
noncomputable def spec_SequencesOf.F (l0 : List (S66)) (l1 : List ByteArray) : Option (List Int × Bool) := lim fun k => spec_SequencesOf.f k l0 l1
theorem spec_SequencesOf.F_lim (l0 : List (S66)) (l1 : List ByteArray) : Lim (fun k => spec_SequencesOf.f k l0 l1) (spec_SequencesOf.F l0 l1) := ⟨spec_SequencesOf.mono l0 l1, rfl⟩
theorem spec_SequencesOf.J0_eq (x0 : List (S66)) (x1 : List ByteArray) (x21 : Bool) : spec_SequencesOf.J0 x0 x1 x21 = (if x21 = true then (some (([] : List Int), false)) else (spec_SequencesOf.L0 x0 x1 x1 (x1.length : Int) 0)) := by
  refine Lim.succ_eq (spec_SequencesOf.J0_lim x0 x1 x21).mon ?_
  simp only [spec_SequencesOf.j0]
  repeat' first
  | (with_reducible exact spec_SequencesOf.J0_lim _ _ _)
  | (with_reducible exact spec_SequencesOf.L0_lim _ _ _ _ _)
  | (with_reducible exact spec_SequencesOf.L1_lim _ _ _ _)
  | (with_reducible exact spec_SequencesOf.L2_lim _ _ _ _ _ _ _ _)
  | (with_reducible exact spec_quLike.F_lim _ _)
  | (with_reducible exact spec_quPattern.F_lim _)
  | (with_reducible exact spec_tiGood.F_lim _)
  | (with_reducible refine Lim.ite ?_ ?_)
  | (with_reducible refine Lim.bind ?_ (fun _ => ?_))
  | (with_reducible exact Lim.const _)
theorem spec_SequencesOf.L0_eq (x0 : List (S66)) (x1 : List ByteArray) (x22 : List ByteArray) (x23 : Int) (x24 : Int) : spec_SequencesOf.L0 x0 x1 x22 x23 x24 = (if x24 < x23 then (if 0 ≤ x24 then (if x24 < (x22.length : Int) then ((spec_quPattern.F (rdOf ByteArray.empty x22 x24)).bind fun t205 => (if t205 = true then (spec_SequencesOf.L0 x0 x1 x22 x23 (wrap64 (x24 + 1))) else (some (([] : List Int), false)))) else (none)) else (none)) else (spec_SequencesOf.L1 x0 x1 ([] : List Int) 0)) := by
  refine Lim.succ_eq (spec_SequencesOf.L0_lim x0 x1 x22 x23 x24).mon ?_
  simp only [spec_SequencesOf.l0]
  repeat' first
  | (with_reducible exact spec_SequencesOf.J0_lim _ _ _)
  | (with_reducible exact spec_SequencesOf.L0_lim _ _ _ _ _)
  | (with_reducible exact spec_SequencesOf.L1_lim _ _ _ _)
  | (with_reducible exact spec_SequencesOf.L2_lim _ _ _ _ _ _ _ _)
  | (with_reducible exact spec_quLike.F_lim _ _)
  | (with_reducible exact spec_quPattern.F_lim _)
  | (with_reducible exact spec_tiGood.F_lim _)
  | (with_reducible refine Lim.ite ?_ ?_)
  | (with_reducible refine Lim.bind ?_ (fun _ => ?_))
  | (with_reducible exact Lim.const _)
theorem spec_SequencesOf.L1_eq (x0 : List (S66)) (x1 : List ByteArray) (x8 : List Int) (x9 : Int) : spec_SequencesOf.L1 x0 x1 x8 x9 = (if (wrap64 (x9 + (x1.length : Int))) ≤ (x0.length : Int) then (spec_SequencesOf.L2 x0 x1 x8 x9 true x1 (x1.length : Int) 0) else (some (x8, true))) := by
  refine Lim.succ_eq (spec_SequencesOf.L1_lim x0 x1 x8 x9).mon ?_
  simp only [spec_SequencesOf.l1]
  repeat' first
  | (with_reducible exact spec_SequencesOf.J0_lim _ _ _)
  | (with_reducible exact spec_SequencesOf.L0_lim _ _ _ _ _)
  | (with_reducible exact spec_SequencesOf.L1_lim _ _ _ _)
  | (with_reducible exact spec_SequencesOf.L2_lim _ _ _ _ _ _ _ _)
  | (with_reducible exact spec_quLike.F_lim _ _)
  | (with_reducible exact spec_quPattern.F_lim _)
  | (with_reducible exact spec_tiGood.F_lim _)
  | (with_reducible refine Lim.ite ?_ ?_)
  | (with_reducible refine Lim.bind ?_ (fun _ => ?_))
  | (with_reducible exact Lim.const _)
theorem spec_SequencesOf.L2_eq (x0 : List (S66)) (x1 : List ByteArray) (x8 : List Int) (x9 : Int) (x10 : Bool) (x41 : List ByteArray) (x42 : Int) (x43 : Int) : spec_SequencesOf.L2 x0 x1 x8 x9 x10 x41 x42 x43 = (if x43 < x42 then (if 0 ≤ x43 then (if x43 < (x41.length : Int) then (if x10 = true then (if 0 ≤ (wrap64 (x9 + x43)) then (if (wrap64 (x9 + x43)) < (x0.length : Int) then ((spec_quLike.F (rdOf ByteArray.empty x41 x43) ((rd_T66 x0 (wrap64 (x9 + x43))).f2)).bind fun t208 => (spec_SequencesOf.L2 x0 x1 x8 x9 t208 x41 x42 (wrap64 (x43 + 1)))) else (none)) else (none)) else (spec_SequencesOf.L2 x0 x1 x8 x9 false x41 x42 (wrap64 (x43 + 1)))) else (none)) else (none)) else (if x10 = true then (if x8.length < 17592186044416 then (spec_SequencesOf.L1 x0 x1 (x8 ++ [x9]) (wrap64 (x9 + 1))) else (none)) else (spec_SequencesOf.L1 x0 x1 x8 (wrap64 (x9 + 1))))) := by
  refine Lim.succ_eq (spec_SequencesOf.L2_lim x0 x1 x8 x9 x10 x41 x42 x43).mon ?_
  simp only [spec_SequencesOf.l2]
  repeat' first
  | (with_reducible exact spec_SequencesOf.J0_lim _ _ _)
  | (with_reducible exact spec_SequencesOf.L0_lim _ _ _ _ _)
  | (with_reducible exact spec_SequencesOf.L1_lim _ _ _ _)
  | (with_reducible exact spec_SequencesOf.L2_lim _ _ _ _ _ _ _ _)
  | (with_reducible exact spec_quLike.F_lim _ _)
  | (with_reducible exact spec_quPattern.F_lim _)
  | (with_reducible exact spec_tiGood.F_lim _)
  | (with_reducible refine Lim.ite ?_ ?_)
  | (with_reducible refine Lim.bind ?_ (fun _ => ?_))
  | (with_reducible exact Lim.const _)
theorem spec_SequencesOf.F_eq (l0 : List (S66)) (l1 : List ByteArray) : spec_SequencesOf.F l0 l1 = ((spec_tiGood.F l0).bind fun t202 => (if t202 = true then ((spec_l1In.f (l1.length : Int) 1 8).bind fun t203 => (spec_SequencesOf.J0 l0 l1 (!t203))) else (spec_SequencesOf.J0 l0 l1 true))) := by
  refine Lim.eq_ ?_
  simp only [spec_SequencesOf.f]
  repeat' first
  | (with_reducible exact spec_SequencesOf.J0_lim _ _ _)
  | (with_reducible exact spec_SequencesOf.L0_lim _ _ _ _ _)
  | (with_reducible exact spec_SequencesOf.L1_lim _ _ _ _)
  | (with_reducible exact spec_SequencesOf.L2_lim _ _ _ _ _ _ _ _)
  | (with_reducible exact spec_quLike.F_lim _ _)
  | (with_reducible exact spec_quPattern.F_lim _)
  | (with_reducible exact spec_tiGood.F_lim _)
  | (with_reducible refine Lim.ite ?_ ?_)
  | (with_reducible refine Lim.bind ?_ (fun _ => ?_))
  | (with_reducible exact Lim.const _)
def impl_allOf_string_1_impl_isGlossPattern.f (k : Nat) (a0 : ByteArray)  : Option (Bool) := (impl_isGlossPattern.f k a0).bind fun t212 => (some (!t212))
theorem impl_allOf_string_1_impl_isGlossPattern.mono : ∀ a0 k, LeO (impl_allOf_string_1_impl_isGlossPattern.f k a0) (impl_allOf_string_1_impl_isGlossPattern.f (k + 1) a0) := by
  intro a0 k
  unfold impl_allOf_string_1_impl_isGlossPattern.f
  repeat' first
      | (with_reducible exact impl_isGlossPattern.mono _ _)
      | (with_reducible exact LeO.refl _)
      | (with_reducible exact LeO.none _)
      | (with_reducible refine LeO.ite ?_ ?_)
      | (with_reducible refine LeO.bind ?_ (fun _ => ?_))
noncomputable def impl_allOf_string_1_impl_isGlossPattern.F (a0 : ByteArray)  : Option (Bool) := lim fun k => impl_allOf_string_1_impl_isGlossPattern.f k a0
theorem impl_allOf_string_1_impl_isGlossPattern.F_lim (a0 : ByteArray)  : Lim (fun k => impl_allOf_string_1_impl_isGlossPattern.f k a0) (impl_allOf_string_1_impl_isGlossPattern.F a0) := ⟨impl_allOf_string_1_impl_isGlossPattern.mono a0, rfl⟩
theorem impl_allOf_string_1_impl_isGlossPattern.F_eq (a0 : ByteArray)  : impl_allOf_string_1_impl_isGlossPattern.F a0 = ((impl_isGlossPattern.F a0).bind fun t212 => (some (!t212))) := by
  refine Lim.eq_ ?_
  simp only [impl_allOf_string_1_impl_isGlossPattern.f]
  repeat' first
  | (with_reducible exact impl_isGlossPattern.F_lim _)
  | (with_reducible refine Lim.ite ?_ ?_)
  | (with_reducible refine Lim.bind ?_ (fun _ => ?_))
  | (with_reducible exact Lim.const _)
def slices_IndexFunc_string_impl_allOf_string_1_impl_isGlossPattern.l0 : Nat → List ByteArray → Int → Int → Option (Int)
  | 0, _, _, _ => none
  | k + 1, x0, x7, x8 => if x8 < x7 then (if 0 ≤ x8 then (if x8 < (x0.length : Int) then ((impl_allOf_string_1_impl_isGlossPattern.f k (rdOf ByteArray.empty x0 x8)).bind fun t214 => (if t214 = true then (some x8) else (slices_IndexFunc_string_impl_allOf_string_1_impl_isGlossPattern.l0 k x0 x7 (wrap64 (x8 + 1))))) else (none)) else (none)) else (some (-1))
def slices_IndexFunc_string_impl_allOf_string_1_impl_isGlossPattern.f (k : Nat) (l0 : List ByteArray)  : Option (Int) := slices_IndexFunc_string_impl_allOf_string_1_impl_isGlossPattern.l0 k l0 (l0.length : Int) 0
theorem slices_IndexFunc_string_impl_allOf_string_1_impl_isGlossPattern.mono_l : ∀ k, (∀ y0 y1 y2, LeO (slices_IndexFunc_string_impl_allOf_string_1_impl_isGlossPattern.l0 k y0 y1 y2) (slices_IndexFunc_string_impl_allOf_string_1_impl_isGlossPattern.l0 (k + 1) y0 y1 y2))
  | 0 => fun _ _ _ r h => by simp [slices_IndexFunc_string_impl_allOf_string_1_impl_isGlossPattern.l0] at h
  | k + 1 => by
    have ih0 := slices_IndexFunc_string_impl_allOf_string_1_impl_isGlossPattern.mono_l k
    · intro y0 y1 y2
      unfold slices_IndexFunc_string_impl_allOf_string_1_impl_isGlossPattern.l0
      repeat' first
      | (with_reducible exact ih0 _ _ _)
      | (with_reducible exact impl_allOf_string_1_impl_isGlossPattern.mono _ _)
      | (with_reducible exact LeO.refl _)
      | (with_reducible exact LeO.none _)
      | (with_reducible refine LeO.ite ?_ ?_)
      | (with_reducible refine LeO.bind ?_ (fun _ => ?_))
theorem slices_IndexFunc_string_impl_allOf_string_1_impl_isGlossPattern.mono : ∀ a0 k, LeO (slices_IndexFunc_string_impl_allOf_string_1_impl_isGlossPattern.f k a0) (slices_IndexFunc_string_impl_allOf_string_1_impl_isGlossPattern.f (k + 1) a0) := by
  intro a0 k
  have ih0 := slices_IndexFunc_string_impl_allOf_string_1_impl_isGlossPattern.mono_l k
  unfold slices_IndexFunc_string_impl_allOf_string_1_impl_isGlossPattern.f
  repeat' first
      | (with_reducible exact ih0 _ _ _)
      | (with_reducible exact impl_allOf_string_1_impl_isGlossPattern.mono _ _)
      | (with_reducible exact LeO.refl _)
      | (with_reducible exact LeO.none _)
      | (with_reducible refine LeO.ite ?_ ?_)
      | (with_reducible refine LeO.bind ?_ (fun _ => ?_))
noncomputable def slices_IndexFunc_string_impl_allOf_string_1_impl_isGlossPattern.L0 (x0 : List ByteArray) (x7 : Int) (x8 : Int) : Option (Int) := lim fun k => slices_IndexFunc_string_impl_allOf_string_1_impl_isGlossPattern.l0 k x0 x7 x8
theorem slices_IndexFunc_string_impl_allOf_string_1_impl_isGlossPattern.L0_lim (x0 : List ByteArray) (x7 : Int) (x8 : Int) : Lim (fun k => slices_IndexFunc_string_impl_allOf_string_1_impl_isGlossPattern.l0 k x0 x7 x8) (slices_IndexFunc_string_impl_allOf_string_1_impl_isGlossPattern.L0 x0 x7 x8) := ⟨fun k => (slices_IndexFunc_string_impl_allOf_string_1_impl_isGlossPattern.mono_l k) x0 x7 x8, rfl⟩
noncomputable def slices_IndexFunc_string_impl_allOf_string_1_impl_isGlossPattern.F (l0 : List ByteArray)  : Option (Int) := lim fun k => slices_IndexFunc_string_impl_allOf_string_1_impl_isGlossPattern.f k l0
theorem slices_IndexFunc_string_impl_allOf_string_1_impl_isGlossPattern.F_lim (l0 : List ByteArray)  : Lim (fun k => slices_IndexFunc_string_impl_allOf_string_1_impl_isGlossPattern.f k l0) (slices_IndexFunc_string_impl_allOf_string_1_impl_isGlossPattern.F l0) := ⟨slices_IndexFunc_string_impl_allOf_string_1_impl_isGlossPattern.mono l0, rfl⟩
theorem slices_IndexFunc_string_impl_allOf_string_1_impl_isGlossPattern.L0_eq (x0 : List ByteArray) (x7 : Int) (x8 : Int) : slices_IndexFunc_string_impl_allOf_string_1_impl_isGlossPattern.L0 x0 x7 x8 = (if x8 < x7 then (if 0 ≤ x8 then (if x8 < (x0.length : Int) then ((impl_allOf_string_1_impl_isGlossPattern.F (rdOf ByteArray.empty x0 x8)).bind fun t214 => (if t214 = true then (some x8) else (slices_IndexFunc_string_impl_allOf_string_1_impl_isGlossPattern.L0 x0 x7 (wrap64 (x8 + 1))))) else (none)) else (none)) else (some (-1))) := by
  refine Lim.succ_eq (slices_IndexFunc_string_impl_allOf_string_1_impl_isGlossPattern.L0_lim x0 x7 x8).mon ?_
  simp only [slices_IndexFunc_string_impl_allOf_string_1_impl_isGlossPattern.l0]
  repeat' first
  | (with_reducible exact slices_IndexFunc_string_impl_allOf_string_1_impl_isGlossPattern.L0_lim _ _ _)
  | (with_reducible exact impl_allOf_string_1_impl_isGlossPattern.F_lim _)
  | (with_reducible refine Lim.ite ?_ ?_)
  | (with_reducible refine Lim.bind ?_ (fun _ => ?_))
  | (with_reducible exact Lim.const _)
theorem slices_IndexFunc_string_impl_allOf_string_1_impl_isGlossPattern.F_eq (l0 : List ByteArray)  : slices_IndexFunc_string_impl_allOf_string_1_impl_isGlossPattern.F l0 = (slices_IndexFunc_string_impl_allOf_string_1_impl_isGlossPattern.L0 l0 (l0.length : Int) 0) := by
  refine Lim.eq_ ?_
  simp only [slices_IndexFunc_string_impl_allOf_string_1_impl_isGlossPattern.f]
  repeat' first
  | (with_reducible exact slices_IndexFunc_string_impl_allOf_string_1_impl_isGlossPattern.L0_lim _ _ _)
  | (with_reducible exact impl_allOf_string_1_impl_isGlossPattern.F_lim _)
  | (with_reducible refine Lim.ite ?_ ?_)
  | (with_reducible refine Lim.bind ?_ (fun _ => ?_))
  | (with_reducible exact Lim.const _)
def slices_ContainsFunc_string_impl_allOf_string_1_impl_isGlossPattern.f (k : Nat) (l0 : List ByteArray)  : Option (Bool) := (slices_IndexFunc_string_impl_allOf_string_1_impl_isGlossPattern.f k l0).bind fun t215 => (some (decide (t215 ≥ 0)))
theorem slices_ContainsFunc_string_impl_allOf_string_1_impl_isGlossPattern.mono : ∀ a0 k, LeO (slices_ContainsFunc_string_impl_allOf_string_1_impl_isGlossPattern.f k a0) (slices_ContainsFunc_string_impl_allOf_string_1_impl_isGlossPattern.f (k + 1) a0) := by
  intro a0 k
  unfold slices_ContainsFunc_string_impl_allOf_string_1_impl_isGlossPattern.f
  repeat' first
      | (with_reducible exact slices_IndexFunc_string_impl_allOf_string_1_impl_isGlossPattern.mono _ _)
      | (with_reducible exact LeO.refl _)
      | (with_reducible exact LeO.none _)
      | (with_reducible refine LeO.ite ?_ ?_)
      | (with_reducible refine LeO.bind ?_ (fun _ => ?_))
noncomputable def slices_ContainsFunc_string_impl_allOf_string_1_impl_isGlossPattern.F (l0 : List ByteArray)  : Option (Bool) := lim fun k => slices_ContainsFunc_string_impl_allOf_string_1_impl_isGlossPattern.f k l0
theorem slices_ContainsFunc_string_impl_allOf_string_1_impl_isGlossPattern.F_lim (l0 : List ByteArray)  : Lim (fun k => slices_ContainsFunc_string_impl_allOf_string_1_impl_isGlossPattern.f k l0) (slices_ContainsFunc_string_impl_allOf_string_1_impl_isGlossPattern.F l0) := ⟨slices_ContainsFunc_string_impl_allOf_string_1_impl_isGlossPattern.mono l0, rfl⟩
theorem slices_ContainsFunc_string_impl_allOf_string_1_impl_isGlossPattern.F_eq (l0 : List ByteArray)  : slices_ContainsFunc_string_impl_allOf_string_1_impl_isGlossPattern.F l0 = ((slices_IndexFunc_string_impl_allOf_string_1_impl_isGlossPattern.F l0).bind fun t215 => (some (decide (t215 ≥ 0)))) := by
  refine Lim.eq_ ?_
  simp only [slices_ContainsFunc_string_impl_allOf_string_1_impl_isGlossPattern.f]
  repeat' first
  | (with_reducible exact slices_IndexFunc_string_impl_allOf_string_1_impl_isGlossPattern.F_lim _)
  | (with_reducible refine Lim.ite ?_ ?_)
  | (with_reducible refine Lim.bind ?_ (fun _ => ?_))
  | (with_reducible exact Lim.const _)
def impl_allOf_string_impl_isGlossPattern.f (k : Nat) (l0 : List ByteArray)  : Option (Bool) := (slices_ContainsFunc_string_impl_allOf_string_1_impl_isGlossPattern.f k l0).bind fun t217 => (some (!t217))
theorem impl_allOf_string_impl_isGlossPattern.mono : ∀ a0 k, LeO (impl_allOf_string_impl_isGlossPattern.f k a0) (impl_allOf_string_impl_isGlossPattern.f (k + 1) a0) := by
  intro a0 k
  unfold impl_allOf_string_impl_isGlossPattern.f
  repeat' first
      | (with_reducible exact slices_ContainsFunc_string_impl_allOf_string_1_impl_isGlossPattern.mono _ _)
      | (with_reducible exact LeO.refl _)
      | (with_reducible exact LeO.none _)
      | (with_reducible refine LeO.ite ?_ ?_)
      | (with_reducible refine LeO.bind ?_ (fun _ => ?_))
noncomputable def impl_allOf_string_impl_isGlossPattern.F (l0 : List ByteArray)  : Option (Bool) := lim fun k => impl_allOf_string_impl_isGlossPattern.f k l0
theorem impl_allOf_string_impl_isGlossPattern.F_lim (l0 : List ByteArray)  : Lim (fun k => impl_allOf_string_impl_isGlossPattern.f k l0) (impl_allOf_string_impl_isGlossPattern.F l0) := ⟨impl_allOf_string_impl_isGlossPattern.mono l0, rfl⟩
theorem impl_allOf_string_impl_isGlossPattern.F_eq (l0 : List ByteArray)  : impl_allOf_string_impl_isGlossPattern.F l0 = ((slices_ContainsFunc_string_impl_allOf_string_1_impl_isGlossPattern.F l0).bind fun t217 => (some (!t217))) := by
  refine Lim.eq_ ?_
  simp only [impl_allOf_string_impl_isGlossPattern.f]
  repeat' first
  | (with_reducible exact slices_ContainsFunc_string_impl_allOf_string_1_impl_isGlossPattern.F_lim _)
  | (with_reducible refine Lim.ite ?_ ?_)
  | (with_reducible refine Lim.bind ?_ (fun _ => ?_))
  | (with_reducible exact Lim.const _)
mutual
def impl_SequencesOf.j0 : Nat → List (S66) → List ByteArray → Bool → Option (List Int × Bool)
  | 0, _, _, _ => none
  | k + 1, x0, x1, x24 => if x24 = true then (some (([] : List Int), false)) else (impl_SequencesOf.l0 k x0 x1 ([] : List Int) (wrap64 ((wrap64 ((x0.length : Int) - (x1.length : Int))) + 1)) 0)
def impl_SequencesOf.l0 : Nat → List (S66) → List ByteArray → List Int → Int → Int → Option (List Int × Bool)
  | 0, _, _, _, _, _ => none
  | k + 1, x0, x1, x6, x30, x31 => if x31 < x30 then (impl_SequencesOf.l1 k x0 x1 x6 x31 true x30 x31 x1 (x1.length : Int) 0) else (some (x6, true))
def impl_SequencesOf.l1 : Nat → List (S66) → List ByteArray → List Int → Int → Bool → Int → Int → List ByteArray → Int → Int → Option (List Int × Bool)
  | 0, _, _, _, _, _, _, _, _, _, _ => none
  | k + 1, x0, x1, x6, x7, x8, x30, x31, x34, x35, x36 => if x36 < x35 then (if 0 ≤ x36 then (if x36 < (x34.length : Int) then (if x8 = true then (if 0 ≤ (wrap64 (x7 + x36)) then (if (wrap64 (x7 + x36)) < (x0.length : Int) then ((impl_fits.f k (rdOf ByteArray.empty x34 x36) ((rd_T66 x0 (wrap64 (x7 + x36))).f2)).bind fun t223 => (impl_SequencesOf.l1 k x0 x1 x6 x7 t223 x30 x31 x34 x35 (wrap64 (x36 + 1)))) else (none)) else (none)) else (impl_SequencesOf.l1 k x0 x1 x6 x7 false x30 x31 x34 x35 (wrap64 (x36 + 1)))) else (none)) else (none)) else (if x8 = true then (if x6.length < 17592186044416 then (impl_SequencesOf.l0 k x0 x1 (x6 ++ [x7]) x30 (wrap64 (x31 + 1))) else (none)) else (impl_SequencesOf.l0 k x0 x1 x6 x30 (wrap64 (x31 + 1))))
end
def impl_SequencesOf.f (k : Nat) (l0 : List (S66)) (l1 : List ByteArray) : Option (List Int × Bool) := (impl_IsTier.f k l0).bind fun t218 => (if t218 = true then ((impl_within.f (l1.length : Int) 1 8).bind fun t219 => (if t219 = true then ((impl_allOf_string_impl_isGlossPattern.f k l1).bind fun t220 => (impl_SequencesOf.j0 k l0 l1 (!t220))) else (impl_SequencesOf.j0 k l0 l1 true))) else (impl_SequencesOf.j0 k l0 l1 true))
theorem impl_SequencesOf.mono_l : ∀ k, (∀ y0 y1 y2, LeO (impl_SequencesOf.j0 k y0 y1 y2) (impl_SequencesOf.j0 (k + 1) y0 y1 y2)) ∧ (∀ y0 y1 y2 y3 y4, LeO (impl_SequencesOf.l0 k y0 y1 y2 y3 y4) (impl_SequencesOf.l0 (k + 1) y0 y1 y2 y3 y4)) ∧ (∀ y0 y1 y2 y3 y4 y5 y6 y7 y8 y9, LeO (impl_SequencesOf.l1 k y0 y1 y2 y3 y4 y5 y6 y7 y8 y9) (impl_SequencesOf.l1 (k + 1) y0 y1 y2 y3 y4 y5 y6 y7 y8 y9))
  | 0 => ⟨fun _ _ _ r h => by simp [impl_SequencesOf.j0] at h, fun _ _ _ _ _ r h => by simp [impl_SequencesOf.l0] at h, fun _ _ _ _ _ _ _ _ _ _ r h => by simp [impl_SequencesOf.l1] at h⟩
  | k + 1 => by
    obtain ⟨ih0, ih1, ih2⟩ := impl_SequencesOf.mono_l k
    refine ⟨?_, ?_, ?_⟩
    · intro y0 y1 y2
      unfold impl_SequencesOf.j0
      repeat' first
      | (with_reducible exact ih0 _ _ _)
      | (with_reducible exact ih1 _ _ _ _ _)
      | (with_reducible exact ih2 _ _ _ _ _ _ _ _ _ _)
      | (with_reducible exact impl_IsTier.mono _ _)
      | (with_reducible exact impl_allOf_string_impl_isGlossPattern.mono _ _)
      | (with_reducible exact impl_fits.mono _ _ _)
      | (with_reducible exact LeO.refl _)
      | (with_reducible exact LeO.none _)
      | (with_reducible refine LeO.ite ?_ ?_)
      | (with_reducible refine LeO.bind ?_ (fun _ => ?_))
    · intro y0 y1 y2 y3 y4
      unfold impl_SequencesOf.l0
      repeat' first
      | (with_reducible exact ih0 _ _ _)
      | (with_reducible exact ih1 _ _ _ _ _)
      | (with_reducible exact ih2 _ _ _ _ _ _ _ _ _ _)
      | (with_reducible exact impl_IsTier.mono _ _)
      | (with_reducible exact impl_allOf_string_impl_isGlossPattern.mono _ _)
      | (with_reducible exact impl_fits.mono _ _ _)
      | (with_reducible exact LeO.refl _)
      | (with_reducible exact LeO.none _)
      | (with_reducible refine LeO.ite ?_ ?_)
      | (with_reducible refine LeO.bind ?_ (fun _ => ?_))
    · intro y0 y1 y2 y3 y4 y5 y6 y7 y8 y9
      unfold impl_SequencesOf.l1
      repeat' first
      | (with_reducible exact ih0 _ _ _)
      | (with_reducible exact ih1 _ _ _ _ _)
      | (with_reducible exact ih2 _ _ _ _ _ _ _ _ _ _)
      | (with_reducible exact impl_IsTier.mono _ _)
      | (with_reducible exact impl_allOf_string_impl_isGlossPattern.mono _ _)
      | (with_reducible exact impl_fits.mono _ _ _)
      | (with_reducible exact LeO.refl _)
      | (with_reducible exact LeO.none _)
      | (with_reducible refine LeO.ite ?_ ?_)
      | (with_reducible refine LeO.bind ?_ (fun _ => ?_))
theorem impl_SequencesOf.mono : ∀ a0 a1 k, LeO (impl_SequencesOf.f k a0 a1) (impl_SequencesOf.f (k + 1) a0 a1) := by
  intro a0 a1 k
  obtain ⟨ih0, ih1, ih2⟩ := impl_SequencesOf.mono_l k
  unfold impl_SequencesOf.f
  repeat' first
      | (with_reducible exact ih0 _ _ _)
      | (with_reducible exact ih1 _ _ _ _ _)
      | (with_reducible exact ih2 _ _ _ _ _ _ _ _ _ _)
      | (with_reducible exact impl_IsTier.mono _ _)
      | (with_reducible exact impl_allOf_string_impl_isGlossPattern.mono _ _)
      | (with_reducible exact impl_fits.mono _ _ _)
      | (with_reducible exact LeO.refl _)
      | (with_reducible exact LeO.none _)
      | (with_reducible refine LeO.ite ?_ ?_)
      | (with_reducible refine LeO.bind ?_ (fun _ => ?_))
noncomputable def impl_SequencesOf.J0 (x0 : List (S66)) (x1 : List ByteArray) (x24 : Bool) : Option (List Int × Bool) := lim fun k => impl_SequencesOf.j0 k x0 x1 x24
theorem impl_SequencesOf.J0_lim (x0 : List (S66)) (x1 : List ByteArray) (x24 : Bool) : Lim (fun k => impl_SequencesOf.j0 k x0 x1 x24) (impl_SequencesOf.J0 x0 x1 x24) := ⟨fun k => (impl_SequencesOf.mono_l k).1 x0 x1 x24, rfl⟩
noncomputable def impl_SequencesOf.L0 (x0 : List (S66)) (x1 : List ByteArray) (x6 : List Int) (x30 : Int) (x31 : Int) : Option (List Int × Bool) := lim fun k => impl_SequencesOf.l0 k x0 x1 x6 x30 x31
theorem impl_SequencesOf.L0_lim (x0 : List (S66)) (x1 : List ByteArray) (x6 : List Int) (x30 : Int) (x31 : Int) : Lim (fun k => impl_SequencesOf.l0 k x0 x1 x6 x30 x31) (impl_SequencesOf.L0 x0 x1 x6 x30 x31) := ⟨fun k => (impl_SequencesOf.mono_l k).2.1 x0 x1 x6 x30 x31, rfl⟩
noncomputable def impl_SequencesOf.L1 (x0 : List (S66)) (x1 : List ByteArray) (x6 : List Int) (x7 : Int) (x8 : Bool) (x30 : Int) (x31 : Int) (x34 : List ByteArray) (x35 : Int) (x36 : Int) : Option (List Int × Bool) := lim fun k => impl_SequencesOf.l1 k x0 x1 x6 x7 x8 x30 x31 x34 x35 x36
theorem impl_SequencesOf.L1_lim (x0 : List (S66)) (x1 : List ByteArray) (x6 : List Int) (x7 : Int) (x8 : Bool) (x30 : Int) (x31 : Int) (x34 : List ByteArray) (x35 : Int) (x36 : Int) : Lim (fun k => impl_SequencesOf.l1 k x0 x1 x6 x7 x8 x30 x31 x34 x35 x36) (impl_SequencesOf.L1 x0 x1 x6 x7 x8 x30 x31 x34 x35 x36) := ⟨fun k => (impl_SequencesOf.mono_l k).2.2 x0 x1 x6 x7 x8 x30 x31 x34 x35 x36, rfl⟩
noncomputable def impl_SequencesOf.F (l0 : List (S66)) (l1 : List ByteArray) : Option (List Int × Bool) := lim fun k => impl_SequencesOf.f k l0 l1
theorem impl_SequencesOf.F_lim (l0 : List (S66)) (l1 : List ByteArray) : Lim (fun k => impl_SequencesOf.f k l0 l1) (impl_SequencesOf.F l0 l1) := ⟨impl_SequencesOf.mono l0 l1, rfl⟩
theorem impl_SequencesOf.J0_eq (x0 : List (S66)) (x1 : List ByteArray) (x24 : Bool) : impl_SequencesOf.J0 x0 x1 x24 = (if x24 = true then (some (([] : List Int), false)) else (impl_SequencesOf.L0 x0 x1 ([] : List Int) (wrap64 ((wrap64 ((x0.length : Int) - (x1.length : Int))) + 1)) 0)) := by
  refine Lim.succ_eq (impl_SequencesOf.J0_lim x0 x1 x24).mon ?_
  simp only [impl_SequencesOf.j0]
  repeat' first
  | (with_reducible exact impl_SequencesOf.J0_lim _ _ _)
  | (with_reducible exact impl_SequencesOf.L0_lim _ _ _ _ _)
  | (with_reducible exact impl_SequencesOf.L1_lim _ _ _ _ _ _ _ _ _ _)
  | (with_reducible exact impl_IsTier.F_lim _)
  | (with_reducible exact impl_allOf_string_impl_isGlossPattern.F_lim _)
  | (with_reducible exact impl_fits.F_lim _ _)
  | (with_reducible refine Lim.ite ?_ ?_)
  | (with_reducible refine Lim.bind ?_ (fun _ => ?_))
  | (with_reducible exact Lim.const _)
theorem impl_SequencesOf.L0_eq (x0 : List (S66)) (x1 : List ByteArray) (x6 : List Int) (x30 : Int) (x31 : Int) : impl_SequencesOf.L0 x0 x1 x6 x30 x31 = (if x31 < x30 then (impl_SequencesOf.L1 x0 x1 x6 x31 true x30 x31 x1 (x1.length : Int) 0) else (some (x6, true))) := by
  refine Lim.succ_eq (impl_SequencesOf.L0_lim x0 x1 x6 x30 x31).mon ?_
  simp only [impl_SequencesOf.l0]
  repeat' first
  | (with_reducible exact impl_SequencesOf.J0_lim _ _ _)
  | (with_reducible exact impl_SequencesOf.L0_lim _ _ _ _ _)
  | (with_reducible exact impl_SequencesOf.L1_lim _ _ _ _ _ _ _ _ _ _)
  | (with_reducible exact impl_IsTier.F_lim _)
  | (with_reducible exact impl_allOf_string_impl_isGlossPattern.F_lim _)
  | (with_reducible exact impl_fits.F_lim _ _)
  | (with_reducible refine Lim.ite ?_ ?_)
  | (with_reducible refine Lim.bind ?_ (fun _ => ?_))
  | (with_reducible exact Lim.const _)
theorem impl_SequencesOf.L1_eq (x0 : List (S66)) (x1 : List ByteArray) (x6 : List Int) (x7 : Int) (x8 : Bool) (x30 : Int) (x31 : Int) (x34 : List ByteArray) (x35 : Int) (x36 : Int) : impl_SequencesOf.L1 x0 x1 x6 x7 x8 x30 x31 x34 x35 x36 = (if x36 < x35 then (if 0 ≤ x36 then (if x36 < (x34.length : Int) then (if x8 = true then (if 0 ≤ (wrap64 (x7 + x36)) then (if (wrap64 (x7 + x36)) < (x0.length : Int) then ((impl_fits.F (rdOf ByteArray.empty x34 x36) ((rd_T66 x0 (wrap64 (x7 + x36))).f2)).bind fun t223 => (impl_SequencesOf.L1 x0 x1 x6 x7 t223 x30 x31 x34 x35 (wrap64 (x36 + 1)))) else (none)) else (none)) else (impl_SequencesOf.L1 x0 x1 x6 x7 false x30 x31 x34 x35 (wrap64 (x36 + 1)))) else (none)) else (none)) else (if x8 = true then (if x6.length < 17592186044416 then (impl_SequencesOf.L0 x0 x1 (x6 ++ [x7]) x30 (wrap64 (x31 + 1))) else (none)) else (impl_SequencesOf.L0 x0 x1 x6 x30 (wrap64 (x31 + 1))))) := by
  refine Lim.succ_eq (impl_SequencesOf.L1_lim x0 x1 x6 x7 x8 x30 x31 x34 x35 x36).mon ?_
  simp only [impl_SequencesOf.l1]
  repeat' first
  | (with_reducible exact impl_SequencesOf.J0_lim _ _ _)
  | (with_reducible exact impl_SequencesOf.L0_lim _ _ _ _ _)
  | (with_reducible exact impl_SequencesOf.L1_lim _ _ _ _ _ _ _ _ _ _)
  | (with_reducible exact impl_IsTier.F_lim _)
  | (with_reducible exact impl_allOf_string_impl_isGlossPattern.F_lim _)
  | (with_reducible exact impl_fits.F_lim _ _)
  | (with_reducible refine Lim.ite ?_ ?_)
  | (with_reducible refine Lim.bind ?_ (fun _ => ?_))
  | (with_reducible exact Lim.const _)
theorem impl_SequencesOf.F_eq (l0 : List (S66)) (l1 : List ByteArray) : impl_SequencesOf.F l0 l1 = ((impl_IsTier.F l0).bind fun t218 => (if t218 = true then ((impl_within.f (l1.length : Int) 1 8).bind fun t219 => (if t219 = true then ((impl_allOf_string_impl_isGlossPattern.F l1).bind fun t220 => (impl_SequencesOf.J0 l0 l1 (!t220))) else (impl_SequencesOf.J0 l0 l1 true))) else (impl_SequencesOf.J0 l0 l1 true))) := by
  refine Lim.eq_ ?_
  simp only [impl_SequencesOf.f]
  repeat' first
  | (with_reducible exact impl_SequencesOf.J0_lim _ _ _)
  | (with_reducible exact impl_SequencesOf.L0_lim _ _ _ _ _)
  | (with_reducible exact impl_SequencesOf.L1_lim _ _ _ _ _ _ _ _ _ _)
  | (with_reducible exact impl_IsTier.F_lim _)
  | (with_reducible exact impl_allOf_string_impl_isGlossPattern.F_lim _)
  | (with_reducible exact impl_fits.F_lim _ _)
  | (with_reducible refine Lim.ite ?_ ?_)
  | (with_reducible refine Lim.bind ?_ (fun _ => ?_))
  | (with_reducible exact Lim.const _)
def spec_l1Cur_next.f (s0_0 : List Int) (s0_1 : Int) (s0_2 : Int) : Option (Int × Int × Int) := if s0_1 < (s0_0.length : Int) then (if 0 ≤ s0_1 then (if (wrap64 (s0_1 + 1)) ≤ (s0_0.length : Int) then (some (wrap64 (rd s0_0 s0_1), wrap64 (s0_1 + 1), IntKind.u64.wrap ((IntKind.u64.wrap ((IntKind.u64.wrap (s0_2 * 6364136223846793005)) + (IntKind.u64.wrap (wrap64 (rd s0_0 s0_1))))) + 1442695040888963407))) else (some (wrap64 (Go.bits .and .u64 ((IntKind.u64.wrap ((IntKind.u64.wrap ((IntKind.u64.wrap (s0_2 * 6364136223846793005)) + (IntKind.u64.wrap (wrap64 (rd s0_0 s0_1))))) + 1442695040888963407)) / 1099511627776) 255), wrap64 (s0_1 + 1), IntKind.u64.wrap ((IntKind.u64.wrap ((IntKind.u64.wrap (s0_2 * 6364136223846793005)) + (IntKind.u64.wrap (wrap64 (rd s0_0 s0_1))))) + 1442695040888963407)))) else (none)) else (if (wrap64 (s0_1 + 1)) ≤ (s0_0.length : Int) then (some (0, wrap64 (s0_1 + 1), IntKind.u64.wrap ((IntKind.u64.wrap ((IntKind.u64.wrap (s0_2 * 6364136223846793005)))) + 1442695040888963407))) else (some (wrap64 (Go.bits .and .u64 ((IntKind.u64.wrap ((IntKind.u64.wrap ((IntKind.u64.wrap (s0_2 * 6364136223846793005)))) + 1442695040888963407)) / 1099511627776) 255), wrap64 (s0_1 + 1), IntKind.u64.wrap ((IntKind.u64.wrap ((IntKind.u64.wrap (s0_2 * 6364136223846793005)))) + 1442695040888963407))))
def spec_l1Cur_pick.f (s0_0 : List Int) (s0_1 : Int) (s0_2 : Int) (a1 : Int) : Option (Int × Int × Int) := if a1 ≤ 1 then (some (0, s0_1, s0_2)) else ((spec_l1Cur_next.f s0_0 s0_1 s0_2).bind fun bt228 => (if a1 > 200 then ((spec_l1Cur_next.f s0_0 bt228.2.1 bt228.2.2).bind fun bt231 => (if a1 = 0 then (none) else (some (Int.tmod (wrap64 ((wrap64 (bt228.1 * 256)) + bt231.1)) a1, bt231.2.1, bt231.2.2)))) else (if a1 = 0 then (none) else (some (Int.tmod bt228.1 a1, bt228.2.1, bt228.2.2)))))
def spec_l1Cur_one.f (s0_0 : List Int) (s0_1 : Int) (s0_2 : Int) (a1 : Int) : Option (Bool × Int × Int) := (spec_l1Cur_pick.f s0_0 s0_1 s0_2 a1).bind fun bt234 => (some ((bt234.1 == 0), bt234.2.1, bt234.2.2))
def spec_l1Cur_among.f (s0_0 : List Int) (s0_1 : Int) (s0_2 : Int) (l1 : List Int) : Option (Int × Int × Int) := (spec_l1Cur_pick.f s0_0 s0_1 s0_2 (l1.length : Int)).bind fun bt237 => (if 0 ≤ bt237.1 then (if bt237.1 < (l1.length : Int) then (some (rd l1 bt237.1, bt237.2.1, bt237.2.2)) else (none)) else (none))
def spec_l1Most.f (a0 : Int) (a1 : Int) : Option (Int) := if a0 > a1 then (some a0) else (some a1)
def spec_l1Cur_of.f (s0_0 : List Int) (s0_1 : Int) (s0_2 : Int) (l1 : List ByteArray) : Option (ByteArray × Int × Int) := (spec_l1Cur_pick.f s0_0 s0_1 s0_2 (l1.length : Int)).bind fun bt241 => (if 0 ≤ bt241.1 then (if bt241.1 < (l1.length : Int) then (some (rdOf ByteArray.empty l1 bt241.1, bt241.2.1, bt241.2.2)) else (none)) else (none))
def spec_l1Cur_note.f (s0_0 : List Int) (s0_1 : Int) (s0_2 : Int) (a1 : Int) : Option (Int × Int × ByteArray × Int × Int) := (spec_l1Cur_among.f s0_0 s0_1 s0_2 (([1, 5, 8, 20] : List Int))).bind fun bt249 => ((spec_l1Cur_of.f s0_0 bt249.2.1 bt249.2.2 (([(⟨#[72, 79, 85, 83, 69]⟩ : ByteArray), (⟨#[71, 79]⟩ : ByteArray), (⟨#[73]⟩ : ByteArray), (⟨#[89, 79, 85]⟩ : ByteArray), (⟨#[71, 79]⟩ : ByteArray), (⟨#[71, 73, 86, 69]⟩ : ByteArray), (⟨#[66, 79, 79, 75]⟩ : ByteArray)] : List ByteArray))).bind fun bt255 => ((spec_l1Cur_pick.f s0_0 bt255.2.1 bt255.2.2 60).bind fun bt259 => (if bt259.1 = 0 then ((spec_l1Cur_among.f s0_0 bt259.2.1 bt259.2.2 (([a1, wrap64 (a1 - 1), 100000] : List Int))).bind fun bt265 => (some (a1, bt265.1, bt255.1, bt265.2.1, bt265.2.2))) else (if bt259.1 = 1 then ((spec_l1Cur_of.f s0_0 bt259.2.1 bt259.2.2 (([(⟨#[]⟩ : ByteArray), (⟨#[103, 111]⟩ : ByteArray), (⟨#[78, 73, 78, 69, 76, 69, 84, 84, 82]⟩ : ByteArray)] : List ByteArray))).bind fun bt271 => (some (a1, wrap64 (a1 + bt249.1), bt271.1, bt271.2.1, bt271.2.2))) else (if bt259.1 = 2 then ((spec_l1Cur_among.f s0_0 bt259.2.1 bt259.2.2 (([(-1), (-9223372036854775808)] : List Int))).bind fun bt277 => (some (bt277.1, wrap64 (a1 + bt249.1), bt255.1, bt277.2.1, bt277.2.2))) else (some (a1, wrap64 (a1 + bt249.1), bt255.1, bt259.2.1, bt259.2.2)))))))
def spec_l1Least.f (a0 : Int) (a1 : Int) : Option (Int) := if a0 < a1 then (some a0) else (some a1)
mutual
def spec_l1Cur_tier.j0 : Nat → List (S66) → Int → Int → List Int → Int → Int → Option ((List (S66)) × Int × Int)
  | 0, _, _, _, _, _, _ => none
  | k + 1, x3, x4, x5, x1000, x1001, x1002 => spec_l1Cur_tier.l0 k x3 x4 x5 x1000 x1001 x1002
def spec_l1Cur_tier.l0 : Nat → List (S66) → Int → Int → List Int → Int → Int → Option ((List (S66)) × Int × Int)
  | 0, _, _, _, _, _, _ => none
  | k + 1, x3, x4, x5, x1000, x1001, x1002 => if (x3.length : Int) < x5 then ((spec_l1Cur_note.f x1000 x1001 x1002 x4).bind fun bt292 => (if (x3.length : Int) > 0 then ((spec_l1Cur_one.f x1000 bt292.2.2.2.1 bt292.2.2.2.2 4).bind fun bt298 => (spec_l1Cur_tier.j2 k x3 x5 (x3.length : Int) bt298.1 x1000 bt298.2.1 bt298.2.2 bt292.1 bt292.2.1 bt292.2.2.1)) else (spec_l1Cur_tier.j2 k x3 x5 (x3.length : Int) false x1000 bt292.2.2.2.1 bt292.2.2.2.2 bt292.1 bt292.2.1 bt292.2.2.1))) else (some (x3, x1001, x1002))
def spec_l1Cur_tier.j2 : Nat → List (S66) → Int → Int → Bool → List Int → Int → Int → Int → Int → ByteArray → Option ((List (S66)) × Int × Int)
  | 0, _, _, _, _, _, _, _, _, _, _ => none
  | k + 1, x3, x5, x7, x31, x1000, x1001, x1002, x298000, x298001, x298002 => if x31 = true then (if 0 ≤ (wrap64 (x7 - 1)) then (if (wrap64 (x7 - 1)) < (x3.length : Int) then (if x3.length < 4398046511104 then ((spec_l1Most.f 0 x298001).bind fun t305 => ((spec_l1Least.f 90000 t305).bind fun t306 => ((spec_l1Cur_among.f x1000 x1001 x1002 (([0, 0, 2, 5] : List Int))).bind fun bt310 => (spec_l1Cur_tier.l0 k (x3 ++ [(⟨x298000, x298001, (rd_T66 x3 (wrap64 (x7 - 1))).f2⟩ : S66)]) (wrap64 (t306 + bt310.1)) x5 x1000 bt310.2.1 bt310.2.2)))) else (none)) else (none)) else (none)) else (if x3.length < 4398046511104 then ((spec_l1Most.f 0 x298001).bind fun t316 => ((spec_l1Least.f 90000 t316).bind fun t317 => ((spec_l1Cur_among.f x1000 x1001 x1002 (([0, 0, 2, 5] : List Int))).bind fun bt321 => (spec_l1Cur_tier.l0 k (x3 ++ [(⟨x298000, x298001, x298002⟩ : S66)]) (wrap64 (t317 + bt321.1)) x5 x1000 bt321.2.1 bt321.2.2)))) else (none))
end
def spec_l1Cur_tier.f (k : Nat) (s0_0 : List Int) (s0_1 : Int) (s0_2 : Int) : Option ((List (S66)) × Int × Int) := (spec_l1Cur_pick.f s0_0 s0_1 s0_2 10).bind fun bt280 => ((spec_l1Cur_pick.f s0_0 bt280.2.1 bt280.2.2 8).bind fun bt283 => ((spec_l1Cur_one.f s0_0 bt283.2.1 bt283.2.2 12).bind fun bt286 => (if bt286.1 = true then ((spec_l1Cur_pick.f s0_0 bt286.2.1 bt286.2.2 2).bind fun bt289 => (spec_l1Cur_tier.j0 k ([] : List (S66)) bt280.1 (wrap64 (40 + bt289.1)) s0_0 bt289.2.1 bt289.2.2)) else (spec_l1Cur_tier.j0 k ([] : List (S66)) bt280.1 bt283.1 s0_0 bt286.2.1 bt286.2.2))))
theorem spec_l1Cur_tier.mono_l : ∀ k, (∀ y0 y1 y2 y3 y4 y5, LeO (spec_l1Cur_tier.j0 k y0 y1 y2 y3 y4 y5) (spec_l1Cur_tier.j0 (k + 1) y0 y1 y2 y3 y4 y5)) ∧ (∀ y0 y1 y2 y3 y4 y5, LeO (spec_l1Cur_tier.l0 k y0 y1 y2 y3 y4 y5) (spec_l1Cur_tier.l0 (k + 1) y0 y1 y2 y3 y4 y5)) ∧ (∀ y0 y1 y2 y3 y4 y5 y6 y7 y8 y9, LeO (spec_l1Cur_tier.j2 k y0 y1 y2 y3 y4 y5 y6 y7 y8 y9) (spec_l1Cur_tier.j2 (k + 1) y0 y1 y2 y3 y4 y5 y6 y7 y8 y9))
  | 0 => ⟨fun _ _ _ _ _ _ r h => by simp [spec_l1Cur_tier.j0] at h, fun _ _ _ _ _ _ r h => by simp [spec_l1Cur_tier.l0] at h, fun _ _ _ _ _ _ _ _ _ _ r h => by simp [spec_l1Cur_tier.j2] at h⟩
  | k + 1 => by
    obtain ⟨ih0, ih1, ih2⟩ := spec_l1Cur_tier.mono_l k
    refine ⟨?_, ?_, ?_⟩
    · intro y0 y1 y2 y3 y4 y5
      unfold spec_l1Cur_tier.j0
      repeat' first
      | (with_reducible exact ih0 _ _ _ _ _ _)
      | (with_reducible exact ih1 _ _ _ _ _ _)
      | (with_reducible exact ih2 _ _ _ _ _ _ _ _ _ _)
      | (with_reducible exact LeO.refl _)
      | (with_reducible exact LeO.none _)
      | (with_reducible refine LeO.ite ?_ ?_)
      | (with_reducible refine LeO.bind ?_ (fun _ => ?_))
    · intro y0 y1 y2 y3 y4 y5
      unfold spec_l1Cur_tier.l0
      repeat' first
      | (with_reducible exact ih0 _ _ _ _ _ _)
      | (with_reducible exact ih1 _ _ _ _ _ _)
      | (with_reducible exact ih2 _ _ _ _ _ _ _ _ _ _)
      | (with_reducible exact LeO.refl _)
      | (with_reducible exact LeO.none _)
      | (with_reducible refine LeO.ite ?_ ?_)
      | (with_reducible refine LeO.bind ?_ (fun _ => ?_))
    · intro y0 y1 y2 y3 y4 y5 y6 y7 y8 y9
      unfold spec_l1Cur_tier.j2
      repeat' first
      | (with_reducible exact ih0 _ _ _ _ _ _)
      | (with_reducible exact ih1 _ _ _ _ _ _)
      | (with_reducible exact ih2 _ _ _ _ _ _ _ _ _ _)
      | (with_reducible exact LeO.refl _)
      | (with_reducible exact LeO.none _)
      | (with_reducible refine LeO.ite ?_ ?_)
      | (with_reducible refine LeO.bind ?_ (fun _ => ?_))
theorem spec_l1Cur_tier.mono : ∀ a0 a1 a2 k, LeO (spec_l1Cur_tier.f k a0 a1 a2) (spec_l1Cur_tier.f (k + 1) a0 a1 a2) := by
  intro a0 a1 a2 k
  obtain ⟨ih0, ih1, ih2⟩ := spec_l1Cur_tier.mono_l k
  unfold spec_l1Cur_tier.f
  repeat' first
      | (with_reducible exact ih0 _ _ _ _ _ _)
      | (with_reducible exact ih1 _ _ _ _ _ _)
      | (with_reducible exact ih2 _ _ _ _ _ _ _ _ _ _)
      | (with_reducible exact LeO.refl _)
      | (with_reducible exact LeO.none _)
      | (with_reducible refine LeO.ite ?_ ?_)
      | (with_reducible refine LeO.bind ?_ (fun _ => ?_))
noncomputable def spec_l1Cur_tier.J0 (x3 : List (S66)) (x4 : Int) (x5 : Int) (x1000 : List Int) (x1001 : Int) (x1002 : Int) : Option ((List (S66)) × Int × Int) := lim fun k => spec_l1Cur_tier.j0 k x3 x4 x5 x1000 x1001 x1002
theorem spec_l1Cur_tier.J0_lim (x3 : List (S66)) (x4 : Int) (x5 : Int) (x1000 : List Int) (x1001 : Int) (x1002 : Int) : Lim (fun k => spec_l1Cur_tier.j0 k x3 x4 x5 x1000 x1001 x1002) (spec_l1Cur_tier.J0 x3 x4 x5 x1000 x1001 x1002) := ⟨fun k => (spec_l1Cur_tier.mono_l k).1 x3 x4 x5 x1000 x1001 x1002, rfl⟩
noncomputable def spec_l1Cur_tier.L0 (x3 : List (S66)) (x4 : Int) (x5 : Int) (x1000 : List Int) (x1001 : Int) (x1002 : Int) : Option ((List (S66)) × Int × Int) := lim fun k => spec_l1Cur_tier.l0 k x3 x4 x5 x1000 x1001 x1002
theorem spec_l1Cur_tier.L0_lim (x3 : List (S66)) (x4 : Int) (x5 : Int) (x1000 : List Int) (x1001 : Int) (x1002 : Int) : Lim (fun k => spec_l1Cur_tier.l0 k x3 x4 x5 x1000 x1001 x1002) (spec_l1Cur_tier.L0 x3 x4 x5 x1000 x1001 x1002) := ⟨fun k => (spec_l1Cur_tier.mono_l k).2.1 x3 x4 x5 x1000 x1001 x1002, rfl⟩
noncomputable def spec_l1Cur_tier.J2 (x3 : List (S66)) (x5 : Int) (x7 : Int) (x31 : Bool) (x1000 : List Int) (x1001 : Int) (x1002 : Int) (x298000 : Int) (x298001 : Int) (x298002 : ByteArray) : Option ((List (S66)) × Int × Int) := lim fun k => spec_l1Cur_tier.j2 k x3 x5 x7 x31 x1000 x1001 x1002 x298000 x298001 x298002
theorem spec_l1Cur_tier.J2_lim (x3 : List (S66)) (x5 : Int) (x7 : Int) (x31 : Bool) (x1000 : List Int) (x1001 : Int) (x1002 : Int) (x298000 : Int) (x298001 : Int) (x298002 : ByteArray) : Lim (fun k => spec_l1Cur_tier.j2 k x3 x5 x7 x31 x1000 x1001 x1002 x298000 x298001 x298002) (spec_l1Cur_tier.J2 x3 x5 x7 x31 x1000 x1001 x1002 x298000 x298001 x298002) := ⟨fun k => (spec_l1Cur_tier.mono_l k).2.2 x3 x5 x7 x31 x1000 x1001 x1002 x298000 x298001 x298002, rfl⟩
noncomputable def spec_l1Cur_tier.F (s0_0 : List Int) (s0_1 : Int) (s0_2 : Int) : Option ((List (S66)) × Int × Int) := lim fun k => spec_l1Cur_tier.f k s0_0 s0_1 s0_2
theorem spec_l1Cur_tier.F_lim (s0_0 : List Int) (s0_1 : Int) (s0_2 : Int) : Lim (fun k => spec_l1Cur_tier.f k s0_0 s0_1 s0_2) (spec_l1Cur_tier.F s0_0 s0_1 s0_2) := ⟨spec_l1Cur_tier.mono s0_0 s0_1 s0_2, rfl⟩
theorem spec_l1Cur_tier.J0_eq (x3 : List (S66)) (x4 : Int) (x5 : Int) (x1000 : List Int) (x1001 : Int) (x1002 : Int) : spec_l1Cur_tier.J0 x3 x4 x5 x1000 x1001 x1002 = (spec_l1Cur_tier.L0 x3 x4 x5 x1000 x1001 x1002) := by
  refine Lim.succ_eq (spec_l1Cur_tier.J0_lim x3 x4 x5 x1000 x1001 x1002).mon ?_
  simp only [spec_l1Cur_tier.j0]
  repeat' first
  | (with_reducible exact spec_l1Cur_tier.J0_lim _ _ _ _ _ _)
  | (with_reducible exact spec_l1Cur_tier.L0_lim _ _ _ _ _ _)
  | (with_reducible exact spec_l1Cur_tier.J2_lim _ _ _ _ _ _ _ _ _ _)
  | (with_reducible refine Lim.ite ?_ ?_)
  | (with_reducible refine Lim.bind ?_ (fun _ => ?_))
  | (with_reducible exact Lim.const _)
theorem spec_l1Cur_tier.L0_eq (x3 : List (S66)) (x4 : Int) (x5 : Int) (x1000 : List Int) (x1001 : Int) (x1002 : Int) : spec_l1Cur_tier.L0 x3 x4 x5 x1000 x1001 x1002 = (if (x3.length : Int) < x5 then ((spec_l1Cur_note.f x1000 x1001 x1002 x4).bind fun bt292 => (if (x3.length : Int) > 0 then ((spec_l1Cur_one.f x1000 bt292.2.2.2.1 bt292.2.2.2.2 4).bind fun bt298 => (spec_l1Cur_tier.J2 x3 x5 (x3.length : Int) bt298.1 x1000 bt298.2.1 bt298.2.2 bt292.1 bt292.2.1 bt292.2.2.1)) else (spec_l1Cur_tier.J2 x3 x5 (x3.length : Int) false x1000 bt292.2.2.2.1 bt292.2.2.2.2 bt292.1 bt292.2.1 bt292.2.2.1))) else (some (x3, x1001, x1002))) := by
  refine Lim.succ_eq (spec_l1Cur_tier.L0_lim x3 x4 x5 x1000 x1001 x1002).mon ?_
  simp only [spec_l1Cur_tier.l0]
  repeat' first
  | (with_reducible exact spec_l1Cur_tier.J0_lim _ _ _ _ _ _)
  | (with_reducible exact spec_l1Cur_tier.L0_lim _ _ _ _ _ _)
  | (with_reducible exact spec_l1Cur_tier.J2_lim _ _ _ _ _ _ _ _ _ _)
  | (with_reducible refine Lim.ite ?_ ?_)
  | (with_reducible refine Lim.bind ?_ (fun _ => ?_))
  | (with_reducible exact Lim.const _)
theorem spec_l1Cur_tier.J2_eq (x3 : List (S66)) (x5 : Int) (x7 : Int) (x31 : Bool) (x1000 : List Int) (x1001 : Int) (x1002 : Int) (x298000 : Int) (x298001 : Int) (x298002 : ByteArray) : spec_l1Cur_tier.J2 x3 x5 x7 x31 x1000 x1001 x1002 x298000 x298001 x298002 = (if x31 = true then (if 0 ≤ (wrap64 (x7 - 1)) then (if (wrap64 (x7 - 1)) < (x3.length : Int) then (if x3.length < 4398046511104 then ((spec_l1Most.f 0 x298001).bind fun t305 => ((spec_l1Least.f 90000 t305).bind fun t306 => ((spec_l1Cur_among.f x1000 x1001 x1002 (([0, 0, 2, 5] : List Int))).bind fun bt310 => (spec_l1Cur_tier.L0 (x3 ++ [(⟨x298000, x298001, (rd_T66 x3 (wrap64 (x7 - 1))).f2⟩ : S66)]) (wrap64 (t306 + bt310.1)) x5 x1000 bt310.2.1 bt310.2.2)))) else (none)) else (none)) else (none)) else (if x3.length < 4398046511104 then ((spec_l1Most.f 0 x298001).bind fun t316 => ((spec_l1Least.f 90000 t316).bind fun t317 => ((spec_l1Cur_among.f x1000 x1001 x1002 (([0, 0, 2, 5] : List Int))).bind fun bt321 => (spec_l1Cur_tier.L0 (x3 ++ [(⟨x298000, x298001, x298002⟩ : S66)]) (wrap64 (t317 + bt321.1)) x5 x1000 bt321.2.1 bt321.2.2)))) else (none))) := by
  refine Lim.succ_eq (spec_l1Cur_tier.J2_lim x3 x5 x7 x31 x1000 x1001 x1002 x298000 x298001 x298002).mon ?_
  simp only [spec_l1Cur_tier.j2]
  repeat' first
  | (with_reducible exact spec_l1Cur_tier.J0_lim _ _ _ _ _ _)
  | (with_reducible exact spec_l1Cur_tier.L0_lim _ _ _ _ _ _)
  | (with_reducible exact spec_l1Cur_tier.J2_lim _ _ _ _ _ _ _ _ _ _)
  | (with_reducible refine Lim.ite ?_ ?_)
  | (with_reducible refine Lim.bind ?_ (fun _ => ?_))
  | (with_reducible exact Lim.const _)
theorem spec_l1Cur_tier.F_eq (s0_0 : List Int) (s0_1 : Int) (s0_2 : Int) : spec_l1Cur_tier.F s0_0 s0_1 s0_2 = ((spec_l1Cur_pick.f s0_0 s0_1 s0_2 10).bind fun bt280 => ((spec_l1Cur_pick.f s0_0 bt280.2.1 bt280.2.2 8).bind fun bt283 => ((spec_l1Cur_one.f s0_0 bt283.2.1 bt283.2.2 12).bind fun bt286 => (if bt286.1 = true then ((spec_l1Cur_pick.f s0_0 bt286.2.1 bt286.2.2 2).bind fun bt289 => (spec_l1Cur_tier.J0 ([] : List (S66)) bt280.1 (wrap64 (40 + bt289.1)) s0_0 bt289.2.1 bt289.2.2)) else (spec_l1Cur_tier.J0 ([] : List (S66)) bt280.1 bt283.1 s0_0 bt286.2.1 bt286.2.2))))) := by
  refine Lim.eq_ ?_
  simp only [spec_l1Cur_tier.f]
  repeat' first
  | (with_reducible exact spec_l1Cur_tier.J0_lim _ _ _ _ _ _)
  | (with_reducible exact spec_l1Cur_tier.L0_lim _ _ _ _ _ _)
  | (with_reducible exact spec_l1Cur_tier.J2_lim _ _ _ _ _ _ _ _ _ _)
  | (with_reducible refine Lim.ite ?_ ?_)
  | (with_reducible refine Lim.bind ?_ (fun _ => ?_))
  | (with_reducible exact Lim.const _)
def spec_l1Cur_glossPattern.f (s0_0 : List Int) (s0_1 : Int) (s0_2 : Int) : Option (ByteArray × Int × Int) := (spec_l1Cur_of.f s0_0 s0_1 s0_2 (([(⟨#[69, 73, 71, 72, 84, 76, 69, 84]⟩ : ByteArray), (⟨#[78, 73, 78, 69, 76, 69, 84, 84, 82]⟩ : ByteArray), (⟨#[]⟩ : ByteArray), (⟨#[103, 111]⟩ : ByteArray), (⟨#[42, 63, 42]⟩ : ByteArray)] : List ByteArray))).bind fun bt327 => ((spec_l1Cur_of.f s0_0 bt327.2.1 bt327.2.2 (([(⟨#[42]⟩ : ByteArray), (⟨#[71, 79]⟩ : ByteArray), (⟨#[71, 42]⟩ : ByteArray), (⟨#[63, 79]⟩ : ByteArray), (⟨#[42, 79, 42]⟩ : ByteArray), (⟨#[72, 79, 85, 83, 69]⟩ : ByteArray), (⟨#[73]⟩ : ByteArray), (⟨#[63, 63, 63, 63]⟩ : ByteArray), (⟨#[89, 42, 85]⟩ : ByteArray), (⟨#[66, 63, 79, 75]⟩ : ByteArray), bt327.1] : List ByteArray))).bind fun bt333 => (some (bt333.1, bt333.2.1, bt333.2.2)))
mutual
def spec_DrawSequencesOf.j0 : Nat → List (S66) → List ByteArray → Int → List Int → Int → Int → Option ((List (S66)) × List ByteArray)
  | 0, _, _, _, _, _, _ => none
  | k + 1, x5, x6, x7, x337000, x337001, x337002 => spec_DrawSequencesOf.l0 k x5 x6 x7 x337000 x337001 x337002
def spec_DrawSequencesOf.l0 : Nat → List (S66) → List ByteArray → Int → List Int → Int → Int → Option ((List (S66)) × List ByteArray)
  | 0, _, _, _, _, _, _ => none
  | k + 1, x5, x6, x7, x337000, x337001, x337002 => if (x6.length : Int) < x7 then ((spec_l1Cur_glossPattern.f x337000 x337001 x337002).bind fun bt354 => (if x6.length < 8796093022208 then (spec_DrawSequencesOf.l0 k x5 (x6 ++ [bt354.1]) x7 x337000 bt354.2.1 bt354.2.2) else (none))) else (if (x5.length : Int) > 1 then (if x7 = 2 then ((spec_l1Cur_one.f x337000 x337001 x337002 2).bind fun bt360 => (if bt360.1 = true then ((spec_l1Cur_pick.f x337000 bt360.2.1 bt360.2.2 (wrap64 ((x5.length : Int) - 1))).bind fun bt363 => (if 0 ≤ bt363.1 then (if bt363.1 < (x5.length : Int) then (if 0 ≤ (wrap64 (bt363.1 + 1)) then (if (wrap64 (bt363.1 + 1)) < (x5.length : Int) then (some (x5, (([(rd_T66 x5 bt363.1).f2, (rd_T66 x5 (wrap64 (bt363.1 + 1))).f2] : List ByteArray)))) else (none)) else (none)) else (none)) else (none))) else (some (x5, x6)))) else (some (x5, x6))) else (some (x5, x6)))
end
def spec_DrawSequencesOf.f (k : Nat) (l0 : List Int) : Option ((List (S66)) × List ByteArray) := (spec_l1Cur_tier.f k l0 0 0).bind fun bt337 => ((spec_l1Cur_pick.f l0 bt337.2.1 bt337.2.2 3).bind fun bt342 => ((spec_l1Cur_one.f l0 bt342.2.1 bt342.2.2 12).bind fun bt345 => (if bt345.1 = true then ((spec_l1Cur_among.f l0 bt345.2.1 bt345.2.2 (([0, 8, 9] : List Int))).bind fun bt351 => (spec_DrawSequencesOf.j0 k bt337.1 ([] : List ByteArray) bt351.1 l0 bt351.2.1 bt351.2.2)) else (spec_DrawSequencesOf.j0 k bt337.1 ([] : List ByteArray) (wrap64 (1 + bt342.1)) l0 bt345.2.1 bt345.2.2))))
theorem spec_DrawSequencesOf.mono_l : ∀ k, (∀ y0 y1 y2 y3 y4 y5, LeO (spec_DrawSequencesOf.j0 k y0 y1 y2 y3 y4 y5) (spec_DrawSequencesOf.j0 (k + 1) y0 y1 y2 y3 y4 y5)) ∧ (∀ y0 y1 y2 y3 y4 y5, LeO (spec_DrawSequencesOf.l0 k y0 y1 y2 y3 y4 y5) (spec_DrawSequencesOf.l0 (k + 1) y0 y1 y2 y3 y4 y5))
  | 0 => ⟨fun _ _ _ _ _ _ r h => by simp [spec_DrawSequencesOf.j0] at h, fun _ _ _ _ _ _ r h => by simp [spec_DrawSequencesOf.l0] at h⟩
  | k + 1 => by
    obtain ⟨ih0, ih1⟩ := spec_DrawSequencesOf.mono_l k
    refine ⟨?_, ?_⟩
    · intro y0 y1 y2 y3 y4 y5
      unfold spec_DrawSequencesOf.j0
      repeat' first
      | (with_reducible exact ih0 _ _ _ _ _ _)
      | (with_reducible exact ih1 _ _ _ _ _ _)
      | (with_reducible exact spec_l1Cur_tier.mono _ _ _ _)
      | (with_reducible exact LeO.refl _)
      | (with_reducible exact LeO.none _)
      | (with_reducible refine LeO.ite ?_ ?_)
      | (with_reducible refine LeO.bind ?_ (fun _ => ?_))
    · intro y0 y1 y2 y3 y4 y5
      unfold spec_DrawSequencesOf.l0
      repeat' first
      | (with_reducible exact ih0 _ _ _ _ _ _)
      | (with_reducible exact ih1 _ _ _ _ _ _)
      | (with_reducible exact spec_l1Cur_tier.mono _ _ _ _)
      | (with_reducible exact LeO.refl _)
      | (with_reducible exact LeO.none _)
      | (with_reducible refine LeO.ite ?_ ?_)
      | (with_reducible refine LeO.bind ?_ (fun _ => ?_))
theorem spec_DrawSequencesOf.mono : ∀ a0 k, LeO (spec_DrawSequencesOf.f k a0) (spec_DrawSequencesOf.f (k + 1) a0) := by
  intro a0 k
  obtain ⟨ih0, ih1⟩ := spec_DrawSequencesOf.mono_l k
  unfold spec_DrawSequencesOf.f
  repeat' first
      | (with_reducible exact ih0 _ _ _ _ _ _)
      | (with_reducible exact ih1 _ _ _ _ _ _)
      | (with_reducible exact spec_l1Cur_tier.mono _ _ _ _)
      | (with_reducible exact LeO.refl _)
      | (with_reducible exact LeO.none _)
      | (with_reducible refine LeO.ite ?_ ?_)
      | (with_reducible refine LeO.bind ?_ (fun _ => ?_))
noncomputable def spec_DrawSequencesOf.J0 (x5 : List (S66)) (x6 : List ByteArray) (x7 : Int) (x337000 : List Int) (x337001 : Int) (x337002 : Int) : Option ((List (S66)) × List ByteArray) := lim fun k => spec_DrawSequencesOf.j0 k x5 x6 x7 x337000 x337001 x337002
theorem spec_DrawSequencesOf.J0_lim (x5 : List (S66)) (x6 : List ByteArray) (x7 : Int) (x337000 : List Int) (x337001 : Int) (x337002 : Int) : Lim (fun k => spec_DrawSequencesOf.j0 k x5 x6 x7 x337000 x337001 x337002) (spec_DrawSequencesOf.J0 x5 x6 x7 x337000 x337001 x337002) := ⟨fun k => (spec_DrawSequencesOf.mono_l k).1 x5 x6 x7 x337000 x337001 x337002, rfl⟩
noncomputable def spec_DrawSequencesOf.L0 (x5 : List (S66)) (x6 : List ByteArray) (x7 : Int) (x337000 : List Int) (x337001 : Int) (x337002 : Int) : Option ((List (S66)) × List ByteArray) := lim fun k => spec_DrawSequencesOf.l0 k x5 x6 x7 x337000 x337001 x337002
theorem spec_DrawSequencesOf.L0_lim (x5 : List (S66)) (x6 : List ByteArray) (x7 : Int) (x337000 : List Int) (x337001 : Int) (x337002 : Int) : Lim (fun k => spec_DrawSequencesOf.l0 k x5 x6 x7 x337000 x337001 x337002) (spec_DrawSequencesOf.L0 x5 x6 x7 x337000 x337001 x337002) := ⟨fun k => (spec_DrawSequencesOf.mono_l k).2 x5 x6 x7 x337000 x337001 x337002, rfl⟩
noncomputable def spec_DrawSequencesOf.F (l0 : List Int) : Option ((List (S66)) × List ByteArray) := lim fun k => spec_DrawSequencesOf.f k l0
theorem spec_DrawSequencesOf.F_lim (l0 : List Int) : Lim (fun k => spec_DrawSequencesOf.f k l0) (spec_DrawSequencesOf.F l0) := ⟨spec_DrawSequencesOf.mono l0, rfl⟩
theorem spec_DrawSequencesOf.J0_eq (x5 : List (S66)) (x6 : List ByteArray) (x7 : Int) (x337000 : List Int) (x337001 : Int) (x337002 : Int) : spec_DrawSequencesOf.J0 x5 x6 x7 x337000 x337001 x337002 = (spec_DrawSequencesOf.L0 x5 x6 x7 x337000 x337001 x337002) := by
  refine Lim.succ_eq (spec_DrawSequencesOf.J0_lim x5 x6 x7 x337000 x337001 x337002).mon ?_
  simp only [spec_DrawSequencesOf.j0]
  repeat' first
  | (with_reducible exact spec_DrawSequencesOf.J0_lim _ _ _ _ _ _)
  | (with_reducible exact spec_DrawSequencesOf.L0_lim _ _ _ _ _ _)
  | (with_reducible exact spec_l1Cur_tier.F_lim _ _ _)
  | (with_reducible refine Lim.ite ?_ ?_)
  | (with_reducible refine Lim.bind ?_ (fun _ => ?_))
  | (with_reducible exact Lim.const _)
theorem spec_DrawSequencesOf.L0_eq (x5 : List (S66)) (x6 : List ByteArray) (x7 : Int) (x337000 : List Int) (x337001 : Int) (x337002 : Int) : spec_DrawSequencesOf.L0 x5 x6 x7 x337000 x337001 x337002 = (if (x6.length : Int) < x7 then ((spec_l1Cur_glossPattern.f x337000 x337001 x337002).bind fun bt354 => (if x6.length < 8796093022208 then (spec_DrawSequencesOf.L0 x5 (x6 ++ [bt354.1]) x7 x337000 bt354.2.1 bt354.2.2) else (none))) else (if (x5.length : Int) > 1 then (if x7 = 2 then ((spec_l1Cur_one.f x337000 x337001 x337002 2).bind fun bt360 => (if bt360.1 = true then ((spec_l1Cur_pick.f x337000 bt360.2.1 bt360.2.2 (wrap64 ((x5.length : Int) - 1))).bind fun bt363 => (if 0 ≤ bt363.1 then (if bt363.1 < (x5.length : Int) then (if 0 ≤ (wrap64 (bt363.1 + 1)) then (if (wrap64 (bt363.1 + 1)) < (x5.length : Int) then (some (x5, (([(rd_T66 x5 bt363.1).f2, (rd_T66 x5 (wrap64 (bt363.1 + 1))).f2] : List ByteArray)))) else (none)) else (none)) else (none)) else (none))) else (some (x5, x6)))) else (some (x5, x6))) else (some (x5, x6)))) := by
  refine Lim.succ_eq (spec_DrawSequencesOf.L0_lim x5 x6 x7 x337000 x337001 x337002).mon ?_
  simp only [spec_DrawSequencesOf.l0]
  repeat' first
  | (with_reducible exact spec_DrawSequencesOf.J0_lim _ _ _ _ _ _)
  | (with_reducible exact spec_DrawSequencesOf.L0_lim _ _ _ _ _ _)
  | (with_reducible exact spec_l1Cur_tier.F_lim _ _ _)
  | (with_reducible refine Lim.ite ?_ ?_)
  | (with_reducible refine Lim.bind ?_ (fun _ => ?_))
  | (with_reducible exact Lim.const _)
theorem spec_DrawSequencesOf.F_eq (l0 : List Int) : spec_DrawSequencesOf.F l0 = ((spec_l1Cur_tier.F l0 0 0).bind fun bt337 => ((spec_l1Cur_pick.f l0 bt337.2.1 bt337.2.2 3).bind fun bt342 => ((spec_l1Cur_one.f l0 bt342.2.1 bt342.2.2 12).bind fun bt345 => (if bt345.1 = true then ((spec_l1Cur_among.f l0 bt345.2.1 bt345.2.2 (([0, 8, 9] : List Int))).bind fun bt351 => (spec_DrawSequencesOf.J0 bt337.1 ([] : List ByteArray) bt351.1 l0 bt351.2.1 bt351.2.2)) else (spec_DrawSequencesOf.J0 bt337.1 ([] : List ByteArray) (wrap64 (1 + bt342.1)) l0 bt345.2.1 bt345.2.2))))) := by
  refine Lim.eq_ ?_
  simp only [spec_DrawSequencesOf.f]
  repeat' first
  | (with_reducible exact spec_DrawSequencesOf.J0_lim _ _ _ _ _ _)
  | (with_reducible exact spec_DrawSequencesOf.L0_lim _ _ _ _ _ _)
  | (with_reducible exact spec_l1Cur_tier.F_lim _ _ _)
  | (with_reducible refine Lim.ite ?_ ?_)
  | (with_reducible refine Lim.bind ?_ (fun _ => ?_))
  | (with_reducible exact Lim.const _)
def spec_DrawNotesLike.f (k : Nat) (l0 : List Int) : Option ((List (S66)) × ByteArray) := (spec_l1Cur_tier.f k l0 0 0).bind fun bt372 => ((spec_l1Cur_glossPattern.f l0 bt372.2.1 bt372.2.2).bind fun bt377 => (some (bt372.1, bt377.1)))
theorem spec_DrawNotesLike.mono : ∀ a0 k, LeO (spec_DrawNotesLike.f k a0) (spec_DrawNotesLike.f (k + 1) a0) := by
  intro a0 k
  unfold spec_DrawNotesLike.f
  repeat' first
      | (with_reducible exact spec_l1Cur_tier.mono _ _ _ _)
      | (with_reducible exact LeO.refl _)
      | (with_reducible exact LeO.none _)
      | (with_reducible refine LeO.ite ?_ ?_)
      | (with_reducible refine LeO.bind ?_ (fun _ => ?_))
noncomputable def spec_DrawNotesLike.F (l0 : List Int) : Option ((List (S66)) × ByteArray) := lim fun k => spec_DrawNotesLike.f k l0
theorem spec_DrawNotesLike.F_lim (l0 : List Int) : Lim (fun k => spec_DrawNotesLike.f k l0) (spec_DrawNotesLike.F l0) := ⟨spec_DrawNotesLike.mono l0, rfl⟩
theorem spec_DrawNotesLike.F_eq (l0 : List Int) : spec_DrawNotesLike.F l0 = ((spec_l1Cur_tier.F l0 0 0).bind fun bt372 => ((spec_l1Cur_glossPattern.f l0 bt372.2.1 bt372.2.2).bind fun bt377 => (some (bt372.1, bt377.1)))) := by
  refine Lim.eq_ ?_
  simp only [spec_DrawNotesLike.f]
  repeat' first
  | (with_reducible exact spec_l1Cur_tier.F_lim _ _ _)
  | (with_reducible refine Lim.ite ?_ ?_)
  | (with_reducible refine Lim.bind ?_ (fun _ => ?_))
  | (with_reducible exact Lim.const _)
def spec_DrawPairsWithin.f (k : Nat) (l0 : List Int) : Option ((List (S66)) × ByteArray × ByteArray × Int) := (spec_l1Cur_tier.f k l0 0 0).bind fun bt381 => ((spec_l1Cur_glossPattern.f l0 bt381.2.1 bt381.2.2).bind fun bt386 => ((spec_l1Cur_glossPattern.f l0 bt386.2.1 bt386.2.2).bind fun bt389 => ((spec_l1Cur_among.f l0 bt389.2.1 bt389.2.2 (([10, (-1), 100000] : List Int))).bind fun bt395 => ((spec_l1Cur_among.f l0 bt395.2.1 bt395.2.2 (([0, 2, 5, 20, 99999, bt395.1] : List Int))).bind fun bt401 => (some (bt381.1, bt386.1, bt389.1, bt401.1))))))
theorem spec_DrawPairsWithin.mono : ∀ a0 k, LeO (spec_DrawPairsWithin.f k a0) (spec_DrawPairsWithin.f (k + 1) a0) := by
  intro a0 k
  unfold spec_DrawPairsWithin.f
  repeat' first
      | (with_reducible exact spec_l1Cur_tier.mono _ _ _ _)
      | (with_reducible exact LeO.refl _)
      | (with_reducible exact LeO.none _)
      | (with_reducible refine LeO.ite ?_ ?_)
      | (with_reducible refine LeO.bind ?_ (fun _ => ?_))
noncomputable def spec_DrawPairsWithin.F (l0 : List Int) : Option ((List (S66)) × ByteArray × ByteArray × Int) := lim fun k => spec_DrawPairsWithin.f k l0
theorem spec_DrawPairsWithin.F_lim (l0 : List Int) : Lim (fun k => spec_DrawPairsWithin.f k l0) (spec_DrawPairsWithin.F l0) := ⟨spec_DrawPairsWithin.mono l0, rfl⟩
theorem spec_DrawPairsWithin.F_eq (l0 : List Int) : spec_DrawPairsWithin.F l0 = ((spec_l1Cur_tier.F l0 0 0).bind fun bt381 => ((spec_l1Cur_glossPattern.f l0 bt381.2.1 bt381.2.2).bind fun bt386 => ((spec_l1Cur_glossPattern.f l0 bt386.2.1 bt386.2.2).bind fun bt389 => ((spec_l1Cur_among.f l0 bt389.2.1 bt389.2.2 (([10, (-1), 100000] : List Int))).bind fun bt395 => ((spec_l1Cur_among.f l0 bt395.2.1 bt395.2.2 (([0, 2, 5, 20, 99999, bt395.1] : List Int))).bind fun bt401 => (some (bt381.1, bt386.1, bt389.1, bt401.1))))))) := by
  refine Lim.eq_ ?_
  simp only [spec_DrawPairsWithin.f]
  repeat' first
  | (with_reducible exact spec_l1Cur_tier.F_lim _ _ _)
  | (with_reducible refine Lim.ite ?_ ?_)
  | (with_reducible refine Lim.bind ?_ (fun _ => ?_))
  | (with_reducible exact Lim.const _)
def spec_DrawMatchesGloss.f (l0 : List Int) : Option (ByteArray × ByteArray) := (spec_l1Cur_glossPattern.f l0 0 0).bind fun bt405 => ((spec_l1Cur_of.f l0 bt405.2.1 bt405.2.2 (([(⟨#[]⟩ : ByteArray), (⟨#[103, 111]⟩ : ByteArray), (⟨#[69, 73, 71, 72, 84, 76, 69, 84]⟩ : ByteArray)] : List ByteArray))).bind fun bt411 => ((spec_l1Cur_of.f l0 bt411.2.1 bt411.2.2 (([(⟨#[71, 79]⟩ : ByteArray), (⟨#[72, 79, 85, 83, 69]⟩ : ByteArray), (⟨#[73]⟩ : ByteArray), (⟨#[89, 79, 85]⟩ : ByteArray), (⟨#[71, 73, 86, 69]⟩ : ByteArray), (⟨#[66, 79, 79, 75]⟩ : ByteArray), bt411.1] : List ByteArray))).bind fun bt417 => (some (bt405.1, bt417.1))))
def impl_IsGloss.f (k : Nat) (a0 : ByteArray) : Option (Bool) := (impl_isWordOf.f k a0 (⟨#[65, 66, 67, 68, 69, 70, 71, 72, 73, 74, 75, 76, 77, 78, 79, 80, 81, 82, 83, 84, 85, 86, 87, 88, 89, 90]⟩ : ByteArray)).bind fun t420 => (some t420)
theorem impl_IsGloss.mono : ∀ a0 k, LeO (impl_IsGloss.f k a0) (impl_IsGloss.f (k + 1) a0) := by
  intro a0 k
  unfold impl_IsGloss.f
  repeat' first
      | (with_reducible exact impl_isWordOf.mono _ _ _)
      | (with_reducible exact LeO.refl _)
      | (with_reducible exact LeO.none _)
      | (with_reducible refine LeO.ite ?_ ?_)
      | (with_reducible refine LeO.bind ?_ (fun _ => ?_))
noncomputable def impl_IsGloss.F (a0 : ByteArray) : Option (Bool) := lim fun k => impl_IsGloss.f k a0
theorem impl_IsGloss.F_lim (a0 : ByteArray) : Lim (fun k => impl_IsGloss.f k a0) (impl_IsGloss.F a0) := ⟨impl_IsGloss.mono a0, rfl⟩
theorem impl_IsGloss.F_eq (a0 : ByteArray) : impl_IsGloss.F a0 = ((impl_isWordOf.F a0 (⟨#[65, 66, 67, 68, 69, 70, 71, 72, 73, 74, 75, 76, 77, 78, 79, 80, 81, 82, 83, 84, 85, 86, 87, 88, 89, 90]⟩ : ByteArray)).bind fun t420 => (some t420)) := by
  refine Lim.eq_ ?_
  simp only [impl_IsGloss.f]
  repeat' first
  | (with_reducible exact impl_isWordOf.F_lim _ _)
  | (with_reducible refine Lim.ite ?_ ?_)
  | (with_reducible refine Lim.bind ?_ (fun _ => ?_))
  | (with_reducible exact Lim.const _)
def impl_MatchesGloss.f (k : Nat) (a0 : ByteArray) (a1 : ByteArray) : Option (Bool × Bool) := (impl_isGlossPattern.f k a0).bind fun t421 => (if t421 = true then ((impl_IsGloss.f k a1).bind fun t422 => (if t422 = true then ((impl_fits.f k a0 a1).bind fun t423 => (some (t423, true))) else (some (false, false)))) else (some (false, false)))
theorem impl_MatchesGloss.mono : ∀ a0 a1 k, LeO (impl_MatchesGloss.f k a0 a1) (impl_MatchesGloss.f (k + 1) a0 a1) := by
  intro a0 a1 k
  unfold impl_MatchesGloss.f
  repeat' first
      | (with_reducible exact impl_IsGloss.mono _ _)
      | (with_reducible exact impl_fits.mono _ _ _)
      | (with_reducible exact impl_isGlossPattern.mono _ _)
      | (with_reducible exact LeO.refl _)
      | (with_reducible exact LeO.none _)
      | (with_reducible refine LeO.ite ?_ ?_)
      | (with_reducible refine LeO.bind ?_ (fun _ => ?_))
noncomputable def impl_MatchesGloss.F (a0 : ByteArray) (a1 : ByteArray) : Option (Bool × Bool) := lim fun k => impl_MatchesGloss.f k a0 a1
theorem impl_MatchesGloss.F_lim (a0 : ByteArray) (a1 : ByteArray) : Lim (fun k => impl_MatchesGloss.f k a0 a1) (impl_MatchesGloss.F a0 a1) := ⟨impl_MatchesGloss.mono a0 a1, rfl⟩
theorem impl_MatchesGloss.F_eq (a0 : ByteArray) (a1 : ByteArray) : impl_MatchesGloss.F a0 a1 = ((impl_isGlossPattern.F a0).bind fun t421 => (if t421 = true then ((impl_IsGloss.F a1).bind fun t422 => (if t422 = true then ((impl_fits.F a0 a1).bind fun t423 => (some (t423, true))) else (some (false, false)))) else (some (false, false)))) := by
  refine Lim.eq_ ?_
  simp only [impl_MatchesGloss.f]
  repeat' first
  | (with_reducible exact impl_IsGloss.F_lim _)
  | (with_reducible exact impl_fits.F_lim _ _)
  | (with_reducible exact impl_isGlossPattern.F_lim _)
  | (with_reducible refine Lim.ite ?_ ?_)
  | (with_reducible refine Lim.bind ?_ (fun _ => ?_))
  | (with_reducible exact Lim.const _)
def spec_MatchesGloss.f (k : Nat) (a0 : ByteArray) (a1 : ByteArray) : Option (Bool × Bool) := (spec_quPattern.f k a0).bind fun t424 => (if t424 = true then ((spec_fsWord.f k a1).bind fun t425 => (if t425 = true then ((spec_quLike.f k a0 a1).bind fun t426 => (some (t426, true))) else (some (false, false)))) else (some (false, false)))
theorem spec_MatchesGloss.mono : ∀ a0 a1 k, LeO (spec_MatchesGloss.f k a0 a1) (spec_MatchesGloss.f (k + 1) a0 a1) := by
  intro a0 a1 k
  unfold spec_MatchesGloss.f
  repeat' first
      | (with_reducible exact spec_fsWord.mono _ _)
      | (with_reducible exact spec_quLike.mono _ _ _)
      | (with_reducible exact spec_quPattern.mono _ _)
      | (with_reducible exact LeO.refl _)
      | (with_reducible exact LeO.none _)
      | (with_reducible refine LeO.ite ?_ ?_)
      | (with_reducible refine LeO.bind ?_ (fun _ => ?_))
noncomputable def spec_MatchesGloss.F (a0 : ByteArray) (a1 : ByteArray) : Option (Bool × Bool) := lim fun k => spec_MatchesGloss.f k a0 a1
theorem spec_MatchesGloss.F_lim (a0 : ByteArray) (a1 : ByteArray) : Lim (fun k => spec_MatchesGloss.f k a0 a1) (spec_MatchesGloss.F a0 a1) := ⟨spec_MatchesGloss.mono a0 a1, rfl⟩
theorem spec_MatchesGloss.F_eq (a0 : ByteArray) (a1 : ByteArray) : spec_MatchesGloss.F a0 a1 = ((spec_quPattern.F a0).bind fun t424 => (if t424 = true then ((spec_fsWord.F a1).bind fun t425 => (if t425 = true then ((spec_quLike.F a0 a1).bind fun t426 => (some (t426, true))) else (some (false, false)))) else (some (false, false)))) := by
  refine Lim.eq_ ?_
  simp only [spec_MatchesGloss.f]
  repeat' first
  | (with_reducible exact spec_fsWord.F_lim _)
  | (with_reducible exact spec_quLike.F_lim _ _)
  | (with_reducible exact spec_quPattern.F_lim _)
  | (with_reducible refine Lim.ite ?_ ?_)
  | (with_reducible refine Lim.bind ?_ (fun _ => ?_))
  | (with_reducible exact Lim.const _)
def laws_qInts.l0 : Nat → List Int → List Int → Int → Int → Option (Bool)
  | 0, _, _, _, _ => none
  | k + 1, x0, x1, x12, x13 => if x13 < x12 then (if 0 ≤ x13 then (if x13 < (x0.length : Int) then (if x13 < (x1.length : Int) then (if (rd x0 x13) = (rd x1 x13) then (laws_qInts.l0 k x0 x1 x12 (wrap64 (x13 + 1))) else (some false)) else (none)) else (none)) else (none)) else (some true)
def laws_qInts.f (k : Nat) (l0 : List Int) (l1 : List Int) : Option (Bool) := if (l0.length : Int) = (l1.length : Int) then (laws_qInts.l0 k l0 l1 (l0.length : Int) 0) else (some false)
theorem laws_qInts.mono_l : ∀ k, (∀ y0 y1 y2 y3, LeO (laws_qInts.l0 k y0 y1 y2 y3) (laws_qInts.l0 (k + 1) y0 y1 y2 y3))
  | 0 => fun _ _ _ _ r h => by simp [laws_qInts.l0] at h
  | k + 1 => by
    have ih0 := laws_qInts.mono_l k
    · intro y0 y1 y2 y3
      unfold laws_qInts.l0
      repeat' first
      | (with_reducible exact ih0 _ _ _ _)
      | (with_reducible exact LeO.refl _)
      | (with_reducible exact LeO.none _)
      | (with_reducible refine LeO.ite ?_ ?_)
      | (with_reducible refine LeO.bind ?_ (fun _ => ?_))
theorem laws_qInts.mono : ∀ a0 a1 k, LeO (laws_qInts.f k a0 a1) (laws_qInts.f (k + 1) a0 a1) := by
  intro a0 a1 k
  have ih0 := laws_qInts.mono_l k
  unfold laws_qInts.f
  repeat' first
      | (with_reducible exact ih0 _ _ _ _)
      | (with_reducible exact LeO.refl _)
      | (with_reducible exact LeO.none _)
      | (with_reducible refine LeO.ite ?_ ?_)
      | (with_reducible refine LeO.bind ?_ (fun _ => ?_))
noncomputable def laws_qInts.L0 (x0 : List Int) (x1 : List Int) (x12 : Int) (x13 : Int) : Option (Bool) := lim fun k => laws_qInts.l0 k x0 x1 x12 x13
theorem laws_qInts.L0_lim (x0 : List Int) (x1 : List Int) (x12 : Int) (x13 : Int) : Lim (fun k => laws_qInts.l0 k x0 x1 x12 x13) (laws_qInts.L0 x0 x1 x12 x13) := ⟨fun k => (laws_qInts.mono_l k) x0 x1 x12 x13, rfl⟩
noncomputable def laws_qInts.F (l0 : List Int) (l1 : List Int) : Option (Bool) := lim fun k => laws_qInts.f k l0 l1
theorem laws_qInts.F_lim (l0 : List Int) (l1 : List Int) : Lim (fun k => laws_qInts.f k l0 l1) (laws_qInts.F l0 l1) := ⟨laws_qInts.mono l0 l1, rfl⟩
theorem laws_qInts.L0_eq (x0 : List Int) (x1 : List Int) (x12 : Int) (x13 : Int) : laws_qInts.L0 x0 x1 x12 x13 = (if x13 < x12 then (if 0 ≤ x13 then (if x13 < (x0.length : Int) then (if x13 < (x1.length : Int) then (if (rd x0 x13) = (rd x1 x13) then (laws_qInts.L0 x0 x1 x12 (wrap64 (x13 + 1))) else (some false)) else (none)) else (none)) else (none)) else (some true)) := by
  refine Lim.succ_eq (laws_qInts.L0_lim x0 x1 x12 x13).mon ?_
  simp only [laws_qInts.l0]
  repeat' first
  | (with_reducible exact laws_qInts.L0_lim _ _ _ _)
  | (with_reducible refine Lim.ite ?_ ?_)
  | (with_reducible refine Lim.bind ?_ (fun _ => ?_))
  | (with_reducible exact Lim.const _)
theorem laws_qInts.F_eq (l0 : List Int) (l1 : List Int) : laws_qInts.F l0 l1 = (if (l0.length : Int) = (l1.length : Int) then (laws_qInts.L0 l0 l1 (l0.length : Int) 0) else (some false)) := by
  refine Lim.eq_ ?_
  simp only [laws_qInts.f]
  repeat' first
  | (with_reducible exact laws_qInts.L0_lim _ _ _ _)
  | (with_reducible refine Lim.ite ?_ ?_)
  | (with_reducible refine Lim.bind ?_ (fun _ => ?_))
  | (with_reducible exact Lim.const _)
def laws_qLists.l0 : Nat → List (List Int) → List (List Int) → Int → Int → Option (Bool)
  | 0, _, _, _, _ => none
  | k + 1, x0, x1, x12, x13 => if x13 < x12 then (if 0 ≤ x13 then (if x13 < (x0.length : Int) then (if x13 < (x1.length : Int) then ((laws_qInts.f k (rd_L4 x0 x13) (rd_L4 x1 x13)).bind fun t431 => (if t431 = true then (laws_qLists.l0 k x0 x1 x12 (wrap64 (x13 + 1))) else (some false))) else (none)) else (none)) else (none)) else (some true)
def laws_qLists.f (k : Nat) (l0 : List (List Int)) (l1 : List (List Int)) : Option (Bool) := if (l0.length : Int) = (l1.length : Int) then (laws_qLists.l0 k l0 l1 (l0.length : Int) 0) else (some false)
theorem laws_qLists.mono_l : ∀ k, (∀ y0 y1 y2 y3, LeO (laws_qLists.l0 k y0 y1 y2 y3) (laws_qLists.l0 (k + 1) y0 y1 y2 y3))
  | 0 => fun _ _ _ _ r h => by simp [laws_qLists.l0] at h
  | k + 1 => by
    have ih0 := laws_qLists.mono_l k
    · intro y0 y1 y2 y3
      unfold laws_qLists.l0
      repeat' first
      | (with_reducible exact ih0 _ _ _ _)
      | (with_reducible exact laws_qInts.mono _ _ _)
      | (with_reducible exact LeO.refl _)
      | (with_reducible exact LeO.none _)
      | (with_reducible refine LeO.ite ?_ ?_)
      | (with_reducible refine LeO.bind ?_ (fun _ => ?_))
theorem laws_qLists.mono : ∀ a0 a1 k, LeO (laws_qLists.f k a0 a1) (laws_qLists.f (k + 1) a0 a1) := by
  intro a0 a1 k
  have ih0 := laws_qLists.mono_l k
  unfold laws_qLists.f
  repeat' first
      | (with_reducible exact ih0 _ _ _ _)
      | (with_reducible exact laws_qInts.mono _ _ _)
      | (with_reducible exact LeO.refl _)
      | (with_reducible exact LeO.none _)
      | (with_reducible refine LeO.ite ?_ ?_)
      | (with_reducible refine LeO.bind ?_ (fun _ => ?_))
noncomputable def laws_qLists.L0 (x0 : List (List Int)) (x1 : List (List Int)) (x12 : Int) (x13 : Int) : Option (Bool) := lim fun k => laws_qLists.l0 k x0 x1 x12 x13
theorem laws_qLists.L0_lim (x0 : List (List Int)) (x1 : List (List Int)) (x12 : Int) (x13 : Int) : Lim (fun k => laws_qLists.l0 k x0 x1 x12 x13) (laws_qLists.L0 x0 x1 x12 x13) := ⟨fun k => (laws_qLists.mono_l k) x0 x1 x12 x13, rfl⟩
noncomputable def laws_qLists.F (l0 : List (List Int)) (l1 : List (List Int)) : Option (Bool) := lim fun k => laws_qLists.f k l0 l1
theorem laws_qLists.F_lim (l0 : List (List Int)) (l1 : List (List Int)) : Lim (fun k => laws_qLists.f k l0 l1) (laws_qLists.F l0 l1) := ⟨laws_qLists.mono l0 l1, rfl⟩
theorem laws_qLists.L0_eq (x0 : List (List Int)) (x1 : List (List Int)) (x12 : Int) (x13 : Int) : laws_qLists.L0 x0 x1 x12 x13 = (if x13 < x12 then (if 0 ≤ x13 then (if x13 < (x0.length : Int) then (if x13 < (x1.length : Int) then ((laws_qInts.F (rd_L4 x0 x13) (rd_L4 x1 x13)).bind fun t431 => (if t431 = true then (laws_qLists.L0 x0 x1 x12 (wrap64 (x13 + 1))) else (some false))) else (none)) else (none)) else (none)) else (some true)) := by
  refine Lim.succ_eq (laws_qLists.L0_lim x0 x1 x12 x13).mon ?_
  simp only [laws_qLists.l0]
  repeat' first
  | (with_reducible exact laws_qLists.L0_lim _ _ _ _)
  | (with_reducible exact laws_qInts.F_lim _ _)
  | (with_reducible refine Lim.ite ?_ ?_)
  | (with_reducible refine Lim.bind ?_ (fun _ => ?_))
  | (with_reducible exact Lim.const _)
theorem laws_qLists.F_eq (l0 : List (List Int)) (l1 : List (List Int)) : laws_qLists.F l0 l1 = (if (l0.length : Int) = (l1.length : Int) then (laws_qLists.L0 l0 l1 (l0.length : Int) 0) else (some false)) := by
  refine Lim.eq_ ?_
  simp only [laws_qLists.f]
  repeat' first
  | (with_reducible exact laws_qLists.L0_lim _ _ _ _)
  | (with_reducible exact laws_qInts.F_lim _ _)
  | (with_reducible refine Lim.ite ?_ ?_)
  | (with_reducible refine Lim.bind ?_ (fun _ => ?_))
  | (with_reducible exact Lim.const _)
def laws_qHas.l0 : Nat → Int → List Int → Int → Int → Option (Bool)
  | 0, _, _, _, _ => none
  | k + 1, x1, x7, x8, x9 => if x9 < x8 then (if 0 ≤ x9 then (if x9 < (x7.length : Int) then (if (rd x7 x9) = x1 then (some true) else (laws_qHas.l0 k x1 x7 x8 (wrap64 (x9 + 1)))) else (none)) else (none)) else (some false)
def laws_qHas.f (k : Nat) (l0 : List Int) (a1 : Int) : Option (Bool) := laws_qHas.l0 k a1 l0 (l0.length : Int) 0
theorem laws_qHas.mono_l : ∀ k, (∀ y0 y1 y2 y3, LeO (laws_qHas.l0 k y0 y1 y2 y3) (laws_qHas.l0 (k + 1) y0 y1 y2 y3))
  | 0 => fun _ _ _ _ r h => by simp [laws_qHas.l0] at h
  | k + 1 => by
    have ih0 := laws_qHas.mono_l k
    · intro y0 y1 y2 y3
      unfold laws_qHas.l0
      repeat' first
      | (with_reducible exact ih0 _ _ _ _)
      | (with_reducible exact LeO.refl _)
      | (with_reducible exact LeO.none _)
      | (with_reducible refine LeO.ite ?_ ?_)
      | (with_reducible refine LeO.bind ?_ (fun _ => ?_))
theorem laws_qHas.mono : ∀ a0 a1 k, LeO (laws_qHas.f k a0 a1) (laws_qHas.f (k + 1) a0 a1) := by
  intro a0 a1 k
  have ih0 := laws_qHas.mono_l k
  unfold laws_qHas.f
  repeat' first
      | (with_reducible exact ih0 _ _ _ _)
      | (with_reducible exact LeO.refl _)
      | (with_reducible exact LeO.none _)
      | (with_reducible refine LeO.ite ?_ ?_)
      | (with_reducible refine LeO.bind ?_ (fun _ => ?_))
noncomputable def laws_qHas.L0 (x1 : Int) (x7 : List Int) (x8 : Int) (x9 : Int) : Option (Bool) := lim fun k => laws_qHas.l0 k x1 x7 x8 x9
theorem laws_qHas.L0_lim (x1 : Int) (x7 : List Int) (x8 : Int) (x9 : Int) : Lim (fun k => laws_qHas.l0 k x1 x7 x8 x9) (laws_qHas.L0 x1 x7 x8 x9) := ⟨fun k => (laws_qHas.mono_l k) x1 x7 x8 x9, rfl⟩
noncomputable def laws_qHas.F (l0 : List Int) (a1 : Int) : Option (Bool) := lim fun k => laws_qHas.f k l0 a1
theorem laws_qHas.F_lim (l0 : List Int) (a1 : Int) : Lim (fun k => laws_qHas.f k l0 a1) (laws_qHas.F l0 a1) := ⟨laws_qHas.mono l0 a1, rfl⟩
theorem laws_qHas.L0_eq (x1 : Int) (x7 : List Int) (x8 : Int) (x9 : Int) : laws_qHas.L0 x1 x7 x8 x9 = (if x9 < x8 then (if 0 ≤ x9 then (if x9 < (x7.length : Int) then (if (rd x7 x9) = x1 then (some true) else (laws_qHas.L0 x1 x7 x8 (wrap64 (x9 + 1)))) else (none)) else (none)) else (some false)) := by
  refine Lim.succ_eq (laws_qHas.L0_lim x1 x7 x8 x9).mon ?_
  simp only [laws_qHas.l0]
  repeat' first
  | (with_reducible exact laws_qHas.L0_lim _ _ _ _)
  | (with_reducible refine Lim.ite ?_ ?_)
  | (with_reducible refine Lim.bind ?_ (fun _ => ?_))
  | (with_reducible exact Lim.const _)
theorem laws_qHas.F_eq (l0 : List Int) (a1 : Int) : laws_qHas.F l0 a1 = (laws_qHas.L0 a1 l0 (l0.length : Int) 0) := by
  refine Lim.eq_ ?_
  simp only [laws_qHas.f]
  repeat' first
  | (with_reducible exact laws_qHas.L0_lim _ _ _ _)
  | (with_reducible refine Lim.ite ?_ ?_)
  | (with_reducible refine Lim.bind ?_ (fun _ => ?_))
  | (with_reducible exact Lim.const _)
mutual
def laws_FnQueries.j0 : Nat → List (S66) → List ByteArray → List Int → List (S66) → ByteArray → Bool → List Int → List (S66) → Int → List (List Int) → ByteArray → Bool → Bool → Option (Bool)
  | 0, _, _, _, _, _, _, _, _, _, _, _, _, _ => none
  | k + 1, x5, x6, x9, x11, x12, x14, x15, x17, x20, x23, x26, x28, x169 => if x169 = true then (some false) else (laws_FnQueries.l0 k x5 x6 x11 x12 x14 x15 x17 x20 x23 x26 x28 x9 (x9.length : Int) 0)
def laws_FnQueries.l0 : Nat → List (S66) → List ByteArray → List (S66) → ByteArray → Bool → List Int → List (S66) → Int → List (List Int) → ByteArray → Bool → List Int → Int → Int → Option (Bool)
  | 0, _, _, _, _, _, _, _, _, _, _, _, _, _, _ => none
  | k + 1, x5, x6, x11, x12, x14, x15, x17, x20, x23, x26, x28, x170, x171, x172 => if x172 < x171 then (if 0 ≤ x172 then (if x172 < (x170.length : Int) then (laws_FnQueries.l1 k x5 x6 x11 x12 x14 x15 x17 x20 x23 x26 x28 (rd x170 x172) x170 x171 x172 x6 (x6.length : Int) 0) else (none)) else (none)) else (if x14 = true then (laws_FnQueries.l2 k x12 x15 x17 x20 x23 x26 x28 x11 (x11.length : Int) 0) else (laws_FnQueries.j4 k x17 x20 x23 x26 x28))
def laws_FnQueries.l1 : Nat → List (S66) → List ByteArray → List (S66) → ByteArray → Bool → List Int → List (S66) → Int → List (List Int) → ByteArray → Bool → Int → List Int → Int → Int → List ByteArray → Int → Int → Option (Bool)
  | 0, _, _, _, _, _, _, _, _, _, _, _, _, _, _, _, _, _, _ => none
  | k + 1, x5, x6, x11, x12, x14, x15, x17, x20, x23, x26, x28, x32, x170, x171, x172, x176, x177, x178 => if x178 < x177 then (if 0 ≤ x178 then (if x178 < (x176.length : Int) then (if 0 ≤ (wrap64 (x32 + x178)) then (if (wrap64 (x32 + x178)) < (x5.length : Int) then ((impl_MatchesGloss.f k (rdOf ByteArray.empty x176 x178) ((rd_T66 x5 (wrap64 (x32 + x178))).f2)).bind fun bt485 => (if bt485.2 = true then (if bt485.1 = true then (laws_FnQueries.l1 k x5 x6 x11 x12 x14 x15 x17 x20 x23 x26 x28 x32 x170 x171 x172 x176 x177 (wrap64 (x178 + 1))) else (some false)) else (some false))) else (none)) else (none)) else (none)) else (none)) else (laws_FnQueries.l0 k x5 x6 x11 x12 x14 x15 x17 x20 x23 x26 x28 x170 x171 (wrap64 (x172 + 1)))
def laws_FnQueries.j4 : Nat → List (S66) → Int → List (List Int) → ByteArray → Bool → Option (Bool)
  | 0, _, _, _, _, _ => none
  | k + 1, x17, x20, x23, x26, x28 => laws_FnQueries.l3 k x17 x20 x26 x28 x23 (x23.length : Int) 0
def laws_FnQueries.l3 : Nat → List (S66) → Int → ByteArray → Bool → List (List Int) → Int → Int → Option (Bool)
  | 0, _, _, _, _, _, _, _ => none
  | k + 1, x17, x20, x26, x28, x244, x245, x246 => if x246 < x245 then (if 0 ≤ x246 then (if x246 < (x244.length : Int) then (if 0 < ((rd_L4 x244 x246).length : Int) then (if 1 < ((rd_L4 x244 x246).length : Int) then (if (rd (rd_L4 x244 x246) 0) ≥ (rd (rd_L4 x244 x246) 1) then (some false) else (if 0 ≤ (rd (rd_L4 x244 x246) 1) then (if (rd (rd_L4 x244 x246) 1) < (x17.length : Int) then (if 0 ≤ (rd (rd_L4 x244 x246) 0) then (if (rd (rd_L4 x244 x246) 0) < (x17.length : Int) then (if (wrap64 (((rd_T66 x17 (rd (rd_L4 x244 x246) 1)).f0) - ((rd_T66 x17 (rd (rd_L4 x244 x246) 0)).f1))) > x20 then (some false) else (laws_FnQueries.l3 k x17 x20 x26 x28 x244 x245 (wrap64 (x246 + 1)))) else (none)) else (none)) else (none)) else (none))) else (none)) else (none)) else (none)) else (none)) else (if x28 = true then ((impl_MatchesGloss.f k (⟨#[42]⟩ : ByteArray) x26).bind fun bt501 => ((impl_MatchesGloss.f k x26 x26).bind fun bt503 => (if bt501.2 = true then (if bt501.1 = true then (if bt503.2 = true then (some bt503.1) else (some false)) else (some false)) else (some false)))) else (some true))
def laws_FnQueries.l2 : Nat → ByteArray → List Int → List (S66) → Int → List (List Int) → ByteArray → Bool → List (S66) → Int → Int → Option (Bool)
  | 0, _, _, _, _, _, _, _, _, _, _ => none
  | k + 1, x12, x15, x17, x20, x23, x26, x28, x204, x205, x206 => if x206 < x205 then (if 0 ≤ x206 then (if x206 < (x204.length : Int) then ((impl_MatchesGloss.f k x12 ((rd_T66 x204 x206).f2)).bind fun bt489 => ((spec_MatchesGloss.f k x12 ((rd_T66 x204 x206).f2)).bind fun bt491 => (if bt489.2 = true then (if bt491.2 = true then (if (bt489.1 != bt491.1) = true then (some false) else ((laws_qHas.f k x15 x206).bind fun t493 => (if (t493 != bt491.1) = true then (some false) else (laws_FnQueries.l2 k x12 x15 x17 x20 x23 x26 x28 x204 x205 (wrap64 (x206 + 1)))))) else (some false)) else (some false)))) else (none)) else (none)) else (laws_FnQueries.j4 k x17 x20 x23 x26 x28)
end
def laws_FnQueries.f (k : Nat) (l0 : List Int) (l1 : List Int) : Option (Bool) := if (wrap64 ((l0.length : Int) + (l1.length : Int))) > 1048576 then (some true) else ((spec_DrawSequencesOf.f k l0).bind fun bt433 => ((impl_SequencesOf.f k bt433.1 bt433.2).bind fun bt439 => ((spec_SequencesOf.f k bt433.1 bt433.2).bind fun bt443 => ((spec_DrawNotesLike.f k l1).bind fun bt447 => ((impl_NotesLike.f k bt447.1 bt447.2).bind fun bt451 => ((spec_NotesLike.f k bt447.1 bt447.2).bind fun bt455 => ((spec_DrawPairsWithin.f k l1).bind fun bt459 => ((impl_PairsWithin.f k bt459.1 bt459.2.1 bt459.2.2.1 bt459.2.2.2).bind fun bt465 => ((spec_PairsWithin.f k bt459.1 bt459.2.1 bt459.2.2.1 bt459.2.2.2).bind fun bt469 => ((spec_DrawMatchesGloss.f l1).bind fun bt473 => ((impl_MatchesGloss.f k bt473.1 bt473.2).bind fun bt475 => ((spec_MatchesGloss.f k bt473.1 bt473.2).bind fun bt477 => (if (bt439.2 != bt443.2) = true then (laws_FnQueries.j0 k bt433.1 bt433.2 bt443.1 bt447.1 bt447.2 bt451.2 bt455.1 bt459.1 bt459.2.2.2 bt469.1 bt473.2 bt475.2 true) else ((laws_qInts.f k bt439.1 bt443.1).bind fun t479 => (if t479 = true then (if (bt451.2 != bt455.2) = true then (laws_FnQueries.j0 k bt433.1 bt433.2 bt443.1 bt447.1 bt447.2 bt451.2 bt455.1 bt459.1 bt459.2.2.2 bt469.1 bt473.2 bt475.2 true) else ((laws_qInts.f k bt451.1 bt455.1).bind fun t480 => (if t480 = true then (if (bt465.2 != bt469.2) = true then (laws_FnQueries.j0 k bt433.1 bt433.2 bt443.1 bt447.1 bt447.2 bt451.2 bt455.1 bt459.1 bt459.2.2.2 bt469.1 bt473.2 bt475.2 true) else ((laws_qLists.f k bt465.1 bt469.1).bind fun t481 => (if t481 = true then (if (bt475.2 != bt477.2) = true then (laws_FnQueries.j0 k bt433.1 bt433.2 bt443.1 bt447.1 bt447.2 bt451.2 bt455.1 bt459.1 bt459.2.2.2 bt469.1 bt473.2 bt475.2 true) else (laws_FnQueries.j0 k bt433.1 bt433.2 bt443.1 bt447.1 bt447.2 bt451.2 bt455.1 bt459.1 bt459.2.2.2 bt469.1 bt473.2 bt475.2 (bt475.1 != bt477.1))) else (laws_FnQueries.j0 k bt433.1 bt433.2 bt443.1 bt447.1 bt447.2 bt451.2 bt455.1 bt459.1 bt459.2.2.2 bt469.1 bt473.2 bt475.2 true)))) else (laws_FnQueries.j0 k bt433.1 bt433.2 bt443.1 bt447.1 bt447.2 bt451.2 bt455.1 bt459.1 bt459.2.2.2 bt469.1 bt473.2 bt475.2 true)))) else (laws_FnQueries.j0 k bt433.1 bt433.2 bt443.1 bt447.1 bt447.2 bt451.2 bt455.1 bt459.1 bt459.2.2.2 bt469.1 bt473.2 bt475.2 true))))))))))))))))
theorem laws_FnQueries.mono_l : ∀ k, (∀ y0 y1 y2 y3 y4 y5 y6 y7 y8 y9 y10 y11 y12, LeO (laws_FnQueries.j0 k y0 y1 y2 y3 y4 y5 y6 y7 y8 y9 y10 y11 y12) (laws_FnQueries.j0 (k + 1) y0 y1 y2 y3 y4 y5 y6 y7 y8 y9 y10 y11 y12)) ∧ (∀ y0 y1 y2 y3 y4 y5 y6 y7 y8 y9 y10 y11 y12 y13, LeO (laws_FnQueries.l0 k y0 y1 y2 y3 y4 y5 y6 y7 y8 y9 y10 y11 y12 y13) (laws_FnQueries.l0 (k + 1) y0 y1 y2 y3 y4 y5 y6 y7 y8 y9 y10 y11 y12 y13)) ∧ (∀ y0 y1 y2 y3 y4 y5 y6 y7 y8 y9 y10 y11 y12 y13 y14 y15 y16 y17, LeO (laws_FnQueries.l1 k y0 y1 y2 y3 y4 y5 y6 y7 y8 y9 y10 y11 y12 y13 y14 y15 y16 y17) (laws_FnQueries.l1 (k + 1) y0 y1 y2 y3 y4 y5 y6 y7 y8 y9 y10 y11 y12 y13 y14 y15 y16 y17)) ∧ (∀ y0 y1 y2 y3 y4, LeO (laws_FnQueries.j4 k y0 y1 y2 y3 y4) (laws_FnQueries.j4 (k + 1) y0 y1 y2 y3 y4)) ∧ (∀ y0 y1 y2 y3 y4 y5 y6, LeO (laws_FnQueries.l3 k y0 y1 y2 y3 y4 y5 y6) (laws_FnQueries.l3 (k + 1) y0 y1 y2 y3 y4 y5 y6)) ∧ (∀ y0 y1 y2 y3 y4 y5 y6 y7 y8 y9, LeO (laws_FnQueries.l2 k y0 y1 y2 y3 y4 y5 y6 y7 y8 y9) (laws_FnQueries.l2 (k + 1) y0 y1 y2 y3 y4 y5 y6 y7 y8 y9))
  | 0 => ⟨fun _ _ _ _ _ _ _ _ _ _ _ _ _ r h => by simp [laws_FnQueries.j0] at h, fun _ _ _ _ _ _ _ _ _ _ _ _ _ _ r h => by simp [laws_FnQueries.l0] at h, fun _ _ _ _ _ _ _ _ _ _ _ _ _ _ _ _ _ _ r h => by simp [laws_FnQueries.l1] at h, fun _ _ _ _ _ r h => by simp [laws_FnQueries.j4] at h, fun _ _ _ _ _ _ _ r h => by simp [laws_FnQueries.l3] at h, fun _ _ _ _ _ _ _ _ _ _ r h => by simp [laws_FnQueries.l2] at h⟩
  | k + 1 => by
    obtain ⟨ih0, ih1, ih2, ih3, ih4, ih5⟩ := laws_FnQueries.mono_l k
    refine ⟨?_, ?_, ?_, ?_, ?_, ?_⟩
    · intro y0 y1 y2 y3 y4 y5 y6 y7 y8 y9 y10 y11 y12
      unfold laws_FnQueries.j0
      repeat' first
      | (with_reducible exact ih0 _ _ _ _ _ _ _ _ _ _ _ _ _)
      | (with_reducible exact ih1 _ _ _ _ _ _ _ _ _ _ _ _ _ _)
      | (with_reducible exact ih2 _ _ _ _ _ _ _ _ _ _ _ _ _ _ _ _ _ _)
      | (with_reducible exact ih3 _ _ _ _ _)
      | (with_reducible exact ih4 _ _ _ _ _ _ _)
      | (with_reducible exact ih5 _ _ _ _ _ _ _ _ _ _)
      | (with_reducible exact impl_MatchesGloss.mono _ _ _)
      | (with_reducible exact impl_NotesLike.mono _ _ _)
      | (with_reducible exact impl_PairsWithin.mono _ _ _ _ _)
      | (with_reducible exact impl_SequencesOf.mono _ _ _)
      | (with_reducible exact laws_qHas.mono _ _ _)
      | (with_reducible exact laws_qInts.mono _ _ _)
      | (with_reducible exact laws_qLists.mono _ _ _)
      | (with_reducible exact spec_DrawNotesLike.mono _ _)
      | (with_reducible exact spec_DrawPairsWithin.mono _ _)
      | (with_reducible exact spec_DrawSequencesOf.mono _ _)
      | (with_reducible exact spec_MatchesGloss.mono _ _ _)
      | (with_reducible exact spec_NotesLike.mono _ _ _)
      | (with_reducible exact spec_PairsWithin.mono _ _ _ _ _)
      | (with_reducible exact spec_SequencesOf.mono _ _ _)
      | (with_reducible exact LeO.refl _)
      | (with_reducible exact LeO.none _)
      | (with_reducible refine LeO.ite ?_ ?_)
      | (with_reducible refine LeO.bind ?_ (fun _ => ?_))
    · intro y0 y1 y2 y3 y4 y5 y6 y7 y8 y9 y10 y11 y12 y13
      unfold laws_FnQueries.l0
      repeat' first
      | (with_reducible exact ih0 _ _ _ _ _ _ _ _ _ _ _ _ _)
      | (with_reducible exact ih1 _ _ _ _ _ _ _ _ _ _ _ _ _ _)
      | (with_reducible exact ih2 _ _ _ _ _ _ _ _ _ _ _ _ _ _ _ _ _ _)
      | (with_reducible exact ih3 _ _ _ _ _)
      | (with_reducible exact ih4 _ _ _ _ _ _ _)
      | (with_reducible exact ih5 _ _ _ _ _ _ _ _ _ _)
      | (with_reducible exact impl_MatchesGloss.mono _ _ _)
      | (with_reducible exact impl_NotesLike.mono _ _ _)
      | (with_reducible exact impl_PairsWithin.mono _ _ _ _ _)
      | (with_reducible exact impl_SequencesOf.mono _ _ _)
      | (with_reducible exact laws_qHas.mono _ _ _)
      | (with_reducible exact laws_qInts.mono _ _ _)
      | (with_reducible exact laws_qLists.mono _ _ _)
      | (with_reducible exact spec_DrawNotesLike.mono _ _)
      | (with_reducible exact spec_DrawPairsWithin.mono _ _)
      | (with_reducible exact spec_DrawSequencesOf.mono _ _)
      | (with_reducible exact spec_MatchesGloss.mono _ _ _)
      | (with_reducible exact spec_NotesLike.mono _ _ _)
      | (with_reducible exact spec_PairsWithin.mono _ _ _ _ _)
      | (with_reducible exact spec_SequencesOf.mono _ _ _)
      | (with_reducible exact LeO.refl _)
      | (with_reducible exact LeO.none _)
      | (with_reducible refine LeO.ite ?_ ?_)
      | (with_reducible refine LeO.bind ?_ (fun _ => ?_))
    · intro y0 y1 y2 y3 y4 y5 y6 y7 y8 y9 y10 y11 y12 y13 y14 y15 y16 y17
      unfold laws_FnQueries.l1
      repeat' first
      | (with_reducible exact ih0 _ _ _ _ _ _ _ _ _ _ _ _ _)
      | (with_reducible exact ih1 _ _ _ _ _ _ _ _ _ _ _ _ _ _)
      | (with_reducible exact ih2 _ _ _ _ _ _ _ _ _ _ _ _ _ _ _ _ _ _)
      | (with_reducible exact ih3 _ _ _ _ _)
      | (with_reducible exact ih4 _ _ _ _ _ _ _)
      | (with_reducible exact ih5 _ _ _ _ _ _ _ _ _ _)
      | (with_reducible exact impl_MatchesGloss.mono _ _ _)
      | (with_reducible exact impl_NotesLike.mono _ _ _)
      | (with_reducible exact impl_PairsWithin.mono _ _ _ _ _)
      | (with_reducible exact impl_SequencesOf.mono _ _ _)
      | (with_reducible exact laws_qHas.mono _ _ _)
      | (with_reducible exact laws_qInts.mono _ _ _)
      | (with_reducible exact laws_qLists.mono _ _ _)
      | (with_reducible exact spec_DrawNotesLike.mono _ _)
      | (with_reducible exact spec_DrawPairsWithin.mono _ _)
      | (with_reducible exact spec_DrawSequencesOf.mono _ _)
      | (with_reducible exact spec_MatchesGloss.mono _ _ _)
      | (with_reducible exact spec_NotesLike.mono _ _ _)
      | (with_reducible exact spec_PairsWithin.mono _ _ _ _ _)
      | (with_reducible exact spec_SequencesOf.mono _ _ _)
      | (with_reducible exact LeO.refl _)
      | (with_reducible exact LeO.none _)
      | (with_reducible refine LeO.ite ?_ ?_)
      | (with_reducible refine LeO.bind ?_ (fun _ => ?_))
    · intro y0 y1 y2 y3 y4
      unfold laws_FnQueries.j4
      repeat' first
      | (with_reducible exact ih0 _ _ _ _ _ _ _ _ _ _ _ _ _)
      | (with_reducible exact ih1 _ _ _ _ _ _ _ _ _ _ _ _ _ _)
      | (with_reducible exact ih2 _ _ _ _ _ _ _ _ _ _ _ _ _ _ _ _ _ _)
      | (with_reducible exact ih3 _ _ _ _ _)
      | (with_reducible exact ih4 _ _ _ _ _ _ _)
      | (with_reducible exact ih5 _ _ _ _ _ _ _ _ _ _)
      | (with_reducible exact impl_MatchesGloss.mono _ _ _)
      | (with_reducible exact impl_NotesLike.mono _ _ _)
      | (with_reducible exact impl_PairsWithin.mono _ _ _ _ _)
      | (with_reducible exact impl_SequencesOf.mono _ _ _)
      | (with_reducible exact laws_qHas.mono _ _ _)
      | (with_reducible exact laws_qInts.mono _ _ _)
      | (with_reducible exact laws_qLists.mono _ _ _)
      | (with_reducible exact spec_DrawNotesLike.mono _ _)
      | (with_reducible exact spec_DrawPairsWithin.mono _ _)
      | (with_reducible exact spec_DrawSequencesOf.mono _ _)
      | (with_reducible exact spec_MatchesGloss.mono _ _ _)
      | (with_reducible exact spec_NotesLike.mono _ _ _)
      | (with_reducible exact spec_PairsWithin.mono _ _ _ _ _)
      | (with_reducible exact spec_SequencesOf.mono _ _ _)
      | (with_reducible exact LeO.refl _)
      | (with_reducible exact LeO.none _)
      | (with_reducible refine LeO.ite ?_ ?_)
      | (with_reducible refine LeO.bind ?_ (fun _ => ?_))
    · intro y0 y1 y2 y3 y4 y5 y6
      unfold laws_FnQueries.l3
      repeat' first
      | (with_reducible exact ih0 _ _ _ _ _ _ _ _ _ _ _ _ _)
      | (with_reducible exact ih1 _ _ _ _ _ _ _ _ _ _ _ _ _ _)
      | (with_reducible exact ih2 _ _ _ _ _ _ _ _ _ _ _ _ _ _ _ _ _ _)
      | (with_reducible exact ih3 _ _ _ _ _)
      | (with_reducible exact ih4 _ _ _ _ _ _ _)
      | (with_reducible exact ih5 _ _ _ _ _ _ _ _ _ _)
      | (with_reducible exact impl_MatchesGloss.mono _ _ _)
      | (with_reducible exact impl_NotesLike.mono _ _ _)
      | (with_reducible exact impl_PairsWithin.mono _ _ _ _ _)
      | (with_reducible exact impl_SequencesOf.mono _ _ _)
      | (with_reducible exact laws_qHas.mono _ _ _)
      | (with_reducible exact laws_qInts.mono _ _ _)
      | (with_reducible exact laws_qLists.mono _ _ _)
      | (with_reducible exact spec_DrawNotesLike.mono _ _)
      | (with_reducible exact spec_DrawPairsWithin.mono _ _)
      | (with_reducible exact spec_DrawSequencesOf.mono _ _)
      | (with_reducible exact spec_MatchesGloss.mono _ _ _)
      | (with_reducible exact spec_NotesLike.mono _ _ _)
      | (with_reducible exact spec_PairsWithin.mono _ _ _ _ _)
      | (with_reducible exact spec_SequencesOf.mono _ _ _)
      | (with_reducible exact LeO.refl _)
      | (with_reducible exact LeO.none _)
      | (with_reducible refine LeO.ite ?_ ?_)
      | (with_reducible refine LeO.bind ?_ (fun _ => ?_))
    · intro y0 y1 y2 y3 y4 y5 y6 y7 y8 y9
      unfold laws_FnQueries.l2
      repeat' first
      | (with_reducible exact ih0 _ _ _ _ _ _ _ _ _ _ _ _ _)
      | (with_reducible exact ih1 _ _ _ _ _ _ _ _ _ _ _ _ _ _)
      | (with_reducible exact ih2 _ _ _ _ _ _ _ _ _ _ _ _ _ _ _ _ _ _)
      | (with_reducible exact ih3 _ _ _ _ _)
      | (with_reducible exact ih4 _ _ _ _ _ _ _)
      | (with_reducible exact ih5 _ _ _ _ _ _ _ _ _ _)
      | (with_reducible exact impl_MatchesGloss.mono _ _ _)
      | (with_reducible exact impl_NotesLike.mono _ _ _)
      | (with_reducible exact impl_PairsWithin.mono _ _ _ _ _)
      | (with_reducible exact impl_SequencesOf.mono _ _ _)
      | (with_reducible exact laws_qHas.mono _ _ _)
      | (with_reducible exact laws_qInts.mono _ _ _)
      | (with_reducible exact laws_qLists.mono _ _ _)
      | (with_reducible exact spec_DrawNotesLike.mono _ _)
      | (with_reducible exact spec_DrawPairsWithin.mono _ _)
      | (with_reducible exact spec_DrawSequencesOf.mono _ _)
      | (with_reducible exact spec_MatchesGloss.mono _ _ _)
      | (with_reducible exact spec_NotesLike.mono _ _ _)
      | (with_reducible exact spec_PairsWithin.mono _ _ _ _ _)
      | (with_reducible exact spec_SequencesOf.mono _ _ _)
      | (with_reducible exact LeO.refl _)
      | (with_reducible exact LeO.none _)
      | (with_reducible refine LeO.ite ?_ ?_)
      | (with_reducible refine LeO.bind ?_ (fun _ => ?_))
theorem laws_FnQueries.mono : ∀ a0 a1 k, LeO (laws_FnQueries.f k a0 a1) (laws_FnQueries.f (k + 1) a0 a1) := by
  intro a0 a1 k
  obtain ⟨ih0, ih1, ih2, ih3, ih4, ih5⟩ := laws_FnQueries.mono_l k
  unfold laws_FnQueries.f
  repeat' first
      | (with_reducible exact ih0 _ _ _ _ _ _ _ _ _ _ _ _ _)
      | (with_reducible exact ih1 _ _ _ _ _ _ _ _ _ _ _ _ _ _)
      | (with_reducible exact ih2 _ _ _ _ _ _ _ _ _ _ _ _ _ _ _ _ _ _)
      | (with_reducible exact ih3 _ _ _ _ _)
      | (with_reducible exact ih4 _ _ _ _ _ _ _)
      | (with_reducible exact ih5 _ _ _ _ _ _ _ _ _ _)
      | (with_reducible exact impl_MatchesGloss.mono _ _ _)
      | (with_reducible exact impl_NotesLike.mono _ _ _)
      | (with_reducible exact impl_PairsWithin.mono _ _ _ _ _)
      | (with_reducible exact impl_SequencesOf.mono _ _ _)
      | (with_reducible exact laws_qHas.mono _ _ _)
      | (with_reducible exact laws_qInts.mono _ _ _)
      | (with_reducible exact laws_qLists.mono _ _ _)
      | (with_reducible exact spec_DrawNotesLike.mono _ _)
      | (with_reducible exact spec_DrawPairsWithin.mono _ _)
      | (with_reducible exact spec_DrawSequencesOf.mono _ _)
      | (with_reducible exact spec_MatchesGloss.mono _ _ _)
      | (with_reducible exact spec_NotesLike.mono _ _ _)
      | (with_reducible exact spec_PairsWithin.mono _ _ _ _ _)
      | (with_reducible exact spec_SequencesOf.mono _ _ _)
      | (with_reducible exact LeO.refl _)
      | (with_reducible exact LeO.none _)
      | (with_reducible refine LeO.ite ?_ ?_)
      | (with_reducible refine LeO.bind ?_ (fun _ => ?_))
noncomputable def laws_FnQueries.J0 (x5 : List (S66)) (x6 : List ByteArray) (x9 : List Int) (x11 : List (S66)) (x12 : ByteArray) (x14 : Bool) (x15 : List Int) (x17 : List (S66)) (x20 : Int) (x23 : List (List Int)) (x26 : ByteArray) (x28 : Bool) (x169 : Bool) : Option (Bool) := lim fun k => laws_FnQueries.j0 k x5 x6 x9 x11 x12 x14 x15 x17 x20 x23 x26 x28 x169
theorem laws_FnQueries.J0_lim (x5 : List (S66)) (x6 : List ByteArray) (x9 : List Int) (x11 : List (S66)) (x12 : ByteArray) (x14 : Bool) (x15 : List Int) (x17 : List (S66)) (x20 : Int) (x23 : List (List Int)) (x26 : ByteArray) (x28 : Bool) (x169 : Bool) : Lim (fun k => laws_FnQueries.j0 k x5 x6 x9 x11 x12 x14 x15 x17 x20 x23 x26 x28 x169) (laws_FnQueries.J0 x5 x6 x9 x11 x12 x14 x15 x17 x20 x23 x26 x28 x169) := ⟨fun k => (laws_FnQueries.mono_l k).1 x5 x6 x9 x11 x12 x14 x15 x17 x20 x23 x26 x28 x169, rfl⟩
noncomputable def laws_FnQueries.L0 (x5 : List (S66)) (x6 : List ByteArray) (x11 : List (S66)) (x12 : ByteArray) (x14 : Bool) (x15 : List Int) (x17 : List (S66)) (x20 : Int) (x23 : List (List Int)) (x26 : ByteArray) (x28 : Bool) (x170 : List Int) (x171 : Int) (x172 : Int) : Option (Bool) := lim fun k => laws_FnQueries.l0 k x5 x6 x11 x12 x14 x15 x17 x20 x23 x26 x28 x170 x171 x172
theorem laws_FnQueries.L0_lim (x5 : List (S66)) (x6 : List ByteArray) (x11 : List (S66)) (x12 : ByteArray) (x14 : Bool) (x15 : List Int) (x17 : List (S66)) (x20 : Int) (x23 : List (List Int)) (x26 : ByteArray) (x28 : Bool) (x170 : List Int) (x171 : Int) (x172 : Int) : Lim (fun k => laws_FnQueries.l0 k x5 x6 x11 x12 x14 x15 x17 x20 x23 x26 x28 x170 x171 x172) (laws_FnQueries.L0 x5 x6 x11 x12 x14 x15 x17 x20 x23 x26 x28 x170 x171 x172) := ⟨fun k => (laws_FnQueries.mono_l k).2.1 x5 x6 x11 x12 x14 x15 x17 x20 x23 x26 x28 x170 x171 x172, rfl⟩
noncomputable def laws_FnQueries.L1 (x5 : List (S66)) (x6 : List ByteArray) (x11 : List (S66)) (x12 : ByteArray) (x14 : Bool) (x15 : List Int) (x17 : List (S66)) (x20 : Int) (x23 : List (List Int)) (x26 : ByteArray) (x28 : Bool) (x32 : Int) (x170 : List Int) (x171 : Int) (x172 : Int) (x176 : List ByteArray) (x177 : Int) (x178 : Int) : Option (Bool) := lim fun k => laws_FnQueries.l1 k x5 x6 x11 x12 x14 x15 x17 x20 x23 x26 x28 x32 x170 x171 x172 x176 x177 x178
theorem laws_FnQueries.L1_lim (x5 : List (S66)) (x6 : List ByteArray) (x11 : List (S66)) (x12 : ByteArray) (x14 : Bool) (x15 : List Int) (x17 : List (S66)) (x20 : Int) (x23 : List (List Int)) (x26 : ByteArray) (x28 : Bool) (x32 : Int) (x170 : List Int) (x171 : Int) (x172 : Int) (x176 : List ByteArray) (x177 : Int) (x178 : Int) : Lim (fun k => laws_FnQueries.l1 k x5 x6 x11 x12 x14 x15 x17 x20 x23 x26 x28 x32 x170 x171 x172 x176 x177 x178) (laws_FnQueries.L1 x5 x6 x11 x12 x14 x15 x17 x20 x23 x26 x28 x32 x170 x171 x172 x176 x177 x178) := ⟨fun k => (laws_FnQueries.mono_l k).2.2.1 x5 x6 x11 x12 x14 x15 x17 x20 x23 x26 x28 x32 x170 x171 x172 x176 x177 x178, rfl⟩
noncomputable def laws_FnQueries.J4 (x17 : List (S66)) (x20 : Int) (x23 : List (List Int)) (x26 : ByteArray) (x28 : Bool) : Option (Bool) := lim fun k => laws_FnQueries.j4 k x17 x20 x23 x26 x28
theorem laws_FnQueries.J4_lim (x17 : List (S66)) (x20 : Int) (x23 : List (List Int)) (x26 : ByteArray) (x28 : Bool) : Lim (fun k => laws_FnQueries.j4 k x17 x20 x23 x26 x28) (laws_FnQueries.J4 x17 x20 x23 x26 x28) := ⟨fun k => (laws_FnQueries.mono_l k).2.2.2.1 x17 x20 x23 x26 x28, rfl⟩
noncomputable def laws_FnQueries.L3 (x17 : List (S66)) (x20 : Int) (x26 : ByteArray) (x28 : Bool) (x244 : List (List Int)) (x245 : Int) (x246 : Int) : Option (Bool) := lim fun k => laws_FnQueries.l3 k x17 x20 x26 x28 x244 x245 x246
theorem laws_FnQueries.L3_lim (x17 : List (S66)) (x20 : Int) (x26 : ByteArray) (x28 : Bool) (x244 : List (List Int)) (x245 : Int) (x246 : Int) : Lim (fun k => laws_FnQueries.l3 k x17 x20 x26 x28 x244 x245 x246) (laws_FnQueries.L3 x17 x20 x26 x28 x244 x245 x246) := ⟨fun k => (laws_FnQueries.mono_l k).2.2.2.2.1 x17 x20 x26 x28 x244 x245 x246, rfl⟩
noncomputable def laws_FnQueries.L2 (x12 : ByteArray) (x15 : List Int) (x17 : List (S66)) (x20 : Int) (x23 : List (List Int)) (x26 : ByteArray) (x28 : Bool) (x204 : List (S66)) (x205 : Int) (x206 : Int) : Option (Bool) := lim fun k => laws_FnQueries.l2 k x12 x15 x17 x20 x23 x26 x28 x204 x205 x206
theorem laws_FnQueries.L2_lim (x12 : ByteArray) (x15 : List Int) (x17 : List (S66)) (x20 : Int) (x23 : List (List Int)) (x26 : ByteArray) (x28 : Bool) (x204 : List (S66)) (x205 : Int) (x206 : Int) : Lim (fun k => laws_FnQueries.l2 k x12 x15 x17 x20 x23 x26 x28 x204 x205 x206) (laws_FnQueries.L2 x12 x15 x17 x20 x23 x26 x28 x204 x205 x206) := ⟨fun k => (laws_FnQueries.mono_l k).2.2.2.2.2 x12 x15 x17 x20 x23 x26 x28 x204 x205 x206, rfl⟩
noncomputable def laws_FnQueries.F (l0 : List Int) (l1 : List Int) : Option (Bool) := lim fun k => laws_FnQueries.f k l0 l1
theorem laws_FnQueries.F_lim (l0 : List Int) (l1 : List Int) : Lim (fun k => laws_FnQueries.f k l0 l1) (laws_FnQueries.F l0 l1) := ⟨laws_FnQueries.mono l0 l1, rfl⟩
theorem laws_FnQueries.J0_eq (x5 : List (S66)) (x6 : List ByteArray) (x9 : List Int) (x11 : List (S66)) (x12 : ByteArray) (x14 : Bool) (x15 : List Int) (x17 : List (S66)) (x20 : Int) (x23 : List (List Int)) (x26 : ByteArray) (x28 : Bool) (x169 : Bool) : laws_FnQueries.J0 x5 x6 x9 x11 x12 x14 x15 x17 x20 x23 x26 x28 x169 = (if x169 = true then (some false) else (laws_FnQueries.L0 x5 x6 x11 x12 x14 x15 x17 x20 x23 x26 x28 x9 (x9.length : Int) 0)) := by
  refine Lim.succ_eq (laws_FnQueries.J0_lim x5 x6 x9 x11 x12 x14 x15 x17 x20 x23 x26 x28 x169).mon ?_
  simp only [laws_FnQueries.j0]
  repeat' first
  | (with_reducible exact laws_FnQueries.J0_lim _ _ _ _ _ _ _ _ _ _ _ _ _)
  | (with_reducible exact laws_FnQueries.L0_lim _ _ _ _ _ _ _ _ _ _ _ _ _ _)
  | (with_reducible exact laws_FnQueries.L1_lim _ _ _ _ _ _ _ _ _ _ _ _ _ _ _ _ _ _)
  | (with_reducible exact laws_FnQueries.J4_lim _ _ _ _ _)
  | (with_reducible exact laws_FnQueries.L3_lim _ _ _ _ _ _ _)
  | (with_reducible exact laws_FnQueries.L2_lim _ _ _ _ _ _ _ _ _ _)
  | (with_reducible exact impl_MatchesGloss.F_lim _ _)
  | (with_reducible exact impl_NotesLike.F_lim _ _)
  | (with_reducible exact impl_PairsWithin.F_lim _ _ _ _)
  | (with_reducible exact impl_SequencesOf.F_lim _ _)
  | (with_reducible exact laws_qHas.F_lim _ _)
  | (with_reducible exact laws_qInts.F_lim _ _)
  | (with_reducible exact laws_qLists.F_lim _ _)
  | (with_reducible exact spec_DrawNotesLike.F_lim _)
  | (with_reducible exact spec_DrawPairsWithin.F_lim _)
  | (with_reducible exact spec_DrawSequencesOf.F_lim _)
  | (with_reducible exact spec_MatchesGloss.F_lim _ _)
  | (with_reducible exact spec_NotesLike.F_lim _ _)
  | (with_reducible exact spec_PairsWithin.F_lim _ _ _ _)
  | (with_reducible exact spec_SequencesOf.F_lim _ _)
  | (with_reducible refine Lim.ite ?_ ?_)
  | (with_reducible refine Lim.bind ?_ (fun _ => ?_))
  | (with_reducible exact Lim.const _)
theorem laws_FnQueries.L0_eq (x5 : List (S66)) (x6 : List ByteArray) (x11 : List (S66)) (x12 : ByteArray) (x14 : Bool) (x15 : List Int) (x17 : List (S66)) (x20 : Int) (x23 : List (List Int)) (x26 : ByteArray) (x28 : Bool) (x170 : List Int) (x171 : Int) (x172 : Int) : laws_FnQueries.L0 x5 x6 x11 x12 x14 x15 x17 x20 x23 x26 x28 x170 x171 x172 = (if x172 < x171 then (if 0 ≤ x172 then (if x172 < (x170.length : Int) then (laws_FnQueries.L1 x5 x6 x11 x12 x14 x15 x17 x20 x23 x26 x28 (rd x170 x172) x170 x171 x172 x6 (x6.length : Int) 0) else (none)) else (none)) else (if x14 = true then (laws_FnQueries.L2 x12 x15 x17 x20 x23 x26 x28 x11 (x11.length : Int) 0) else (laws_FnQueries.J4 x17 x20 x23 x26 x28))) := by
  refine Lim.succ_eq (laws_FnQueries.L0_lim x5 x6 x11 x12 x14 x15 x17 x20 x23 x26 x28 x170 x171 x172).mon ?_
  simp only [laws_FnQueries.l0]
  repeat' first
  | (with_reducible exact laws_FnQueries.J0_lim _ _ _ _ _ _ _ _ _ _ _ _ _)
  | (with_reducible exact laws_FnQueries.L0_lim _ _ _ _ _ _ _ _ _ _ _ _ _ _)
  | (with_reducible exact laws_FnQueries.L1_lim _ _ _ _ _ _ _ _ _ _ _ _ _ _ _ _ _ _)
  | (with_reducible exact laws_FnQueries.J4_lim _ _ _ _ _)
  | (with_reducible exact laws_FnQueries.L3_lim _ _ _ _ _ _ _)
  | (with_reducible exact laws_FnQueries.L2_lim _ _ _ _ _ _ _ _ _ _)
  | (with_reducible exact impl_MatchesGloss.F_lim _ _)
  | (with_reducible exact impl_NotesLike.F_lim _ _)
  | (with_reducible exact impl_PairsWithin.F_lim _ _ _ _)
  | (with_reducible exact impl_SequencesOf.F_lim _ _)
  | (with_reducible exact laws_qHas.F_lim _ _)
  | (with_reducible exact laws_qInts.F_lim _ _)
  | (with_reducible exact laws_qLists.F_lim _ _)
  | (with_reducible exact spec_DrawNotesLike.F_lim _)
  | (with_reducible exact spec_DrawPairsWithin.F_lim _)
  | (with_reducible exact spec_DrawSequencesOf.F_lim _)
  | (with_reducible exact spec_MatchesGloss.F_lim _ _)
  | (with_reducible exact spec_NotesLike.F_lim _ _)
  | (with_reducible exact spec_PairsWithin.F_lim _ _ _ _)
  | (with_reducible exact spec_SequencesOf.F_lim _ _)
  | (with_reducible refine Lim.ite ?_ ?_)
  | (with_reducible refine Lim.bind ?_ (fun _ => ?_))
  | (with_reducible exact Lim.const _)
theorem laws_FnQueries.L1_eq (x5 : List (S66)) (x6 : List ByteArray) (x11 : List (S66)) (x12 : ByteArray) (x14 : Bool) (x15 : List Int) (x17 : List (S66)) (x20 : Int) (x23 : List (List Int)) (x26 : ByteArray) (x28 : Bool) (x32 : Int) (x170 : List Int) (x171 : Int) (x172 : Int) (x176 : List ByteArray) (x177 : Int) (x178 : Int) : laws_FnQueries.L1 x5 x6 x11 x12 x14 x15 x17 x20 x23 x26 x28 x32 x170 x171 x172 x176 x177 x178 = (if x178 < x177 then (if 0 ≤ x178 then (if x178 < (x176.length : Int) then (if 0 ≤ (wrap64 (x32 + x178)) then (if (wrap64 (x32 + x178)) < (x5.length : Int) then ((impl_MatchesGloss.F (rdOf ByteArray.empty x176 x178) ((rd_T66 x5 (wrap64 (x32 + x178))).f2)).bind fun bt485 => (if bt485.2 = true then (if bt485.1 = true then (laws_FnQueries.L1 x5 x6 x11 x12 x14 x15 x17 x20 x23 x26 x28 x32 x170 x171 x172 x176 x177 (wrap64 (x178 + 1))) else (some false)) else (some false))) else (none)) else (none)) else (none)) else (none)) else (laws_FnQueries.L0 x5 x6 x11 x12 x14 x15 x17 x20 x23 x26 x28 x170 x171 (wrap64 (x172 + 1)))) := by
  refine Lim.succ_eq (laws_FnQueries.L1_lim x5 x6 x11 x12 x14 x15 x17 x20 x23 x26 x28 x32 x170 x171 x172 x176 x177 x178).mon ?_
  simp only [laws_FnQueries.l1]
  repeat' first
  | (with_reducible exact laws_FnQueries.J0_lim _ _ _ _ _ _ _ _ _ _ _ _ _)
  | (with_reducible exact laws_FnQueries.L0_lim _ _ _ _ _ _ _ _ _ _ _ _ _ _)
  | (with_reducible exact laws_FnQueries.L1_lim _ _ _ _ _ _ _ _ _ _ _ _ _ _ _ _ _ _)
  | (with_reducible exact laws_FnQueries.J4_lim _ _ _ _ _)
  | (with_reducible exact laws_FnQueries.L3_lim _ _ _ _ _ _ _)
  | (with_reducible exact laws_FnQueries.L2_lim _ _ _ _ _ _ _ _ _ _)
  | (with_reducible exact impl_MatchesGloss.F_lim _ _)
  | (with_reducible exact impl_NotesLike.F_lim _ _)
  | (with_reducible exact impl_PairsWithin.F_lim _ _ _ _)
  | (with_reducible exact impl_SequencesOf.F_lim _ _)
  | (with_reducible exact laws_qHas.F_lim _ _)
  | (with_reducible exact laws_qInts.F_lim _ _)
  | (with_reducible exact laws_qLists.F_lim _ _)
  | (with_reducible exact spec_DrawNotesLike.F_lim _)
  | (with_reducible exact spec_DrawPairsWithin.F_lim _)
  | (with_reducible exact spec_DrawSequencesOf.F_lim _)
  | (with_reducible exact spec_MatchesGloss.F_lim _ _)
  | (with_reducible exact spec_NotesLike.F_lim _ _)
  | (with_reducible exact spec_PairsWithin.F_lim _ _ _ _)
  | (with_reducible exact spec_SequencesOf.F_lim _ _)
  | (with_reducible refine Lim.ite ?_ ?_)
  | (with_reducible refine Lim.bind ?_ (fun _ => ?_))
  | (with_reducible exact Lim.const _)
theorem laws_FnQueries.J4_eq (x17 : List (S66)) (x20 : Int) (x23 : List (List Int)) (x26 : ByteArray) (x28 : Bool) : laws_FnQueries.J4 x17 x20 x23 x26 x28 = (laws_FnQueries.L3 x17 x20 x26 x28 x23 (x23.length : Int) 0) := by
  refine Lim.succ_eq (laws_FnQueries.J4_lim x17 x20 x23 x26 x28).mon ?_
  simp only [laws_FnQueries.j4]
  repeat' first
  | (with_reducible exact laws_FnQueries.J0_lim _ _ _ _ _ _ _ _ _ _ _ _ _)
  | (with_reducible exact laws_FnQueries.L0_lim _ _ _ _ _ _ _ _ _ _ _ _ _ _)
  | (with_reducible exact laws_FnQueries.L1_lim _ _ _ _ _ _ _ _ _ _ _ _ _ _ _ _ _ _)
  | (with_reducible exact laws_FnQueries.J4_lim _ _ _ _ _)
  | (with_reducible exact laws_FnQueries.L3_lim _ _ _ _ _ _ _)
  | (with_reducible exact laws_FnQueries.L2_lim _ _ _ _ _ _ _ _ _ _)
  | (with_reducible exact impl_MatchesGloss.F_lim _ _)
  | (with_reducible exact impl_NotesLike.F_lim _ _)
  | (with_reducible exact impl_PairsWithin.F_lim _ _ _ _)
  | (with_reducible exact impl_SequencesOf.F_lim _ _)
  | (with_reducible exact laws_qHas.F_lim _ _)
  | (with_reducible exact laws_qInts.F_lim _ _)
  | (with_reducible exact laws_qLists.F_lim _ _)
  | (with_reducible exact spec_DrawNotesLike.F_lim _)
  | (with_reducible exact spec_DrawPairsWithin.F_lim _)
  | (with_reducible exact spec_DrawSequencesOf.F_lim _)
  | (with_reducible exact spec_MatchesGloss.F_lim _ _)
  | (with_reducible exact spec_NotesLike.F_lim _ _)
  | (with_reducible exact spec_PairsWithin.F_lim _ _ _ _)
  | (with_reducible exact spec_SequencesOf.F_lim _ _)
  | (with_reducible refine Lim.ite ?_ ?_)
  | (with_reducible refine Lim.bind ?_ (fun _ => ?_))
  | (with_reducible exact Lim.const _)
theorem laws_FnQueries.L3_eq (x17 : List (S66)) (x20 : Int) (x26 : ByteArray) (x28 : Bool) (x244 : List (List Int)) (x245 : Int) (x246 : Int) : laws_FnQueries.L3 x17 x20 x26 x28 x244 x245 x246 = (if x246 < x245 then (if 0 ≤ x246 then (if x246 < (x244.length : Int) then (if 0 < ((rd_L4 x244 x246).length : Int) then (if 1 < ((rd_L4 x244 x246).length : Int) then (if (rd (rd_L4 x244 x246) 0) ≥ (rd (rd_L4 x244 x246) 1) then (some false) else (if 0 ≤ (rd (rd_L4 x244 x246) 1) then (if (rd (rd_L4 x244 x246) 1) < (x17.length : Int) then (if 0 ≤ (rd (rd_L4 x244 x246) 0) then (if (rd (rd_L4 x244 x246) 0) < (x17.length : Int) then (if (wrap64 (((rd_T66 x17 (rd (rd_L4 x244 x246) 1)).f0) - ((rd_T66 x17 (rd (rd_L4 x244 x246) 0)).f1))) > x20 then (some false) else (laws_FnQueries.L3 x17 x20 x26 x28 x244 x245 (wrap64 (x246 + 1)))) else (none)) else (none)) else (none)) else (none))) else (none)) else (none)) else (none)) else (none)) else (if x28 = true then ((impl_MatchesGloss.F (⟨#[42]⟩ : ByteArray) x26).bind fun bt501 => ((impl_MatchesGloss.F x26 x26).bind fun bt503 => (if bt501.2 = true then (if bt501.1 = true then (if bt503.2 = true then (some bt503.1) else (some false)) else (some false)) else (some false)))) else (some true))) := by
  refine Lim.succ_eq (laws_FnQueries.L3_lim x17 x20 x26 x28 x244 x245 x246).mon ?_
  simp only [laws_FnQueries.l3]
  repeat' first
  | (with_reducible exact laws_FnQueries.J0_lim _ _ _ _ _ _ _ _ _ _ _ _ _)
  | (with_reducible exact laws_FnQueries.L0_lim _ _ _ _ _ _ _ _ _ _ _ _ _ _)
  | (with_reducible exact laws_FnQueries.L1_lim _ _ _ _ _ _ _ _ _ _ _ _ _ _ _ _ _ _)
  | (with_reducible exact laws_FnQueries.J4_lim _ _ _ _ _)
  | (with_reducible exact laws_FnQueries.L3_lim _ _ _ _ _ _ _)
  | (with_reducible exact laws_FnQueries.L2_lim _ _ _ _ _ _ _ _ _ _)
  | (with_reducible exact impl_MatchesGloss.F_lim _ _)
  | (with_reducible exact impl_NotesLike.F_lim _ _)
  | (with_reducible exact impl_PairsWithin.F_lim _ _ _ _)
  | (with_reducible exact impl_SequencesOf.F_lim _ _)
  | (with_reducible exact laws_qHas.F_lim _ _)
  | (with_reducible exact laws_qInts.F_lim _ _)
  | (with_reducible exact laws_qLists.F_lim _ _)
  | (with_reducible exact spec_DrawNotesLike.F_lim _)
  | (with_reducible exact spec_DrawPairsWithin.F_lim _)
  | (with_reducible exact spec_DrawSequencesOf.F_lim _)
  | (with_reducible exact spec_MatchesGloss.F_lim _ _)
  | (with_reducible exact spec_NotesLike.F_lim _ _)
  | (with_reducible exact spec_PairsWithin.F_lim _ _ _ _)
  | (with_reducible exact spec_SequencesOf.F_lim _ _)
  | (with_reducible refine Lim.ite ?_ ?_)
  | (with_reducible refine Lim.bind ?_ (fun _ => ?_))
  | (with_reducible exact Lim.const _)
theorem laws_FnQueries.L2_eq (x12 : ByteArray) (x15 : List Int) (x17 : List (S66)) (x20 : Int) (x23 : List (List Int)) (x26 : ByteArray) (x28 : Bool) (x204 : List (S66)) (x205 : Int) (x206 : Int) : laws_FnQueries.L2 x12 x15 x17 x20 x23 x26 x28 x204 x205 x206 = (if x206 < x205 then (if 0 ≤ x206 then (if x206 < (x204.length : Int) then ((impl_MatchesGloss.F x12 ((rd_T66 x204 x206).f2)).bind fun bt489 => ((spec_MatchesGloss.F x12 ((rd_T66 x204 x206).f2)).bind fun bt491 => (if bt489.2 = true then (if bt491.2 = true then (if (bt489.1 != bt491.1) = true then (some false) else ((laws_qHas.F x15 x206).bind fun t493 => (if (t493 != bt491.1) = true then (some false) else (laws_FnQueries.L2 x12 x15 x17 x20 x23 x26 x28 x204 x205 (wrap64 (x206 + 1)))))) else (some false)) else (some false)))) else (none)) else (none)) else (laws_FnQueries.J4 x17 x20 x23 x26 x28)) := by
  refine Lim.succ_eq (laws_FnQueries.L2_lim x12 x15 x17 x20 x23 x26 x28 x204 x205 x206).mon ?_
  simp only [laws_FnQueries.l2]
  repeat' first
  | (with_reducible exact laws_FnQueries.J0_lim _ _ _ _ _ _ _ _ _ _ _ _ _)
  | (with_reducible exact laws_FnQueries.L0_lim _ _ _ _ _ _ _ _ _ _ _ _ _ _)
  | (with_reducible exact laws_FnQueries.L1_lim _ _ _ _ _ _ _ _ _ _ _ _ _ _ _ _ _ _)
  | (with_reducible exact laws_FnQueries.J4_lim _ _ _ _ _)
  | (with_reducible exact laws_FnQueries.L3_lim _ _ _ _ _ _ _)
  | (with_reducible exact laws_FnQueries.L2_lim _ _ _ _ _ _ _ _ _ _)
  | (with_reducible exact impl_MatchesGloss.F_lim _ _)
  | (with_reducible exact impl_NotesLike.F_lim _ _)
  | (with_reducible exact impl_PairsWithin.F_lim _ _ _ _)
  | (with_reducible exact impl_SequencesOf.F_lim _ _)
  | (with_reducible exact laws_qHas.F_lim _ _)
  | (with_reducible exact laws_qInts.F_lim _ _)
  | (with_reducible exact laws_qLists.F_lim _ _)
  | (with_reducible exact spec_DrawNotesLike.F_lim _)
  | (with_reducible exact spec_DrawPairsWithin.F_lim _)
  | (with_reducible exact spec_DrawSequencesOf.F_lim _)
  | (with_reducible exact spec_MatchesGloss.F_lim _ _)
  | (with_reducible exact spec_NotesLike.F_lim _ _)
  | (with_reducible exact spec_PairsWithin.F_lim _ _ _ _)
  | (with_reducible exact spec_SequencesOf.F_lim _ _)
  | (with_reducible refine Lim.ite ?_ ?_)
  | (with_reducible refine Lim.bind ?_ (fun _ => ?_))
  | (with_reducible exact Lim.const _)
theorem laws_FnQueries.F_eq (l0 : List Int) (l1 : List Int) : laws_FnQueries.F l0 l1 = (if (wrap64 ((l0.length : Int) + (l1.length : Int))) > 1048576 then (some true) else ((spec_DrawSequencesOf.F l0).bind fun bt433 => ((impl_SequencesOf.F bt433.1 bt433.2).bind fun bt439 => ((spec_SequencesOf.F bt433.1 bt433.2).bind fun bt443 => ((spec_DrawNotesLike.F l1).bind fun bt447 => ((impl_NotesLike.F bt447.1 bt447.2).bind fun bt451 => ((spec_NotesLike.F bt447.1 bt447.2).bind fun bt455 => ((spec_DrawPairsWithin.F l1).bind fun bt459 => ((impl_PairsWithin.F bt459.1 bt459.2.1 bt459.2.2.1 bt459.2.2.2).bind fun bt465 => ((spec_PairsWithin.F bt459.1 bt459.2.1 bt459.2.2.1 bt459.2.2.2).bind fun bt469 => ((spec_DrawMatchesGloss.f l1).bind fun bt473 => ((impl_MatchesGloss.F bt473.1 bt473.2).bind fun bt475 => ((spec_MatchesGloss.F bt473.1 bt473.2).bind fun bt477 => (if (bt439.2 != bt443.2) = true then (laws_FnQueries.J0 bt433.1 bt433.2 bt443.1 bt447.1 bt447.2 bt451.2 bt455.1 bt459.1 bt459.2.2.2 bt469.1 bt473.2 bt475.2 true) else ((laws_qInts.F bt439.1 bt443.1).bind fun t479 => (if t479 = true then (if (bt451.2 != bt455.2) = true then (laws_FnQueries.J0 bt433.1 bt433.2 bt443.1 bt447.1 bt447.2 bt451.2 bt455.1 bt459.1 bt459.2.2.2 bt469.1 bt473.2 bt475.2 true) else ((laws_qInts.F bt451.1 bt455.1).bind fun t480 => (if t480 = true then (if (bt465.2 != bt469.2) = true then (laws_FnQueries.J0 bt433.1 bt433.2 bt443.1 bt447.1 bt447.2 bt451.2 bt455.1 bt459.1 bt459.2.2.2 bt469.1 bt473.2 bt475.2 true) else ((laws_qLists.F bt465.1 bt469.1).bind fun t481 => (if t481 = true then (if (bt475.2 != bt477.2) = true then (laws_FnQueries.J0 bt433.1 bt433.2 bt443.1 bt447.1 bt447.2 bt451.2 bt455.1 bt459.1 bt459.2.2.2 bt469.1 bt473.2 bt475.2 true) else (laws_FnQueries.J0 bt433.1 bt433.2 bt443.1 bt447.1 bt447.2 bt451.2 bt455.1 bt459.1 bt459.2.2.2 bt469.1 bt473.2 bt475.2 (bt475.1 != bt477.1))) else (laws_FnQueries.J0 bt433.1 bt433.2 bt443.1 bt447.1 bt447.2 bt451.2 bt455.1 bt459.1 bt459.2.2.2 bt469.1 bt473.2 bt475.2 true)))) else (laws_FnQueries.J0 bt433.1 bt433.2 bt443.1 bt447.1 bt447.2 bt451.2 bt455.1 bt459.1 bt459.2.2.2 bt469.1 bt473.2 bt475.2 true)))) else (laws_FnQueries.J0 bt433.1 bt433.2 bt443.1 bt447.1 bt447.2 bt451.2 bt455.1 bt459.1 bt459.2.2.2 bt469.1 bt473.2 bt475.2 true))))))))))))))))) := by
  refine Lim.eq_ ?_
  simp only [laws_FnQueries.f]
  repeat' first
  | (with_reducible exact laws_FnQueries.J0_lim _ _ _ _ _ _ _ _ _ _ _ _ _)
  | (with_reducible exact laws_FnQueries.L0_lim _ _ _ _ _ _ _ _ _ _ _ _ _ _)
  | (with_reducible exact laws_FnQueries.L1_lim _ _ _ _ _ _ _ _ _ _ _ _ _ _ _ _ _ _)
  | (with_reducible exact laws_FnQueries.J4_lim _ _ _ _ _)
  | (with_reducible exact laws_FnQueries.L3_lim _ _ _ _ _ _ _)
  | (with_reducible exact laws_FnQueries.L2_lim _ _ _ _ _ _ _ _ _ _)
  | (with_reducible exact impl_MatchesGloss.F_lim _ _)
  | (with_reducible exact impl_NotesLike.F_lim _ _)
  | (with_reducible exact impl_PairsWithin.F_lim _ _ _ _)
  | (with_reducible exact impl_SequencesOf.F_lim _ _)
  | (with_reducible exact laws_qHas.F_lim _ _)
  | (with_reducible exact laws_qInts.F_lim _ _)
  | (with_reducible exact laws_qLists.F_lim _ _)
  | (with_reducible exact spec_DrawNotesLike.F_lim _)
  | (with_reducible exact spec_DrawPairsWithin.F_lim _)
  | (with_reducible exact spec_DrawSequencesOf.F_lim _)
  | (with_reducible exact spec_MatchesGloss.F_lim _ _)
  | (with_reducible exact spec_NotesLike.F_lim _ _)
  | (with_reducible exact spec_PairsWithin.F_lim _ _ _ _)
  | (with_reducible exact spec_SequencesOf.F_lim _ _)
  | (with_reducible refine Lim.ite ?_ ?_)
  | (with_reducible refine Lim.bind ?_ (fun _ => ?_))
  | (with_reducible exact Lim.const _)
def laws_FnQueries.Pure : Prop := ∀ (l0 : List Int) (l1 : List Int), l0.length ≤ maxLen → l0.length * 1 ≤ 140737488351232 → (∀ x ∈ l0, (Lit.int .u8 x).wf = true) → l1.length ≤ maxLen → l1.length * 1 ≤ 140737488351232 → (∀ x ∈ l1, (Lit.int .u8 x).wf = true) → ∃ k, laws_FnQueries.f k l0 l1 = some true
end Go.Proofs.Ytnmgcphajacdnaa.PFnQueries
