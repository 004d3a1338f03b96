/- Written by a program of this claim's author, out of the loaded program as Lean prints it: the functions as Lean functions, and that the calls answer so. -/
import Derived.Test.YtnmgcphajacdnaaPFnExactPairsWithinx0
namespace Go.Proofs.Ytnmgcphajacdnaa.PFnExactPairsWithin
open Go.RowKit Go.Proofs.YtnmgcphajacdnaaW.PrintWords Go.Proofs.YtnmgcphajacdnaaW.PrintLast Go.Proofs.YtnmgcphajacdnaaW.PrintMore
attribute [local go_sem] max2_int min2_int max_two min_two max_three min_three max_four min_four   -- for this text's walks alone
set_option linter.unusedVariables false
set_option linter.unusedSimpArgs false

def laws_szNote.f (a0_0 : Int) (a0_1 : Int) (a0_2 : ByteArray) (a1 : Int) : Option (Int) := if (wrap64 (a1 - (a0_2.size : Int))) < 0 then (some (-1)) else (some (wrap64 (a1 - (a0_2.size : Int))))
def laws_szNoteS.l0 : Nat → List (S81) → Int → Int → Option (Int)
  | 0, _, _, _ => none
  | k + 1, x0, x1, x5 => if x5 < (x0.length : Int) then (if 0 ≤ x5 then ((laws_szNote.f ((rd_T81 x0 x5).f0) ((rd_T81 x0 x5).f1) ((rd_T81 x0 x5).f2) x1).bind fun t103 => (if t103 < 0 then (some (-1)) else (laws_szNoteS.l0 k x0 t103 (wrap64 (x5 + 1))))) else (none)) else (some x1)
def laws_szNoteS.f (k : Nat) (l0 : List (S81)) (a1 : Int) : Option (Int) := if (wrap64 (a1 - (l0.length : Int))) < 0 then (some (-1)) else (laws_szNoteS.l0 k l0 (wrap64 (a1 - (l0.length : Int))) 0)
theorem laws_szNoteS.mono_l : ∀ k, (∀ y0 y1 y2, LeO (laws_szNoteS.l0 k y0 y1 y2) (laws_szNoteS.l0 (k + 1) y0 y1 y2))
  | 0 => fun _ _ _ r h => by simp [laws_szNoteS.l0] at h
  | k + 1 => by
    have ih0 := laws_szNoteS.mono_l k
    · intro y0 y1 y2
      unfold laws_szNoteS.l0
      repeat' first
      | (with_reducible exact ih0 _ _ _)
      | (with_reducible exact LeO.refl _)
      | (with_reducible exact LeO.none _)
      | (with_reducible refine LeO.ite ?_ ?_)
      | (with_reducible refine LeO.bind ?_ (fun _ => ?_))
      | exact ih0 _ _ _
      | exact LeO.none _
      | refine LeO.ite ?_ ?_
      | refine LeO.bind ?_ (fun _ => ?_)
theorem laws_szNoteS.mono : ∀ a0 a1 k, LeO (laws_szNoteS.f k a0 a1) (laws_szNoteS.f (k + 1) a0 a1) := by
  intro a0 a1 k
  have ih0 := laws_szNoteS.mono_l k
  unfold laws_szNoteS.f
  repeat' first
      | (with_reducible exact ih0 _ _ _)
      | (with_reducible exact LeO.refl _)
      | (with_reducible exact LeO.none _)
      | (with_reducible refine LeO.ite ?_ ?_)
      | (with_reducible refine LeO.bind ?_ (fun _ => ?_))
      | exact ih0 _ _ _
      | exact LeO.none _
      | refine LeO.ite ?_ ?_
      | refine LeO.bind ?_ (fun _ => ?_)
noncomputable def laws_szNoteS.L0 (x0 : List (S81)) (x1 : Int) (x5 : Int) : Option (Int) := lim fun k => laws_szNoteS.l0 k x0 x1 x5
theorem laws_szNoteS.L0_lim (x0 : List (S81)) (x1 : Int) (x5 : Int) : Lim (fun k => laws_szNoteS.l0 k x0 x1 x5) (laws_szNoteS.L0 x0 x1 x5) := ⟨fun k => (laws_szNoteS.mono_l k) x0 x1 x5, rfl⟩
noncomputable def laws_szNoteS.F (l0 : List (S81)) (a1 : Int) : Option (Int) := lim fun k => laws_szNoteS.f k l0 a1
theorem laws_szNoteS.F_lim (l0 : List (S81)) (a1 : Int) : Lim (fun k => laws_szNoteS.f k l0 a1) (laws_szNoteS.F l0 a1) := ⟨laws_szNoteS.mono l0 a1, rfl⟩
theorem laws_szNoteS.L0_eq (x0 : List (S81)) (x1 : Int) (x5 : Int) : laws_szNoteS.L0 x0 x1 x5 = (if x5 < (x0.length : Int) then (if 0 ≤ x5 then ((laws_szNote.f ((rd_T81 x0 x5).f0) ((rd_T81 x0 x5).f1) ((rd_T81 x0 x5).f2) x1).bind fun t103 => (if t103 < 0 then (some (-1)) else (laws_szNoteS.L0 x0 t103 (wrap64 (x5 + 1))))) else (none)) else (some x1)) := by
  refine Lim.succ_eq (laws_szNoteS.L0_lim x0 x1 x5).mon ?_
  simp only [laws_szNoteS.l0]
  repeat' first
  | (with_reducible exact laws_szNoteS.L0_lim _ _ _)
  | (with_reducible refine Lim.ite ?_ ?_)
  | (with_reducible refine Lim.bind ?_ (fun _ => ?_))
  | (with_reducible exact Lim.const _)
theorem laws_szNoteS.F_eq (l0 : List (S81)) (a1 : Int) : laws_szNoteS.F l0 a1 = (if (wrap64 (a1 - (l0.length : Int))) < 0 then (some (-1)) else (laws_szNoteS.L0 l0 (wrap64 (a1 - (l0.length : Int))) 0)) := by
  refine Lim.eq_ ?_
  simp only [laws_szNoteS.f]
  repeat' first
  | (with_reducible exact laws_szNoteS.L0_lim _ _ _)
  | (with_reducible refine Lim.ite ?_ ?_)
  | (with_reducible refine Lim.bind ?_ (fun _ => ?_))
  | (with_reducible exact Lim.const _)
def laws_toNote.f (a0_0 : Int) (a0_1 : Int) (a0_2 : ByteArray) : Option (Int × Int × ByteArray) := some (a0_0, a0_1, a0_2)
def laws_toNoteS.l0 : Nat → List (S81) → List (S66) → Int → Option ((List (S66)))
  | 0, _, _, _ => none
  | k + 1, x0, x3, x4 => if x4 < (x0.length : Int) then (if 0 ≤ x4 then ((laws_toNote.f ((rd_T81 x0 x4).f0) ((rd_T81 x0 x4).f1) ((rd_T81 x0 x4).f2)).bind fun bt111 => (if x4 < (x3.length : Int) then (laws_toNoteS.l0 k x0 (x3.set (x4 : Int).toNat (⟨bt111.1, bt111.2.1, bt111.2.2⟩ : S66)) (wrap64 (x4 + 1))) else (none))) else (none)) else (some x3)
def laws_toNoteS.f (k : Nat) (l0 : List (S81)) : Option ((List (S66))) := if 0 ≤ (l0.length : Int) then (if ((l0.length : Int) : Int).toNat ≤ 8796093022208 then (laws_toNoteS.l0 k l0 (List.replicate ((l0.length : Int) : Int).toNat z66) 0) else (none)) else (none)
theorem laws_toNoteS.mono_l : ∀ k, (∀ y0 y1 y2, LeO (laws_toNoteS.l0 k y0 y1 y2) (laws_toNoteS.l0 (k + 1) y0 y1 y2))
  | 0 => fun _ _ _ r h => by simp [laws_toNoteS.l0] at h
  | k + 1 => by
    have ih0 := laws_toNoteS.mono_l k
    · intro y0 y1 y2
      unfold laws_toNoteS.l0
      repeat' first
      | (with_reducible exact ih0 _ _ _)
      | (with_reducible exact LeO.refl _)
      | (with_reducible exact LeO.none _)
      | (with_reducible refine LeO.ite ?_ ?_)
      | (with_reducible refine LeO.bind ?_ (fun _ => ?_))
      | exact ih0 _ _ _
      | exact LeO.none _
      | refine LeO.ite ?_ ?_
      | refine LeO.bind ?_ (fun _ => ?_)
theorem laws_toNoteS.mono : ∀ a0 k, LeO (laws_toNoteS.f k a0) (laws_toNoteS.f (k + 1) a0) := by
  intro a0 k
  have ih0 := laws_toNoteS.mono_l k
  unfold laws_toNoteS.f
  repeat' first
      | (with_reducible exact ih0 _ _ _)
      | (with_reducible exact LeO.refl _)
      | (with_reducible exact LeO.none _)
      | (with_reducible refine LeO.ite ?_ ?_)
      | (with_reducible refine LeO.bind ?_ (fun _ => ?_))
      | exact ih0 _ _ _
      | exact LeO.none _
      | refine LeO.ite ?_ ?_
      | refine LeO.bind ?_ (fun _ => ?_)
noncomputable def laws_toNoteS.L0 (x0 : List (S81)) (x3 : List (S66)) (x4 : Int) : Option ((List (S66))) := lim fun k => laws_toNoteS.l0 k x0 x3 x4
theorem laws_toNoteS.L0_lim (x0 : List (S81)) (x3 : List (S66)) (x4 : Int) : Lim (fun k => laws_toNoteS.l0 k x0 x3 x4) (laws_toNoteS.L0 x0 x3 x4) := ⟨fun k => (laws_toNoteS.mono_l k) x0 x3 x4, rfl⟩
noncomputable def laws_toNoteS.F (l0 : List (S81)) : Option ((List (S66))) := lim fun k => laws_toNoteS.f k l0
theorem laws_toNoteS.F_lim (l0 : List (S81)) : Lim (fun k => laws_toNoteS.f k l0) (laws_toNoteS.F l0) := ⟨laws_toNoteS.mono l0, rfl⟩
theorem laws_toNoteS.L0_eq (x0 : List (S81)) (x3 : List (S66)) (x4 : Int) : laws_toNoteS.L0 x0 x3 x4 = (if x4 < (x0.length : Int) then (if 0 ≤ x4 then ((laws_toNote.f ((rd_T81 x0 x4).f0) ((rd_T81 x0 x4).f1) ((rd_T81 x0 x4).f2)).bind fun bt111 => (if x4 < (x3.length : Int) then (laws_toNoteS.L0 x0 (x3.set (x4 : Int).toNat (⟨bt111.1, bt111.2.1, bt111.2.2⟩ : S66)) (wrap64 (x4 + 1))) else (none))) else (none)) else (some x3)) := by
  refine Lim.succ_eq (laws_toNoteS.L0_lim x0 x3 x4).mon ?_
  simp only [laws_toNoteS.l0]
  repeat' first
  | (with_reducible exact laws_toNoteS.L0_lim _ _ _)
  | (with_reducible refine Lim.ite ?_ ?_)
  | (with_reducible refine Lim.bind ?_ (fun _ => ?_))
  | (with_reducible exact Lim.const _)
theorem laws_toNoteS.F_eq (l0 : List (S81)) : laws_toNoteS.F l0 = (if 0 ≤ (l0.length : Int) then (if ((l0.length : Int) : Int).toNat ≤ 8796093022208 then (laws_toNoteS.L0 l0 (List.replicate ((l0.length : Int) : Int).toNat z66) 0) else (none)) else (none)) := by
  refine Lim.eq_ ?_
  simp only [laws_toNoteS.f]
  repeat' first
  | (with_reducible exact laws_toNoteS.L0_lim _ _ _)
  | (with_reducible refine Lim.ite ?_ ?_)
  | (with_reducible refine Lim.bind ?_ (fun _ => ?_))
  | (with_reducible exact Lim.const _)
def laws_eqNote.f (a0_0 : Int) (a0_1 : Int) (a0_2 : ByteArray) (a1_0 : Int) (a1_1 : Int) (a1_2 : ByteArray) : Option (Bool) := if a0_0 = a1_0 then (if a0_1 = a1_1 then (if a0_2.toList = a1_2.toList then (some true) else (some false)) else (some false)) else (some false)
def laws_eqNoteS.l0 : Nat → List (S66) → List (S66) → Int → Option (Bool)
  | 0, _, _, _ => none
  | k + 1, x0, x1, x5 => if x5 < (x0.length : Int) then (if 0 ≤ x5 then (if x5 < (x1.length : Int) then ((laws_eqNote.f ((rd_T66 x0 x5).f0) ((rd_T66 x0 x5).f1) ((rd_T66 x0 x5).f2) ((rd_T66 x1 x5).f0) ((rd_T66 x1 x5).f1) ((rd_T66 x1 x5).f2)).bind fun t119 => (if t119 = true then (laws_eqNoteS.l0 k x0 x1 (wrap64 (x5 + 1))) else (some false))) else (none)) else (none)) else (some true)
def laws_eqNoteS.f (k : Nat) (l0 : List (S66)) (l1 : List (S66)) : Option (Bool) := if (l0.length : Int) = (l1.length : Int) then (laws_eqNoteS.l0 k l0 l1 0) else (some false)
theorem laws_eqNoteS.mono_l : ∀ k, (∀ y0 y1 y2, LeO (laws_eqNoteS.l0 k y0 y1 y2) (laws_eqNoteS.l0 (k + 1) y0 y1 y2))
  | 0 => fun _ _ _ r h => by simp [laws_eqNoteS.l0] at h
  | k + 1 => by
    have ih0 := laws_eqNoteS.mono_l k
    · intro y0 y1 y2
      unfold laws_eqNoteS.l0
      repeat' first
      | (with_reducible exact ih0 _ _ _)
      | (with_reducible exact LeO.refl _)
      | (with_reducible exact LeO.none _)
      | (with_reducible refine LeO.ite ?_ ?_)
      | (with_reducible refine LeO.bind ?_ (fun _ => ?_))
      | exact ih0 _ _ _
      | exact LeO.none _
      | refine LeO.ite ?_ ?_
      | refine LeO.bind ?_ (fun _ => ?_)
theorem laws_eqNoteS.mono : ∀ a0 a1 k, LeO (laws_eqNoteS.f k a0 a1) (laws_eqNoteS.f (k + 1) a0 a1) := by
  intro a0 a1 k
  have ih0 := laws_eqNoteS.mono_l k
  unfold laws_eqNoteS.f
  repeat' first
      | (with_reducible exact ih0 _ _ _)
      | (with_reducible exact LeO.refl _)
      | (with_reducible exact LeO.none _)
      | (with_reducible refine LeO.ite ?_ ?_)
      | (with_reducible refine LeO.bind ?_ (fun _ => ?_))
      | exact ih0 _ _ _
      | exact LeO.none _
      | refine LeO.ite ?_ ?_
      | refine LeO.bind ?_ (fun _ => ?_)
noncomputable def laws_eqNoteS.L0 (x0 : List (S66)) (x1 : List (S66)) (x5 : Int) : Option (Bool) := lim fun k => laws_eqNoteS.l0 k x0 x1 x5
theorem laws_eqNoteS.L0_lim (x0 : List (S66)) (x1 : List (S66)) (x5 : Int) : Lim (fun k => laws_eqNoteS.l0 k x0 x1 x5) (laws_eqNoteS.L0 x0 x1 x5) := ⟨fun k => (laws_eqNoteS.mono_l k) x0 x1 x5, rfl⟩
noncomputable def laws_eqNoteS.F (l0 : List (S66)) (l1 : List (S66)) : Option (Bool) := lim fun k => laws_eqNoteS.f k l0 l1
theorem laws_eqNoteS.F_lim (l0 : List (S66)) (l1 : List (S66)) : Lim (fun k => laws_eqNoteS.f k l0 l1) (laws_eqNoteS.F l0 l1) := ⟨laws_eqNoteS.mono l0 l1, rfl⟩
theorem laws_eqNoteS.L0_eq (x0 : List (S66)) (x1 : List (S66)) (x5 : Int) : laws_eqNoteS.L0 x0 x1 x5 = (if x5 < (x0.length : Int) then (if 0 ≤ x5 then (if x5 < (x1.length : Int) then ((laws_eqNote.f ((rd_T66 x0 x5).f0) ((rd_T66 x0 x5).f1) ((rd_T66 x0 x5).f2) ((rd_T66 x1 x5).f0) ((rd_T66 x1 x5).f1) ((rd_T66 x1 x5).f2)).bind fun t119 => (if t119 = true then (laws_eqNoteS.L0 x0 x1 (wrap64 (x5 + 1))) else (some false))) else (none)) else (none)) else (some true)) := by
  refine Lim.succ_eq (laws_eqNoteS.L0_lim x0 x1 x5).mon ?_
  simp only [laws_eqNoteS.l0]
  repeat' first
  | (with_reducible exact laws_eqNoteS.L0_lim _ _ _)
  | (with_reducible refine Lim.ite ?_ ?_)
  | (with_reducible refine Lim.bind ?_ (fun _ => ?_))
  | (with_reducible exact Lim.const _)
theorem laws_eqNoteS.F_eq (l0 : List (S66)) (l1 : List (S66)) : laws_eqNoteS.F l0 l1 = (if (l0.length : Int) = (l1.length : Int) then (laws_eqNoteS.L0 l0 l1 0) else (some false)) := by
  refine Lim.eq_ ?_
  simp only [laws_eqNoteS.f]
  repeat' first
  | (with_reducible exact laws_eqNoteS.L0_lim _ _ _)
  | (with_reducible refine Lim.ite ?_ ?_)
  | (with_reducible refine Lim.bind ?_ (fun _ => ?_))
  | (with_reducible exact Lim.const _)
def laws_eqIntS.l0 : Nat → List Int → List Int → Int → Option (Bool)
  | 0, _, _, _ => none
  | k + 1, x0, x1, x5 => if x5 < (x0.length : Int) then (if 0 ≤ x5 then (if x5 < (x1.length : Int) then (if (rd x0 x5) = (rd x1 x5) then (laws_eqIntS.l0 k x0 x1 (wrap64 (x5 + 1))) else (some false)) else (none)) else (none)) else (some true)
def laws_eqIntS.f (k : Nat) (l0 : List Int) (l1 : List Int) : Option (Bool) := if (l0.length : Int) = (l1.length : Int) then (laws_eqIntS.l0 k l0 l1 0) else (some false)
theorem laws_eqIntS.mono_l : ∀ k, (∀ y0 y1 y2, LeO (laws_eqIntS.l0 k y0 y1 y2) (laws_eqIntS.l0 (k + 1) y0 y1 y2))
  | 0 => fun _ _ _ r h => by simp [laws_eqIntS.l0] at h
  | k + 1 => by
    have ih0 := laws_eqIntS.mono_l k
    · intro y0 y1 y2
      unfold laws_eqIntS.l0
      repeat' first
      | (with_reducible exact ih0 _ _ _)
      | (with_reducible exact LeO.refl _)
      | (with_reducible exact LeO.none _)
      | (with_reducible refine LeO.ite ?_ ?_)
      | (with_reducible refine LeO.bind ?_ (fun _ => ?_))
      | exact ih0 _ _ _
      | exact LeO.none _
      | refine LeO.ite ?_ ?_
      | refine LeO.bind ?_ (fun _ => ?_)
theorem laws_eqIntS.mono : ∀ a0 a1 k, LeO (laws_eqIntS.f k a0 a1) (laws_eqIntS.f (k + 1) a0 a1) := by
  intro a0 a1 k
  have ih0 := laws_eqIntS.mono_l k
  unfold laws_eqIntS.f
  repeat' first
      | (with_reducible exact ih0 _ _ _)
      | (with_reducible exact LeO.refl _)
      | (with_reducible exact LeO.none _)
      | (with_reducible refine LeO.ite ?_ ?_)
      | (with_reducible refine LeO.bind ?_ (fun _ => ?_))
      | exact ih0 _ _ _
      | exact LeO.none _
      | refine LeO.ite ?_ ?_
      | refine LeO.bind ?_ (fun _ => ?_)
noncomputable def laws_eqIntS.L0 (x0 : List Int) (x1 : List Int) (x5 : Int) : Option (Bool) := lim fun k => laws_eqIntS.l0 k x0 x1 x5
theorem laws_eqIntS.L0_lim (x0 : List Int) (x1 : List Int) (x5 : Int) : Lim (fun k => laws_eqIntS.l0 k x0 x1 x5) (laws_eqIntS.L0 x0 x1 x5) := ⟨fun k => (laws_eqIntS.mono_l k) x0 x1 x5, rfl⟩
noncomputable def laws_eqIntS.F (l0 : List Int) (l1 : List Int) : Option (Bool) := lim fun k => laws_eqIntS.f k l0 l1
theorem laws_eqIntS.F_lim (l0 : List Int) (l1 : List Int) : Lim (fun k => laws_eqIntS.f k l0 l1) (laws_eqIntS.F l0 l1) := ⟨laws_eqIntS.mono l0 l1, rfl⟩
theorem laws_eqIntS.L0_eq (x0 : List Int) (x1 : List Int) (x5 : Int) : laws_eqIntS.L0 x0 x1 x5 = (if x5 < (x0.length : Int) then (if 0 ≤ x5 then (if x5 < (x1.length : Int) then (if (rd x0 x5) = (rd x1 x5) then (laws_eqIntS.L0 x0 x1 (wrap64 (x5 + 1))) else (some false)) else (none)) else (none)) else (some true)) := by
  refine Lim.succ_eq (laws_eqIntS.L0_lim x0 x1 x5).mon ?_
  simp only [laws_eqIntS.l0]
  repeat' first
  | (with_reducible exact laws_eqIntS.L0_lim _ _ _)
  | (with_reducible refine Lim.ite ?_ ?_)
  | (with_reducible refine Lim.bind ?_ (fun _ => ?_))
  | (with_reducible exact Lim.const _)
theorem laws_eqIntS.F_eq (l0 : List Int) (l1 : List Int) : laws_eqIntS.F l0 l1 = (if (l0.length : Int) = (l1.length : Int) then (laws_eqIntS.L0 l0 l1 0) else (some false)) := by
  refine Lim.eq_ ?_
  simp only [laws_eqIntS.f]
  repeat' first
  | (with_reducible exact laws_eqIntS.L0_lim _ _ _)
  | (with_reducible refine Lim.ite ?_ ?_)
  | (with_reducible refine Lim.bind ?_ (fun _ => ?_))
  | (with_reducible exact Lim.const _)
def laws_eqIntSS.l0 : Nat → List (List Int) → List (List Int) → Int → Option (Bool)
  | 0, _, _, _ => none
  | k + 1, x0, x1, x5 => if x5 < (x0.length : Int) then (if 0 ≤ x5 then (if x5 < (x1.length : Int) then ((laws_eqIntS.f k (rd_L4 x0 x5) (rd_L4 x1 x5)).bind fun t124 => (if t124 = true then (laws_eqIntSS.l0 k x0 x1 (wrap64 (x5 + 1))) else (some false))) else (none)) else (none)) else (some true)
def laws_eqIntSS.f (k : Nat) (l0 : List (List Int)) (l1 : List (List Int)) : Option (Bool) := if (l0.length : Int) = (l1.length : Int) then (laws_eqIntSS.l0 k l0 l1 0) else (some false)
theorem laws_eqIntSS.mono_l : ∀ k, (∀ y0 y1 y2, LeO (laws_eqIntSS.l0 k y0 y1 y2) (laws_eqIntSS.l0 (k + 1) y0 y1 y2))
  | 0 => fun _ _ _ r h => by simp [laws_eqIntSS.l0] at h
  | k + 1 => by
    have ih0 := laws_eqIntSS.mono_l k
    · intro y0 y1 y2
      unfold laws_eqIntSS.l0
      repeat' first
      | (with_reducible exact ih0 _ _ _)
      | (with_reducible exact laws_eqIntS.mono _ _ _)
      | (with_reducible exact LeO.refl _)
      | (with_reducible exact LeO.none _)
      | (with_reducible refine LeO.ite ?_ ?_)
      | (with_reducible refine LeO.bind ?_ (fun _ => ?_))
      | exact ih0 _ _ _
      | exact laws_eqIntS.mono _ _ _
      | exact LeO.none _
      | refine LeO.ite ?_ ?_
      | refine LeO.bind ?_ (fun _ => ?_)
theorem laws_eqIntSS.mono : ∀ a0 a1 k, LeO (laws_eqIntSS.f k a0 a1) (laws_eqIntSS.f (k + 1) a0 a1) := by
  intro a0 a1 k
  have ih0 := laws_eqIntSS.mono_l k
  unfold laws_eqIntSS.f
  repeat' first
      | (with_reducible exact ih0 _ _ _)
      | (with_reducible exact laws_eqIntS.mono _ _ _)
      | (with_reducible exact LeO.refl _)
      | (with_reducible exact LeO.none _)
      | (with_reducible refine LeO.ite ?_ ?_)
      | (with_reducible refine LeO.bind ?_ (fun _ => ?_))
      | exact ih0 _ _ _
      | exact laws_eqIntS.mono _ _ _
      | exact LeO.none _
      | refine LeO.ite ?_ ?_
      | refine LeO.bind ?_ (fun _ => ?_)
noncomputable def laws_eqIntSS.L0 (x0 : List (List Int)) (x1 : List (List Int)) (x5 : Int) : Option (Bool) := lim fun k => laws_eqIntSS.l0 k x0 x1 x5
theorem laws_eqIntSS.L0_lim (x0 : List (List Int)) (x1 : List (List Int)) (x5 : Int) : Lim (fun k => laws_eqIntSS.l0 k x0 x1 x5) (laws_eqIntSS.L0 x0 x1 x5) := ⟨fun k => (laws_eqIntSS.mono_l k) x0 x1 x5, rfl⟩
noncomputable def laws_eqIntSS.F (l0 : List (List Int)) (l1 : List (List Int)) : Option (Bool) := lim fun k => laws_eqIntSS.f k l0 l1
theorem laws_eqIntSS.F_lim (l0 : List (List Int)) (l1 : List (List Int)) : Lim (fun k => laws_eqIntSS.f k l0 l1) (laws_eqIntSS.F l0 l1) := ⟨laws_eqIntSS.mono l0 l1, rfl⟩
theorem laws_eqIntSS.L0_eq (x0 : List (List Int)) (x1 : List (List Int)) (x5 : Int) : laws_eqIntSS.L0 x0 x1 x5 = (if x5 < (x0.length : Int) then (if 0 ≤ x5 then (if x5 < (x1.length : Int) then ((laws_eqIntS.F (rd_L4 x0 x5) (rd_L4 x1 x5)).bind fun t124 => (if t124 = true then (laws_eqIntSS.L0 x0 x1 (wrap64 (x5 + 1))) else (some false))) else (none)) else (none)) else (some true)) := by
  refine Lim.succ_eq (laws_eqIntSS.L0_lim x0 x1 x5).mon ?_
  simp only [laws_eqIntSS.l0]
  repeat' first
  | (with_reducible exact laws_eqIntSS.L0_lim _ _ _)
  | (with_reducible exact laws_eqIntS.F_lim _ _)
  | (with_reducible refine Lim.ite ?_ ?_)
  | (with_reducible refine Lim.bind ?_ (fun _ => ?_))
  | (with_reducible exact Lim.const _)
theorem laws_eqIntSS.F_eq (l0 : List (List Int)) (l1 : List (List Int)) : laws_eqIntSS.F l0 l1 = (if (l0.length : Int) = (l1.length : Int) then (laws_eqIntSS.L0 l0 l1 0) else (some false)) := by
  refine Lim.eq_ ?_
  simp only [laws_eqIntSS.f]
  repeat' first
  | (with_reducible exact laws_eqIntSS.L0_lim _ _ _)
  | (with_reducible exact laws_eqIntS.F_lim _ _)
  | (with_reducible refine Lim.ite ?_ ?_)
  | (with_reducible refine Lim.bind ?_ (fun _ => ?_))
  | (with_reducible exact Lim.const _)
def laws_markText.l0 : Nat → Int → ByteArray → Option (ByteArray)
  | 0, _, _ => none
  | k + 1, x0, x3 => if x0 > 0 then ((some (([(wrap64 (48 + (Int.tmod x0 10))) % 256] : List Int) : List Int)).bind fun y125 => (if (strOfNums y125).size + x3.size ≤ 9223372036854775807 then (laws_markText.l0 k (wrap64 (Int.tdiv x0 10)) ((strOfNums y125) ++ x3)) else (none))) else (if 1 + x3.size ≤ 9223372036854775807 then (some ((⟨#[109]⟩ : ByteArray) ++ x3)) else (none))
def laws_markText.f (k : Nat) (a0 : Int) : Option (ByteArray) := if a0 ≤ 0 then (some (⟨#[109, 48]⟩ : ByteArray)) else (laws_markText.l0 k a0 (⟨#[]⟩ : ByteArray))
theorem laws_markText.mono_l : ∀ k, (∀ y0 y1, LeO (laws_markText.l0 k y0 y1) (laws_markText.l0 (k + 1) y0 y1))
  | 0 => fun _ _ r h => by simp [laws_markText.l0] at h
  | k + 1 => by
    have ih0 := laws_markText.mono_l k
    · intro y0 y1
      unfold laws_markText.l0
      repeat' first
      | (with_reducible exact ih0 _ _)
      | (with_reducible exact LeO.refl _)
      | (with_reducible exact LeO.none _)
      | (with_reducible refine LeO.ite ?_ ?_)
      | (with_reducible refine LeO.bind ?_ (fun _ => ?_))
      | exact ih0 _ _
      | exact LeO.none _
      | refine LeO.ite ?_ ?_
      | refine LeO.bind ?_ (fun _ => ?_)
theorem laws_markText.mono : ∀ a0 k, LeO (laws_markText.f k a0) (laws_markText.f (k + 1) a0) := by
  intro a0 k
  have ih0 := laws_markText.mono_l k
  unfold laws_markText.f
  repeat' first
      | (with_reducible exact ih0 _ _)
      | (with_reducible exact LeO.refl _)
      | (with_reducible exact LeO.none _)
      | (with_reducible refine LeO.ite ?_ ?_)
      | (with_reducible refine LeO.bind ?_ (fun _ => ?_))
      | exact ih0 _ _
      | exact LeO.none _
      | refine LeO.ite ?_ ?_
      | refine LeO.bind ?_ (fun _ => ?_)
noncomputable def laws_markText.L0 (x0 : Int) (x3 : ByteArray) : Option (ByteArray) := lim fun k => laws_markText.l0 k x0 x3
theorem laws_markText.L0_lim (x0 : Int) (x3 : ByteArray) : Lim (fun k => laws_markText.l0 k x0 x3) (laws_markText.L0 x0 x3) := ⟨fun k => (laws_markText.mono_l k) x0 x3, rfl⟩
noncomputable def laws_markText.F (a0 : Int) : Option (ByteArray) := lim fun k => laws_markText.f k a0
theorem laws_markText.F_lim (a0 : Int) : Lim (fun k => laws_markText.f k a0) (laws_markText.F a0) := ⟨laws_markText.mono a0, rfl⟩
theorem laws_markText.L0_eq (x0 : Int) (x3 : ByteArray) : laws_markText.L0 x0 x3 = (if x0 > 0 then ((some (([(wrap64 (48 + (Int.tmod x0 10))) % 256] : List Int) : List Int)).bind fun y125 => (if (strOfNums y125).size + x3.size ≤ 9223372036854775807 then (laws_markText.L0 (wrap64 (Int.tdiv x0 10)) ((strOfNums y125) ++ x3)) else (none))) else (if 1 + x3.size ≤ 9223372036854775807 then (some ((⟨#[109]⟩ : ByteArray) ++ x3)) else (none))) := by
  refine Lim.succ_eq (laws_markText.L0_lim x0 x3).mon ?_
  simp only [laws_markText.l0]
  repeat' first
  | (with_reducible exact laws_markText.L0_lim _ _)
  | (with_reducible refine Lim.ite ?_ ?_)
  | (with_reducible refine Lim.bind ?_ (fun _ => ?_))
  | (with_reducible exact Lim.const _)
theorem laws_markText.F_eq (a0 : Int) : laws_markText.F a0 = (if a0 ≤ 0 then (some (⟨#[109, 48]⟩ : ByteArray)) else (laws_markText.L0 a0 (⟨#[]⟩ : ByteArray))) := by
  refine Lim.eq_ ?_
  simp only [laws_markText.f]
  repeat' first
  | (with_reducible exact laws_markText.L0_lim _ _)
  | (with_reducible refine Lim.ite ?_ ?_)
  | (with_reducible refine Lim.bind ?_ (fun _ => ?_))
  | (with_reducible exact Lim.const _)
def laws_markNoteS.l0 : Nat → List (S66) → Int → Int → Option (Int × (List (S66)))
  | 0, _, _, _ => none
  | k + 1, x0, x1, x5 => if x5 < (x0.length : Int) then (if 0 ≤ x5 then ((some (x0.set (x5 : Int).toNat (⟨x1, (rd_T66 x0 x5).f1, (rd_T66 x0 x5).f2⟩ : S66) : List (S66))).bind fun y128 => ((some (y128.set (x5 : Int).toNat (⟨(rd_T66 y128 x5).f0, wrap64 (x1 + 1), (rd_T66 y128 x5).f2⟩ : S66) : List (S66))).bind fun y129 => ((laws_markText.f k (wrap64 ((wrap64 (x1 + 1)) + 1))).bind fun t130 => (laws_markNoteS.l0 k (y129.set (x5 : Int).toNat (⟨(rd_T66 y129 x5).f0, (rd_T66 y129 x5).f1, t130⟩ : S66)) (wrap64 ((wrap64 ((wrap64 (x1 + 1)) + 1)) + 1)) (wrap64 (x5 + 1)))))) else (none)) else (some (x1, x0))
def laws_markNoteS.f (k : Nat) (l0 : List (S66)) (a1 : Int) : Option (Int × (List (S66))) := laws_markNoteS.l0 k l0 a1 0
theorem laws_markNoteS.mono_l : ∀ k, (∀ y0 y1 y2, LeO (laws_markNoteS.l0 k y0 y1 y2) (laws_markNoteS.l0 (k + 1) y0 y1 y2))
  | 0 => fun _ _ _ r h => by simp [laws_markNoteS.l0] at h
  | k + 1 => by
    have ih0 := laws_markNoteS.mono_l k
    · intro y0 y1 y2
      unfold laws_markNoteS.l0
      repeat' first
      | (with_reducible exact ih0 _ _ _)
      | (with_reducible exact laws_markText.mono _ _)
      | (with_reducible exact LeO.refl _)
      | (with_reducible exact LeO.none _)
      | (with_reducible refine LeO.ite ?_ ?_)
      | (with_reducible refine LeO.bind ?_ (fun _ => ?_))
      | exact ih0 _ _ _
      | exact laws_markText.mono _ _
      | exact LeO.none _
      | refine LeO.ite ?_ ?_
      | refine LeO.bind ?_ (fun _ => ?_)
theorem laws_markNoteS.mono : ∀ a0 a1 k, LeO (laws_markNoteS.f k a0 a1) (laws_markNoteS.f (k + 1) a0 a1) := by
  intro a0 a1 k
  have ih0 := laws_markNoteS.mono_l k
  unfold laws_markNoteS.f
  repeat' first
      | (with_reducible exact ih0 _ _ _)
      | (with_reducible exact laws_markText.mono _ _)
      | (with_reducible exact LeO.refl _)
      | (with_reducible exact LeO.none _)
      | (with_reducible refine LeO.ite ?_ ?_)
      | (with_reducible refine LeO.bind ?_ (fun _ => ?_))
      | exact ih0 _ _ _
      | exact laws_markText.mono _ _
      | exact LeO.none _
      | refine LeO.ite ?_ ?_
      | refine LeO.bind ?_ (fun _ => ?_)
noncomputable def laws_markNoteS.L0 (x0 : List (S66)) (x1 : Int) (x5 : Int) : Option (Int × (List (S66))) := lim fun k => laws_markNoteS.l0 k x0 x1 x5
theorem laws_markNoteS.L0_lim (x0 : List (S66)) (x1 : Int) (x5 : Int) : Lim (fun k => laws_markNoteS.l0 k x0 x1 x5) (laws_markNoteS.L0 x0 x1 x5) := ⟨fun k => (laws_markNoteS.mono_l k) x0 x1 x5, rfl⟩
noncomputable def laws_markNoteS.F (l0 : List (S66)) (a1 : Int) : Option (Int × (List (S66))) := lim fun k => laws_markNoteS.f k l0 a1
theorem laws_markNoteS.F_lim (l0 : List (S66)) (a1 : Int) : Lim (fun k => laws_markNoteS.f k l0 a1) (laws_markNoteS.F l0 a1) := ⟨laws_markNoteS.mono l0 a1, rfl⟩
theorem laws_markNoteS.L0_eq (x0 : List (S66)) (x1 : Int) (x5 : Int) : laws_markNoteS.L0 x0 x1 x5 = (if x5 < (x0.length : Int) then (if 0 ≤ x5 then ((some (x0.set (x5 : Int).toNat (⟨x1, (rd_T66 x0 x5).f1, (rd_T66 x0 x5).f2⟩ : S66) : List (S66))).bind fun y128 => ((some (y128.set (x5 : Int).toNat (⟨(rd_T66 y128 x5).f0, wrap64 (x1 + 1), (rd_T66 y128 x5).f2⟩ : S66) : List (S66))).bind fun y129 => ((laws_markText.F (wrap64 ((wrap64 (x1 + 1)) + 1))).bind fun t130 => (laws_markNoteS.L0 (y129.set (x5 : Int).toNat (⟨(rd_T66 y129 x5).f0, (rd_T66 y129 x5).f1, t130⟩ : S66)) (wrap64 ((wrap64 ((wrap64 (x1 + 1)) + 1)) + 1)) (wrap64 (x5 + 1)))))) else (none)) else (some (x1, x0))) := by
  refine Lim.succ_eq (laws_markNoteS.L0_lim x0 x1 x5).mon ?_
  simp only [laws_markNoteS.l0]
  repeat' first
  | (with_reducible exact laws_markNoteS.L0_lim _ _ _)
  | (with_reducible exact laws_markText.F_lim _)
  | (with_reducible refine Lim.ite ?_ ?_)
  | (with_reducible refine Lim.bind ?_ (fun _ => ?_))
  | (with_reducible exact Lim.const _)
theorem laws_markNoteS.F_eq (l0 : List (S66)) (a1 : Int) : laws_markNoteS.F l0 a1 = (laws_markNoteS.L0 l0 a1 0) := by
  refine Lim.eq_ ?_
  simp only [laws_markNoteS.f]
  repeat' first
  | (with_reducible exact laws_markNoteS.L0_lim _ _ _)
  | (with_reducible exact laws_markText.F_lim _)
  | (with_reducible refine Lim.ite ?_ ?_)
  | (with_reducible refine Lim.bind ?_ (fun _ => ?_))
  | (with_reducible exact Lim.const _)
def laws_markIntS.l0 : Nat → List Int → Int → Int → Option (Int × List Int)
  | 0, _, _, _ => none
  | k + 1, x0, x1, x5 => if x5 < (x0.length : Int) then (if 0 ≤ x5 then (laws_markIntS.l0 k (x0.set (x5 : Int).toNat x1) (wrap64 (x1 + 1)) (wrap64 (x5 + 1))) else (none)) else (some (x1, x0))
def laws_markIntS.f (k : Nat) (l0 : List Int) (a1 : Int) : Option (Int × List Int) := laws_markIntS.l0 k l0 a1 0
theorem laws_markIntS.mono_l : ∀ k, (∀ y0 y1 y2, LeO (laws_markIntS.l0 k y0 y1 y2) (laws_markIntS.l0 (k + 1) y0 y1 y2))
  | 0 => fun _ _ _ r h => by simp [laws_markIntS.l0] at h
  | k + 1 => by
    have ih0 := laws_markIntS.mono_l k
    · intro y0 y1 y2
      unfold laws_markIntS.l0
      repeat' first
      | (with_reducible exact ih0 _ _ _)
      | (with_reducible exact LeO.refl _)
      | (with_reducible exact LeO.none _)
      | (with_reducible refine LeO.ite ?_ ?_)
      | (with_reducible refine LeO.bind ?_ (fun _ => ?_))
      | exact ih0 _ _ _
      | exact LeO.none _
      | refine LeO.ite ?_ ?_
      | refine LeO.bind ?_ (fun _ => ?_)
theorem laws_markIntS.mono : ∀ a0 a1 k, LeO (laws_markIntS.f k a0 a1) (laws_markIntS.f (k + 1) a0 a1) := by
  intro a0 a1 k
  have ih0 := laws_markIntS.mono_l k
  unfold laws_markIntS.f
  repeat' first
      | (with_reducible exact ih0 _ _ _)
      | (with_reducible exact LeO.refl _)
      | (with_reducible exact LeO.none _)
      | (with_reducible refine LeO.ite ?_ ?_)
      | (with_reducible refine LeO.bind ?_ (fun _ => ?_))
      | exact ih0 _ _ _
      | exact LeO.none _
      | refine LeO.ite ?_ ?_
      | refine LeO.bind ?_ (fun _ => ?_)
noncomputable def laws_markIntS.L0 (x0 : List Int) (x1 : Int) (x5 : Int) : Option (Int × List Int) := lim fun k => laws_markIntS.l0 k x0 x1 x5
theorem laws_markIntS.L0_lim (x0 : List Int) (x1 : Int) (x5 : Int) : Lim (fun k => laws_markIntS.l0 k x0 x1 x5) (laws_markIntS.L0 x0 x1 x5) := ⟨fun k => (laws_markIntS.mono_l k) x0 x1 x5, rfl⟩
noncomputable def laws_markIntS.F (l0 : List Int) (a1 : Int) : Option (Int × List Int) := lim fun k => laws_markIntS.f k l0 a1
theorem laws_markIntS.F_lim (l0 : List Int) (a1 : Int) : Lim (fun k => laws_markIntS.f k l0 a1) (laws_markIntS.F l0 a1) := ⟨laws_markIntS.mono l0 a1, rfl⟩
theorem laws_markIntS.L0_eq (x0 : List Int) (x1 : Int) (x5 : Int) : laws_markIntS.L0 x0 x1 x5 = (if x5 < (x0.length : Int) then (if 0 ≤ x5 then (laws_markIntS.L0 (x0.set (x5 : Int).toNat x1) (wrap64 (x1 + 1)) (wrap64 (x5 + 1))) else (none)) else (some (x1, x0))) := by
  refine Lim.succ_eq (laws_markIntS.L0_lim x0 x1 x5).mon ?_
  simp only [laws_markIntS.l0]
  repeat' first
  | (with_reducible exact laws_markIntS.L0_lim _ _ _)
  | (with_reducible refine Lim.ite ?_ ?_)
  | (with_reducible refine Lim.bind ?_ (fun _ => ?_))
  | (with_reducible exact Lim.const _)
theorem laws_markIntS.F_eq (l0 : List Int) (a1 : Int) : laws_markIntS.F l0 a1 = (laws_markIntS.L0 l0 a1 0) := by
  refine Lim.eq_ ?_
  simp only [laws_markIntS.f]
  repeat' first
  | (with_reducible exact laws_markIntS.L0_lim _ _ _)
  | (with_reducible refine Lim.ite ?_ ?_)
  | (with_reducible refine Lim.bind ?_ (fun _ => ?_))
  | (with_reducible exact Lim.const _)
def laws_markIntSS.nums (a : Int) : Nat → List Int
  | 0 => []
  | n + 1 => a :: laws_markIntSS.nums (a + 1) n
theorem laws_markIntSS.nums_length (a : Int) : ∀ n, (laws_markIntSS.nums a n).length = n
  | 0 => rfl
  | n + 1 => by rw [laws_markIntSS.nums, List.length_cons, laws_markIntSS.nums_length]
theorem laws_markIntSS.take_set (l : List Int) (i : Nat) (v : Int) (h : i < l.length) : (l.set i v).take (i + 1) = l.take i ++ [v] := by
  rw [List.take_succ_eq_append_getElem (by rw [List.length_set]; exact h), List.getElem_set_self, List.take_set_of_le (Nat.le_refl _)]
theorem laws_markIntSS.one_ (K : Nat) : ∀ (d i : Nat) (l : List Int) (a : Int), i + d = l.length → d < K → 0 ≤ a → l.length ≤ 1048576 → a ≤ 4611686018427387904 - d → laws_markIntS.l0 K l a (i : Int) = some (a + d, l.take i ++ laws_markIntSS.nums a d) := by
  induction K with
  | zero => intro d i l a _ h; omega
  | succ K ih =>
    intro d i l a hd hk h0 hl h1
    simp only [laws_markIntS.l0]
    cases d with
    | zero => rw [if_neg (by omega), List.take_of_length_le (by omega)]; simp [laws_markIntSS.nums]
    | succ d =>
      have w1 : wrap64 (a + 1) = a + 1 := by unfold wrap64; omega
      have w3 : wrap64 ((i : Int) + 1) = ((i + 1 : Nat) : Int) := by unfold wrap64; omega
      rw [if_pos (by omega), if_pos (by omega), w1, w3, Int.toNat_natCast, ih d (i + 1) (l.set i a) (a + 1) (by rw [List.length_set]; omega) (by omega) (by omega) (by rw [List.length_set]; omega) (by omega), laws_markIntSS.take_set l i a (by omega)]
      have e : a + 1 + (d : Int) = a + ((d + 1 : Nat) : Int) := by omega
      rw [e, List.append_assoc]
      rfl
theorem laws_markIntSS.row_ (l : List Int) (a : Int) (h0 : 0 ≤ a) (hl : l.length ≤ 1048576) (h1 : a ≤ 4611686018426339328) : laws_markIntS.f (l.length + 1) l a = some (a + l.length, laws_markIntSS.nums a l.length) := by
  have := laws_markIntSS.one_ (l.length + 1) l.length 0 l a (by omega) (by omega) h0 hl (by omega)
  unfold laws_markIntS.f
  simpa using this
/-- Row after row from i on. -/
def laws_markIntSS.run : Nat → List (List Int) → Int → Nat → Int × List (List Int)
  | 0, ys, a, _ => (a, ys)
  | d + 1, ys, a, i => laws_markIntSS.run d (ys.set i (laws_markIntSS.nums a (ys.getD i []).length)) (a + (ys.getD i []).length) (i + 1)
def laws_markIntSS.f (l0 : List (List Int)) (a1 : Int) : Option (Int × List (List Int)) := if l0.length ≤ 1048576 ∧ (∀ y ∈ l0, y.length ≤ 1048576) ∧ 0 ≤ a1 ∧ a1 ≤ 1048576 then some (laws_markIntSS.run l0.length l0 a1 0) else none
def laws_heldIntS.l0 : Nat → List Int → Int → Int → Option (Int)
  | 0, _, _, _ => none
  | k + 1, x0, x1, x5 => if x5 < (x0.length : Int) then (if 0 ≤ x5 then (if (rd x0 x5) = x1 then (laws_heldIntS.l0 k x0 (wrap64 (x1 + 1)) (wrap64 (x5 + 1))) else (some (-1))) else (none)) else (some x1)
def laws_heldIntS.f (k : Nat) (l0 : List Int) (a1 : Int) : Option (Int) := laws_heldIntS.l0 k l0 a1 0
theorem laws_heldIntS.mono_l : ∀ k, (∀ y0 y1 y2, LeO (laws_heldIntS.l0 k y0 y1 y2) (laws_heldIntS.l0 (k + 1) y0 y1 y2))
  | 0 => fun _ _ _ r h => by simp [laws_heldIntS.l0] at h
  | k + 1 => by
    have ih0 := laws_heldIntS.mono_l k
    · intro y0 y1 y2
      unfold laws_heldIntS.l0
      repeat' first
      | (with_reducible exact ih0 _ _ _)
      | (with_reducible exact LeO.refl _)
      | (with_reducible exact LeO.none _)
      | (with_reducible refine LeO.ite ?_ ?_)
      | (with_reducible refine LeO.bind ?_ (fun _ => ?_))
      | exact ih0 _ _ _
      | exact LeO.none _
      | refine LeO.ite ?_ ?_
      | refine LeO.bind ?_ (fun _ => ?_)
theorem laws_heldIntS.mono : ∀ a0 a1 k, LeO (laws_heldIntS.f k a0 a1) (laws_heldIntS.f (k + 1) a0 a1) := by
  intro a0 a1 k
  have ih0 := laws_heldIntS.mono_l k
  unfold laws_heldIntS.f
  repeat' first
      | (with_reducible exact ih0 _ _ _)
      | (with_reducible exact LeO.refl _)
      | (with_reducible exact LeO.none _)
      | (with_reducible refine LeO.ite ?_ ?_)
      | (with_reducible refine LeO.bind ?_ (fun _ => ?_))
      | exact ih0 _ _ _
      | exact LeO.none _
      | refine LeO.ite ?_ ?_
      | refine LeO.bind ?_ (fun _ => ?_)
noncomputable def laws_heldIntS.L0 (x0 : List Int) (x1 : Int) (x5 : Int) : Option (Int) := lim fun k => laws_heldIntS.l0 k x0 x1 x5
theorem laws_heldIntS.L0_lim (x0 : List Int) (x1 : Int) (x5 : Int) : Lim (fun k => laws_heldIntS.l0 k x0 x1 x5) (laws_heldIntS.L0 x0 x1 x5) := ⟨fun k => (laws_heldIntS.mono_l k) x0 x1 x5, rfl⟩
noncomputable def laws_heldIntS.F (l0 : List Int) (a1 : Int) : Option (Int) := lim fun k => laws_heldIntS.f k l0 a1
theorem laws_heldIntS.F_lim (l0 : List Int) (a1 : Int) : Lim (fun k => laws_heldIntS.f k l0 a1) (laws_heldIntS.F l0 a1) := ⟨laws_heldIntS.mono l0 a1, rfl⟩
theorem laws_heldIntS.L0_eq (x0 : List Int) (x1 : Int) (x5 : Int) : laws_heldIntS.L0 x0 x1 x5 = (if x5 < (x0.length : Int) then (if 0 ≤ x5 then (if (rd x0 x5) = x1 then (laws_heldIntS.L0 x0 (wrap64 (x1 + 1)) (wrap64 (x5 + 1))) else (some (-1))) else (none)) else (some x1)) := by
  refine Lim.succ_eq (laws_heldIntS.L0_lim x0 x1 x5).mon ?_
  simp only [laws_heldIntS.l0]
  repeat' first
  | (with_reducible exact laws_heldIntS.L0_lim _ _ _)
  | (with_reducible refine Lim.ite ?_ ?_)
  | (with_reducible refine Lim.bind ?_ (fun _ => ?_))
  | (with_reducible exact Lim.const _)
theorem laws_heldIntS.F_eq (l0 : List Int) (a1 : Int) : laws_heldIntS.F l0 a1 = (laws_heldIntS.L0 l0 a1 0) := by
  refine Lim.eq_ ?_
  simp only [laws_heldIntS.f]
  repeat' first
  | (with_reducible exact laws_heldIntS.L0_lim _ _ _)
  | (with_reducible refine Lim.ite ?_ ?_)
  | (with_reducible refine Lim.bind ?_ (fun _ => ?_))
  | (with_reducible exact Lim.const _)
def laws_heldIntSS.l0 : Nat → List (List Int) → Int → Int → Option (Int)
  | 0, _, _, _ => none
  | k + 1, x0, x1, x5 => if x5 < (x0.length : Int) then (if 0 ≤ x5 then ((laws_heldIntS.f k (rd_L4 x0 x5) x1).bind fun t135 => (if t135 < 0 then (some (-1)) else (laws_heldIntSS.l0 k x0 t135 (wrap64 (x5 + 1))))) else (none)) else (some x1)
def laws_heldIntSS.f (k : Nat) (l0 : List (List Int)) (a1 : Int) : Option (Int) := laws_heldIntSS.l0 k l0 a1 0
theorem laws_heldIntSS.mono_l : ∀ k, (∀ y0 y1 y2, LeO (laws_heldIntSS.l0 k y0 y1 y2) (laws_heldIntSS.l0 (k + 1) y0 y1 y2))
  | 0 => fun _ _ _ r h => by simp [laws_heldIntSS.l0] at h
  | k + 1 => by
    have ih0 := laws_heldIntSS.mono_l k
    · intro y0 y1 y2
      unfold laws_heldIntSS.l0
      repeat' first
      | (with_reducible exact ih0 _ _ _)
      | (with_reducible exact laws_heldIntS.mono _ _ _)
      | (with_reducible exact LeO.refl _)
      | (with_reducible exact LeO.none _)
      | (with_reducible refine LeO.ite ?_ ?_)
      | (with_reducible refine LeO.bind ?_ (fun _ => ?_))
      | exact ih0 _ _ _
      | exact laws_heldIntS.mono _ _ _
      | exact LeO.none _
      | refine LeO.ite ?_ ?_
      | refine LeO.bind ?_ (fun _ => ?_)
theorem laws_heldIntSS.mono : ∀ a0 a1 k, LeO (laws_heldIntSS.f k a0 a1) (laws_heldIntSS.f (k + 1) a0 a1) := by
  intro a0 a1 k
  have ih0 := laws_heldIntSS.mono_l k
  unfold laws_heldIntSS.f
  repeat' first
      | (with_reducible exact ih0 _ _ _)
      | (with_reducible exact laws_heldIntS.mono _ _ _)
      | (with_reducible exact LeO.refl _)
      | (with_reducible exact LeO.none _)
      | (with_reducible refine LeO.ite ?_ ?_)
      | (with_reducible refine LeO.bind ?_ (fun _ => ?_))
      | exact ih0 _ _ _
      | exact laws_heldIntS.mono _ _ _
      | exact LeO.none _
      | refine LeO.ite ?_ ?_
      | refine LeO.bind ?_ (fun _ => ?_)
noncomputable def laws_heldIntSS.L0 (x0 : List (List Int)) (x1 : Int) (x5 : Int) : Option (Int) := lim fun k => laws_heldIntSS.l0 k x0 x1 x5
theorem laws_heldIntSS.L0_lim (x0 : List (List Int)) (x1 : Int) (x5 : Int) : Lim (fun k => laws_heldIntSS.l0 k x0 x1 x5) (laws_heldIntSS.L0 x0 x1 x5) := ⟨fun k => (laws_heldIntSS.mono_l k) x0 x1 x5, rfl⟩
noncomputable def laws_heldIntSS.F (l0 : List (List Int)) (a1 : Int) : Option (Int) := lim fun k => laws_heldIntSS.f k l0 a1
theorem laws_heldIntSS.F_lim (l0 : List (List Int)) (a1 : Int) : Lim (fun k => laws_heldIntSS.f k l0 a1) (laws_heldIntSS.F l0 a1) := ⟨laws_heldIntSS.mono l0 a1, rfl⟩
theorem laws_heldIntSS.L0_eq (x0 : List (List Int)) (x1 : Int) (x5 : Int) : laws_heldIntSS.L0 x0 x1 x5 = (if x5 < (x0.length : Int) then (if 0 ≤ x5 then ((laws_heldIntS.F (rd_L4 x0 x5) x1).bind fun t135 => (if t135 < 0 then (some (-1)) else (laws_heldIntSS.L0 x0 t135 (wrap64 (x5 + 1))))) else (none)) else (some x1)) := by
  refine Lim.succ_eq (laws_heldIntSS.L0_lim x0 x1 x5).mon ?_
  simp only [laws_heldIntSS.l0]
  repeat' first
  | (with_reducible exact laws_heldIntSS.L0_lim _ _ _)
  | (with_reducible exact laws_heldIntS.F_lim _ _)
  | (with_reducible refine Lim.ite ?_ ?_)
  | (with_reducible refine Lim.bind ?_ (fun _ => ?_))
  | (with_reducible exact Lim.const _)
theorem laws_heldIntSS.F_eq (l0 : List (List Int)) (a1 : Int) : laws_heldIntSS.F l0 a1 = (laws_heldIntSS.L0 l0 a1 0) := by
  refine Lim.eq_ ?_
  simp only [laws_heldIntSS.f]
  repeat' first
  | (with_reducible exact laws_heldIntSS.L0_lim _ _ _)
  | (with_reducible exact laws_heldIntS.F_lim _ _)
  | (with_reducible refine Lim.ite ?_ ?_)
  | (with_reducible refine Lim.bind ?_ (fun _ => ?_))
  | (with_reducible exact Lim.const _)
def spec_l1In.f (a0 : Int) (a1 : Int) (a2 : Int) : Option (Bool) := if a0 ≥ a1 then (some (decide (a0 ≤ a2))) else (some false)
def spec_tiFrame.f (a0 : Int) : Option (Bool) := (spec_l1In.f a0 0 99999).bind fun t136 => (some t136)
def spec_fsWord.l0 : Nat → ByteArray → Int → Option (Bool)
  | 0, _, _ => none
  | k + 1, x0, x3 => if x3 < (x0.size : Int) then (if 0 ≤ x3 then (if (bt x0 x3) < 65 then (some false) else (if (bt x0 x3) > 90 then (some false) else (spec_fsWord.l0 k x0 (wrap64 (x3 + 1))))) else (none)) else ((spec_l1In.f (x0.size : Int) 1 8).bind fun t137 => (some t137))
def spec_fsWord.f (k : Nat) (a0 : ByteArray) : Option (Bool) := spec_fsWord.l0 k a0 0
theorem spec_fsWord.mono_l : ∀ k, (∀ y0 y1, LeO (spec_fsWord.l0 k y0 y1) (spec_fsWord.l0 (k + 1) y0 y1))
  | 0 => fun _ _ r h => by simp [spec_fsWord.l0] at h
  | k + 1 => by
    have ih0 := spec_fsWord.mono_l k
    · intro y0 y1
      unfold spec_fsWord.l0
      repeat' first
      | (with_reducible exact ih0 _ _)
      | (with_reducible exact LeO.refl _)
      | (with_reducible exact LeO.none _)
      | (with_reducible refine LeO.ite ?_ ?_)
      | (with_reducible refine LeO.bind ?_ (fun _ => ?_))
      | exact ih0 _ _
      | exact LeO.none _
      | refine LeO.ite ?_ ?_
      | refine LeO.bind ?_ (fun _ => ?_)
theorem spec_fsWord.mono : ∀ a0 k, LeO (spec_fsWord.f k a0) (spec_fsWord.f (k + 1) a0) := by
  intro a0 k
  have ih0 := spec_fsWord.mono_l k
  unfold spec_fsWord.f
  repeat' first
      | (with_reducible exact ih0 _ _)
      | (with_reducible exact LeO.refl _)
      | (with_reducible exact LeO.none _)
      | (with_reducible refine LeO.ite ?_ ?_)
      | (with_reducible refine LeO.bind ?_ (fun _ => ?_))
      | exact ih0 _ _
      | exact LeO.none _
      | refine LeO.ite ?_ ?_
      | refine LeO.bind ?_ (fun _ => ?_)
noncomputable def spec_fsWord.L0 (x0 : ByteArray) (x3 : Int) : Option (Bool) := lim fun k => spec_fsWord.l0 k x0 x3
theorem spec_fsWord.L0_lim (x0 : ByteArray) (x3 : Int) : Lim (fun k => spec_fsWord.l0 k x0 x3) (spec_fsWord.L0 x0 x3) := ⟨fun k => (spec_fsWord.mono_l k) x0 x3, rfl⟩
noncomputable def spec_fsWord.F (a0 : ByteArray) : Option (Bool) := lim fun k => spec_fsWord.f k a0
theorem spec_fsWord.F_lim (a0 : ByteArray) : Lim (fun k => spec_fsWord.f k a0) (spec_fsWord.F a0) := ⟨spec_fsWord.mono a0, rfl⟩
theorem spec_fsWord.L0_eq (x0 : ByteArray) (x3 : Int) : spec_fsWord.L0 x0 x3 = (if x3 < (x0.size : Int) then (if 0 ≤ x3 then (if (bt x0 x3) < 65 then (some false) else (if (bt x0 x3) > 90 then (some false) else (spec_fsWord.L0 x0 (wrap64 (x3 + 1))))) else (none)) else ((spec_l1In.f (x0.size : Int) 1 8).bind fun t137 => (some t137))) := by
  refine Lim.succ_eq (spec_fsWord.L0_lim x0 x3).mon ?_
  simp only [spec_fsWord.l0]
  repeat' first
  | (with_reducible exact spec_fsWord.L0_lim _ _)
  | (with_reducible refine Lim.ite ?_ ?_)
  | (with_reducible refine Lim.bind ?_ (fun _ => ?_))
  | (with_reducible exact Lim.const _)
theorem spec_fsWord.F_eq (a0 : ByteArray) : spec_fsWord.F a0 = (spec_fsWord.L0 a0 0) := by
  refine Lim.eq_ ?_
  simp only [spec_fsWord.f]
  repeat' first
  | (with_reducible exact spec_fsWord.L0_lim _ _)
  | (with_reducible refine Lim.ite ?_ ?_)
  | (with_reducible refine Lim.bind ?_ (fun _ => ?_))
  | (with_reducible exact Lim.const _)
def spec_tiNote.f (k : Nat) (a0_0 : Int) (a0_1 : Int) (a0_2 : ByteArray) : Option (Bool) := (spec_tiFrame.f a0_0).bind fun t139 => (if t139 = true then ((spec_tiFrame.f a0_1).bind fun t140 => (if t140 = true then (if a0_0 < a0_1 then ((spec_fsWord.f k a0_2).bind fun t141 => (some t141)) else (some false)) else (some false))) else (some false))
theorem spec_tiNote.mono : ∀ a0 a1 a2 k, LeO (spec_tiNote.f k a0 a1 a2) (spec_tiNote.f (k + 1) a0 a1 a2) := by
  intro a0 a1 a2 k
  unfold spec_tiNote.f
  repeat' first
      | (with_reducible exact spec_fsWord.mono _ _)
      | (with_reducible exact LeO.refl _)
      | (with_reducible exact LeO.none _)
      | (with_reducible refine LeO.ite ?_ ?_)
      | (with_reducible refine LeO.bind ?_ (fun _ => ?_))
      | exact spec_fsWord.mono _ _
      | exact LeO.none _
      | refine LeO.ite ?_ ?_
      | refine LeO.bind ?_ (fun _ => ?_)
noncomputable def spec_tiNote.F (a0_0 : Int) (a0_1 : Int) (a0_2 : ByteArray) : Option (Bool) := lim fun k => spec_tiNote.f k a0_0 a0_1 a0_2
theorem spec_tiNote.F_lim (a0_0 : Int) (a0_1 : Int) (a0_2 : ByteArray) : Lim (fun k => spec_tiNote.f k a0_0 a0_1 a0_2) (spec_tiNote.F a0_0 a0_1 a0_2) := ⟨spec_tiNote.mono a0_0 a0_1 a0_2, rfl⟩
theorem spec_tiNote.F_eq (a0_0 : Int) (a0_1 : Int) (a0_2 : ByteArray) : spec_tiNote.F a0_0 a0_1 a0_2 = ((spec_tiFrame.f a0_0).bind fun t139 => (if t139 = true then ((spec_tiFrame.f a0_1).bind fun t140 => (if t140 = true then (if a0_0 < a0_1 then ((spec_fsWord.F a0_2).bind fun t141 => (some t141)) else (some false)) else (some false))) else (some false))) := by
  refine Lim.eq_ ?_
  simp only [spec_tiNote.f]
  repeat' first
  | (with_reducible exact spec_fsWord.F_lim _)
  | (with_reducible refine Lim.ite ?_ ?_)
  | (with_reducible refine Lim.bind ?_ (fun _ => ?_))
  | (with_reducible exact Lim.const _)
def spec_tiGood.l0 : Nat → List (S66) → List (S66) → Int → Int → Option (Bool)
  | 0, _, _, _, _ => none
  | k + 1, x0, x5, x6, x7 => if x7 < x6 then (if 0 ≤ x7 then (if x7 < (x5.length : Int) then ((spec_tiNote.f k ((rd_T66 x5 x7).f0) ((rd_T66 x5 x7).f1) ((rd_T66 x5 x7).f2)).bind fun t144 => (if t144 = true then (if x7 > 0 then (if 0 ≤ (wrap64 (x7 - 1)) then (if (wrap64 (x7 - 1)) < (x0.length : Int) then (if ((rd_T66 x0 (wrap64 (x7 - 1))).f1) > ((rd_T66 x5 x7).f0) then (some false) else (spec_tiGood.l0 k x0 x5 x6 (wrap64 (x7 + 1)))) else (none)) else (none)) else (spec_tiGood.l0 k x0 x5 x6 (wrap64 (x7 + 1)))) else (some false))) else (none)) else (none)) else (some (decide ((x0.length : Int) ≤ 40)))
def spec_tiGood.f (k : Nat) (l0 : List (S66)) : Option (Bool) := spec_tiGood.l0 k l0 l0 (l0.length : Int) 0
theorem spec_tiGood.mono_l : ∀ k, (∀ y0 y1 y2 y3, LeO (spec_tiGood.l0 k y0 y1 y2 y3) (spec_tiGood.l0 (k + 1) y0 y1 y2 y3))
  | 0 => fun _ _ _ _ r h => by simp [spec_tiGood.l0] at h
  | k + 1 => by
    have ih0 := spec_tiGood.mono_l k
    · intro y0 y1 y2 y3
      unfold spec_tiGood.l0
      repeat' first
      | (with_reducible exact ih0 _ _ _ _)
      | (with_reducible exact spec_tiNote.mono _ _ _ _)
      | (with_reducible exact LeO.refl _)
      | (with_reducible exact LeO.none _)
      | (with_reducible refine LeO.ite ?_ ?_)
      | (with_reducible refine LeO.bind ?_ (fun _ => ?_))
      | exact ih0 _ _ _ _
      | exact spec_tiNote.mono _ _ _ _
      | exact LeO.none _
      | refine LeO.ite ?_ ?_
      | refine LeO.bind ?_ (fun _ => ?_)
theorem spec_tiGood.mono : ∀ a0 k, LeO (spec_tiGood.f k a0) (spec_tiGood.f (k + 1) a0) := by
  intro a0 k
  have ih0 := spec_tiGood.mono_l k
  unfold spec_tiGood.f
  repeat' first
      | (with_reducible exact ih0 _ _ _ _)
      | (with_reducible exact spec_tiNote.mono _ _ _ _)
      | (with_reducible exact LeO.refl _)
      | (with_reducible exact LeO.none _)
      | (with_reducible refine LeO.ite ?_ ?_)
      | (with_reducible refine LeO.bind ?_ (fun _ => ?_))
      | exact ih0 _ _ _ _
      | exact spec_tiNote.mono _ _ _ _
      | exact LeO.none _
      | refine LeO.ite ?_ ?_
      | refine LeO.bind ?_ (fun _ => ?_)
noncomputable def spec_tiGood.L0 (x0 : List (S66)) (x5 : List (S66)) (x6 : Int) (x7 : Int) : Option (Bool) := lim fun k => spec_tiGood.l0 k x0 x5 x6 x7
theorem spec_tiGood.L0_lim (x0 : List (S66)) (x5 : List (S66)) (x6 : Int) (x7 : Int) : Lim (fun k => spec_tiGood.l0 k x0 x5 x6 x7) (spec_tiGood.L0 x0 x5 x6 x7) := ⟨fun k => (spec_tiGood.mono_l k) x0 x5 x6 x7, rfl⟩
noncomputable def spec_tiGood.F (l0 : List (S66)) : Option (Bool) := lim fun k => spec_tiGood.f k l0
theorem spec_tiGood.F_lim (l0 : List (S66)) : Lim (fun k => spec_tiGood.f k l0) (spec_tiGood.F l0) := ⟨spec_tiGood.mono l0, rfl⟩
theorem spec_tiGood.L0_eq (x0 : List (S66)) (x5 : List (S66)) (x6 : Int) (x7 : Int) : spec_tiGood.L0 x0 x5 x6 x7 = (if x7 < x6 then (if 0 ≤ x7 then (if x7 < (x5.length : Int) then ((spec_tiNote.F ((rd_T66 x5 x7).f0) ((rd_T66 x5 x7).f1) ((rd_T66 x5 x7).f2)).bind fun t144 => (if t144 = true then (if x7 > 0 then (if 0 ≤ (wrap64 (x7 - 1)) then (if (wrap64 (x7 - 1)) < (x0.length : Int) then (if ((rd_T66 x0 (wrap64 (x7 - 1))).f1) > ((rd_T66 x5 x7).f0) then (some false) else (spec_tiGood.L0 x0 x5 x6 (wrap64 (x7 + 1)))) else (none)) else (none)) else (spec_tiGood.L0 x0 x5 x6 (wrap64 (x7 + 1)))) else (some false))) else (none)) else (none)) else (some (decide ((x0.length : Int) ≤ 40)))) := by
  refine Lim.succ_eq (spec_tiGood.L0_lim x0 x5 x6 x7).mon ?_
  simp only [spec_tiGood.l0]
  repeat' first
  | (with_reducible exact spec_tiGood.L0_lim _ _ _ _)
  | (with_reducible exact spec_tiNote.F_lim _ _ _)
  | (with_reducible refine Lim.ite ?_ ?_)
  | (with_reducible refine Lim.bind ?_ (fun _ => ?_))
  | (with_reducible exact Lim.const _)
theorem spec_tiGood.F_eq (l0 : List (S66)) : spec_tiGood.F l0 = (spec_tiGood.L0 l0 l0 (l0.length : Int) 0) := by
  refine Lim.eq_ ?_
  simp only [spec_tiGood.f]
  repeat' first
  | (with_reducible exact spec_tiGood.L0_lim _ _ _ _)
  | (with_reducible exact spec_tiNote.F_lim _ _ _)
  | (with_reducible refine Lim.ite ?_ ?_)
  | (with_reducible refine Lim.bind ?_ (fun _ => ?_))
  | (with_reducible exact Lim.const _)
def spec_quPattern.l0 : Nat → ByteArray → Int → Option (Bool)
  | 0, _, _ => none
  | k + 1, x0, x3 => if x3 < (x0.size : Int) then (if 0 ≤ x3 then (if (bt x0 x3) < 65 then (if (bt x0 x3) = 63 then (spec_quPattern.l0 k x0 (wrap64 (x3 + 1))) else (if (bt x0 x3) = 42 then (spec_quPattern.l0 k x0 (wrap64 (x3 + 1))) else (some false))) else (if (bt x0 x3) > 90 then (if (bt x0 x3) = 63 then (spec_quPattern.l0 k x0 (wrap64 (x3 + 1))) else (if (bt x0 x3) = 42 then (spec_quPattern.l0 k x0 (wrap64 (x3 + 1))) else (some false))) else (spec_quPattern.l0 k x0 (wrap64 (x3 + 1))))) else (none)) else ((spec_l1In.f (x0.size : Int) 1 8).bind fun t146 => (some t146))
def spec_quPattern.f (k : Nat) (a0 : ByteArray) : Option (Bool) := spec_quPattern.l0 k a0 0
theorem spec_quPattern.mono_l : ∀ k, (∀ y0 y1, LeO (spec_quPattern.l0 k y0 y1) (spec_quPattern.l0 (k + 1) y0 y1))
  | 0 => fun _ _ r h => by simp [spec_quPattern.l0] at h
  | k + 1 => by
    have ih0 := spec_quPattern.mono_l k
    · intro y0 y1
      unfold spec_quPattern.l0
      repeat' first
      | (with_reducible exact ih0 _ _)
      | (with_reducible exact LeO.refl _)
      | (with_reducible exact LeO.none _)
      | (with_reducible refine LeO.ite ?_ ?_)
      | (with_reducible refine LeO.bind ?_ (fun _ => ?_))
      | exact ih0 _ _
      | exact LeO.none _
      | refine LeO.ite ?_ ?_
      | refine LeO.bind ?_ (fun _ => ?_)
theorem spec_quPattern.mono : ∀ a0 k, LeO (spec_quPattern.f k a0) (spec_quPattern.f (k + 1) a0) := by
  intro a0 k
  have ih0 := spec_quPattern.mono_l k
  unfold spec_quPattern.f
  repeat' first
      | (with_reducible exact ih0 _ _)
      | (with_reducible exact LeO.refl _)
      | (with_reducible exact LeO.none _)
      | (with_reducible refine LeO.ite ?_ ?_)
      | (with_reducible refine LeO.bind ?_ (fun _ => ?_))
      | exact ih0 _ _
      | exact LeO.none _
      | refine LeO.ite ?_ ?_
      | refine LeO.bind ?_ (fun _ => ?_)
noncomputable def spec_quPattern.L0 (x0 : ByteArray) (x3 : Int) : Option (Bool) := lim fun k => spec_quPattern.l0 k x0 x3
theorem spec_quPattern.L0_lim (x0 : ByteArray) (x3 : Int) : Lim (fun k => spec_quPattern.l0 k x0 x3) (spec_quPattern.L0 x0 x3) := ⟨fun k => (spec_quPattern.mono_l k) x0 x3, rfl⟩
noncomputable def spec_quPattern.F (a0 : ByteArray) : Option (Bool) := lim fun k => spec_quPattern.f k a0
theorem spec_quPattern.F_lim (a0 : ByteArray) : Lim (fun k => spec_quPattern.f k a0) (spec_quPattern.F a0) := ⟨spec_quPattern.mono a0, rfl⟩
theorem spec_quPattern.L0_eq (x0 : ByteArray) (x3 : Int) : spec_quPattern.L0 x0 x3 = (if x3 < (x0.size : Int) then (if 0 ≤ x3 then (if (bt x0 x3) < 65 then (if (bt x0 x3) = 63 then (spec_quPattern.L0 x0 (wrap64 (x3 + 1))) else (if (bt x0 x3) = 42 then (spec_quPattern.L0 x0 (wrap64 (x3 + 1))) else (some false))) else (if (bt x0 x3) > 90 then (if (bt x0 x3) = 63 then (spec_quPattern.L0 x0 (wrap64 (x3 + 1))) else (if (bt x0 x3) = 42 then (spec_quPattern.L0 x0 (wrap64 (x3 + 1))) else (some false))) else (spec_quPattern.L0 x0 (wrap64 (x3 + 1))))) else (none)) else ((spec_l1In.f (x0.size : Int) 1 8).bind fun t146 => (some t146))) := by
  refine Lim.succ_eq (spec_quPattern.L0_lim x0 x3).mon ?_
  simp only [spec_quPattern.l0]
  repeat' first
  | (with_reducible exact spec_quPattern.L0_lim _ _)
  | (with_reducible refine Lim.ite ?_ ?_)
  | (with_reducible refine Lim.bind ?_ (fun _ => ?_))
  | (with_reducible exact Lim.const _)
theorem spec_quPattern.F_eq (a0 : ByteArray) : spec_quPattern.F a0 = (spec_quPattern.L0 a0 0) := by
  refine Lim.eq_ ?_
  simp only [spec_quPattern.f]
  repeat' first
  | (with_reducible exact spec_quPattern.L0_lim _ _)
  | (with_reducible refine Lim.ite ?_ ?_)
  | (with_reducible refine Lim.bind ?_ (fun _ => ?_))
  | (with_reducible exact Lim.const _)
def spec_quLike.f : Nat → ByteArray → ByteArray → Option (Bool)
  | 0, _, _ => none
  | k + 1, a0, a1 => if a0.toList = ([] : List UInt8) then (some (a1.toList == ([] : List UInt8))) else (if 0 < (a0.size : Int) then (if (bt a0 0) = 42 then (if 1 ≤ (a0.size : Int) then ((spec_quLike.f k (a0.extract 1 a0.size) a1).bind fun t147 => (if t147 = true then (some true) else (if a1.toList = ([] : List UInt8) then (some false) else (if 1 ≤ (a1.size : Int) then ((spec_quLike.f k a0 (a1.extract 1 a1.size)).bind fun t148 => (some t148)) else (none))))) else (none)) else (if a1.toList = ([] : List UInt8) then (some false) else (if (bt a0 0) = 63 then (if 1 ≤ (a0.size : Int) then (if 1 ≤ (a1.size : Int) then ((spec_quLike.f k (a0.extract 1 a0.size) (a1.extract 1 a1.size)).bind fun t149 => (some t149)) else (none)) else (none)) else (if 0 < (a1.size : Int) then (if (bt a0 0) = (bt a1 0) then (if 1 ≤ (a0.size : Int) then (if 1 ≤ (a1.size : Int) then ((spec_quLike.f k (a0.extract 1 a0.size) (a1.extract 1 a1.size)).bind fun t150 => (some t150)) else (none)) else (none)) else (some false)) else (none))))) else (none))
theorem spec_quLike.mono_l : ∀ k, (∀ y0 y1, LeO (spec_quLike.f k y0 y1) (spec_quLike.f (k + 1) y0 y1))
  | 0 => fun _ _ r h => by simp [spec_quLike.f] at h
  | k + 1 => by
    have ih0 := spec_quLike.mono_l k
    · intro y0 y1
      unfold spec_quLike.f
      repeat' first
      | (with_reducible exact ih0 _ _)
      | (with_reducible exact LeO.refl _)
      | (with_reducible exact LeO.none _)
      | (with_reducible refine LeO.ite ?_ ?_)
      | (with_reducible refine LeO.bind ?_ (fun _ => ?_))
      | exact ih0 _ _
      | exact LeO.none _
      | refine LeO.ite ?_ ?_
      | refine LeO.bind ?_ (fun _ => ?_)
theorem spec_quLike.mono : ∀ a0 a1 k, LeO (spec_quLike.f k a0 a1) (spec_quLike.f (k + 1) a0 a1) := by
  intro a0 a1 k
  have ih0 := spec_quLike.mono_l k
  exact ih0 a0 a1
noncomputable def spec_quLike.F (a0 : ByteArray) (a1 : ByteArray) : Option (Bool) := lim fun k => spec_quLike.f k a0 a1
theorem spec_quLike.F_lim (a0 : ByteArray) (a1 : ByteArray) : Lim (fun k => spec_quLike.f k a0 a1) (spec_quLike.F a0 a1) := ⟨spec_quLike.mono a0 a1, rfl⟩
theorem spec_quLike.F_eq (a0 : ByteArray) (a1 : ByteArray) : spec_quLike.F a0 a1 = (if a0.toList = ([] : List UInt8) then (some (a1.toList == ([] : List UInt8))) else (if 0 < (a0.size : Int) then (if (bt a0 0) = 42 then (if 1 ≤ (a0.size : Int) then ((spec_quLike.F (a0.extract 1 a0.size) a1).bind fun t147 => (if t147 = true then (some true) else (if a1.toList = ([] : List UInt8) then (some false) else (if 1 ≤ (a1.size : Int) then ((spec_quLike.F a0 (a1.extract 1 a1.size)).bind fun t148 => (some t148)) else (none))))) else (none)) else (if a1.toList = ([] : List UInt8) then (some false) else (if (bt a0 0) = 63 then (if 1 ≤ (a0.size : Int) then (if 1 ≤ (a1.size : Int) then ((spec_quLike.F (a0.extract 1 a0.size) (a1.extract 1 a1.size)).bind fun t149 => (some t149)) else (none)) else (none)) else (if 0 < (a1.size : Int) then (if (bt a0 0) = (bt a1 0) then (if 1 ≤ (a0.size : Int) then (if 1 ≤ (a1.size : Int) then ((spec_quLike.F (a0.extract 1 a0.size) (a1.extract 1 a1.size)).bind fun t150 => (some t150)) else (none)) else (none)) else (some false)) else (none))))) else (none))) := by
  refine Lim.succ_eq (spec_quLike.F_lim a0 a1).mon ?_
  simp only [spec_quLike.f]
  repeat' first
  | (with_reducible exact spec_quLike.F_lim _ _)
  | (with_reducible refine Lim.ite ?_ ?_)
  | (with_reducible refine Lim.bind ?_ (fun _ => ?_))
  | (with_reducible exact Lim.const _)
mutual
def spec_PairsWithin.j0 : Nat → List (S66) → ByteArray → ByteArray → Int → Bool → Option ((List (List Int)) × Bool)
  | 0, _, _, _, _, _ => none
  | k + 1, x0, x1, x2, x3, x31 => if x31 = true then (some (([] : List (List Int)), false)) else (spec_PairsWithin.l0 k x0 x1 x2 x3 ([] : List (List Int)) x0 (x0.length : Int) 0)
def spec_PairsWithin.l0 : Nat → List (S66) → ByteArray → ByteArray → Int → List (List Int) → List (S66) → Int → Int → Option ((List (List Int)) × Bool)
  | 0, _, _, _, _, _, _, _, _ => none
  | k + 1, x0, x1, x2, x3, x10, x32, x33, x34 => if x34 < x33 then (if 0 ≤ x34 then (if x34 < (x32.length : Int) then (spec_PairsWithin.l1 k x0 x1 x2 x3 x10 x34 (wrap64 (x34 + 1)) x32 x33 x34 ((rd_T66 x32 x34).f0) ((rd_T66 x32 x34).f1) ((rd_T66 x32 x34).f2)) else (none)) else (none)) else (some (x10, true))
def spec_PairsWithin.l1 : Nat → List (S66) → ByteArray → ByteArray → Int → List (List Int) → Int → Int → List (S66) → Int → Int → Int → Int → ByteArray → Option ((List (List Int)) × Bool)
  | 0, _, _, _, _, _, _, _, _, _, _, _, _, _ => none
  | k + 1, x0, x1, x2, x3, x10, x11, x13, x32, x33, x34, x157000, x157001, x157002 => if x13 < (x0.length : Int) then ((spec_quLike.f k x1 x157002).bind fun t157 => (if t157 = true then (if 0 ≤ x13 then ((spec_quLike.f k x2 ((rd_T66 x0 x13).f2)).bind fun t159 => (if t159 = true then (if (wrap64 (((rd_T66 x0 x13).f0) - x157001)) ≤ x3 then (if x10.length < 5864062014805 then (spec_PairsWithin.l1 k x0 x1 x2 x3 (x10 ++ [(([x11, x13] : List Int))]) x11 (wrap64 (x13 + 1)) x32 x33 x34 x157000 x157001 x157002) else (none)) else (spec_PairsWithin.l1 k x0 x1 x2 x3 x10 x11 (wrap64 (x13 + 1)) x32 x33 x34 x157000 x157001 x157002)) else (spec_PairsWithin.l1 k x0 x1 x2 x3 x10 x11 (wrap64 (x13 + 1)) x32 x33 x34 x157000 x157001 x157002))) else (none)) else (spec_PairsWithin.l1 k x0 x1 x2 x3 x10 x11 (wrap64 (x13 + 1)) x32 x33 x34 x157000 x157001 x157002))) else (spec_PairsWithin.l0 k x0 x1 x2 x3 x10 x32 x33 (wrap64 (x34 + 1)))
end
def spec_PairsWithin.f (k : Nat) (l0 : List (S66)) (a1 : ByteArray) (a2 : ByteArray) (a3 : Int) : Option ((List (List Int)) × Bool) := (spec_tiGood.f k l0).bind fun t151 => (if t151 = true then ((spec_quPattern.f k a1).bind fun t152 => (if t152 = true then ((spec_quPattern.f k a2).bind fun t153 => (if t153 = true then ((spec_tiFrame.f a3).bind fun t154 => (spec_PairsWithin.j0 k l0 a1 a2 a3 (!t154))) else (spec_PairsWithin.j0 k l0 a1 a2 a3 true))) else (spec_PairsWithin.j0 k l0 a1 a2 a3 true))) else (spec_PairsWithin.j0 k l0 a1 a2 a3 true))
theorem spec_PairsWithin.mono_l : ∀ k, (∀ y0 y1 y2 y3 y4, LeO (spec_PairsWithin.j0 k y0 y1 y2 y3 y4) (spec_PairsWithin.j0 (k + 1) y0 y1 y2 y3 y4)) ∧ (∀ y0 y1 y2 y3 y4 y5 y6 y7, LeO (spec_PairsWithin.l0 k y0 y1 y2 y3 y4 y5 y6 y7) (spec_PairsWithin.l0 (k + 1) y0 y1 y2 y3 y4 y5 y6 y7)) ∧ (∀ y0 y1 y2 y3 y4 y5 y6 y7 y8 y9 y10 y11 y12, LeO (spec_PairsWithin.l1 k y0 y1 y2 y3 y4 y5 y6 y7 y8 y9 y10 y11 y12) (spec_PairsWithin.l1 (k + 1) y0 y1 y2 y3 y4 y5 y6 y7 y8 y9 y10 y11 y12))
  | 0 => ⟨fun _ _ _ _ _ r h => by simp [spec_PairsWithin.j0] at h, fun _ _ _ _ _ _ _ _ r h => by simp [spec_PairsWithin.l0] at h, fun _ _ _ _ _ _ _ _ _ _ _ _ _ r h => by simp [spec_PairsWithin.l1] at h⟩
  | k + 1 => by
    obtain ⟨ih0, ih1, ih2⟩ := spec_PairsWithin.mono_l k
    refine ⟨?_, ?_, ?_⟩
    · intro y0 y1 y2 y3 y4
      unfold spec_PairsWithin.j0
      repeat' first
      | (with_reducible exact ih0 _ _ _ _ _)
      | (with_reducible exact ih1 _ _ _ _ _ _ _ _)
      | (with_reducible exact ih2 _ _ _ _ _ _ _ _ _ _ _ _ _)
      | (with_reducible exact spec_quLike.mono _ _ _)
      | (with_reducible exact spec_quPattern.mono _ _)
      | (with_reducible exact spec_tiGood.mono _ _)
      | (with_reducible exact LeO.refl _)
      | (with_reducible exact LeO.none _)
      | (with_reducible refine LeO.ite ?_ ?_)
      | (with_reducible refine LeO.bind ?_ (fun _ => ?_))
      | exact ih0 _ _ _ _ _
      | exact ih1 _ _ _ _ _ _ _ _
      | exact ih2 _ _ _ _ _ _ _ _ _ _ _ _ _
      | exact spec_quLike.mono _ _ _
      | exact spec_quPattern.mono _ _
      | exact spec_tiGood.mono _ _
      | exact LeO.none _
      | refine LeO.ite ?_ ?_
      | refine LeO.bind ?_ (fun _ => ?_)
    · intro y0 y1 y2 y3 y4 y5 y6 y7
      unfold spec_PairsWithin.l0
      repeat' first
      | (with_reducible exact ih0 _ _ _ _ _)
      | (with_reducible exact ih1 _ _ _ _ _ _ _ _)
      | (with_reducible exact ih2 _ _ _ _ _ _ _ _ _ _ _ _ _)
      | (with_reducible exact spec_quLike.mono _ _ _)
      | (with_reducible exact spec_quPattern.mono _ _)
      | (with_reducible exact spec_tiGood.mono _ _)
      | (with_reducible exact LeO.refl _)
      | (with_reducible exact LeO.none _)
      | (with_reducible refine LeO.ite ?_ ?_)
      | (with_reducible refine LeO.bind ?_ (fun _ => ?_))
      | exact ih0 _ _ _ _ _
      | exact ih1 _ _ _ _ _ _ _ _
      | exact ih2 _ _ _ _ _ _ _ _ _ _ _ _ _
      | exact spec_quLike.mono _ _ _
      | exact spec_quPattern.mono _ _
      | exact spec_tiGood.mono _ _
      | exact LeO.none _
      | refine LeO.ite ?_ ?_
      | refine LeO.bind ?_ (fun _ => ?_)
    · intro y0 y1 y2 y3 y4 y5 y6 y7 y8 y9 y10 y11 y12
      unfold spec_PairsWithin.l1
      repeat' first
      | (with_reducible exact ih0 _ _ _ _ _)
      | (with_reducible exact ih1 _ _ _ _ _ _ _ _)
      | (with_reducible exact ih2 _ _ _ _ _ _ _ _ _ _ _ _ _)
      | (with_reducible exact spec_quLike.mono _ _ _)
      | (with_reducible exact spec_quPattern.mono _ _)
      | (with_reducible exact spec_tiGood.mono _ _)
      | (with_reducible exact LeO.refl _)
      | (with_reducible exact LeO.none _)
      | (with_reducible refine LeO.ite ?_ ?_)
      | (with_reducible refine LeO.bind ?_ (fun _ => ?_))
      | exact ih0 _ _ _ _ _
      | exact ih1 _ _ _ _ _ _ _ _
      | exact ih2 _ _ _ _ _ _ _ _ _ _ _ _ _
      | exact spec_quLike.mono _ _ _
      | exact spec_quPattern.mono _ _
      | exact spec_tiGood.mono _ _
      | exact LeO.none _
      | refine LeO.ite ?_ ?_
      | refine LeO.bind ?_ (fun _ => ?_)
theorem spec_PairsWithin.mono : ∀ a0 a1 a2 a3 k, LeO (spec_PairsWithin.f k a0 a1 a2 a3) (spec_PairsWithin.f (k + 1) a0 a1 a2 a3) := by
  intro a0 a1 a2 a3 k
  obtain ⟨ih0, ih1, ih2⟩ := spec_PairsWithin.mono_l k
  unfold spec_PairsWithin.f
  repeat' first
      | (with_reducible exact ih0 _ _ _ _ _)
      | (with_reducible exact ih1 _ _ _ _ _ _ _ _)
      | (with_reducible exact ih2 _ _ _ _ _ _ _ _ _ _ _ _ _)
      | (with_reducible exact spec_quLike.mono _ _ _)
      | (with_reducible exact spec_quPattern.mono _ _)
      | (with_reducible exact spec_tiGood.mono _ _)
      | (with_reducible exact LeO.refl _)
      | (with_reducible exact LeO.none _)
      | (with_reducible refine LeO.ite ?_ ?_)
      | (with_reducible refine LeO.bind ?_ (fun _ => ?_))
      | exact ih0 _ _ _ _ _
      | exact ih1 _ _ _ _ _ _ _ _
      | exact ih2 _ _ _ _ _ _ _ _ _ _ _ _ _
      | exact spec_quLike.mono _ _ _
      | exact spec_quPattern.mono _ _
      | exact spec_tiGood.mono _ _
      | exact LeO.none _
      | refine LeO.ite ?_ ?_
      | refine LeO.bind ?_ (fun _ => ?_)
noncomputable def spec_PairsWithin.J0 (x0 : List (S66)) (x1 : ByteArray) (x2 : ByteArray) (x3 : Int) (x31 : Bool) : Option ((List (List Int)) × Bool) := lim fun k => spec_PairsWithin.j0 k x0 x1 x2 x3 x31
theorem spec_PairsWithin.J0_lim (x0 : List (S66)) (x1 : ByteArray) (x2 : ByteArray) (x3 : Int) (x31 : Bool) : Lim (fun k => spec_PairsWithin.j0 k x0 x1 x2 x3 x31) (spec_PairsWithin.J0 x0 x1 x2 x3 x31) := ⟨fun k => (spec_PairsWithin.mono_l k).1 x0 x1 x2 x3 x31, rfl⟩
noncomputable def spec_PairsWithin.L0 (x0 : List (S66)) (x1 : ByteArray) (x2 : ByteArray) (x3 : Int) (x10 : List (List Int)) (x32 : List (S66)) (x33 : Int) (x34 : Int) : Option ((List (List Int)) × Bool) := lim fun k => spec_PairsWithin.l0 k x0 x1 x2 x3 x10 x32 x33 x34
theorem spec_PairsWithin.L0_lim (x0 : List (S66)) (x1 : ByteArray) (x2 : ByteArray) (x3 : Int) (x10 : List (List Int)) (x32 : List (S66)) (x33 : Int) (x34 : Int) : Lim (fun k => spec_PairsWithin.l0 k x0 x1 x2 x3 x10 x32 x33 x34) (spec_PairsWithin.L0 x0 x1 x2 x3 x10 x32 x33 x34) := ⟨fun k => (spec_PairsWithin.mono_l k).2.1 x0 x1 x2 x3 x10 x32 x33 x34, rfl⟩
noncomputable def spec_PairsWithin.L1 (x0 : List (S66)) (x1 : ByteArray) (x2 : ByteArray) (x3 : Int) (x10 : List (List Int)) (x11 : Int) (x13 : Int) (x32 : List (S66)) (x33 : Int) (x34 : Int) (x157000 : Int) (x157001 : Int) (x157002 : ByteArray) : Option ((List (List Int)) × Bool) := lim fun k => spec_PairsWithin.l1 k x0 x1 x2 x3 x10 x11 x13 x32 x33 x34 x157000 x157001 x157002
theorem spec_PairsWithin.L1_lim (x0 : List (S66)) (x1 : ByteArray) (x2 : ByteArray) (x3 : Int) (x10 : List (List Int)) (x11 : Int) (x13 : Int) (x32 : List (S66)) (x33 : Int) (x34 : Int) (x157000 : Int) (x157001 : Int) (x157002 : ByteArray) : Lim (fun k => spec_PairsWithin.l1 k x0 x1 x2 x3 x10 x11 x13 x32 x33 x34 x157000 x157001 x157002) (spec_PairsWithin.L1 x0 x1 x2 x3 x10 x11 x13 x32 x33 x34 x157000 x157001 x157002) := ⟨fun k => (spec_PairsWithin.mono_l k).2.2 x0 x1 x2 x3 x10 x11 x13 x32 x33 x34 x157000 x157001 x157002, rfl⟩
noncomputable def spec_PairsWithin.F (l0 : List (S66)) (a1 : ByteArray) (a2 : ByteArray) (a3 : Int) : Option ((List (List Int)) × Bool) := lim fun k => spec_PairsWithin.f k l0 a1 a2 a3
theorem spec_PairsWithin.F_lim (l0 : List (S66)) (a1 : ByteArray) (a2 : ByteArray) (a3 : Int) : Lim (fun k => spec_PairsWithin.f k l0 a1 a2 a3) (spec_PairsWithin.F l0 a1 a2 a3) := ⟨spec_PairsWithin.mono l0 a1 a2 a3, rfl⟩
theorem spec_PairsWithin.J0_eq (x0 : List (S66)) (x1 : ByteArray) (x2 : ByteArray) (x3 : Int) (x31 : Bool) : spec_PairsWithin.J0 x0 x1 x2 x3 x31 = (if x31 = true then (some (([] : List (List Int)), false)) else (spec_PairsWithin.L0 x0 x1 x2 x3 ([] : List (List Int)) x0 (x0.length : Int) 0)) := by
  refine Lim.succ_eq (spec_PairsWithin.J0_lim x0 x1 x2 x3 x31).mon ?_
  simp only [spec_PairsWithin.j0]
  repeat' first
  | (with_reducible exact spec_PairsWithin.J0_lim _ _ _ _ _)
  | (with_reducible exact spec_PairsWithin.L0_lim _ _ _ _ _ _ _ _)
  | (with_reducible exact spec_PairsWithin.L1_lim _ _ _ _ _ _ _ _ _ _ _ _ _)
  | (with_reducible exact spec_quLike.F_lim _ _)
  | (with_reducible exact spec_quPattern.F_lim _)
  | (with_reducible exact spec_tiGood.F_lim _)
  | (with_reducible refine Lim.ite ?_ ?_)
  | (with_reducible refine Lim.bind ?_ (fun _ => ?_))
  | (with_reducible exact Lim.const _)
theorem spec_PairsWithin.L0_eq (x0 : List (S66)) (x1 : ByteArray) (x2 : ByteArray) (x3 : Int) (x10 : List (List Int)) (x32 : List (S66)) (x33 : Int) (x34 : Int) : spec_PairsWithin.L0 x0 x1 x2 x3 x10 x32 x33 x34 = (if x34 < x33 then (if 0 ≤ x34 then (if x34 < (x32.length : Int) then (spec_PairsWithin.L1 x0 x1 x2 x3 x10 x34 (wrap64 (x34 + 1)) x32 x33 x34 ((rd_T66 x32 x34).f0) ((rd_T66 x32 x34).f1) ((rd_T66 x32 x34).f2)) else (none)) else (none)) else (some (x10, true))) := by
  refine Lim.succ_eq (spec_PairsWithin.L0_lim x0 x1 x2 x3 x10 x32 x33 x34).mon ?_
  simp only [spec_PairsWithin.l0]
  repeat' first
  | (with_reducible exact spec_PairsWithin.J0_lim _ _ _ _ _)
  | (with_reducible exact spec_PairsWithin.L0_lim _ _ _ _ _ _ _ _)
  | (with_reducible exact spec_PairsWithin.L1_lim _ _ _ _ _ _ _ _ _ _ _ _ _)
  | (with_reducible exact spec_quLike.F_lim _ _)
  | (with_reducible exact spec_quPattern.F_lim _)
  | (with_reducible exact spec_tiGood.F_lim _)
  | (with_reducible refine Lim.ite ?_ ?_)
  | (with_reducible refine Lim.bind ?_ (fun _ => ?_))
  | (with_reducible exact Lim.const _)
theorem spec_PairsWithin.L1_eq (x0 : List (S66)) (x1 : ByteArray) (x2 : ByteArray) (x3 : Int) (x10 : List (List Int)) (x11 : Int) (x13 : Int) (x32 : List (S66)) (x33 : Int) (x34 : Int) (x157000 : Int) (x157001 : Int) (x157002 : ByteArray) : spec_PairsWithin.L1 x0 x1 x2 x3 x10 x11 x13 x32 x33 x34 x157000 x157001 x157002 = (if x13 < (x0.length : Int) then ((spec_quLike.F x1 x157002).bind fun t157 => (if t157 = true then (if 0 ≤ x13 then ((spec_quLike.F x2 ((rd_T66 x0 x13).f2)).bind fun t159 => (if t159 = true then (if (wrap64 (((rd_T66 x0 x13).f0) - x157001)) ≤ x3 then (if x10.length < 5864062014805 then (spec_PairsWithin.L1 x0 x1 x2 x3 (x10 ++ [(([x11, x13] : List Int))]) x11 (wrap64 (x13 + 1)) x32 x33 x34 x157000 x157001 x157002) else (none)) else (spec_PairsWithin.L1 x0 x1 x2 x3 x10 x11 (wrap64 (x13 + 1)) x32 x33 x34 x157000 x157001 x157002)) else (spec_PairsWithin.L1 x0 x1 x2 x3 x10 x11 (wrap64 (x13 + 1)) x32 x33 x34 x157000 x157001 x157002))) else (none)) else (spec_PairsWithin.L1 x0 x1 x2 x3 x10 x11 (wrap64 (x13 + 1)) x32 x33 x34 x157000 x157001 x157002))) else (spec_PairsWithin.L0 x0 x1 x2 x3 x10 x32 x33 (wrap64 (x34 + 1)))) := by
  refine Lim.succ_eq (spec_PairsWithin.L1_lim x0 x1 x2 x3 x10 x11 x13 x32 x33 x34 x157000 x157001 x157002).mon ?_
  simp only [spec_PairsWithin.l1]
  repeat' first
  | (with_reducible exact spec_PairsWithin.J0_lim _ _ _ _ _)
  | (with_reducible exact spec_PairsWithin.L0_lim _ _ _ _ _ _ _ _)
  | (with_reducible exact spec_PairsWithin.L1_lim _ _ _ _ _ _ _ _ _ _ _ _ _)
  | (with_reducible exact spec_quLike.F_lim _ _)
  | (with_reducible exact spec_quPattern.F_lim _)
  | (with_reducible exact spec_tiGood.F_lim _)
  | (with_reducible refine Lim.ite ?_ ?_)
  | (with_reducible refine Lim.bind ?_ (fun _ => ?_))
  | (with_reducible exact Lim.const _)
theorem spec_PairsWithin.F_eq (l0 : List (S66)) (a1 : ByteArray) (a2 : ByteArray) (a3 : Int) : spec_PairsWithin.F l0 a1 a2 a3 = ((spec_tiGood.F l0).bind fun t151 => (if t151 = true then ((spec_quPattern.F a1).bind fun t152 => (if t152 = true then ((spec_quPattern.F a2).bind fun t153 => (if t153 = true then ((spec_tiFrame.f a3).bind fun t154 => (spec_PairsWithin.J0 l0 a1 a2 a3 (!t154))) else (spec_PairsWithin.J0 l0 a1 a2 a3 true))) else (spec_PairsWithin.J0 l0 a1 a2 a3 true))) else (spec_PairsWithin.J0 l0 a1 a2 a3 true))) := by
  refine Lim.eq_ ?_
  simp only [spec_PairsWithin.f]
  repeat' first
  | (with_reducible exact spec_PairsWithin.J0_lim _ _ _ _ _)
  | (with_reducible exact spec_PairsWithin.L0_lim _ _ _ _ _ _ _ _)
  | (with_reducible exact spec_PairsWithin.L1_lim _ _ _ _ _ _ _ _ _ _ _ _ _)
  | (with_reducible exact spec_quLike.F_lim _ _)
  | (with_reducible exact spec_quPattern.F_lim _)
  | (with_reducible exact spec_tiGood.F_lim _)
  | (with_reducible refine Lim.ite ?_ ?_)
  | (with_reducible refine Lim.bind ?_ (fun _ => ?_))
  | (with_reducible exact Lim.const _)
def impl_within.f (a0 : Int) (a1 : Int) (a2 : Int) : Option (Bool) := if a0 ≥ a1 then (some (decide (a0 ≤ a2))) else (some false)
def impl_isFrame.f (a0 : Int) : Option (Bool) := (impl_within.f a0 0 99999).bind fun t167 => (some t167)
def stringslite_IndexByte.f (a0 : ByteArray) (a1 : Int) : Option (Int) := some (Lib.indexByte a0.data.toList a1.toNat.toUInt8)
def strings_IndexByte.f (a0 : ByteArray) (a1 : Int) : Option (Int) := (stringslite_IndexByte.f a0 a1).bind fun t168 => (some t168)
def impl_hasOnly.l0 : Nat → ByteArray → ByteArray → Int → Int → Option (Bool)
  | 0, _, _, _, _ => none
  | k + 1, x0, x1, x7, x8 => if x8 < x7 then (if 0 ≤ x8 then (if x8 < (x0.size : Int) then ((strings_IndexByte.f x1 (bt x0 x8)).bind fun t169 => (if t169 < 0 then (some false) else (impl_hasOnly.l0 k x0 x1 x7 (wrap64 (x8 + 1))))) else (none)) else (none)) else (some true)
def impl_hasOnly.f (k : Nat) (a0 : ByteArray) (a1 : ByteArray) : Option (Bool) := impl_hasOnly.l0 k a0 a1 (a0.size : Int) 0
theorem impl_hasOnly.mono_l : ∀ k, (∀ y0 y1 y2 y3, LeO (impl_hasOnly.l0 k y0 y1 y2 y3) (impl_hasOnly.l0 (k + 1) y0 y1 y2 y3))
  | 0 => fun _ _ _ _ r h => by simp [impl_hasOnly.l0] at h
  | k + 1 => by
    have ih0 := impl_hasOnly.mono_l k
    · intro y0 y1 y2 y3
      unfold impl_hasOnly.l0
      repeat' first
      | (with_reducible exact ih0 _ _ _ _)
      | (with_reducible exact LeO.refl _)
      | (with_reducible exact LeO.none _)
      | (with_reducible refine LeO.ite ?_ ?_)
      | (with_reducible refine LeO.bind ?_ (fun _ => ?_))
      | exact ih0 _ _ _ _
      | exact LeO.none _
      | refine LeO.ite ?_ ?_
      | refine LeO.bind ?_ (fun _ => ?_)
theorem impl_hasOnly.mono : ∀ a0 a1 k, LeO (impl_hasOnly.f k a0 a1) (impl_hasOnly.f (k + 1) a0 a1) := by
  intro a0 a1 k
  have ih0 := impl_hasOnly.mono_l k
  unfold impl_hasOnly.f
  repeat' first
      | (with_reducible exact ih0 _ _ _ _)
      | (with_reducible exact LeO.refl _)
      | (with_reducible exact LeO.none _)
      | (with_reducible refine LeO.ite ?_ ?_)
      | (with_reducible refine LeO.bind ?_ (fun _ => ?_))
      | exact ih0 _ _ _ _
      | exact LeO.none _
      | refine LeO.ite ?_ ?_
      | refine LeO.bind ?_ (fun _ => ?_)
noncomputable def impl_hasOnly.L0 (x0 : ByteArray) (x1 : ByteArray) (x7 : Int) (x8 : Int) : Option (Bool) := lim fun k => impl_hasOnly.l0 k x0 x1 x7 x8
theorem impl_hasOnly.L0_lim (x0 : ByteArray) (x1 : ByteArray) (x7 : Int) (x8 : Int) : Lim (fun k => impl_hasOnly.l0 k x0 x1 x7 x8) (impl_hasOnly.L0 x0 x1 x7 x8) := ⟨fun k => (impl_hasOnly.mono_l k) x0 x1 x7 x8, rfl⟩
noncomputable def impl_hasOnly.F (a0 : ByteArray) (a1 : ByteArray) : Option (Bool) := lim fun k => impl_hasOnly.f k a0 a1
theorem impl_hasOnly.F_lim (a0 : ByteArray) (a1 : ByteArray) : Lim (fun k => impl_hasOnly.f k a0 a1) (impl_hasOnly.F a0 a1) := ⟨impl_hasOnly.mono a0 a1, rfl⟩
theorem impl_hasOnly.L0_eq (x0 : ByteArray) (x1 : ByteArray) (x7 : Int) (x8 : Int) : impl_hasOnly.L0 x0 x1 x7 x8 = (if x8 < x7 then (if 0 ≤ x8 then (if x8 < (x0.size : Int) then ((strings_IndexByte.f x1 (bt x0 x8)).bind fun t169 => (if t169 < 0 then (some false) else (impl_hasOnly.L0 x0 x1 x7 (wrap64 (x8 + 1))))) else (none)) else (none)) else (some true)) := by
  refine Lim.succ_eq (impl_hasOnly.L0_lim x0 x1 x7 x8).mon ?_
  simp only [impl_hasOnly.l0]
  repeat' first
  | (with_reducible exact impl_hasOnly.L0_lim _ _ _ _)
  | (with_reducible refine Lim.ite ?_ ?_)
  | (with_reducible refine Lim.bind ?_ (fun _ => ?_))
  | (with_reducible exact Lim.const _)
theorem impl_hasOnly.F_eq (a0 : ByteArray) (a1 : ByteArray) : impl_hasOnly.F a0 a1 = (impl_hasOnly.L0 a0 a1 (a0.size : Int) 0) := by
  refine Lim.eq_ ?_
  simp only [impl_hasOnly.f]
  repeat' first
  | (with_reducible exact impl_hasOnly.L0_lim _ _ _ _)
  | (with_reducible refine Lim.ite ?_ ?_)
  | (with_reducible refine Lim.bind ?_ (fun _ => ?_))
  | (with_reducible exact Lim.const _)
def impl_isWordOf.f (k : Nat) (a0 : ByteArray) (a1 : ByteArray) : Option (Bool) := (impl_within.f (a0.size : Int) 1 8).bind fun t170 => (if t170 = true then ((impl_hasOnly.f k a0 a1).bind fun t171 => (some t171)) else (some false))
theorem impl_isWordOf.mono : ∀ a0 a1 k, LeO (impl_isWordOf.f k a0 a1) (impl_isWordOf.f (k + 1) a0 a1) := by
  intro a0 a1 k
  unfold impl_isWordOf.f
  repeat' first
      | (with_reducible exact impl_hasOnly.mono _ _ _)
      | (with_reducible exact LeO.refl _)
      | (with_reducible exact LeO.none _)
      | (with_reducible refine LeO.ite ?_ ?_)
      | (with_reducible refine LeO.bind ?_ (fun _ => ?_))
      | exact impl_hasOnly.mono _ _ _
      | exact LeO.none _
      | refine LeO.ite ?_ ?_
      | refine LeO.bind ?_ (fun _ => ?_)
noncomputable def impl_isWordOf.F (a0 : ByteArray) (a1 : ByteArray) : Option (Bool) := lim fun k => impl_isWordOf.f k a0 a1
theorem impl_isWordOf.F_lim (a0 : ByteArray) (a1 : ByteArray) : Lim (fun k => impl_isWordOf.f k a0 a1) (impl_isWordOf.F a0 a1) := ⟨impl_isWordOf.mono a0 a1, rfl⟩
theorem impl_isWordOf.F_eq (a0 : ByteArray) (a1 : ByteArray) : impl_isWordOf.F a0 a1 = ((impl_within.f (a0.size : Int) 1 8).bind fun t170 => (if t170 = true then ((impl_hasOnly.F a0 a1).bind fun t171 => (some t171)) else (some false))) := by
  refine Lim.eq_ ?_
  simp only [impl_isWordOf.f]
  repeat' first
  | (with_reducible exact impl_hasOnly.F_lim _ _)
  | (with_reducible refine Lim.ite ?_ ?_)
  | (with_reducible refine Lim.bind ?_ (fun _ => ?_))
  | (with_reducible exact Lim.const _)
def impl_IsNote.f (k : Nat) (a0_0 : Int) (a0_1 : Int) (a0_2 : ByteArray) : Option (Bool) := (impl_isFrame.f a0_0).bind fun t173 => (if t173 = true then ((impl_isFrame.f a0_1).bind fun t174 => (if t174 = true then (if a0_0 < a0_1 then ((impl_isWordOf.f k a0_2 (⟨#[65, 66, 67, 68, 69, 70, 71, 72, 73, 74, 75, 76, 77, 78, 79, 80, 81, 82, 83, 84, 85, 86, 87, 88, 89, 90]⟩ : ByteArray)).bind fun t175 => (some t175)) else (some false)) else (some false))) else (some false))
theorem impl_IsNote.mono : ∀ a0 a1 a2 k, LeO (impl_IsNote.f k a0 a1 a2) (impl_IsNote.f (k + 1) a0 a1 a2) := by
  intro a0 a1 a2 k
  unfold impl_IsNote.f
  repeat' first
      | (with_reducible exact impl_isWordOf.mono _ _ _)
      | (with_reducible exact LeO.refl _)
      | (with_reducible exact LeO.none _)
      | (with_reducible refine LeO.ite ?_ ?_)
      | (with_reducible refine LeO.bind ?_ (fun _ => ?_))
      | exact impl_isWordOf.mono _ _ _
      | exact LeO.none _
      | refine LeO.ite ?_ ?_
      | refine LeO.bind ?_ (fun _ => ?_)
noncomputable def impl_IsNote.F (a0_0 : Int) (a0_1 : Int) (a0_2 : ByteArray) : Option (Bool) := lim fun k => impl_IsNote.f k a0_0 a0_1 a0_2
theorem impl_IsNote.F_lim (a0_0 : Int) (a0_1 : Int) (a0_2 : ByteArray) : Lim (fun k => impl_IsNote.f k a0_0 a0_1 a0_2) (impl_IsNote.F a0_0 a0_1 a0_2) := ⟨impl_IsNote.mono a0_0 a0_1 a0_2, rfl⟩
theorem impl_IsNote.F_eq (a0_0 : Int) (a0_1 : Int) (a0_2 : ByteArray) : impl_IsNote.F a0_0 a0_1 a0_2 = ((impl_isFrame.f a0_0).bind fun t173 => (if t173 = true then ((impl_isFrame.f a0_1).bind fun t174 => (if t174 = true then (if a0_0 < a0_1 then ((impl_isWordOf.F a0_2 (⟨#[65, 66, 67, 68, 69, 70, 71, 72, 73, 74, 75, 76, 77, 78, 79, 80, 81, 82, 83, 84, 85, 86, 87, 88, 89, 90]⟩ : ByteArray)).bind fun t175 => (some t175)) else (some false)) else (some false))) else (some false))) := by
  refine Lim.eq_ ?_
  simp only [impl_IsNote.f]
  repeat' first
  | (with_reducible exact impl_isWordOf.F_lim _ _)
  | (with_reducible refine Lim.ite ?_ ?_)
  | (with_reducible refine Lim.bind ?_ (fun _ => ?_))
  | (with_reducible exact Lim.const _)
def impl_IsTier.l0 : Nat → List (S66) → List (S66) → Int → Int → Option (Bool)
  | 0, _, _, _, _ => none
  | k + 1, x0, x5, x6, x7 => if x7 < x6 then (if 0 ≤ x7 then (if x7 < (x5.length : Int) then ((impl_IsNote.f k ((rd_T66 x5 x7).f0) ((rd_T66 x5 x7).f1) ((rd_T66 x5 x7).f2)).bind fun t178 => (if t178 = true then (if x7 > 0 then (if 0 ≤ (wrap64 (x7 - 1)) then (if (wrap64 (x7 - 1)) < (x0.length : Int) then (if ((rd_T66 x0 (wrap64 (x7 - 1))).f1) > ((rd_T66 x5 x7).f0) then (some false) else (impl_IsTier.l0 k x0 x5 x6 (wrap64 (x7 + 1)))) else (none)) else (none)) else (impl_IsTier.l0 k x0 x5 x6 (wrap64 (x7 + 1)))) else (some false))) else (none)) else (none)) else (some (decide ((x0.length : Int) ≤ 40)))
def impl_IsTier.f (k : Nat) (l0 : List (S66)) : Option (Bool) := impl_IsTier.l0 k l0 l0 (l0.length : Int) 0
theorem impl_IsTier.mono_l : ∀ k, (∀ y0 y1 y2 y3, LeO (impl_IsTier.l0 k y0 y1 y2 y3) (impl_IsTier.l0 (k + 1) y0 y1 y2 y3))
  | 0 => fun _ _ _ _ r h => by simp [impl_IsTier.l0] at h
  | k + 1 => by
    have ih0 := impl_IsTier.mono_l k
    · intro y0 y1 y2 y3
      unfold impl_IsTier.l0
      repeat' first
      | (with_reducible exact ih0 _ _ _ _)
      | (with_reducible exact impl_IsNote.mono _ _ _ _)
      | (with_reducible exact LeO.refl _)
      | (with_reducible exact LeO.none _)
      | (with_reducible refine LeO.ite ?_ ?_)
      | (with_reducible refine LeO.bind ?_ (fun _ => ?_))
      | exact ih0 _ _ _ _
      | exact impl_IsNote.mono _ _ _ _
      | exact LeO.none _
      | refine LeO.ite ?_ ?_
      | refine LeO.bind ?_ (fun _ => ?_)
theorem impl_IsTier.mono : ∀ a0 k, LeO (impl_IsTier.f k a0) (impl_IsTier.f (k + 1) a0) := by
  intro a0 k
  have ih0 := impl_IsTier.mono_l k
  unfold impl_IsTier.f
  repeat' first
      | (with_reducible exact ih0 _ _ _ _)
      | (with_reducible exact impl_IsNote.mono _ _ _ _)
      | (with_reducible exact LeO.refl _)
      | (with_reducible exact LeO.none _)
      | (with_reducible refine LeO.ite ?_ ?_)
      | (with_reducible refine LeO.bind ?_ (fun _ => ?_))
      | exact ih0 _ _ _ _
      | exact impl_IsNote.mono _ _ _ _
      | exact LeO.none _
      | refine LeO.ite ?_ ?_
      | refine LeO.bind ?_ (fun _ => ?_)
noncomputable def impl_IsTier.L0 (x0 : List (S66)) (x5 : List (S66)) (x6 : Int) (x7 : Int) : Option (Bool) := lim fun k => impl_IsTier.l0 k x0 x5 x6 x7
theorem impl_IsTier.L0_lim (x0 : List (S66)) (x5 : List (S66)) (x6 : Int) (x7 : Int) : Lim (fun k => impl_IsTier.l0 k x0 x5 x6 x7) (impl_IsTier.L0 x0 x5 x6 x7) := ⟨fun k => (impl_IsTier.mono_l k) x0 x5 x6 x7, rfl⟩
noncomputable def impl_IsTier.F (l0 : List (S66)) : Option (Bool) := lim fun k => impl_IsTier.f k l0
theorem impl_IsTier.F_lim (l0 : List (S66)) : Lim (fun k => impl_IsTier.f k l0) (impl_IsTier.F l0) := ⟨impl_IsTier.mono l0, rfl⟩
theorem impl_IsTier.L0_eq (x0 : List (S66)) (x5 : List (S66)) (x6 : Int) (x7 : Int) : impl_IsTier.L0 x0 x5 x6 x7 = (if x7 < x6 then (if 0 ≤ x7 then (if x7 < (x5.length : Int) then ((impl_IsNote.F ((rd_T66 x5 x7).f0) ((rd_T66 x5 x7).f1) ((rd_T66 x5 x7).f2)).bind fun t178 => (if t178 = true then (if x7 > 0 then (if 0 ≤ (wrap64 (x7 - 1)) then (if (wrap64 (x7 - 1)) < (x0.length : Int) then (if ((rd_T66 x0 (wrap64 (x7 - 1))).f1) > ((rd_T66 x5 x7).f0) then (some false) else (impl_IsTier.L0 x0 x5 x6 (wrap64 (x7 + 1)))) else (none)) else (none)) else (impl_IsTier.L0 x0 x5 x6 (wrap64 (x7 + 1)))) else (some false))) else (none)) else (none)) else (some (decide ((x0.length : Int) ≤ 40)))) := by
  refine Lim.succ_eq (impl_IsTier.L0_lim x0 x5 x6 x7).mon ?_
  simp only [impl_IsTier.l0]
  repeat' first
  | (with_reducible exact impl_IsTier.L0_lim _ _ _ _)
  | (with_reducible exact impl_IsNote.F_lim _ _ _)
  | (with_reducible refine Lim.ite ?_ ?_)
  | (with_reducible refine Lim.bind ?_ (fun _ => ?_))
  | (with_reducible exact Lim.const _)
theorem impl_IsTier.F_eq (l0 : List (S66)) : impl_IsTier.F l0 = (impl_IsTier.L0 l0 l0 (l0.length : Int) 0) := by
  refine Lim.eq_ ?_
  simp only [impl_IsTier.f]
  repeat' first
  | (with_reducible exact impl_IsTier.L0_lim _ _ _ _)
  | (with_reducible exact impl_IsNote.F_lim _ _ _)
  | (with_reducible refine Lim.ite ?_ ?_)
  | (with_reducible refine Lim.bind ?_ (fun _ => ?_))
  | (with_reducible exact Lim.const _)
def impl_isGlossPattern.f (k : Nat) (a0 : ByteArray) : Option (Bool) := (impl_isWordOf.f k a0 (⟨#[65, 66, 67, 68, 69, 70, 71, 72, 73, 74, 75, 76, 77, 78, 79, 80, 81, 82, 83, 84, 85, 86, 87, 88, 89, 90, 63, 42]⟩ : ByteArray)).bind fun t180 => (some t180)
theorem impl_isGlossPattern.mono : ∀ a0 k, LeO (impl_isGlossPattern.f k a0) (impl_isGlossPattern.f (k + 1) a0) := by
  intro a0 k
  unfold impl_isGlossPattern.f
  repeat' first
      | (with_reducible exact impl_isWordOf.mono _ _ _)
      | (with_reducible exact LeO.refl _)
      | (with_reducible exact LeO.none _)
      | (with_reducible refine LeO.ite ?_ ?_)
      | (with_reducible refine LeO.bind ?_ (fun _ => ?_))
      | exact impl_isWordOf.mono _ _ _
      | exact LeO.none _
      | refine LeO.ite ?_ ?_
      | refine LeO.bind ?_ (fun _ => ?_)
noncomputable def impl_isGlossPattern.F (a0 : ByteArray) : Option (Bool) := lim fun k => impl_isGlossPattern.f k a0
theorem impl_isGlossPattern.F_lim (a0 : ByteArray) : Lim (fun k => impl_isGlossPattern.f k a0) (impl_isGlossPattern.F a0) := ⟨impl_isGlossPattern.mono a0, rfl⟩
theorem impl_isGlossPattern.F_eq (a0 : ByteArray) : impl_isGlossPattern.F a0 = ((impl_isWordOf.F a0 (⟨#[65, 66, 67, 68, 69, 70, 71, 72, 73, 74, 75, 76, 77, 78, 79, 80, 81, 82, 83, 84, 85, 86, 87, 88, 89, 90, 63, 42]⟩ : ByteArray)).bind fun t180 => (some t180)) := by
  refine Lim.eq_ ?_
  simp only [impl_isGlossPattern.f]
  repeat' first
  | (with_reducible exact impl_isWordOf.F_lim _ _)
  | (with_reducible refine Lim.ite ?_ ?_)
  | (with_reducible refine Lim.bind ?_ (fun _ => ?_))
  | (with_reducible exact Lim.const _)
mutual
def impl_fits.l0 : Nat → ByteArray → ByteArray → List Bool → Int → Int → Option (Bool)
  | 0, _, _, _, _, _ => none
  | k + 1, x0, x1, x5, x20, x21 => if x21 < x20 then (if 0 ≤ (x5.length : Int) then (if ((x5.length : Int) : Int).toNat ≤ 281474976710656 then (impl_fits.l1 k x0 x1 x5 x21 (List.replicate ((x5.length : Int) : Int).toNat false) x20 x21 (x5.length : Int) 0) else (none)) else (none)) else (if 0 ≤ (x1.size : Int) then (if (x1.size : Int) < (x5.length : Int) then (some (rdOf false x5 (x1.size : Int))) else (none)) else (none))
def impl_fits.l1 : Nat → ByteArray → ByteArray → List Bool → Int → List Bool → Int → Int → Int → Int → Option (Bool)
  | 0, _, _, _, _, _, _, _, _, _ => none
  | k + 1, x0, x1, x5, x6, x7, x20, x21, x28, x29 => if x29 < x28 then (if 0 ≤ x6 then (if x6 < (x0.size : Int) then (if (bt x0 x6) = 42 then (if 0 ≤ x29 then (if x29 < (x5.length : Int) then (if rdOf false x5 x29 = true then (if x29 < (x7.length : Int) then (impl_fits.l1 k x0 x1 x5 x6 (x7.set (x29 : Int).toNat true) x20 x21 x28 (wrap64 (x29 + 1))) else (none)) else (if x29 > 0 then (if 0 ≤ (wrap64 (x29 - 1)) then (if (wrap64 (x29 - 1)) < (x7.length : Int) then (if x29 < (x7.length : Int) then (impl_fits.l1 k x0 x1 x5 x6 (x7.set (x29 : Int).toNat (rdOf false x7 (wrap64 (x29 - 1)))) x20 x21 x28 (wrap64 (x29 + 1))) else (none)) else (none)) else (none)) else (if x29 < (x7.length : Int) then (impl_fits.l1 k x0 x1 x5 x6 (x7.set (x29 : Int).toNat false) x20 x21 x28 (wrap64 (x29 + 1))) else (none)))) else (none)) else (none)) else (if x29 > 0 then (if 0 ≤ (wrap64 (x29 - 1)) then (if (wrap64 (x29 - 1)) < (x5.length : Int) then (if rdOf false x5 (wrap64 (x29 - 1)) = true then (if (bt x0 x6) = 63 then (if 0 ≤ x29 then (if x29 < (x7.length : Int) then (impl_fits.l1 k x0 x1 x5 x6 (x7.set (x29 : Int).toNat true) x20 x21 x28 (wrap64 (x29 + 1))) else (none)) else (none)) else (if (wrap64 (x29 - 1)) < (x1.size : Int) then (if 0 ≤ x29 then (if x29 < (x7.length : Int) then (impl_fits.l1 k x0 x1 x5 x6 (x7.set (x29 : Int).toNat ((bt x0 x6) == (bt x1 (wrap64 (x29 - 1))))) x20 x21 x28 (wrap64 (x29 + 1))) else (none)) else (none)) else (none))) else (if 0 ≤ x29 then (if x29 < (x7.length : Int) then (impl_fits.l1 k x0 x1 x5 x6 (x7.set (x29 : Int).toNat false) x20 x21 x28 (wrap64 (x29 + 1))) else (none)) else (none))) else (none)) else (none)) else (if 0 ≤ x29 then (if x29 < (x7.length : Int) then (impl_fits.l1 k x0 x1 x5 x6 (x7.set (x29 : Int).toNat false) x20 x21 x28 (wrap64 (x29 + 1))) else (none)) else (none)))) else (none)) else (none)) else (impl_fits.l0 k x0 x1 x7 x20 (wrap64 (x21 + 1)))
end
def impl_fits.f (k : Nat) (a0 : ByteArray) (a1 : ByteArray) : Option (Bool) := if a0.toList = ([] : List UInt8) then (some (a1.toList == ([] : List UInt8))) else (if 0 ≤ (wrap64 ((a1.size : Int) + 1)) then (if (wrap64 ((a1.size : Int) + 1) : Int).toNat ≤ 281474976710656 then ((some (List.replicate (wrap64 ((a1.size : Int) + 1) : Int).toNat false : List Bool)).bind fun y181 => (if 0 < (y181.length : Int) then (impl_fits.l0 k a0 a1 (y181.set (0 : Int).toNat true) (a0.size : Int) 0) else (none))) else (none)) else (none))
theorem impl_fits.mono_l : ∀ k, (∀ y0 y1 y2 y3 y4, LeO (impl_fits.l0 k y0 y1 y2 y3 y4) (impl_fits.l0 (k + 1) y0 y1 y2 y3 y4)) ∧ (∀ y0 y1 y2 y3 y4 y5 y6 y7 y8, LeO (impl_fits.l1 k y0 y1 y2 y3 y4 y5 y6 y7 y8) (impl_fits.l1 (k + 1) y0 y1 y2 y3 y4 y5 y6 y7 y8))
  | 0 => ⟨fun _ _ _ _ _ r h => by simp [impl_fits.l0] at h, fun _ _ _ _ _ _ _ _ _ r h => by simp [impl_fits.l1] at h⟩
  | k + 1 => by
    obtain ⟨ih0, ih1⟩ := impl_fits.mono_l k
    refine ⟨?_, ?_⟩
    · intro y0 y1 y2 y3 y4
      unfold impl_fits.l0
      repeat' first
      | (with_reducible exact ih0 _ _ _ _ _)
      | (with_reducible exact ih1 _ _ _ _ _ _ _ _ _)
      | (with_reducible exact LeO.refl _)
      | (with_reducible exact LeO.none _)
      | (with_reducible refine LeO.ite ?_ ?_)
      | (with_reducible refine LeO.bind ?_ (fun _ => ?_))
      | exact ih0 _ _ _ _ _
      | exact ih1 _ _ _ _ _ _ _ _ _
      | exact LeO.none _
      | refine LeO.ite ?_ ?_
      | refine LeO.bind ?_ (fun _ => ?_)
    · intro y0 y1 y2 y3 y4 y5 y6 y7 y8
      unfold impl_fits.l1
      repeat' first
      | (with_reducible exact ih0 _ _ _ _ _)
      | (with_reducible exact ih1 _ _ _ _ _ _ _ _ _)
      | (with_reducible exact LeO.refl _)
      | (with_reducible exact LeO.none _)
      | (with_reducible refine LeO.ite ?_ ?_)
      | (with_reducible refine LeO.bind ?_ (fun _ => ?_))
      | exact ih0 _ _ _ _ _
      | exact ih1 _ _ _ _ _ _ _ _ _
      | exact LeO.none _
      | refine LeO.ite ?_ ?_
      | refine LeO.bind ?_ (fun _ => ?_)
theorem impl_fits.mono : ∀ a0 a1 k, LeO (impl_fits.f k a0 a1) (impl_fits.f (k + 1) a0 a1) := by
  intro a0 a1 k
  obtain ⟨ih0, ih1⟩ := impl_fits.mono_l k
  unfold impl_fits.f
  repeat' first
      | (with_reducible exact ih0 _ _ _ _ _)
      | (with_reducible exact ih1 _ _ _ _ _ _ _ _ _)
      | (with_reducible exact LeO.refl _)
      | (with_reducible exact LeO.none _)
      | (with_reducible refine LeO.ite ?_ ?_)
      | (with_reducible refine LeO.bind ?_ (fun _ => ?_))
      | exact ih0 _ _ _ _ _
      | exact ih1 _ _ _ _ _ _ _ _ _
      | exact LeO.none _
      | refine LeO.ite ?_ ?_
      | refine LeO.bind ?_ (fun _ => ?_)
noncomputable def impl_fits.L0 (x0 : ByteArray) (x1 : ByteArray) (x5 : List Bool) (x20 : Int) (x21 : Int) : Option (Bool) := lim fun k => impl_fits.l0 k x0 x1 x5 x20 x21
theorem impl_fits.L0_lim (x0 : ByteArray) (x1 : ByteArray) (x5 : List Bool) (x20 : Int) (x21 : Int) : Lim (fun k => impl_fits.l0 k x0 x1 x5 x20 x21) (impl_fits.L0 x0 x1 x5 x20 x21) := ⟨fun k => (impl_fits.mono_l k).1 x0 x1 x5 x20 x21, rfl⟩
noncomputable def impl_fits.L1 (x0 : ByteArray) (x1 : ByteArray) (x5 : List Bool) (x6 : Int) (x7 : List Bool) (x20 : Int) (x21 : Int) (x28 : Int) (x29 : Int) : Option (Bool) := lim fun k => impl_fits.l1 k x0 x1 x5 x6 x7 x20 x21 x28 x29
theorem impl_fits.L1_lim (x0 : ByteArray) (x1 : ByteArray) (x5 : List Bool) (x6 : Int) (x7 : List Bool) (x20 : Int) (x21 : Int) (x28 : Int) (x29 : Int) : Lim (fun k => impl_fits.l1 k x0 x1 x5 x6 x7 x20 x21 x28 x29) (impl_fits.L1 x0 x1 x5 x6 x7 x20 x21 x28 x29) := ⟨fun k => (impl_fits.mono_l k).2 x0 x1 x5 x6 x7 x20 x21 x28 x29, rfl⟩
noncomputable def impl_fits.F (a0 : ByteArray) (a1 : ByteArray) : Option (Bool) := lim fun k => impl_fits.f k a0 a1
theorem impl_fits.F_lim (a0 : ByteArray) (a1 : ByteArray) : Lim (fun k => impl_fits.f k a0 a1) (impl_fits.F a0 a1) := ⟨impl_fits.mono a0 a1, rfl⟩
theorem impl_fits.L0_eq (x0 : ByteArray) (x1 : ByteArray) (x5 : List Bool) (x20 : Int) (x21 : Int) : impl_fits.L0 x0 x1 x5 x20 x21 = (if x21 < x20 then (if 0 ≤ (x5.length : Int) then (if ((x5.length : Int) : Int).toNat ≤ 281474976710656 then (impl_fits.L1 x0 x1 x5 x21 (List.replicate ((x5.length : Int) : Int).toNat false) x20 x21 (x5.length : Int) 0) else (none)) else (none)) else (if 0 ≤ (x1.size : Int) then (if (x1.size : Int) < (x5.length : Int) then (some (rdOf false x5 (x1.size : Int))) else (none)) else (none))) := by
  refine Lim.succ_eq (impl_fits.L0_lim x0 x1 x5 x20 x21).mon ?_
  simp only [impl_fits.l0]
  repeat' first
  | (with_reducible exact impl_fits.L0_lim _ _ _ _ _)
  | (with_reducible exact impl_fits.L1_lim _ _ _ _ _ _ _ _ _)
  | (with_reducible refine Lim.ite ?_ ?_)
  | (with_reducible refine Lim.bind ?_ (fun _ => ?_))
  | (with_reducible exact Lim.const _)
theorem impl_fits.L1_eq (x0 : ByteArray) (x1 : ByteArray) (x5 : List Bool) (x6 : Int) (x7 : List Bool) (x20 : Int) (x21 : Int) (x28 : Int) (x29 : Int) : impl_fits.L1 x0 x1 x5 x6 x7 x20 x21 x28 x29 = (if x29 < x28 then (if 0 ≤ x6 then (if x6 < (x0.size : Int) then (if (bt x0 x6) = 42 then (if 0 ≤ x29 then (if x29 < (x5.length : Int) then (if rdOf false x5 x29 = true then (if x29 < (x7.length : Int) then (impl_fits.L1 x0 x1 x5 x6 (x7.set (x29 : Int).toNat true) x20 x21 x28 (wrap64 (x29 + 1))) else (none)) else (if x29 > 0 then (if 0 ≤ (wrap64 (x29 - 1)) then (if (wrap64 (x29 - 1)) < (x7.length : Int) then (if x29 < (x7.length : Int) then (impl_fits.L1 x0 x1 x5 x6 (x7.set (x29 : Int).toNat (rdOf false x7 (wrap64 (x29 - 1)))) x20 x21 x28 (wrap64 (x29 + 1))) else (none)) else (none)) else (none)) else (if x29 < (x7.length : Int) then (impl_fits.L1 x0 x1 x5 x6 (x7.set (x29 : Int).toNat false) x20 x21 x28 (wrap64 (x29 + 1))) else (none)))) else (none)) else (none)) else (if x29 > 0 then (if 0 ≤ (wrap64 (x29 - 1)) then (if (wrap64 (x29 - 1)) < (x5.length : Int) then (if rdOf false x5 (wrap64 (x29 - 1)) = true then (if (bt x0 x6) = 63 then (if 0 ≤ x29 then (if x29 < (x7.length : Int) then (impl_fits.L1 x0 x1 x5 x6 (x7.set (x29 : Int).toNat true) x20 x21 x28 (wrap64 (x29 + 1))) else (none)) else (none)) else (if (wrap64 (x29 - 1)) < (x1.size : Int) then (if 0 ≤ x29 then (if x29 < (x7.length : Int) then (impl_fits.L1 x0 x1 x5 x6 (x7.set (x29 : Int).toNat ((bt x0 x6) == (bt x1 (wrap64 (x29 - 1))))) x20 x21 x28 (wrap64 (x29 + 1))) else (none)) else (none)) else (none))) else (if 0 ≤ x29 then (if x29 < (x7.length : Int) then (impl_fits.L1 x0 x1 x5 x6 (x7.set (x29 : Int).toNat false) x20 x21 x28 (wrap64 (x29 + 1))) else (none)) else (none))) else (none)) else (none)) else (if 0 ≤ x29 then (if x29 < (x7.length : Int) then (impl_fits.L1 x0 x1 x5 x6 (x7.set (x29 : Int).toNat false) x20 x21 x28 (wrap64 (x29 + 1))) else (none)) else (none)))) else (none)) else (none)) else (impl_fits.L0 x0 x1 x7 x20 (wrap64 (x21 + 1)))) := by
  refine Lim.succ_eq (impl_fits.L1_lim x0 x1 x5 x6 x7 x20 x21 x28 x29).mon ?_
  simp only [impl_fits.l1]
  repeat' first
  | (with_reducible exact impl_fits.L0_lim _ _ _ _ _)
  | (with_reducible exact impl_fits.L1_lim _ _ _ _ _ _ _ _ _)
  | (with_reducible refine Lim.ite ?_ ?_)
  | (with_reducible refine Lim.bind ?_ (fun _ => ?_))
  | (with_reducible exact Lim.const _)
theorem impl_fits.F_eq (a0 : ByteArray) (a1 : ByteArray) : impl_fits.F a0 a1 = (if a0.toList = ([] : List UInt8) then (some (a1.toList == ([] : List UInt8))) else (if 0 ≤ (wrap64 ((a1.size : Int) + 1)) then (if (wrap64 ((a1.size : Int) + 1) : Int).toNat ≤ 281474976710656 then ((some (List.replicate (wrap64 ((a1.size : Int) + 1) : Int).toNat false : List Bool)).bind fun y181 => (if 0 < (y181.length : Int) then (impl_fits.L0 a0 a1 (y181.set (0 : Int).toNat true) (a0.size : Int) 0) else (none))) else (none)) else (none))) := by
  refine Lim.eq_ ?_
  simp only [impl_fits.f]
  repeat' first
  | (with_reducible exact impl_fits.L0_lim _ _ _ _ _)
  | (with_reducible exact impl_fits.L1_lim _ _ _ _ _ _ _ _ _)
  | (with_reducible refine Lim.ite ?_ ?_)
  | (with_reducible refine Lim.bind ?_ (fun _ => ?_))
  | (with_reducible exact Lim.const _)
mutual
def impl_PairsWithin.j0 : Nat → List (S66) → ByteArray → ByteArray → Int → Bool → Option ((List (List Int)) × Bool)
  | 0, _, _, _, _, _ => none
  | k + 1, x0, x1, x2, x3, x31 => if x31 = true then (some (([] : List (List Int)), false)) else (impl_PairsWithin.l0 k x0 x1 x2 x3 ([] : List (List Int)) x0 (x0.length : Int) 0)
def impl_PairsWithin.l0 : Nat → List (S66) → ByteArray → ByteArray → Int → List (List Int) → List (S66) → Int → Int → Option ((List (List Int)) × Bool)
  | 0, _, _, _, _, _, _, _, _ => none
  | k + 1, x0, x1, x2, x3, x10, x32, x33, x34 => if x34 < x33 then (if 0 ≤ x34 then (if x34 < (x32.length : Int) then (impl_PairsWithin.l1 k x0 x1 x2 x3 x10 x34 (wrap64 (x34 + 1)) x32 x33 x34 ((rd_T66 x32 x34).f0) ((rd_T66 x32 x34).f1) ((rd_T66 x32 x34).f2)) else (none)) else (none)) else (some (x10, true))
def impl_PairsWithin.l1 : Nat → List (S66) → ByteArray → ByteArray → Int → List (List Int) → Int → Int → List (S66) → Int → Int → Int → Int → ByteArray → Option ((List (List Int)) × Bool)
  | 0, _, _, _, _, _, _, _, _, _, _, _, _, _ => none
  | k + 1, x0, x1, x2, x3, x10, x11, x13, x32, x33, x34, x205000, x205001, x205002 => if x13 < (x0.length : Int) then ((impl_fits.f k x1 x205002).bind fun t205 => (if t205 = true then (if 0 ≤ x13 then ((impl_fits.f k x2 ((rd_T66 x0 x13).f2)).bind fun t207 => (if t207 = true then (if (wrap64 (((rd_T66 x0 x13).f0) - x205001)) ≤ x3 then (if x10.length < 5864062014805 then (impl_PairsWithin.l1 k x0 x1 x2 x3 (x10 ++ [(([x11, x13] : List Int))]) x11 (wrap64 (x13 + 1)) x32 x33 x34 x205000 x205001 x205002) else (none)) else (impl_PairsWithin.l1 k x0 x1 x2 x3 x10 x11 (wrap64 (x13 + 1)) x32 x33 x34 x205000 x205001 x205002)) else (impl_PairsWithin.l1 k x0 x1 x2 x3 x10 x11 (wrap64 (x13 + 1)) x32 x33 x34 x205000 x205001 x205002))) else (none)) else (impl_PairsWithin.l1 k x0 x1 x2 x3 x10 x11 (wrap64 (x13 + 1)) x32 x33 x34 x205000 x205001 x205002))) else (impl_PairsWithin.l0 k x0 x1 x2 x3 x10 x32 x33 (wrap64 (x34 + 1)))
end
def impl_PairsWithin.f (k : Nat) (l0 : List (S66)) (a1 : ByteArray) (a2 : ByteArray) (a3 : Int) : Option ((List (List Int)) × Bool) := (impl_IsTier.f k l0).bind fun t199 => (if t199 = true then ((impl_isGlossPattern.f k a1).bind fun t200 => (if t200 = true then ((impl_isGlossPattern.f k a2).bind fun t201 => (if t201 = true then ((impl_isFrame.f a3).bind fun t202 => (impl_PairsWithin.j0 k l0 a1 a2 a3 (!t202))) else (impl_PairsWithin.j0 k l0 a1 a2 a3 true))) else (impl_PairsWithin.j0 k l0 a1 a2 a3 true))) else (impl_PairsWithin.j0 k l0 a1 a2 a3 true))
theorem impl_PairsWithin.mono_l : ∀ k, (∀ y0 y1 y2 y3 y4, LeO (impl_PairsWithin.j0 k y0 y1 y2 y3 y4) (impl_PairsWithin.j0 (k + 1) y0 y1 y2 y3 y4)) ∧ (∀ y0 y1 y2 y3 y4 y5 y6 y7, LeO (impl_PairsWithin.l0 k y0 y1 y2 y3 y4 y5 y6 y7) (impl_PairsWithin.l0 (k + 1) y0 y1 y2 y3 y4 y5 y6 y7)) ∧ (∀ y0 y1 y2 y3 y4 y5 y6 y7 y8 y9 y10 y11 y12, LeO (impl_PairsWithin.l1 k y0 y1 y2 y3 y4 y5 y6 y7 y8 y9 y10 y11 y12) (impl_PairsWithin.l1 (k + 1) y0 y1 y2 y3 y4 y5 y6 y7 y8 y9 y10 y11 y12))
  | 0 => ⟨fun _ _ _ _ _ r h => by simp [impl_PairsWithin.j0] at h, fun _ _ _ _ _ _ _ _ r h => by simp [impl_PairsWithin.l0] at h, fun _ _ _ _ _ _ _ _ _ _ _ _ _ r h => by simp [impl_PairsWithin.l1] at h⟩
  | k + 1 => by
    obtain ⟨ih0, ih1, ih2⟩ := impl_PairsWithin.mono_l k
    refine ⟨?_, ?_, ?_⟩
    · intro y0 y1 y2 y3 y4
      unfold impl_PairsWithin.j0
      repeat' first
      | (with_reducible exact ih0 _ _ _ _ _)
      | (with_reducible exact ih1 _ _ _ _ _ _ _ _)
      | (with_reducible exact ih2 _ _ _ _ _ _ _ _ _ _ _ _ _)
      | (with_reducible exact impl_IsTier.mono _ _)
      | (with_reducible exact impl_fits.mono _ _ _)
      | (with_reducible exact impl_isGlossPattern.mono _ _)
      | (with_reducible exact LeO.refl _)
      | (with_reducible exact LeO.none _)
      | (with_reducible refine LeO.ite ?_ ?_)
      | (with_reducible refine LeO.bind ?_ (fun _ => ?_))
      | exact ih0 _ _ _ _ _
      | exact ih1 _ _ _ _ _ _ _ _
      | exact ih2 _ _ _ _ _ _ _ _ _ _ _ _ _
      | exact impl_IsTier.mono _ _
      | exact impl_fits.mono _ _ _
      | exact impl_isGlossPattern.mono _ _
      | exact LeO.none _
      | refine LeO.ite ?_ ?_
      | refine LeO.bind ?_ (fun _ => ?_)
    · intro y0 y1 y2 y3 y4 y5 y6 y7
      unfold impl_PairsWithin.l0
      repeat' first
      | (with_reducible exact ih0 _ _ _ _ _)
      | (with_reducible exact ih1 _ _ _ _ _ _ _ _)
      | (with_reducible exact ih2 _ _ _ _ _ _ _ _ _ _ _ _ _)
      | (with_reducible exact impl_IsTier.mono _ _)
      | (with_reducible exact impl_fits.mono _ _ _)
      | (with_reducible exact impl_isGlossPattern.mono _ _)
      | (with_reducible exact LeO.refl _)
      | (with_reducible exact LeO.none _)
      | (with_reducible refine LeO.ite ?_ ?_)
      | (with_reducible refine LeO.bind ?_ (fun _ => ?_))
      | exact ih0 _ _ _ _ _
      | exact ih1 _ _ _ _ _ _ _ _
      | exact ih2 _ _ _ _ _ _ _ _ _ _ _ _ _
      | exact impl_IsTier.mono _ _
      | exact impl_fits.mono _ _ _
      | exact impl_isGlossPattern.mono _ _
      | exact LeO.none _
      | refine LeO.ite ?_ ?_
      | refine LeO.bind ?_ (fun _ => ?_)
    · intro y0 y1 y2 y3 y4 y5 y6 y7 y8 y9 y10 y11 y12
      unfold impl_PairsWithin.l1
      repeat' first
      | (with_reducible exact ih0 _ _ _ _ _)
      | (with_reducible exact ih1 _ _ _ _ _ _ _ _)
      | (with_reducible exact ih2 _ _ _ _ _ _ _ _ _ _ _ _ _)
      | (with_reducible exact impl_IsTier.mono _ _)
      | (with_reducible exact impl_fits.mono _ _ _)
      | (with_reducible exact impl_isGlossPattern.mono _ _)
      | (with_reducible exact LeO.refl _)
      | (with_reducible exact LeO.none _)
      | (with_reducible refine LeO.ite ?_ ?_)
      | (with_reducible refine LeO.bind ?_ (fun _ => ?_))
      | exact ih0 _ _ _ _ _
      | exact ih1 _ _ _ _ _ _ _ _
      | exact ih2 _ _ _ _ _ _ _ _ _ _ _ _ _
      | exact impl_IsTier.mono _ _
      | exact impl_fits.mono _ _ _
      | exact impl_isGlossPattern.mono _ _
      | exact LeO.none _
      | refine LeO.ite ?_ ?_
      | refine LeO.bind ?_ (fun _ => ?_)
theorem impl_PairsWithin.mono : ∀ a0 a1 a2 a3 k, LeO (impl_PairsWithin.f k a0 a1 a2 a3) (impl_PairsWithin.f (k + 1) a0 a1 a2 a3) := by
  intro a0 a1 a2 a3 k
  obtain ⟨ih0, ih1, ih2⟩ := impl_PairsWithin.mono_l k
  unfold impl_PairsWithin.f
  repeat' first
      | (with_reducible exact ih0 _ _ _ _ _)
      | (with_reducible exact ih1 _ _ _ _ _ _ _ _)
      | (with_reducible exact ih2 _ _ _ _ _ _ _ _ _ _ _ _ _)
      | (with_reducible exact impl_IsTier.mono _ _)
      | (with_reducible exact impl_fits.mono _ _ _)
      | (with_reducible exact impl_isGlossPattern.mono _ _)
      | (with_reducible exact LeO.refl _)
      | (with_reducible exact LeO.none _)
      | (with_reducible refine LeO.ite ?_ ?_)
      | (with_reducible refine LeO.bind ?_ (fun _ => ?_))
      | exact ih0 _ _ _ _ _
      | exact ih1 _ _ _ _ _ _ _ _
      | exact ih2 _ _ _ _ _ _ _ _ _ _ _ _ _
      | exact impl_IsTier.mono _ _
      | exact impl_fits.mono _ _ _
      | exact impl_isGlossPattern.mono _ _
      | exact LeO.none _
      | refine LeO.ite ?_ ?_
      | refine LeO.bind ?_ (fun _ => ?_)
noncomputable def impl_PairsWithin.J0 (x0 : List (S66)) (x1 : ByteArray) (x2 : ByteArray) (x3 : Int) (x31 : Bool) : Option ((List (List Int)) × Bool) := lim fun k => impl_PairsWithin.j0 k x0 x1 x2 x3 x31
theorem impl_PairsWithin.J0_lim (x0 : List (S66)) (x1 : ByteArray) (x2 : ByteArray) (x3 : Int) (x31 : Bool) : Lim (fun k => impl_PairsWithin.j0 k x0 x1 x2 x3 x31) (impl_PairsWithin.J0 x0 x1 x2 x3 x31) := ⟨fun k => (impl_PairsWithin.mono_l k).1 x0 x1 x2 x3 x31, rfl⟩
noncomputable def impl_PairsWithin.L0 (x0 : List (S66)) (x1 : ByteArray) (x2 : ByteArray) (x3 : Int) (x10 : List (List Int)) (x32 : List (S66)) (x33 : Int) (x34 : Int) : Option ((List (List Int)) × Bool) := lim fun k => impl_PairsWithin.l0 k x0 x1 x2 x3 x10 x32 x33 x34
theorem impl_PairsWithin.L0_lim (x0 : List (S66)) (x1 : ByteArray) (x2 : ByteArray) (x3 : Int) (x10 : List (List Int)) (x32 : List (S66)) (x33 : Int) (x34 : Int) : Lim (fun k => impl_PairsWithin.l0 k x0 x1 x2 x3 x10 x32 x33 x34) (impl_PairsWithin.L0 x0 x1 x2 x3 x10 x32 x33 x34) := ⟨fun k => (impl_PairsWithin.mono_l k).2.1 x0 x1 x2 x3 x10 x32 x33 x34, rfl⟩
noncomputable def impl_PairsWithin.L1 (x0 : List (S66)) (x1 : ByteArray) (x2 : ByteArray) (x3 : Int) (x10 : List (List Int)) (x11 : Int) (x13 : Int) (x32 : List (S66)) (x33 : Int) (x34 : Int) (x205000 : Int) (x205001 : Int) (x205002 : ByteArray) : Option ((List (List Int)) × Bool) := lim fun k => impl_PairsWithin.l1 k x0 x1 x2 x3 x10 x11 x13 x32 x33 x34 x205000 x205001 x205002
theorem impl_PairsWithin.L1_lim (x0 : List (S66)) (x1 : ByteArray) (x2 : ByteArray) (x3 : Int) (x10 : List (List Int)) (x11 : Int) (x13 : Int) (x32 : List (S66)) (x33 : Int) (x34 : Int) (x205000 : Int) (x205001 : Int) (x205002 : ByteArray) : Lim (fun k => impl_PairsWithin.l1 k x0 x1 x2 x3 x10 x11 x13 x32 x33 x34 x205000 x205001 x205002) (impl_PairsWithin.L1 x0 x1 x2 x3 x10 x11 x13 x32 x33 x34 x205000 x205001 x205002) := ⟨fun k => (impl_PairsWithin.mono_l k).2.2 x0 x1 x2 x3 x10 x11 x13 x32 x33 x34 x205000 x205001 x205002, rfl⟩
noncomputable def impl_PairsWithin.F (l0 : List (S66)) (a1 : ByteArray) (a2 : ByteArray) (a3 : Int) : Option ((List (List Int)) × Bool) := lim fun k => impl_PairsWithin.f k l0 a1 a2 a3
theorem impl_PairsWithin.F_lim (l0 : List (S66)) (a1 : ByteArray) (a2 : ByteArray) (a3 : Int) : Lim (fun k => impl_PairsWithin.f k l0 a1 a2 a3) (impl_PairsWithin.F l0 a1 a2 a3) := ⟨impl_PairsWithin.mono l0 a1 a2 a3, rfl⟩
theorem impl_PairsWithin.J0_eq (x0 : List (S66)) (x1 : ByteArray) (x2 : ByteArray) (x3 : Int) (x31 : Bool) : impl_PairsWithin.J0 x0 x1 x2 x3 x31 = (if x31 = true then (some (([] : List (List Int)), false)) else (impl_PairsWithin.L0 x0 x1 x2 x3 ([] : List (List Int)) x0 (x0.length : Int) 0)) := by
  refine Lim.succ_eq (impl_PairsWithin.J0_lim x0 x1 x2 x3 x31).mon ?_
  simp only [impl_PairsWithin.j0]
  repeat' first
  | (with_reducible exact impl_PairsWithin.J0_lim _ _ _ _ _)
  | (with_reducible exact impl_PairsWithin.L0_lim _ _ _ _ _ _ _ _)
  | (with_reducible exact impl_PairsWithin.L1_lim _ _ _ _ _ _ _ _ _ _ _ _ _)
  | (with_reducible exact impl_IsTier.F_lim _)
  | (with_reducible exact impl_fits.F_lim _ _)
  | (with_reducible exact impl_isGlossPattern.F_lim _)
  | (with_reducible refine Lim.ite ?_ ?_)
  | (with_reducible refine Lim.bind ?_ (fun _ => ?_))
  | (with_reducible exact Lim.const _)
theorem impl_PairsWithin.L0_eq (x0 : List (S66)) (x1 : ByteArray) (x2 : ByteArray) (x3 : Int) (x10 : List (List Int)) (x32 : List (S66)) (x33 : Int) (x34 : Int) : impl_PairsWithin.L0 x0 x1 x2 x3 x10 x32 x33 x34 = (if x34 < x33 then (if 0 ≤ x34 then (if x34 < (x32.length : Int) then (impl_PairsWithin.L1 x0 x1 x2 x3 x10 x34 (wrap64 (x34 + 1)) x32 x33 x34 ((rd_T66 x32 x34).f0) ((rd_T66 x32 x34).f1) ((rd_T66 x32 x34).f2)) else (none)) else (none)) else (some (x10, true))) := by
  refine Lim.succ_eq (impl_PairsWithin.L0_lim x0 x1 x2 x3 x10 x32 x33 x34).mon ?_
  simp only [impl_PairsWithin.l0]
  repeat' first
  | (with_reducible exact impl_PairsWithin.J0_lim _ _ _ _ _)
  | (with_reducible exact impl_PairsWithin.L0_lim _ _ _ _ _ _ _ _)
  | (with_reducible exact impl_PairsWithin.L1_lim _ _ _ _ _ _ _ _ _ _ _ _ _)
  | (with_reducible exact impl_IsTier.F_lim _)
  | (with_reducible exact impl_fits.F_lim _ _)
  | (with_reducible exact impl_isGlossPattern.F_lim _)
  | (with_reducible refine Lim.ite ?_ ?_)
  | (with_reducible refine Lim.bind ?_ (fun _ => ?_))
  | (with_reducible exact Lim.const _)
theorem impl_PairsWithin.L1_eq (x0 : List (S66)) (x1 : ByteArray) (x2 : ByteArray) (x3 : Int) (x10 : List (List Int)) (x11 : Int) (x13 : Int) (x32 : List (S66)) (x33 : Int) (x34 : Int) (x205000 : Int) (x205001 : Int) (x205002 : ByteArray) : impl_PairsWithin.L1 x0 x1 x2 x3 x10 x11 x13 x32 x33 x34 x205000 x205001 x205002 = (if x13 < (x0.length : Int) then ((impl_fits.F x1 x205002).bind fun t205 => (if t205 = true then (if 0 ≤ x13 then ((impl_fits.F x2 ((rd_T66 x0 x13).f2)).bind fun t207 => (if t207 = true then (if (wrap64 (((rd_T66 x0 x13).f0) - x205001)) ≤ x3 then (if x10.length < 5864062014805 then (impl_PairsWithin.L1 x0 x1 x2 x3 (x10 ++ [(([x11, x13] : List Int))]) x11 (wrap64 (x13 + 1)) x32 x33 x34 x205000 x205001 x205002) else (none)) else (impl_PairsWithin.L1 x0 x1 x2 x3 x10 x11 (wrap64 (x13 + 1)) x32 x33 x34 x205000 x205001 x205002)) else (impl_PairsWithin.L1 x0 x1 x2 x3 x10 x11 (wrap64 (x13 + 1)) x32 x33 x34 x205000 x205001 x205002))) else (none)) else (impl_PairsWithin.L1 x0 x1 x2 x3 x10 x11 (wrap64 (x13 + 1)) x32 x33 x34 x205000 x205001 x205002))) else (impl_PairsWithin.L0 x0 x1 x2 x3 x10 x32 x33 (wrap64 (x34 + 1)))) := by
  refine Lim.succ_eq (impl_PairsWithin.L1_lim x0 x1 x2 x3 x10 x11 x13 x32 x33 x34 x205000 x205001 x205002).mon ?_
  simp only [impl_PairsWithin.l1]
  repeat' first
  | (with_reducible exact impl_PairsWithin.J0_lim _ _ _ _ _)
  | (with_reducible exact impl_PairsWithin.L0_lim _ _ _ _ _ _ _ _)
  | (with_reducible exact impl_PairsWithin.L1_lim _ _ _ _ _ _ _ _ _ _ _ _ _)
  | (with_reducible exact impl_IsTier.F_lim _)
  | (with_reducible exact impl_fits.F_lim _ _)
  | (with_reducible exact impl_isGlossPattern.F_lim _)
  | (with_reducible refine Lim.ite ?_ ?_)
  | (with_reducible refine Lim.bind ?_ (fun _ => ?_))
  | (with_reducible exact Lim.const _)
theorem impl_PairsWithin.F_eq (l0 : List (S66)) (a1 : ByteArray) (a2 : ByteArray) (a3 : Int) : impl_PairsWithin.F l0 a1 a2 a3 = ((impl_IsTier.F l0).bind fun t199 => (if t199 = true then ((impl_isGlossPattern.F a1).bind fun t200 => (if t200 = true then ((impl_isGlossPattern.F a2).bind fun t201 => (if t201 = true then ((impl_isFrame.f a3).bind fun t202 => (impl_PairsWithin.J0 l0 a1 a2 a3 (!t202))) else (impl_PairsWithin.J0 l0 a1 a2 a3 true))) else (impl_PairsWithin.J0 l0 a1 a2 a3 true))) else (impl_PairsWithin.J0 l0 a1 a2 a3 true))) := by
  refine Lim.eq_ ?_
  simp only [impl_PairsWithin.f]
  repeat' first
  | (with_reducible exact impl_PairsWithin.J0_lim _ _ _ _ _)
  | (with_reducible exact impl_PairsWithin.L0_lim _ _ _ _ _ _ _ _)
  | (with_reducible exact impl_PairsWithin.L1_lim _ _ _ _ _ _ _ _ _ _ _ _ _)
  | (with_reducible exact impl_IsTier.F_lim _)
  | (with_reducible exact impl_fits.F_lim _ _)
  | (with_reducible exact impl_isGlossPattern.F_lim _)
  | (with_reducible refine Lim.ite ?_ ?_)
  | (with_reducible refine Lim.bind ?_ (fun _ => ?_))
  | (with_reducible exact Lim.const _)
mutual
def laws_FnExactPairsWithin.j0 : Nat → List (S81) → ByteArray → ByteArray → Int → List (List Int) → Bool → List (S66) → List (List Int) → Bool → Bool → Option (Bool)
  | 0, _, _, _, _, _, _, _, _, _, _ => none
  | k + 1, x0, x1, x2, x3, x10, x11, x12, x13, x14, x58 => if x58 = true then (some false) else ((laws_toNoteS.f k x0).bind fun t231 => ((laws_eqNoteS.f k x12 t231).bind fun t234 => (if t234 = true then ((laws_markNoteS.f k x12 1).bind fun bt235 => (if bt235.1 < 0 then (laws_FnExactPairsWithin.j1 k x0 x1 x2 x3 x10 x11 x13 true) else ((laws_eqIntSS.f k x13 x10).bind fun t237 => (if t237 = true then (laws_FnExactPairsWithin.j1 k x0 x1 x2 x3 x10 x11 x13 (x14 != x11)) else (laws_FnExactPairsWithin.j1 k x0 x1 x2 x3 x10 x11 x13 true))))) else (some false))))
def laws_FnExactPairsWithin.j1 : Nat → List (S81) → ByteArray → ByteArray → Int → List (List Int) → Bool → List (List Int) → Bool → Option (Bool)
  | 0, _, _, _, _, _, _, _, _ => none
  | k + 1, x0, x1, x2, x3, x10, x11, x13, x79 => if x79 = true then (some false) else ((laws_markIntSS.f x13 1).bind fun bt238 => ((laws_heldIntSS.f k bt238.2 1).bind fun t240 => (if t240 < 0 then (some false) else (if t240 = bt238.1 then ((laws_toNoteS.f k x0).bind fun t241 => ((impl_PairsWithin.f k t241 x1 x2 x3).bind fun bt244 => ((laws_eqIntSS.f k bt244.1 x10).bind fun t248 => (if t248 = true then (laws_FnExactPairsWithin.j2 k bt238.2 bt238.1 (bt244.2 != x11)) else (laws_FnExactPairsWithin.j2 k bt238.2 bt238.1 true))))) else (some false)))))
def laws_FnExactPairsWithin.j2 : Nat → List (List Int) → Int → Bool → Option (Bool)
  | 0, _, _, _ => none
  | k + 1, x13, x16, x108 => if x108 = true then (some false) else ((laws_heldIntSS.f k x13 1).bind fun t249 => (if t249 < 0 then (some false) else (if t249 = x16 then (some true) else (some false))))
end
def laws_FnExactPairsWithin.f (k : Nat) (l0 : List (S81)) (a1 : ByteArray) (a2 : ByteArray) (a3 : Int) : Option (Bool) := if (a1.size : Int) > 1048576 then (some true) else (if (a2.size : Int) > 1048576 then (some true) else ((laws_szNoteS.f k l0 1048576).bind fun t215 => (if t215 < 0 then (some true) else ((laws_toNoteS.f k l0).bind fun t216 => ((spec_PairsWithin.f k t216 a1 a2 a3).bind fun bt219 => ((laws_toNoteS.f k l0).bind fun t223 => ((impl_PairsWithin.f k t223 a1 a2 a3).bind fun bt226 => ((laws_eqIntSS.f k bt226.1 bt219.1).bind fun t230 => (if t230 = true then (laws_FnExactPairsWithin.j0 k l0 a1 a2 a3 bt219.1 bt219.2 t223 bt226.1 bt226.2 (bt226.2 != bt219.2)) else (laws_FnExactPairsWithin.j0 k l0 a1 a2 a3 bt219.1 bt219.2 t223 bt226.1 bt226.2 true))))))))))
theorem laws_FnExactPairsWithin.mono_l : ∀ k, (∀ y0 y1 y2 y3 y4 y5 y6 y7 y8 y9, LeO (laws_FnExactPairsWithin.j0 k y0 y1 y2 y3 y4 y5 y6 y7 y8 y9) (laws_FnExactPairsWithin.j0 (k + 1) y0 y1 y2 y3 y4 y5 y6 y7 y8 y9)) ∧ (∀ y0 y1 y2 y3 y4 y5 y6 y7, LeO (laws_FnExactPairsWithin.j1 k y0 y1 y2 y3 y4 y5 y6 y7) (laws_FnExactPairsWithin.j1 (k + 1) y0 y1 y2 y3 y4 y5 y6 y7)) ∧ (∀ y0 y1 y2, LeO (laws_FnExactPairsWithin.j2 k y0 y1 y2) (laws_FnExactPairsWithin.j2 (k + 1) y0 y1 y2))
  | 0 => ⟨fun _ _ _ _ _ _ _ _ _ _ r h => by simp [laws_FnExactPairsWithin.j0] at h, fun _ _ _ _ _ _ _ _ r h => by simp [laws_FnExactPairsWithin.j1] at h, fun _ _ _ r h => by simp [laws_FnExactPairsWithin.j2] at h⟩
  | k + 1 => by
    obtain ⟨ih0, ih1, ih2⟩ := laws_FnExactPairsWithin.mono_l k
    refine ⟨?_, ?_, ?_⟩
    · intro y0 y1 y2 y3 y4 y5 y6 y7 y8 y9
      unfold laws_FnExactPairsWithin.j0
      repeat' first
      | (with_reducible exact ih0 _ _ _ _ _ _ _ _ _ _)
      | (with_reducible exact ih1 _ _ _ _ _ _ _ _)
      | (with_reducible exact ih2 _ _ _)
      | (with_reducible exact impl_PairsWithin.mono _ _ _ _ _)
      | (with_reducible exact laws_eqIntSS.mono _ _ _)
      | (with_reducible exact laws_eqNoteS.mono _ _ _)
      | (with_reducible exact laws_heldIntSS.mono _ _ _)
      | (with_reducible exact laws_markNoteS.mono _ _ _)
      | (with_reducible exact laws_szNoteS.mono _ _ _)
      | (with_reducible exact laws_toNoteS.mono _ _)
      | (with_reducible exact spec_PairsWithin.mono _ _ _ _ _)
      | (with_reducible exact LeO.refl _)
      | (with_reducible exact LeO.none _)
      | (with_reducible refine LeO.ite ?_ ?_)
      | (with_reducible refine LeO.bind ?_ (fun _ => ?_))
      | exact ih0 _ _ _ _ _ _ _ _ _ _
      | exact ih1 _ _ _ _ _ _ _ _
      | exact ih2 _ _ _
      | exact impl_PairsWithin.mono _ _ _ _ _
      | exact laws_eqIntSS.mono _ _ _
      | exact laws_eqNoteS.mono _ _ _
      | exact laws_heldIntSS.mono _ _ _
      | exact laws_markNoteS.mono _ _ _
      | exact laws_szNoteS.mono _ _ _
      | exact laws_toNoteS.mono _ _
      | exact spec_PairsWithin.mono _ _ _ _ _
      | exact LeO.none _
      | refine LeO.ite ?_ ?_
      | refine LeO.bind ?_ (fun _ => ?_)
    · intro y0 y1 y2 y3 y4 y5 y6 y7
      unfold laws_FnExactPairsWithin.j1
      repeat' first
      | (with_reducible exact ih0 _ _ _ _ _ _ _ _ _ _)
      | (with_reducible exact ih1 _ _ _ _ _ _ _ _)
      | (with_reducible exact ih2 _ _ _)
      | (with_reducible exact impl_PairsWithin.mono _ _ _ _ _)
      | (with_reducible exact laws_eqIntSS.mono _ _ _)
      | (with_reducible exact laws_eqNoteS.mono _ _ _)
      | (with_reducible exact laws_heldIntSS.mono _ _ _)
      | (with_reducible exact laws_markNoteS.mono _ _ _)
      | (with_reducible exact laws_szNoteS.mono _ _ _)
      | (with_reducible exact laws_toNoteS.mono _ _)
      | (with_reducible exact spec_PairsWithin.mono _ _ _ _ _)
      | (with_reducible exact LeO.refl _)
      | (with_reducible exact LeO.none _)
      | (with_reducible refine LeO.ite ?_ ?_)
      | (with_reducible refine LeO.bind ?_ (fun _ => ?_))
      | exact ih0 _ _ _ _ _ _ _ _ _ _
      | exact ih1 _ _ _ _ _ _ _ _
      | exact ih2 _ _ _
      | exact impl_PairsWithin.mono _ _ _ _ _
      | exact laws_eqIntSS.mono _ _ _
      | exact laws_eqNoteS.mono _ _ _
      | exact laws_heldIntSS.mono _ _ _
      | exact laws_markNoteS.mono _ _ _
      | exact laws_szNoteS.mono _ _ _
      | exact laws_toNoteS.mono _ _
      | exact spec_PairsWithin.mono _ _ _ _ _
      | exact LeO.none _
      | refine LeO.ite ?_ ?_
      | refine LeO.bind ?_ (fun _ => ?_)
    · intro y0 y1 y2
      unfold laws_FnExactPairsWithin.j2
      repeat' first
      | (with_reducible exact ih0 _ _ _ _ _ _ _ _ _ _)
      | (with_reducible exact ih1 _ _ _ _ _ _ _ _)
      | (with_reducible exact ih2 _ _ _)
      | (with_reducible exact impl_PairsWithin.mono _ _ _ _ _)
      | (with_reducible exact laws_eqIntSS.mono _ _ _)
      | (with_reducible exact laws_eqNoteS.mono _ _ _)
      | (with_reducible exact laws_heldIntSS.mono _ _ _)
      | (with_reducible exact laws_markNoteS.mono _ _ _)
      | (with_reducible exact laws_szNoteS.mono _ _ _)
      | (with_reducible exact laws_toNoteS.mono _ _)
      | (with_reducible exact spec_PairsWithin.mono _ _ _ _ _)
      | (with_reducible exact LeO.refl _)
      | (with_reducible exact LeO.none _)
      | (with_reducible refine LeO.ite ?_ ?_)
      | (with_reducible refine LeO.bind ?_ (fun _ => ?_))
      | exact ih0 _ _ _ _ _ _ _ _ _ _
      | exact ih1 _ _ _ _ _ _ _ _
      | exact ih2 _ _ _
      | exact impl_PairsWithin.mono _ _ _ _ _
      | exact laws_eqIntSS.mono _ _ _
      | exact laws_eqNoteS.mono _ _ _
      | exact laws_heldIntSS.mono _ _ _
      | exact laws_markNoteS.mono _ _ _
      | exact laws_szNoteS.mono _ _ _
      | exact laws_toNoteS.mono _ _
      | exact spec_PairsWithin.mono _ _ _ _ _
      | exact LeO.none _
      | refine LeO.ite ?_ ?_
      | refine LeO.bind ?_ (fun _ => ?_)
theorem laws_FnExactPairsWithin.mono : ∀ a0 a1 a2 a3 k, LeO (laws_FnExactPairsWithin.f k a0 a1 a2 a3) (laws_FnExactPairsWithin.f (k + 1) a0 a1 a2 a3) := by
  intro a0 a1 a2 a3 k
  obtain ⟨ih0, ih1, ih2⟩ := laws_FnExactPairsWithin.mono_l k
  unfold laws_FnExactPairsWithin.f
  repeat' first
      | (with_reducible exact ih0 _ _ _ _ _ _ _ _ _ _)
      | (with_reducible exact ih1 _ _ _ _ _ _ _ _)
      | (with_reducible exact ih2 _ _ _)
      | (with_reducible exact impl_PairsWithin.mono _ _ _ _ _)
      | (with_reducible exact laws_eqIntSS.mono _ _ _)
      | (with_reducible exact laws_eqNoteS.mono _ _ _)
      | (with_reducible exact laws_heldIntSS.mono _ _ _)
      | (with_reducible exact laws_markNoteS.mono _ _ _)
      | (with_reducible exact laws_szNoteS.mono _ _ _)
      | (with_reducible exact laws_toNoteS.mono _ _)
      | (with_reducible exact spec_PairsWithin.mono _ _ _ _ _)
      | (with_reducible exact LeO.refl _)
      | (with_reducible exact LeO.none _)
      | (with_reducible refine LeO.ite ?_ ?_)
      | (with_reducible refine LeO.bind ?_ (fun _ => ?_))
      | exact ih0 _ _ _ _ _ _ _ _ _ _
      | exact ih1 _ _ _ _ _ _ _ _
      | exact ih2 _ _ _
      | exact impl_PairsWithin.mono _ _ _ _ _
      | exact laws_eqIntSS.mono _ _ _
      | exact laws_eqNoteS.mono _ _ _
      | exact laws_heldIntSS.mono _ _ _
      | exact laws_markNoteS.mono _ _ _
      | exact laws_szNoteS.mono _ _ _
      | exact laws_toNoteS.mono _ _
      | exact spec_PairsWithin.mono _ _ _ _ _
      | exact LeO.none _
      | refine LeO.ite ?_ ?_
      | refine LeO.bind ?_ (fun _ => ?_)
noncomputable def laws_FnExactPairsWithin.J0 (x0 : List (S81)) (x1 : ByteArray) (x2 : ByteArray) (x3 : Int) (x10 : List (List Int)) (x11 : Bool) (x12 : List (S66)) (x13 : List (List Int)) (x14 : Bool) (x58 : Bool) : Option (Bool) := lim fun k => laws_FnExactPairsWithin.j0 k x0 x1 x2 x3 x10 x11 x12 x13 x14 x58
theorem laws_FnExactPairsWithin.J0_lim (x0 : List (S81)) (x1 : ByteArray) (x2 : ByteArray) (x3 : Int) (x10 : List (List Int)) (x11 : Bool) (x12 : List (S66)) (x13 : List (List Int)) (x14 : Bool) (x58 : Bool) : Lim (fun k => laws_FnExactPairsWithin.j0 k x0 x1 x2 x3 x10 x11 x12 x13 x14 x58) (laws_FnExactPairsWithin.J0 x0 x1 x2 x3 x10 x11 x12 x13 x14 x58) := ⟨fun k => (laws_FnExactPairsWithin.mono_l k).1 x0 x1 x2 x3 x10 x11 x12 x13 x14 x58, rfl⟩
noncomputable def laws_FnExactPairsWithin.J1 (x0 : List (S81)) (x1 : ByteArray) (x2 : ByteArray) (x3 : Int) (x10 : List (List Int)) (x11 : Bool) (x13 : List (List Int)) (x79 : Bool) : Option (Bool) := lim fun k => laws_FnExactPairsWithin.j1 k x0 x1 x2 x3 x10 x11 x13 x79
theorem laws_FnExactPairsWithin.J1_lim (x0 : List (S81)) (x1 : ByteArray) (x2 : ByteArray) (x3 : Int) (x10 : List (List Int)) (x11 : Bool) (x13 : List (List Int)) (x79 : Bool) : Lim (fun k => laws_FnExactPairsWithin.j1 k x0 x1 x2 x3 x10 x11 x13 x79) (laws_FnExactPairsWithin.J1 x0 x1 x2 x3 x10 x11 x13 x79) := ⟨fun k => (laws_FnExactPairsWithin.mono_l k).2.1 x0 x1 x2 x3 x10 x11 x13 x79, rfl⟩
noncomputable def laws_FnExactPairsWithin.J2 (x13 : List (List Int)) (x16 : Int) (x108 : Bool) : Option (Bool) := lim fun k => laws_FnExactPairsWithin.j2 k x13 x16 x108
theorem laws_FnExactPairsWithin.J2_lim (x13 : List (List Int)) (x16 : Int) (x108 : Bool) : Lim (fun k => laws_FnExactPairsWithin.j2 k x13 x16 x108) (laws_FnExactPairsWithin.J2 x13 x16 x108) := ⟨fun k => (laws_FnExactPairsWithin.mono_l k).2.2 x13 x16 x108, rfl⟩
noncomputable def laws_FnExactPairsWithin.F (l0 : List (S81)) (a1 : ByteArray) (a2 : ByteArray) (a3 : Int) : Option (Bool) := lim fun k => laws_FnExactPairsWithin.f k l0 a1 a2 a3
theorem laws_FnExactPairsWithin.F_lim (l0 : List (S81)) (a1 : ByteArray) (a2 : ByteArray) (a3 : Int) : Lim (fun k => laws_FnExactPairsWithin.f k l0 a1 a2 a3) (laws_FnExactPairsWithin.F l0 a1 a2 a3) := ⟨laws_FnExactPairsWithin.mono l0 a1 a2 a3, rfl⟩
theorem laws_FnExactPairsWithin.J0_eq (x0 : List (S81)) (x1 : ByteArray) (x2 : ByteArray) (x3 : Int) (x10 : List (List Int)) (x11 : Bool) (x12 : List (S66)) (x13 : List (List Int)) (x14 : Bool) (x58 : Bool) : laws_FnExactPairsWithin.J0 x0 x1 x2 x3 x10 x11 x12 x13 x14 x58 = (if x58 = true then (some false) else ((laws_toNoteS.F x0).bind fun t231 => ((laws_eqNoteS.F x12 t231).bind fun t234 => (if t234 = true then ((laws_markNoteS.F x12 1).bind fun bt235 => (if bt235.1 < 0 then (laws_FnExactPairsWithin.J1 x0 x1 x2 x3 x10 x11 x13 true) else ((laws_eqIntSS.F x13 x10).bind fun t237 => (if t237 = true then (laws_FnExactPairsWithin.J1 x0 x1 x2 x3 x10 x11 x13 (x14 != x11)) else (laws_FnExactPairsWithin.J1 x0 x1 x2 x3 x10 x11 x13 true))))) else (some false))))) := by
  refine Lim.succ_eq (laws_FnExactPairsWithin.J0_lim x0 x1 x2 x3 x10 x11 x12 x13 x14 x58).mon ?_
  simp only [laws_FnExactPairsWithin.j0]
  repeat' first
  | (with_reducible exact laws_FnExactPairsWithin.J0_lim _ _ _ _ _ _ _ _ _ _)
  | (with_reducible exact laws_FnExactPairsWithin.J1_lim _ _ _ _ _ _ _ _)
  | (with_reducible exact laws_FnExactPairsWithin.J2_lim _ _ _)
  | (with_reducible exact impl_PairsWithin.F_lim _ _ _ _)
  | (with_reducible exact laws_eqIntSS.F_lim _ _)
  | (with_reducible exact laws_eqNoteS.F_lim _ _)
  | (with_reducible exact laws_heldIntSS.F_lim _ _)
  | (with_reducible exact laws_markNoteS.F_lim _ _)
  | (with_reducible exact laws_szNoteS.F_lim _ _)
  | (with_reducible exact laws_toNoteS.F_lim _)
  | (with_reducible exact spec_PairsWithin.F_lim _ _ _ _)
  | (with_reducible refine Lim.ite ?_ ?_)
  | (with_reducible refine Lim.bind ?_ (fun _ => ?_))
  | (with_reducible exact Lim.const _)
theorem laws_FnExactPairsWithin.J1_eq (x0 : List (S81)) (x1 : ByteArray) (x2 : ByteArray) (x3 : Int) (x10 : List (List Int)) (x11 : Bool) (x13 : List (List Int)) (x79 : Bool) : laws_FnExactPairsWithin.J1 x0 x1 x2 x3 x10 x11 x13 x79 = (if x79 = true then (some false) else ((laws_markIntSS.f x13 1).bind fun bt238 => ((laws_heldIntSS.F bt238.2 1).bind fun t240 => (if t240 < 0 then (some false) else (if t240 = bt238.1 then ((laws_toNoteS.F x0).bind fun t241 => ((impl_PairsWithin.F t241 x1 x2 x3).bind fun bt244 => ((laws_eqIntSS.F bt244.1 x10).bind fun t248 => (if t248 = true then (laws_FnExactPairsWithin.J2 bt238.2 bt238.1 (bt244.2 != x11)) else (laws_FnExactPairsWithin.J2 bt238.2 bt238.1 true))))) else (some false)))))) := by
  refine Lim.succ_eq (laws_FnExactPairsWithin.J1_lim x0 x1 x2 x3 x10 x11 x13 x79).mon ?_
  simp only [laws_FnExactPairsWithin.j1]
  repeat' first
  | (with_reducible exact laws_FnExactPairsWithin.J0_lim _ _ _ _ _ _ _ _ _ _)
  | (with_reducible exact laws_FnExactPairsWithin.J1_lim _ _ _ _ _ _ _ _)
  | (with_reducible exact laws_FnExactPairsWithin.J2_lim _ _ _)
  | (with_reducible exact impl_PairsWithin.F_lim _ _ _ _)
  | (with_reducible exact laws_eqIntSS.F_lim _ _)
  | (with_reducible exact laws_eqNoteS.F_lim _ _)
  | (with_reducible exact laws_heldIntSS.F_lim _ _)
  | (with_reducible exact laws_markNoteS.F_lim _ _)
  | (with_reducible exact laws_szNoteS.F_lim _ _)
  | (with_reducible exact laws_toNoteS.F_lim _)
  | (with_reducible exact spec_PairsWithin.F_lim _ _ _ _)
  | (with_reducible refine Lim.ite ?_ ?_)
  | (with_reducible refine Lim.bind ?_ (fun _ => ?_))
  | (with_reducible exact Lim.const _)
theorem laws_FnExactPairsWithin.J2_eq (x13 : List (List Int)) (x16 : Int) (x108 : Bool) : laws_FnExactPairsWithin.J2 x13 x16 x108 = (if x108 = true then (some false) else ((laws_heldIntSS.F x13 1).bind fun t249 => (if t249 < 0 then (some false) else (if t249 = x16 then (some true) else (some false))))) := by
  refine Lim.succ_eq (laws_FnExactPairsWithin.J2_lim x13 x16 x108).mon ?_
  simp only [laws_FnExactPairsWithin.j2]
  repeat' first
  | (with_reducible exact laws_FnExactPairsWithin.J0_lim _ _ _ _ _ _ _ _ _ _)
  | (with_reducible exact laws_FnExactPairsWithin.J1_lim _ _ _ _ _ _ _ _)
  | (with_reducible exact laws_FnExactPairsWithin.J2_lim _ _ _)
  | (with_reducible exact impl_PairsWithin.F_lim _ _ _ _)
  | (with_reducible exact laws_eqIntSS.F_lim _ _)
  | (with_reducible exact laws_eqNoteS.F_lim _ _)
  | (with_reducible exact laws_heldIntSS.F_lim _ _)
  | (with_reducible exact laws_markNoteS.F_lim _ _)
  | (with_reducible exact laws_szNoteS.F_lim _ _)
  | (with_reducible exact laws_toNoteS.F_lim _)
  | (with_reducible exact spec_PairsWithin.F_lim _ _ _ _)
  | (with_reducible refine Lim.ite ?_ ?_)
  | (with_reducible refine Lim.bind ?_ (fun _ => ?_))
  | (with_reducible exact Lim.const _)
theorem laws_FnExactPairsWithin.F_eq (l0 : List (S81)) (a1 : ByteArray) (a2 : ByteArray) (a3 : Int) : laws_FnExactPairsWithin.F l0 a1 a2 a3 = (if (a1.size : Int) > 1048576 then (some true) else (if (a2.size : Int) > 1048576 then (some true) else ((laws_szNoteS.F l0 1048576).bind fun t215 => (if t215 < 0 then (some true) else ((laws_toNoteS.F l0).bind fun t216 => ((spec_PairsWithin.F t216 a1 a2 a3).bind fun bt219 => ((laws_toNoteS.F l0).bind fun t223 => ((impl_PairsWithin.F t223 a1 a2 a3).bind fun bt226 => ((laws_eqIntSS.F bt226.1 bt219.1).bind fun t230 => (if t230 = true then (laws_FnExactPairsWithin.J0 l0 a1 a2 a3 bt219.1 bt219.2 t223 bt226.1 bt226.2 (bt226.2 != bt219.2)) else (laws_FnExactPairsWithin.J0 l0 a1 a2 a3 bt219.1 bt219.2 t223 bt226.1 bt226.2 true))))))))))) := by
  refine Lim.eq_ ?_
  simp only [laws_FnExactPairsWithin.f]
  repeat' first
  | (with_reducible exact laws_FnExactPairsWithin.J0_lim _ _ _ _ _ _ _ _ _ _)
  | (with_reducible exact laws_FnExactPairsWithin.J1_lim _ _ _ _ _ _ _ _)
  | (with_reducible exact laws_FnExactPairsWithin.J2_lim _ _ _)
  | (with_reducible exact impl_PairsWithin.F_lim _ _ _ _)
  | (with_reducible exact laws_eqIntSS.F_lim _ _)
  | (with_reducible exact laws_eqNoteS.F_lim _ _)
  | (with_reducible exact laws_heldIntSS.F_lim _ _)
  | (with_reducible exact laws_markNoteS.F_lim _ _)
  | (with_reducible exact laws_szNoteS.F_lim _ _)
  | (with_reducible exact laws_toNoteS.F_lim _)
  | (with_reducible exact spec_PairsWithin.F_lim _ _ _ _)
  | (with_reducible refine Lim.ite ?_ ?_)
  | (with_reducible refine Lim.bind ?_ (fun _ => ?_))
  | (with_reducible exact Lim.const _)
def Wf81 (x : S81) : Prop := (Lit.int .i64 x.f0).wf = true ∧ (Lit.int .i64 x.f1).wf = true ∧ x.f2.size ≤ 9223372036854775807
def laws_FnExactPairsWithin.Pure : Prop := ∀ (l0 : List (S81)) (a1 : ByteArray) (a2 : ByteArray) (a3 : Int), (l0.length ≤ 9223372036854775807 ∧ ∀ y_ ∈ l0, Wf81 y_) → (a1.size ≤ 9223372036854775807) → (a2.size ≤ 9223372036854775807) → ((Lit.int .i64 a3).wf = true) → ∃ k, laws_FnExactPairsWithin.f k l0 a1 a2 a3 = some true
end Go.Proofs.Ytnmgcphajacdnaa.PFnExactPairsWithin
