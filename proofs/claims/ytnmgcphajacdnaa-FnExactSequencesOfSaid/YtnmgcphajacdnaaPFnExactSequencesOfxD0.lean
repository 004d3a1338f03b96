/- Written by a program of this claim's author, out of the loaded program as Lean prints it: the functions as Lean functions, and that the calls answer so. -/
import Derived.Test.YtnmgcphajacdnaaPFnExactSequencesOfx0
namespace Go.Proofs.Ytnmgcphajacdnaa.PFnExactSequencesOf
open Go.RowKit Go.Proofs.YtnmgcphajacdnaaW.PrintWords Go.Proofs.YtnmgcphajacdnaaW.PrintLast Go.Proofs.YtnmgcphajacdnaaW.PrintMore
attribute [local go_sem] max2_int min2_int max_two min_two max_three min_three max_four min_four   -- for this text's walks alone
set_option linter.unusedVariables false
set_option linter.unusedSimpArgs false

def laws_szNote.f (a0_0 : Int) (a0_1 : Int) (a0_2 : ByteArray) (a1 : Int) : Option (Int) := if (wrap64 (a1 - (a0_2.size : Int))) < 0 then (some (-1)) else (some (wrap64 (a1 - (a0_2.size : Int))))
def laws_szNoteS.l0 : Nat → List (S81) → Int → Int → Option (Int)
  | 0, _, _, _ => none
  | k + 1, x0, x1, x5 => if x5 < (x0.length : Int) then (if 0 ≤ x5 then ((laws_szNote.f ((rd_T81 x0 x5).f0) ((rd_T81 x0 x5).f1) ((rd_T81 x0 x5).f2) x1).bind fun t103 => (if t103 < 0 then (some (-1)) else (laws_szNoteS.l0 k x0 t103 (wrap64 (x5 + 1))))) else (none)) else (some x1)
def laws_szNoteS.f (k : Nat) (l0 : List (S81)) (a1 : Int) : Option (Int) := if (wrap64 (a1 - (l0.length : Int))) < 0 then (some (-1)) else (laws_szNoteS.l0 k l0 (wrap64 (a1 - (l0.length : Int))) 0)
theorem laws_szNoteS.mono_l : ∀ k, (∀ y0 y1 y2, LeO (laws_szNoteS.l0 k y0 y1 y2) (laws_szNoteS.l0 (k + 1) y0 y1 y2))
  | 0 => fun _ _ _ r h => by simp [laws_szNoteS.l0] at h
  | k + 1 => by
    have ih0 := laws_szNoteS.mono_l k
    · intro y0 y1 y2
      unfold laws_szNoteS.l0
      repeat' first
      | (with_reducible exact ih0 _ _ _)
      | (with_reducible exact LeO.refl _)
      | (with_reducible exact LeO.none _)
      | (with_reducible refine LeO.ite ?_ ?_)
      | (with_reducible refine LeO.bind ?_ (fun _ => ?_))
      | exact ih0 _ _ _
      | exact LeO.none _
      | refine LeO.ite ?_ ?_
      | refine LeO.bind ?_ (fun _ => ?_)
theorem laws_szNoteS.mono : ∀ a0 a1 k, LeO (laws_szNoteS.f k a0 a1) (laws_szNoteS.f (k + 1) a0 a1) := by
  intro a0 a1 k
  have ih0 := laws_szNoteS.mono_l k
  unfold laws_szNoteS.f
  repeat' first
      | (with_reducible exact ih0 _ _ _)
      | (with_reducible exact LeO.refl _)
      | (with_reducible exact LeO.none _)
      | (with_reducible refine LeO.ite ?_ ?_)
      | (with_reducible refine LeO.bind ?_ (fun _ => ?_))
      | exact ih0 _ _ _
      | exact LeO.none _
      | refine LeO.ite ?_ ?_
      | refine LeO.bind ?_ (fun _ => ?_)
noncomputable def laws_szNoteS.L0 (x0 : List (S81)) (x1 : Int) (x5 : Int) : Option (Int) := lim fun k => laws_szNoteS.l0 k x0 x1 x5
theorem laws_szNoteS.L0_lim (x0 : List (S81)) (x1 : Int) (x5 : Int) : Lim (fun k => laws_szNoteS.l0 k x0 x1 x5) (laws_szNoteS.L0 x0 x1 x5) := ⟨fun k => (laws_szNoteS.mono_l k) x0 x1 x5, rfl⟩
noncomputable def laws_szNoteS.F (l0 : List (S81)) (a1 : Int) : Option (Int) := lim fun k => laws_szNoteS.f k l0 a1
theorem laws_szNoteS.F_lim (l0 : List (S81)) (a1 : Int) : Lim (fun k => laws_szNoteS.f k l0 a1) (laws_szNoteS.F l0 a1) := ⟨laws_szNoteS.mono l0 a1, rfl⟩
theorem laws_szNoteS.L0_eq (x0 : List (S81)) (x1 : Int) (x5 : Int) : laws_szNoteS.L0 x0 x1 x5 = (if x5 < (x0.length : Int) then (if 0 ≤ x5 then ((laws_szNote.f ((rd_T81 x0 x5).f0) ((rd_T81 x0 x5).f1) ((rd_T81 x0 x5).f2) x1).bind fun t103 => (if t103 < 0 then (some (-1)) else (laws_szNoteS.L0 x0 t103 (wrap64 (x5 + 1))))) else (none)) else (some x1)) := by
  refine Lim.succ_eq (laws_szNoteS.L0_lim x0 x1 x5).mon ?_
  simp only [laws_szNoteS.l0]
  repeat' first
  | (with_reducible exact laws_szNoteS.L0_lim _ _ _)
  | (with_reducible refine Lim.ite ?_ ?_)
  | (with_reducible refine Lim.bind ?_ (fun _ => ?_))
  | (with_reducible exact Lim.const _)
theorem laws_szNoteS.F_eq (l0 : List (S81)) (a1 : Int) : laws_szNoteS.F l0 a1 = (if (wrap64 (a1 - (l0.length : Int))) < 0 then (some (-1)) else (laws_szNoteS.L0 l0 (wrap64 (a1 - (l0.length : Int))) 0)) := by
  refine Lim.eq_ ?_
  simp only [laws_szNoteS.f]
  repeat' first
  | (with_reducible exact laws_szNoteS.L0_lim _ _ _)
  | (with_reducible refine Lim.ite ?_ ?_)
  | (with_reducible refine Lim.bind ?_ (fun _ => ?_))
  | (with_reducible exact Lim.const _)
def laws_toNote.f (a0_0 : Int) (a0_1 : Int) (a0_2 : ByteArray) : Option (Int × Int × ByteArray) := some (a0_0, a0_1, a0_2)
def laws_toNoteS.l0 : Nat → List (S81) → List (S66) → Int → Option ((List (S66)))
  | 0, _, _, _ => none
  | k + 1, x0, x3, x4 => if x4 < (x0.length : Int) then (if 0 ≤ x4 then ((laws_toNote.f ((rd_T81 x0 x4).f0) ((rd_T81 x0 x4).f1) ((rd_T81 x0 x4).f2)).bind fun bt111 => (if x4 < (x3.length : Int) then (laws_toNoteS.l0 k x0 (x3.set (x4 : Int).toNat (⟨bt111.1, bt111.2.1, bt111.2.2⟩ : S66)) (wrap64 (x4 + 1))) else (none))) else (none)) else (some x3)
def laws_toNoteS.f (k : Nat) (l0 : List (S81)) : Option ((List (S66))) := if 0 ≤ (l0.length : Int) then (if ((l0.length : Int) : Int).toNat ≤ 8796093022208 then (laws_toNoteS.l0 k l0 (List.replicate ((l0.length : Int) : Int).toNat z66) 0) else (none)) else (none)
theorem laws_toNoteS.mono_l : ∀ k, (∀ y0 y1 y2, LeO (laws_toNoteS.l0 k y0 y1 y2) (laws_toNoteS.l0 (k + 1) y0 y1 y2))
  | 0 => fun _ _ _ r h => by simp [laws_toNoteS.l0] at h
  | k + 1 => by
    have ih0 := laws_toNoteS.mono_l k
    · intro y0 y1 y2
      unfold laws_toNoteS.l0
      repeat' first
      | (with_reducible exact ih0 _ _ _)
      | (with_reducible exact LeO.refl _)
      | (with_reducible exact LeO.none _)
      | (with_reducible refine LeO.ite ?_ ?_)
      | (with_reducible refine LeO.bind ?_ (fun _ => ?_))
      | exact ih0 _ _ _
      | exact LeO.none _
      | refine LeO.ite ?_ ?_
      | refine LeO.bind ?_ (fun _ => ?_)
theorem laws_toNoteS.mono : ∀ a0 k, LeO (laws_toNoteS.f k a0) (laws_toNoteS.f (k + 1) a0) := by
  intro a0 k
  have ih0 := laws_toNoteS.mono_l k
  unfold laws_toNoteS.f
  repeat' first
      | (with_reducible exact ih0 _ _ _)
      | (with_reducible exact LeO.refl _)
      | (with_reducible exact LeO.none _)
      | (with_reducible refine LeO.ite ?_ ?_)
      | (with_reducible refine LeO.bind ?_ (fun _ => ?_))
      | exact ih0 _ _ _
      | exact LeO.none _
      | refine LeO.ite ?_ ?_
      | refine LeO.bind ?_ (fun _ => ?_)
noncomputable def laws_toNoteS.L0 (x0 : List (S81)) (x3 : List (S66)) (x4 : Int) : Option ((List (S66))) := lim fun k => laws_toNoteS.l0 k x0 x3 x4
theorem laws_toNoteS.L0_lim (x0 : List (S81)) (x3 : List (S66)) (x4 : Int) : Lim (fun k => laws_toNoteS.l0 k x0 x3 x4) (laws_toNoteS.L0 x0 x3 x4) := ⟨fun k => (laws_toNoteS.mono_l k) x0 x3 x4, rfl⟩
noncomputable def laws_toNoteS.F (l0 : List (S81)) : Option ((List (S66))) := lim fun k => laws_toNoteS.f k l0
theorem laws_toNoteS.F_lim (l0 : List (S81)) : Lim (fun k => laws_toNoteS.f k l0) (laws_toNoteS.F l0) := ⟨laws_toNoteS.mono l0, rfl⟩
theorem laws_toNoteS.L0_eq (x0 : List (S81)) (x3 : List (S66)) (x4 : Int) : laws_toNoteS.L0 x0 x3 x4 = (if x4 < (x0.length : Int) then (if 0 ≤ x4 then ((laws_toNote.f ((rd_T81 x0 x4).f0) ((rd_T81 x0 x4).f1) ((rd_T81 x0 x4).f2)).bind fun bt111 => (if x4 < (x3.length : Int) then (laws_toNoteS.L0 x0 (x3.set (x4 : Int).toNat (⟨bt111.1, bt111.2.1, bt111.2.2⟩ : S66)) (wrap64 (x4 + 1))) else (none))) else (none)) else (some x3)) := by
  refine Lim.succ_eq (laws_toNoteS.L0_lim x0 x3 x4).mon ?_
  simp only [laws_toNoteS.l0]
  repeat' first
  | (with_reducible exact laws_toNoteS.L0_lim _ _ _)
  | (with_reducible refine Lim.ite ?_ ?_)
  | (with_reducible refine Lim.bind ?_ (fun _ => ?_))
  | (with_reducible exact Lim.const _)
theorem laws_toNoteS.F_eq (l0 : List (S81)) : laws_toNoteS.F l0 = (if 0 ≤ (l0.length : Int) then (if ((l0.length : Int) : Int).toNat ≤ 8796093022208 then (laws_toNoteS.L0 l0 (List.replicate ((l0.length : Int) : Int).toNat z66) 0) else (none)) else (none)) := by
  refine Lim.eq_ ?_
  simp only [laws_toNoteS.f]
  repeat' first
  | (with_reducible exact laws_toNoteS.L0_lim _ _ _)
  | (with_reducible refine Lim.ite ?_ ?_)
  | (with_reducible refine Lim.bind ?_ (fun _ => ?_))
  | (with_reducible exact Lim.const _)
def laws_eqNote.f (a0_0 : Int) (a0_1 : Int) (a0_2 : ByteArray) (a1_0 : Int) (a1_1 : Int) (a1_2 : ByteArray) : Option (Bool) := if a0_0 = a1_0 then (if a0_1 = a1_1 then (if a0_2.toList = a1_2.toList then (some true) else (some false)) else (some false)) else (some false)
def laws_eqNoteS.l0 : Nat → List (S66) → List (S66) → Int → Option (Bool)
  | 0, _, _, _ => none
  | k + 1, x0, x1, x5 => if x5 < (x0.length : Int) then (if 0 ≤ x5 then (if x5 < (x1.length : Int) then ((laws_eqNote.f ((rd_T66 x0 x5).f0) ((rd_T66 x0 x5).f1) ((rd_T66 x0 x5).f2) ((rd_T66 x1 x5).f0) ((rd_T66 x1 x5).f1) ((rd_T66 x1 x5).f2)).bind fun t119 => (if t119 = true then (laws_eqNoteS.l0 k x0 x1 (wrap64 (x5 + 1))) else (some false))) else (none)) else (none)) else (some true)
def laws_eqNoteS.f (k : Nat) (l0 : List (S66)) (l1 : List (S66)) : Option (Bool) := if (l0.length : Int) = (l1.length : Int) then (laws_eqNoteS.l0 k l0 l1 0) else (some false)
theorem laws_eqNoteS.mono_l : ∀ k, (∀ y0 y1 y2, LeO (laws_eqNoteS.l0 k y0 y1 y2) (laws_eqNoteS.l0 (k + 1) y0 y1 y2))
  | 0 => fun _ _ _ r h => by simp [laws_eqNoteS.l0] at h
  | k + 1 => by
    have ih0 := laws_eqNoteS.mono_l k
    · intro y0 y1 y2
      unfold laws_eqNoteS.l0
      repeat' first
      | (with_reducible exact ih0 _ _ _)
      | (with_reducible exact LeO.refl _)
      | (with_reducible exact LeO.none _)
      | (with_reducible refine LeO.ite ?_ ?_)
      | (with_reducible refine LeO.bind ?_ (fun _ => ?_))
      | exact ih0 _ _ _
      | exact LeO.none _
      | refine LeO.ite ?_ ?_
      | refine LeO.bind ?_ (fun _ => ?_)
theorem laws_eqNoteS.mono : ∀ a0 a1 k, LeO (laws_eqNoteS.f k a0 a1) (laws_eqNoteS.f (k + 1) a0 a1) := by
  intro a0 a1 k
  have ih0 := laws_eqNoteS.mono_l k
  unfold laws_eqNoteS.f
  repeat' first
      | (with_reducible exact ih0 _ _ _)
      | (with_reducible exact LeO.refl _)
      | (with_reducible exact LeO.none _)
      | (with_reducible refine LeO.ite ?_ ?_)
      | (with_reducible refine LeO.bind ?_ (fun _ => ?_))
      | exact ih0 _ _ _
      | exact LeO.none _
      | refine LeO.ite ?_ ?_
      | refine LeO.bind ?_ (fun _ => ?_)
noncomputable def laws_eqNoteS.L0 (x0 : List (S66)) (x1 : List (S66)) (x5 : Int) : Option (Bool) := lim fun k => laws_eqNoteS.l0 k x0 x1 x5
theorem laws_eqNoteS.L0_lim (x0 : List (S66)) (x1 : List (S66)) (x5 : Int) : Lim (fun k => laws_eqNoteS.l0 k x0 x1 x5) (laws_eqNoteS.L0 x0 x1 x5) := ⟨fun k => (laws_eqNoteS.mono_l k) x0 x1 x5, rfl⟩
noncomputable def laws_eqNoteS.F (l0 : List (S66)) (l1 : List (S66)) : Option (Bool) := lim fun k => laws_eqNoteS.f k l0 l1
theorem laws_eqNoteS.F_lim (l0 : List (S66)) (l1 : List (S66)) : Lim (fun k => laws_eqNoteS.f k l0 l1) (laws_eqNoteS.F l0 l1) := ⟨laws_eqNoteS.mono l0 l1, rfl⟩
theorem laws_eqNoteS.L0_eq (x0 : List (S66)) (x1 : List (S66)) (x5 : Int) : laws_eqNoteS.L0 x0 x1 x5 = (if x5 < (x0.length : Int) then (if 0 ≤ x5 then (if x5 < (x1.length : Int) then ((laws_eqNote.f ((rd_T66 x0 x5).f0) ((rd_T66 x0 x5).f1) ((rd_T66 x0 x5).f2) ((rd_T66 x1 x5).f0) ((rd_T66 x1 x5).f1) ((rd_T66 x1 x5).f2)).bind fun t119 => (if t119 = true then (laws_eqNoteS.L0 x0 x1 (wrap64 (x5 + 1))) else (some false))) else (none)) else (none)) else (some true)) := by
  refine Lim.succ_eq (laws_eqNoteS.L0_lim x0 x1 x5).mon ?_
  simp only [laws_eqNoteS.l0]
  repeat' first
  | (with_reducible exact laws_eqNoteS.L0_lim _ _ _)
  | (with_reducible refine Lim.ite ?_ ?_)
  | (with_reducible refine Lim.bind ?_ (fun _ => ?_))
  | (with_reducible exact Lim.const _)
theorem laws_eqNoteS.F_eq (l0 : List (S66)) (l1 : List (S66)) : laws_eqNoteS.F l0 l1 = (if (l0.length : Int) = (l1.length : Int) then (laws_eqNoteS.L0 l0 l1 0) else (some false)) := by
  refine Lim.eq_ ?_
  simp only [laws_eqNoteS.f]
  repeat' first
  | (with_reducible exact laws_eqNoteS.L0_lim _ _ _)
  | (with_reducible refine Lim.ite ?_ ?_)
  | (with_reducible refine Lim.bind ?_ (fun _ => ?_))
  | (with_reducible exact Lim.const _)
def laws_markText.l0 : Nat → Int → ByteArray → Option (ByteArray)
  | 0, _, _ => none
  | k + 1, x0, x3 => if x0 > 0 then ((some (([(wrap64 (48 + (Int.tmod x0 10))) % 256] : List Int) : List Int)).bind fun y120 => (if (strOfNums y120).size + x3.size ≤ 9223372036854775807 then (laws_markText.l0 k (wrap64 (Int.tdiv x0 10)) ((strOfNums y120) ++ x3)) else (none))) else (if 1 + x3.size ≤ 9223372036854775807 then (some ((⟨#[109]⟩ : ByteArray) ++ x3)) else (none))
def laws_markText.f (k : Nat) (a0 : Int) : Option (ByteArray) := if a0 ≤ 0 then (some (⟨#[109, 48]⟩ : ByteArray)) else (laws_markText.l0 k a0 (⟨#[]⟩ : ByteArray))
theorem laws_markText.mono_l : ∀ k, (∀ y0 y1, LeO (laws_markText.l0 k y0 y1) (laws_markText.l0 (k + 1) y0 y1))
  | 0 => fun _ _ r h => by simp [laws_markText.l0] at h
  | k + 1 => by
    have ih0 := laws_markText.mono_l k
    · intro y0 y1
      unfold laws_markText.l0
      repeat' first
      | (with_reducible exact ih0 _ _)
      | (with_reducible exact LeO.refl _)
      | (with_reducible exact LeO.none _)
      | (with_reducible refine LeO.ite ?_ ?_)
      | (with_reducible refine LeO.bind ?_ (fun _ => ?_))
      | exact ih0 _ _
      | exact LeO.none _
      | refine LeO.ite ?_ ?_
      | refine LeO.bind ?_ (fun _ => ?_)
theorem laws_markText.mono : ∀ a0 k, LeO (laws_markText.f k a0) (laws_markText.f (k + 1) a0) := by
  intro a0 k
  have ih0 := laws_markText.mono_l k
  unfold laws_markText.f
  repeat' first
      | (with_reducible exact ih0 _ _)
      | (with_reducible exact LeO.refl _)
      | (with_reducible exact LeO.none _)
      | (with_reducible refine LeO.ite ?_ ?_)
      | (with_reducible refine LeO.bind ?_ (fun _ => ?_))
      | exact ih0 _ _
      | exact LeO.none _
      | refine LeO.ite ?_ ?_
      | refine LeO.bind ?_ (fun _ => ?_)
noncomputable def laws_markText.L0 (x0 : Int) (x3 : ByteArray) : Option (ByteArray) := lim fun k => laws_markText.l0 k x0 x3
theorem laws_markText.L0_lim (x0 : Int) (x3 : ByteArray) : Lim (fun k => laws_markText.l0 k x0 x3) (laws_markText.L0 x0 x3) := ⟨fun k => (laws_markText.mono_l k) x0 x3, rfl⟩
noncomputable def laws_markText.F (a0 : Int) : Option (ByteArray) := lim fun k => laws_markText.f k a0
theorem laws_markText.F_lim (a0 : Int) : Lim (fun k => laws_markText.f k a0) (laws_markText.F a0) := ⟨laws_markText.mono a0, rfl⟩
theorem laws_markText.L0_eq (x0 : Int) (x3 : ByteArray) : laws_markText.L0 x0 x3 = (if x0 > 0 then ((some (([(wrap64 (48 + (Int.tmod x0 10))) % 256] : List Int) : List Int)).bind fun y120 => (if (strOfNums y120).size + x3.size ≤ 9223372036854775807 then (laws_markText.L0 (wrap64 (Int.tdiv x0 10)) ((strOfNums y120) ++ x3)) else (none))) else (if 1 + x3.size ≤ 9223372036854775807 then (some ((⟨#[109]⟩ : ByteArray) ++ x3)) else (none))) := by
  refine Lim.succ_eq (laws_markText.L0_lim x0 x3).mon ?_
  simp only [laws_markText.l0]
  repeat' first
  | (with_reducible exact laws_markText.L0_lim _ _)
  | (with_reducible refine Lim.ite ?_ ?_)
  | (with_reducible refine Lim.bind ?_ (fun _ => ?_))
  | (with_reducible exact Lim.const _)
theorem laws_markText.F_eq (a0 : Int) : laws_markText.F a0 = (if a0 ≤ 0 then (some (⟨#[109, 48]⟩ : ByteArray)) else (laws_markText.L0 a0 (⟨#[]⟩ : ByteArray))) := by
  refine Lim.eq_ ?_
  simp only [laws_markText.f]
  repeat' first
  | (with_reducible exact laws_markText.L0_lim _ _)
  | (with_reducible refine Lim.ite ?_ ?_)
  | (with_reducible refine Lim.bind ?_ (fun _ => ?_))
  | (with_reducible exact Lim.const _)
def laws_markNoteS.l0 : Nat → List (S66) → Int → Int → Option (Int × (List (S66)))
  | 0, _, _, _ => none
  | k + 1, x0, x1, x5 => if x5 < (x0.length : Int) then (if 0 ≤ x5 then ((some (x0.set (x5 : Int).toNat (⟨x1, (rd_T66 x0 x5).f1, (rd_T66 x0 x5).f2⟩ : S66) : List (S66))).bind fun y123 => ((some (y123.set (x5 : Int).toNat (⟨(rd_T66 y123 x5).f0, wrap64 (x1 + 1), (rd_T66 y123 x5).f2⟩ : S66) : List (S66))).bind fun y124 => ((laws_markText.f k (wrap64 ((wrap64 (x1 + 1)) + 1))).bind fun t125 => (laws_markNoteS.l0 k (y124.set (x5 : Int).toNat (⟨(rd_T66 y124 x5).f0, (rd_T66 y124 x5).f1, t125⟩ : S66)) (wrap64 ((wrap64 ((wrap64 (x1 + 1)) + 1)) + 1)) (wrap64 (x5 + 1)))))) else (none)) else (some (x1, x0))
def laws_markNoteS.f (k : Nat) (l0 : List (S66)) (a1 : Int) : Option (Int × (List (S66))) := laws_markNoteS.l0 k l0 a1 0
theorem laws_markNoteS.mono_l : ∀ k, (∀ y0 y1 y2, LeO (laws_markNoteS.l0 k y0 y1 y2) (laws_markNoteS.l0 (k + 1) y0 y1 y2))
  | 0 => fun _ _ _ r h => by simp [laws_markNoteS.l0] at h
  | k + 1 => by
    have ih0 := laws_markNoteS.mono_l k
    · intro y0 y1 y2
      unfold laws_markNoteS.l0
      repeat' first
      | (with_reducible exact ih0 _ _ _)
      | (with_reducible exact laws_markText.mono _ _)
      | (with_reducible exact LeO.refl _)
      | (with_reducible exact LeO.none _)
      | (with_reducible refine LeO.ite ?_ ?_)
      | (with_reducible refine LeO.bind ?_ (fun _ => ?_))
      | exact ih0 _ _ _
      | exact laws_markText.mono _ _
      | exact LeO.none _
      | refine LeO.ite ?_ ?_
      | refine LeO.bind ?_ (fun _ => ?_)
theorem laws_markNoteS.mono : ∀ a0 a1 k, LeO (laws_markNoteS.f k a0 a1) (laws_markNoteS.f (k + 1) a0 a1) := by
  intro a0 a1 k
  have ih0 := laws_markNoteS.mono_l k
  unfold laws_markNoteS.f
  repeat' first
      | (with_reducible exact ih0 _ _ _)
      | (with_reducible exact laws_markText.mono _ _)
      | (with_reducible exact LeO.refl _)
      | (with_reducible exact LeO.none _)
      | (with_reducible refine LeO.ite ?_ ?_)
      | (with_reducible refine LeO.bind ?_ (fun _ => ?_))
      | exact ih0 _ _ _
      | exact laws_markText.mono _ _
      | exact LeO.none _
      | refine LeO.ite ?_ ?_
      | refine LeO.bind ?_ (fun _ => ?_)
noncomputable def laws_markNoteS.L0 (x0 : List (S66)) (x1 : Int) (x5 : Int) : Option (Int × (List (S66))) := lim fun k => laws_markNoteS.l0 k x0 x1 x5
theorem laws_markNoteS.L0_lim (x0 : List (S66)) (x1 : Int) (x5 : Int) : Lim (fun k => laws_markNoteS.l0 k x0 x1 x5) (laws_markNoteS.L0 x0 x1 x5) := ⟨fun k => (laws_markNoteS.mono_l k) x0 x1 x5, rfl⟩
noncomputable def laws_markNoteS.F (l0 : List (S66)) (a1 : Int) : Option (Int × (List (S66))) := lim fun k => laws_markNoteS.f k l0 a1
theorem laws_markNoteS.F_lim (l0 : List (S66)) (a1 : Int) : Lim (fun k => laws_markNoteS.f k l0 a1) (laws_markNoteS.F l0 a1) := ⟨laws_markNoteS.mono l0 a1, rfl⟩
theorem laws_markNoteS.L0_eq (x0 : List (S66)) (x1 : Int) (x5 : Int) : laws_markNoteS.L0 x0 x1 x5 = (if x5 < (x0.length : Int) then (if 0 ≤ x5 then ((some (x0.set (x5 : Int).toNat (⟨x1, (rd_T66 x0 x5).f1, (rd_T66 x0 x5).f2⟩ : S66) : List (S66))).bind fun y123 => ((some (y123.set (x5 : Int).toNat (⟨(rd_T66 y123 x5).f0, wrap64 (x1 + 1), (rd_T66 y123 x5).f2⟩ : S66) : List (S66))).bind fun y124 => ((laws_markText.F (wrap64 ((wrap64 (x1 + 1)) + 1))).bind fun t125 => (laws_markNoteS.L0 (y124.set (x5 : Int).toNat (⟨(rd_T66 y124 x5).f0, (rd_T66 y124 x5).f1, t125⟩ : S66)) (wrap64 ((wrap64 ((wrap64 (x1 + 1)) + 1)) + 1)) (wrap64 (x5 + 1)))))) else (none)) else (some (x1, x0))) := by
  refine Lim.succ_eq (laws_markNoteS.L0_lim x0 x1 x5).mon ?_
  simp only [laws_markNoteS.l0]
  repeat' first
  | (with_reducible exact laws_markNoteS.L0_lim _ _ _)
  | (with_reducible exact laws_markText.F_lim _)
  | (with_reducible refine Lim.ite ?_ ?_)
  | (with_reducible refine Lim.bind ?_ (fun _ => ?_))
  | (with_reducible exact Lim.const _)
theorem laws_markNoteS.F_eq (l0 : List (S66)) (a1 : Int) : laws_markNoteS.F l0 a1 = (laws_markNoteS.L0 l0 a1 0) := by
  refine Lim.eq_ ?_
  simp only [laws_markNoteS.f]
  repeat' first
  | (with_reducible exact laws_markNoteS.L0_lim _ _ _)
  | (with_reducible exact laws_markText.F_lim _)
  | (with_reducible refine Lim.ite ?_ ?_)
  | (with_reducible refine Lim.bind ?_ (fun _ => ?_))
  | (with_reducible exact Lim.const _)
def laws_eqIntS.l0 : Nat → List Int → List Int → Int → Option (Bool)
  | 0, _, _, _ => none
  | k + 1, x0, x1, x5 => if x5 < (x0.length : Int) then (if 0 ≤ x5 then (if x5 < (x1.length : Int) then (if (rd x0 x5) = (rd x1 x5) then (laws_eqIntS.l0 k x0 x1 (wrap64 (x5 + 1))) else (some false)) else (none)) else (none)) else (some true)
def laws_eqIntS.f (k : Nat) (l0 : List Int) (l1 : List Int) : Option (Bool) := if (l0.length : Int) = (l1.length : Int) then (laws_eqIntS.l0 k l0 l1 0) else (some false)
theorem laws_eqIntS.mono_l : ∀ k, (∀ y0 y1 y2, LeO (laws_eqIntS.l0 k y0 y1 y2) (laws_eqIntS.l0 (k + 1) y0 y1 y2))
  | 0 => fun _ _ _ r h => by simp [laws_eqIntS.l0] at h
  | k + 1 => by
    have ih0 := laws_eqIntS.mono_l k
    · intro y0 y1 y2
      unfold laws_eqIntS.l0
      repeat' first
      | (with_reducible exact ih0 _ _ _)
      | (with_reducible exact LeO.refl _)
      | (with_reducible exact LeO.none _)
      | (with_reducible refine LeO.ite ?_ ?_)
      | (with_reducible refine LeO.bind ?_ (fun _ => ?_))
      | exact ih0 _ _ _
      | exact LeO.none _
      | refine LeO.ite ?_ ?_
      | refine LeO.bind ?_ (fun _ => ?_)
theorem laws_eqIntS.mono : ∀ a0 a1 k, LeO (laws_eqIntS.f k a0 a1) (laws_eqIntS.f (k + 1) a0 a1) := by
  intro a0 a1 k
  have ih0 := laws_eqIntS.mono_l k
  unfold laws_eqIntS.f
  repeat' first
      | (with_reducible exact ih0 _ _ _)
      | (with_reducible exact LeO.refl _)
      | (with_reducible exact LeO.none _)
      | (with_reducible refine LeO.ite ?_ ?_)
      | (with_reducible refine LeO.bind ?_ (fun _ => ?_))
      | exact ih0 _ _ _
      | exact LeO.none _
      | refine LeO.ite ?_ ?_
      | refine LeO.bind ?_ (fun _ => ?_)
noncomputable def laws_eqIntS.L0 (x0 : List Int) (x1 : List Int) (x5 : Int) : Option (Bool) := lim fun k => laws_eqIntS.l0 k x0 x1 x5
theorem laws_eqIntS.L0_lim (x0 : List Int) (x1 : List Int) (x5 : Int) : Lim (fun k => laws_eqIntS.l0 k x0 x1 x5) (laws_eqIntS.L0 x0 x1 x5) := ⟨fun k => (laws_eqIntS.mono_l k) x0 x1 x5, rfl⟩
noncomputable def laws_eqIntS.F (l0 : List Int) (l1 : List Int) : Option (Bool) := lim fun k => laws_eqIntS.f k l0 l1
theorem laws_eqIntS.F_lim (l0 : List Int) (l1 : List Int) : Lim (fun k => laws_eqIntS.f k l0 l1) (laws_eqIntS.F l0 l1) := ⟨laws_eqIntS.mono l0 l1, rfl⟩
theorem laws_eqIntS.L0_eq (x0 : List Int) (x1 : List Int) (x5 : Int) : laws_eqIntS.L0 x0 x1 x5 = (if x5 < (x0.length : Int) then (if 0 ≤ x5 then (if x5 < (x1.length : Int) then (if (rd x0 x5) = (rd x1 x5) then (laws_eqIntS.L0 x0 x1 (wrap64 (x5 + 1))) else (some false)) else (none)) else (none)) else (some true)) := by
  refine Lim.succ_eq (laws_eqIntS.L0_lim x0 x1 x5).mon ?_
  simp only [laws_eqIntS.l0]
  repeat' first
  | (with_reducible exact laws_eqIntS.L0_lim _ _ _)
  | (with_reducible refine Lim.ite ?_ ?_)
  | (with_reducible refine Lim.bind ?_ (fun _ => ?_))
  | (with_reducible exact Lim.const _)
theorem laws_eqIntS.F_eq (l0 : List Int) (l1 : List Int) : laws_eqIntS.F l0 l1 = (if (l0.length : Int) = (l1.length : Int) then (laws_eqIntS.L0 l0 l1 0) else (some false)) := by
  refine Lim.eq_ ?_
  simp only [laws_eqIntS.f]
  repeat' first
  | (with_reducible exact laws_eqIntS.L0_lim _ _ _)
  | (with_reducible refine Lim.ite ?_ ?_)
  | (with_reducible refine Lim.bind ?_ (fun _ => ?_))
  | (with_reducible exact Lim.const _)
def laws_markIntS.l0 : Nat → List Int → Int → Int → Option (Int × List Int)
  | 0, _, _, _ => none
  | k + 1, x0, x1, x5 => if x5 < (x0.length : Int) then (if 0 ≤ x5 then (laws_markIntS.l0 k (x0.set (x5 : Int).toNat x1) (wrap64 (x1 + 1)) (wrap64 (x5 + 1))) else (none)) else (some (x1, x0))
def laws_markIntS.f (k : Nat) (l0 : List Int) (a1 : Int) : Option (Int × List Int) := laws_markIntS.l0 k l0 a1 0
theorem laws_markIntS.mono_l : ∀ k, (∀ y0 y1 y2, LeO (laws_markIntS.l0 k y0 y1 y2) (laws_markIntS.l0 (k + 1) y0 y1 y2))
  | 0 => fun _ _ _ r h => by simp [laws_markIntS.l0] at h
  | k + 1 => by
    have ih0 := laws_markIntS.mono_l k
    · intro y0 y1 y2
      unfold laws_markIntS.l0
      repeat' first
      | (with_reducible exact ih0 _ _ _)
      | (with_reducible exact LeO.refl _)
      | (with_reducible exact LeO.none _)
      | (with_reducible refine LeO.ite ?_ ?_)
      | (with_reducible refine LeO.bind ?_ (fun _ => ?_))
      | exact ih0 _ _ _
      | exact LeO.none _
      | refine LeO.ite ?_ ?_
      | refine LeO.bind ?_ (fun _ => ?_)
theorem laws_markIntS.mono : ∀ a0 a1 k, LeO (laws_markIntS.f k a0 a1) (laws_markIntS.f (k + 1) a0 a1) := by
  intro a0 a1 k
  have ih0 := laws_markIntS.mono_l k
  unfold laws_markIntS.f
  repeat' first
      | (with_reducible exact ih0 _ _ _)
      | (with_reducible exact LeO.refl _)
      | (with_reducible exact LeO.none _)
      | (with_reducible refine LeO.ite ?_ ?_)
      | (with_reducible refine LeO.bind ?_ (fun _ => ?_))
      | exact ih0 _ _ _
      | exact LeO.none _
      | refine LeO.ite ?_ ?_
      | refine LeO.bind ?_ (fun _ => ?_)
noncomputable def laws_markIntS.L0 (x0 : List Int) (x1 : Int) (x5 : Int) : Option (Int × List Int) := lim fun k => laws_markIntS.l0 k x0 x1 x5
theorem laws_markIntS.L0_lim (x0 : List Int) (x1 : Int) (x5 : Int) : Lim (fun k => laws_markIntS.l0 k x0 x1 x5) (laws_markIntS.L0 x0 x1 x5) := ⟨fun k => (laws_markIntS.mono_l k) x0 x1 x5, rfl⟩
noncomputable def laws_markIntS.F (l0 : List Int) (a1 : Int) : Option (Int × List Int) := lim fun k => laws_markIntS.f k l0 a1
theorem laws_markIntS.F_lim (l0 : List Int) (a1 : Int) : Lim (fun k => laws_markIntS.f k l0 a1) (laws_markIntS.F l0 a1) := ⟨laws_markIntS.mono l0 a1, rfl⟩
theorem laws_markIntS.L0_eq (x0 : List Int) (x1 : Int) (x5 : Int) : laws_markIntS.L0 x0 x1 x5 = (if x5 < (x0.length : Int) then (if 0 ≤ x5 then (laws_markIntS.L0 (x0.set (x5 : Int).toNat x1) (wrap64 (x1 + 1)) (wrap64 (x5 + 1))) else (none)) else (some (x1, x0))) := by
  refine Lim.succ_eq (laws_markIntS.L0_lim x0 x1 x5).mon ?_
  simp only [laws_markIntS.l0]
  repeat' first
  | (with_reducible exact laws_markIntS.L0_lim _ _ _)
  | (with_reducible refine Lim.ite ?_ ?_)
  | (with_reducible refine Lim.bind ?_ (fun _ => ?_))
  | (with_reducible exact Lim.const _)
theorem laws_markIntS.F_eq (l0 : List Int) (a1 : Int) : laws_markIntS.F l0 a1 = (laws_markIntS.L0 l0 a1 0) := by
  refine Lim.eq_ ?_
  simp only [laws_markIntS.f]
  repeat' first
  | (with_reducible exact laws_markIntS.L0_lim _ _ _)
  | (with_reducible refine Lim.ite ?_ ?_)
  | (with_reducible refine Lim.bind ?_ (fun _ => ?_))
  | (with_reducible exact Lim.const _)
def laws_heldIntS.l0 : Nat → List Int → Int → Int → Option (Int)
  | 0, _, _, _ => none
  | k + 1, x0, x1, x5 => if x5 < (x0.length : Int) then (if 0 ≤ x5 then (if (rd x0 x5) = x1 then (laws_heldIntS.l0 k x0 (wrap64 (x1 + 1)) (wrap64 (x5 + 1))) else (some (-1))) else (none)) else (some x1)
def laws_heldIntS.f (k : Nat) (l0 : List Int) (a1 : Int) : Option (Int) := laws_heldIntS.l0 k l0 a1 0
theorem laws_heldIntS.mono_l : ∀ k, (∀ y0 y1 y2, LeO (laws_heldIntS.l0 k y0 y1 y2) (laws_heldIntS.l0 (k + 1) y0 y1 y2))
  | 0 => fun _ _ _ r h => by simp [laws_heldIntS.l0] at h
  | k + 1 => by
    have ih0 := laws_heldIntS.mono_l k
    · intro y0 y1 y2
      unfold laws_heldIntS.l0
      repeat' first
      | (with_reducible exact ih0 _ _ _)
      | (with_reducible exact LeO.refl _)
      | (with_reducible exact LeO.none _)
      | (with_reducible refine LeO.ite ?_ ?_)
      | (with_reducible refine LeO.bind ?_ (fun _ => ?_))
      | exact ih0 _ _ _
      | exact LeO.none _
      | refine LeO.ite ?_ ?_
      | refine LeO.bind ?_ (fun _ => ?_)
theorem laws_heldIntS.mono : ∀ a0 a1 k, LeO (laws_heldIntS.f k a0 a1) (laws_heldIntS.f (k + 1) a0 a1) := by
  intro a0 a1 k
  have ih0 := laws_heldIntS.mono_l k
  unfold laws_heldIntS.f
  repeat' first
      | (with_reducible exact ih0 _ _ _)
      | (with_reducible exact LeO.refl _)
      | (with_reducible exact LeO.none _)
      | (with_reducible refine LeO.ite ?_ ?_)
      | (with_reducible refine LeO.bind ?_ (fun _ => ?_))
      | exact ih0 _ _ _
      | exact LeO.none _
      | refine LeO.ite ?_ ?_
      | refine LeO.bind ?_ (fun _ => ?_)
noncomputable def laws_heldIntS.L0 (x0 : List Int) (x1 : Int) (x5 : Int) : Option (Int) := lim fun k => laws_heldIntS.l0 k x0 x1 x5
theorem laws_heldIntS.L0_lim (x0 : List Int) (x1 : Int) (x5 : Int) : Lim (fun k => laws_heldIntS.l0 k x0 x1 x5) (laws_heldIntS.L0 x0 x1 x5) := ⟨fun k => (laws_heldIntS.mono_l k) x0 x1 x5, rfl⟩
noncomputable def laws_heldIntS.F (l0 : List Int) (a1 : Int) : Option (Int) := lim fun k => laws_heldIntS.f k l0 a1
theorem laws_heldIntS.F_lim (l0 : List Int) (a1 : Int) : Lim (fun k => laws_heldIntS.f k l0 a1) (laws_heldIntS.F l0 a1) := ⟨laws_heldIntS.mono l0 a1, rfl⟩
theorem laws_heldIntS.L0_eq (x0 : List Int) (x1 : Int) (x5 : Int) : laws_heldIntS.L0 x0 x1 x5 = (if x5 < (x0.length : Int) then (if 0 ≤ x5 then (if (rd x0 x5) = x1 then (laws_heldIntS.L0 x0 (wrap64 (x1 + 1)) (wrap64 (x5 + 1))) else (some (-1))) else (none)) else (some x1)) := by
  refine Lim.succ_eq (laws_heldIntS.L0_lim x0 x1 x5).mon ?_
  simp only [laws_heldIntS.l0]
  repeat' first
  | (with_reducible exact laws_heldIntS.L0_lim _ _ _)
  | (with_reducible refine Lim.ite ?_ ?_)
  | (with_reducible refine Lim.bind ?_ (fun _ => ?_))
  | (with_reducible exact Lim.const _)
theorem laws_heldIntS.F_eq (l0 : List Int) (a1 : Int) : laws_heldIntS.F l0 a1 = (laws_heldIntS.L0 l0 a1 0) := by
  refine Lim.eq_ ?_
  simp only [laws_heldIntS.f]
  repeat' first
  | (with_reducible exact laws_heldIntS.L0_lim _ _ _)
  | (with_reducible refine Lim.ite ?_ ?_)
  | (with_reducible refine Lim.bind ?_ (fun _ => ?_))
  | (with_reducible exact Lim.const _)
def laws_szStringS.l0 : Nat → List ByteArray → Int → Int → Option (Int)
  | 0, _, _, _ => none
  | k + 1, x0, x1, x5 => if x5 < (x0.length : Int) then (if 0 ≤ x5 then (if (wrap64 (x1 - ((rdOf ByteArray.empty x0 x5).size : Int))) < 0 then (some (-1)) else (laws_szStringS.l0 k x0 (wrap64 (x1 - ((rdOf ByteArray.empty x0 x5).size : Int))) (wrap64 (x5 + 1)))) else (none)) else (some x1)
def laws_szStringS.f (k : Nat) (l0 : List ByteArray) (a1 : Int) : Option (Int) := if (wrap64 (a1 - (l0.length : Int))) < 0 then (some (-1)) else (laws_szStringS.l0 k l0 (wrap64 (a1 - (l0.length : Int))) 0)
theorem laws_szStringS.mono_l : ∀ k, (∀ y0 y1 y2, LeO (laws_szStringS.l0 k y0 y1 y2) (laws_szStringS.l0 (k + 1) y0 y1 y2))
  | 0 => fun _ _ _ r h => by simp [laws_szStringS.l0] at h
  | k + 1 => by
    have ih0 := laws_szStringS.mono_l k
    · intro y0 y1 y2
      unfold laws_szStringS.l0
      repeat' first
      | (with_reducible exact ih0 _ _ _)
      | (with_reducible exact LeO.refl _)
      | (with_reducible exact LeO.none _)
      | (with_reducible refine LeO.ite ?_ ?_)
      | (with_reducible refine LeO.bind ?_ (fun _ => ?_))
      | exact ih0 _ _ _
      | exact LeO.none _
      | refine LeO.ite ?_ ?_
      | refine LeO.bind ?_ (fun _ => ?_)
theorem laws_szStringS.mono : ∀ a0 a1 k, LeO (laws_szStringS.f k a0 a1) (laws_szStringS.f (k + 1) a0 a1) := by
  intro a0 a1 k
  have ih0 := laws_szStringS.mono_l k
  unfold laws_szStringS.f
  repeat' first
      | (with_reducible exact ih0 _ _ _)
      | (with_reducible exact LeO.refl _)
      | (with_reducible exact LeO.none _)
      | (with_reducible refine LeO.ite ?_ ?_)
      | (with_reducible refine LeO.bind ?_ (fun _ => ?_))
      | exact ih0 _ _ _
      | exact LeO.none _
      | refine LeO.ite ?_ ?_
      | refine LeO.bind ?_ (fun _ => ?_)
noncomputable def laws_szStringS.L0 (x0 : List ByteArray) (x1 : Int) (x5 : Int) : Option (Int) := lim fun k => laws_szStringS.l0 k x0 x1 x5
theorem laws_szStringS.L0_lim (x0 : List ByteArray) (x1 : Int) (x5 : Int) : Lim (fun k => laws_szStringS.l0 k x0 x1 x5) (laws_szStringS.L0 x0 x1 x5) := ⟨fun k => (laws_szStringS.mono_l k) x0 x1 x5, rfl⟩
noncomputable def laws_szStringS.F (l0 : List ByteArray) (a1 : Int) : Option (Int) := lim fun k => laws_szStringS.f k l0 a1
theorem laws_szStringS.F_lim (l0 : List ByteArray) (a1 : Int) : Lim (fun k => laws_szStringS.f k l0 a1) (laws_szStringS.F l0 a1) := ⟨laws_szStringS.mono l0 a1, rfl⟩
theorem laws_szStringS.L0_eq (x0 : List ByteArray) (x1 : Int) (x5 : Int) : laws_szStringS.L0 x0 x1 x5 = (if x5 < (x0.length : Int) then (if 0 ≤ x5 then (if (wrap64 (x1 - ((rdOf ByteArray.empty x0 x5).size : Int))) < 0 then (some (-1)) else (laws_szStringS.L0 x0 (wrap64 (x1 - ((rdOf ByteArray.empty x0 x5).size : Int))) (wrap64 (x5 + 1)))) else (none)) else (some x1)) := by
  refine Lim.succ_eq (laws_szStringS.L0_lim x0 x1 x5).mon ?_
  simp only [laws_szStringS.l0]
  repeat' first
  | (with_reducible exact laws_szStringS.L0_lim _ _ _)
  | (with_reducible refine Lim.ite ?_ ?_)
  | (with_reducible refine Lim.bind ?_ (fun _ => ?_))
  | (with_reducible exact Lim.const _)
theorem laws_szStringS.F_eq (l0 : List ByteArray) (a1 : Int) : laws_szStringS.F l0 a1 = (if (wrap64 (a1 - (l0.length : Int))) < 0 then (some (-1)) else (laws_szStringS.L0 l0 (wrap64 (a1 - (l0.length : Int))) 0)) := by
  refine Lim.eq_ ?_
  simp only [laws_szStringS.f]
  repeat' first
  | (with_reducible exact laws_szStringS.L0_lim _ _ _)
  | (with_reducible refine Lim.ite ?_ ?_)
  | (with_reducible refine Lim.bind ?_ (fun _ => ?_))
  | (with_reducible exact Lim.const _)
def spec_l1In.f (a0 : Int) (a1 : Int) (a2 : Int) : Option (Bool) := if a0 ≥ a1 then (some (decide (a0 ≤ a2))) else (some false)
def spec_tiFrame.f (a0 : Int) : Option (Bool) := (spec_l1In.f a0 0 99999).bind fun t132 => (some t132)
def spec_fsWord.l0 : Nat → ByteArray → Int → Option (Bool)
  | 0, _, _ => none
  | k + 1, x0, x3 => if x3 < (x0.size : Int) then (if 0 ≤ x3 then (if (bt x0 x3) < 65 then (some false) else (if (bt x0 x3) > 90 then (some false) else (spec_fsWord.l0 k x0 (wrap64 (x3 + 1))))) else (none)) else ((spec_l1In.f (x0.size : Int) 1 8).bind fun t133 => (some t133))
def spec_fsWord.f (k : Nat) (a0 : ByteArray) : Option (Bool) := spec_fsWord.l0 k a0 0
theorem spec_fsWord.mono_l : ∀ k, (∀ y0 y1, LeO (spec_fsWord.l0 k y0 y1) (spec_fsWord.l0 (k + 1) y0 y1))
  | 0 => fun _ _ r h => by simp [spec_fsWord.l0] at h
  | k + 1 => by
    have ih0 := spec_fsWord.mono_l k
    · intro y0 y1
      unfold spec_fsWord.l0
      repeat' first
      | (with_reducible exact ih0 _ _)
      | (with_reducible exact LeO.refl _)
      | (with_reducible exact LeO.none _)
      | (with_reducible refine LeO.ite ?_ ?_)
      | (with_reducible refine LeO.bind ?_ (fun _ => ?_))
      | exact ih0 _ _
      | exact LeO.none _
      | refine LeO.ite ?_ ?_
      | refine LeO.bind ?_ (fun _ => ?_)
theorem spec_fsWord.mono : ∀ a0 k, LeO (spec_fsWord.f k a0) (spec_fsWord.f (k + 1) a0) := by
  intro a0 k
  have ih0 := spec_fsWord.mono_l k
  unfold spec_fsWord.f
  repeat' first
      | (with_reducible exact ih0 _ _)
      | (with_reducible exact LeO.refl _)
      | (with_reducible exact LeO.none _)
      | (with_reducible refine LeO.ite ?_ ?_)
      | (with_reducible refine LeO.bind ?_ (fun _ => ?_))
      | exact ih0 _ _
      | exact LeO.none _
      | refine LeO.ite ?_ ?_
      | refine LeO.bind ?_ (fun _ => ?_)
noncomputable def spec_fsWord.L0 (x0 : ByteArray) (x3 : Int) : Option (Bool) := lim fun k => spec_fsWord.l0 k x0 x3
theorem spec_fsWord.L0_lim (x0 : ByteArray) (x3 : Int) : Lim (fun k => spec_fsWord.l0 k x0 x3) (spec_fsWord.L0 x0 x3) := ⟨fun k => (spec_fsWord.mono_l k) x0 x3, rfl⟩
noncomputable def spec_fsWord.F (a0 : ByteArray) : Option (Bool) := lim fun k => spec_fsWord.f k a0
theorem spec_fsWord.F_lim (a0 : ByteArray) : Lim (fun k => spec_fsWord.f k a0) (spec_fsWord.F a0) := ⟨spec_fsWord.mono a0, rfl⟩
theorem spec_fsWord.L0_eq (x0 : ByteArray) (x3 : Int) : spec_fsWord.L0 x0 x3 = (if x3 < (x0.size : Int) then (if 0 ≤ x3 then (if (bt x0 x3) < 65 then (some false) else (if (bt x0 x3) > 90 then (some false) else (spec_fsWord.L0 x0 (wrap64 (x3 + 1))))) else (none)) else ((spec_l1In.f (x0.size : Int) 1 8).bind fun t133 => (some t133))) := by
  refine Lim.succ_eq (spec_fsWord.L0_lim x0 x3).mon ?_
  simp only [spec_fsWord.l0]
  repeat' first
  | (with_reducible exact spec_fsWord.L0_lim _ _)
  | (with_reducible refine Lim.ite ?_ ?_)
  | (with_reducible refine Lim.bind ?_ (fun _ => ?_))
  | (with_reducible exact Lim.const _)
theorem spec_fsWord.F_eq (a0 : ByteArray) : spec_fsWord.F a0 = (spec_fsWord.L0 a0 0) := by
  refine Lim.eq_ ?_
  simp only [spec_fsWord.f]
  repeat' first
  | (with_reducible exact spec_fsWord.L0_lim _ _)
  | (with_reducible refine Lim.ite ?_ ?_)
  | (with_reducible refine Lim.bind ?_ (fun _ => ?_))
  | (with_reducible exact Lim.const _)
def spec_tiNote.f (k : Nat) (a0_0 : Int) (a0_1 : Int) (a0_2 : ByteArray) : Option (Bool) := (spec_tiFrame.f a0_0).bind fun t135 => (if t135 = true then ((spec_tiFrame.f a0_1).bind fun t136 => (if t136 = true then (if a0_0 < a0_1 then ((spec_fsWord.f k a0_2).bind fun t137 => (some t137)) else (some false)) else (some false))) else (some false))
theorem spec_tiNote.mono : ∀ a0 a1 a2 k, LeO (spec_tiNote.f k a0 a1 a2) (spec_tiNote.f (k + 1) a0 a1 a2) := by
  intro a0 a1 a2 k
  unfold spec_tiNote.f
  repeat' first
      | (with_reducible exact spec_fsWord.mono _ _)
      | (with_reducible exact LeO.refl _)
      | (with_reducible exact LeO.none _)
      | (with_reducible refine LeO.ite ?_ ?_)
      | (with_reducible refine LeO.bind ?_ (fun _ => ?_))
      | exact spec_fsWord.mono _ _
      | exact LeO.none _
      | refine LeO.ite ?_ ?_
      | refine LeO.bind ?_ (fun _ => ?_)
noncomputable def spec_tiNote.F (a0_0 : Int) (a0_1 : Int) (a0_2 : ByteArray) : Option (Bool) := lim fun k => spec_tiNote.f k a0_0 a0_1 a0_2
theorem spec_tiNote.F_lim (a0_0 : Int) (a0_1 : Int) (a0_2 : ByteArray) : Lim (fun k => spec_tiNote.f k a0_0 a0_1 a0_2) (spec_tiNote.F a0_0 a0_1 a0_2) := ⟨spec_tiNote.mono a0_0 a0_1 a0_2, rfl⟩
theorem spec_tiNote.F_eq (a0_0 : Int) (a0_1 : Int) (a0_2 : ByteArray) : spec_tiNote.F a0_0 a0_1 a0_2 = ((spec_tiFrame.f a0_0).bind fun t135 => (if t135 = true then ((spec_tiFrame.f a0_1).bind fun t136 => (if t136 = true then (if a0_0 < a0_1 then ((spec_fsWord.F a0_2).bind fun t137 => (some t137)) else (some false)) else (some false))) else (some false))) := by
  refine Lim.eq_ ?_
  simp only [spec_tiNote.f]
  repeat' first
  | (with_reducible exact spec_fsWord.F_lim _)
  | (with_reducible refine Lim.ite ?_ ?_)
  | (with_reducible refine Lim.bind ?_ (fun _ => ?_))
  | (with_reducible exact Lim.const _)
def spec_tiGood.l0 : Nat → List (S66) → List (S66) → Int → Int → Option (Bool)
  | 0, _, _, _, _ => none
  | k + 1, x0, x5, x6, x7 => if x7 < x6 then (if 0 ≤ x7 then (if x7 < (x5.length : Int) then ((spec_tiNote.f k ((rd_T66 x5 x7).f0) ((rd_T66 x5 x7).f1) ((rd_T66 x5 x7).f2)).bind fun t140 => (if t140 = true then (if x7 > 0 then (if 0 ≤ (wrap64 (x7 - 1)) then (if (wrap64 (x7 - 1)) < (x0.length : Int) then (if ((rd_T66 x0 (wrap64 (x7 - 1))).f1) > ((rd_T66 x5 x7).f0) then (some false) else (spec_tiGood.l0 k x0 x5 x6 (wrap64 (x7 + 1)))) else (none)) else (none)) else (spec_tiGood.l0 k x0 x5 x6 (wrap64 (x7 + 1)))) else (some false))) else (none)) else (none)) else (some (decide ((x0.length : Int) ≤ 40)))
def spec_tiGood.f (k : Nat) (l0 : List (S66)) : Option (Bool) := spec_tiGood.l0 k l0 l0 (l0.length : Int) 0
theorem spec_tiGood.mono_l : ∀ k, (∀ y0 y1 y2 y3, LeO (spec_tiGood.l0 k y0 y1 y2 y3) (spec_tiGood.l0 (k + 1) y0 y1 y2 y3))
  | 0 => fun _ _ _ _ r h => by simp [spec_tiGood.l0] at h
  | k + 1 => by
    have ih0 := spec_tiGood.mono_l k
    · intro y0 y1 y2 y3
      unfold spec_tiGood.l0
      repeat' first
      | (with_reducible exact ih0 _ _ _ _)
      | (with_reducible exact spec_tiNote.mono _ _ _ _)
      | (with_reducible exact LeO.refl _)
      | (with_reducible exact LeO.none _)
      | (with_reducible refine LeO.ite ?_ ?_)
      | (with_reducible refine LeO.bind ?_ (fun _ => ?_))
      | exact ih0 _ _ _ _
      | exact spec_tiNote.mono _ _ _ _
      | exact LeO.none _
      | refine LeO.ite ?_ ?_
      | refine LeO.bind ?_ (fun _ => ?_)
theorem spec_tiGood.mono : ∀ a0 k, LeO (spec_tiGood.f k a0) (spec_tiGood.f (k + 1) a0) := by
  intro a0 k
  have ih0 := spec_tiGood.mono_l k
  unfold spec_tiGood.f
  repeat' first
      | (with_reducible exact ih0 _ _ _ _)
      | (with_reducible exact spec_tiNote.mono _ _ _ _)
      | (with_reducible exact LeO.refl _)
      | (with_reducible exact LeO.none _)
      | (with_reducible refine LeO.ite ?_ ?_)
      | (with_reducible refine LeO.bind ?_ (fun _ => ?_))
      | exact ih0 _ _ _ _
      | exact spec_tiNote.mono _ _ _ _
      | exact LeO.none _
      | refine LeO.ite ?_ ?_
      | refine LeO.bind ?_ (fun _ => ?_)
noncomputable def spec_tiGood.L0 (x0 : List (S66)) (x5 : List (S66)) (x6 : Int) (x7 : Int) : Option (Bool) := lim fun k => spec_tiGood.l0 k x0 x5 x6 x7
theorem spec_tiGood.L0_lim (x0 : List (S66)) (x5 : List (S66)) (x6 : Int) (x7 : Int) : Lim (fun k => spec_tiGood.l0 k x0 x5 x6 x7) (spec_tiGood.L0 x0 x5 x6 x7) := ⟨fun k => (spec_tiGood.mono_l k) x0 x5 x6 x7, rfl⟩
noncomputable def spec_tiGood.F (l0 : List (S66)) : Option (Bool) := lim fun k => spec_tiGood.f k l0
theorem spec_tiGood.F_lim (l0 : List (S66)) : Lim (fun k => spec_tiGood.f k l0) (spec_tiGood.F l0) := ⟨spec_tiGood.mono l0, rfl⟩
theorem spec_tiGood.L0_eq (x0 : List (S66)) (x5 : List (S66)) (x6 : Int) (x7 : Int) : spec_tiGood.L0 x0 x5 x6 x7 = (if x7 < x6 then (if 0 ≤ x7 then (if x7 < (x5.length : Int) then ((spec_tiNote.F ((rd_T66 x5 x7).f0) ((rd_T66 x5 x7).f1) ((rd_T66 x5 x7).f2)).bind fun t140 => (if t140 = true then (if x7 > 0 then (if 0 ≤ (wrap64 (x7 - 1)) then (if (wrap64 (x7 - 1)) < (x0.length : Int) then (if ((rd_T66 x0 (wrap64 (x7 - 1))).f1) > ((rd_T66 x5 x7).f0) then (some false) else (spec_tiGood.L0 x0 x5 x6 (wrap64 (x7 + 1)))) else (none)) else (none)) else (spec_tiGood.L0 x0 x5 x6 (wrap64 (x7 + 1)))) else (some false))) else (none)) else (none)) else (some (decide ((x0.length : Int) ≤ 40)))) := by
  refine Lim.succ_eq (spec_tiGood.L0_lim x0 x5 x6 x7).mon ?_
  simp only [spec_tiGood.l0]
  repeat' first
  | (with_reducible exact spec_tiGood.L0_lim _ _ _ _)
  | (with_reducible exact spec_tiNote.F_lim _ _ _)
  | (with_reducible refine Lim.ite ?_ ?_)
  | (with_reducible refine Lim.bind ?_ (fun _ => ?_))
  | (with_reducible exact Lim.const _)
theorem spec_tiGood.F_eq (l0 : List (S66)) : spec_tiGood.F l0 = (spec_tiGood.L0 l0 l0 (l0.length : Int) 0) := by
  refine Lim.eq_ ?_
  simp only [spec_tiGood.f]
  repeat' first
  | (with_reducible exact spec_tiGood.L0_lim _ _ _ _)
  | (with_reducible exact spec_tiNote.F_lim _ _ _)
  | (with_reducible refine Lim.ite ?_ ?_)
  | (with_reducible refine Lim.bind ?_ (fun _ => ?_))
  | (with_reducible exact Lim.const _)
def spec_quPattern.l0 : Nat → ByteArray → Int → Option (Bool)
  | 0, _, _ => none
  | k + 1, x0, x3 => if x3 < (x0.size : Int) then (if 0 ≤ x3 then (if (bt x0 x3) < 65 then (if (bt x0 x3) = 63 then (spec_quPattern.l0 k x0 (wrap64 (x3 + 1))) else (if (bt x0 x3) = 42 then (spec_quPattern.l0 k x0 (wrap64 (x3 + 1))) else (some false))) else (if (bt x0 x3) > 90 then (if (bt x0 x3) = 63 then (spec_quPattern.l0 k x0 (wrap64 (x3 + 1))) else (if (bt x0 x3) = 42 then (spec_quPattern.l0 k x0 (wrap64 (x3 + 1))) else (some false))) else (spec_quPattern.l0 k x0 (wrap64 (x3 + 1))))) else (none)) else ((spec_l1In.f (x0.size : Int) 1 8).bind fun t142 => (some t142))
def spec_quPattern.f (k : Nat) (a0 : ByteArray) : Option (Bool) := spec_quPattern.l0 k a0 0
theorem spec_quPattern.mono_l : ∀ k, (∀ y0 y1, LeO (spec_quPattern.l0 k y0 y1) (spec_quPattern.l0 (k + 1) y0 y1))
  | 0 => fun _ _ r h => by simp [spec_quPattern.l0] at h
  | k + 1 => by
    have ih0 := spec_quPattern.mono_l k
    · intro y0 y1
      unfold spec_quPattern.l0
      repeat' first
      | (with_reducible exact ih0 _ _)
      | (with_reducible exact LeO.refl _)
      | (with_reducible exact LeO.none _)
      | (with_reducible refine LeO.ite ?_ ?_)
      | (with_reducible refine LeO.bind ?_ (fun _ => ?_))
      | exact ih0 _ _
      | exact LeO.none _
      | refine LeO.ite ?_ ?_
      | refine LeO.bind ?_ (fun _ => ?_)
theorem spec_quPattern.mono : ∀ a0 k, LeO (spec_quPattern.f k a0) (spec_quPattern.f (k + 1) a0) := by
  intro a0 k
  have ih0 := spec_quPattern.mono_l k
  unfold spec_quPattern.f
  repeat' first
      | (with_reducible exact ih0 _ _)
      | (with_reducible exact LeO.refl _)
      | (with_reducible exact LeO.none _)
      | (with_reducible refine LeO.ite ?_ ?_)
      | (with_reducible refine LeO.bind ?_ (fun _ => ?_))
      | exact ih0 _ _
      | exact LeO.none _
      | refine LeO.ite ?_ ?_
      | refine LeO.bind ?_ (fun _ => ?_)
noncomputable def spec_quPattern.L0 (x0 : ByteArray) (x3 : Int) : Option (Bool) := lim fun k => spec_quPattern.l0 k x0 x3
theorem spec_quPattern.L0_lim (x0 : ByteArray) (x3 : Int) : Lim (fun k => spec_quPattern.l0 k x0 x3) (spec_quPattern.L0 x0 x3) := ⟨fun k => (spec_quPattern.mono_l k) x0 x3, rfl⟩
noncomputable def spec_quPattern.F (a0 : ByteArray) : Option (Bool) := lim fun k => spec_quPattern.f k a0
theorem spec_quPattern.F_lim (a0 : ByteArray) : Lim (fun k => spec_quPattern.f k a0) (spec_quPattern.F a0) := ⟨spec_quPattern.mono a0, rfl⟩
theorem spec_quPattern.L0_eq (x0 : ByteArray) (x3 : Int) : spec_quPattern.L0 x0 x3 = (if x3 < (x0.size : Int) then (if 0 ≤ x3 then (if (bt x0 x3) < 65 then (if (bt x0 x3) = 63 then (spec_quPattern.L0 x0 (wrap64 (x3 + 1))) else (if (bt x0 x3) = 42 then (spec_quPattern.L0 x0 (wrap64 (x3 + 1))) else (some false))) else (if (bt x0 x3) > 90 then (if (bt x0 x3) = 63 then (spec_quPattern.L0 x0 (wrap64 (x3 + 1))) else (if (bt x0 x3) = 42 then (spec_quPattern.L0 x0 (wrap64 (x3 + 1))) else (some false))) else (spec_quPattern.L0 x0 (wrap64 (x3 + 1))))) else (none)) else ((spec_l1In.f (x0.size : Int) 1 8).bind fun t142 => (some t142))) := by
  refine Lim.succ_eq (spec_quPattern.L0_lim x0 x3).mon ?_
  simp only [spec_quPattern.l0]
  repeat' first
  | (with_reducible exact spec_quPattern.L0_lim _ _)
  | (with_reducible refine Lim.ite ?_ ?_)
  | (with_reducible refine Lim.bind ?_ (fun _ => ?_))
  | (with_reducible exact Lim.const _)
theorem spec_quPattern.F_eq (a0 : ByteArray) : spec_quPattern.F a0 = (spec_quPattern.L0 a0 0) := by
  refine Lim.eq_ ?_
  simp only [spec_quPattern.f]
  repeat' first
  | (with_reducible exact spec_quPattern.L0_lim _ _)
  | (with_reducible refine Lim.ite ?_ ?_)
  | (with_reducible refine Lim.bind ?_ (fun _ => ?_))
  | (with_reducible exact Lim.const _)
def spec_quLike.f : Nat → ByteArray → ByteArray → Option (Bool)
  | 0, _, _ => none
  | k + 1, a0, a1 => if a0.toList = ([] : List UInt8) then (some (a1.toList == ([] : List UInt8))) else (if 0 < (a0.size : Int) then (if (bt a0 0) = 42 then (if 1 ≤ (a0.size : Int) then ((spec_quLike.f k (a0.extract 1 a0.size) a1).bind fun t143 => (if t143 = true then (some true) else (if a1.toList = ([] : List UInt8) then (some false) else (if 1 ≤ (a1.size : Int) then ((spec_quLike.f k a0 (a1.extract 1 a1.size)).bind fun t144 => (some t144)) else (none))))) else (none)) else (if a1.toList = ([] : List UInt8) then (some false) else (if (bt a0 0) = 63 then (if 1 ≤ (a0.size : Int) then (if 1 ≤ (a1.size : Int) then ((spec_quLike.f k (a0.extract 1 a0.size) (a1.extract 1 a1.size)).bind fun t145 => (some t145)) else (none)) else (none)) else (if 0 < (a1.size : Int) then (if (bt a0 0) = (bt a1 0) then (if 1 ≤ (a0.size : Int) then (if 1 ≤ (a1.size : Int) then ((spec_quLike.f k (a0.extract 1 a0.size) (a1.extract 1 a1.size)).bind fun t146 => (some t146)) else (none)) else (none)) else (some false)) else (none))))) else (none))
theorem spec_quLike.mono_l : ∀ k, (∀ y0 y1, LeO (spec_quLike.f k y0 y1) (spec_quLike.f (k + 1) y0 y1))
  | 0 => fun _ _ r h => by simp [spec_quLike.f] at h
  | k + 1 => by
    have ih0 := spec_quLike.mono_l k
    · intro y0 y1
      unfold spec_quLike.f
      repeat' first
      | (with_reducible exact ih0 _ _)
      | (with_reducible exact LeO.refl _)
      | (with_reducible exact LeO.none _)
      | (with_reducible refine LeO.ite ?_ ?_)
      | (with_reducible refine LeO.bind ?_ (fun _ => ?_))
      | exact ih0 _ _
      | exact LeO.none _
      | refine LeO.ite ?_ ?_
      | refine LeO.bind ?_ (fun _ => ?_)
theorem spec_quLike.mono : ∀ a0 a1 k, LeO (spec_quLike.f k a0 a1) (spec_quLike.f (k + 1) a0 a1) := by
  intro a0 a1 k
  have ih0 := spec_quLike.mono_l k
  exact ih0 a0 a1
noncomputable def spec_quLike.F (a0 : ByteArray) (a1 : ByteArray) : Option (Bool) := lim fun k => spec_quLike.f k a0 a1
theorem spec_quLike.F_lim (a0 : ByteArray) (a1 : ByteArray) : Lim (fun k => spec_quLike.f k a0 a1) (spec_quLike.F a0 a1) := ⟨spec_quLike.mono a0 a1, rfl⟩
theorem spec_quLike.F_eq (a0 : ByteArray) (a1 : ByteArray) : spec_quLike.F a0 a1 = (if a0.toList = ([] : List UInt8) then (some (a1.toList == ([] : List UInt8))) else (if 0 < (a0.size : Int) then (if (bt a0 0) = 42 then (if 1 ≤ (a0.size : Int) then ((spec_quLike.F (a0.extract 1 a0.size) a1).bind fun t143 => (if t143 = true then (some true) else (if a1.toList = ([] : List UInt8) then (some false) else (if 1 ≤ (a1.size : Int) then ((spec_quLike.F a0 (a1.extract 1 a1.size)).bind fun t144 => (some t144)) else (none))))) else (none)) else (if a1.toList = ([] : List UInt8) then (some false) else (if (bt a0 0) = 63 then (if 1 ≤ (a0.size : Int) then (if 1 ≤ (a1.size : Int) then ((spec_quLike.F (a0.extract 1 a0.size) (a1.extract 1 a1.size)).bind fun t145 => (some t145)) else (none)) else (none)) else (if 0 < (a1.size : Int) then (if (bt a0 0) = (bt a1 0) then (if 1 ≤ (a0.size : Int) then (if 1 ≤ (a1.size : Int) then ((spec_quLike.F (a0.extract 1 a0.size) (a1.extract 1 a1.size)).bind fun t146 => (some t146)) else (none)) else (none)) else (some false)) else (none))))) else (none))) := by
  refine Lim.succ_eq (spec_quLike.F_lim a0 a1).mon ?_
  simp only [spec_quLike.f]
  repeat' first
  | (with_reducible exact spec_quLike.F_lim _ _)
  | (with_reducible refine Lim.ite ?_ ?_)
  | (with_reducible refine Lim.bind ?_ (fun _ => ?_))
  | (with_reducible exact Lim.const _)
mutual
def spec_SequencesOf.j0 : Nat → List (S66) → List ByteArray → Bool → Option (List Int × Bool)
  | 0, _, _, _ => none
  | k + 1, x0, x1, x21 => if x21 = true then (some (([] : List Int), false)) else (spec_SequencesOf.l0 k x0 x1 x1 (x1.length : Int) 0)
def spec_SequencesOf.l0 : Nat → List (S66) → List ByteArray → List ByteArray → Int → Int → Option (List Int × Bool)
  | 0, _, _, _, _, _ => none
  | k + 1, x0, x1, x22, x23, x24 => if x24 < x23 then (if 0 ≤ x24 then (if x24 < (x22.length : Int) then ((spec_quPattern.f k (rdOf ByteArray.empty x22 x24)).bind fun t150 => (if t150 = true then (spec_SequencesOf.l0 k x0 x1 x22 x23 (wrap64 (x24 + 1))) else (some (([] : List Int), false)))) else (none)) else (none)) else (spec_SequencesOf.l1 k x0 x1 ([] : List Int) 0)
def spec_SequencesOf.l1 : Nat → List (S66) → List ByteArray → List Int → Int → Option (List Int × Bool)
  | 0, _, _, _, _ => none
  | k + 1, x0, x1, x8, x9 => if (wrap64 (x9 + (x1.length : Int))) ≤ (x0.length : Int) then (spec_SequencesOf.l2 k x0 x1 x8 x9 true x1 (x1.length : Int) 0) else (some (x8, true))
def spec_SequencesOf.l2 : Nat → List (S66) → List ByteArray → List Int → Int → Bool → List ByteArray → Int → Int → Option (List Int × Bool)
  | 0, _, _, _, _, _, _, _, _ => none
  | k + 1, x0, x1, x8, x9, x10, x41, x42, x43 => if x43 < x42 then (if 0 ≤ x43 then (if x43 < (x41.length : Int) then (if x10 = true then (if 0 ≤ (wrap64 (x9 + x43)) then (if (wrap64 (x9 + x43)) < (x0.length : Int) then ((spec_quLike.f k (rdOf ByteArray.empty x41 x43) ((rd_T66 x0 (wrap64 (x9 + x43))).f2)).bind fun t153 => (spec_SequencesOf.l2 k x0 x1 x8 x9 t153 x41 x42 (wrap64 (x43 + 1)))) else (none)) else (none)) else (spec_SequencesOf.l2 k x0 x1 x8 x9 false x41 x42 (wrap64 (x43 + 1)))) else (none)) else (none)) else (if x10 = true then (if x8.length < 17592186044416 then (spec_SequencesOf.l1 k x0 x1 (x8 ++ [x9]) (wrap64 (x9 + 1))) else (none)) else (spec_SequencesOf.l1 k x0 x1 x8 (wrap64 (x9 + 1))))
end
def spec_SequencesOf.f (k : Nat) (l0 : List (S66)) (l1 : List ByteArray) : Option (List Int × Bool) := (spec_tiGood.f k l0).bind fun t147 => (if t147 = true then ((spec_l1In.f (l1.length : Int) 1 8).bind fun t148 => (spec_SequencesOf.j0 k l0 l1 (!t148))) else (spec_SequencesOf.j0 k l0 l1 true))
theorem spec_SequencesOf.mono_l : ∀ k, (∀ y0 y1 y2, LeO (spec_SequencesOf.j0 k y0 y1 y2) (spec_SequencesOf.j0 (k + 1) y0 y1 y2)) ∧ (∀ y0 y1 y2 y3 y4, LeO (spec_SequencesOf.l0 k y0 y1 y2 y3 y4) (spec_SequencesOf.l0 (k + 1) y0 y1 y2 y3 y4)) ∧ (∀ y0 y1 y2 y3, LeO (spec_SequencesOf.l1 k y0 y1 y2 y3) (spec_SequencesOf.l1 (k + 1) y0 y1 y2 y3)) ∧ (∀ y0 y1 y2 y3 y4 y5 y6 y7, LeO (spec_SequencesOf.l2 k y0 y1 y2 y3 y4 y5 y6 y7) (spec_SequencesOf.l2 (k + 1) y0 y1 y2 y3 y4 y5 y6 y7))
  | 0 => ⟨fun _ _ _ r h => by simp [spec_SequencesOf.j0] at h, fun _ _ _ _ _ r h => by simp [spec_SequencesOf.l0] at h, fun _ _ _ _ r h => by simp [spec_SequencesOf.l1] at h, fun _ _ _ _ _ _ _ _ r h => by simp [spec_SequencesOf.l2] at h⟩
  | k + 1 => by
    obtain ⟨ih0, ih1, ih2, ih3⟩ := spec_SequencesOf.mono_l k
    refine ⟨?_, ?_, ?_, ?_⟩
    · intro y0 y1 y2
      unfold spec_SequencesOf.j0
      repeat' first
      | (with_reducible exact ih0 _ _ _)
      | (with_reducible exact ih1 _ _ _ _ _)
      | (with_reducible exact ih2 _ _ _ _)
      | (with_reducible exact ih3 _ _ _ _ _ _ _ _)
      | (with_reducible exact spec_quLike.mono _ _ _)
      | (with_reducible exact spec_quPattern.mono _ _)
      | (with_reducible exact spec_tiGood.mono _ _)
      | (with_reducible exact LeO.refl _)
      | (with_reducible exact LeO.none _)
      | (with_reducible refine LeO.ite ?_ ?_)
      | (with_reducible refine LeO.bind ?_ (fun _ => ?_))
      | exact ih0 _ _ _
      | exact ih1 _ _ _ _ _
      | exact ih2 _ _ _ _
      | exact ih3 _ _ _ _ _ _ _ _
      | exact spec_quLike.mono _ _ _
      | exact spec_quPattern.mono _ _
      | exact spec_tiGood.mono _ _
      | exact LeO.none _
      | refine LeO.ite ?_ ?_
      | refine LeO.bind ?_ (fun _ => ?_)
    · intro y0 y1 y2 y3 y4
      unfold spec_SequencesOf.l0
      repeat' first
      | (with_reducible exact ih0 _ _ _)
      | (with_reducible exact ih1 _ _ _ _ _)
      | (with_reducible exact ih2 _ _ _ _)
      | (with_reducible exact ih3 _ _ _ _ _ _ _ _)
      | (with_reducible exact spec_quLike.mono _ _ _)
      | (with_reducible exact spec_quPattern.mono _ _)
      | (with_reducible exact spec_tiGood.mono _ _)
      | (with_reducible exact LeO.refl _)
      | (with_reducible exact LeO.none _)
      | (with_reducible refine LeO.ite ?_ ?_)
      | (with_reducible refine LeO.bind ?_ (fun _ => ?_))
      | exact ih0 _ _ _
      | exact ih1 _ _ _ _ _
      | exact ih2 _ _ _ _
      | exact ih3 _ _ _ _ _ _ _ _
      | exact spec_quLike.mono _ _ _
      | exact spec_quPattern.mono _ _
      | exact spec_tiGood.mono _ _
      | exact LeO.none _
      | refine LeO.ite ?_ ?_
      | refine LeO.bind ?_ (fun _ => ?_)
    · intro y0 y1 y2 y3
      unfold spec_SequencesOf.l1
      repeat' first
      | (with_reducible exact ih0 _ _ _)
      | (with_reducible exact ih1 _ _ _ _ _)
      | (with_reducible exact ih2 _ _ _ _)
      | (with_reducible exact ih3 _ _ _ _ _ _ _ _)
      | (with_reducible exact spec_quLike.mono _ _ _)
      | (with_reducible exact spec_quPattern.mono _ _)
      | (with_reducible exact spec_tiGood.mono _ _)
      | (with_reducible exact LeO.refl _)
      | (with_reducible exact LeO.none _)
      | (with_reducible refine LeO.ite ?_ ?_)
      | (with_reducible refine LeO.bind ?_ (fun _ => ?_))
      | exact ih0 _ _ _
      | exact ih1 _ _ _ _ _
      | exact ih2 _ _ _ _
      | exact ih3 _ _ _ _ _ _ _ _
      | exact spec_quLike.mono _ _ _
      | exact spec_quPattern.mono _ _
      | exact spec_tiGood.mono _ _
      | exact LeO.none _
      | refine LeO.ite ?_ ?_
      | refine LeO.bind ?_ (fun _ => ?_)
    · intro y0 y1 y2 y3 y4 y5 y6 y7
      unfold spec_SequencesOf.l2
      repeat' first
      | (with_reducible exact ih0 _ _ _)
      | (with_reducible exact ih1 _ _ _ _ _)
      | (with_reducible exact ih2 _ _ _ _)
      | (with_reducible exact ih3 _ _ _ _ _ _ _ _)
      | (with_reducible exact spec_quLike.mono _ _ _)
      | (with_reducible exact spec_quPattern.mono _ _)
      | (with_reducible exact spec_tiGood.mono _ _)
      | (with_reducible exact LeO.refl _)
      | (with_reducible exact LeO.none _)
      | (with_reducible refine LeO.ite ?_ ?_)
      | (with_reducible refine LeO.bind ?_ (fun _ => ?_))
      | exact ih0 _ _ _
      | exact ih1 _ _ _ _ _
      | exact ih2 _ _ _ _
      | exact ih3 _ _ _ _ _ _ _ _
      | exact spec_quLike.mono _ _ _
      | exact spec_quPattern.mono _ _
      | exact spec_tiGood.mono _ _
      | exact LeO.none _
      | refine LeO.ite ?_ ?_
      | refine LeO.bind ?_ (fun _ => ?_)
theorem spec_SequencesOf.mono : ∀ a0 a1 k, LeO (spec_SequencesOf.f k a0 a1) (spec_SequencesOf.f (k + 1) a0 a1) := by
  intro a0 a1 k
  obtain ⟨ih0, ih1, ih2, ih3⟩ := spec_SequencesOf.mono_l k
  unfold spec_SequencesOf.f
  repeat' first
      | (with_reducible exact ih0 _ _ _)
      | (with_reducible exact ih1 _ _ _ _ _)
      | (with_reducible exact ih2 _ _ _ _)
      | (with_reducible exact ih3 _ _ _ _ _ _ _ _)
      | (with_reducible exact spec_quLike.mono _ _ _)
      | (with_reducible exact spec_quPattern.mono _ _)
      | (with_reducible exact spec_tiGood.mono _ _)
      | (with_reducible exact LeO.refl _)
      | (with_reducible exact LeO.none _)
      | (with_reducible refine LeO.ite ?_ ?_)
      | (with_reducible refine LeO.bind ?_ (fun _ => ?_))
      | exact ih0 _ _ _
      | exact ih1 _ _ _ _ _
      | exact ih2 _ _ _ _
      | exact ih3 _ _ _ _ _ _ _ _
      | exact spec_quLike.mono _ _ _
      | exact spec_quPattern.mono _ _
      | exact spec_tiGood.mono _ _
      | exact LeO.none _
      | refine LeO.ite ?_ ?_
      | refine LeO.bind ?_ (fun _ => ?_)
noncomputable def spec_SequencesOf.J0 (x0 : List (S66)) (x1 : List ByteArray) (x21 : Bool) : Option (List Int × Bool) := lim fun k => spec_SequencesOf.j0 k x0 x1 x21
theorem spec_SequencesOf.J0_lim (x0 : List (S66)) (x1 : List ByteArray) (x21 : Bool) : Lim (fun k => spec_SequencesOf.j0 k x0 x1 x21) (spec_SequencesOf.J0 x0 x1 x21) := ⟨fun k => (spec_SequencesOf.mono_l k).1 x0 x1 x21, rfl⟩
noncomputable def spec_SequencesOf.L0 (x0 : List (S66)) (x1 : List ByteArray) (x22 : List ByteArray) (x23 : Int) (x24 : Int) : Option (List Int × Bool) := lim fun k => spec_SequencesOf.l0 k x0 x1 x22 x23 x24
theorem spec_SequencesOf.L0_lim (x0 : List (S66)) (x1 : List ByteArray) (x22 : List ByteArray) (x23 : Int) (x24 : Int) : Lim (fun k => spec_SequencesOf.l0 k x0 x1 x22 x23 x24) (spec_SequencesOf.L0 x0 x1 x22 x23 x24) := ⟨fun k => (spec_SequencesOf.mono_l k).2.1 x0 x1 x22 x23 x24, rfl⟩
noncomputable def spec_SequencesOf.L1 (x0 : List (S66)) (x1 : List ByteArray) (x8 : List Int) (x9 : Int) : Option (List Int × Bool) := lim fun k => spec_SequencesOf.l1 k x0 x1 x8 x9
theorem spec_SequencesOf.L1_lim (x0 : List (S66)) (x1 : List ByteArray) (x8 : List Int) (x9 : Int) : Lim (fun k => spec_SequencesOf.l1 k x0 x1 x8 x9) (spec_SequencesOf.L1 x0 x1 x8 x9) := ⟨fun k => (spec_SequencesOf.mono_l k).2.2.1 x0 x1 x8 x9, rfl⟩
noncomputable def spec_SequencesOf.L2 (x0 : List (S66)) (x1 : List ByteArray) (x8 : List Int) (x9 : Int) (x10 : Bool) (x41 : List ByteArray) (x42 : Int) (x43 : Int) : Option (List Int × Bool) := lim fun k => spec_SequencesOf.l2 k x0 x1 x8 x9 x10 x41 x42 x43
theorem spec_SequencesOf.L2_lim (x0 : List (S66)) (x1 : List ByteArray) (x8 : List Int) (x9 : Int) (x10 : Bool) (x41 : List ByteArray) (x42 : Int) (x43 : Int) : Lim (fun k => spec_SequencesOf.l2 k x0 x1 x8 x9 x10 x41 x42 x43) (spec_SequencesOf.L2 x0 x1 x8 x9 x10 x41 x42 x43) := ⟨fun k => (spec_SequencesOf.mono_l k).2.2.2 x0 x1 x8 x9 x10 x41 x42 x43, rfl⟩
noncomputable def spec_SequencesOf.F (l0 : List (S66)) (l1 : List ByteArray) : Option (List Int × Bool) := lim fun k => spec_SequencesOf.f k l0 l1
theorem spec_SequencesOf.F_lim (l0 : List (S66)) (l1 : List ByteArray) : Lim (fun k => spec_SequencesOf.f k l0 l1) (spec_SequencesOf.F l0 l1) := ⟨spec_SequencesOf.mono l0 l1, rfl⟩
theorem spec_SequencesOf.J0_eq (x0 : List (S66)) (x1 : List ByteArray) (x21 : Bool) : spec_SequencesOf.J0 x0 x1 x21 = (if x21 = true then (some (([] : List Int), false)) else (spec_SequencesOf.L0 x0 x1 x1 (x1.length : Int) 0)) := by
  refine Lim.succ_eq (spec_SequencesOf.J0_lim x0 x1 x21).mon ?_
  simp only [spec_SequencesOf.j0]
  repeat' first
  | (with_reducible exact spec_SequencesOf.J0_lim _ _ _)
  | (with_reducible exact spec_SequencesOf.L0_lim _ _ _ _ _)
  | (with_reducible exact spec_SequencesOf.L1_lim _ _ _ _)
  | (with_reducible exact spec_SequencesOf.L2_lim _ _ _ _ _ _ _ _)
  | (with_reducible exact spec_quLike.F_lim _ _)
  | (with_reducible exact spec_quPattern.F_lim _)
  | (with_reducible exact spec_tiGood.F_lim _)
  | (with_reducible refine Lim.ite ?_ ?_)
  | (with_reducible refine Lim.bind ?_ (fun _ => ?_))
  | (with_reducible exact Lim.const _)
theorem spec_SequencesOf.L0_eq (x0 : List (S66)) (x1 : List ByteArray) (x22 : List ByteArray) (x23 : Int) (x24 : Int) : spec_SequencesOf.L0 x0 x1 x22 x23 x24 = (if x24 < x23 then (if 0 ≤ x24 then (if x24 < (x22.length : Int) then ((spec_quPattern.F (rdOf ByteArray.empty x22 x24)).bind fun t150 => (if t150 = true then (spec_SequencesOf.L0 x0 x1 x22 x23 (wrap64 (x24 + 1))) else (some (([] : List Int), false)))) else (none)) else (none)) else (spec_SequencesOf.L1 x0 x1 ([] : List Int) 0)) := by
  refine Lim.succ_eq (spec_SequencesOf.L0_lim x0 x1 x22 x23 x24).mon ?_
  simp only [spec_SequencesOf.l0]
  repeat' first
  | (with_reducible exact spec_SequencesOf.J0_lim _ _ _)
  | (with_reducible exact spec_SequencesOf.L0_lim _ _ _ _ _)
  | (with_reducible exact spec_SequencesOf.L1_lim _ _ _ _)
  | (with_reducible exact spec_SequencesOf.L2_lim _ _ _ _ _ _ _ _)
  | (with_reducible exact spec_quLike.F_lim _ _)
  | (with_reducible exact spec_quPattern.F_lim _)
  | (with_reducible exact spec_tiGood.F_lim _)
  | (with_reducible refine Lim.ite ?_ ?_)
  | (with_reducible refine Lim.bind ?_ (fun _ => ?_))
  | (with_reducible exact Lim.const _)
theorem spec_SequencesOf.L1_eq (x0 : List (S66)) (x1 : List ByteArray) (x8 : List Int) (x9 : Int) : spec_SequencesOf.L1 x0 x1 x8 x9 = (if (wrap64 (x9 + (x1.length : Int))) ≤ (x0.length : Int) then (spec_SequencesOf.L2 x0 x1 x8 x9 true x1 (x1.length : Int) 0) else (some (x8, true))) := by
  refine Lim.succ_eq (spec_SequencesOf.L1_lim x0 x1 x8 x9).mon ?_
  simp only [spec_SequencesOf.l1]
  repeat' first
  | (with_reducible exact spec_SequencesOf.J0_lim _ _ _)
  | (with_reducible exact spec_SequencesOf.L0_lim _ _ _ _ _)
  | (with_reducible exact spec_SequencesOf.L1_lim _ _ _ _)
  | (with_reducible exact spec_SequencesOf.L2_lim _ _ _ _ _ _ _ _)
  | (with_reducible exact spec_quLike.F_lim _ _)
  | (with_reducible exact spec_quPattern.F_lim _)
  | (with_reducible exact spec_tiGood.F_lim _)
  | (with_reducible refine Lim.ite ?_ ?_)
  | (with_reducible refine Lim.bind ?_ (fun _ => ?_))
  | (with_reducible exact Lim.const _)
theorem spec_SequencesOf.L2_eq (x0 : List (S66)) (x1 : List ByteArray) (x8 : List Int) (x9 : Int) (x10 : Bool) (x41 : List ByteArray) (x42 : Int) (x43 : Int) : spec_SequencesOf.L2 x0 x1 x8 x9 x10 x41 x42 x43 = (if x43 < x42 then (if 0 ≤ x43 then (if x43 < (x41.length : Int) then (if x10 = true then (if 0 ≤ (wrap64 (x9 + x43)) then (if (wrap64 (x9 + x43)) < (x0.length : Int) then ((spec_quLike.F (rdOf ByteArray.empty x41 x43) ((rd_T66 x0 (wrap64 (x9 + x43))).f2)).bind fun t153 => (spec_SequencesOf.L2 x0 x1 x8 x9 t153 x41 x42 (wrap64 (x43 + 1)))) else (none)) else (none)) else (spec_SequencesOf.L2 x0 x1 x8 x9 false x41 x42 (wrap64 (x43 + 1)))) else (none)) else (none)) else (if x10 = true then (if x8.length < 17592186044416 then (spec_SequencesOf.L1 x0 x1 (x8 ++ [x9]) (wrap64 (x9 + 1))) else (none)) else (spec_SequencesOf.L1 x0 x1 x8 (wrap64 (x9 + 1))))) := by
  refine Lim.succ_eq (spec_SequencesOf.L2_lim x0 x1 x8 x9 x10 x41 x42 x43).mon ?_
  simp only [spec_SequencesOf.l2]
  repeat' first
  | (with_reducible exact spec_SequencesOf.J0_lim _ _ _)
  | (with_reducible exact spec_SequencesOf.L0_lim _ _ _ _ _)
  | (with_reducible exact spec_SequencesOf.L1_lim _ _ _ _)
  | (with_reducible exact spec_SequencesOf.L2_lim _ _ _ _ _ _ _ _)
  | (with_reducible exact spec_quLike.F_lim _ _)
  | (with_reducible exact spec_quPattern.F_lim _)
  | (with_reducible exact spec_tiGood.F_lim _)
  | (with_reducible refine Lim.ite ?_ ?_)
  | (with_reducible refine Lim.bind ?_ (fun _ => ?_))
  | (with_reducible exact Lim.const _)
theorem spec_SequencesOf.F_eq (l0 : List (S66)) (l1 : List ByteArray) : spec_SequencesOf.F l0 l1 = ((spec_tiGood.F l0).bind fun t147 => (if t147 = true then ((spec_l1In.f (l1.length : Int) 1 8).bind fun t148 => (spec_SequencesOf.J0 l0 l1 (!t148))) else (spec_SequencesOf.J0 l0 l1 true))) := by
  refine Lim.eq_ ?_
  simp only [spec_SequencesOf.f]
  repeat' first
  | (with_reducible exact spec_SequencesOf.J0_lim _ _ _)
  | (with_reducible exact spec_SequencesOf.L0_lim _ _ _ _ _)
  | (with_reducible exact spec_SequencesOf.L1_lim _ _ _ _)
  | (with_reducible exact spec_SequencesOf.L2_lim _ _ _ _ _ _ _ _)
  | (with_reducible exact spec_quLike.F_lim _ _)
  | (with_reducible exact spec_quPattern.F_lim _)
  | (with_reducible exact spec_tiGood.F_lim _)
  | (with_reducible refine Lim.ite ?_ ?_)
  | (with_reducible refine Lim.bind ?_ (fun _ => ?_))
  | (with_reducible exact Lim.const _)
def laws_toStringS.l0 : Nat → List ByteArray → List ByteArray → Int → Option (List ByteArray)
  | 0, _, _, _ => none
  | k + 1, x0, x3, x4 => if x4 < (x0.length : Int) then (if 0 ≤ x4 then (if x4 < (x3.length : Int) then (laws_toStringS.l0 k x0 (x3.set (x4 : Int).toNat (rdOf ByteArray.empty x0 x4)) (wrap64 (x4 + 1))) else (none)) else (none)) else (some x3)
def laws_toStringS.f (k : Nat) (l0 : List ByteArray) : Option (List ByteArray) := if 0 ≤ (l0.length : Int) then (if ((l0.length : Int) : Int).toNat ≤ 17592186044416 then (laws_toStringS.l0 k l0 (List.replicate ((l0.length : Int) : Int).toNat (⟨#[]⟩ : ByteArray)) 0) else (none)) else (none)
theorem laws_toStringS.mono_l : ∀ k, (∀ y0 y1 y2, LeO (laws_toStringS.l0 k y0 y1 y2) (laws_toStringS.l0 (k + 1) y0 y1 y2))
  | 0 => fun _ _ _ r h => by simp [laws_toStringS.l0] at h
  | k + 1 => by
    have ih0 := laws_toStringS.mono_l k
    · intro y0 y1 y2
      unfold laws_toStringS.l0
      repeat' first
      | (with_reducible exact ih0 _ _ _)
      | (with_reducible exact LeO.refl _)
      | (with_reducible exact LeO.none _)
      | (with_reducible refine LeO.ite ?_ ?_)
      | (with_reducible refine LeO.bind ?_ (fun _ => ?_))
      | exact ih0 _ _ _
      | exact LeO.none _
      | refine LeO.ite ?_ ?_
      | refine LeO.bind ?_ (fun _ => ?_)
theorem laws_toStringS.mono : ∀ a0 k, LeO (laws_toStringS.f k a0) (laws_toStringS.f (k + 1) a0) := by
  intro a0 k
  have ih0 := laws_toStringS.mono_l k
  unfold laws_toStringS.f
  repeat' first
      | (with_reducible exact ih0 _ _ _)
      | (with_reducible exact LeO.refl _)
      | (with_reducible exact LeO.none _)
      | (with_reducible refine LeO.ite ?_ ?_)
      | (with_reducible refine LeO.bind ?_ (fun _ => ?_))
      | exact ih0 _ _ _
      | exact LeO.none _
      | refine LeO.ite ?_ ?_
      | refine LeO.bind ?_ (fun _ => ?_)
noncomputable def laws_toStringS.L0 (x0 : List ByteArray) (x3 : List ByteArray) (x4 : Int) : Option (List ByteArray) := lim fun k => laws_toStringS.l0 k x0 x3 x4
theorem laws_toStringS.L0_lim (x0 : List ByteArray) (x3 : List ByteArray) (x4 : Int) : Lim (fun k => laws_toStringS.l0 k x0 x3 x4) (laws_toStringS.L0 x0 x3 x4) := ⟨fun k => (laws_toStringS.mono_l k) x0 x3 x4, rfl⟩
noncomputable def laws_toStringS.F (l0 : List ByteArray) : Option (List ByteArray) := lim fun k => laws_toStringS.f k l0
theorem laws_toStringS.F_lim (l0 : List ByteArray) : Lim (fun k => laws_toStringS.f k l0) (laws_toStringS.F l0) := ⟨laws_toStringS.mono l0, rfl⟩
theorem laws_toStringS.L0_eq (x0 : List ByteArray) (x3 : List ByteArray) (x4 : Int) : laws_toStringS.L0 x0 x3 x4 = (if x4 < (x0.length : Int) then (if 0 ≤ x4 then (if x4 < (x3.length : Int) then (laws_toStringS.L0 x0 (x3.set (x4 : Int).toNat (rdOf ByteArray.empty x0 x4)) (wrap64 (x4 + 1))) else (none)) else (none)) else (some x3)) := by
  refine Lim.succ_eq (laws_toStringS.L0_lim x0 x3 x4).mon ?_
  simp only [laws_toStringS.l0]
  repeat' first
  | (with_reducible exact laws_toStringS.L0_lim _ _ _)
  | (with_reducible refine Lim.ite ?_ ?_)
  | (with_reducible refine Lim.bind ?_ (fun _ => ?_))
  | (with_reducible exact Lim.const _)
theorem laws_toStringS.F_eq (l0 : List ByteArray) : laws_toStringS.F l0 = (if 0 ≤ (l0.length : Int) then (if ((l0.length : Int) : Int).toNat ≤ 17592186044416 then (laws_toStringS.L0 l0 (List.replicate ((l0.length : Int) : Int).toNat (⟨#[]⟩ : ByteArray)) 0) else (none)) else (none)) := by
  refine Lim.eq_ ?_
  simp only [laws_toStringS.f]
  repeat' first
  | (with_reducible exact laws_toStringS.L0_lim _ _ _)
  | (with_reducible refine Lim.ite ?_ ?_)
  | (with_reducible refine Lim.bind ?_ (fun _ => ?_))
  | (with_reducible exact Lim.const _)
def impl_within.f (a0 : Int) (a1 : Int) (a2 : Int) : Option (Bool) := if a0 ≥ a1 then (some (decide (a0 ≤ a2))) else (some false)
def impl_isFrame.f (a0 : Int) : Option (Bool) := (impl_within.f a0 0 99999).bind fun t162 => (some t162)
def stringslite_IndexByte.f (a0 : ByteArray) (a1 : Int) : Option (Int) := some (Lib.indexByte a0.data.toList a1.toNat.toUInt8)
def strings_IndexByte.f (a0 : ByteArray) (a1 : Int) : Option (Int) := (stringslite_IndexByte.f a0 a1).bind fun t163 => (some t163)
def impl_hasOnly.l0 : Nat → ByteArray → ByteArray → Int → Int → Option (Bool)
  | 0, _, _, _, _ => none
  | k + 1, x0, x1, x7, x8 => if x8 < x7 then (if 0 ≤ x8 then (if x8 < (x0.size : Int) then ((strings_IndexByte.f x1 (bt x0 x8)).bind fun t164 => (if t164 < 0 then (some false) else (impl_hasOnly.l0 k x0 x1 x7 (wrap64 (x8 + 1))))) else (none)) else (none)) else (some true)
def impl_hasOnly.f (k : Nat) (a0 : ByteArray) (a1 : ByteArray) : Option (Bool) := impl_hasOnly.l0 k a0 a1 (a0.size : Int) 0
theorem impl_hasOnly.mono_l : ∀ k, (∀ y0 y1 y2 y3, LeO (impl_hasOnly.l0 k y0 y1 y2 y3) (impl_hasOnly.l0 (k + 1) y0 y1 y2 y3))
  | 0 => fun _ _ _ _ r h => by simp [impl_hasOnly.l0] at h
  | k + 1 => by
    have ih0 := impl_hasOnly.mono_l k
    · intro y0 y1 y2 y3
      unfold impl_hasOnly.l0
      repeat' first
      | (with_reducible exact ih0 _ _ _ _)
      | (with_reducible exact LeO.refl _)
      | (with_reducible exact LeO.none _)
      | (with_reducible refine LeO.ite ?_ ?_)
      | (with_reducible refine LeO.bind ?_ (fun _ => ?_))
      | exact ih0 _ _ _ _
      | exact LeO.none _
      | refine LeO.ite ?_ ?_
      | refine LeO.bind ?_ (fun _ => ?_)
theorem impl_hasOnly.mono : ∀ a0 a1 k, LeO (impl_hasOnly.f k a0 a1) (impl_hasOnly.f (k + 1) a0 a1) := by
  intro a0 a1 k
  have ih0 := impl_hasOnly.mono_l k
  unfold impl_hasOnly.f
  repeat' first
      | (with_reducible exact ih0 _ _ _ _)
      | (with_reducible exact LeO.refl _)
      | (with_reducible exact LeO.none _)
      | (with_reducible refine LeO.ite ?_ ?_)
      | (with_reducible refine LeO.bind ?_ (fun _ => ?_))
      | exact ih0 _ _ _ _
      | exact LeO.none _
      | refine LeO.ite ?_ ?_
      | refine LeO.bind ?_ (fun _ => ?_)
noncomputable def impl_hasOnly.L0 (x0 : ByteArray) (x1 : ByteArray) (x7 : Int) (x8 : Int) : Option (Bool) := lim fun k => impl_hasOnly.l0 k x0 x1 x7 x8
theorem impl_hasOnly.L0_lim (x0 : ByteArray) (x1 : ByteArray) (x7 : Int) (x8 : Int) : Lim (fun k => impl_hasOnly.l0 k x0 x1 x7 x8) (impl_hasOnly.L0 x0 x1 x7 x8) := ⟨fun k => (impl_hasOnly.mono_l k) x0 x1 x7 x8, rfl⟩
noncomputable def impl_hasOnly.F (a0 : ByteArray) (a1 : ByteArray) : Option (Bool) := lim fun k => impl_hasOnly.f k a0 a1
theorem impl_hasOnly.F_lim (a0 : ByteArray) (a1 : ByteArray) : Lim (fun k => impl_hasOnly.f k a0 a1) (impl_hasOnly.F a0 a1) := ⟨impl_hasOnly.mono a0 a1, rfl⟩
theorem impl_hasOnly.L0_eq (x0 : ByteArray) (x1 : ByteArray) (x7 : Int) (x8 : Int) : impl_hasOnly.L0 x0 x1 x7 x8 = (if x8 < x7 then (if 0 ≤ x8 then (if x8 < (x0.size : Int) then ((strings_IndexByte.f x1 (bt x0 x8)).bind fun t164 => (if t164 < 0 then (some false) else (impl_hasOnly.L0 x0 x1 x7 (wrap64 (x8 + 1))))) else (none)) else (none)) else (some true)) := by
  refine Lim.succ_eq (impl_hasOnly.L0_lim x0 x1 x7 x8).mon ?_
  simp only [impl_hasOnly.l0]
  repeat' first
  | (with_reducible exact impl_hasOnly.L0_lim _ _ _ _)
  | (with_reducible refine Lim.ite ?_ ?_)
  | (with_reducible refine Lim.bind ?_ (fun _ => ?_))
  | (with_reducible exact Lim.const _)
theorem impl_hasOnly.F_eq (a0 : ByteArray) (a1 : ByteArray) : impl_hasOnly.F a0 a1 = (impl_hasOnly.L0 a0 a1 (a0.size : Int) 0) := by
  refine Lim.eq_ ?_
  simp only [impl_hasOnly.f]
  repeat' first
  | (with_reducible exact impl_hasOnly.L0_lim _ _ _ _)
  | (with_reducible refine Lim.ite ?_ ?_)
  | (with_reducible refine Lim.bind ?_ (fun _ => ?_))
  | (with_reducible exact Lim.const _)
def impl_isWordOf.f (k : Nat) (a0 : ByteArray) (a1 : ByteArray) : Option (Bool) := (impl_within.f (a0.size : Int) 1 8).bind fun t165 => (if t165 = true then ((impl_hasOnly.f k a0 a1).bind fun t166 => (some t166)) else (some false))
theorem impl_isWordOf.mono : ∀ a0 a1 k, LeO (impl_isWordOf.f k a0 a1) (impl_isWordOf.f (k + 1) a0 a1) := by
  intro a0 a1 k
  unfold impl_isWordOf.f
  repeat' first
      | (with_reducible exact impl_hasOnly.mono _ _ _)
      | (with_reducible exact LeO.refl _)
      | (with_reducible exact LeO.none _)
      | (with_reducible refine LeO.ite ?_ ?_)
      | (with_reducible refine LeO.bind ?_ (fun _ => ?_))
      | exact impl_hasOnly.mono _ _ _
      | exact LeO.none _
      | refine LeO.ite ?_ ?_
      | refine LeO.bind ?_ (fun _ => ?_)
noncomputable def impl_isWordOf.F (a0 : ByteArray) (a1 : ByteArray) : Option (Bool) := lim fun k => impl_isWordOf.f k a0 a1
theorem impl_isWordOf.F_lim (a0 : ByteArray) (a1 : ByteArray) : Lim (fun k => impl_isWordOf.f k a0 a1) (impl_isWordOf.F a0 a1) := ⟨impl_isWordOf.mono a0 a1, rfl⟩
theorem impl_isWordOf.F_eq (a0 : ByteArray) (a1 : ByteArray) : impl_isWordOf.F a0 a1 = ((impl_within.f (a0.size : Int) 1 8).bind fun t165 => (if t165 = true then ((impl_hasOnly.F a0 a1).bind fun t166 => (some t166)) else (some false))) := by
  refine Lim.eq_ ?_
  simp only [impl_isWordOf.f]
  repeat' first
  | (with_reducible exact impl_hasOnly.F_lim _ _)
  | (with_reducible refine Lim.ite ?_ ?_)
  | (with_reducible refine Lim.bind ?_ (fun _ => ?_))
  | (with_reducible exact Lim.const _)
def impl_IsNote.f (k : Nat) (a0_0 : Int) (a0_1 : Int) (a0_2 : ByteArray) : Option (Bool) := (impl_isFrame.f a0_0).bind fun t168 => (if t168 = true then ((impl_isFrame.f a0_1).bind fun t169 => (if t169 = true then (if a0_0 < a0_1 then ((impl_isWordOf.f k a0_2 (⟨#[65, 66, 67, 68, 69, 70, 71, 72, 73, 74, 75, 76, 77, 78, 79, 80, 81, 82, 83, 84, 85, 86, 87, 88, 89, 90]⟩ : ByteArray)).bind fun t170 => (some t170)) else (some false)) else (some false))) else (some false))
theorem impl_IsNote.mono : ∀ a0 a1 a2 k, LeO (impl_IsNote.f k a0 a1 a2) (impl_IsNote.f (k + 1) a0 a1 a2) := by
  intro a0 a1 a2 k
  unfold impl_IsNote.f
  repeat' first
      | (with_reducible exact impl_isWordOf.mono _ _ _)
      | (with_reducible exact LeO.refl _)
      | (with_reducible exact LeO.none _)
      | (with_reducible refine LeO.ite ?_ ?_)
      | (with_reducible refine LeO.bind ?_ (fun _ => ?_))
      | exact impl_isWordOf.mono _ _ _
      | exact LeO.none _
      | refine LeO.ite ?_ ?_
      | refine LeO.bind ?_ (fun _ => ?_)
noncomputable def impl_IsNote.F (a0_0 : Int) (a0_1 : Int) (a0_2 : ByteArray) : Option (Bool) := lim fun k => impl_IsNote.f k a0_0 a0_1 a0_2
theorem impl_IsNote.F_lim (a0_0 : Int) (a0_1 : Int) (a0_2 : ByteArray) : Lim (fun k => impl_IsNote.f k a0_0 a0_1 a0_2) (impl_IsNote.F a0_0 a0_1 a0_2) := ⟨impl_IsNote.mono a0_0 a0_1 a0_2, rfl⟩
theorem impl_IsNote.F_eq (a0_0 : Int) (a0_1 : Int) (a0_2 : ByteArray) : impl_IsNote.F a0_0 a0_1 a0_2 = ((impl_isFrame.f a0_0).bind fun t168 => (if t168 = true then ((impl_isFrame.f a0_1).bind fun t169 => (if t169 = true then (if a0_0 < a0_1 then ((impl_isWordOf.F a0_2 (⟨#[65, 66, 67, 68, 69, 70, 71, 72, 73, 74, 75, 76, 77, 78, 79, 80, 81, 82, 83, 84, 85, 86, 87, 88, 89, 90]⟩ : ByteArray)).bind fun t170 => (some t170)) else (some false)) else (some false))) else (some false))) := by
  refine Lim.eq_ ?_
  simp only [impl_IsNote.f]
  repeat' first
  | (with_reducible exact impl_isWordOf.F_lim _ _)
  | (with_reducible refine Lim.ite ?_ ?_)
  | (with_reducible refine Lim.bind ?_ (fun _ => ?_))
  | (with_reducible exact Lim.const _)
def impl_IsTier.l0 : Nat → List (S66) → List (S66) → Int → Int → Option (Bool)
  | 0, _, _, _, _ => none
  | k + 1, x0, x5, x6, x7 => if x7 < x6 then (if 0 ≤ x7 then (if x7 < (x5.length : Int) then ((impl_IsNote.f k ((rd_T66 x5 x7).f0) ((rd_T66 x5 x7).f1) ((rd_T66 x5 x7).f2)).bind fun t173 => (if t173 = true then (if x7 > 0 then (if 0 ≤ (wrap64 (x7 - 1)) then (if (wrap64 (x7 - 1)) < (x0.length : Int) then (if ((rd_T66 x0 (wrap64 (x7 - 1))).f1) > ((rd_T66 x5 x7).f0) then (some false) else (impl_IsTier.l0 k x0 x5 x6 (wrap64 (x7 + 1)))) else (none)) else (none)) else (impl_IsTier.l0 k x0 x5 x6 (wrap64 (x7 + 1)))) else (some false))) else (none)) else (none)) else (some (decide ((x0.length : Int) ≤ 40)))
def impl_IsTier.f (k : Nat) (l0 : List (S66)) : Option (Bool) := impl_IsTier.l0 k l0 l0 (l0.length : Int) 0
theorem impl_IsTier.mono_l : ∀ k, (∀ y0 y1 y2 y3, LeO (impl_IsTier.l0 k y0 y1 y2 y3) (impl_IsTier.l0 (k + 1) y0 y1 y2 y3))
  | 0 => fun _ _ _ _ r h => by simp [impl_IsTier.l0] at h
  | k + 1 => by
    have ih0 := impl_IsTier.mono_l k
    · intro y0 y1 y2 y3
      unfold impl_IsTier.l0
      repeat' first
      | (with_reducible exact ih0 _ _ _ _)
      | (with_reducible exact impl_IsNote.mono _ _ _ _)
      | (with_reducible exact LeO.refl _)
      | (with_reducible exact LeO.none _)
      | (with_reducible refine LeO.ite ?_ ?_)
      | (with_reducible refine LeO.bind ?_ (fun _ => ?_))
      | exact ih0 _ _ _ _
      | exact impl_IsNote.mono _ _ _ _
      | exact LeO.none _
      | refine LeO.ite ?_ ?_
      | refine LeO.bind ?_ (fun _ => ?_)
theorem impl_IsTier.mono : ∀ a0 k, LeO (impl_IsTier.f k a0) (impl_IsTier.f (k + 1) a0) := by
  intro a0 k
  have ih0 := impl_IsTier.mono_l k
  unfold impl_IsTier.f
  repeat' first
      | (with_reducible exact ih0 _ _ _ _)
      | (with_reducible exact impl_IsNote.mono _ _ _ _)
      | (with_reducible exact LeO.refl _)
      | (with_reducible exact LeO.none _)
      | (with_reducible refine LeO.ite ?_ ?_)
      | (with_reducible refine LeO.bind ?_ (fun _ => ?_))
      | exact ih0 _ _ _ _
      | exact impl_IsNote.mono _ _ _ _
      | exact LeO.none _
      | refine LeO.ite ?_ ?_
      | refine LeO.bind ?_ (fun _ => ?_)
noncomputable def impl_IsTier.L0 (x0 : List (S66)) (x5 : List (S66)) (x6 : Int) (x7 : Int) : Option (Bool) := lim fun k => impl_IsTier.l0 k x0 x5 x6 x7
theorem impl_IsTier.L0_lim (x0 : List (S66)) (x5 : List (S66)) (x6 : Int) (x7 : Int) : Lim (fun k => impl_IsTier.l0 k x0 x5 x6 x7) (impl_IsTier.L0 x0 x5 x6 x7) := ⟨fun k => (impl_IsTier.mono_l k) x0 x5 x6 x7, rfl⟩
noncomputable def impl_IsTier.F (l0 : List (S66)) : Option (Bool) := lim fun k => impl_IsTier.f k l0
theorem impl_IsTier.F_lim (l0 : List (S66)) : Lim (fun k => impl_IsTier.f k l0) (impl_IsTier.F l0) := ⟨impl_IsTier.mono l0, rfl⟩
theorem impl_IsTier.L0_eq (x0 : List (S66)) (x5 : List (S66)) (x6 : Int) (x7 : Int) : impl_IsTier.L0 x0 x5 x6 x7 = (if x7 < x6 then (if 0 ≤ x7 then (if x7 < (x5.length : Int) then ((impl_IsNote.F ((rd_T66 x5 x7).f0) ((rd_T66 x5 x7).f1) ((rd_T66 x5 x7).f2)).bind fun t173 => (if t173 = true then (if x7 > 0 then (if 0 ≤ (wrap64 (x7 - 1)) then (if (wrap64 (x7 - 1)) < (x0.length : Int) then (if ((rd_T66 x0 (wrap64 (x7 - 1))).f1) > ((rd_T66 x5 x7).f0) then (some false) else (impl_IsTier.L0 x0 x5 x6 (wrap64 (x7 + 1)))) else (none)) else (none)) else (impl_IsTier.L0 x0 x5 x6 (wrap64 (x7 + 1)))) else (some false))) else (none)) else (none)) else (some (decide ((x0.length : Int) ≤ 40)))) := by
  refine Lim.succ_eq (impl_IsTier.L0_lim x0 x5 x6 x7).mon ?_
  simp only [impl_IsTier.l0]
  repeat' first
  | (with_reducible exact impl_IsTier.L0_lim _ _ _ _)
  | (with_reducible exact impl_IsNote.F_lim _ _ _)
  | (with_reducible refine Lim.ite ?_ ?_)
  | (with_reducible refine Lim.bind ?_ (fun _ => ?_))
  | (with_reducible exact Lim.const _)
theorem impl_IsTier.F_eq (l0 : List (S66)) : impl_IsTier.F l0 = (impl_IsTier.L0 l0 l0 (l0.length : Int) 0) := by
  refine Lim.eq_ ?_
  simp only [impl_IsTier.f]
  repeat' first
  | (with_reducible exact impl_IsTier.L0_lim _ _ _ _)
  | (with_reducible exact impl_IsNote.F_lim _ _ _)
  | (with_reducible refine Lim.ite ?_ ?_)
  | (with_reducible refine Lim.bind ?_ (fun _ => ?_))
  | (with_reducible exact Lim.const _)
def impl_isGlossPattern.f (k : Nat) (a0 : ByteArray) : Option (Bool) := (impl_isWordOf.f k a0 (⟨#[65, 66, 67, 68, 69, 70, 71, 72, 73, 74, 75, 76, 77, 78, 79, 80, 81, 82, 83, 84, 85, 86, 87, 88, 89, 90, 63, 42]⟩ : ByteArray)).bind fun t175 => (some t175)
theorem impl_isGlossPattern.mono : ∀ a0 k, LeO (impl_isGlossPattern.f k a0) (impl_isGlossPattern.f (k + 1) a0) := by
  intro a0 k
  unfold impl_isGlossPattern.f
  repeat' first
      | (with_reducible exact impl_isWordOf.mono _ _ _)
      | (with_reducible exact LeO.refl _)
      | (with_reducible exact LeO.none _)
      | (with_reducible refine LeO.ite ?_ ?_)
      | (with_reducible refine LeO.bind ?_ (fun _ => ?_))
      | exact impl_isWordOf.mono _ _ _
      | exact LeO.none _
      | refine LeO.ite ?_ ?_
      | refine LeO.bind ?_ (fun _ => ?_)
noncomputable def impl_isGlossPattern.F (a0 : ByteArray) : Option (Bool) := lim fun k => impl_isGlossPattern.f k a0
theorem impl_isGlossPattern.F_lim (a0 : ByteArray) : Lim (fun k => impl_isGlossPattern.f k a0) (impl_isGlossPattern.F a0) := ⟨impl_isGlossPattern.mono a0, rfl⟩
theorem impl_isGlossPattern.F_eq (a0 : ByteArray) : impl_isGlossPattern.F a0 = ((impl_isWordOf.F a0 (⟨#[65, 66, 67, 68, 69, 70, 71, 72, 73, 74, 75, 76, 77, 78, 79, 80, 81, 82, 83, 84, 85, 86, 87, 88, 89, 90, 63, 42]⟩ : ByteArray)).bind fun t175 => (some t175)) := by
  refine Lim.eq_ ?_
  simp only [impl_isGlossPattern.f]
  repeat' first
  | (with_reducible exact impl_isWordOf.F_lim _ _)
  | (with_reducible refine Lim.ite ?_ ?_)
  | (with_reducible refine Lim.bind ?_ (fun _ => ?_))
  | (with_reducible exact Lim.const _)
mutual
def impl_fits.l0 : Nat → ByteArray → ByteArray → List Bool → Int → Int → Option (Bool)
  | 0, _, _, _, _, _ => none
  | k + 1, x0, x1, x5, x20, x21 => if x21 < x20 then (if 0 ≤ (x5.length : Int) then (if ((x5.length : Int) : Int).toNat ≤ 281474976710656 then (impl_fits.l1 k x0 x1 x5 x21 (List.replicate ((x5.length : Int) : Int).toNat false) x20 x21 (x5.length : Int) 0) else (none)) else (none)) else (if 0 ≤ (x1.size : Int) then (if (x1.size : Int) < (x5.length : Int) then (some (rdOf false x5 (x1.size : Int))) else (none)) else (none))
def impl_fits.l1 : Nat → ByteArray → ByteArray → List Bool → Int → List Bool → Int → Int → Int → Int → Option (Bool)
  | 0, _, _, _, _, _, _, _, _, _ => none
  | k + 1, x0, x1, x5, x6, x7, x20, x21, x28, x29 => if x29 < x28 then (if 0 ≤ x6 then (if x6 < (x0.size : Int) then (if (bt x0 x6) = 42 then (if 0 ≤ x29 then (if x29 < (x5.length : Int) then (if rdOf false x5 x29 = true then (if x29 < (x7.length : Int) then (impl_fits.l1 k x0 x1 x5 x6 (x7.set (x29 : Int).toNat true) x20 x21 x28 (wrap64 (x29 + 1))) else (none)) else (if x29 > 0 then (if 0 ≤ (wrap64 (x29 - 1)) then (if (wrap64 (x29 - 1)) < (x7.length : Int) then (if x29 < (x7.length : Int) then (impl_fits.l1 k x0 x1 x5 x6 (x7.set (x29 : Int).toNat (rdOf false x7 (wrap64 (x29 - 1)))) x20 x21 x28 (wrap64 (x29 + 1))) else (none)) else (none)) else (none)) else (if x29 < (x7.length : Int) then (impl_fits.l1 k x0 x1 x5 x6 (x7.set (x29 : Int).toNat false) x20 x21 x28 (wrap64 (x29 + 1))) else (none)))) else (none)) else (none)) else (if x29 > 0 then (if 0 ≤ (wrap64 (x29 - 1)) then (if (wrap64 (x29 - 1)) < (x5.length : Int) then (if rdOf false x5 (wrap64 (x29 - 1)) = true then (if (bt x0 x6) = 63 then (if 0 ≤ x29 then (if x29 < (x7.length : Int) then (impl_fits.l1 k x0 x1 x5 x6 (x7.set (x29 : Int).toNat true) x20 x21 x28 (wrap64 (x29 + 1))) else (none)) else (none)) else (if (wrap64 (x29 - 1)) < (x1.size : Int) then (if 0 ≤ x29 then (if x29 < (x7.length : Int) then (impl_fits.l1 k x0 x1 x5 x6 (x7.set (x29 : Int).toNat ((bt x0 x6) == (bt x1 (wrap64 (x29 - 1))))) x20 x21 x28 (wrap64 (x29 + 1))) else (none)) else (none)) else (none))) else (if 0 ≤ x29 then (if x29 < (x7.length : Int) then (impl_fits.l1 k x0 x1 x5 x6 (x7.set (x29 : Int).toNat false) x20 x21 x28 (wrap64 (x29 + 1))) else (none)) else (none))) else (none)) else (none)) else (if 0 ≤ x29 then (if x29 < (x7.length : Int) then (impl_fits.l1 k x0 x1 x5 x6 (x7.set (x29 : Int).toNat false) x20 x21 x28 (wrap64 (x29 + 1))) else (none)) else (none)))) else (none)) else (none)) else (impl_fits.l0 k x0 x1 x7 x20 (wrap64 (x21 + 1)))
end
def impl_fits.f (k : Nat) (a0 : ByteArray) (a1 : ByteArray) : Option (Bool) := if a0.toList = ([] : List UInt8) then (some (a1.toList == ([] : List UInt8))) else (if 0 ≤ (wrap64 ((a1.size : Int) + 1)) then (if (wrap64 ((a1.size : Int) + 1) : Int).toNat ≤ 281474976710656 then ((some (List.replicate (wrap64 ((a1.size : Int) + 1) : Int).toNat false : List Bool)).bind fun y176 => (if 0 < (y176.length : Int) then (impl_fits.l0 k a0 a1 (y176.set (0 : Int).toNat true) (a0.size : Int) 0) else (none))) else (none)) else (none))
theorem impl_fits.mono_l : ∀ k, (∀ y0 y1 y2 y3 y4, LeO (impl_fits.l0 k y0 y1 y2 y3 y4) (impl_fits.l0 (k + 1) y0 y1 y2 y3 y4)) ∧ (∀ y0 y1 y2 y3 y4 y5 y6 y7 y8, LeO (impl_fits.l1 k y0 y1 y2 y3 y4 y5 y6 y7 y8) (impl_fits.l1 (k + 1) y0 y1 y2 y3 y4 y5 y6 y7 y8))
  | 0 => ⟨fun _ _ _ _ _ r h => by simp [impl_fits.l0] at h, fun _ _ _ _ _ _ _ _ _ r h => by simp [impl_fits.l1] at h⟩
  | k + 1 => by
    obtain ⟨ih0, ih1⟩ := impl_fits.mono_l k
    refine ⟨?_, ?_⟩
    · intro y0 y1 y2 y3 y4
      unfold impl_fits.l0
      repeat' first
      | (with_reducible exact ih0 _ _ _ _ _)
      | (with_reducible exact ih1 _ _ _ _ _ _ _ _ _)
      | (with_reducible exact LeO.refl _)
      | (with_reducible exact LeO.none _)
      | (with_reducible refine LeO.ite ?_ ?_)
      | (with_reducible refine LeO.bind ?_ (fun _ => ?_))
      | exact ih0 _ _ _ _ _
      | exact ih1 _ _ _ _ _ _ _ _ _
      | exact LeO.none _
      | refine LeO.ite ?_ ?_
      | refine LeO.bind ?_ (fun _ => ?_)
    · intro y0 y1 y2 y3 y4 y5 y6 y7 y8
      unfold impl_fits.l1
      repeat' first
      | (with_reducible exact ih0 _ _ _ _ _)
      | (with_reducible exact ih1 _ _ _ _ _ _ _ _ _)
      | (with_reducible exact LeO.refl _)
      | (with_reducible exact LeO.none _)
      | (with_reducible refine LeO.ite ?_ ?_)
      | (with_reducible refine LeO.bind ?_ (fun _ => ?_))
      | exact ih0 _ _ _ _ _
      | exact ih1 _ _ _ _ _ _ _ _ _
      | exact LeO.none _
      | refine LeO.ite ?_ ?_
      | refine LeO.bind ?_ (fun _ => ?_)
theorem impl_fits.mono : ∀ a0 a1 k, LeO (impl_fits.f k a0 a1) (impl_fits.f (k + 1) a0 a1) := by
  intro a0 a1 k
  obtain ⟨ih0, ih1⟩ := impl_fits.mono_l k
  unfold impl_fits.f
  repeat' first
      | (with_reducible exact ih0 _ _ _ _ _)
      | (with_reducible exact ih1 _ _ _ _ _ _ _ _ _)
      | (with_reducible exact LeO.refl _)
      | (with_reducible exact LeO.none _)
      | (with_reducible refine LeO.ite ?_ ?_)
      | (with_reducible refine LeO.bind ?_ (fun _ => ?_))
      | exact ih0 _ _ _ _ _
      | exact ih1 _ _ _ _ _ _ _ _ _
      | exact LeO.none _
      | refine LeO.ite ?_ ?_
      | refine LeO.bind ?_ (fun _ => ?_)
noncomputable def impl_fits.L0 (x0 : ByteArray) (x1 : ByteArray) (x5 : List Bool) (x20 : Int) (x21 : Int) : Option (Bool) := lim fun k => impl_fits.l0 k x0 x1 x5 x20 x21
theorem impl_fits.L0_lim (x0 : ByteArray) (x1 : ByteArray) (x5 : List Bool) (x20 : Int) (x21 : Int) : Lim (fun k => impl_fits.l0 k x0 x1 x5 x20 x21) (impl_fits.L0 x0 x1 x5 x20 x21) := ⟨fun k => (impl_fits.mono_l k).1 x0 x1 x5 x20 x21, rfl⟩
noncomputable def impl_fits.L1 (x0 : ByteArray) (x1 : ByteArray) (x5 : List Bool) (x6 : Int) (x7 : List Bool) (x20 : Int) (x21 : Int) (x28 : Int) (x29 : Int) : Option (Bool) := lim fun k => impl_fits.l1 k x0 x1 x5 x6 x7 x20 x21 x28 x29
theorem impl_fits.L1_lim (x0 : ByteArray) (x1 : ByteArray) (x5 : List Bool) (x6 : Int) (x7 : List Bool) (x20 : Int) (x21 : Int) (x28 : Int) (x29 : Int) : Lim (fun k => impl_fits.l1 k x0 x1 x5 x6 x7 x20 x21 x28 x29) (impl_fits.L1 x0 x1 x5 x6 x7 x20 x21 x28 x29) := ⟨fun k => (impl_fits.mono_l k).2 x0 x1 x5 x6 x7 x20 x21 x28 x29, rfl⟩
noncomputable def impl_fits.F (a0 : ByteArray) (a1 : ByteArray) : Option (Bool) := lim fun k => impl_fits.f k a0 a1
theorem impl_fits.F_lim (a0 : ByteArray) (a1 : ByteArray) : Lim (fun k => impl_fits.f k a0 a1) (impl_fits.F a0 a1) := ⟨impl_fits.mono a0 a1, rfl⟩
theorem impl_fits.L0_eq (x0 : ByteArray) (x1 : ByteArray) (x5 : List Bool) (x20 : Int) (x21 : Int) : impl_fits.L0 x0 x1 x5 x20 x21 = (if x21 < x20 then (if 0 ≤ (x5.length : Int) then (if ((x5.length : Int) : Int).toNat ≤ 281474976710656 then (impl_fits.L1 x0 x1 x5 x21 (List.replicate ((x5.length : Int) : Int).toNat false) x20 x21 (x5.length : Int) 0) else (none)) else (none)) else (if 0 ≤ (x1.size : Int) then (if (x1.size : Int) < (x5.length : Int) then (some (rdOf false x5 (x1.size : Int))) else (none)) else (none))) := by
  refine Lim.succ_eq (impl_fits.L0_lim x0 x1 x5 x20 x21).mon ?_
  simp only [impl_fits.l0]
  repeat' first
  | (with_reducible exact impl_fits.L0_lim _ _ _ _ _)
  | (with_reducible exact impl_fits.L1_lim _ _ _ _ _ _ _ _ _)
  | (with_reducible refine Lim.ite ?_ ?_)
  | (with_reducible refine Lim.bind ?_ (fun _ => ?_))
  | (with_reducible exact Lim.const _)
theorem impl_fits.L1_eq (x0 : ByteArray) (x1 : ByteArray) (x5 : List Bool) (x6 : Int) (x7 : List Bool) (x20 : Int) (x21 : Int) (x28 : Int) (x29 : Int) : impl_fits.L1 x0 x1 x5 x6 x7 x20 x21 x28 x29 = (if x29 < x28 then (if 0 ≤ x6 then (if x6 < (x0.size : Int) then (if (bt x0 x6) = 42 then (if 0 ≤ x29 then (if x29 < (x5.length : Int) then (if rdOf false x5 x29 = true then (if x29 < (x7.length : Int) then (impl_fits.L1 x0 x1 x5 x6 (x7.set (x29 : Int).toNat true) x20 x21 x28 (wrap64 (x29 + 1))) else (none)) else (if x29 > 0 then (if 0 ≤ (wrap64 (x29 - 1)) then (if (wrap64 (x29 - 1)) < (x7.length : Int) then (if x29 < (x7.length : Int) then (impl_fits.L1 x0 x1 x5 x6 (x7.set (x29 : Int).toNat (rdOf false x7 (wrap64 (x29 - 1)))) x20 x21 x28 (wrap64 (x29 + 1))) else (none)) else (none)) else (none)) else (if x29 < (x7.length : Int) then (impl_fits.L1 x0 x1 x5 x6 (x7.set (x29 : Int).toNat false) x20 x21 x28 (wrap64 (x29 + 1))) else (none)))) else (none)) else (none)) else (if x29 > 0 then (if 0 ≤ (wrap64 (x29 - 1)) then (if (wrap64 (x29 - 1)) < (x5.length : Int) then (if rdOf false x5 (wrap64 (x29 - 1)) = true then (if (bt x0 x6) = 63 then (if 0 ≤ x29 then (if x29 < (x7.length : Int) then (impl_fits.L1 x0 x1 x5 x6 (x7.set (x29 : Int).toNat true) x20 x21 x28 (wrap64 (x29 + 1))) else (none)) else (none)) else (if (wrap64 (x29 - 1)) < (x1.size : Int) then (if 0 ≤ x29 then (if x29 < (x7.length : Int) then (impl_fits.L1 x0 x1 x5 x6 (x7.set (x29 : Int).toNat ((bt x0 x6) == (bt x1 (wrap64 (x29 - 1))))) x20 x21 x28 (wrap64 (x29 + 1))) else (none)) else (none)) else (none))) else (if 0 ≤ x29 then (if x29 < (x7.length : Int) then (impl_fits.L1 x0 x1 x5 x6 (x7.set (x29 : Int).toNat false) x20 x21 x28 (wrap64 (x29 + 1))) else (none)) else (none))) else (none)) else (none)) else (if 0 ≤ x29 then (if x29 < (x7.length : Int) then (impl_fits.L1 x0 x1 x5 x6 (x7.set (x29 : Int).toNat false) x20 x21 x28 (wrap64 (x29 + 1))) else (none)) else (none)))) else (none)) else (none)) else (impl_fits.L0 x0 x1 x7 x20 (wrap64 (x21 + 1)))) := by
  refine Lim.succ_eq (impl_fits.L1_lim x0 x1 x5 x6 x7 x20 x21 x28 x29).mon ?_
  simp only [impl_fits.l1]
  repeat' first
  | (with_reducible exact impl_fits.L0_lim _ _ _ _ _)
  | (with_reducible exact impl_fits.L1_lim _ _ _ _ _ _ _ _ _)
  | (with_reducible refine Lim.ite ?_ ?_)
  | (with_reducible refine Lim.bind ?_ (fun _ => ?_))
  | (with_reducible exact Lim.const _)
theorem impl_fits.F_eq (a0 : ByteArray) (a1 : ByteArray) : impl_fits.F a0 a1 = (if a0.toList = ([] : List UInt8) then (some (a1.toList == ([] : List UInt8))) else (if 0 ≤ (wrap64 ((a1.size : Int) + 1)) then (if (wrap64 ((a1.size : Int) + 1) : Int).toNat ≤ 281474976710656 then ((some (List.replicate (wrap64 ((a1.size : Int) + 1) : Int).toNat false : List Bool)).bind fun y176 => (if 0 < (y176.length : Int) then (impl_fits.L0 a0 a1 (y176.set (0 : Int).toNat true) (a0.size : Int) 0) else (none))) else (none)) else (none))) := by
  refine Lim.eq_ ?_
  simp only [impl_fits.f]
  repeat' first
  | (with_reducible exact impl_fits.L0_lim _ _ _ _ _)
  | (with_reducible exact impl_fits.L1_lim _ _ _ _ _ _ _ _ _)
  | (with_reducible refine Lim.ite ?_ ?_)
  | (with_reducible refine Lim.bind ?_ (fun _ => ?_))
  | (with_reducible exact Lim.const _)
def impl_allOf_string_1_impl_isGlossPattern.f (k : Nat) (a0 : ByteArray)  : Option (Bool) := (impl_isGlossPattern.f k a0).bind fun t194 => (some (!t194))
theorem impl_allOf_string_1_impl_isGlossPattern.mono : ∀ a0 k, LeO (impl_allOf_string_1_impl_isGlossPattern.f k a0) (impl_allOf_string_1_impl_isGlossPattern.f (k + 1) a0) := by
  intro a0 k
  unfold impl_allOf_string_1_impl_isGlossPattern.f
  repeat' first
      | (with_reducible exact impl_isGlossPattern.mono _ _)
      | (with_reducible exact LeO.refl _)
      | (with_reducible exact LeO.none _)
      | (with_reducible refine LeO.ite ?_ ?_)
      | (with_reducible refine LeO.bind ?_ (fun _ => ?_))
      | exact impl_isGlossPattern.mono _ _
      | exact LeO.none _
      | refine LeO.ite ?_ ?_
      | refine LeO.bind ?_ (fun _ => ?_)
noncomputable def impl_allOf_string_1_impl_isGlossPattern.F (a0 : ByteArray)  : Option (Bool) := lim fun k => impl_allOf_string_1_impl_isGlossPattern.f k a0
theorem impl_allOf_string_1_impl_isGlossPattern.F_lim (a0 : ByteArray)  : Lim (fun k => impl_allOf_string_1_impl_isGlossPattern.f k a0) (impl_allOf_string_1_impl_isGlossPattern.F a0) := ⟨impl_allOf_string_1_impl_isGlossPattern.mono a0, rfl⟩
theorem impl_allOf_string_1_impl_isGlossPattern.F_eq (a0 : ByteArray)  : impl_allOf_string_1_impl_isGlossPattern.F a0 = ((impl_isGlossPattern.F a0).bind fun t194 => (some (!t194))) := by
  refine Lim.eq_ ?_
  simp only [impl_allOf_string_1_impl_isGlossPattern.f]
  repeat' first
  | (with_reducible exact impl_isGlossPattern.F_lim _)
  | (with_reducible refine Lim.ite ?_ ?_)
  | (with_reducible refine Lim.bind ?_ (fun _ => ?_))
  | (with_reducible exact Lim.const _)
def slices_IndexFunc_string_impl_allOf_string_1_impl_isGlossPattern.l0 : Nat → List ByteArray → Int → Int → Option (Int)
  | 0, _, _, _ => none
  | k + 1, x0, x7, x8 => if x8 < x7 then (if 0 ≤ x8 then (if x8 < (x0.length : Int) then ((impl_allOf_string_1_impl_isGlossPattern.f k (rdOf ByteArray.empty x0 x8)).bind fun t196 => (if t196 = true then (some x8) else (slices_IndexFunc_string_impl_allOf_string_1_impl_isGlossPattern.l0 k x0 x7 (wrap64 (x8 + 1))))) else (none)) else (none)) else (some (-1))
def slices_IndexFunc_string_impl_allOf_string_1_impl_isGlossPattern.f (k : Nat) (l0 : List ByteArray)  : Option (Int) := slices_IndexFunc_string_impl_allOf_string_1_impl_isGlossPattern.l0 k l0 (l0.length : Int) 0
theorem slices_IndexFunc_string_impl_allOf_string_1_impl_isGlossPattern.mono_l : ∀ k, (∀ y0 y1 y2, LeO (slices_IndexFunc_string_impl_allOf_string_1_impl_isGlossPattern.l0 k y0 y1 y2) (slices_IndexFunc_string_impl_allOf_string_1_impl_isGlossPattern.l0 (k + 1) y0 y1 y2))
  | 0 => fun _ _ _ r h => by simp [slices_IndexFunc_string_impl_allOf_string_1_impl_isGlossPattern.l0] at h
  | k + 1 => by
    have ih0 := slices_IndexFunc_string_impl_allOf_string_1_impl_isGlossPattern.mono_l k
    · intro y0 y1 y2
      unfold slices_IndexFunc_string_impl_allOf_string_1_impl_isGlossPattern.l0
      repeat' first
      | (with_reducible exact ih0 _ _ _)
      | (with_reducible exact impl_allOf_string_1_impl_isGlossPattern.mono _ _)
      | (with_reducible exact LeO.refl _)
      | (with_reducible exact LeO.none _)
      | (with_reducible refine LeO.ite ?_ ?_)
      | (with_reducible refine LeO.bind ?_ (fun _ => ?_))
      | exact ih0 _ _ _
      | exact impl_allOf_string_1_impl_isGlossPattern.mono _ _
      | exact LeO.none _
      | refine LeO.ite ?_ ?_
      | refine LeO.bind ?_ (fun _ => ?_)
theorem slices_IndexFunc_string_impl_allOf_string_1_impl_isGlossPattern.mono : ∀ a0 k, LeO (slices_IndexFunc_string_impl_allOf_string_1_impl_isGlossPattern.f k a0) (slices_IndexFunc_string_impl_allOf_string_1_impl_isGlossPattern.f (k + 1) a0) := by
  intro a0 k
  have ih0 := slices_IndexFunc_string_impl_allOf_string_1_impl_isGlossPattern.mono_l k
  unfold slices_IndexFunc_string_impl_allOf_string_1_impl_isGlossPattern.f
  repeat' first
      | (with_reducible exact ih0 _ _ _)
      | (with_reducible exact impl_allOf_string_1_impl_isGlossPattern.mono _ _)
      | (with_reducible exact LeO.refl _)
      | (with_reducible exact LeO.none _)
      | (with_reducible refine LeO.ite ?_ ?_)
      | (with_reducible refine LeO.bind ?_ (fun _ => ?_))
      | exact ih0 _ _ _
      | exact impl_allOf_string_1_impl_isGlossPattern.mono _ _
      | exact LeO.none _
      | refine LeO.ite ?_ ?_
      | refine LeO.bind ?_ (fun _ => ?_)
noncomputable def slices_IndexFunc_string_impl_allOf_string_1_impl_isGlossPattern.L0 (x0 : List ByteArray) (x7 : Int) (x8 : Int) : Option (Int) := lim fun k => slices_IndexFunc_string_impl_allOf_string_1_impl_isGlossPattern.l0 k x0 x7 x8
theorem slices_IndexFunc_string_impl_allOf_string_1_impl_isGlossPattern.L0_lim (x0 : List ByteArray) (x7 : Int) (x8 : Int) : Lim (fun k => slices_IndexFunc_string_impl_allOf_string_1_impl_isGlossPattern.l0 k x0 x7 x8) (slices_IndexFunc_string_impl_allOf_string_1_impl_isGlossPattern.L0 x0 x7 x8) := ⟨fun k => (slices_IndexFunc_string_impl_allOf_string_1_impl_isGlossPattern.mono_l k) x0 x7 x8, rfl⟩
noncomputable def slices_IndexFunc_string_impl_allOf_string_1_impl_isGlossPattern.F (l0 : List ByteArray)  : Option (Int) := lim fun k => slices_IndexFunc_string_impl_allOf_string_1_impl_isGlossPattern.f k l0
theorem slices_IndexFunc_string_impl_allOf_string_1_impl_isGlossPattern.F_lim (l0 : List ByteArray)  : Lim (fun k => slices_IndexFunc_string_impl_allOf_string_1_impl_isGlossPattern.f k l0) (slices_IndexFunc_string_impl_allOf_string_1_impl_isGlossPattern.F l0) := ⟨slices_IndexFunc_string_impl_allOf_string_1_impl_isGlossPattern.mono l0, rfl⟩
theorem slices_IndexFunc_string_impl_allOf_string_1_impl_isGlossPattern.L0_eq (x0 : List ByteArray) (x7 : Int) (x8 : Int) : slices_IndexFunc_string_impl_allOf_string_1_impl_isGlossPattern.L0 x0 x7 x8 = (if x8 < x7 then (if 0 ≤ x8 then (if x8 < (x0.length : Int) then ((impl_allOf_string_1_impl_isGlossPattern.F (rdOf ByteArray.empty x0 x8)).bind fun t196 => (if t196 = true then (some x8) else (slices_IndexFunc_string_impl_allOf_string_1_impl_isGlossPattern.L0 x0 x7 (wrap64 (x8 + 1))))) else (none)) else (none)) else (some (-1))) := by
  refine Lim.succ_eq (slices_IndexFunc_string_impl_allOf_string_1_impl_isGlossPattern.L0_lim x0 x7 x8).mon ?_
  simp only [slices_IndexFunc_string_impl_allOf_string_1_impl_isGlossPattern.l0]
  repeat' first
  | (with_reducible exact slices_IndexFunc_string_impl_allOf_string_1_impl_isGlossPattern.L0_lim _ _ _)
  | (with_reducible exact impl_allOf_string_1_impl_isGlossPattern.F_lim _)
  | (with_reducible refine Lim.ite ?_ ?_)
  | (with_reducible refine Lim.bind ?_ (fun _ => ?_))
  | (with_reducible exact Lim.const _)
theorem slices_IndexFunc_string_impl_allOf_string_1_impl_isGlossPattern.F_eq (l0 : List ByteArray)  : slices_IndexFunc_string_impl_allOf_string_1_impl_isGlossPattern.F l0 = (slices_IndexFunc_string_impl_allOf_string_1_impl_isGlossPattern.L0 l0 (l0.length : Int) 0) := by
  refine Lim.eq_ ?_
  simp only [slices_IndexFunc_string_impl_allOf_string_1_impl_isGlossPattern.f]
  repeat' first
  | (with_reducible exact slices_IndexFunc_string_impl_allOf_string_1_impl_isGlossPattern.L0_lim _ _ _)
  | (with_reducible exact impl_allOf_string_1_impl_isGlossPattern.F_lim _)
  | (with_reducible refine Lim.ite ?_ ?_)
  | (with_reducible refine Lim.bind ?_ (fun _ => ?_))
  | (with_reducible exact Lim.const _)
def slices_ContainsFunc_string_impl_allOf_string_1_impl_isGlossPattern.f (k : Nat) (l0 : List ByteArray)  : Option (Bool) := (slices_IndexFunc_string_impl_allOf_string_1_impl_isGlossPattern.f k l0).bind fun t197 => (some (decide (t197 ≥ 0)))
theorem slices_ContainsFunc_string_impl_allOf_string_1_impl_isGlossPattern.mono : ∀ a0 k, LeO (slices_ContainsFunc_string_impl_allOf_string_1_impl_isGlossPattern.f k a0) (slices_ContainsFunc_string_impl_allOf_string_1_impl_isGlossPattern.f (k + 1) a0) := by
  intro a0 k
  unfold slices_ContainsFunc_string_impl_allOf_string_1_impl_isGlossPattern.f
  repeat' first
      | (with_reducible exact slices_IndexFunc_string_impl_allOf_string_1_impl_isGlossPattern.mono _ _)
      | (with_reducible exact LeO.refl _)
      | (with_reducible exact LeO.none _)
      | (with_reducible refine LeO.ite ?_ ?_)
      | (with_reducible refine LeO.bind ?_ (fun _ => ?_))
      | exact slices_IndexFunc_string_impl_allOf_string_1_impl_isGlossPattern.mono _ _
      | exact LeO.none _
      | refine LeO.ite ?_ ?_
      | refine LeO.bind ?_ (fun _ => ?_)
noncomputable def slices_ContainsFunc_string_impl_allOf_string_1_impl_isGlossPattern.F (l0 : List ByteArray)  : Option (Bool) := lim fun k => slices_ContainsFunc_string_impl_allOf_string_1_impl_isGlossPattern.f k l0
theorem slices_ContainsFunc_string_impl_allOf_string_1_impl_isGlossPattern.F_lim (l0 : List ByteArray)  : Lim (fun k => slices_ContainsFunc_string_impl_allOf_string_1_impl_isGlossPattern.f k l0) (slices_ContainsFunc_string_impl_allOf_string_1_impl_isGlossPattern.F l0) := ⟨slices_ContainsFunc_string_impl_allOf_string_1_impl_isGlossPattern.mono l0, rfl⟩
theorem slices_ContainsFunc_string_impl_allOf_string_1_impl_isGlossPattern.F_eq (l0 : List ByteArray)  : slices_ContainsFunc_string_impl_allOf_string_1_impl_isGlossPattern.F l0 = ((slices_IndexFunc_string_impl_allOf_string_1_impl_isGlossPattern.F l0).bind fun t197 => (some (decide (t197 ≥ 0)))) := by
  refine Lim.eq_ ?_
  simp only [slices_ContainsFunc_string_impl_allOf_string_1_impl_isGlossPattern.f]
  repeat' first
  | (with_reducible exact slices_IndexFunc_string_impl_allOf_string_1_impl_isGlossPattern.F_lim _)
  | (with_reducible refine Lim.ite ?_ ?_)
  | (with_reducible refine Lim.bind ?_ (fun _ => ?_))
  | (with_reducible exact Lim.const _)
def impl_allOf_string_impl_isGlossPattern.f (k : Nat) (l0 : List ByteArray)  : Option (Bool) := (slices_ContainsFunc_string_impl_allOf_string_1_impl_isGlossPattern.f k l0).bind fun t199 => (some (!t199))
theorem impl_allOf_string_impl_isGlossPattern.mono : ∀ a0 k, LeO (impl_allOf_string_impl_isGlossPattern.f k a0) (impl_allOf_string_impl_isGlossPattern.f (k + 1) a0) := by
  intro a0 k
  unfold impl_allOf_string_impl_isGlossPattern.f
  repeat' first
      | (with_reducible exact slices_ContainsFunc_string_impl_allOf_string_1_impl_isGlossPattern.mono _ _)
      | (with_reducible exact LeO.refl _)
      | (with_reducible exact LeO.none _)
      | (with_reducible refine LeO.ite ?_ ?_)
      | (with_reducible refine LeO.bind ?_ (fun _ => ?_))
      | exact slices_ContainsFunc_string_impl_allOf_string_1_impl_isGlossPattern.mono _ _
      | exact LeO.none _
      | refine LeO.ite ?_ ?_
      | refine LeO.bind ?_ (fun _ => ?_)
noncomputable def impl_allOf_string_impl_isGlossPattern.F (l0 : List ByteArray)  : Option (Bool) := lim fun k => impl_allOf_string_impl_isGlossPattern.f k l0
theorem impl_allOf_string_impl_isGlossPattern.F_lim (l0 : List ByteArray)  : Lim (fun k => impl_allOf_string_impl_isGlossPattern.f k l0) (impl_allOf_string_impl_isGlossPattern.F l0) := ⟨impl_allOf_string_impl_isGlossPattern.mono l0, rfl⟩
theorem impl_allOf_string_impl_isGlossPattern.F_eq (l0 : List ByteArray)  : impl_allOf_string_impl_isGlossPattern.F l0 = ((slices_ContainsFunc_string_impl_allOf_string_1_impl_isGlossPattern.F l0).bind fun t199 => (some (!t199))) := by
  refine Lim.eq_ ?_
  simp only [impl_allOf_string_impl_isGlossPattern.f]
  repeat' first
  | (with_reducible exact slices_ContainsFunc_string_impl_allOf_string_1_impl_isGlossPattern.F_lim _)
  | (with_reducible refine Lim.ite ?_ ?_)
  | (with_reducible refine Lim.bind ?_ (fun _ => ?_))
  | (with_reducible exact Lim.const _)
mutual
def impl_SequencesOf.j0 : Nat → List (S66) → List ByteArray → Bool → Option (List Int × Bool)
  | 0, _, _, _ => none
  | k + 1, x0, x1, x24 => if x24 = true then (some (([] : List Int), false)) else (impl_SequencesOf.l0 k x0 x1 ([] : List Int) (wrap64 ((wrap64 ((x0.length : Int) - (x1.length : Int))) + 1)) 0)
def impl_SequencesOf.l0 : Nat → List (S66) → List ByteArray → List Int → Int → Int → Option (List Int × Bool)
  | 0, _, _, _, _, _ => none
  | k + 1, x0, x1, x6, x30, x31 => if x31 < x30 then (impl_SequencesOf.l1 k x0 x1 x6 x31 true x30 x31 x1 (x1.length : Int) 0) else (some (x6, true))
def impl_SequencesOf.l1 : Nat → List (S66) → List ByteArray → List Int → Int → Bool → Int → Int → List ByteArray → Int → Int → Option (List Int × Bool)
  | 0, _, _, _, _, _, _, _, _, _, _ => none
  | k + 1, x0, x1, x6, x7, x8, x30, x31, x34, x35, x36 => if x36 < x35 then (if 0 ≤ x36 then (if x36 < (x34.length : Int) then (if x8 = true then (if 0 ≤ (wrap64 (x7 + x36)) then (if (wrap64 (x7 + x36)) < (x0.length : Int) then ((impl_fits.f k (rdOf ByteArray.empty x34 x36) ((rd_T66 x0 (wrap64 (x7 + x36))).f2)).bind fun t205 => (impl_SequencesOf.l1 k x0 x1 x6 x7 t205 x30 x31 x34 x35 (wrap64 (x36 + 1)))) else (none)) else (none)) else (impl_SequencesOf.l1 k x0 x1 x6 x7 false x30 x31 x34 x35 (wrap64 (x36 + 1)))) else (none)) else (none)) else (if x8 = true then (if x6.length < 17592186044416 then (impl_SequencesOf.l0 k x0 x1 (x6 ++ [x7]) x30 (wrap64 (x31 + 1))) else (none)) else (impl_SequencesOf.l0 k x0 x1 x6 x30 (wrap64 (x31 + 1))))
end
def impl_SequencesOf.f (k : Nat) (l0 : List (S66)) (l1 : List ByteArray) : Option (List Int × Bool) := (impl_IsTier.f k l0).bind fun t200 => (if t200 = true then ((impl_within.f (l1.length : Int) 1 8).bind fun t201 => (if t201 = true then ((impl_allOf_string_impl_isGlossPattern.f k l1).bind fun t202 => (impl_SequencesOf.j0 k l0 l1 (!t202))) else (impl_SequencesOf.j0 k l0 l1 true))) else (impl_SequencesOf.j0 k l0 l1 true))
theorem impl_SequencesOf.mono_l : ∀ k, (∀ y0 y1 y2, LeO (impl_SequencesOf.j0 k y0 y1 y2) (impl_SequencesOf.j0 (k + 1) y0 y1 y2)) ∧ (∀ y0 y1 y2 y3 y4, LeO (impl_SequencesOf.l0 k y0 y1 y2 y3 y4) (impl_SequencesOf.l0 (k + 1) y0 y1 y2 y3 y4)) ∧ (∀ y0 y1 y2 y3 y4 y5 y6 y7 y8 y9, LeO (impl_SequencesOf.l1 k y0 y1 y2 y3 y4 y5 y6 y7 y8 y9) (impl_SequencesOf.l1 (k + 1) y0 y1 y2 y3 y4 y5 y6 y7 y8 y9))
  | 0 => ⟨fun _ _ _ r h => by simp [impl_SequencesOf.j0] at h, fun _ _ _ _ _ r h => by simp [impl_SequencesOf.l0] at h, fun _ _ _ _ _ _ _ _ _ _ r h => by simp [impl_SequencesOf.l1] at h⟩
  | k + 1 => by
    obtain ⟨ih0, ih1, ih2⟩ := impl_SequencesOf.mono_l k
    refine ⟨?_, ?_, ?_⟩
    · intro y0 y1 y2
      unfold impl_SequencesOf.j0
      repeat' first
      | (with_reducible exact ih0 _ _ _)
      | (with_reducible exact ih1 _ _ _ _ _)
      | (with_reducible exact ih2 _ _ _ _ _ _ _ _ _ _)
      | (with_reducible exact impl_IsTier.mono _ _)
      | (with_reducible exact impl_allOf_string_impl_isGlossPattern.mono _ _)
      | (with_reducible exact impl_fits.mono _ _ _)
      | (with_reducible exact LeO.refl _)
      | (with_reducible exact LeO.none _)
      | (with_reducible refine LeO.ite ?_ ?_)
      | (with_reducible refine LeO.bind ?_ (fun _ => ?_))
      | exact ih0 _ _ _
      | exact ih1 _ _ _ _ _
      | exact ih2 _ _ _ _ _ _ _ _ _ _
      | exact impl_IsTier.mono _ _
      | exact impl_allOf_string_impl_isGlossPattern.mono _ _
      | exact impl_fits.mono _ _ _
      | exact LeO.none _
      | refine LeO.ite ?_ ?_
      | refine LeO.bind ?_ (fun _ => ?_)
    · intro y0 y1 y2 y3 y4
      unfold impl_SequencesOf.l0
      repeat' first
      | (with_reducible exact ih0 _ _ _)
      | (with_reducible exact ih1 _ _ _ _ _)
      | (with_reducible exact ih2 _ _ _ _ _ _ _ _ _ _)
      | (with_reducible exact impl_IsTier.mono _ _)
      | (with_reducible exact impl_allOf_string_impl_isGlossPattern.mono _ _)
      | (with_reducible exact impl_fits.mono _ _ _)
      | (with_reducible exact LeO.refl _)
      | (with_reducible exact LeO.none _)
      | (with_reducible refine LeO.ite ?_ ?_)
      | (with_reducible refine LeO.bind ?_ (fun _ => ?_))
      | exact ih0 _ _ _
      | exact ih1 _ _ _ _ _
      | exact ih2 _ _ _ _ _ _ _ _ _ _
      | exact impl_IsTier.mono _ _
      | exact impl_allOf_string_impl_isGlossPattern.mono _ _
      | exact impl_fits.mono _ _ _
      | exact LeO.none _
      | refine LeO.ite ?_ ?_
      | refine LeO.bind ?_ (fun _ => ?_)
    · intro y0 y1 y2 y3 y4 y5 y6 y7 y8 y9
      unfold impl_SequencesOf.l1
      repeat' first
      | (with_reducible exact ih0 _ _ _)
      | (with_reducible exact ih1 _ _ _ _ _)
      | (with_reducible exact ih2 _ _ _ _ _ _ _ _ _ _)
      | (with_reducible exact impl_IsTier.mono _ _)
      | (with_reducible exact impl_allOf_string_impl_isGlossPattern.mono _ _)
      | (with_reducible exact impl_fits.mono _ _ _)
      | (with_reducible exact LeO.refl _)
      | (with_reducible exact LeO.none _)
      | (with_reducible refine LeO.ite ?_ ?_)
      | (with_reducible refine LeO.bind ?_ (fun _ => ?_))
      | exact ih0 _ _ _
      | exact ih1 _ _ _ _ _
      | exact ih2 _ _ _ _ _ _ _ _ _ _
      | exact impl_IsTier.mono _ _
      | exact impl_allOf_string_impl_isGlossPattern.mono _ _
      | exact impl_fits.mono _ _ _
      | exact LeO.none _
      | refine LeO.ite ?_ ?_
      | refine LeO.bind ?_ (fun _ => ?_)
theorem impl_SequencesOf.mono : ∀ a0 a1 k, LeO (impl_SequencesOf.f k a0 a1) (impl_SequencesOf.f (k + 1) a0 a1) := by
  intro a0 a1 k
  obtain ⟨ih0, ih1, ih2⟩ := impl_SequencesOf.mono_l k
  unfold impl_SequencesOf.f
  repeat' first
      | (with_reducible exact ih0 _ _ _)
      | (with_reducible exact ih1 _ _ _ _ _)
      | (with_reducible exact ih2 _ _ _ _ _ _ _ _ _ _)
      | (with_reducible exact impl_IsTier.mono _ _)
      | (with_reducible exact impl_allOf_string_impl_isGlossPattern.mono _ _)
      | (with_reducible exact impl_fits.mono _ _ _)
      | (with_reducible exact LeO.refl _)
      | (with_reducible exact LeO.none _)
      | (with_reducible refine LeO.ite ?_ ?_)
      | (with_reducible refine LeO.bind ?_ (fun _ => ?_))
      | exact ih0 _ _ _
      | exact ih1 _ _ _ _ _
      | exact ih2 _ _ _ _ _ _ _ _ _ _
      | exact impl_IsTier.mono _ _
      | exact impl_allOf_string_impl_isGlossPattern.mono _ _
      | exact impl_fits.mono _ _ _
      | exact LeO.none _
      | refine LeO.ite ?_ ?_
      | refine LeO.bind ?_ (fun _ => ?_)
noncomputable def impl_SequencesOf.J0 (x0 : List (S66)) (x1 : List ByteArray) (x24 : Bool) : Option (List Int × Bool) := lim fun k => impl_SequencesOf.j0 k x0 x1 x24
theorem impl_SequencesOf.J0_lim (x0 : List (S66)) (x1 : List ByteArray) (x24 : Bool) : Lim (fun k => impl_SequencesOf.j0 k x0 x1 x24) (impl_SequencesOf.J0 x0 x1 x24) := ⟨fun k => (impl_SequencesOf.mono_l k).1 x0 x1 x24, rfl⟩
noncomputable def impl_SequencesOf.L0 (x0 : List (S66)) (x1 : List ByteArray) (x6 : List Int) (x30 : Int) (x31 : Int) : Option (List Int × Bool) := lim fun k => impl_SequencesOf.l0 k x0 x1 x6 x30 x31
theorem impl_SequencesOf.L0_lim (x0 : List (S66)) (x1 : List ByteArray) (x6 : List Int) (x30 : Int) (x31 : Int) : Lim (fun k => impl_SequencesOf.l0 k x0 x1 x6 x30 x31) (impl_SequencesOf.L0 x0 x1 x6 x30 x31) := ⟨fun k => (impl_SequencesOf.mono_l k).2.1 x0 x1 x6 x30 x31, rfl⟩
noncomputable def impl_SequencesOf.L1 (x0 : List (S66)) (x1 : List ByteArray) (x6 : List Int) (x7 : Int) (x8 : Bool) (x30 : Int) (x31 : Int) (x34 : List ByteArray) (x35 : Int) (x36 : Int) : Option (List Int × Bool) := lim fun k => impl_SequencesOf.l1 k x0 x1 x6 x7 x8 x30 x31 x34 x35 x36
theorem impl_SequencesOf.L1_lim (x0 : List (S66)) (x1 : List ByteArray) (x6 : List Int) (x7 : Int) (x8 : Bool) (x30 : Int) (x31 : Int) (x34 : List ByteArray) (x35 : Int) (x36 : Int) : Lim (fun k => impl_SequencesOf.l1 k x0 x1 x6 x7 x8 x30 x31 x34 x35 x36) (impl_SequencesOf.L1 x0 x1 x6 x7 x8 x30 x31 x34 x35 x36) := ⟨fun k => (impl_SequencesOf.mono_l k).2.2 x0 x1 x6 x7 x8 x30 x31 x34 x35 x36, rfl⟩
noncomputable def impl_SequencesOf.F (l0 : List (S66)) (l1 : List ByteArray) : Option (List Int × Bool) := lim fun k => impl_SequencesOf.f k l0 l1
theorem impl_SequencesOf.F_lim (l0 : List (S66)) (l1 : List ByteArray) : Lim (fun k => impl_SequencesOf.f k l0 l1) (impl_SequencesOf.F l0 l1) := ⟨impl_SequencesOf.mono l0 l1, rfl⟩
theorem impl_SequencesOf.J0_eq (x0 : List (S66)) (x1 : List ByteArray) (x24 : Bool) : impl_SequencesOf.J0 x0 x1 x24 = (if x24 = true then (some (([] : List Int), false)) else (impl_SequencesOf.L0 x0 x1 ([] : List Int) (wrap64 ((wrap64 ((x0.length : Int) - (x1.length : Int))) + 1)) 0)) := by
  refine Lim.succ_eq (impl_SequencesOf.J0_lim x0 x1 x24).mon ?_
  simp only [impl_SequencesOf.j0]
  repeat' first
  | (with_reducible exact impl_SequencesOf.J0_lim _ _ _)
  | (with_reducible exact impl_SequencesOf.L0_lim _ _ _ _ _)
  | (with_reducible exact impl_SequencesOf.L1_lim _ _ _ _ _ _ _ _ _ _)
  | (with_reducible exact impl_IsTier.F_lim _)
  | (with_reducible exact impl_allOf_string_impl_isGlossPattern.F_lim _)
  | (with_reducible exact impl_fits.F_lim _ _)
  | (with_reducible refine Lim.ite ?_ ?_)
  | (with_reducible refine Lim.bind ?_ (fun _ => ?_))
  | (with_reducible exact Lim.const _)
theorem impl_SequencesOf.L0_eq (x0 : List (S66)) (x1 : List ByteArray) (x6 : List Int) (x30 : Int) (x31 : Int) : impl_SequencesOf.L0 x0 x1 x6 x30 x31 = (if x31 < x30 then (impl_SequencesOf.L1 x0 x1 x6 x31 true x30 x31 x1 (x1.length : Int) 0) else (some (x6, true))) := by
  refine Lim.succ_eq (impl_SequencesOf.L0_lim x0 x1 x6 x30 x31).mon ?_
  simp only [impl_SequencesOf.l0]
  repeat' first
  | (with_reducible exact impl_SequencesOf.J0_lim _ _ _)
  | (with_reducible exact impl_SequencesOf.L0_lim _ _ _ _ _)
  | (with_reducible exact impl_SequencesOf.L1_lim _ _ _ _ _ _ _ _ _ _)
  | (with_reducible exact impl_IsTier.F_lim _)
  | (with_reducible exact impl_allOf_string_impl_isGlossPattern.F_lim _)
  | (with_reducible exact impl_fits.F_lim _ _)
  | (with_reducible refine Lim.ite ?_ ?_)
  | (with_reducible refine Lim.bind ?_ (fun _ => ?_))
  | (with_reducible exact Lim.const _)
theorem impl_SequencesOf.L1_eq (x0 : List (S66)) (x1 : List ByteArray) (x6 : List Int) (x7 : Int) (x8 : Bool) (x30 : Int) (x31 : Int) (x34 : List ByteArray) (x35 : Int) (x36 : Int) : impl_SequencesOf.L1 x0 x1 x6 x7 x8 x30 x31 x34 x35 x36 = (if x36 < x35 then (if 0 ≤ x36 then (if x36 < (x34.length : Int) then (if x8 = true then (if 0 ≤ (wrap64 (x7 + x36)) then (if (wrap64 (x7 + x36)) < (x0.length : Int) then ((impl_fits.F (rdOf ByteArray.empty x34 x36) ((rd_T66 x0 (wrap64 (x7 + x36))).f2)).bind fun t205 => (impl_SequencesOf.L1 x0 x1 x6 x7 t205 x30 x31 x34 x35 (wrap64 (x36 + 1)))) else (none)) else (none)) else (impl_SequencesOf.L1 x0 x1 x6 x7 false x30 x31 x34 x35 (wrap64 (x36 + 1)))) else (none)) else (none)) else (if x8 = true then (if x6.length < 17592186044416 then (impl_SequencesOf.L0 x0 x1 (x6 ++ [x7]) x30 (wrap64 (x31 + 1))) else (none)) else (impl_SequencesOf.L0 x0 x1 x6 x30 (wrap64 (x31 + 1))))) := by
  refine Lim.succ_eq (impl_SequencesOf.L1_lim x0 x1 x6 x7 x8 x30 x31 x34 x35 x36).mon ?_
  simp only [impl_SequencesOf.l1]
  repeat' first
  | (with_reducible exact impl_SequencesOf.J0_lim _ _ _)
  | (with_reducible exact impl_SequencesOf.L0_lim _ _ _ _ _)
  | (with_reducible exact impl_SequencesOf.L1_lim _ _ _ _ _ _ _ _ _ _)
  | (with_reducible exact impl_IsTier.F_lim _)
  | (with_reducible exact impl_allOf_string_impl_isGlossPattern.F_lim _)
  | (with_reducible exact impl_fits.F_lim _ _)
  | (with_reducible refine Lim.ite ?_ ?_)
  | (with_reducible refine Lim.bind ?_ (fun _ => ?_))
  | (with_reducible exact Lim.const _)
theorem impl_SequencesOf.F_eq (l0 : List (S66)) (l1 : List ByteArray) : impl_SequencesOf.F l0 l1 = ((impl_IsTier.F l0).bind fun t200 => (if t200 = true then ((impl_within.f (l1.length : Int) 1 8).bind fun t201 => (if t201 = true then ((impl_allOf_string_impl_isGlossPattern.F l1).bind fun t202 => (impl_SequencesOf.J0 l0 l1 (!t202))) else (impl_SequencesOf.J0 l0 l1 true))) else (impl_SequencesOf.J0 l0 l1 true))) := by
  refine Lim.eq_ ?_
  simp only [impl_SequencesOf.f]
  repeat' first
  | (with_reducible exact impl_SequencesOf.J0_lim _ _ _)
  | (with_reducible exact impl_SequencesOf.L0_lim _ _ _ _ _)
  | (with_reducible exact impl_SequencesOf.L1_lim _ _ _ _ _ _ _ _ _ _)
  | (with_reducible exact impl_IsTier.F_lim _)
  | (with_reducible exact impl_allOf_string_impl_isGlossPattern.F_lim _)
  | (with_reducible exact impl_fits.F_lim _ _)
  | (with_reducible refine Lim.ite ?_ ?_)
  | (with_reducible refine Lim.bind ?_ (fun _ => ?_))
  | (with_reducible exact Lim.const _)
def laws_eqStringS.l0 : Nat → List ByteArray → List ByteArray → Int → Option (Bool)
  | 0, _, _, _ => none
  | k + 1, x0, x1, x5 => if x5 < (x0.length : Int) then (if 0 ≤ x5 then (if x5 < (x1.length : Int) then (if (rdOf ByteArray.empty x0 x5).toList = (rdOf ByteArray.empty x1 x5).toList then (laws_eqStringS.l0 k x0 x1 (wrap64 (x5 + 1))) else (some false)) else (none)) else (none)) else (some true)
def laws_eqStringS.f (k : Nat) (l0 : List ByteArray) (l1 : List ByteArray) : Option (Bool) := if (l0.length : Int) = (l1.length : Int) then (laws_eqStringS.l0 k l0 l1 0) else (some false)
theorem laws_eqStringS.mono_l : ∀ k, (∀ y0 y1 y2, LeO (laws_eqStringS.l0 k y0 y1 y2) (laws_eqStringS.l0 (k + 1) y0 y1 y2))
  | 0 => fun _ _ _ r h => by simp [laws_eqStringS.l0] at h
  | k + 1 => by
    have ih0 := laws_eqStringS.mono_l k
    · intro y0 y1 y2
      unfold laws_eqStringS.l0
      repeat' first
      | (with_reducible exact ih0 _ _ _)
      | (with_reducible exact LeO.refl _)
      | (with_reducible exact LeO.none _)
      | (with_reducible refine LeO.ite ?_ ?_)
      | (with_reducible refine LeO.bind ?_ (fun _ => ?_))
      | exact ih0 _ _ _
      | exact LeO.none _
      | refine LeO.ite ?_ ?_
      | refine LeO.bind ?_ (fun _ => ?_)
theorem laws_eqStringS.mono : ∀ a0 a1 k, LeO (laws_eqStringS.f k a0 a1) (laws_eqStringS.f (k + 1) a0 a1) := by
  intro a0 a1 k
  have ih0 := laws_eqStringS.mono_l k
  unfold laws_eqStringS.f
  repeat' first
      | (with_reducible exact ih0 _ _ _)
      | (with_reducible exact LeO.refl _)
      | (with_reducible exact LeO.none _)
      | (with_reducible refine LeO.ite ?_ ?_)
      | (with_reducible refine LeO.bind ?_ (fun _ => ?_))
      | exact ih0 _ _ _
      | exact LeO.none _
      | refine LeO.ite ?_ ?_
      | refine LeO.bind ?_ (fun _ => ?_)
noncomputable def laws_eqStringS.L0 (x0 : List ByteArray) (x1 : List ByteArray) (x5 : Int) : Option (Bool) := lim fun k => laws_eqStringS.l0 k x0 x1 x5
theorem laws_eqStringS.L0_lim (x0 : List ByteArray) (x1 : List ByteArray) (x5 : Int) : Lim (fun k => laws_eqStringS.l0 k x0 x1 x5) (laws_eqStringS.L0 x0 x1 x5) := ⟨fun k => (laws_eqStringS.mono_l k) x0 x1 x5, rfl⟩
noncomputable def laws_eqStringS.F (l0 : List ByteArray) (l1 : List ByteArray) : Option (Bool) := lim fun k => laws_eqStringS.f k l0 l1
theorem laws_eqStringS.F_lim (l0 : List ByteArray) (l1 : List ByteArray) : Lim (fun k => laws_eqStringS.f k l0 l1) (laws_eqStringS.F l0 l1) := ⟨laws_eqStringS.mono l0 l1, rfl⟩
theorem laws_eqStringS.L0_eq (x0 : List ByteArray) (x1 : List ByteArray) (x5 : Int) : laws_eqStringS.L0 x0 x1 x5 = (if x5 < (x0.length : Int) then (if 0 ≤ x5 then (if x5 < (x1.length : Int) then (if (rdOf ByteArray.empty x0 x5).toList = (rdOf ByteArray.empty x1 x5).toList then (laws_eqStringS.L0 x0 x1 (wrap64 (x5 + 1))) else (some false)) else (none)) else (none)) else (some true)) := by
  refine Lim.succ_eq (laws_eqStringS.L0_lim x0 x1 x5).mon ?_
  simp only [laws_eqStringS.l0]
  repeat' first
  | (with_reducible exact laws_eqStringS.L0_lim _ _ _)
  | (with_reducible refine Lim.ite ?_ ?_)
  | (with_reducible refine Lim.bind ?_ (fun _ => ?_))
  | (with_reducible exact Lim.const _)
theorem laws_eqStringS.F_eq (l0 : List ByteArray) (l1 : List ByteArray) : laws_eqStringS.F l0 l1 = (if (l0.length : Int) = (l1.length : Int) then (laws_eqStringS.L0 l0 l1 0) else (some false)) := by
  refine Lim.eq_ ?_
  simp only [laws_eqStringS.f]
  repeat' first
  | (with_reducible exact laws_eqStringS.L0_lim _ _ _)
  | (with_reducible refine Lim.ite ?_ ?_)
  | (with_reducible refine Lim.bind ?_ (fun _ => ?_))
  | (with_reducible exact Lim.const _)
def laws_markStringS.l0 : Nat → List ByteArray → Int → Int → Option (Int × List ByteArray)
  | 0, _, _, _ => none
  | k + 1, x0, x1, x5 => if x5 < (x0.length : Int) then ((laws_markText.f k x1).bind fun t211 => (if 0 ≤ x5 then (laws_markStringS.l0 k (x0.set (x5 : Int).toNat t211) (wrap64 (x1 + 1)) (wrap64 (x5 + 1))) else (none))) else (some (x1, x0))
def laws_markStringS.f (k : Nat) (l0 : List ByteArray) (a1 : Int) : Option (Int × List ByteArray) := laws_markStringS.l0 k l0 a1 0
theorem laws_markStringS.mono_l : ∀ k, (∀ y0 y1 y2, LeO (laws_markStringS.l0 k y0 y1 y2) (laws_markStringS.l0 (k + 1) y0 y1 y2))
  | 0 => fun _ _ _ r h => by simp [laws_markStringS.l0] at h
  | k + 1 => by
    have ih0 := laws_markStringS.mono_l k
    · intro y0 y1 y2
      unfold laws_markStringS.l0
      repeat' first
      | (with_reducible exact ih0 _ _ _)
      | (with_reducible exact laws_markText.mono _ _)
      | (with_reducible exact LeO.refl _)
      | (with_reducible exact LeO.none _)
      | (with_reducible refine LeO.ite ?_ ?_)
      | (with_reducible refine LeO.bind ?_ (fun _ => ?_))
      | exact ih0 _ _ _
      | exact laws_markText.mono _ _
      | exact LeO.none _
      | refine LeO.ite ?_ ?_
      | refine LeO.bind ?_ (fun _ => ?_)
theorem laws_markStringS.mono : ∀ a0 a1 k, LeO (laws_markStringS.f k a0 a1) (laws_markStringS.f (k + 1) a0 a1) := by
  intro a0 a1 k
  have ih0 := laws_markStringS.mono_l k
  unfold laws_markStringS.f
  repeat' first
      | (with_reducible exact ih0 _ _ _)
      | (with_reducible exact laws_markText.mono _ _)
      | (with_reducible exact LeO.refl _)
      | (with_reducible exact LeO.none _)
      | (with_reducible refine LeO.ite ?_ ?_)
      | (with_reducible refine LeO.bind ?_ (fun _ => ?_))
      | exact ih0 _ _ _
      | exact laws_markText.mono _ _
      | exact LeO.none _
      | refine LeO.ite ?_ ?_
      | refine LeO.bind ?_ (fun _ => ?_)
noncomputable def laws_markStringS.L0 (x0 : List ByteArray) (x1 : Int) (x5 : Int) : Option (Int × List ByteArray) := lim fun k => laws_markStringS.l0 k x0 x1 x5
theorem laws_markStringS.L0_lim (x0 : List ByteArray) (x1 : Int) (x5 : Int) : Lim (fun k => laws_markStringS.l0 k x0 x1 x5) (laws_markStringS.L0 x0 x1 x5) := ⟨fun k => (laws_markStringS.mono_l k) x0 x1 x5, rfl⟩
noncomputable def laws_markStringS.F (l0 : List ByteArray) (a1 : Int) : Option (Int × List ByteArray) := lim fun k => laws_markStringS.f k l0 a1
theorem laws_markStringS.F_lim (l0 : List ByteArray) (a1 : Int) : Lim (fun k => laws_markStringS.f k l0 a1) (laws_markStringS.F l0 a1) := ⟨laws_markStringS.mono l0 a1, rfl⟩
theorem laws_markStringS.L0_eq (x0 : List ByteArray) (x1 : Int) (x5 : Int) : laws_markStringS.L0 x0 x1 x5 = (if x5 < (x0.length : Int) then ((laws_markText.F x1).bind fun t211 => (if 0 ≤ x5 then (laws_markStringS.L0 (x0.set (x5 : Int).toNat t211) (wrap64 (x1 + 1)) (wrap64 (x5 + 1))) else (none))) else (some (x1, x0))) := by
  refine Lim.succ_eq (laws_markStringS.L0_lim x0 x1 x5).mon ?_
  simp only [laws_markStringS.l0]
  repeat' first
  | (with_reducible exact laws_markStringS.L0_lim _ _ _)
  | (with_reducible exact laws_markText.F_lim _)
  | (with_reducible refine Lim.ite ?_ ?_)
  | (with_reducible refine Lim.bind ?_ (fun _ => ?_))
  | (with_reducible exact Lim.const _)
theorem laws_markStringS.F_eq (l0 : List ByteArray) (a1 : Int) : laws_markStringS.F l0 a1 = (laws_markStringS.L0 l0 a1 0) := by
  refine Lim.eq_ ?_
  simp only [laws_markStringS.f]
  repeat' first
  | (with_reducible exact laws_markStringS.L0_lim _ _ _)
  | (with_reducible exact laws_markText.F_lim _)
  | (with_reducible refine Lim.ite ?_ ?_)
  | (with_reducible refine Lim.bind ?_ (fun _ => ?_))
  | (with_reducible exact Lim.const _)
mutual
def laws_FnExactSequencesOf.j0 : Nat → List (S81) → List ByteArray → List Int → Bool → List (S66) → List ByteArray → List Int → Bool → Bool → Option (Bool)
  | 0, _, _, _, _, _, _, _, _, _ => none
  | k + 1, x0, x1, x6, x7, x8, x9, x10, x11, x53 => if x53 = true then (some false) else ((laws_toNoteS.f k x0).bind fun t236 => ((laws_eqNoteS.f k x8 t236).bind fun t239 => (if t239 = true then ((laws_toStringS.f k x1).bind fun t240 => ((laws_eqStringS.f k x9 t240).bind fun t243 => (if t243 = true then ((laws_markNoteS.f k x8 1).bind fun bt244 => ((laws_markStringS.f k x9 bt244.1).bind fun bt246 => (if bt246.1 < 0 then (laws_FnExactSequencesOf.j1 k x0 x1 x6 x7 x10 true) else ((laws_eqIntS.f k x10 x6).bind fun t248 => (if t248 = true then (laws_FnExactSequencesOf.j1 k x0 x1 x6 x7 x10 (x11 != x7)) else (laws_FnExactSequencesOf.j1 k x0 x1 x6 x7 x10 true)))))) else (some false)))) else (some false))))
def laws_FnExactSequencesOf.j1 : Nat → List (S81) → List ByteArray → List Int → Bool → List Int → Bool → Option (Bool)
  | 0, _, _, _, _, _, _ => none
  | k + 1, x0, x1, x6, x7, x10, x82 => if x82 = true then (some false) else ((laws_markIntS.f k x10 1).bind fun bt249 => ((laws_heldIntS.f k bt249.2 1).bind fun t251 => (if t251 < 0 then (some false) else (if t251 = bt249.1 then ((laws_toNoteS.f k x0).bind fun t252 => ((laws_toStringS.f k x1).bind fun t255 => ((impl_SequencesOf.f k t252 t255).bind fun bt258 => ((laws_eqIntS.f k bt258.1 x6).bind fun t262 => (if t262 = true then (laws_FnExactSequencesOf.j2 k bt249.2 bt249.1 (bt258.2 != x7)) else (laws_FnExactSequencesOf.j2 k bt249.2 bt249.1 true)))))) else (some false)))))
def laws_FnExactSequencesOf.j2 : Nat → List Int → Int → Bool → Option (Bool)
  | 0, _, _, _ => none
  | k + 1, x10, x13, x110 => if x110 = true then (some false) else ((laws_heldIntS.f k x10 1).bind fun t263 => (if t263 < 0 then (some false) else (if t263 = x13 then (some true) else (some false))))
end
def laws_FnExactSequencesOf.f (k : Nat) (l0 : List (S81)) (l1 : List ByteArray) : Option (Bool) := (laws_szNoteS.f k l0 1048576).bind fun t213 => (if t213 < 0 then (some true) else ((laws_szStringS.f k l1 t213).bind fun t214 => (if t214 < 0 then (some true) else ((laws_toNoteS.f k l0).bind fun t215 => ((laws_toStringS.f k l1).bind fun t218 => ((spec_SequencesOf.f k t215 t218).bind fun bt221 => ((laws_toNoteS.f k l0).bind fun t225 => ((laws_toStringS.f k l1).bind fun t228 => ((impl_SequencesOf.f k t225 t228).bind fun bt231 => ((laws_eqIntS.f k bt231.1 bt221.1).bind fun t235 => (if t235 = true then (laws_FnExactSequencesOf.j0 k l0 l1 bt221.1 bt221.2 t225 t228 bt231.1 bt231.2 (bt231.2 != bt221.2)) else (laws_FnExactSequencesOf.j0 k l0 l1 bt221.1 bt221.2 t225 t228 bt231.1 bt231.2 true))))))))))))
theorem laws_FnExactSequencesOf.mono_l : ∀ k, (∀ y0 y1 y2 y3 y4 y5 y6 y7 y8, LeO (laws_FnExactSequencesOf.j0 k y0 y1 y2 y3 y4 y5 y6 y7 y8) (laws_FnExactSequencesOf.j0 (k + 1) y0 y1 y2 y3 y4 y5 y6 y7 y8)) ∧ (∀ y0 y1 y2 y3 y4 y5, LeO (laws_FnExactSequencesOf.j1 k y0 y1 y2 y3 y4 y5) (laws_FnExactSequencesOf.j1 (k + 1) y0 y1 y2 y3 y4 y5)) ∧ (∀ y0 y1 y2, LeO (laws_FnExactSequencesOf.j2 k y0 y1 y2) (laws_FnExactSequencesOf.j2 (k + 1) y0 y1 y2))
  | 0 => ⟨fun _ _ _ _ _ _ _ _ _ r h => by simp [laws_FnExactSequencesOf.j0] at h, fun _ _ _ _ _ _ r h => by simp [laws_FnExactSequencesOf.j1] at h, fun _ _ _ r h => by simp [laws_FnExactSequencesOf.j2] at h⟩
  | k + 1 => by
    obtain ⟨ih0, ih1, ih2⟩ := laws_FnExactSequencesOf.mono_l k
    refine ⟨?_, ?_, ?_⟩
    · intro y0 y1 y2 y3 y4 y5 y6 y7 y8
      unfold laws_FnExactSequencesOf.j0
      repeat' first
      | (with_reducible exact ih0 _ _ _ _ _ _ _ _ _)
      | (with_reducible exact ih1 _ _ _ _ _ _)
      | (with_reducible exact ih2 _ _ _)
      | (with_reducible exact impl_SequencesOf.mono _ _ _)
      | (with_reducible exact laws_eqIntS.mono _ _ _)
      | (with_reducible exact laws_eqNoteS.mono _ _ _)
      | (with_reducible exact laws_eqStringS.mono _ _ _)
      | (with_reducible exact laws_heldIntS.mono _ _ _)
      | (with_reducible exact laws_markIntS.mono _ _ _)
      | (with_reducible exact laws_markNoteS.mono _ _ _)
      | (with_reducible exact laws_markStringS.mono _ _ _)
      | (with_reducible exact laws_szNoteS.mono _ _ _)
      | (with_reducible exact laws_szStringS.mono _ _ _)
      | (with_reducible exact laws_toNoteS.mono _ _)
      | (with_reducible exact laws_toStringS.mono _ _)
      | (with_reducible exact spec_SequencesOf.mono _ _ _)
      | (with_reducible exact LeO.refl _)
      | (with_reducible exact LeO.none _)
      | (with_reducible refine LeO.ite ?_ ?_)
      | (with_reducible refine LeO.bind ?_ (fun _ => ?_))
      | exact ih0 _ _ _ _ _ _ _ _ _
      | exact ih1 _ _ _ _ _ _
      | exact ih2 _ _ _
      | exact impl_SequencesOf.mono _ _ _
      | exact laws_eqIntS.mono _ _ _
      | exact laws_eqNoteS.mono _ _ _
      | exact laws_eqStringS.mono _ _ _
      | exact laws_heldIntS.mono _ _ _
      | exact laws_markIntS.mono _ _ _
      | exact laws_markNoteS.mono _ _ _
      | exact laws_markStringS.mono _ _ _
      | exact laws_szNoteS.mono _ _ _
      | exact laws_szStringS.mono _ _ _
      | exact laws_toNoteS.mono _ _
      | exact laws_toStringS.mono _ _
      | exact spec_SequencesOf.mono _ _ _
      | exact LeO.none _
      | refine LeO.ite ?_ ?_
      | refine LeO.bind ?_ (fun _ => ?_)
    · intro y0 y1 y2 y3 y4 y5
      unfold laws_FnExactSequencesOf.j1
      repeat' first
      | (with_reducible exact ih0 _ _ _ _ _ _ _ _ _)
      | (with_reducible exact ih1 _ _ _ _ _ _)
      | (with_reducible exact ih2 _ _ _)
      | (with_reducible exact impl_SequencesOf.mono _ _ _)
      | (with_reducible exact laws_eqIntS.mono _ _ _)
      | (with_reducible exact laws_eqNoteS.mono _ _ _)
      | (with_reducible exact laws_eqStringS.mono _ _ _)
      | (with_reducible exact laws_heldIntS.mono _ _ _)
      | (with_reducible exact laws_markIntS.mono _ _ _)
      | (with_reducible exact laws_markNoteS.mono _ _ _)
      | (with_reducible exact laws_markStringS.mono _ _ _)
      | (with_reducible exact laws_szNoteS.mono _ _ _)
      | (with_reducible exact laws_szStringS.mono _ _ _)
      | (with_reducible exact laws_toNoteS.mono _ _)
      | (with_reducible exact laws_toStringS.mono _ _)
      | (with_reducible exact spec_SequencesOf.mono _ _ _)
      | (with_reducible exact LeO.refl _)
      | (with_reducible exact LeO.none _)
      | (with_reducible refine LeO.ite ?_ ?_)
      | (with_reducible refine LeO.bind ?_ (fun _ => ?_))
      | exact ih0 _ _ _ _ _ _ _ _ _
      | exact ih1 _ _ _ _ _ _
      | exact ih2 _ _ _
      | exact impl_SequencesOf.mono _ _ _
      | exact laws_eqIntS.mono _ _ _
      | exact laws_eqNoteS.mono _ _ _
      | exact laws_eqStringS.mono _ _ _
      | exact laws_heldIntS.mono _ _ _
      | exact laws_markIntS.mono _ _ _
      | exact laws_markNoteS.mono _ _ _
      | exact laws_markStringS.mono _ _ _
      | exact laws_szNoteS.mono _ _ _
      | exact laws_szStringS.mono _ _ _
      | exact laws_toNoteS.mono _ _
      | exact laws_toStringS.mono _ _
      | exact spec_SequencesOf.mono _ _ _
      | exact LeO.none _
      | refine LeO.ite ?_ ?_
      | refine LeO.bind ?_ (fun _ => ?_)
    · intro y0 y1 y2
      unfold laws_FnExactSequencesOf.j2
      repeat' first
      | (with_reducible exact ih0 _ _ _ _ _ _ _ _ _)
      | (with_reducible exact ih1 _ _ _ _ _ _)
      | (with_reducible exact ih2 _ _ _)
      | (with_reducible exact impl_SequencesOf.mono _ _ _)
      | (with_reducible exact laws_eqIntS.mono _ _ _)
      | (with_reducible exact laws_eqNoteS.mono _ _ _)
      | (with_reducible exact laws_eqStringS.mono _ _ _)
      | (with_reducible exact laws_heldIntS.mono _ _ _)
      | (with_reducible exact laws_markIntS.mono _ _ _)
      | (with_reducible exact laws_markNoteS.mono _ _ _)
      | (with_reducible exact laws_markStringS.mono _ _ _)
      | (with_reducible exact laws_szNoteS.mono _ _ _)
      | (with_reducible exact laws_szStringS.mono _ _ _)
      | (with_reducible exact laws_toNoteS.mono _ _)
      | (with_reducible exact laws_toStringS.mono _ _)
      | (with_reducible exact spec_SequencesOf.mono _ _ _)
      | (with_reducible exact LeO.refl _)
      | (with_reducible exact LeO.none _)
      | (with_reducible refine LeO.ite ?_ ?_)
      | (with_reducible refine LeO.bind ?_ (fun _ => ?_))
      | exact ih0 _ _ _ _ _ _ _ _ _
      | exact ih1 _ _ _ _ _ _
      | exact ih2 _ _ _
      | exact impl_SequencesOf.mono _ _ _
      | exact laws_eqIntS.mono _ _ _
      | exact laws_eqNoteS.mono _ _ _
      | exact laws_eqStringS.mono _ _ _
      | exact laws_heldIntS.mono _ _ _
      | exact laws_markIntS.mono _ _ _
      | exact laws_markNoteS.mono _ _ _
      | exact laws_markStringS.mono _ _ _
      | exact laws_szNoteS.mono _ _ _
      | exact laws_szStringS.mono _ _ _
      | exact laws_toNoteS.mono _ _
      | exact laws_toStringS.mono _ _
      | exact spec_SequencesOf.mono _ _ _
      | exact LeO.none _
      | refine LeO.ite ?_ ?_
      | refine LeO.bind ?_ (fun _ => ?_)
theorem laws_FnExactSequencesOf.mono : ∀ a0 a1 k, LeO (laws_FnExactSequencesOf.f k a0 a1) (laws_FnExactSequencesOf.f (k + 1) a0 a1) := by
  intro a0 a1 k
  obtain ⟨ih0, ih1, ih2⟩ := laws_FnExactSequencesOf.mono_l k
  unfold laws_FnExactSequencesOf.f
  repeat' first
      | (with_reducible exact ih0 _ _ _ _ _ _ _ _ _)
      | (with_reducible exact ih1 _ _ _ _ _ _)
      | (with_reducible exact ih2 _ _ _)
      | (with_reducible exact impl_SequencesOf.mono _ _ _)
      | (with_reducible exact laws_eqIntS.mono _ _ _)
      | (with_reducible exact laws_eqNoteS.mono _ _ _)
      | (with_reducible exact laws_eqStringS.mono _ _ _)
      | (with_reducible exact laws_heldIntS.mono _ _ _)
      | (with_reducible exact laws_markIntS.mono _ _ _)
      | (with_reducible exact laws_markNoteS.mono _ _ _)
      | (with_reducible exact laws_markStringS.mono _ _ _)
      | (with_reducible exact laws_szNoteS.mono _ _ _)
      | (with_reducible exact laws_szStringS.mono _ _ _)
      | (with_reducible exact laws_toNoteS.mono _ _)
      | (with_reducible exact laws_toStringS.mono _ _)
      | (with_reducible exact spec_SequencesOf.mono _ _ _)
      | (with_reducible exact LeO.refl _)
      | (with_reducible exact LeO.none _)
      | (with_reducible refine LeO.ite ?_ ?_)
      | (with_reducible refine LeO.bind ?_ (fun _ => ?_))
      | exact ih0 _ _ _ _ _ _ _ _ _
      | exact ih1 _ _ _ _ _ _
      | exact ih2 _ _ _
      | exact impl_SequencesOf.mono _ _ _
      | exact laws_eqIntS.mono _ _ _
      | exact laws_eqNoteS.mono _ _ _
      | exact laws_eqStringS.mono _ _ _
      | exact laws_heldIntS.mono _ _ _
      | exact laws_markIntS.mono _ _ _
      | exact laws_markNoteS.mono _ _ _
      | exact laws_markStringS.mono _ _ _
      | exact laws_szNoteS.mono _ _ _
      | exact laws_szStringS.mono _ _ _
      | exact laws_toNoteS.mono _ _
      | exact laws_toStringS.mono _ _
      | exact spec_SequencesOf.mono _ _ _
      | exact LeO.none _
      | refine LeO.ite ?_ ?_
      | refine LeO.bind ?_ (fun _ => ?_)
noncomputable def laws_FnExactSequencesOf.J0 (x0 : List (S81)) (x1 : List ByteArray) (x6 : List Int) (x7 : Bool) (x8 : List (S66)) (x9 : List ByteArray) (x10 : List Int) (x11 : Bool) (x53 : Bool) : Option (Bool) := lim fun k => laws_FnExactSequencesOf.j0 k x0 x1 x6 x7 x8 x9 x10 x11 x53
theorem laws_FnExactSequencesOf.J0_lim (x0 : List (S81)) (x1 : List ByteArray) (x6 : List Int) (x7 : Bool) (x8 : List (S66)) (x9 : List ByteArray) (x10 : List Int) (x11 : Bool) (x53 : Bool) : Lim (fun k => laws_FnExactSequencesOf.j0 k x0 x1 x6 x7 x8 x9 x10 x11 x53) (laws_FnExactSequencesOf.J0 x0 x1 x6 x7 x8 x9 x10 x11 x53) := ⟨fun k => (laws_FnExactSequencesOf.mono_l k).1 x0 x1 x6 x7 x8 x9 x10 x11 x53, rfl⟩
noncomputable def laws_FnExactSequencesOf.J1 (x0 : List (S81)) (x1 : List ByteArray) (x6 : List Int) (x7 : Bool) (x10 : List Int) (x82 : Bool) : Option (Bool) := lim fun k => laws_FnExactSequencesOf.j1 k x0 x1 x6 x7 x10 x82
theorem laws_FnExactSequencesOf.J1_lim (x0 : List (S81)) (x1 : List ByteArray) (x6 : List Int) (x7 : Bool) (x10 : List Int) (x82 : Bool) : Lim (fun k => laws_FnExactSequencesOf.j1 k x0 x1 x6 x7 x10 x82) (laws_FnExactSequencesOf.J1 x0 x1 x6 x7 x10 x82) := ⟨fun k => (laws_FnExactSequencesOf.mono_l k).2.1 x0 x1 x6 x7 x10 x82, rfl⟩
noncomputable def laws_FnExactSequencesOf.J2 (x10 : List Int) (x13 : Int) (x110 : Bool) : Option (Bool) := lim fun k => laws_FnExactSequencesOf.j2 k x10 x13 x110
theorem laws_FnExactSequencesOf.J2_lim (x10 : List Int) (x13 : Int) (x110 : Bool) : Lim (fun k => laws_FnExactSequencesOf.j2 k x10 x13 x110) (laws_FnExactSequencesOf.J2 x10 x13 x110) := ⟨fun k => (laws_FnExactSequencesOf.mono_l k).2.2 x10 x13 x110, rfl⟩
noncomputable def laws_FnExactSequencesOf.F (l0 : List (S81)) (l1 : List ByteArray) : Option (Bool) := lim fun k => laws_FnExactSequencesOf.f k l0 l1
theorem laws_FnExactSequencesOf.F_lim (l0 : List (S81)) (l1 : List ByteArray) : Lim (fun k => laws_FnExactSequencesOf.f k l0 l1) (laws_FnExactSequencesOf.F l0 l1) := ⟨laws_FnExactSequencesOf.mono l0 l1, rfl⟩
theorem laws_FnExactSequencesOf.J0_eq (x0 : List (S81)) (x1 : List ByteArray) (x6 : List Int) (x7 : Bool) (x8 : List (S66)) (x9 : List ByteArray) (x10 : List Int) (x11 : Bool) (x53 : Bool) : laws_FnExactSequencesOf.J0 x0 x1 x6 x7 x8 x9 x10 x11 x53 = (if x53 = true then (some false) else ((laws_toNoteS.F x0).bind fun t236 => ((laws_eqNoteS.F x8 t236).bind fun t239 => (if t239 = true then ((laws_toStringS.F x1).bind fun t240 => ((laws_eqStringS.F x9 t240).bind fun t243 => (if t243 = true then ((laws_markNoteS.F x8 1).bind fun bt244 => ((laws_markStringS.F x9 bt244.1).bind fun bt246 => (if bt246.1 < 0 then (laws_FnExactSequencesOf.J1 x0 x1 x6 x7 x10 true) else ((laws_eqIntS.F x10 x6).bind fun t248 => (if t248 = true then (laws_FnExactSequencesOf.J1 x0 x1 x6 x7 x10 (x11 != x7)) else (laws_FnExactSequencesOf.J1 x0 x1 x6 x7 x10 true)))))) else (some false)))) else (some false))))) := by
  refine Lim.succ_eq (laws_FnExactSequencesOf.J0_lim x0 x1 x6 x7 x8 x9 x10 x11 x53).mon ?_
  simp only [laws_FnExactSequencesOf.j0]
  repeat' first
  | (with_reducible exact laws_FnExactSequencesOf.J0_lim _ _ _ _ _ _ _ _ _)
  | (with_reducible exact laws_FnExactSequencesOf.J1_lim _ _ _ _ _ _)
  | (with_reducible exact laws_FnExactSequencesOf.J2_lim _ _ _)
  | (with_reducible exact impl_SequencesOf.F_lim _ _)
  | (with_reducible exact laws_eqIntS.F_lim _ _)
  | (with_reducible exact laws_eqNoteS.F_lim _ _)
  | (with_reducible exact laws_eqStringS.F_lim _ _)
  | (with_reducible exact laws_heldIntS.F_lim _ _)
  | (with_reducible exact laws_markIntS.F_lim _ _)
  | (with_reducible exact laws_markNoteS.F_lim _ _)
  | (with_reducible exact laws_markStringS.F_lim _ _)
  | (with_reducible exact laws_szNoteS.F_lim _ _)
  | (with_reducible exact laws_szStringS.F_lim _ _)
  | (with_reducible exact laws_toNoteS.F_lim _)
  | (with_reducible exact laws_toStringS.F_lim _)
  | (with_reducible exact spec_SequencesOf.F_lim _ _)
  | (with_reducible refine Lim.ite ?_ ?_)
  | (with_reducible refine Lim.bind ?_ (fun _ => ?_))
  | (with_reducible exact Lim.const _)
theorem laws_FnExactSequencesOf.J1_eq (x0 : List (S81)) (x1 : List ByteArray) (x6 : List Int) (x7 : Bool) (x10 : List Int) (x82 : Bool) : laws_FnExactSequencesOf.J1 x0 x1 x6 x7 x10 x82 = (if x82 = true then (some false) else ((laws_markIntS.F x10 1).bind fun bt249 => ((laws_heldIntS.F bt249.2 1).bind fun t251 => (if t251 < 0 then (some false) else (if t251 = bt249.1 then ((laws_toNoteS.F x0).bind fun t252 => ((laws_toStringS.F x1).bind fun t255 => ((impl_SequencesOf.F t252 t255).bind fun bt258 => ((laws_eqIntS.F bt258.1 x6).bind fun t262 => (if t262 = true then (laws_FnExactSequencesOf.J2 bt249.2 bt249.1 (bt258.2 != x7)) else (laws_FnExactSequencesOf.J2 bt249.2 bt249.1 true)))))) else (some false)))))) := by
  refine Lim.succ_eq (laws_FnExactSequencesOf.J1_lim x0 x1 x6 x7 x10 x82).mon ?_
  simp only [laws_FnExactSequencesOf.j1]
  repeat' first
  | (with_reducible exact laws_FnExactSequencesOf.J0_lim _ _ _ _ _ _ _ _ _)
  | (with_reducible exact laws_FnExactSequencesOf.J1_lim _ _ _ _ _ _)
  | (with_reducible exact laws_FnExactSequencesOf.J2_lim _ _ _)
  | (with_reducible exact impl_SequencesOf.F_lim _ _)
  | (with_reducible exact laws_eqIntS.F_lim _ _)
  | (with_reducible exact laws_eqNoteS.F_lim _ _)
  | (with_reducible exact laws_eqStringS.F_lim _ _)
  | (with_reducible exact laws_heldIntS.F_lim _ _)
  | (with_reducible exact laws_markIntS.F_lim _ _)
  | (with_reducible exact laws_markNoteS.F_lim _ _)
  | (with_reducible exact laws_markStringS.F_lim _ _)
  | (with_reducible exact laws_szNoteS.F_lim _ _)
  | (with_reducible exact laws_szStringS.F_lim _ _)
  | (with_reducible exact laws_toNoteS.F_lim _)
  | (with_reducible exact laws_toStringS.F_lim _)
  | (with_reducible exact spec_SequencesOf.F_lim _ _)
  | (with_reducible refine Lim.ite ?_ ?_)
  | (with_reducible refine Lim.bind ?_ (fun _ => ?_))
  | (with_reducible exact Lim.const _)
theorem laws_FnExactSequencesOf.J2_eq (x10 : List Int) (x13 : Int) (x110 : Bool) : laws_FnExactSequencesOf.J2 x10 x13 x110 = (if x110 = true then (some false) else ((laws_heldIntS.F x10 1).bind fun t263 => (if t263 < 0 then (some false) else (if t263 = x13 then (some true) else (some false))))) := by
  refine Lim.succ_eq (laws_FnExactSequencesOf.J2_lim x10 x13 x110).mon ?_
  simp only [laws_FnExactSequencesOf.j2]
  repeat' first
  | (with_reducible exact laws_FnExactSequencesOf.J0_lim _ _ _ _ _ _ _ _ _)
  | (with_reducible exact laws_FnExactSequencesOf.J1_lim _ _ _ _ _ _)
  | (with_reducible exact laws_FnExactSequencesOf.J2_lim _ _ _)
  | (with_reducible exact impl_SequencesOf.F_lim _ _)
  | (with_reducible exact laws_eqIntS.F_lim _ _)
  | (with_reducible exact laws_eqNoteS.F_lim _ _)
  | (with_reducible exact laws_eqStringS.F_lim _ _)
  | (with_reducible exact laws_heldIntS.F_lim _ _)
  | (with_reducible exact laws_markIntS.F_lim _ _)
  | (with_reducible exact laws_markNoteS.F_lim _ _)
  | (with_reducible exact laws_markStringS.F_lim _ _)
  | (with_reducible exact laws_szNoteS.F_lim _ _)
  | (with_reducible exact laws_szStringS.F_lim _ _)
  | (with_reducible exact laws_toNoteS.F_lim _)
  | (with_reducible exact laws_toStringS.F_lim _)
  | (with_reducible exact spec_SequencesOf.F_lim _ _)
  | (with_reducible refine Lim.ite ?_ ?_)
  | (with_reducible refine Lim.bind ?_ (fun _ => ?_))
  | (with_reducible exact Lim.const _)
theorem laws_FnExactSequencesOf.F_eq (l0 : List (S81)) (l1 : List ByteArray) : laws_FnExactSequencesOf.F l0 l1 = ((laws_szNoteS.F l0 1048576).bind fun t213 => (if t213 < 0 then (some true) else ((laws_szStringS.F l1 t213).bind fun t214 => (if t214 < 0 then (some true) else ((laws_toNoteS.F l0).bind fun t215 => ((laws_toStringS.F l1).bind fun t218 => ((spec_SequencesOf.F t215 t218).bind fun bt221 => ((laws_toNoteS.F l0).bind fun t225 => ((laws_toStringS.F l1).bind fun t228 => ((impl_SequencesOf.F t225 t228).bind fun bt231 => ((laws_eqIntS.F bt231.1 bt221.1).bind fun t235 => (if t235 = true then (laws_FnExactSequencesOf.J0 l0 l1 bt221.1 bt221.2 t225 t228 bt231.1 bt231.2 (bt231.2 != bt221.2)) else (laws_FnExactSequencesOf.J0 l0 l1 bt221.1 bt221.2 t225 t228 bt231.1 bt231.2 true))))))))))))) := by
  refine Lim.eq_ ?_
  simp only [laws_FnExactSequencesOf.f]
  repeat' first
  | (with_reducible exact laws_FnExactSequencesOf.J0_lim _ _ _ _ _ _ _ _ _)
  | (with_reducible exact laws_FnExactSequencesOf.J1_lim _ _ _ _ _ _)
  | (with_reducible exact laws_FnExactSequencesOf.J2_lim _ _ _)
  | (with_reducible exact impl_SequencesOf.F_lim _ _)
  | (with_reducible exact laws_eqIntS.F_lim _ _)
  | (with_reducible exact laws_eqNoteS.F_lim _ _)
  | (with_reducible exact laws_eqStringS.F_lim _ _)
  | (with_reducible exact laws_heldIntS.F_lim _ _)
  | (with_reducible exact laws_markIntS.F_lim _ _)
  | (with_reducible exact laws_markNoteS.F_lim _ _)
  | (with_reducible exact laws_markStringS.F_lim _ _)
  | (with_reducible exact laws_szNoteS.F_lim _ _)
  | (with_reducible exact laws_szStringS.F_lim _ _)
  | (with_reducible exact laws_toNoteS.F_lim _)
  | (with_reducible exact laws_toStringS.F_lim _)
  | (with_reducible exact spec_SequencesOf.F_lim _ _)
  | (with_reducible refine Lim.ite ?_ ?_)
  | (with_reducible refine Lim.bind ?_ (fun _ => ?_))
  | (with_reducible exact Lim.const _)
def Wf81 (x : S81) : Prop := (Lit.int .i64 x.f0).wf = true ∧ (Lit.int .i64 x.f1).wf = true ∧ x.f2.size ≤ 9223372036854775807
def laws_FnExactSequencesOf.Pure : Prop := ∀ (l0 : List (S81)) (l1 : List ByteArray), (l0.length ≤ 9223372036854775807 ∧ ∀ x ∈ l0, Wf81 x) → (l1.length ≤ 9223372036854775807 ∧ ∀ x ∈ l1, x.size ≤ 9223372036854775807) → ∃ k, laws_FnExactSequencesOf.f k l0 l1 = some true
end Go.Proofs.Ytnmgcphajacdnaa.PFnExactSequencesOf
