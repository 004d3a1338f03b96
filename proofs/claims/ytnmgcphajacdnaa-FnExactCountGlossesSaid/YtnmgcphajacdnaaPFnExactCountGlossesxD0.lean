/- Written by a program of this claim's author, out of the loaded program as Lean prints it: the functions as Lean functions, and that the calls answer so. -/
import Derived.Test.YtnmgcphajacdnaaPFnExactCountGlossesx0
namespace Go.Proofs.Ytnmgcphajacdnaa.PFnExactCountGlosses
open Go.RowKit Go.Proofs.YtnmgcphajacdnaaW.PrintWords Go.Proofs.YtnmgcphajacdnaaW.PrintLast Go.Proofs.YtnmgcphajacdnaaW.PrintMore
attribute [local go_sem] max2_int min2_int max_two min_two max_three min_three max_four min_four   -- for this text's walks alone
set_option linter.unusedVariables false
set_option linter.unusedSimpArgs false

def laws_szNote.f (a0_0 : Int) (a0_1 : Int) (a0_2 : ByteArray) (a1 : Int) : Option (Int) := if (wrap64 (a1 - (a0_2.size : Int))) < 0 then (some (-1)) else (some (wrap64 (a1 - (a0_2.size : Int))))
def laws_szNoteS.l0 : Nat → List (S81) → Int → Int → Option (Int)
  | 0, _, _, _ => none
  | k + 1, x0, x1, x5 => if x5 < (x0.length : Int) then (if 0 ≤ x5 then ((laws_szNote.f ((rd_T81 x0 x5).f0) ((rd_T81 x0 x5).f1) ((rd_T81 x0 x5).f2) x1).bind fun t103 => (if t103 < 0 then (some (-1)) else (laws_szNoteS.l0 k x0 t103 (wrap64 (x5 + 1))))) else (none)) else (some x1)
def laws_szNoteS.f (k : Nat) (l0 : List (S81)) (a1 : Int) : Option (Int) := if (wrap64 (a1 - (l0.length : Int))) < 0 then (some (-1)) else (laws_szNoteS.l0 k l0 (wrap64 (a1 - (l0.length : Int))) 0)
theorem laws_szNoteS.mono_l : ∀ k, (∀ y0 y1 y2, LeO (laws_szNoteS.l0 k y0 y1 y2) (laws_szNoteS.l0 (k + 1) y0 y1 y2))
  | 0 => fun _ _ _ r h => by simp [laws_szNoteS.l0] at h
  | k + 1 => by
    have ih0 := laws_szNoteS.mono_l k
    · intro y0 y1 y2
      unfold laws_szNoteS.l0
      repeat' first
      | (with_reducible exact ih0 _ _ _)
      | (with_reducible exact LeO.refl _)
      | (with_reducible exact LeO.none _)
      | (with_reducible refine LeO.ite ?_ ?_)
      | (with_reducible refine LeO.bind ?_ (fun _ => ?_))
      | exact ih0 _ _ _
      | exact LeO.none _
      | refine LeO.ite ?_ ?_
      | refine LeO.bind ?_ (fun _ => ?_)
theorem laws_szNoteS.mono : ∀ a0 a1 k, LeO (laws_szNoteS.f k a0 a1) (laws_szNoteS.f (k + 1) a0 a1) := by
  intro a0 a1 k
  have ih0 := laws_szNoteS.mono_l k
  unfold laws_szNoteS.f
  repeat' first
      | (with_reducible exact ih0 _ _ _)
      | (with_reducible exact LeO.refl _)
      | (with_reducible exact LeO.none _)
      | (with_reducible refine LeO.ite ?_ ?_)
      | (with_reducible refine LeO.bind ?_ (fun _ => ?_))
      | exact ih0 _ _ _
      | exact LeO.none _
      | refine LeO.ite ?_ ?_
      | refine LeO.bind ?_ (fun _ => ?_)
noncomputable def laws_szNoteS.L0 (x0 : List (S81)) (x1 : Int) (x5 : Int) : Option (Int) := lim fun k => laws_szNoteS.l0 k x0 x1 x5
theorem laws_szNoteS.L0_lim (x0 : List (S81)) (x1 : Int) (x5 : Int) : Lim (fun k => laws_szNoteS.l0 k x0 x1 x5) (laws_szNoteS.L0 x0 x1 x5) := ⟨fun k => (laws_szNoteS.mono_l k) x0 x1 x5, rfl⟩
noncomputable def laws_szNoteS.F (l0 : List (S81)) (a1 : Int) : Option (Int) := lim fun k => laws_szNoteS.f k l0 a1
theorem laws_szNoteS.F_lim (l0 : List (S81)) (a1 : Int) : Lim (fun k => laws_szNoteS.f k l0 a1) (laws_szNoteS.F l0 a1) := ⟨laws_szNoteS.mono l0 a1, rfl⟩
theorem laws_szNoteS.L0_eq (x0 : List (S81)) (x1 : Int) (x5 : Int) : laws_szNoteS.L0 x0 x1 x5 = (if x5 < (x0.length : Int) then (if 0 ≤ x5 then ((laws_szNote.f ((rd_T81 x0 x5).f0) ((rd_T81 x0 x5).f1) ((rd_T81 x0 x5).f2) x1).bind fun t103 => (if t103 < 0 then (some (-1)) else (laws_szNoteS.L0 x0 t103 (wrap64 (x5 + 1))))) else (none)) else (some x1)) := by
  refine Lim.succ_eq (laws_szNoteS.L0_lim x0 x1 x5).mon ?_
  simp only [laws_szNoteS.l0]
  repeat' first
  | (with_reducible exact laws_szNoteS.L0_lim _ _ _)
  | (with_reducible refine Lim.ite ?_ ?_)
  | (with_reducible refine Lim.bind ?_ (fun _ => ?_))
  | (with_reducible exact Lim.const _)
theorem laws_szNoteS.F_eq (l0 : List (S81)) (a1 : Int) : laws_szNoteS.F l0 a1 = (if (wrap64 (a1 - (l0.length : Int))) < 0 then (some (-1)) else (laws_szNoteS.L0 l0 (wrap64 (a1 - (l0.length : Int))) 0)) := by
  refine Lim.eq_ ?_
  simp only [laws_szNoteS.f]
  repeat' first
  | (with_reducible exact laws_szNoteS.L0_lim _ _ _)
  | (with_reducible refine Lim.ite ?_ ?_)
  | (with_reducible refine Lim.bind ?_ (fun _ => ?_))
  | (with_reducible exact Lim.const _)
def laws_toNote.f (a0_0 : Int) (a0_1 : Int) (a0_2 : ByteArray) : Option (Int × Int × ByteArray) := some (a0_0, a0_1, a0_2)
def laws_toNoteS.l0 : Nat → List (S81) → List (S66) → Int → Option ((List (S66)))
  | 0, _, _, _ => none
  | k + 1, x0, x3, x4 => if x4 < (x0.length : Int) then (if 0 ≤ x4 then ((laws_toNote.f ((rd_T81 x0 x4).f0) ((rd_T81 x0 x4).f1) ((rd_T81 x0 x4).f2)).bind fun bt111 => (if x4 < (x3.length : Int) then (laws_toNoteS.l0 k x0 (x3.set (x4 : Int).toNat (⟨bt111.1, bt111.2.1, bt111.2.2⟩ : S66)) (wrap64 (x4 + 1))) else (none))) else (none)) else (some x3)
def laws_toNoteS.f (k : Nat) (l0 : List (S81)) : Option ((List (S66))) := if 0 ≤ (l0.length : Int) then (if ((l0.length : Int) : Int).toNat ≤ 8796093022208 then (laws_toNoteS.l0 k l0 (List.replicate ((l0.length : Int) : Int).toNat z66) 0) else (none)) else (none)
theorem laws_toNoteS.mono_l : ∀ k, (∀ y0 y1 y2, LeO (laws_toNoteS.l0 k y0 y1 y2) (laws_toNoteS.l0 (k + 1) y0 y1 y2))
  | 0 => fun _ _ _ r h => by simp [laws_toNoteS.l0] at h
  | k + 1 => by
    have ih0 := laws_toNoteS.mono_l k
    · intro y0 y1 y2
      unfold laws_toNoteS.l0
      repeat' first
      | (with_reducible exact ih0 _ _ _)
      | (with_reducible exact LeO.refl _)
      | (with_reducible exact LeO.none _)
      | (with_reducible refine LeO.ite ?_ ?_)
      | (with_reducible refine LeO.bind ?_ (fun _ => ?_))
      | exact ih0 _ _ _
      | exact LeO.none _
      | refine LeO.ite ?_ ?_
      | refine LeO.bind ?_ (fun _ => ?_)
theorem laws_toNoteS.mono : ∀ a0 k, LeO (laws_toNoteS.f k a0) (laws_toNoteS.f (k + 1) a0) := by
  intro a0 k
  have ih0 := laws_toNoteS.mono_l k
  unfold laws_toNoteS.f
  repeat' first
      | (with_reducible exact ih0 _ _ _)
      | (with_reducible exact LeO.refl _)
      | (with_reducible exact LeO.none _)
      | (with_reducible refine LeO.ite ?_ ?_)
      | (with_reducible refine LeO.bind ?_ (fun _ => ?_))
      | exact ih0 _ _ _
      | exact LeO.none _
      | refine LeO.ite ?_ ?_
      | refine LeO.bind ?_ (fun _ => ?_)
noncomputable def laws_toNoteS.L0 (x0 : List (S81)) (x3 : List (S66)) (x4 : Int) : Option ((List (S66))) := lim fun k => laws_toNoteS.l0 k x0 x3 x4
theorem laws_toNoteS.L0_lim (x0 : List (S81)) (x3 : List (S66)) (x4 : Int) : Lim (fun k => laws_toNoteS.l0 k x0 x3 x4) (laws_toNoteS.L0 x0 x3 x4) := ⟨fun k => (laws_toNoteS.mono_l k) x0 x3 x4, rfl⟩
noncomputable def laws_toNoteS.F (l0 : List (S81)) : Option ((List (S66))) := lim fun k => laws_toNoteS.f k l0
theorem laws_toNoteS.F_lim (l0 : List (S81)) : Lim (fun k => laws_toNoteS.f k l0) (laws_toNoteS.F l0) := ⟨laws_toNoteS.mono l0, rfl⟩
theorem laws_toNoteS.L0_eq (x0 : List (S81)) (x3 : List (S66)) (x4 : Int) : laws_toNoteS.L0 x0 x3 x4 = (if x4 < (x0.length : Int) then (if 0 ≤ x4 then ((laws_toNote.f ((rd_T81 x0 x4).f0) ((rd_T81 x0 x4).f1) ((rd_T81 x0 x4).f2)).bind fun bt111 => (if x4 < (x3.length : Int) then (laws_toNoteS.L0 x0 (x3.set (x4 : Int).toNat (⟨bt111.1, bt111.2.1, bt111.2.2⟩ : S66)) (wrap64 (x4 + 1))) else (none))) else (none)) else (some x3)) := by
  refine Lim.succ_eq (laws_toNoteS.L0_lim x0 x3 x4).mon ?_
  simp only [laws_toNoteS.l0]
  repeat' first
  | (with_reducible exact laws_toNoteS.L0_lim _ _ _)
  | (with_reducible refine Lim.ite ?_ ?_)
  | (with_reducible refine Lim.bind ?_ (fun _ => ?_))
  | (with_reducible exact Lim.const _)
theorem laws_toNoteS.F_eq (l0 : List (S81)) : laws_toNoteS.F l0 = (if 0 ≤ (l0.length : Int) then (if ((l0.length : Int) : Int).toNat ≤ 8796093022208 then (laws_toNoteS.L0 l0 (List.replicate ((l0.length : Int) : Int).toNat z66) 0) else (none)) else (none)) := by
  refine Lim.eq_ ?_
  simp only [laws_toNoteS.f]
  repeat' first
  | (with_reducible exact laws_toNoteS.L0_lim _ _ _)
  | (with_reducible refine Lim.ite ?_ ?_)
  | (with_reducible refine Lim.bind ?_ (fun _ => ?_))
  | (with_reducible exact Lim.const _)
def laws_eqNote.f (a0_0 : Int) (a0_1 : Int) (a0_2 : ByteArray) (a1_0 : Int) (a1_1 : Int) (a1_2 : ByteArray) : Option (Bool) := if a0_0 = a1_0 then (if a0_1 = a1_1 then (if a0_2.toList = a1_2.toList then (some true) else (some false)) else (some false)) else (some false)
def laws_eqNoteS.l0 : Nat → List (S66) → List (S66) → Int → Option (Bool)
  | 0, _, _, _ => none
  | k + 1, x0, x1, x5 => if x5 < (x0.length : Int) then (if 0 ≤ x5 then (if x5 < (x1.length : Int) then ((laws_eqNote.f ((rd_T66 x0 x5).f0) ((rd_T66 x0 x5).f1) ((rd_T66 x0 x5).f2) ((rd_T66 x1 x5).f0) ((rd_T66 x1 x5).f1) ((rd_T66 x1 x5).f2)).bind fun t119 => (if t119 = true then (laws_eqNoteS.l0 k x0 x1 (wrap64 (x5 + 1))) else (some false))) else (none)) else (none)) else (some true)
def laws_eqNoteS.f (k : Nat) (l0 : List (S66)) (l1 : List (S66)) : Option (Bool) := if (l0.length : Int) = (l1.length : Int) then (laws_eqNoteS.l0 k l0 l1 0) else (some false)
theorem laws_eqNoteS.mono_l : ∀ k, (∀ y0 y1 y2, LeO (laws_eqNoteS.l0 k y0 y1 y2) (laws_eqNoteS.l0 (k + 1) y0 y1 y2))
  | 0 => fun _ _ _ r h => by simp [laws_eqNoteS.l0] at h
  | k + 1 => by
    have ih0 := laws_eqNoteS.mono_l k
    · intro y0 y1 y2
      unfold laws_eqNoteS.l0
      repeat' first
      | (with_reducible exact ih0 _ _ _)
      | (with_reducible exact LeO.refl _)
      | (with_reducible exact LeO.none _)
      | (with_reducible refine LeO.ite ?_ ?_)
      | (with_reducible refine LeO.bind ?_ (fun _ => ?_))
      | exact ih0 _ _ _
      | exact LeO.none _
      | refine LeO.ite ?_ ?_
      | refine LeO.bind ?_ (fun _ => ?_)
theorem laws_eqNoteS.mono : ∀ a0 a1 k, LeO (laws_eqNoteS.f k a0 a1) (laws_eqNoteS.f (k + 1) a0 a1) := by
  intro a0 a1 k
  have ih0 := laws_eqNoteS.mono_l k
  unfold laws_eqNoteS.f
  repeat' first
      | (with_reducible exact ih0 _ _ _)
      | (with_reducible exact LeO.refl _)
      | (with_reducible exact LeO.none _)
      | (with_reducible refine LeO.ite ?_ ?_)
      | (with_reducible refine LeO.bind ?_ (fun _ => ?_))
      | exact ih0 _ _ _
      | exact LeO.none _
      | refine LeO.ite ?_ ?_
      | refine LeO.bind ?_ (fun _ => ?_)
noncomputable def laws_eqNoteS.L0 (x0 : List (S66)) (x1 : List (S66)) (x5 : Int) : Option (Bool) := lim fun k => laws_eqNoteS.l0 k x0 x1 x5
theorem laws_eqNoteS.L0_lim (x0 : List (S66)) (x1 : List (S66)) (x5 : Int) : Lim (fun k => laws_eqNoteS.l0 k x0 x1 x5) (laws_eqNoteS.L0 x0 x1 x5) := ⟨fun k => (laws_eqNoteS.mono_l k) x0 x1 x5, rfl⟩
noncomputable def laws_eqNoteS.F (l0 : List (S66)) (l1 : List (S66)) : Option (Bool) := lim fun k => laws_eqNoteS.f k l0 l1
theorem laws_eqNoteS.F_lim (l0 : List (S66)) (l1 : List (S66)) : Lim (fun k => laws_eqNoteS.f k l0 l1) (laws_eqNoteS.F l0 l1) := ⟨laws_eqNoteS.mono l0 l1, rfl⟩
theorem laws_eqNoteS.L0_eq (x0 : List (S66)) (x1 : List (S66)) (x5 : Int) : laws_eqNoteS.L0 x0 x1 x5 = (if x5 < (x0.length : Int) then (if 0 ≤ x5 then (if x5 < (x1.length : Int) then ((laws_eqNote.f ((rd_T66 x0 x5).f0) ((rd_T66 x0 x5).f1) ((rd_T66 x0 x5).f2) ((rd_T66 x1 x5).f0) ((rd_T66 x1 x5).f1) ((rd_T66 x1 x5).f2)).bind fun t119 => (if t119 = true then (laws_eqNoteS.L0 x0 x1 (wrap64 (x5 + 1))) else (some false))) else (none)) else (none)) else (some true)) := by
  refine Lim.succ_eq (laws_eqNoteS.L0_lim x0 x1 x5).mon ?_
  simp only [laws_eqNoteS.l0]
  repeat' first
  | (with_reducible exact laws_eqNoteS.L0_lim _ _ _)
  | (with_reducible refine Lim.ite ?_ ?_)
  | (with_reducible refine Lim.bind ?_ (fun _ => ?_))
  | (with_reducible exact Lim.const _)
theorem laws_eqNoteS.F_eq (l0 : List (S66)) (l1 : List (S66)) : laws_eqNoteS.F l0 l1 = (if (l0.length : Int) = (l1.length : Int) then (laws_eqNoteS.L0 l0 l1 0) else (some false)) := by
  refine Lim.eq_ ?_
  simp only [laws_eqNoteS.f]
  repeat' first
  | (with_reducible exact laws_eqNoteS.L0_lim _ _ _)
  | (with_reducible refine Lim.ite ?_ ?_)
  | (with_reducible refine Lim.bind ?_ (fun _ => ?_))
  | (with_reducible exact Lim.const _)
def laws_markText.l0 : Nat → Int → ByteArray → Option (ByteArray)
  | 0, _, _ => none
  | k + 1, x0, x3 => if x0 > 0 then ((some (([(wrap64 (48 + (Int.tmod x0 10))) % 256] : List Int) : List Int)).bind fun y120 => (if (strOfNums y120).size + x3.size ≤ 9223372036854775807 then (laws_markText.l0 k (wrap64 (Int.tdiv x0 10)) ((strOfNums y120) ++ x3)) else (none))) else (if 1 + x3.size ≤ 9223372036854775807 then (some ((⟨#[109]⟩ : ByteArray) ++ x3)) else (none))
def laws_markText.f (k : Nat) (a0 : Int) : Option (ByteArray) := if a0 ≤ 0 then (some (⟨#[109, 48]⟩ : ByteArray)) else (laws_markText.l0 k a0 (⟨#[]⟩ : ByteArray))
theorem laws_markText.mono_l : ∀ k, (∀ y0 y1, LeO (laws_markText.l0 k y0 y1) (laws_markText.l0 (k + 1) y0 y1))
  | 0 => fun _ _ r h => by simp [laws_markText.l0] at h
  | k + 1 => by
    have ih0 := laws_markText.mono_l k
    · intro y0 y1
      unfold laws_markText.l0
      repeat' first
      | (with_reducible exact ih0 _ _)
      | (with_reducible exact LeO.refl _)
      | (with_reducible exact LeO.none _)
      | (with_reducible refine LeO.ite ?_ ?_)
      | (with_reducible refine LeO.bind ?_ (fun _ => ?_))
      | exact ih0 _ _
      | exact LeO.none _
      | refine LeO.ite ?_ ?_
      | refine LeO.bind ?_ (fun _ => ?_)
theorem laws_markText.mono : ∀ a0 k, LeO (laws_markText.f k a0) (laws_markText.f (k + 1) a0) := by
  intro a0 k
  have ih0 := laws_markText.mono_l k
  unfold laws_markText.f
  repeat' first
      | (with_reducible exact ih0 _ _)
      | (with_reducible exact LeO.refl _)
      | (with_reducible exact LeO.none _)
      | (with_reducible refine LeO.ite ?_ ?_)
      | (with_reducible refine LeO.bind ?_ (fun _ => ?_))
      | exact ih0 _ _
      | exact LeO.none _
      | refine LeO.ite ?_ ?_
      | refine LeO.bind ?_ (fun _ => ?_)
noncomputable def laws_markText.L0 (x0 : Int) (x3 : ByteArray) : Option (ByteArray) := lim fun k => laws_markText.l0 k x0 x3
theorem laws_markText.L0_lim (x0 : Int) (x3 : ByteArray) : Lim (fun k => laws_markText.l0 k x0 x3) (laws_markText.L0 x0 x3) := ⟨fun k => (laws_markText.mono_l k) x0 x3, rfl⟩
noncomputable def laws_markText.F (a0 : Int) : Option (ByteArray) := lim fun k => laws_markText.f k a0
theorem laws_markText.F_lim (a0 : Int) : Lim (fun k => laws_markText.f k a0) (laws_markText.F a0) := ⟨laws_markText.mono a0, rfl⟩
theorem laws_markText.L0_eq (x0 : Int) (x3 : ByteArray) : laws_markText.L0 x0 x3 = (if x0 > 0 then ((some (([(wrap64 (48 + (Int.tmod x0 10))) % 256] : List Int) : List Int)).bind fun y120 => (if (strOfNums y120).size + x3.size ≤ 9223372036854775807 then (laws_markText.L0 (wrap64 (Int.tdiv x0 10)) ((strOfNums y120) ++ x3)) else (none))) else (if 1 + x3.size ≤ 9223372036854775807 then (some ((⟨#[109]⟩ : ByteArray) ++ x3)) else (none))) := by
  refine Lim.succ_eq (laws_markText.L0_lim x0 x3).mon ?_
  simp only [laws_markText.l0]
  repeat' first
  | (with_reducible exact laws_markText.L0_lim _ _)
  | (with_reducible refine Lim.ite ?_ ?_)
  | (with_reducible refine Lim.bind ?_ (fun _ => ?_))
  | (with_reducible exact Lim.const _)
theorem laws_markText.F_eq (a0 : Int) : laws_markText.F a0 = (if a0 ≤ 0 then (some (⟨#[109, 48]⟩ : ByteArray)) else (laws_markText.L0 a0 (⟨#[]⟩ : ByteArray))) := by
  refine Lim.eq_ ?_
  simp only [laws_markText.f]
  repeat' first
  | (with_reducible exact laws_markText.L0_lim _ _)
  | (with_reducible refine Lim.ite ?_ ?_)
  | (with_reducible refine Lim.bind ?_ (fun _ => ?_))
  | (with_reducible exact Lim.const _)
def laws_markNoteS.l0 : Nat → List (S66) → Int → Int → Option (Int × (List (S66)))
  | 0, _, _, _ => none
  | k + 1, x0, x1, x5 => if x5 < (x0.length : Int) then (if 0 ≤ x5 then ((some (x0.set (x5 : Int).toNat (⟨x1, (rd_T66 x0 x5).f1, (rd_T66 x0 x5).f2⟩ : S66) : List (S66))).bind fun y123 => ((some (y123.set (x5 : Int).toNat (⟨(rd_T66 y123 x5).f0, wrap64 (x1 + 1), (rd_T66 y123 x5).f2⟩ : S66) : List (S66))).bind fun y124 => ((laws_markText.f k (wrap64 ((wrap64 (x1 + 1)) + 1))).bind fun t125 => (laws_markNoteS.l0 k (y124.set (x5 : Int).toNat (⟨(rd_T66 y124 x5).f0, (rd_T66 y124 x5).f1, t125⟩ : S66)) (wrap64 ((wrap64 ((wrap64 (x1 + 1)) + 1)) + 1)) (wrap64 (x5 + 1)))))) else (none)) else (some (x1, x0))
def laws_markNoteS.f (k : Nat) (l0 : List (S66)) (a1 : Int) : Option (Int × (List (S66))) := laws_markNoteS.l0 k l0 a1 0
theorem laws_markNoteS.mono_l : ∀ k, (∀ y0 y1 y2, LeO (laws_markNoteS.l0 k y0 y1 y2) (laws_markNoteS.l0 (k + 1) y0 y1 y2))
  | 0 => fun _ _ _ r h => by simp [laws_markNoteS.l0] at h
  | k + 1 => by
    have ih0 := laws_markNoteS.mono_l k
    · intro y0 y1 y2
      unfold laws_markNoteS.l0
      repeat' first
      | (with_reducible exact ih0 _ _ _)
      | (with_reducible exact laws_markText.mono _ _)
      | (with_reducible exact LeO.refl _)
      | (with_reducible exact LeO.none _)
      | (with_reducible refine LeO.ite ?_ ?_)
      | (with_reducible refine LeO.bind ?_ (fun _ => ?_))
      | exact ih0 _ _ _
      | exact laws_markText.mono _ _
      | exact LeO.none _
      | refine LeO.ite ?_ ?_
      | refine LeO.bind ?_ (fun _ => ?_)
theorem laws_markNoteS.mono : ∀ a0 a1 k, LeO (laws_markNoteS.f k a0 a1) (laws_markNoteS.f (k + 1) a0 a1) := by
  intro a0 a1 k
  have ih0 := laws_markNoteS.mono_l k
  unfold laws_markNoteS.f
  repeat' first
      | (with_reducible exact ih0 _ _ _)
      | (with_reducible exact laws_markText.mono _ _)
      | (with_reducible exact LeO.refl _)
      | (with_reducible exact LeO.none _)
      | (with_reducible refine LeO.ite ?_ ?_)
      | (with_reducible refine LeO.bind ?_ (fun _ => ?_))
      | exact ih0 _ _ _
      | exact laws_markText.mono _ _
      | exact LeO.none _
      | refine LeO.ite ?_ ?_
      | refine LeO.bind ?_ (fun _ => ?_)
noncomputable def laws_markNoteS.L0 (x0 : List (S66)) (x1 : Int) (x5 : Int) : Option (Int × (List (S66))) := lim fun k => laws_markNoteS.l0 k x0 x1 x5
theorem laws_markNoteS.L0_lim (x0 : List (S66)) (x1 : Int) (x5 : Int) : Lim (fun k => laws_markNoteS.l0 k x0 x1 x5) (laws_markNoteS.L0 x0 x1 x5) := ⟨fun k => (laws_markNoteS.mono_l k) x0 x1 x5, rfl⟩
noncomputable def laws_markNoteS.F (l0 : List (S66)) (a1 : Int) : Option (Int × (List (S66))) := lim fun k => laws_markNoteS.f k l0 a1
theorem laws_markNoteS.F_lim (l0 : List (S66)) (a1 : Int) : Lim (fun k => laws_markNoteS.f k l0 a1) (laws_markNoteS.F l0 a1) := ⟨laws_markNoteS.mono l0 a1, rfl⟩
theorem laws_markNoteS.L0_eq (x0 : List (S66)) (x1 : Int) (x5 : Int) : laws_markNoteS.L0 x0 x1 x5 = (if x5 < (x0.length : Int) then (if 0 ≤ x5 then ((some (x0.set (x5 : Int).toNat (⟨x1, (rd_T66 x0 x5).f1, (rd_T66 x0 x5).f2⟩ : S66) : List (S66))).bind fun y123 => ((some (y123.set (x5 : Int).toNat (⟨(rd_T66 y123 x5).f0, wrap64 (x1 + 1), (rd_T66 y123 x5).f2⟩ : S66) : List (S66))).bind fun y124 => ((laws_markText.F (wrap64 ((wrap64 (x1 + 1)) + 1))).bind fun t125 => (laws_markNoteS.L0 (y124.set (x5 : Int).toNat (⟨(rd_T66 y124 x5).f0, (rd_T66 y124 x5).f1, t125⟩ : S66)) (wrap64 ((wrap64 ((wrap64 (x1 + 1)) + 1)) + 1)) (wrap64 (x5 + 1)))))) else (none)) else (some (x1, x0))) := by
  refine Lim.succ_eq (laws_markNoteS.L0_lim x0 x1 x5).mon ?_
  simp only [laws_markNoteS.l0]
  repeat' first
  | (with_reducible exact laws_markNoteS.L0_lim _ _ _)
  | (with_reducible exact laws_markText.F_lim _)
  | (with_reducible refine Lim.ite ?_ ?_)
  | (with_reducible refine Lim.bind ?_ (fun _ => ?_))
  | (with_reducible exact Lim.const _)
theorem laws_markNoteS.F_eq (l0 : List (S66)) (a1 : Int) : laws_markNoteS.F l0 a1 = (laws_markNoteS.L0 l0 a1 0) := by
  refine Lim.eq_ ?_
  simp only [laws_markNoteS.f]
  repeat' first
  | (with_reducible exact laws_markNoteS.L0_lim _ _ _)
  | (with_reducible exact laws_markText.F_lim _)
  | (with_reducible refine Lim.ite ?_ ?_)
  | (with_reducible refine Lim.bind ?_ (fun _ => ?_))
  | (with_reducible exact Lim.const _)
def laws_eqIntS.l0 : Nat → List Int → List Int → Int → Option (Bool)
  | 0, _, _, _ => none
  | k + 1, x0, x1, x5 => if x5 < (x0.length : Int) then (if 0 ≤ x5 then (if x5 < (x1.length : Int) then (if (rd x0 x5) = (rd x1 x5) then (laws_eqIntS.l0 k x0 x1 (wrap64 (x5 + 1))) else (some false)) else (none)) else (none)) else (some true)
def laws_eqIntS.f (k : Nat) (l0 : List Int) (l1 : List Int) : Option (Bool) := if (l0.length : Int) = (l1.length : Int) then (laws_eqIntS.l0 k l0 l1 0) else (some false)
theorem laws_eqIntS.mono_l : ∀ k, (∀ y0 y1 y2, LeO (laws_eqIntS.l0 k y0 y1 y2) (laws_eqIntS.l0 (k + 1) y0 y1 y2))
  | 0 => fun _ _ _ r h => by simp [laws_eqIntS.l0] at h
  | k + 1 => by
    have ih0 := laws_eqIntS.mono_l k
    · intro y0 y1 y2
      unfold laws_eqIntS.l0
      repeat' first
      | (with_reducible exact ih0 _ _ _)
      | (with_reducible exact LeO.refl _)
      | (with_reducible exact LeO.none _)
      | (with_reducible refine LeO.ite ?_ ?_)
      | (with_reducible refine LeO.bind ?_ (fun _ => ?_))
      | exact ih0 _ _ _
      | exact LeO.none _
      | refine LeO.ite ?_ ?_
      | refine LeO.bind ?_ (fun _ => ?_)
theorem laws_eqIntS.mono : ∀ a0 a1 k, LeO (laws_eqIntS.f k a0 a1) (laws_eqIntS.f (k + 1) a0 a1) := by
  intro a0 a1 k
  have ih0 := laws_eqIntS.mono_l k
  unfold laws_eqIntS.f
  repeat' first
      | (with_reducible exact ih0 _ _ _)
      | (with_reducible exact LeO.refl _)
      | (with_reducible exact LeO.none _)
      | (with_reducible refine LeO.ite ?_ ?_)
      | (with_reducible refine LeO.bind ?_ (fun _ => ?_))
      | exact ih0 _ _ _
      | exact LeO.none _
      | refine LeO.ite ?_ ?_
      | refine LeO.bind ?_ (fun _ => ?_)
noncomputable def laws_eqIntS.L0 (x0 : List Int) (x1 : List Int) (x5 : Int) : Option (Bool) := lim fun k => laws_eqIntS.l0 k x0 x1 x5
theorem laws_eqIntS.L0_lim (x0 : List Int) (x1 : List Int) (x5 : Int) : Lim (fun k => laws_eqIntS.l0 k x0 x1 x5) (laws_eqIntS.L0 x0 x1 x5) := ⟨fun k => (laws_eqIntS.mono_l k) x0 x1 x5, rfl⟩
noncomputable def laws_eqIntS.F (l0 : List Int) (l1 : List Int) : Option (Bool) := lim fun k => laws_eqIntS.f k l0 l1
theorem laws_eqIntS.F_lim (l0 : List Int) (l1 : List Int) : Lim (fun k => laws_eqIntS.f k l0 l1) (laws_eqIntS.F l0 l1) := ⟨laws_eqIntS.mono l0 l1, rfl⟩
theorem laws_eqIntS.L0_eq (x0 : List Int) (x1 : List Int) (x5 : Int) : laws_eqIntS.L0 x0 x1 x5 = (if x5 < (x0.length : Int) then (if 0 ≤ x5 then (if x5 < (x1.length : Int) then (if (rd x0 x5) = (rd x1 x5) then (laws_eqIntS.L0 x0 x1 (wrap64 (x5 + 1))) else (some false)) else (none)) else (none)) else (some true)) := by
  refine Lim.succ_eq (laws_eqIntS.L0_lim x0 x1 x5).mon ?_
  simp only [laws_eqIntS.l0]
  repeat' first
  | (with_reducible exact laws_eqIntS.L0_lim _ _ _)
  | (with_reducible refine Lim.ite ?_ ?_)
  | (with_reducible refine Lim.bind ?_ (fun _ => ?_))
  | (with_reducible exact Lim.const _)
theorem laws_eqIntS.F_eq (l0 : List Int) (l1 : List Int) : laws_eqIntS.F l0 l1 = (if (l0.length : Int) = (l1.length : Int) then (laws_eqIntS.L0 l0 l1 0) else (some false)) := by
  refine Lim.eq_ ?_
  simp only [laws_eqIntS.f]
  repeat' first
  | (with_reducible exact laws_eqIntS.L0_lim _ _ _)
  | (with_reducible refine Lim.ite ?_ ?_)
  | (with_reducible refine Lim.bind ?_ (fun _ => ?_))
  | (with_reducible exact Lim.const _)
def laws_markIntS.l0 : Nat → List Int → Int → Int → Option (Int × List Int)
  | 0, _, _, _ => none
  | k + 1, x0, x1, x5 => if x5 < (x0.length : Int) then (if 0 ≤ x5 then (laws_markIntS.l0 k (x0.set (x5 : Int).toNat x1) (wrap64 (x1 + 1)) (wrap64 (x5 + 1))) else (none)) else (some (x1, x0))
def laws_markIntS.f (k : Nat) (l0 : List Int) (a1 : Int) : Option (Int × List Int) := laws_markIntS.l0 k l0 a1 0
theorem laws_markIntS.mono_l : ∀ k, (∀ y0 y1 y2, LeO (laws_markIntS.l0 k y0 y1 y2) (laws_markIntS.l0 (k + 1) y0 y1 y2))
  | 0 => fun _ _ _ r h => by simp [laws_markIntS.l0] at h
  | k + 1 => by
    have ih0 := laws_markIntS.mono_l k
    · intro y0 y1 y2
      unfold laws_markIntS.l0
      repeat' first
      | (with_reducible exact ih0 _ _ _)
      | (with_reducible exact LeO.refl _)
      | (with_reducible exact LeO.none _)
      | (with_reducible refine LeO.ite ?_ ?_)
      | (with_reducible refine LeO.bind ?_ (fun _ => ?_))
      | exact ih0 _ _ _
      | exact LeO.none _
      | refine LeO.ite ?_ ?_
      | refine LeO.bind ?_ (fun _ => ?_)
theorem laws_markIntS.mono : ∀ a0 a1 k, LeO (laws_markIntS.f k a0 a1) (laws_markIntS.f (k + 1) a0 a1) := by
  intro a0 a1 k
  have ih0 := laws_markIntS.mono_l k
  unfold laws_markIntS.f
  repeat' first
      | (with_reducible exact ih0 _ _ _)
      | (with_reducible exact LeO.refl _)
      | (with_reducible exact LeO.none _)
      | (with_reducible refine LeO.ite ?_ ?_)
      | (with_reducible refine LeO.bind ?_ (fun _ => ?_))
      | exact ih0 _ _ _
      | exact LeO.none _
      | refine LeO.ite ?_ ?_
      | refine LeO.bind ?_ (fun _ => ?_)
noncomputable def laws_markIntS.L0 (x0 : List Int) (x1 : Int) (x5 : Int) : Option (Int × List Int) := lim fun k => laws_markIntS.l0 k x0 x1 x5
theorem laws_markIntS.L0_lim (x0 : List Int) (x1 : Int) (x5 : Int) : Lim (fun k => laws_markIntS.l0 k x0 x1 x5) (laws_markIntS.L0 x0 x1 x5) := ⟨fun k => (laws_markIntS.mono_l k) x0 x1 x5, rfl⟩
noncomputable def laws_markIntS.F (l0 : List Int) (a1 : Int) : Option (Int × List Int) := lim fun k => laws_markIntS.f k l0 a1
theorem laws_markIntS.F_lim (l0 : List Int) (a1 : Int) : Lim (fun k => laws_markIntS.f k l0 a1) (laws_markIntS.F l0 a1) := ⟨laws_markIntS.mono l0 a1, rfl⟩
theorem laws_markIntS.L0_eq (x0 : List Int) (x1 : Int) (x5 : Int) : laws_markIntS.L0 x0 x1 x5 = (if x5 < (x0.length : Int) then (if 0 ≤ x5 then (laws_markIntS.L0 (x0.set (x5 : Int).toNat x1) (wrap64 (x1 + 1)) (wrap64 (x5 + 1))) else (none)) else (some (x1, x0))) := by
  refine Lim.succ_eq (laws_markIntS.L0_lim x0 x1 x5).mon ?_
  simp only [laws_markIntS.l0]
  repeat' first
  | (with_reducible exact laws_markIntS.L0_lim _ _ _)
  | (with_reducible refine Lim.ite ?_ ?_)
  | (with_reducible refine Lim.bind ?_ (fun _ => ?_))
  | (with_reducible exact Lim.const _)
theorem laws_markIntS.F_eq (l0 : List Int) (a1 : Int) : laws_markIntS.F l0 a1 = (laws_markIntS.L0 l0 a1 0) := by
  refine Lim.eq_ ?_
  simp only [laws_markIntS.f]
  repeat' first
  | (with_reducible exact laws_markIntS.L0_lim _ _ _)
  | (with_reducible refine Lim.ite ?_ ?_)
  | (with_reducible refine Lim.bind ?_ (fun _ => ?_))
  | (with_reducible exact Lim.const _)
def laws_heldIntS.l0 : Nat → List Int → Int → Int → Option (Int)
  | 0, _, _, _ => none
  | k + 1, x0, x1, x5 => if x5 < (x0.length : Int) then (if 0 ≤ x5 then (if (rd x0 x5) = x1 then (laws_heldIntS.l0 k x0 (wrap64 (x1 + 1)) (wrap64 (x5 + 1))) else (some (-1))) else (none)) else (some x1)
def laws_heldIntS.f (k : Nat) (l0 : List Int) (a1 : Int) : Option (Int) := laws_heldIntS.l0 k l0 a1 0
theorem laws_heldIntS.mono_l : ∀ k, (∀ y0 y1 y2, LeO (laws_heldIntS.l0 k y0 y1 y2) (laws_heldIntS.l0 (k + 1) y0 y1 y2))
  | 0 => fun _ _ _ r h => by simp [laws_heldIntS.l0] at h
  | k + 1 => by
    have ih0 := laws_heldIntS.mono_l k
    · intro y0 y1 y2
      unfold laws_heldIntS.l0
      repeat' first
      | (with_reducible exact ih0 _ _ _)
      | (with_reducible exact LeO.refl _)
      | (with_reducible exact LeO.none _)
      | (with_reducible refine LeO.ite ?_ ?_)
      | (with_reducible refine LeO.bind ?_ (fun _ => ?_))
      | exact ih0 _ _ _
      | exact LeO.none _
      | refine LeO.ite ?_ ?_
      | refine LeO.bind ?_ (fun _ => ?_)
theorem laws_heldIntS.mono : ∀ a0 a1 k, LeO (laws_heldIntS.f k a0 a1) (laws_heldIntS.f (k + 1) a0 a1) := by
  intro a0 a1 k
  have ih0 := laws_heldIntS.mono_l k
  unfold laws_heldIntS.f
  repeat' first
      | (with_reducible exact ih0 _ _ _)
      | (with_reducible exact LeO.refl _)
      | (with_reducible exact LeO.none _)
      | (with_reducible refine LeO.ite ?_ ?_)
      | (with_reducible refine LeO.bind ?_ (fun _ => ?_))
      | exact ih0 _ _ _
      | exact LeO.none _
      | refine LeO.ite ?_ ?_
      | refine LeO.bind ?_ (fun _ => ?_)
noncomputable def laws_heldIntS.L0 (x0 : List Int) (x1 : Int) (x5 : Int) : Option (Int) := lim fun k => laws_heldIntS.l0 k x0 x1 x5
theorem laws_heldIntS.L0_lim (x0 : List Int) (x1 : Int) (x5 : Int) : Lim (fun k => laws_heldIntS.l0 k x0 x1 x5) (laws_heldIntS.L0 x0 x1 x5) := ⟨fun k => (laws_heldIntS.mono_l k) x0 x1 x5, rfl⟩
noncomputable def laws_heldIntS.F (l0 : List Int) (a1 : Int) : Option (Int) := lim fun k => laws_heldIntS.f k l0 a1
theorem laws_heldIntS.F_lim (l0 : List Int) (a1 : Int) : Lim (fun k => laws_heldIntS.f k l0 a1) (laws_heldIntS.F l0 a1) := ⟨laws_heldIntS.mono l0 a1, rfl⟩
theorem laws_heldIntS.L0_eq (x0 : List Int) (x1 : Int) (x5 : Int) : laws_heldIntS.L0 x0 x1 x5 = (if x5 < (x0.length : Int) then (if 0 ≤ x5 then (if (rd x0 x5) = x1 then (laws_heldIntS.L0 x0 (wrap64 (x1 + 1)) (wrap64 (x5 + 1))) else (some (-1))) else (none)) else (some x1)) := by
  refine Lim.succ_eq (laws_heldIntS.L0_lim x0 x1 x5).mon ?_
  simp only [laws_heldIntS.l0]
  repeat' first
  | (with_reducible exact laws_heldIntS.L0_lim _ _ _)
  | (with_reducible refine Lim.ite ?_ ?_)
  | (with_reducible refine Lim.bind ?_ (fun _ => ?_))
  | (with_reducible exact Lim.const _)
theorem laws_heldIntS.F_eq (l0 : List Int) (a1 : Int) : laws_heldIntS.F l0 a1 = (laws_heldIntS.L0 l0 a1 0) := by
  refine Lim.eq_ ?_
  simp only [laws_heldIntS.f]
  repeat' first
  | (with_reducible exact laws_heldIntS.L0_lim _ _ _)
  | (with_reducible refine Lim.ite ?_ ?_)
  | (with_reducible refine Lim.bind ?_ (fun _ => ?_))
  | (with_reducible exact Lim.const _)
def laws_eqStringS.l0 : Nat → List ByteArray → List ByteArray → Int → Option (Bool)
  | 0, _, _, _ => none
  | k + 1, x0, x1, x5 => if x5 < (x0.length : Int) then (if 0 ≤ x5 then (if x5 < (x1.length : Int) then (if (rdOf ByteArray.empty x0 x5).toList = (rdOf ByteArray.empty x1 x5).toList then (laws_eqStringS.l0 k x0 x1 (wrap64 (x5 + 1))) else (some false)) else (none)) else (none)) else (some true)
def laws_eqStringS.f (k : Nat) (l0 : List ByteArray) (l1 : List ByteArray) : Option (Bool) := if (l0.length : Int) = (l1.length : Int) then (laws_eqStringS.l0 k l0 l1 0) else (some false)
theorem laws_eqStringS.mono_l : ∀ k, (∀ y0 y1 y2, LeO (laws_eqStringS.l0 k y0 y1 y2) (laws_eqStringS.l0 (k + 1) y0 y1 y2))
  | 0 => fun _ _ _ r h => by simp [laws_eqStringS.l0] at h
  | k + 1 => by
    have ih0 := laws_eqStringS.mono_l k
    · intro y0 y1 y2
      unfold laws_eqStringS.l0
      repeat' first
      | (with_reducible exact ih0 _ _ _)
      | (with_reducible exact LeO.refl _)
      | (with_reducible exact LeO.none _)
      | (with_reducible refine LeO.ite ?_ ?_)
      | (with_reducible refine LeO.bind ?_ (fun _ => ?_))
      | exact ih0 _ _ _
      | exact LeO.none _
      | refine LeO.ite ?_ ?_
      | refine LeO.bind ?_ (fun _ => ?_)
theorem laws_eqStringS.mono : ∀ a0 a1 k, LeO (laws_eqStringS.f k a0 a1) (laws_eqStringS.f (k + 1) a0 a1) := by
  intro a0 a1 k
  have ih0 := laws_eqStringS.mono_l k
  unfold laws_eqStringS.f
  repeat' first
      | (with_reducible exact ih0 _ _ _)
      | (with_reducible exact LeO.refl _)
      | (with_reducible exact LeO.none _)
      | (with_reducible refine LeO.ite ?_ ?_)
      | (with_reducible refine LeO.bind ?_ (fun _ => ?_))
      | exact ih0 _ _ _
      | exact LeO.none _
      | refine LeO.ite ?_ ?_
      | refine LeO.bind ?_ (fun _ => ?_)
noncomputable def laws_eqStringS.L0 (x0 : List ByteArray) (x1 : List ByteArray) (x5 : Int) : Option (Bool) := lim fun k => laws_eqStringS.l0 k x0 x1 x5
theorem laws_eqStringS.L0_lim (x0 : List ByteArray) (x1 : List ByteArray) (x5 : Int) : Lim (fun k => laws_eqStringS.l0 k x0 x1 x5) (laws_eqStringS.L0 x0 x1 x5) := ⟨fun k => (laws_eqStringS.mono_l k) x0 x1 x5, rfl⟩
noncomputable def laws_eqStringS.F (l0 : List ByteArray) (l1 : List ByteArray) : Option (Bool) := lim fun k => laws_eqStringS.f k l0 l1
theorem laws_eqStringS.F_lim (l0 : List ByteArray) (l1 : List ByteArray) : Lim (fun k => laws_eqStringS.f k l0 l1) (laws_eqStringS.F l0 l1) := ⟨laws_eqStringS.mono l0 l1, rfl⟩
theorem laws_eqStringS.L0_eq (x0 : List ByteArray) (x1 : List ByteArray) (x5 : Int) : laws_eqStringS.L0 x0 x1 x5 = (if x5 < (x0.length : Int) then (if 0 ≤ x5 then (if x5 < (x1.length : Int) then (if (rdOf ByteArray.empty x0 x5).toList = (rdOf ByteArray.empty x1 x5).toList then (laws_eqStringS.L0 x0 x1 (wrap64 (x5 + 1))) else (some false)) else (none)) else (none)) else (some true)) := by
  refine Lim.succ_eq (laws_eqStringS.L0_lim x0 x1 x5).mon ?_
  simp only [laws_eqStringS.l0]
  repeat' first
  | (with_reducible exact laws_eqStringS.L0_lim _ _ _)
  | (with_reducible refine Lim.ite ?_ ?_)
  | (with_reducible refine Lim.bind ?_ (fun _ => ?_))
  | (with_reducible exact Lim.const _)
theorem laws_eqStringS.F_eq (l0 : List ByteArray) (l1 : List ByteArray) : laws_eqStringS.F l0 l1 = (if (l0.length : Int) = (l1.length : Int) then (laws_eqStringS.L0 l0 l1 0) else (some false)) := by
  refine Lim.eq_ ?_
  simp only [laws_eqStringS.f]
  repeat' first
  | (with_reducible exact laws_eqStringS.L0_lim _ _ _)
  | (with_reducible refine Lim.ite ?_ ?_)
  | (with_reducible refine Lim.bind ?_ (fun _ => ?_))
  | (with_reducible exact Lim.const _)
def laws_markStringS.l0 : Nat → List ByteArray → Int → Int → Option (Int × List ByteArray)
  | 0, _, _, _ => none
  | k + 1, x0, x1, x5 => if x5 < (x0.length : Int) then ((laws_markText.f k x1).bind fun t133 => (if 0 ≤ x5 then (laws_markStringS.l0 k (x0.set (x5 : Int).toNat t133) (wrap64 (x1 + 1)) (wrap64 (x5 + 1))) else (none))) else (some (x1, x0))
def laws_markStringS.f (k : Nat) (l0 : List ByteArray) (a1 : Int) : Option (Int × List ByteArray) := laws_markStringS.l0 k l0 a1 0
theorem laws_markStringS.mono_l : ∀ k, (∀ y0 y1 y2, LeO (laws_markStringS.l0 k y0 y1 y2) (laws_markStringS.l0 (k + 1) y0 y1 y2))
  | 0 => fun _ _ _ r h => by simp [laws_markStringS.l0] at h
  | k + 1 => by
    have ih0 := laws_markStringS.mono_l k
    · intro y0 y1 y2
      unfold laws_markStringS.l0
      repeat' first
      | (with_reducible exact ih0 _ _ _)
      | (with_reducible exact laws_markText.mono _ _)
      | (with_reducible exact LeO.refl _)
      | (with_reducible exact LeO.none _)
      | (with_reducible refine LeO.ite ?_ ?_)
      | (with_reducible refine LeO.bind ?_ (fun _ => ?_))
      | exact ih0 _ _ _
      | exact laws_markText.mono _ _
      | exact LeO.none _
      | refine LeO.ite ?_ ?_
      | refine LeO.bind ?_ (fun _ => ?_)
theorem laws_markStringS.mono : ∀ a0 a1 k, LeO (laws_markStringS.f k a0 a1) (laws_markStringS.f (k + 1) a0 a1) := by
  intro a0 a1 k
  have ih0 := laws_markStringS.mono_l k
  unfold laws_markStringS.f
  repeat' first
      | (with_reducible exact ih0 _ _ _)
      | (with_reducible exact laws_markText.mono _ _)
      | (with_reducible exact LeO.refl _)
      | (with_reducible exact LeO.none _)
      | (with_reducible refine LeO.ite ?_ ?_)
      | (with_reducible refine LeO.bind ?_ (fun _ => ?_))
      | exact ih0 _ _ _
      | exact laws_markText.mono _ _
      | exact LeO.none _
      | refine LeO.ite ?_ ?_
      | refine LeO.bind ?_ (fun _ => ?_)
noncomputable def laws_markStringS.L0 (x0 : List ByteArray) (x1 : Int) (x5 : Int) : Option (Int × List ByteArray) := lim fun k => laws_markStringS.l0 k x0 x1 x5
theorem laws_markStringS.L0_lim (x0 : List ByteArray) (x1 : Int) (x5 : Int) : Lim (fun k => laws_markStringS.l0 k x0 x1 x5) (laws_markStringS.L0 x0 x1 x5) := ⟨fun k => (laws_markStringS.mono_l k) x0 x1 x5, rfl⟩
noncomputable def laws_markStringS.F (l0 : List ByteArray) (a1 : Int) : Option (Int × List ByteArray) := lim fun k => laws_markStringS.f k l0 a1
theorem laws_markStringS.F_lim (l0 : List ByteArray) (a1 : Int) : Lim (fun k => laws_markStringS.f k l0 a1) (laws_markStringS.F l0 a1) := ⟨laws_markStringS.mono l0 a1, rfl⟩
theorem laws_markStringS.L0_eq (x0 : List ByteArray) (x1 : Int) (x5 : Int) : laws_markStringS.L0 x0 x1 x5 = (if x5 < (x0.length : Int) then ((laws_markText.F x1).bind fun t133 => (if 0 ≤ x5 then (laws_markStringS.L0 (x0.set (x5 : Int).toNat t133) (wrap64 (x1 + 1)) (wrap64 (x5 + 1))) else (none))) else (some (x1, x0))) := by
  refine Lim.succ_eq (laws_markStringS.L0_lim x0 x1 x5).mon ?_
  simp only [laws_markStringS.l0]
  repeat' first
  | (with_reducible exact laws_markStringS.L0_lim _ _ _)
  | (with_reducible exact laws_markText.F_lim _)
  | (with_reducible refine Lim.ite ?_ ?_)
  | (with_reducible refine Lim.bind ?_ (fun _ => ?_))
  | (with_reducible exact Lim.const _)
theorem laws_markStringS.F_eq (l0 : List ByteArray) (a1 : Int) : laws_markStringS.F l0 a1 = (laws_markStringS.L0 l0 a1 0) := by
  refine Lim.eq_ ?_
  simp only [laws_markStringS.f]
  repeat' first
  | (with_reducible exact laws_markStringS.L0_lim _ _ _)
  | (with_reducible exact laws_markText.F_lim _)
  | (with_reducible refine Lim.ite ?_ ?_)
  | (with_reducible refine Lim.bind ?_ (fun _ => ?_))
  | (with_reducible exact Lim.const _)
def spec_l1In.f (a0 : Int) (a1 : Int) (a2 : Int) : Option (Bool) := if a0 ≥ a1 then (some (decide (a0 ≤ a2))) else (some false)
def spec_tiFrame.f (a0 : Int) : Option (Bool) := (spec_l1In.f a0 0 99999).bind fun t135 => (some t135)
def spec_fsWord.l0 : Nat → ByteArray → Int → Option (Bool)
  | 0, _, _ => none
  | k + 1, x0, x3 => if x3 < (x0.size : Int) then (if 0 ≤ x3 then (if (bt x0 x3) < 65 then (some false) else (if (bt x0 x3) > 90 then (some false) else (spec_fsWord.l0 k x0 (wrap64 (x3 + 1))))) else (none)) else ((spec_l1In.f (x0.size : Int) 1 8).bind fun t136 => (some t136))
def spec_fsWord.f (k : Nat) (a0 : ByteArray) : Option (Bool) := spec_fsWord.l0 k a0 0
theorem spec_fsWord.mono_l : ∀ k, (∀ y0 y1, LeO (spec_fsWord.l0 k y0 y1) (spec_fsWord.l0 (k + 1) y0 y1))
  | 0 => fun _ _ r h => by simp [spec_fsWord.l0] at h
  | k + 1 => by
    have ih0 := spec_fsWord.mono_l k
    · intro y0 y1
      unfold spec_fsWord.l0
      repeat' first
      | (with_reducible exact ih0 _ _)
      | (with_reducible exact LeO.refl _)
      | (with_reducible exact LeO.none _)
      | (with_reducible refine LeO.ite ?_ ?_)
      | (with_reducible refine LeO.bind ?_ (fun _ => ?_))
      | exact ih0 _ _
      | exact LeO.none _
      | refine LeO.ite ?_ ?_
      | refine LeO.bind ?_ (fun _ => ?_)
theorem spec_fsWord.mono : ∀ a0 k, LeO (spec_fsWord.f k a0) (spec_fsWord.f (k + 1) a0) := by
  intro a0 k
  have ih0 := spec_fsWord.mono_l k
  unfold spec_fsWord.f
  repeat' first
      | (with_reducible exact ih0 _ _)
      | (with_reducible exact LeO.refl _)
      | (with_reducible exact LeO.none _)
      | (with_reducible refine LeO.ite ?_ ?_)
      | (with_reducible refine LeO.bind ?_ (fun _ => ?_))
      | exact ih0 _ _
      | exact LeO.none _
      | refine LeO.ite ?_ ?_
      | refine LeO.bind ?_ (fun _ => ?_)
noncomputable def spec_fsWord.L0 (x0 : ByteArray) (x3 : Int) : Option (Bool) := lim fun k => spec_fsWord.l0 k x0 x3
theorem spec_fsWord.L0_lim (x0 : ByteArray) (x3 : Int) : Lim (fun k => spec_fsWord.l0 k x0 x3) (spec_fsWord.L0 x0 x3) := ⟨fun k => (spec_fsWord.mono_l k) x0 x3, rfl⟩
noncomputable def spec_fsWord.F (a0 : ByteArray) : Option (Bool) := lim fun k => spec_fsWord.f k a0
theorem spec_fsWord.F_lim (a0 : ByteArray) : Lim (fun k => spec_fsWord.f k a0) (spec_fsWord.F a0) := ⟨spec_fsWord.mono a0, rfl⟩
theorem spec_fsWord.L0_eq (x0 : ByteArray) (x3 : Int) : spec_fsWord.L0 x0 x3 = (if x3 < (x0.size : Int) then (if 0 ≤ x3 then (if (bt x0 x3) < 65 then (some false) else (if (bt x0 x3) > 90 then (some false) else (spec_fsWord.L0 x0 (wrap64 (x3 + 1))))) else (none)) else ((spec_l1In.f (x0.size : Int) 1 8).bind fun t136 => (some t136))) := by
  refine Lim.succ_eq (spec_fsWord.L0_lim x0 x3).mon ?_
  simp only [spec_fsWord.l0]
  repeat' first
  | (with_reducible exact spec_fsWord.L0_lim _ _)
  | (with_reducible refine Lim.ite ?_ ?_)
  | (with_reducible refine Lim.bind ?_ (fun _ => ?_))
  | (with_reducible exact Lim.const _)
theorem spec_fsWord.F_eq (a0 : ByteArray) : spec_fsWord.F a0 = (spec_fsWord.L0 a0 0) := by
  refine Lim.eq_ ?_
  simp only [spec_fsWord.f]
  repeat' first
  | (with_reducible exact spec_fsWord.L0_lim _ _)
  | (with_reducible refine Lim.ite ?_ ?_)
  | (with_reducible refine Lim.bind ?_ (fun _ => ?_))
  | (with_reducible exact Lim.const _)
def spec_tiNote.f (k : Nat) (a0_0 : Int) (a0_1 : Int) (a0_2 : ByteArray) : Option (Bool) := (spec_tiFrame.f a0_0).bind fun t138 => (if t138 = true then ((spec_tiFrame.f a0_1).bind fun t139 => (if t139 = true then (if a0_0 < a0_1 then ((spec_fsWord.f k a0_2).bind fun t140 => (some t140)) else (some false)) else (some false))) else (some false))
theorem spec_tiNote.mono : ∀ a0 a1 a2 k, LeO (spec_tiNote.f k a0 a1 a2) (spec_tiNote.f (k + 1) a0 a1 a2) := by
  intro a0 a1 a2 k
  unfold spec_tiNote.f
  repeat' first
      | (with_reducible exact spec_fsWord.mono _ _)
      | (with_reducible exact LeO.refl _)
      | (with_reducible exact LeO.none _)
      | (with_reducible refine LeO.ite ?_ ?_)
      | (with_reducible refine LeO.bind ?_ (fun _ => ?_))
      | exact spec_fsWord.mono _ _
      | exact LeO.none _
      | refine LeO.ite ?_ ?_
      | refine LeO.bind ?_ (fun _ => ?_)
noncomputable def spec_tiNote.F (a0_0 : Int) (a0_1 : Int) (a0_2 : ByteArray) : Option (Bool) := lim fun k => spec_tiNote.f k a0_0 a0_1 a0_2
theorem spec_tiNote.F_lim (a0_0 : Int) (a0_1 : Int) (a0_2 : ByteArray) : Lim (fun k => spec_tiNote.f k a0_0 a0_1 a0_2) (spec_tiNote.F a0_0 a0_1 a0_2) := ⟨spec_tiNote.mono a0_0 a0_1 a0_2, rfl⟩
theorem spec_tiNote.F_eq (a0_0 : Int) (a0_1 : Int) (a0_2 : ByteArray) : spec_tiNote.F a0_0 a0_1 a0_2 = ((spec_tiFrame.f a0_0).bind fun t138 => (if t138 = true then ((spec_tiFrame.f a0_1).bind fun t139 => (if t139 = true then (if a0_0 < a0_1 then ((spec_fsWord.F a0_2).bind fun t140 => (some t140)) else (some false)) else (some false))) else (some false))) := by
  refine Lim.eq_ ?_
  simp only [spec_tiNote.f]
  repeat' first
  | (with_reducible exact spec_fsWord.F_lim _)
  | (with_reducible refine Lim.ite ?_ ?_)
  | (with_reducible refine Lim.bind ?_ (fun _ => ?_))
  | (with_reducible exact Lim.const _)
def spec_tiGood.l0 : Nat → List (S66) → List (S66) → Int → Int → Option (Bool)
  | 0, _, _, _, _ => none
  | k + 1, x0, x5, x6, x7 => if x7 < x6 then (if 0 ≤ x7 then (if x7 < (x5.length : Int) then ((spec_tiNote.f k ((rd_T66 x5 x7).f0) ((rd_T66 x5 x7).f1) ((rd_T66 x5 x7).f2)).bind fun t143 => (if t143 = true then (if x7 > 0 then (if 0 ≤ (wrap64 (x7 - 1)) then (if (wrap64 (x7 - 1)) < (x0.length : Int) then (if ((rd_T66 x0 (wrap64 (x7 - 1))).f1) > ((rd_T66 x5 x7).f0) then (some false) else (spec_tiGood.l0 k x0 x5 x6 (wrap64 (x7 + 1)))) else (none)) else (none)) else (spec_tiGood.l0 k x0 x5 x6 (wrap64 (x7 + 1)))) else (some false))) else (none)) else (none)) else (some (decide ((x0.length : Int) ≤ 40)))
def spec_tiGood.f (k : Nat) (l0 : List (S66)) : Option (Bool) := spec_tiGood.l0 k l0 l0 (l0.length : Int) 0
theorem spec_tiGood.mono_l : ∀ k, (∀ y0 y1 y2 y3, LeO (spec_tiGood.l0 k y0 y1 y2 y3) (spec_tiGood.l0 (k + 1) y0 y1 y2 y3))
  | 0 => fun _ _ _ _ r h => by simp [spec_tiGood.l0] at h
  | k + 1 => by
    have ih0 := spec_tiGood.mono_l k
    · intro y0 y1 y2 y3
      unfold spec_tiGood.l0
      repeat' first
      | (with_reducible exact ih0 _ _ _ _)
      | (with_reducible exact spec_tiNote.mono _ _ _ _)
      | (with_reducible exact LeO.refl _)
      | (with_reducible exact LeO.none _)
      | (with_reducible refine LeO.ite ?_ ?_)
      | (with_reducible refine LeO.bind ?_ (fun _ => ?_))
      | exact ih0 _ _ _ _
      | exact spec_tiNote.mono _ _ _ _
      | exact LeO.none _
      | refine LeO.ite ?_ ?_
      | refine LeO.bind ?_ (fun _ => ?_)
theorem spec_tiGood.mono : ∀ a0 k, LeO (spec_tiGood.f k a0) (spec_tiGood.f (k + 1) a0) := by
  intro a0 k
  have ih0 := spec_tiGood.mono_l k
  unfold spec_tiGood.f
  repeat' first
      | (with_reducible exact ih0 _ _ _ _)
      | (with_reducible exact spec_tiNote.mono _ _ _ _)
      | (with_reducible exact LeO.refl _)
      | (with_reducible exact LeO.none _)
      | (with_reducible refine LeO.ite ?_ ?_)
      | (with_reducible refine LeO.bind ?_ (fun _ => ?_))
      | exact ih0 _ _ _ _
      | exact spec_tiNote.mono _ _ _ _
      | exact LeO.none _
      | refine LeO.ite ?_ ?_
      | refine LeO.bind ?_ (fun _ => ?_)
noncomputable def spec_tiGood.L0 (x0 : List (S66)) (x5 : List (S66)) (x6 : Int) (x7 : Int) : Option (Bool) := lim fun k => spec_tiGood.l0 k x0 x5 x6 x7
theorem spec_tiGood.L0_lim (x0 : List (S66)) (x5 : List (S66)) (x6 : Int) (x7 : Int) : Lim (fun k => spec_tiGood.l0 k x0 x5 x6 x7) (spec_tiGood.L0 x0 x5 x6 x7) := ⟨fun k => (spec_tiGood.mono_l k) x0 x5 x6 x7, rfl⟩
noncomputable def spec_tiGood.F (l0 : List (S66)) : Option (Bool) := lim fun k => spec_tiGood.f k l0
theorem spec_tiGood.F_lim (l0 : List (S66)) : Lim (fun k => spec_tiGood.f k l0) (spec_tiGood.F l0) := ⟨spec_tiGood.mono l0, rfl⟩
theorem spec_tiGood.L0_eq (x0 : List (S66)) (x5 : List (S66)) (x6 : Int) (x7 : Int) : spec_tiGood.L0 x0 x5 x6 x7 = (if x7 < x6 then (if 0 ≤ x7 then (if x7 < (x5.length : Int) then ((spec_tiNote.F ((rd_T66 x5 x7).f0) ((rd_T66 x5 x7).f1) ((rd_T66 x5 x7).f2)).bind fun t143 => (if t143 = true then (if x7 > 0 then (if 0 ≤ (wrap64 (x7 - 1)) then (if (wrap64 (x7 - 1)) < (x0.length : Int) then (if ((rd_T66 x0 (wrap64 (x7 - 1))).f1) > ((rd_T66 x5 x7).f0) then (some false) else (spec_tiGood.L0 x0 x5 x6 (wrap64 (x7 + 1)))) else (none)) else (none)) else (spec_tiGood.L0 x0 x5 x6 (wrap64 (x7 + 1)))) else (some false))) else (none)) else (none)) else (some (decide ((x0.length : Int) ≤ 40)))) := by
  refine Lim.succ_eq (spec_tiGood.L0_lim x0 x5 x6 x7).mon ?_
  simp only [spec_tiGood.l0]
  repeat' first
  | (with_reducible exact spec_tiGood.L0_lim _ _ _ _)
  | (with_reducible exact spec_tiNote.F_lim _ _ _)
  | (with_reducible refine Lim.ite ?_ ?_)
  | (with_reducible refine Lim.bind ?_ (fun _ => ?_))
  | (with_reducible exact Lim.const _)
theorem spec_tiGood.F_eq (l0 : List (S66)) : spec_tiGood.F l0 = (spec_tiGood.L0 l0 l0 (l0.length : Int) 0) := by
  refine Lim.eq_ ?_
  simp only [spec_tiGood.f]
  repeat' first
  | (with_reducible exact spec_tiGood.L0_lim _ _ _ _)
  | (with_reducible exact spec_tiNote.F_lim _ _ _)
  | (with_reducible refine Lim.ite ?_ ?_)
  | (with_reducible refine Lim.bind ?_ (fun _ => ?_))
  | (with_reducible exact Lim.const _)
def spec_l1Own.f (l0 : List Int) : Option (List Int) := (some (([] : List Int) : List Int)).bind fun y145 => (if y145.length + l0.length < 17592186044416 then (some (y145 ++ l0)) else (none))
mutual
def spec_CountGlosses.l0 : Nat → List ByteArray → List Int → List (S66) → Int → Int → Option (List ByteArray × List Int × Bool)
  | 0, _, _, _, _, _ => none
  | k + 1, x5, x6, x13, x14, x15 => if x15 < x14 then (if 0 ≤ x15 then (if x15 < (x13.length : Int) then (spec_CountGlosses.l1 k x5 x6 0 x13 x14 x15 ((rd_T66 x13 x15).f0) ((rd_T66 x13 x15).f1) ((rd_T66 x13 x15).f2)) else (none)) else (none)) else (some (x5, x6, true))
def spec_CountGlosses.j2 : Nat → List ByteArray → List Int → Int → List (S66) → Int → Int → Int → Int → ByteArray → Option (List ByteArray × List Int × Bool)
  | 0, _, _, _, _, _, _, _, _, _ => none
  | k + 1, x5, x6, x9, x13, x14, x15, x154000, x154001, x154002 => if x9 < (x5.length : Int) then (if 0 ≤ x9 then (spec_CountGlosses.j3 k x5 x6 x9 x13 x14 x15 ((rdOf ByteArray.empty x5 x9).toList == x154002.toList) x154000 x154001 x154002) else (none)) else (spec_CountGlosses.j3 k x5 x6 x9 x13 x14 x15 false x154000 x154001 x154002)
def spec_CountGlosses.j3 : Nat → List ByteArray → List Int → Int → List (S66) → Int → Int → Bool → Int → Int → ByteArray → Option (List ByteArray × List Int × Bool)
  | 0, _, _, _, _, _, _, _, _, _, _ => none
  | k + 1, x5, x6, x9, x13, x14, x15, x46, x154000, x154001, x154002 => if x46 = true then (if 0 ≤ x9 then (if x9 < (x6.length : Int) then (spec_CountGlosses.l0 k x5 (x6.set (x9 : Int).toNat (wrap64 ((rd x6 x9) + 1))) x13 x14 (wrap64 (x15 + 1))) else (none)) else (none)) else ((some (([] : List ByteArray) : List ByteArray)).bind fun y158 => (if 0 ≤ x9 then (if x9 ≤ (x5.length : Int) then ((some (x5.take (x9 : Int).toNat : List ByteArray)).bind fun y161 => (if y158.length + y161.length < 8796093022208 then ((some (y158 ++ y161 : List ByteArray)).bind fun y165 => ((some (([x154002] : List ByteArray) : List ByteArray)).bind fun y168 => (if y165.length + y168.length < 8796093022208 then ((some (y165 ++ y168 : List ByteArray)).bind fun y171 => ((some (x5.drop (x9 : Int).toNat : List ByteArray)).bind fun y174 => (if y171.length + y174.length < 8796093022208 then (if x9 ≤ (x6.length : Int) then ((spec_l1Own.f (x6.take (x9 : Int).toNat)).bind fun t185 => ((some (([1] : List Int) : List Int)).bind fun y188 => (if t185.length + y188.length < 17592186044416 then ((some (t185 ++ y188 : List Int)).bind fun y191 => ((some (x6.drop (x9 : Int).toNat : List Int)).bind fun y194 => (if y191.length + y194.length < 17592186044416 then (spec_CountGlosses.l0 k (y171 ++ y174) (y191 ++ y194) x13 x14 (wrap64 (x15 + 1))) else (none)))) else (none)))) else (none)) else (none)))) else (none)))) else (none))) else (none)) else (none)))
def spec_CountGlosses.l1 : Nat → List ByteArray → List Int → Int → List (S66) → Int → Int → Int → Int → ByteArray → Option (List ByteArray × List Int × Bool)
  | 0, _, _, _, _, _, _, _, _, _ => none
  | k + 1, x5, x6, x9, x13, x14, x15, x154000, x154001, x154002 => if x9 < (x5.length : Int) then (if 0 ≤ x9 then (if (Op.bytesLess ((rdOf ByteArray.empty x5 x9).toList) x154002.toList) = true then (spec_CountGlosses.l1 k x5 x6 (wrap64 (x9 + 1)) x13 x14 x15 x154000 x154001 x154002) else (spec_CountGlosses.j2 k x5 x6 x9 x13 x14 x15 x154000 x154001 x154002)) else (none)) else (spec_CountGlosses.j2 k x5 x6 x9 x13 x14 x15 x154000 x154001 x154002)
end
def spec_CountGlosses.f (k : Nat) (l0 : List (S66)) : Option (List ByteArray × List Int × Bool) := (spec_tiGood.f k l0).bind fun t151 => (if t151 = true then (spec_CountGlosses.l0 k ([] : List ByteArray) ([] : List Int) l0 (l0.length : Int) 0) else (some (([] : List ByteArray), ([] : List Int), false)))
theorem spec_CountGlosses.mono_l : ∀ k, (∀ y0 y1 y2 y3 y4, LeO (spec_CountGlosses.l0 k y0 y1 y2 y3 y4) (spec_CountGlosses.l0 (k + 1) y0 y1 y2 y3 y4)) ∧ (∀ y0 y1 y2 y3 y4 y5 y6 y7 y8, LeO (spec_CountGlosses.j2 k y0 y1 y2 y3 y4 y5 y6 y7 y8) (spec_CountGlosses.j2 (k + 1) y0 y1 y2 y3 y4 y5 y6 y7 y8)) ∧ (∀ y0 y1 y2 y3 y4 y5 y6 y7 y8 y9, LeO (spec_CountGlosses.j3 k y0 y1 y2 y3 y4 y5 y6 y7 y8 y9) (spec_CountGlosses.j3 (k + 1) y0 y1 y2 y3 y4 y5 y6 y7 y8 y9)) ∧ (∀ y0 y1 y2 y3 y4 y5 y6 y7 y8, LeO (spec_CountGlosses.l1 k y0 y1 y2 y3 y4 y5 y6 y7 y8) (spec_CountGlosses.l1 (k + 1) y0 y1 y2 y3 y4 y5 y6 y7 y8))
  | 0 => ⟨fun _ _ _ _ _ r h => by simp [spec_CountGlosses.l0] at h, fun _ _ _ _ _ _ _ _ _ r h => by simp [spec_CountGlosses.j2] at h, fun _ _ _ _ _ _ _ _ _ _ r h => by simp [spec_CountGlosses.j3] at h, fun _ _ _ _ _ _ _ _ _ r h => by simp [spec_CountGlosses.l1] at h⟩
  | k + 1 => by
    obtain ⟨ih0, ih1, ih2, ih3⟩ := spec_CountGlosses.mono_l k
    refine ⟨?_, ?_, ?_, ?_⟩
    · intro y0 y1 y2 y3 y4
      unfold spec_CountGlosses.l0
      repeat' first
      | (with_reducible exact ih0 _ _ _ _ _)
      | (with_reducible exact ih1 _ _ _ _ _ _ _ _ _)
      | (with_reducible exact ih2 _ _ _ _ _ _ _ _ _ _)
      | (with_reducible exact ih3 _ _ _ _ _ _ _ _ _)
      | (with_reducible exact spec_tiGood.mono _ _)
      | (with_reducible exact LeO.refl _)
      | (with_reducible exact LeO.none _)
      | (with_reducible refine LeO.ite ?_ ?_)
      | (with_reducible refine LeO.bind ?_ (fun _ => ?_))
      | exact ih0 _ _ _ _ _
      | exact ih1 _ _ _ _ _ _ _ _ _
      | exact ih2 _ _ _ _ _ _ _ _ _ _
      | exact ih3 _ _ _ _ _ _ _ _ _
      | exact spec_tiGood.mono _ _
      | exact LeO.none _
      | refine LeO.ite ?_ ?_
      | refine LeO.bind ?_ (fun _ => ?_)
    · intro y0 y1 y2 y3 y4 y5 y6 y7 y8
      unfold spec_CountGlosses.j2
      repeat' first
      | (with_reducible exact ih0 _ _ _ _ _)
      | (with_reducible exact ih1 _ _ _ _ _ _ _ _ _)
      | (with_reducible exact ih2 _ _ _ _ _ _ _ _ _ _)
      | (with_reducible exact ih3 _ _ _ _ _ _ _ _ _)
      | (with_reducible exact spec_tiGood.mono _ _)
      | (with_reducible exact LeO.refl _)
      | (with_reducible exact LeO.none _)
      | (with_reducible refine LeO.ite ?_ ?_)
      | (with_reducible refine LeO.bind ?_ (fun _ => ?_))
      | exact ih0 _ _ _ _ _
      | exact ih1 _ _ _ _ _ _ _ _ _
      | exact ih2 _ _ _ _ _ _ _ _ _ _
      | exact ih3 _ _ _ _ _ _ _ _ _
      | exact spec_tiGood.mono _ _
      | exact LeO.none _
      | refine LeO.ite ?_ ?_
      | refine LeO.bind ?_ (fun _ => ?_)
    · intro y0 y1 y2 y3 y4 y5 y6 y7 y8 y9
      unfold spec_CountGlosses.j3
      repeat' first
      | (with_reducible exact ih0 _ _ _ _ _)
      | (with_reducible exact ih1 _ _ _ _ _ _ _ _ _)
      | (with_reducible exact ih2 _ _ _ _ _ _ _ _ _ _)
      | (with_reducible exact ih3 _ _ _ _ _ _ _ _ _)
      | (with_reducible exact spec_tiGood.mono _ _)
      | (with_reducible exact LeO.refl _)
      | (with_reducible exact LeO.none _)
      | (with_reducible refine LeO.ite ?_ ?_)
      | (with_reducible refine LeO.bind ?_ (fun _ => ?_))
      | exact ih0 _ _ _ _ _
      | exact ih1 _ _ _ _ _ _ _ _ _
      | exact ih2 _ _ _ _ _ _ _ _ _ _
      | exact ih3 _ _ _ _ _ _ _ _ _
      | exact spec_tiGood.mono _ _
      | exact LeO.none _
      | refine LeO.ite ?_ ?_
      | refine LeO.bind ?_ (fun _ => ?_)
    · intro y0 y1 y2 y3 y4 y5 y6 y7 y8
      unfold spec_CountGlosses.l1
      repeat' first
      | (with_reducible exact ih0 _ _ _ _ _)
      | (with_reducible exact ih1 _ _ _ _ _ _ _ _ _)
      | (with_reducible exact ih2 _ _ _ _ _ _ _ _ _ _)
      | (with_reducible exact ih3 _ _ _ _ _ _ _ _ _)
      | (with_reducible exact spec_tiGood.mono _ _)
      | (with_reducible exact LeO.refl _)
      | (with_reducible exact LeO.none _)
      | (with_reducible refine LeO.ite ?_ ?_)
      | (with_reducible refine LeO.bind ?_ (fun _ => ?_))
      | exact ih0 _ _ _ _ _
      | exact ih1 _ _ _ _ _ _ _ _ _
      | exact ih2 _ _ _ _ _ _ _ _ _ _
      | exact ih3 _ _ _ _ _ _ _ _ _
      | exact spec_tiGood.mono _ _
      | exact LeO.none _
      | refine LeO.ite ?_ ?_
      | refine LeO.bind ?_ (fun _ => ?_)
theorem spec_CountGlosses.mono : ∀ a0 k, LeO (spec_CountGlosses.f k a0) (spec_CountGlosses.f (k + 1) a0) := by
  intro a0 k
  obtain ⟨ih0, ih1, ih2, ih3⟩ := spec_CountGlosses.mono_l k
  unfold spec_CountGlosses.f
  repeat' first
      | (with_reducible exact ih0 _ _ _ _ _)
      | (with_reducible exact ih1 _ _ _ _ _ _ _ _ _)
      | (with_reducible exact ih2 _ _ _ _ _ _ _ _ _ _)
      | (with_reducible exact ih3 _ _ _ _ _ _ _ _ _)
      | (with_reducible exact spec_tiGood.mono _ _)
      | (with_reducible exact LeO.refl _)
      | (with_reducible exact LeO.none _)
      | (with_reducible refine LeO.ite ?_ ?_)
      | (with_reducible refine LeO.bind ?_ (fun _ => ?_))
      | exact ih0 _ _ _ _ _
      | exact ih1 _ _ _ _ _ _ _ _ _
      | exact ih2 _ _ _ _ _ _ _ _ _ _
      | exact ih3 _ _ _ _ _ _ _ _ _
      | exact spec_tiGood.mono _ _
      | exact LeO.none _
      | refine LeO.ite ?_ ?_
      | refine LeO.bind ?_ (fun _ => ?_)
noncomputable def spec_CountGlosses.L0 (x5 : List ByteArray) (x6 : List Int) (x13 : List (S66)) (x14 : Int) (x15 : Int) : Option (List ByteArray × List Int × Bool) := lim fun k => spec_CountGlosses.l0 k x5 x6 x13 x14 x15
theorem spec_CountGlosses.L0_lim (x5 : List ByteArray) (x6 : List Int) (x13 : List (S66)) (x14 : Int) (x15 : Int) : Lim (fun k => spec_CountGlosses.l0 k x5 x6 x13 x14 x15) (spec_CountGlosses.L0 x5 x6 x13 x14 x15) := ⟨fun k => (spec_CountGlosses.mono_l k).1 x5 x6 x13 x14 x15, rfl⟩
noncomputable def spec_CountGlosses.J2 (x5 : List ByteArray) (x6 : List Int) (x9 : Int) (x13 : List (S66)) (x14 : Int) (x15 : Int) (x154000 : Int) (x154001 : Int) (x154002 : ByteArray) : Option (List ByteArray × List Int × Bool) := lim fun k => spec_CountGlosses.j2 k x5 x6 x9 x13 x14 x15 x154000 x154001 x154002
theorem spec_CountGlosses.J2_lim (x5 : List ByteArray) (x6 : List Int) (x9 : Int) (x13 : List (S66)) (x14 : Int) (x15 : Int) (x154000 : Int) (x154001 : Int) (x154002 : ByteArray) : Lim (fun k => spec_CountGlosses.j2 k x5 x6 x9 x13 x14 x15 x154000 x154001 x154002) (spec_CountGlosses.J2 x5 x6 x9 x13 x14 x15 x154000 x154001 x154002) := ⟨fun k => (spec_CountGlosses.mono_l k).2.1 x5 x6 x9 x13 x14 x15 x154000 x154001 x154002, rfl⟩
noncomputable def spec_CountGlosses.J3 (x5 : List ByteArray) (x6 : List Int) (x9 : Int) (x13 : List (S66)) (x14 : Int) (x15 : Int) (x46 : Bool) (x154000 : Int) (x154001 : Int) (x154002 : ByteArray) : Option (List ByteArray × List Int × Bool) := lim fun k => spec_CountGlosses.j3 k x5 x6 x9 x13 x14 x15 x46 x154000 x154001 x154002
theorem spec_CountGlosses.J3_lim (x5 : List ByteArray) (x6 : List Int) (x9 : Int) (x13 : List (S66)) (x14 : Int) (x15 : Int) (x46 : Bool) (x154000 : Int) (x154001 : Int) (x154002 : ByteArray) : Lim (fun k => spec_CountGlosses.j3 k x5 x6 x9 x13 x14 x15 x46 x154000 x154001 x154002) (spec_CountGlosses.J3 x5 x6 x9 x13 x14 x15 x46 x154000 x154001 x154002) := ⟨fun k => (spec_CountGlosses.mono_l k).2.2.1 x5 x6 x9 x13 x14 x15 x46 x154000 x154001 x154002, rfl⟩
noncomputable def spec_CountGlosses.L1 (x5 : List ByteArray) (x6 : List Int) (x9 : Int) (x13 : List (S66)) (x14 : Int) (x15 : Int) (x154000 : Int) (x154001 : Int) (x154002 : ByteArray) : Option (List ByteArray × List Int × Bool) := lim fun k => spec_CountGlosses.l1 k x5 x6 x9 x13 x14 x15 x154000 x154001 x154002
theorem spec_CountGlosses.L1_lim (x5 : List ByteArray) (x6 : List Int) (x9 : Int) (x13 : List (S66)) (x14 : Int) (x15 : Int) (x154000 : Int) (x154001 : Int) (x154002 : ByteArray) : Lim (fun k => spec_CountGlosses.l1 k x5 x6 x9 x13 x14 x15 x154000 x154001 x154002) (spec_CountGlosses.L1 x5 x6 x9 x13 x14 x15 x154000 x154001 x154002) := ⟨fun k => (spec_CountGlosses.mono_l k).2.2.2 x5 x6 x9 x13 x14 x15 x154000 x154001 x154002, rfl⟩
noncomputable def spec_CountGlosses.F (l0 : List (S66)) : Option (List ByteArray × List Int × Bool) := lim fun k => spec_CountGlosses.f k l0
theorem spec_CountGlosses.F_lim (l0 : List (S66)) : Lim (fun k => spec_CountGlosses.f k l0) (spec_CountGlosses.F l0) := ⟨spec_CountGlosses.mono l0, rfl⟩
theorem spec_CountGlosses.L0_eq (x5 : List ByteArray) (x6 : List Int) (x13 : List (S66)) (x14 : Int) (x15 : Int) : spec_CountGlosses.L0 x5 x6 x13 x14 x15 = (if x15 < x14 then (if 0 ≤ x15 then (if x15 < (x13.length : Int) then (spec_CountGlosses.L1 x5 x6 0 x13 x14 x15 ((rd_T66 x13 x15).f0) ((rd_T66 x13 x15).f1) ((rd_T66 x13 x15).f2)) else (none)) else (none)) else (some (x5, x6, true))) := by
  refine Lim.succ_eq (spec_CountGlosses.L0_lim x5 x6 x13 x14 x15).mon ?_
  simp only [spec_CountGlosses.l0]
  repeat' first
  | (with_reducible exact spec_CountGlosses.L0_lim _ _ _ _ _)
  | (with_reducible exact spec_CountGlosses.J2_lim _ _ _ _ _ _ _ _ _)
  | (with_reducible exact spec_CountGlosses.J3_lim _ _ _ _ _ _ _ _ _ _)
  | (with_reducible exact spec_CountGlosses.L1_lim _ _ _ _ _ _ _ _ _)
  | (with_reducible exact spec_tiGood.F_lim _)
  | (with_reducible refine Lim.ite ?_ ?_)
  | (with_reducible refine Lim.bind ?_ (fun _ => ?_))
  | (with_reducible exact Lim.const _)
theorem spec_CountGlosses.J2_eq (x5 : List ByteArray) (x6 : List Int) (x9 : Int) (x13 : List (S66)) (x14 : Int) (x15 : Int) (x154000 : Int) (x154001 : Int) (x154002 : ByteArray) : spec_CountGlosses.J2 x5 x6 x9 x13 x14 x15 x154000 x154001 x154002 = (if x9 < (x5.length : Int) then (if 0 ≤ x9 then (spec_CountGlosses.J3 x5 x6 x9 x13 x14 x15 ((rdOf ByteArray.empty x5 x9).toList == x154002.toList) x154000 x154001 x154002) else (none)) else (spec_CountGlosses.J3 x5 x6 x9 x13 x14 x15 false x154000 x154001 x154002)) := by
  refine Lim.succ_eq (spec_CountGlosses.J2_lim x5 x6 x9 x13 x14 x15 x154000 x154001 x154002).mon ?_
  simp only [spec_CountGlosses.j2]
  repeat' first
  | (with_reducible exact spec_CountGlosses.L0_lim _ _ _ _ _)
  | (with_reducible exact spec_CountGlosses.J2_lim _ _ _ _ _ _ _ _ _)
  | (with_reducible exact spec_CountGlosses.J3_lim _ _ _ _ _ _ _ _ _ _)
  | (with_reducible exact spec_CountGlosses.L1_lim _ _ _ _ _ _ _ _ _)
  | (with_reducible exact spec_tiGood.F_lim _)
  | (with_reducible refine Lim.ite ?_ ?_)
  | (with_reducible refine Lim.bind ?_ (fun _ => ?_))
  | (with_reducible exact Lim.const _)
theorem spec_CountGlosses.J3_eq (x5 : List ByteArray) (x6 : List Int) (x9 : Int) (x13 : List (S66)) (x14 : Int) (x15 : Int) (x46 : Bool) (x154000 : Int) (x154001 : Int) (x154002 : ByteArray) : spec_CountGlosses.J3 x5 x6 x9 x13 x14 x15 x46 x154000 x154001 x154002 = (if x46 = true then (if 0 ≤ x9 then (if x9 < (x6.length : Int) then (spec_CountGlosses.L0 x5 (x6.set (x9 : Int).toNat (wrap64 ((rd x6 x9) + 1))) x13 x14 (wrap64 (x15 + 1))) else (none)) else (none)) else ((some (([] : List ByteArray) : List ByteArray)).bind fun y158 => (if 0 ≤ x9 then (if x9 ≤ (x5.length : Int) then ((some (x5.take (x9 : Int).toNat : List ByteArray)).bind fun y161 => (if y158.length + y161.length < 8796093022208 then ((some (y158 ++ y161 : List ByteArray)).bind fun y165 => ((some (([x154002] : List ByteArray) : List ByteArray)).bind fun y168 => (if y165.length + y168.length < 8796093022208 then ((some (y165 ++ y168 : List ByteArray)).bind fun y171 => ((some (x5.drop (x9 : Int).toNat : List ByteArray)).bind fun y174 => (if y171.length + y174.length < 8796093022208 then (if x9 ≤ (x6.length : Int) then ((spec_l1Own.f (x6.take (x9 : Int).toNat)).bind fun t185 => ((some (([1] : List Int) : List Int)).bind fun y188 => (if t185.length + y188.length < 17592186044416 then ((some (t185 ++ y188 : List Int)).bind fun y191 => ((some (x6.drop (x9 : Int).toNat : List Int)).bind fun y194 => (if y191.length + y194.length < 17592186044416 then (spec_CountGlosses.L0 (y171 ++ y174) (y191 ++ y194) x13 x14 (wrap64 (x15 + 1))) else (none)))) else (none)))) else (none)) else (none)))) else (none)))) else (none))) else (none)) else (none)))) := by
  refine Lim.succ_eq (spec_CountGlosses.J3_lim x5 x6 x9 x13 x14 x15 x46 x154000 x154001 x154002).mon ?_
  simp only [spec_CountGlosses.j3]
  repeat' first
  | (with_reducible exact spec_CountGlosses.L0_lim _ _ _ _ _)
  | (with_reducible exact spec_CountGlosses.J2_lim _ _ _ _ _ _ _ _ _)
  | (with_reducible exact spec_CountGlosses.J3_lim _ _ _ _ _ _ _ _ _ _)
  | (with_reducible exact spec_CountGlosses.L1_lim _ _ _ _ _ _ _ _ _)
  | (with_reducible exact spec_tiGood.F_lim _)
  | (with_reducible refine Lim.ite ?_ ?_)
  | (with_reducible refine Lim.bind ?_ (fun _ => ?_))
  | (with_reducible exact Lim.const _)
theorem spec_CountGlosses.L1_eq (x5 : List ByteArray) (x6 : List Int) (x9 : Int) (x13 : List (S66)) (x14 : Int) (x15 : Int) (x154000 : Int) (x154001 : Int) (x154002 : ByteArray) : spec_CountGlosses.L1 x5 x6 x9 x13 x14 x15 x154000 x154001 x154002 = (if x9 < (x5.length : Int) then (if 0 ≤ x9 then (if (Op.bytesLess ((rdOf ByteArray.empty x5 x9).toList) x154002.toList) = true then (spec_CountGlosses.L1 x5 x6 (wrap64 (x9 + 1)) x13 x14 x15 x154000 x154001 x154002) else (spec_CountGlosses.J2 x5 x6 x9 x13 x14 x15 x154000 x154001 x154002)) else (none)) else (spec_CountGlosses.J2 x5 x6 x9 x13 x14 x15 x154000 x154001 x154002)) := by
  refine Lim.succ_eq (spec_CountGlosses.L1_lim x5 x6 x9 x13 x14 x15 x154000 x154001 x154002).mon ?_
  simp only [spec_CountGlosses.l1]
  repeat' first
  | (with_reducible exact spec_CountGlosses.L0_lim _ _ _ _ _)
  | (with_reducible exact spec_CountGlosses.J2_lim _ _ _ _ _ _ _ _ _)
  | (with_reducible exact spec_CountGlosses.J3_lim _ _ _ _ _ _ _ _ _ _)
  | (with_reducible exact spec_CountGlosses.L1_lim _ _ _ _ _ _ _ _ _)
  | (with_reducible exact spec_tiGood.F_lim _)
  | (with_reducible refine Lim.ite ?_ ?_)
  | (with_reducible refine Lim.bind ?_ (fun _ => ?_))
  | (with_reducible exact Lim.const _)
theorem spec_CountGlosses.F_eq (l0 : List (S66)) : spec_CountGlosses.F l0 = ((spec_tiGood.F l0).bind fun t151 => (if t151 = true then (spec_CountGlosses.L0 ([] : List ByteArray) ([] : List Int) l0 (l0.length : Int) 0) else (some (([] : List ByteArray), ([] : List Int), false)))) := by
  refine Lim.eq_ ?_
  simp only [spec_CountGlosses.f]
  repeat' first
  | (with_reducible exact spec_CountGlosses.L0_lim _ _ _ _ _)
  | (with_reducible exact spec_CountGlosses.J2_lim _ _ _ _ _ _ _ _ _)
  | (with_reducible exact spec_CountGlosses.J3_lim _ _ _ _ _ _ _ _ _ _)
  | (with_reducible exact spec_CountGlosses.L1_lim _ _ _ _ _ _ _ _ _)
  | (with_reducible exact spec_tiGood.F_lim _)
  | (with_reducible refine Lim.ite ?_ ?_)
  | (with_reducible refine Lim.bind ?_ (fun _ => ?_))
  | (with_reducible exact Lim.const _)
def impl_within.f (a0 : Int) (a1 : Int) (a2 : Int) : Option (Bool) := if a0 ≥ a1 then (some (decide (a0 ≤ a2))) else (some false)
def impl_isFrame.f (a0 : Int) : Option (Bool) := (impl_within.f a0 0 99999).bind fun t201 => (some t201)
def stringslite_IndexByte.f (a0 : ByteArray) (a1 : Int) : Option (Int) := some (Lib.indexByte a0.data.toList a1.toNat.toUInt8)
def strings_IndexByte.f (a0 : ByteArray) (a1 : Int) : Option (Int) := (stringslite_IndexByte.f a0 a1).bind fun t202 => (some t202)
def impl_hasOnly.l0 : Nat → ByteArray → ByteArray → Int → Int → Option (Bool)
  | 0, _, _, _, _ => none
  | k + 1, x0, x1, x7, x8 => if x8 < x7 then (if 0 ≤ x8 then (if x8 < (x0.size : Int) then ((strings_IndexByte.f x1 (bt x0 x8)).bind fun t203 => (if t203 < 0 then (some false) else (impl_hasOnly.l0 k x0 x1 x7 (wrap64 (x8 + 1))))) else (none)) else (none)) else (some true)
def impl_hasOnly.f (k : Nat) (a0 : ByteArray) (a1 : ByteArray) : Option (Bool) := impl_hasOnly.l0 k a0 a1 (a0.size : Int) 0
theorem impl_hasOnly.mono_l : ∀ k, (∀ y0 y1 y2 y3, LeO (impl_hasOnly.l0 k y0 y1 y2 y3) (impl_hasOnly.l0 (k + 1) y0 y1 y2 y3))
  | 0 => fun _ _ _ _ r h => by simp [impl_hasOnly.l0] at h
  | k + 1 => by
    have ih0 := impl_hasOnly.mono_l k
    · intro y0 y1 y2 y3
      unfold impl_hasOnly.l0
      repeat' first
      | (with_reducible exact ih0 _ _ _ _)
      | (with_reducible exact LeO.refl _)
      | (with_reducible exact LeO.none _)
      | (with_reducible refine LeO.ite ?_ ?_)
      | (with_reducible refine LeO.bind ?_ (fun _ => ?_))
      | exact ih0 _ _ _ _
      | exact LeO.none _
      | refine LeO.ite ?_ ?_
      | refine LeO.bind ?_ (fun _ => ?_)
theorem impl_hasOnly.mono : ∀ a0 a1 k, LeO (impl_hasOnly.f k a0 a1) (impl_hasOnly.f (k + 1) a0 a1) := by
  intro a0 a1 k
  have ih0 := impl_hasOnly.mono_l k
  unfold impl_hasOnly.f
  repeat' first
      | (with_reducible exact ih0 _ _ _ _)
      | (with_reducible exact LeO.refl _)
      | (with_reducible exact LeO.none _)
      | (with_reducible refine LeO.ite ?_ ?_)
      | (with_reducible refine LeO.bind ?_ (fun _ => ?_))
      | exact ih0 _ _ _ _
      | exact LeO.none _
      | refine LeO.ite ?_ ?_
      | refine LeO.bind ?_ (fun _ => ?_)
noncomputable def impl_hasOnly.L0 (x0 : ByteArray) (x1 : ByteArray) (x7 : Int) (x8 : Int) : Option (Bool) := lim fun k => impl_hasOnly.l0 k x0 x1 x7 x8
theorem impl_hasOnly.L0_lim (x0 : ByteArray) (x1 : ByteArray) (x7 : Int) (x8 : Int) : Lim (fun k => impl_hasOnly.l0 k x0 x1 x7 x8) (impl_hasOnly.L0 x0 x1 x7 x8) := ⟨fun k => (impl_hasOnly.mono_l k) x0 x1 x7 x8, rfl⟩
noncomputable def impl_hasOnly.F (a0 : ByteArray) (a1 : ByteArray) : Option (Bool) := lim fun k => impl_hasOnly.f k a0 a1
theorem impl_hasOnly.F_lim (a0 : ByteArray) (a1 : ByteArray) : Lim (fun k => impl_hasOnly.f k a0 a1) (impl_hasOnly.F a0 a1) := ⟨impl_hasOnly.mono a0 a1, rfl⟩
theorem impl_hasOnly.L0_eq (x0 : ByteArray) (x1 : ByteArray) (x7 : Int) (x8 : Int) : impl_hasOnly.L0 x0 x1 x7 x8 = (if x8 < x7 then (if 0 ≤ x8 then (if x8 < (x0.size : Int) then ((strings_IndexByte.f x1 (bt x0 x8)).bind fun t203 => (if t203 < 0 then (some false) else (impl_hasOnly.L0 x0 x1 x7 (wrap64 (x8 + 1))))) else (none)) else (none)) else (some true)) := by
  refine Lim.succ_eq (impl_hasOnly.L0_lim x0 x1 x7 x8).mon ?_
  simp only [impl_hasOnly.l0]
  repeat' first
  | (with_reducible exact impl_hasOnly.L0_lim _ _ _ _)
  | (with_reducible refine Lim.ite ?_ ?_)
  | (with_reducible refine Lim.bind ?_ (fun _ => ?_))
  | (with_reducible exact Lim.const _)
theorem impl_hasOnly.F_eq (a0 : ByteArray) (a1 : ByteArray) : impl_hasOnly.F a0 a1 = (impl_hasOnly.L0 a0 a1 (a0.size : Int) 0) := by
  refine Lim.eq_ ?_
  simp only [impl_hasOnly.f]
  repeat' first
  | (with_reducible exact impl_hasOnly.L0_lim _ _ _ _)
  | (with_reducible refine Lim.ite ?_ ?_)
  | (with_reducible refine Lim.bind ?_ (fun _ => ?_))
  | (with_reducible exact Lim.const _)
def impl_isWordOf.f (k : Nat) (a0 : ByteArray) (a1 : ByteArray) : Option (Bool) := (impl_within.f (a0.size : Int) 1 8).bind fun t204 => (if t204 = true then ((impl_hasOnly.f k a0 a1).bind fun t205 => (some t205)) else (some false))
theorem impl_isWordOf.mono : ∀ a0 a1 k, LeO (impl_isWordOf.f k a0 a1) (impl_isWordOf.f (k + 1) a0 a1) := by
  intro a0 a1 k
  unfold impl_isWordOf.f
  repeat' first
      | (with_reducible exact impl_hasOnly.mono _ _ _)
      | (with_reducible exact LeO.refl _)
      | (with_reducible exact LeO.none _)
      | (with_reducible refine LeO.ite ?_ ?_)
      | (with_reducible refine LeO.bind ?_ (fun _ => ?_))
      | exact impl_hasOnly.mono _ _ _
      | exact LeO.none _
      | refine LeO.ite ?_ ?_
      | refine LeO.bind ?_ (fun _ => ?_)
noncomputable def impl_isWordOf.F (a0 : ByteArray) (a1 : ByteArray) : Option (Bool) := lim fun k => impl_isWordOf.f k a0 a1
theorem impl_isWordOf.F_lim (a0 : ByteArray) (a1 : ByteArray) : Lim (fun k => impl_isWordOf.f k a0 a1) (impl_isWordOf.F a0 a1) := ⟨impl_isWordOf.mono a0 a1, rfl⟩
theorem impl_isWordOf.F_eq (a0 : ByteArray) (a1 : ByteArray) : impl_isWordOf.F a0 a1 = ((impl_within.f (a0.size : Int) 1 8).bind fun t204 => (if t204 = true then ((impl_hasOnly.F a0 a1).bind fun t205 => (some t205)) else (some false))) := by
  refine Lim.eq_ ?_
  simp only [impl_isWordOf.f]
  repeat' first
  | (with_reducible exact impl_hasOnly.F_lim _ _)
  | (with_reducible refine Lim.ite ?_ ?_)
  | (with_reducible refine Lim.bind ?_ (fun _ => ?_))
  | (with_reducible exact Lim.const _)
def impl_IsNote.f (k : Nat) (a0_0 : Int) (a0_1 : Int) (a0_2 : ByteArray) : Option (Bool) := (impl_isFrame.f a0_0).bind fun t207 => (if t207 = true then ((impl_isFrame.f a0_1).bind fun t208 => (if t208 = true then (if a0_0 < a0_1 then ((impl_isWordOf.f k a0_2 (⟨#[65, 66, 67, 68, 69, 70, 71, 72, 73, 74, 75, 76, 77, 78, 79, 80, 81, 82, 83, 84, 85, 86, 87, 88, 89, 90]⟩ : ByteArray)).bind fun t209 => (some t209)) else (some false)) else (some false))) else (some false))
theorem impl_IsNote.mono : ∀ a0 a1 a2 k, LeO (impl_IsNote.f k a0 a1 a2) (impl_IsNote.f (k + 1) a0 a1 a2) := by
  intro a0 a1 a2 k
  unfold impl_IsNote.f
  repeat' first
      | (with_reducible exact impl_isWordOf.mono _ _ _)
      | (with_reducible exact LeO.refl _)
      | (with_reducible exact LeO.none _)
      | (with_reducible refine LeO.ite ?_ ?_)
      | (with_reducible refine LeO.bind ?_ (fun _ => ?_))
      | exact impl_isWordOf.mono _ _ _
      | exact LeO.none _
      | refine LeO.ite ?_ ?_
      | refine LeO.bind ?_ (fun _ => ?_)
noncomputable def impl_IsNote.F (a0_0 : Int) (a0_1 : Int) (a0_2 : ByteArray) : Option (Bool) := lim fun k => impl_IsNote.f k a0_0 a0_1 a0_2
theorem impl_IsNote.F_lim (a0_0 : Int) (a0_1 : Int) (a0_2 : ByteArray) : Lim (fun k => impl_IsNote.f k a0_0 a0_1 a0_2) (impl_IsNote.F a0_0 a0_1 a0_2) := ⟨impl_IsNote.mono a0_0 a0_1 a0_2, rfl⟩
theorem impl_IsNote.F_eq (a0_0 : Int) (a0_1 : Int) (a0_2 : ByteArray) : impl_IsNote.F a0_0 a0_1 a0_2 = ((impl_isFrame.f a0_0).bind fun t207 => (if t207 = true then ((impl_isFrame.f a0_1).bind fun t208 => (if t208 = true then (if a0_0 < a0_1 then ((impl_isWordOf.F a0_2 (⟨#[65, 66, 67, 68, 69, 70, 71, 72, 73, 74, 75, 76, 77, 78, 79, 80, 81, 82, 83, 84, 85, 86, 87, 88, 89, 90]⟩ : ByteArray)).bind fun t209 => (some t209)) else (some false)) else (some false))) else (some false))) := by
  refine Lim.eq_ ?_
  simp only [impl_IsNote.f]
  repeat' first
  | (with_reducible exact impl_isWordOf.F_lim _ _)
  | (with_reducible refine Lim.ite ?_ ?_)
  | (with_reducible refine Lim.bind ?_ (fun _ => ?_))
  | (with_reducible exact Lim.const _)
def impl_IsTier.l0 : Nat → List (S66) → List (S66) → Int → Int → Option (Bool)
  | 0, _, _, _, _ => none
  | k + 1, x0, x5, x6, x7 => if x7 < x6 then (if 0 ≤ x7 then (if x7 < (x5.length : Int) then ((impl_IsNote.f k ((rd_T66 x5 x7).f0) ((rd_T66 x5 x7).f1) ((rd_T66 x5 x7).f2)).bind fun t212 => (if t212 = true then (if x7 > 0 then (if 0 ≤ (wrap64 (x7 - 1)) then (if (wrap64 (x7 - 1)) < (x0.length : Int) then (if ((rd_T66 x0 (wrap64 (x7 - 1))).f1) > ((rd_T66 x5 x7).f0) then (some false) else (impl_IsTier.l0 k x0 x5 x6 (wrap64 (x7 + 1)))) else (none)) else (none)) else (impl_IsTier.l0 k x0 x5 x6 (wrap64 (x7 + 1)))) else (some false))) else (none)) else (none)) else (some (decide ((x0.length : Int) ≤ 40)))
def impl_IsTier.f (k : Nat) (l0 : List (S66)) : Option (Bool) := impl_IsTier.l0 k l0 l0 (l0.length : Int) 0
theorem impl_IsTier.mono_l : ∀ k, (∀ y0 y1 y2 y3, LeO (impl_IsTier.l0 k y0 y1 y2 y3) (impl_IsTier.l0 (k + 1) y0 y1 y2 y3))
  | 0 => fun _ _ _ _ r h => by simp [impl_IsTier.l0] at h
  | k + 1 => by
    have ih0 := impl_IsTier.mono_l k
    · intro y0 y1 y2 y3
      unfold impl_IsTier.l0
      repeat' first
      | (with_reducible exact ih0 _ _ _ _)
      | (with_reducible exact impl_IsNote.mono _ _ _ _)
      | (with_reducible exact LeO.refl _)
      | (with_reducible exact LeO.none _)
      | (with_reducible refine LeO.ite ?_ ?_)
      | (with_reducible refine LeO.bind ?_ (fun _ => ?_))
      | exact ih0 _ _ _ _
      | exact impl_IsNote.mono _ _ _ _
      | exact LeO.none _
      | refine LeO.ite ?_ ?_
      | refine LeO.bind ?_ (fun _ => ?_)
theorem impl_IsTier.mono : ∀ a0 k, LeO (impl_IsTier.f k a0) (impl_IsTier.f (k + 1) a0) := by
  intro a0 k
  have ih0 := impl_IsTier.mono_l k
  unfold impl_IsTier.f
  repeat' first
      | (with_reducible exact ih0 _ _ _ _)
      | (with_reducible exact impl_IsNote.mono _ _ _ _)
      | (with_reducible exact LeO.refl _)
      | (with_reducible exact LeO.none _)
      | (with_reducible refine LeO.ite ?_ ?_)
      | (with_reducible refine LeO.bind ?_ (fun _ => ?_))
      | exact ih0 _ _ _ _
      | exact impl_IsNote.mono _ _ _ _
      | exact LeO.none _
      | refine LeO.ite ?_ ?_
      | refine LeO.bind ?_ (fun _ => ?_)
noncomputable def impl_IsTier.L0 (x0 : List (S66)) (x5 : List (S66)) (x6 : Int) (x7 : Int) : Option (Bool) := lim fun k => impl_IsTier.l0 k x0 x5 x6 x7
theorem impl_IsTier.L0_lim (x0 : List (S66)) (x5 : List (S66)) (x6 : Int) (x7 : Int) : Lim (fun k => impl_IsTier.l0 k x0 x5 x6 x7) (impl_IsTier.L0 x0 x5 x6 x7) := ⟨fun k => (impl_IsTier.mono_l k) x0 x5 x6 x7, rfl⟩
noncomputable def impl_IsTier.F (l0 : List (S66)) : Option (Bool) := lim fun k => impl_IsTier.f k l0
theorem impl_IsTier.F_lim (l0 : List (S66)) : Lim (fun k => impl_IsTier.f k l0) (impl_IsTier.F l0) := ⟨impl_IsTier.mono l0, rfl⟩
theorem impl_IsTier.L0_eq (x0 : List (S66)) (x5 : List (S66)) (x6 : Int) (x7 : Int) : impl_IsTier.L0 x0 x5 x6 x7 = (if x7 < x6 then (if 0 ≤ x7 then (if x7 < (x5.length : Int) then ((impl_IsNote.F ((rd_T66 x5 x7).f0) ((rd_T66 x5 x7).f1) ((rd_T66 x5 x7).f2)).bind fun t212 => (if t212 = true then (if x7 > 0 then (if 0 ≤ (wrap64 (x7 - 1)) then (if (wrap64 (x7 - 1)) < (x0.length : Int) then (if ((rd_T66 x0 (wrap64 (x7 - 1))).f1) > ((rd_T66 x5 x7).f0) then (some false) else (impl_IsTier.L0 x0 x5 x6 (wrap64 (x7 + 1)))) else (none)) else (none)) else (impl_IsTier.L0 x0 x5 x6 (wrap64 (x7 + 1)))) else (some false))) else (none)) else (none)) else (some (decide ((x0.length : Int) ≤ 40)))) := by
  refine Lim.succ_eq (impl_IsTier.L0_lim x0 x5 x6 x7).mon ?_
  simp only [impl_IsTier.l0]
  repeat' first
  | (with_reducible exact impl_IsTier.L0_lim _ _ _ _)
  | (with_reducible exact impl_IsNote.F_lim _ _ _)
  | (with_reducible refine Lim.ite ?_ ?_)
  | (with_reducible refine Lim.bind ?_ (fun _ => ?_))
  | (with_reducible exact Lim.const _)
theorem impl_IsTier.F_eq (l0 : List (S66)) : impl_IsTier.F l0 = (impl_IsTier.L0 l0 l0 (l0.length : Int) 0) := by
  refine Lim.eq_ ?_
  simp only [impl_IsTier.f]
  repeat' first
  | (with_reducible exact impl_IsTier.L0_lim _ _ _ _)
  | (with_reducible exact impl_IsNote.F_lim _ _ _)
  | (with_reducible refine Lim.ite ?_ ?_)
  | (with_reducible refine Lim.bind ?_ (fun _ => ?_))
  | (with_reducible exact Lim.const _)
def slices_Clone_string.f (l0 : List ByteArray) : Option (List ByteArray) := (some (([] : List ByteArray) : List ByteArray)).bind fun y214 => (if y214.length + l0.length < 8796093022208 then (some (y214 ++ l0)) else (none))
def slices_Sort_string.f (l0 : List ByteArray) : Option (List ByteArray) := if l0.length < 4611686018427387904 then some (sortTexts l0) else none
def slices_Compact_string.f (l0 : List ByteArray) : Option (List ByteArray) := if l0.length < 4611686018427387904 then some (onceTexts l0) else none
def impl_distinct_string.f (l0 : List ByteArray) : Option (List ByteArray) := (slices_Clone_string.f l0).bind fun t220 => ((slices_Sort_string.f t220).bind fun t223 => ((slices_Compact_string.f t223).bind fun t224 => (some t224)))
def impl_CountGlosses_1.f (a0 : ByteArray) (a1_0 : ByteArray) : Option (Bool) := some (a0.toList == a1_0.toList)
def impl_those_string_impl_CountGlosses_1.l0 : Nat → List Int → List ByteArray → Int → Int → ByteArray → Option (List Int)
  | 0, _, _, _, _, _ => none
  | k + 1, x5, x8, x9, x10, x39000 => if x10 < x9 then (if 0 ≤ x10 then (if x10 < (x8.length : Int) then ((impl_CountGlosses_1.f (rdOf ByteArray.empty x8 x10) x39000).bind fun t228 => (if t228 = true then (if x5.length < 17592186044416 then (impl_those_string_impl_CountGlosses_1.l0 k (x5 ++ [x10]) x8 x9 (wrap64 (x10 + 1)) x39000) else (none)) else (impl_those_string_impl_CountGlosses_1.l0 k x5 x8 x9 (wrap64 (x10 + 1)) x39000))) else (none)) else (none)) else (some x5)
def impl_those_string_impl_CountGlosses_1.f (k : Nat) (l0 : List ByteArray) (a1_0 : ByteArray) : Option (List Int) := impl_those_string_impl_CountGlosses_1.l0 k ([] : List Int) l0 (l0.length : Int) 0 a1_0
theorem impl_those_string_impl_CountGlosses_1.mono_l : ∀ k, (∀ y0 y1 y2 y3 y4, LeO (impl_those_string_impl_CountGlosses_1.l0 k y0 y1 y2 y3 y4) (impl_those_string_impl_CountGlosses_1.l0 (k + 1) y0 y1 y2 y3 y4))
  | 0 => fun _ _ _ _ _ r h => by simp [impl_those_string_impl_CountGlosses_1.l0] at h
  | k + 1 => by
    have ih0 := impl_those_string_impl_CountGlosses_1.mono_l k
    · intro y0 y1 y2 y3 y4
      unfold impl_those_string_impl_CountGlosses_1.l0
      repeat' first
      | (with_reducible exact ih0 _ _ _ _ _)
      | (with_reducible exact LeO.refl _)
      | (with_reducible exact LeO.none _)
      | (with_reducible refine LeO.ite ?_ ?_)
      | (with_reducible refine LeO.bind ?_ (fun _ => ?_))
      | exact ih0 _ _ _ _ _
      | exact LeO.none _
      | refine LeO.ite ?_ ?_
      | refine LeO.bind ?_ (fun _ => ?_)
theorem impl_those_string_impl_CountGlosses_1.mono : ∀ a0 a1 k, LeO (impl_those_string_impl_CountGlosses_1.f k a0 a1) (impl_those_string_impl_CountGlosses_1.f (k + 1) a0 a1) := by
  intro a0 a1 k
  have ih0 := impl_those_string_impl_CountGlosses_1.mono_l k
  unfold impl_those_string_impl_CountGlosses_1.f
  repeat' first
      | (with_reducible exact ih0 _ _ _ _ _)
      | (with_reducible exact LeO.refl _)
      | (with_reducible exact LeO.none _)
      | (with_reducible refine LeO.ite ?_ ?_)
      | (with_reducible refine LeO.bind ?_ (fun _ => ?_))
      | exact ih0 _ _ _ _ _
      | exact LeO.none _
      | refine LeO.ite ?_ ?_
      | refine LeO.bind ?_ (fun _ => ?_)
noncomputable def impl_those_string_impl_CountGlosses_1.L0 (x5 : List Int) (x8 : List ByteArray) (x9 : Int) (x10 : Int) (x39000 : ByteArray) : Option (List Int) := lim fun k => impl_those_string_impl_CountGlosses_1.l0 k x5 x8 x9 x10 x39000
theorem impl_those_string_impl_CountGlosses_1.L0_lim (x5 : List Int) (x8 : List ByteArray) (x9 : Int) (x10 : Int) (x39000 : ByteArray) : Lim (fun k => impl_those_string_impl_CountGlosses_1.l0 k x5 x8 x9 x10 x39000) (impl_those_string_impl_CountGlosses_1.L0 x5 x8 x9 x10 x39000) := ⟨fun k => (impl_those_string_impl_CountGlosses_1.mono_l k) x5 x8 x9 x10 x39000, rfl⟩
noncomputable def impl_those_string_impl_CountGlosses_1.F (l0 : List ByteArray) (a1_0 : ByteArray) : Option (List Int) := lim fun k => impl_those_string_impl_CountGlosses_1.f k l0 a1_0
theorem impl_those_string_impl_CountGlosses_1.F_lim (l0 : List ByteArray) (a1_0 : ByteArray) : Lim (fun k => impl_those_string_impl_CountGlosses_1.f k l0 a1_0) (impl_those_string_impl_CountGlosses_1.F l0 a1_0) := ⟨impl_those_string_impl_CountGlosses_1.mono l0 a1_0, rfl⟩
theorem impl_those_string_impl_CountGlosses_1.L0_eq (x5 : List Int) (x8 : List ByteArray) (x9 : Int) (x10 : Int) (x39000 : ByteArray) : impl_those_string_impl_CountGlosses_1.L0 x5 x8 x9 x10 x39000 = (if x10 < x9 then (if 0 ≤ x10 then (if x10 < (x8.length : Int) then ((impl_CountGlosses_1.f (rdOf ByteArray.empty x8 x10) x39000).bind fun t228 => (if t228 = true then (if x5.length < 17592186044416 then (impl_those_string_impl_CountGlosses_1.L0 (x5 ++ [x10]) x8 x9 (wrap64 (x10 + 1)) x39000) else (none)) else (impl_those_string_impl_CountGlosses_1.L0 x5 x8 x9 (wrap64 (x10 + 1)) x39000))) else (none)) else (none)) else (some x5)) := by
  refine Lim.succ_eq (impl_those_string_impl_CountGlosses_1.L0_lim x5 x8 x9 x10 x39000).mon ?_
  simp only [impl_those_string_impl_CountGlosses_1.l0]
  repeat' first
  | (with_reducible exact impl_those_string_impl_CountGlosses_1.L0_lim _ _ _ _ _)
  | (with_reducible refine Lim.ite ?_ ?_)
  | (with_reducible refine Lim.bind ?_ (fun _ => ?_))
  | (with_reducible exact Lim.const _)
theorem impl_those_string_impl_CountGlosses_1.F_eq (l0 : List ByteArray) (a1_0 : ByteArray) : impl_those_string_impl_CountGlosses_1.F l0 a1_0 = (impl_those_string_impl_CountGlosses_1.L0 ([] : List Int) l0 (l0.length : Int) 0 a1_0) := by
  refine Lim.eq_ ?_
  simp only [impl_those_string_impl_CountGlosses_1.f]
  repeat' first
  | (with_reducible exact impl_those_string_impl_CountGlosses_1.L0_lim _ _ _ _ _)
  | (with_reducible refine Lim.ite ?_ ?_)
  | (with_reducible refine Lim.bind ?_ (fun _ => ?_))
  | (with_reducible exact Lim.const _)
mutual
def impl_CountGlosses.l0 : Nat → List ByteArray → List (S66) → Int → Int → Option (List ByteArray × List Int × Bool)
  | 0, _, _, _, _ => none
  | k + 1, x5, x15, x16, x17 => if x17 < x16 then (if 0 ≤ x17 then (if x17 < (x15.length : Int) then (if x5.length < 8796093022208 then (impl_CountGlosses.l0 k (x5 ++ [(rd_T66 x15 x17).f2]) x15 x16 (wrap64 (x17 + 1))) else (none)) else (none)) else (none)) else ((impl_distinct_string.f x5).bind fun t238 => (impl_CountGlosses.l1 k x5 t238 ([] : List Int) t238 (t238.length : Int) 0))
def impl_CountGlosses.l1 : Nat → List ByteArray → List ByteArray → List Int → List ByteArray → Int → Int → Option (List ByteArray × List Int × Bool)
  | 0, _, _, _, _, _, _ => none
  | k + 1, x5, x8, x9, x29, x30, x31 => if x31 < x30 then (if 0 ≤ x31 then (if x31 < (x29.length : Int) then ((impl_those_string_impl_CountGlosses_1.f k x5 (rdOf ByteArray.empty x29 x31)).bind fun t243 => (if x9.length < 17592186044416 then (impl_CountGlosses.l1 k x5 x8 (x9 ++ [(t243.length : Int)]) x29 x30 (wrap64 (x31 + 1))) else (none))) else (none)) else (none)) else (some (x8, x9, true))
end
def impl_CountGlosses.f (k : Nat) (l0 : List (S66)) : Option (List ByteArray × List Int × Bool) := (impl_IsTier.f k l0).bind fun t232 => (if t232 = true then (impl_CountGlosses.l0 k ([] : List ByteArray) l0 (l0.length : Int) 0) else (some (([] : List ByteArray), ([] : List Int), false)))
theorem impl_CountGlosses.mono_l : ∀ k, (∀ y0 y1 y2 y3, LeO (impl_CountGlosses.l0 k y0 y1 y2 y3) (impl_CountGlosses.l0 (k + 1) y0 y1 y2 y3)) ∧ (∀ y0 y1 y2 y3 y4 y5, LeO (impl_CountGlosses.l1 k y0 y1 y2 y3 y4 y5) (impl_CountGlosses.l1 (k + 1) y0 y1 y2 y3 y4 y5))
  | 0 => ⟨fun _ _ _ _ r h => by simp [impl_CountGlosses.l0] at h, fun _ _ _ _ _ _ r h => by simp [impl_CountGlosses.l1] at h⟩
  | k + 1 => by
    obtain ⟨ih0, ih1⟩ := impl_CountGlosses.mono_l k
    refine ⟨?_, ?_⟩
    · intro y0 y1 y2 y3
      unfold impl_CountGlosses.l0
      repeat' first
      | (with_reducible exact ih0 _ _ _ _)
      | (with_reducible exact ih1 _ _ _ _ _ _)
      | (with_reducible exact impl_IsTier.mono _ _)
      | (with_reducible exact impl_those_string_impl_CountGlosses_1.mono _ _ _)
      | (with_reducible exact LeO.refl _)
      | (with_reducible exact LeO.none _)
      | (with_reducible refine LeO.ite ?_ ?_)
      | (with_reducible refine LeO.bind ?_ (fun _ => ?_))
      | exact ih0 _ _ _ _
      | exact ih1 _ _ _ _ _ _
      | exact impl_IsTier.mono _ _
      | exact impl_those_string_impl_CountGlosses_1.mono _ _ _
      | exact LeO.none _
      | refine LeO.ite ?_ ?_
      | refine LeO.bind ?_ (fun _ => ?_)
    · intro y0 y1 y2 y3 y4 y5
      unfold impl_CountGlosses.l1
      repeat' first
      | (with_reducible exact ih0 _ _ _ _)
      | (with_reducible exact ih1 _ _ _ _ _ _)
      | (with_reducible exact impl_IsTier.mono _ _)
      | (with_reducible exact impl_those_string_impl_CountGlosses_1.mono _ _ _)
      | (with_reducible exact LeO.refl _)
      | (with_reducible exact LeO.none _)
      | (with_reducible refine LeO.ite ?_ ?_)
      | (with_reducible refine LeO.bind ?_ (fun _ => ?_))
      | exact ih0 _ _ _ _
      | exact ih1 _ _ _ _ _ _
      | exact impl_IsTier.mono _ _
      | exact impl_those_string_impl_CountGlosses_1.mono _ _ _
      | exact LeO.none _
      | refine LeO.ite ?_ ?_
      | refine LeO.bind ?_ (fun _ => ?_)
theorem impl_CountGlosses.mono : ∀ a0 k, LeO (impl_CountGlosses.f k a0) (impl_CountGlosses.f (k + 1) a0) := by
  intro a0 k
  obtain ⟨ih0, ih1⟩ := impl_CountGlosses.mono_l k
  unfold impl_CountGlosses.f
  repeat' first
      | (with_reducible exact ih0 _ _ _ _)
      | (with_reducible exact ih1 _ _ _ _ _ _)
      | (with_reducible exact impl_IsTier.mono _ _)
      | (with_reducible exact impl_those_string_impl_CountGlosses_1.mono _ _ _)
      | (with_reducible exact LeO.refl _)
      | (with_reducible exact LeO.none _)
      | (with_reducible refine LeO.ite ?_ ?_)
      | (with_reducible refine LeO.bind ?_ (fun _ => ?_))
      | exact ih0 _ _ _ _
      | exact ih1 _ _ _ _ _ _
      | exact impl_IsTier.mono _ _
      | exact impl_those_string_impl_CountGlosses_1.mono _ _ _
      | exact LeO.none _
      | refine LeO.ite ?_ ?_
      | refine LeO.bind ?_ (fun _ => ?_)
noncomputable def impl_CountGlosses.L0 (x5 : List ByteArray) (x15 : List (S66)) (x16 : Int) (x17 : Int) : Option (List ByteArray × List Int × Bool) := lim fun k => impl_CountGlosses.l0 k x5 x15 x16 x17
theorem impl_CountGlosses.L0_lim (x5 : List ByteArray) (x15 : List (S66)) (x16 : Int) (x17 : Int) : Lim (fun k => impl_CountGlosses.l0 k x5 x15 x16 x17) (impl_CountGlosses.L0 x5 x15 x16 x17) := ⟨fun k => (impl_CountGlosses.mono_l k).1 x5 x15 x16 x17, rfl⟩
noncomputable def impl_CountGlosses.L1 (x5 : List ByteArray) (x8 : List ByteArray) (x9 : List Int) (x29 : List ByteArray) (x30 : Int) (x31 : Int) : Option (List ByteArray × List Int × Bool) := lim fun k => impl_CountGlosses.l1 k x5 x8 x9 x29 x30 x31
theorem impl_CountGlosses.L1_lim (x5 : List ByteArray) (x8 : List ByteArray) (x9 : List Int) (x29 : List ByteArray) (x30 : Int) (x31 : Int) : Lim (fun k => impl_CountGlosses.l1 k x5 x8 x9 x29 x30 x31) (impl_CountGlosses.L1 x5 x8 x9 x29 x30 x31) := ⟨fun k => (impl_CountGlosses.mono_l k).2 x5 x8 x9 x29 x30 x31, rfl⟩
noncomputable def impl_CountGlosses.F (l0 : List (S66)) : Option (List ByteArray × List Int × Bool) := lim fun k => impl_CountGlosses.f k l0
theorem impl_CountGlosses.F_lim (l0 : List (S66)) : Lim (fun k => impl_CountGlosses.f k l0) (impl_CountGlosses.F l0) := ⟨impl_CountGlosses.mono l0, rfl⟩
theorem impl_CountGlosses.L0_eq (x5 : List ByteArray) (x15 : List (S66)) (x16 : Int) (x17 : Int) : impl_CountGlosses.L0 x5 x15 x16 x17 = (if x17 < x16 then (if 0 ≤ x17 then (if x17 < (x15.length : Int) then (if x5.length < 8796093022208 then (impl_CountGlosses.L0 (x5 ++ [(rd_T66 x15 x17).f2]) x15 x16 (wrap64 (x17 + 1))) else (none)) else (none)) else (none)) else ((impl_distinct_string.f x5).bind fun t238 => (impl_CountGlosses.L1 x5 t238 ([] : List Int) t238 (t238.length : Int) 0))) := by
  refine Lim.succ_eq (impl_CountGlosses.L0_lim x5 x15 x16 x17).mon ?_
  simp only [impl_CountGlosses.l0]
  repeat' first
  | (with_reducible exact impl_CountGlosses.L0_lim _ _ _ _)
  | (with_reducible exact impl_CountGlosses.L1_lim _ _ _ _ _ _)
  | (with_reducible exact impl_IsTier.F_lim _)
  | (with_reducible exact impl_those_string_impl_CountGlosses_1.F_lim _ _)
  | (with_reducible refine Lim.ite ?_ ?_)
  | (with_reducible refine Lim.bind ?_ (fun _ => ?_))
  | (with_reducible exact Lim.const _)
theorem impl_CountGlosses.L1_eq (x5 : List ByteArray) (x8 : List ByteArray) (x9 : List Int) (x29 : List ByteArray) (x30 : Int) (x31 : Int) : impl_CountGlosses.L1 x5 x8 x9 x29 x30 x31 = (if x31 < x30 then (if 0 ≤ x31 then (if x31 < (x29.length : Int) then ((impl_those_string_impl_CountGlosses_1.F x5 (rdOf ByteArray.empty x29 x31)).bind fun t243 => (if x9.length < 17592186044416 then (impl_CountGlosses.L1 x5 x8 (x9 ++ [(t243.length : Int)]) x29 x30 (wrap64 (x31 + 1))) else (none))) else (none)) else (none)) else (some (x8, x9, true))) := by
  refine Lim.succ_eq (impl_CountGlosses.L1_lim x5 x8 x9 x29 x30 x31).mon ?_
  simp only [impl_CountGlosses.l1]
  repeat' first
  | (with_reducible exact impl_CountGlosses.L0_lim _ _ _ _)
  | (with_reducible exact impl_CountGlosses.L1_lim _ _ _ _ _ _)
  | (with_reducible exact impl_IsTier.F_lim _)
  | (with_reducible exact impl_those_string_impl_CountGlosses_1.F_lim _ _)
  | (with_reducible refine Lim.ite ?_ ?_)
  | (with_reducible refine Lim.bind ?_ (fun _ => ?_))
  | (with_reducible exact Lim.const _)
theorem impl_CountGlosses.F_eq (l0 : List (S66)) : impl_CountGlosses.F l0 = ((impl_IsTier.F l0).bind fun t232 => (if t232 = true then (impl_CountGlosses.L0 ([] : List ByteArray) l0 (l0.length : Int) 0) else (some (([] : List ByteArray), ([] : List Int), false)))) := by
  refine Lim.eq_ ?_
  simp only [impl_CountGlosses.f]
  repeat' first
  | (with_reducible exact impl_CountGlosses.L0_lim _ _ _ _)
  | (with_reducible exact impl_CountGlosses.L1_lim _ _ _ _ _ _)
  | (with_reducible exact impl_IsTier.F_lim _)
  | (with_reducible exact impl_those_string_impl_CountGlosses_1.F_lim _ _)
  | (with_reducible refine Lim.ite ?_ ?_)
  | (with_reducible refine Lim.bind ?_ (fun _ => ?_))
  | (with_reducible exact Lim.const _)
def laws_heldStringS.l0 : Nat → List ByteArray → Int → Int → Option (Int)
  | 0, _, _, _ => none
  | k + 1, x0, x1, x5 => if x5 < (x0.length : Int) then (if 0 ≤ x5 then ((laws_markText.f k x1).bind fun t250 => (if (rdOf ByteArray.empty x0 x5).toList = t250.toList then (laws_heldStringS.l0 k x0 (wrap64 (x1 + 1)) (wrap64 (x5 + 1))) else (some (-1)))) else (none)) else (some x1)
def laws_heldStringS.f (k : Nat) (l0 : List ByteArray) (a1 : Int) : Option (Int) := laws_heldStringS.l0 k l0 a1 0
theorem laws_heldStringS.mono_l : ∀ k, (∀ y0 y1 y2, LeO (laws_heldStringS.l0 k y0 y1 y2) (laws_heldStringS.l0 (k + 1) y0 y1 y2))
  | 0 => fun _ _ _ r h => by simp [laws_heldStringS.l0] at h
  | k + 1 => by
    have ih0 := laws_heldStringS.mono_l k
    · intro y0 y1 y2
      unfold laws_heldStringS.l0
      repeat' first
      | (with_reducible exact ih0 _ _ _)
      | (with_reducible exact laws_markText.mono _ _)
      | (with_reducible exact LeO.refl _)
      | (with_reducible exact LeO.none _)
      | (with_reducible refine LeO.ite ?_ ?_)
      | (with_reducible refine LeO.bind ?_ (fun _ => ?_))
      | exact ih0 _ _ _
      | exact laws_markText.mono _ _
      | exact LeO.none _
      | refine LeO.ite ?_ ?_
      | refine LeO.bind ?_ (fun _ => ?_)
theorem laws_heldStringS.mono : ∀ a0 a1 k, LeO (laws_heldStringS.f k a0 a1) (laws_heldStringS.f (k + 1) a0 a1) := by
  intro a0 a1 k
  have ih0 := laws_heldStringS.mono_l k
  unfold laws_heldStringS.f
  repeat' first
      | (with_reducible exact ih0 _ _ _)
      | (with_reducible exact laws_markText.mono _ _)
      | (with_reducible exact LeO.refl _)
      | (with_reducible exact LeO.none _)
      | (with_reducible refine LeO.ite ?_ ?_)
      | (with_reducible refine LeO.bind ?_ (fun _ => ?_))
      | exact ih0 _ _ _
      | exact laws_markText.mono _ _
      | exact LeO.none _
      | refine LeO.ite ?_ ?_
      | refine LeO.bind ?_ (fun _ => ?_)
noncomputable def laws_heldStringS.L0 (x0 : List ByteArray) (x1 : Int) (x5 : Int) : Option (Int) := lim fun k => laws_heldStringS.l0 k x0 x1 x5
theorem laws_heldStringS.L0_lim (x0 : List ByteArray) (x1 : Int) (x5 : Int) : Lim (fun k => laws_heldStringS.l0 k x0 x1 x5) (laws_heldStringS.L0 x0 x1 x5) := ⟨fun k => (laws_heldStringS.mono_l k) x0 x1 x5, rfl⟩
noncomputable def laws_heldStringS.F (l0 : List ByteArray) (a1 : Int) : Option (Int) := lim fun k => laws_heldStringS.f k l0 a1
theorem laws_heldStringS.F_lim (l0 : List ByteArray) (a1 : Int) : Lim (fun k => laws_heldStringS.f k l0 a1) (laws_heldStringS.F l0 a1) := ⟨laws_heldStringS.mono l0 a1, rfl⟩
theorem laws_heldStringS.L0_eq (x0 : List ByteArray) (x1 : Int) (x5 : Int) : laws_heldStringS.L0 x0 x1 x5 = (if x5 < (x0.length : Int) then (if 0 ≤ x5 then ((laws_markText.F x1).bind fun t250 => (if (rdOf ByteArray.empty x0 x5).toList = t250.toList then (laws_heldStringS.L0 x0 (wrap64 (x1 + 1)) (wrap64 (x5 + 1))) else (some (-1)))) else (none)) else (some x1)) := by
  refine Lim.succ_eq (laws_heldStringS.L0_lim x0 x1 x5).mon ?_
  simp only [laws_heldStringS.l0]
  repeat' first
  | (with_reducible exact laws_heldStringS.L0_lim _ _ _)
  | (with_reducible exact laws_markText.F_lim _)
  | (with_reducible refine Lim.ite ?_ ?_)
  | (with_reducible refine Lim.bind ?_ (fun _ => ?_))
  | (with_reducible exact Lim.const _)
theorem laws_heldStringS.F_eq (l0 : List ByteArray) (a1 : Int) : laws_heldStringS.F l0 a1 = (laws_heldStringS.L0 l0 a1 0) := by
  refine Lim.eq_ ?_
  simp only [laws_heldStringS.f]
  repeat' first
  | (with_reducible exact laws_heldStringS.L0_lim _ _ _)
  | (with_reducible exact laws_markText.F_lim _)
  | (with_reducible refine Lim.ite ?_ ?_)
  | (with_reducible refine Lim.bind ?_ (fun _ => ?_))
  | (with_reducible exact Lim.const _)
mutual
def laws_FnExactCountGlosses.j0 : Nat → List (S81) → List ByteArray → List Int → Bool → List (S66) → List ByteArray → List Int → Bool → Bool → Option (Bool)
  | 0, _, _, _, _, _, _, _, _, _ => none
  | k + 1, x0, x4, x5, x6, x7, x8, x9, x10, x51 => if x51 = true then (some false) else ((laws_toNoteS.f k x0).bind fun t274 => ((laws_eqNoteS.f k x7 t274).bind fun t277 => (if t277 = true then ((laws_markNoteS.f k x7 1).bind fun bt278 => (if bt278.1 < 0 then (laws_FnExactCountGlosses.j1 k x0 x4 x5 x6 x8 x9 true) else ((laws_eqStringS.f k x8 x4).bind fun t280 => (if t280 = true then ((laws_eqIntS.f k x9 x5).bind fun t281 => (if t281 = true then (laws_FnExactCountGlosses.j1 k x0 x4 x5 x6 x8 x9 (x10 != x6)) else (laws_FnExactCountGlosses.j1 k x0 x4 x5 x6 x8 x9 true))) else (laws_FnExactCountGlosses.j1 k x0 x4 x5 x6 x8 x9 true))))) else (some false))))
def laws_FnExactCountGlosses.j1 : Nat → List (S81) → List ByteArray → List Int → Bool → List ByteArray → List Int → Bool → Option (Bool)
  | 0, _, _, _, _, _, _, _ => none
  | k + 1, x0, x4, x5, x6, x8, x9, x78 => if x78 = true then (some false) else ((laws_markStringS.f k x8 1).bind fun bt282 => ((laws_markIntS.f k x9 bt282.1).bind fun bt284 => ((laws_heldStringS.f k bt282.2 1).bind fun t286 => (if t286 < 0 then (some false) else ((laws_heldIntS.f k bt284.2 t286).bind fun t287 => (if t287 < 0 then (some false) else (if t287 = bt284.1 then ((laws_toNoteS.f k x0).bind fun t288 => ((impl_CountGlosses.f k t288).bind fun bt291 => ((laws_eqStringS.f k bt291.1 x4).bind fun t298 => (if t298 = true then ((laws_eqIntS.f k bt291.2.1 x5).bind fun t299 => (if t299 = true then (laws_FnExactCountGlosses.j2 k bt282.2 bt284.2 bt284.1 (bt291.2.2 != x6)) else (laws_FnExactCountGlosses.j2 k bt282.2 bt284.2 bt284.1 true))) else (laws_FnExactCountGlosses.j2 k bt282.2 bt284.2 bt284.1 true))))) else (some false))))))))
def laws_FnExactCountGlosses.j2 : Nat → List ByteArray → List Int → Int → Bool → Option (Bool)
  | 0, _, _, _, _ => none
  | k + 1, x8, x9, x12, x119 => if x119 = true then (some false) else ((laws_heldStringS.f k x8 1).bind fun t300 => (if t300 < 0 then (some false) else ((laws_heldIntS.f k x9 t300).bind fun t301 => (if t301 < 0 then (some false) else (if t301 = x12 then (some true) else (some false))))))
end
def laws_FnExactCountGlosses.f (k : Nat) (l0 : List (S81)) : Option (Bool) := (laws_szNoteS.f k l0 1048576).bind fun t251 => (if t251 < 0 then (some true) else ((laws_toNoteS.f k l0).bind fun t252 => ((spec_CountGlosses.f k t252).bind fun bt255 => ((laws_toNoteS.f k l0).bind fun t262 => ((impl_CountGlosses.f k t262).bind fun bt265 => ((laws_eqStringS.f k bt265.1 bt255.1).bind fun t272 => (if t272 = true then ((laws_eqIntS.f k bt265.2.1 bt255.2.1).bind fun t273 => (if t273 = true then (laws_FnExactCountGlosses.j0 k l0 bt255.1 bt255.2.1 bt255.2.2 t262 bt265.1 bt265.2.1 bt265.2.2 (bt265.2.2 != bt255.2.2)) else (laws_FnExactCountGlosses.j0 k l0 bt255.1 bt255.2.1 bt255.2.2 t262 bt265.1 bt265.2.1 bt265.2.2 true))) else (laws_FnExactCountGlosses.j0 k l0 bt255.1 bt255.2.1 bt255.2.2 t262 bt265.1 bt265.2.1 bt265.2.2 true))))))))
theorem laws_FnExactCountGlosses.mono_l : ∀ k, (∀ y0 y1 y2 y3 y4 y5 y6 y7 y8, LeO (laws_FnExactCountGlosses.j0 k y0 y1 y2 y3 y4 y5 y6 y7 y8) (laws_FnExactCountGlosses.j0 (k + 1) y0 y1 y2 y3 y4 y5 y6 y7 y8)) ∧ (∀ y0 y1 y2 y3 y4 y5 y6, LeO (laws_FnExactCountGlosses.j1 k y0 y1 y2 y3 y4 y5 y6) (laws_FnExactCountGlosses.j1 (k + 1) y0 y1 y2 y3 y4 y5 y6)) ∧ (∀ y0 y1 y2 y3, LeO (laws_FnExactCountGlosses.j2 k y0 y1 y2 y3) (laws_FnExactCountGlosses.j2 (k + 1) y0 y1 y2 y3))
  | 0 => ⟨fun _ _ _ _ _ _ _ _ _ r h => by simp [laws_FnExactCountGlosses.j0] at h, fun _ _ _ _ _ _ _ r h => by simp [laws_FnExactCountGlosses.j1] at h, fun _ _ _ _ r h => by simp [laws_FnExactCountGlosses.j2] at h⟩
  | k + 1 => by
    obtain ⟨ih0, ih1, ih2⟩ := laws_FnExactCountGlosses.mono_l k
    refine ⟨?_, ?_, ?_⟩
    · intro y0 y1 y2 y3 y4 y5 y6 y7 y8
      unfold laws_FnExactCountGlosses.j0
      repeat' first
      | (with_reducible exact ih0 _ _ _ _ _ _ _ _ _)
      | (with_reducible exact ih1 _ _ _ _ _ _ _)
      | (with_reducible exact ih2 _ _ _ _)
      | (with_reducible exact impl_CountGlosses.mono _ _)
      | (with_reducible exact laws_eqIntS.mono _ _ _)
      | (with_reducible exact laws_eqNoteS.mono _ _ _)
      | (with_reducible exact laws_eqStringS.mono _ _ _)
      | (with_reducible exact laws_heldIntS.mono _ _ _)
      | (with_reducible exact laws_heldStringS.mono _ _ _)
      | (with_reducible exact laws_markIntS.mono _ _ _)
      | (with_reducible exact laws_markNoteS.mono _ _ _)
      | (with_reducible exact laws_markStringS.mono _ _ _)
      | (with_reducible exact laws_szNoteS.mono _ _ _)
      | (with_reducible exact laws_toNoteS.mono _ _)
      | (with_reducible exact spec_CountGlosses.mono _ _)
      | (with_reducible exact LeO.refl _)
      | (with_reducible exact LeO.none _)
      | (with_reducible refine LeO.ite ?_ ?_)
      | (with_reducible refine LeO.bind ?_ (fun _ => ?_))
      | exact ih0 _ _ _ _ _ _ _ _ _
      | exact ih1 _ _ _ _ _ _ _
      | exact ih2 _ _ _ _
      | exact impl_CountGlosses.mono _ _
      | exact laws_eqIntS.mono _ _ _
      | exact laws_eqNoteS.mono _ _ _
      | exact laws_eqStringS.mono _ _ _
      | exact laws_heldIntS.mono _ _ _
      | exact laws_heldStringS.mono _ _ _
      | exact laws_markIntS.mono _ _ _
      | exact laws_markNoteS.mono _ _ _
      | exact laws_markStringS.mono _ _ _
      | exact laws_szNoteS.mono _ _ _
      | exact laws_toNoteS.mono _ _
      | exact spec_CountGlosses.mono _ _
      | exact LeO.none _
      | refine LeO.ite ?_ ?_
      | refine LeO.bind ?_ (fun _ => ?_)
    · intro y0 y1 y2 y3 y4 y5 y6
      unfold laws_FnExactCountGlosses.j1
      repeat' first
      | (with_reducible exact ih0 _ _ _ _ _ _ _ _ _)
      | (with_reducible exact ih1 _ _ _ _ _ _ _)
      | (with_reducible exact ih2 _ _ _ _)
      | (with_reducible exact impl_CountGlosses.mono _ _)
      | (with_reducible exact laws_eqIntS.mono _ _ _)
      | (with_reducible exact laws_eqNoteS.mono _ _ _)
      | (with_reducible exact laws_eqStringS.mono _ _ _)
      | (with_reducible exact laws_heldIntS.mono _ _ _)
      | (with_reducible exact laws_heldStringS.mono _ _ _)
      | (with_reducible exact laws_markIntS.mono _ _ _)
      | (with_reducible exact laws_markNoteS.mono _ _ _)
      | (with_reducible exact laws_markStringS.mono _ _ _)
      | (with_reducible exact laws_szNoteS.mono _ _ _)
      | (with_reducible exact laws_toNoteS.mono _ _)
      | (with_reducible exact spec_CountGlosses.mono _ _)
      | (with_reducible exact LeO.refl _)
      | (with_reducible exact LeO.none _)
      | (with_reducible refine LeO.ite ?_ ?_)
      | (with_reducible refine LeO.bind ?_ (fun _ => ?_))
      | exact ih0 _ _ _ _ _ _ _ _ _
      | exact ih1 _ _ _ _ _ _ _
      | exact ih2 _ _ _ _
      | exact impl_CountGlosses.mono _ _
      | exact laws_eqIntS.mono _ _ _
      | exact laws_eqNoteS.mono _ _ _
      | exact laws_eqStringS.mono _ _ _
      | exact laws_heldIntS.mono _ _ _
      | exact laws_heldStringS.mono _ _ _
      | exact laws_markIntS.mono _ _ _
      | exact laws_markNoteS.mono _ _ _
      | exact laws_markStringS.mono _ _ _
      | exact laws_szNoteS.mono _ _ _
      | exact laws_toNoteS.mono _ _
      | exact spec_CountGlosses.mono _ _
      | exact LeO.none _
      | refine LeO.ite ?_ ?_
      | refine LeO.bind ?_ (fun _ => ?_)
    · intro y0 y1 y2 y3
      unfold laws_FnExactCountGlosses.j2
      repeat' first
      | (with_reducible exact ih0 _ _ _ _ _ _ _ _ _)
      | (with_reducible exact ih1 _ _ _ _ _ _ _)
      | (with_reducible exact ih2 _ _ _ _)
      | (with_reducible exact impl_CountGlosses.mono _ _)
      | (with_reducible exact laws_eqIntS.mono _ _ _)
      | (with_reducible exact laws_eqNoteS.mono _ _ _)
      | (with_reducible exact laws_eqStringS.mono _ _ _)
      | (with_reducible exact laws_heldIntS.mono _ _ _)
      | (with_reducible exact laws_heldStringS.mono _ _ _)
      | (with_reducible exact laws_markIntS.mono _ _ _)
      | (with_reducible exact laws_markNoteS.mono _ _ _)
      | (with_reducible exact laws_markStringS.mono _ _ _)
      | (with_reducible exact laws_szNoteS.mono _ _ _)
      | (with_reducible exact laws_toNoteS.mono _ _)
      | (with_reducible exact spec_CountGlosses.mono _ _)
      | (with_reducible exact LeO.refl _)
      | (with_reducible exact LeO.none _)
      | (with_reducible refine LeO.ite ?_ ?_)
      | (with_reducible refine LeO.bind ?_ (fun _ => ?_))
      | exact ih0 _ _ _ _ _ _ _ _ _
      | exact ih1 _ _ _ _ _ _ _
      | exact ih2 _ _ _ _
      | exact impl_CountGlosses.mono _ _
      | exact laws_eqIntS.mono _ _ _
      | exact laws_eqNoteS.mono _ _ _
      | exact laws_eqStringS.mono _ _ _
      | exact laws_heldIntS.mono _ _ _
      | exact laws_heldStringS.mono _ _ _
      | exact laws_markIntS.mono _ _ _
      | exact laws_markNoteS.mono _ _ _
      | exact laws_markStringS.mono _ _ _
      | exact laws_szNoteS.mono _ _ _
      | exact laws_toNoteS.mono _ _
      | exact spec_CountGlosses.mono _ _
      | exact LeO.none _
      | refine LeO.ite ?_ ?_
      | refine LeO.bind ?_ (fun _ => ?_)
theorem laws_FnExactCountGlosses.mono : ∀ a0 k, LeO (laws_FnExactCountGlosses.f k a0) (laws_FnExactCountGlosses.f (k + 1) a0) := by
  intro a0 k
  obtain ⟨ih0, ih1, ih2⟩ := laws_FnExactCountGlosses.mono_l k
  unfold laws_FnExactCountGlosses.f
  repeat' first
      | (with_reducible exact ih0 _ _ _ _ _ _ _ _ _)
      | (with_reducible exact ih1 _ _ _ _ _ _ _)
      | (with_reducible exact ih2 _ _ _ _)
      | (with_reducible exact impl_CountGlosses.mono _ _)
      | (with_reducible exact laws_eqIntS.mono _ _ _)
      | (with_reducible exact laws_eqNoteS.mono _ _ _)
      | (with_reducible exact laws_eqStringS.mono _ _ _)
      | (with_reducible exact laws_heldIntS.mono _ _ _)
      | (with_reducible exact laws_heldStringS.mono _ _ _)
      | (with_reducible exact laws_markIntS.mono _ _ _)
      | (with_reducible exact laws_markNoteS.mono _ _ _)
      | (with_reducible exact laws_markStringS.mono _ _ _)
      | (with_reducible exact laws_szNoteS.mono _ _ _)
      | (with_reducible exact laws_toNoteS.mono _ _)
      | (with_reducible exact spec_CountGlosses.mono _ _)
      | (with_reducible exact LeO.refl _)
      | (with_reducible exact LeO.none _)
      | (with_reducible refine LeO.ite ?_ ?_)
      | (with_reducible refine LeO.bind ?_ (fun _ => ?_))
      | exact ih0 _ _ _ _ _ _ _ _ _
      | exact ih1 _ _ _ _ _ _ _
      | exact ih2 _ _ _ _
      | exact impl_CountGlosses.mono _ _
      | exact laws_eqIntS.mono _ _ _
      | exact laws_eqNoteS.mono _ _ _
      | exact laws_eqStringS.mono _ _ _
      | exact laws_heldIntS.mono _ _ _
      | exact laws_heldStringS.mono _ _ _
      | exact laws_markIntS.mono _ _ _
      | exact laws_markNoteS.mono _ _ _
      | exact laws_markStringS.mono _ _ _
      | exact laws_szNoteS.mono _ _ _
      | exact laws_toNoteS.mono _ _
      | exact spec_CountGlosses.mono _ _
      | exact LeO.none _
      | refine LeO.ite ?_ ?_
      | refine LeO.bind ?_ (fun _ => ?_)
noncomputable def laws_FnExactCountGlosses.J0 (x0 : List (S81)) (x4 : List ByteArray) (x5 : List Int) (x6 : Bool) (x7 : List (S66)) (x8 : List ByteArray) (x9 : List Int) (x10 : Bool) (x51 : Bool) : Option (Bool) := lim fun k => laws_FnExactCountGlosses.j0 k x0 x4 x5 x6 x7 x8 x9 x10 x51
theorem laws_FnExactCountGlosses.J0_lim (x0 : List (S81)) (x4 : List ByteArray) (x5 : List Int) (x6 : Bool) (x7 : List (S66)) (x8 : List ByteArray) (x9 : List Int) (x10 : Bool) (x51 : Bool) : Lim (fun k => laws_FnExactCountGlosses.j0 k x0 x4 x5 x6 x7 x8 x9 x10 x51) (laws_FnExactCountGlosses.J0 x0 x4 x5 x6 x7 x8 x9 x10 x51) := ⟨fun k => (laws_FnExactCountGlosses.mono_l k).1 x0 x4 x5 x6 x7 x8 x9 x10 x51, rfl⟩
noncomputable def laws_FnExactCountGlosses.J1 (x0 : List (S81)) (x4 : List ByteArray) (x5 : List Int) (x6 : Bool) (x8 : List ByteArray) (x9 : List Int) (x78 : Bool) : Option (Bool) := lim fun k => laws_FnExactCountGlosses.j1 k x0 x4 x5 x6 x8 x9 x78
theorem laws_FnExactCountGlosses.J1_lim (x0 : List (S81)) (x4 : List ByteArray) (x5 : List Int) (x6 : Bool) (x8 : List ByteArray) (x9 : List Int) (x78 : Bool) : Lim (fun k => laws_FnExactCountGlosses.j1 k x0 x4 x5 x6 x8 x9 x78) (laws_FnExactCountGlosses.J1 x0 x4 x5 x6 x8 x9 x78) := ⟨fun k => (laws_FnExactCountGlosses.mono_l k).2.1 x0 x4 x5 x6 x8 x9 x78, rfl⟩
noncomputable def laws_FnExactCountGlosses.J2 (x8 : List ByteArray) (x9 : List Int) (x12 : Int) (x119 : Bool) : Option (Bool) := lim fun k => laws_FnExactCountGlosses.j2 k x8 x9 x12 x119
theorem laws_FnExactCountGlosses.J2_lim (x8 : List ByteArray) (x9 : List Int) (x12 : Int) (x119 : Bool) : Lim (fun k => laws_FnExactCountGlosses.j2 k x8 x9 x12 x119) (laws_FnExactCountGlosses.J2 x8 x9 x12 x119) := ⟨fun k => (laws_FnExactCountGlosses.mono_l k).2.2 x8 x9 x12 x119, rfl⟩
noncomputable def laws_FnExactCountGlosses.F (l0 : List (S81)) : Option (Bool) := lim fun k => laws_FnExactCountGlosses.f k l0
theorem laws_FnExactCountGlosses.F_lim (l0 : List (S81)) : Lim (fun k => laws_FnExactCountGlosses.f k l0) (laws_FnExactCountGlosses.F l0) := ⟨laws_FnExactCountGlosses.mono l0, rfl⟩
theorem laws_FnExactCountGlosses.J0_eq (x0 : List (S81)) (x4 : List ByteArray) (x5 : List Int) (x6 : Bool) (x7 : List (S66)) (x8 : List ByteArray) (x9 : List Int) (x10 : Bool) (x51 : Bool) : laws_FnExactCountGlosses.J0 x0 x4 x5 x6 x7 x8 x9 x10 x51 = (if x51 = true then (some false) else ((laws_toNoteS.F x0).bind fun t274 => ((laws_eqNoteS.F x7 t274).bind fun t277 => (if t277 = true then ((laws_markNoteS.F x7 1).bind fun bt278 => (if bt278.1 < 0 then (laws_FnExactCountGlosses.J1 x0 x4 x5 x6 x8 x9 true) else ((laws_eqStringS.F x8 x4).bind fun t280 => (if t280 = true then ((laws_eqIntS.F x9 x5).bind fun t281 => (if t281 = true then (laws_FnExactCountGlosses.J1 x0 x4 x5 x6 x8 x9 (x10 != x6)) else (laws_FnExactCountGlosses.J1 x0 x4 x5 x6 x8 x9 true))) else (laws_FnExactCountGlosses.J1 x0 x4 x5 x6 x8 x9 true))))) else (some false))))) := by
  refine Lim.succ_eq (laws_FnExactCountGlosses.J0_lim x0 x4 x5 x6 x7 x8 x9 x10 x51).mon ?_
  simp only [laws_FnExactCountGlosses.j0]
  repeat' first
  | (with_reducible exact laws_FnExactCountGlosses.J0_lim _ _ _ _ _ _ _ _ _)
  | (with_reducible exact laws_FnExactCountGlosses.J1_lim _ _ _ _ _ _ _)
  | (with_reducible exact laws_FnExactCountGlosses.J2_lim _ _ _ _)
  | (with_reducible exact impl_CountGlosses.F_lim _)
  | (with_reducible exact laws_eqIntS.F_lim _ _)
  | (with_reducible exact laws_eqNoteS.F_lim _ _)
  | (with_reducible exact laws_eqStringS.F_lim _ _)
  | (with_reducible exact laws_heldIntS.F_lim _ _)
  | (with_reducible exact laws_heldStringS.F_lim _ _)
  | (with_reducible exact laws_markIntS.F_lim _ _)
  | (with_reducible exact laws_markNoteS.F_lim _ _)
  | (with_reducible exact laws_markStringS.F_lim _ _)
  | (with_reducible exact laws_szNoteS.F_lim _ _)
  | (with_reducible exact laws_toNoteS.F_lim _)
  | (with_reducible exact spec_CountGlosses.F_lim _)
  | (with_reducible refine Lim.ite ?_ ?_)
  | (with_reducible refine Lim.bind ?_ (fun _ => ?_))
  | (with_reducible exact Lim.const _)
theorem laws_FnExactCountGlosses.J1_eq (x0 : List (S81)) (x4 : List ByteArray) (x5 : List Int) (x6 : Bool) (x8 : List ByteArray) (x9 : List Int) (x78 : Bool) : laws_FnExactCountGlosses.J1 x0 x4 x5 x6 x8 x9 x78 = (if x78 = true then (some false) else ((laws_markStringS.F x8 1).bind fun bt282 => ((laws_markIntS.F x9 bt282.1).bind fun bt284 => ((laws_heldStringS.F bt282.2 1).bind fun t286 => (if t286 < 0 then (some false) else ((laws_heldIntS.F bt284.2 t286).bind fun t287 => (if t287 < 0 then (some false) else (if t287 = bt284.1 then ((laws_toNoteS.F x0).bind fun t288 => ((impl_CountGlosses.F t288).bind fun bt291 => ((laws_eqStringS.F bt291.1 x4).bind fun t298 => (if t298 = true then ((laws_eqIntS.F bt291.2.1 x5).bind fun t299 => (if t299 = true then (laws_FnExactCountGlosses.J2 bt282.2 bt284.2 bt284.1 (bt291.2.2 != x6)) else (laws_FnExactCountGlosses.J2 bt282.2 bt284.2 bt284.1 true))) else (laws_FnExactCountGlosses.J2 bt282.2 bt284.2 bt284.1 true))))) else (some false))))))))) := by
  refine Lim.succ_eq (laws_FnExactCountGlosses.J1_lim x0 x4 x5 x6 x8 x9 x78).mon ?_
  simp only [laws_FnExactCountGlosses.j1]
  repeat' first
  | (with_reducible exact laws_FnExactCountGlosses.J0_lim _ _ _ _ _ _ _ _ _)
  | (with_reducible exact laws_FnExactCountGlosses.J1_lim _ _ _ _ _ _ _)
  | (with_reducible exact laws_FnExactCountGlosses.J2_lim _ _ _ _)
  | (with_reducible exact impl_CountGlosses.F_lim _)
  | (with_reducible exact laws_eqIntS.F_lim _ _)
  | (with_reducible exact laws_eqNoteS.F_lim _ _)
  | (with_reducible exact laws_eqStringS.F_lim _ _)
  | (with_reducible exact laws_heldIntS.F_lim _ _)
  | (with_reducible exact laws_heldStringS.F_lim _ _)
  | (with_reducible exact laws_markIntS.F_lim _ _)
  | (with_reducible exact laws_markNoteS.F_lim _ _)
  | (with_reducible exact laws_markStringS.F_lim _ _)
  | (with_reducible exact laws_szNoteS.F_lim _ _)
  | (with_reducible exact laws_toNoteS.F_lim _)
  | (with_reducible exact spec_CountGlosses.F_lim _)
  | (with_reducible refine Lim.ite ?_ ?_)
  | (with_reducible refine Lim.bind ?_ (fun _ => ?_))
  | (with_reducible exact Lim.const _)
theorem laws_FnExactCountGlosses.J2_eq (x8 : List ByteArray) (x9 : List Int) (x12 : Int) (x119 : Bool) : laws_FnExactCountGlosses.J2 x8 x9 x12 x119 = (if x119 = true then (some false) else ((laws_heldStringS.F x8 1).bind fun t300 => (if t300 < 0 then (some false) else ((laws_heldIntS.F x9 t300).bind fun t301 => (if t301 < 0 then (some false) else (if t301 = x12 then (some true) else (some false))))))) := by
  refine Lim.succ_eq (laws_FnExactCountGlosses.J2_lim x8 x9 x12 x119).mon ?_
  simp only [laws_FnExactCountGlosses.j2]
  repeat' first
  | (with_reducible exact laws_FnExactCountGlosses.J0_lim _ _ _ _ _ _ _ _ _)
  | (with_reducible exact laws_FnExactCountGlosses.J1_lim _ _ _ _ _ _ _)
  | (with_reducible exact laws_FnExactCountGlosses.J2_lim _ _ _ _)
  | (with_reducible exact impl_CountGlosses.F_lim _)
  | (with_reducible exact laws_eqIntS.F_lim _ _)
  | (with_reducible exact laws_eqNoteS.F_lim _ _)
  | (with_reducible exact laws_eqStringS.F_lim _ _)
  | (with_reducible exact laws_heldIntS.F_lim _ _)
  | (with_reducible exact laws_heldStringS.F_lim _ _)
  | (with_reducible exact laws_markIntS.F_lim _ _)
  | (with_reducible exact laws_markNoteS.F_lim _ _)
  | (with_reducible exact laws_markStringS.F_lim _ _)
  | (with_reducible exact laws_szNoteS.F_lim _ _)
  | (with_reducible exact laws_toNoteS.F_lim _)
  | (with_reducible exact spec_CountGlosses.F_lim _)
  | (with_reducible refine Lim.ite ?_ ?_)
  | (with_reducible refine Lim.bind ?_ (fun _ => ?_))
  | (with_reducible exact Lim.const _)
theorem laws_FnExactCountGlosses.F_eq (l0 : List (S81)) : laws_FnExactCountGlosses.F l0 = ((laws_szNoteS.F l0 1048576).bind fun t251 => (if t251 < 0 then (some true) else ((laws_toNoteS.F l0).bind fun t252 => ((spec_CountGlosses.F t252).bind fun bt255 => ((laws_toNoteS.F l0).bind fun t262 => ((impl_CountGlosses.F t262).bind fun bt265 => ((laws_eqStringS.F bt265.1 bt255.1).bind fun t272 => (if t272 = true then ((laws_eqIntS.F bt265.2.1 bt255.2.1).bind fun t273 => (if t273 = true then (laws_FnExactCountGlosses.J0 l0 bt255.1 bt255.2.1 bt255.2.2 t262 bt265.1 bt265.2.1 bt265.2.2 (bt265.2.2 != bt255.2.2)) else (laws_FnExactCountGlosses.J0 l0 bt255.1 bt255.2.1 bt255.2.2 t262 bt265.1 bt265.2.1 bt265.2.2 true))) else (laws_FnExactCountGlosses.J0 l0 bt255.1 bt255.2.1 bt255.2.2 t262 bt265.1 bt265.2.1 bt265.2.2 true))))))))) := by
  refine Lim.eq_ ?_
  simp only [laws_FnExactCountGlosses.f]
  repeat' first
  | (with_reducible exact laws_FnExactCountGlosses.J0_lim _ _ _ _ _ _ _ _ _)
  | (with_reducible exact laws_FnExactCountGlosses.J1_lim _ _ _ _ _ _ _)
  | (with_reducible exact laws_FnExactCountGlosses.J2_lim _ _ _ _)
  | (with_reducible exact impl_CountGlosses.F_lim _)
  | (with_reducible exact laws_eqIntS.F_lim _ _)
  | (with_reducible exact laws_eqNoteS.F_lim _ _)
  | (with_reducible exact laws_eqStringS.F_lim _ _)
  | (with_reducible exact laws_heldIntS.F_lim _ _)
  | (with_reducible exact laws_heldStringS.F_lim _ _)
  | (with_reducible exact laws_markIntS.F_lim _ _)
  | (with_reducible exact laws_markNoteS.F_lim _ _)
  | (with_reducible exact laws_markStringS.F_lim _ _)
  | (with_reducible exact laws_szNoteS.F_lim _ _)
  | (with_reducible exact laws_toNoteS.F_lim _)
  | (with_reducible exact spec_CountGlosses.F_lim _)
  | (with_reducible refine Lim.ite ?_ ?_)
  | (with_reducible refine Lim.bind ?_ (fun _ => ?_))
  | (with_reducible exact Lim.const _)
def Wf81 (x : S81) : Prop := (Lit.int .i64 x.f0).wf = true ∧ (Lit.int .i64 x.f1).wf = true ∧ x.f2.size ≤ 9223372036854775807
def laws_FnExactCountGlosses.Pure : Prop := ∀ (l0 : List (S81)), (l0.length ≤ 9223372036854775807 ∧ ∀ x ∈ l0, Wf81 x) → ∃ k, laws_FnExactCountGlosses.f k l0 = some true
end Go.Proofs.Ytnmgcphajacdnaa.PFnExactCountGlosses
