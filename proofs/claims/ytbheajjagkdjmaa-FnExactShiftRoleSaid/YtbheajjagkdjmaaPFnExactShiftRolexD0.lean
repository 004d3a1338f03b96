/- Written by a program of this claim's author, out of the loaded program as Lean prints it: the functions as Lean functions, and that the calls answer so. -/
import Derived.Test.YtbheajjagkdjmaaPFnExactShiftRolex0
namespace Go.Proofs.Ytbheajjagkdjmaa.PFnExactShiftRole
open Go.RowKit Go.Proofs.YtbheajjagkdjmaaW.PrintWords Go.Proofs.YtbheajjagkdjmaaW.PrintLast Go.Proofs.YtbheajjagkdjmaaW.PrintMore
attribute [local go_sem] max2_int min2_int max_two min_two max_three min_three max_four min_four   -- for this text's walks alone
set_option linter.unusedVariables false
set_option linter.unusedSimpArgs false

def laws_szLocus.f (a0_0 : ByteArray) (a0_1 : Int) (a1 : Int) : Option (Int) := if (wrap64 (a1 - (a0_0.size : Int))) < 0 then (some (-1)) else (some (wrap64 (a1 - (a0_0.size : Int))))
def laws_szLocusS.l0 : Nat → List (S62) → Int → Int → Option (Int)
  | 0, _, _, _ => none
  | k + 1, x0, x1, x5 => if x5 < (x0.length : Int) then (if 0 ≤ x5 then ((laws_szLocus.f ((rd_T62 x0 x5).f0) ((rd_T62 x0 x5).f1) x1).bind fun t103 => (if t103 < 0 then (some (-1)) else (laws_szLocusS.l0 k x0 t103 (wrap64 (x5 + 1))))) else (none)) else (some x1)
def laws_szLocusS.f (k : Nat) (l0 : List (S62)) (a1 : Int) : Option (Int) := if (wrap64 (a1 - (l0.length : Int))) < 0 then (some (-1)) else (laws_szLocusS.l0 k l0 (wrap64 (a1 - (l0.length : Int))) 0)
theorem laws_szLocusS.mono_l : ∀ k, (∀ y0 y1 y2, LeO (laws_szLocusS.l0 k y0 y1 y2) (laws_szLocusS.l0 (k + 1) y0 y1 y2))
  | 0 => fun _ _ _ r h => by simp [laws_szLocusS.l0] at h
  | k + 1 => by
    have ih0 := laws_szLocusS.mono_l k
    · intro y0 y1 y2
      unfold laws_szLocusS.l0
      repeat' first
      | (with_reducible exact ih0 _ _ _)
      | (with_reducible exact LeO.refl _)
      | (with_reducible exact LeO.none _)
      | (with_reducible refine LeO.ite ?_ ?_)
      | (with_reducible refine LeO.bind ?_ (fun _ => ?_))
      | exact ih0 _ _ _
      | exact LeO.none _
      | refine LeO.ite ?_ ?_
      | refine LeO.bind ?_ (fun _ => ?_)
theorem laws_szLocusS.mono : ∀ a0 a1 k, LeO (laws_szLocusS.f k a0 a1) (laws_szLocusS.f (k + 1) a0 a1) := by
  intro a0 a1 k
  have ih0 := laws_szLocusS.mono_l k
  unfold laws_szLocusS.f
  repeat' first
      | (with_reducible exact ih0 _ _ _)
      | (with_reducible exact LeO.refl _)
      | (with_reducible exact LeO.none _)
      | (with_reducible refine LeO.ite ?_ ?_)
      | (with_reducible refine LeO.bind ?_ (fun _ => ?_))
      | exact ih0 _ _ _
      | exact LeO.none _
      | refine LeO.ite ?_ ?_
      | refine LeO.bind ?_ (fun _ => ?_)
noncomputable def laws_szLocusS.L0 (x0 : List (S62)) (x1 : Int) (x5 : Int) : Option (Int) := lim fun k => laws_szLocusS.l0 k x0 x1 x5
theorem laws_szLocusS.L0_lim (x0 : List (S62)) (x1 : Int) (x5 : Int) : Lim (fun k => laws_szLocusS.l0 k x0 x1 x5) (laws_szLocusS.L0 x0 x1 x5) := ⟨fun k => (laws_szLocusS.mono_l k) x0 x1 x5, rfl⟩
noncomputable def laws_szLocusS.F (l0 : List (S62)) (a1 : Int) : Option (Int) := lim fun k => laws_szLocusS.f k l0 a1
theorem laws_szLocusS.F_lim (l0 : List (S62)) (a1 : Int) : Lim (fun k => laws_szLocusS.f k l0 a1) (laws_szLocusS.F l0 a1) := ⟨laws_szLocusS.mono l0 a1, rfl⟩
theorem laws_szLocusS.L0_eq (x0 : List (S62)) (x1 : Int) (x5 : Int) : laws_szLocusS.L0 x0 x1 x5 = (if x5 < (x0.length : Int) then (if 0 ≤ x5 then ((laws_szLocus.f ((rd_T62 x0 x5).f0) ((rd_T62 x0 x5).f1) x1).bind fun t103 => (if t103 < 0 then (some (-1)) else (laws_szLocusS.L0 x0 t103 (wrap64 (x5 + 1))))) else (none)) else (some x1)) := by
  refine Lim.succ_eq (laws_szLocusS.L0_lim x0 x1 x5).mon ?_
  simp only [laws_szLocusS.l0]
  repeat' first
  | (with_reducible exact laws_szLocusS.L0_lim _ _ _)
  | (with_reducible refine Lim.ite ?_ ?_)
  | (with_reducible refine Lim.bind ?_ (fun _ => ?_))
  | (with_reducible exact Lim.const _)
theorem laws_szLocusS.F_eq (l0 : List (S62)) (a1 : Int) : laws_szLocusS.F l0 a1 = (if (wrap64 (a1 - (l0.length : Int))) < 0 then (some (-1)) else (laws_szLocusS.L0 l0 (wrap64 (a1 - (l0.length : Int))) 0)) := by
  refine Lim.eq_ ?_
  simp only [laws_szLocusS.f]
  repeat' first
  | (with_reducible exact laws_szLocusS.L0_lim _ _ _)
  | (with_reducible refine Lim.ite ?_ ?_)
  | (with_reducible refine Lim.bind ?_ (fun _ => ?_))
  | (with_reducible exact Lim.const _)
def laws_toLocus.f (a0_0 : ByteArray) (a0_1 : Int) : Option (ByteArray × Int) := some (a0_0, a0_1)
def laws_toLocusS.l0 : Nat → List (S62) → List (S55) → Int → Option ((List (S55)))
  | 0, _, _, _ => none
  | k + 1, x0, x3, x4 => if x4 < (x0.length : Int) then (if 0 ≤ x4 then ((laws_toLocus.f ((rd_T62 x0 x4).f0) ((rd_T62 x0 x4).f1)).bind fun bt111 => (if x4 < (x3.length : Int) then (laws_toLocusS.l0 k x0 (x3.set (x4 : Int).toNat (⟨bt111.1, bt111.2⟩ : S55)) (wrap64 (x4 + 1))) else (none))) else (none)) else (some x3)
def laws_toLocusS.f (k : Nat) (l0 : List (S62)) : Option ((List (S55))) := if 0 ≤ (l0.length : Int) then (if ((l0.length : Int) : Int).toNat ≤ 11728124029610 then (laws_toLocusS.l0 k l0 (List.replicate ((l0.length : Int) : Int).toNat z55) 0) else (none)) else (none)
theorem laws_toLocusS.mono_l : ∀ k, (∀ y0 y1 y2, LeO (laws_toLocusS.l0 k y0 y1 y2) (laws_toLocusS.l0 (k + 1) y0 y1 y2))
  | 0 => fun _ _ _ r h => by simp [laws_toLocusS.l0] at h
  | k + 1 => by
    have ih0 := laws_toLocusS.mono_l k
    · intro y0 y1 y2
      unfold laws_toLocusS.l0
      repeat' first
      | (with_reducible exact ih0 _ _ _)
      | (with_reducible exact LeO.refl _)
      | (with_reducible exact LeO.none _)
      | (with_reducible refine LeO.ite ?_ ?_)
      | (with_reducible refine LeO.bind ?_ (fun _ => ?_))
      | exact ih0 _ _ _
      | exact LeO.none _
      | refine LeO.ite ?_ ?_
      | refine LeO.bind ?_ (fun _ => ?_)
theorem laws_toLocusS.mono : ∀ a0 k, LeO (laws_toLocusS.f k a0) (laws_toLocusS.f (k + 1) a0) := by
  intro a0 k
  have ih0 := laws_toLocusS.mono_l k
  unfold laws_toLocusS.f
  repeat' first
      | (with_reducible exact ih0 _ _ _)
      | (with_reducible exact LeO.refl _)
      | (with_reducible exact LeO.none _)
      | (with_reducible refine LeO.ite ?_ ?_)
      | (with_reducible refine LeO.bind ?_ (fun _ => ?_))
      | exact ih0 _ _ _
      | exact LeO.none _
      | refine LeO.ite ?_ ?_
      | refine LeO.bind ?_ (fun _ => ?_)
noncomputable def laws_toLocusS.L0 (x0 : List (S62)) (x3 : List (S55)) (x4 : Int) : Option ((List (S55))) := lim fun k => laws_toLocusS.l0 k x0 x3 x4
theorem laws_toLocusS.L0_lim (x0 : List (S62)) (x3 : List (S55)) (x4 : Int) : Lim (fun k => laws_toLocusS.l0 k x0 x3 x4) (laws_toLocusS.L0 x0 x3 x4) := ⟨fun k => (laws_toLocusS.mono_l k) x0 x3 x4, rfl⟩
noncomputable def laws_toLocusS.F (l0 : List (S62)) : Option ((List (S55))) := lim fun k => laws_toLocusS.f k l0
theorem laws_toLocusS.F_lim (l0 : List (S62)) : Lim (fun k => laws_toLocusS.f k l0) (laws_toLocusS.F l0) := ⟨laws_toLocusS.mono l0, rfl⟩
theorem laws_toLocusS.L0_eq (x0 : List (S62)) (x3 : List (S55)) (x4 : Int) : laws_toLocusS.L0 x0 x3 x4 = (if x4 < (x0.length : Int) then (if 0 ≤ x4 then ((laws_toLocus.f ((rd_T62 x0 x4).f0) ((rd_T62 x0 x4).f1)).bind fun bt111 => (if x4 < (x3.length : Int) then (laws_toLocusS.L0 x0 (x3.set (x4 : Int).toNat (⟨bt111.1, bt111.2⟩ : S55)) (wrap64 (x4 + 1))) else (none))) else (none)) else (some x3)) := by
  refine Lim.succ_eq (laws_toLocusS.L0_lim x0 x3 x4).mon ?_
  simp only [laws_toLocusS.l0]
  repeat' first
  | (with_reducible exact laws_toLocusS.L0_lim _ _ _)
  | (with_reducible refine Lim.ite ?_ ?_)
  | (with_reducible refine Lim.bind ?_ (fun _ => ?_))
  | (with_reducible exact Lim.const _)
theorem laws_toLocusS.F_eq (l0 : List (S62)) : laws_toLocusS.F l0 = (if 0 ≤ (l0.length : Int) then (if ((l0.length : Int) : Int).toNat ≤ 11728124029610 then (laws_toLocusS.L0 l0 (List.replicate ((l0.length : Int) : Int).toNat z55) 0) else (none)) else (none)) := by
  refine Lim.eq_ ?_
  simp only [laws_toLocusS.f]
  repeat' first
  | (with_reducible exact laws_toLocusS.L0_lim _ _ _)
  | (with_reducible refine Lim.ite ?_ ?_)
  | (with_reducible refine Lim.bind ?_ (fun _ => ?_))
  | (with_reducible exact Lim.const _)
def laws_eqLocus.f (a0_0 : ByteArray) (a0_1 : Int) (a1_0 : ByteArray) (a1_1 : Int) : Option (Bool) := if a0_0.toList = a1_0.toList then (if a0_1 = a1_1 then (some true) else (some false)) else (some false)
def laws_eqLocusS.l0 : Nat → List (S55) → List (S55) → Int → Option (Bool)
  | 0, _, _, _ => none
  | k + 1, x0, x1, x5 => if x5 < (x0.length : Int) then (if 0 ≤ x5 then (if x5 < (x1.length : Int) then ((laws_eqLocus.f ((rd_T55 x0 x5).f0) ((rd_T55 x0 x5).f1) ((rd_T55 x1 x5).f0) ((rd_T55 x1 x5).f1)).bind fun t118 => (if t118 = true then (laws_eqLocusS.l0 k x0 x1 (wrap64 (x5 + 1))) else (some false))) else (none)) else (none)) else (some true)
def laws_eqLocusS.f (k : Nat) (l0 : List (S55)) (l1 : List (S55)) : Option (Bool) := if (l0.length : Int) = (l1.length : Int) then (laws_eqLocusS.l0 k l0 l1 0) else (some false)
theorem laws_eqLocusS.mono_l : ∀ k, (∀ y0 y1 y2, LeO (laws_eqLocusS.l0 k y0 y1 y2) (laws_eqLocusS.l0 (k + 1) y0 y1 y2))
  | 0 => fun _ _ _ r h => by simp [laws_eqLocusS.l0] at h
  | k + 1 => by
    have ih0 := laws_eqLocusS.mono_l k
    · intro y0 y1 y2
      unfold laws_eqLocusS.l0
      repeat' first
      | (with_reducible exact ih0 _ _ _)
      | (with_reducible exact LeO.refl _)
      | (with_reducible exact LeO.none _)
      | (with_reducible refine LeO.ite ?_ ?_)
      | (with_reducible refine LeO.bind ?_ (fun _ => ?_))
      | exact ih0 _ _ _
      | exact LeO.none _
      | refine LeO.ite ?_ ?_
      | refine LeO.bind ?_ (fun _ => ?_)
theorem laws_eqLocusS.mono : ∀ a0 a1 k, LeO (laws_eqLocusS.f k a0 a1) (laws_eqLocusS.f (k + 1) a0 a1) := by
  intro a0 a1 k
  have ih0 := laws_eqLocusS.mono_l k
  unfold laws_eqLocusS.f
  repeat' first
      | (with_reducible exact ih0 _ _ _)
      | (with_reducible exact LeO.refl _)
      | (with_reducible exact LeO.none _)
      | (with_reducible refine LeO.ite ?_ ?_)
      | (with_reducible refine LeO.bind ?_ (fun _ => ?_))
      | exact ih0 _ _ _
      | exact LeO.none _
      | refine LeO.ite ?_ ?_
      | refine LeO.bind ?_ (fun _ => ?_)
noncomputable def laws_eqLocusS.L0 (x0 : List (S55)) (x1 : List (S55)) (x5 : Int) : Option (Bool) := lim fun k => laws_eqLocusS.l0 k x0 x1 x5
theorem laws_eqLocusS.L0_lim (x0 : List (S55)) (x1 : List (S55)) (x5 : Int) : Lim (fun k => laws_eqLocusS.l0 k x0 x1 x5) (laws_eqLocusS.L0 x0 x1 x5) := ⟨fun k => (laws_eqLocusS.mono_l k) x0 x1 x5, rfl⟩
noncomputable def laws_eqLocusS.F (l0 : List (S55)) (l1 : List (S55)) : Option (Bool) := lim fun k => laws_eqLocusS.f k l0 l1
theorem laws_eqLocusS.F_lim (l0 : List (S55)) (l1 : List (S55)) : Lim (fun k => laws_eqLocusS.f k l0 l1) (laws_eqLocusS.F l0 l1) := ⟨laws_eqLocusS.mono l0 l1, rfl⟩
theorem laws_eqLocusS.L0_eq (x0 : List (S55)) (x1 : List (S55)) (x5 : Int) : laws_eqLocusS.L0 x0 x1 x5 = (if x5 < (x0.length : Int) then (if 0 ≤ x5 then (if x5 < (x1.length : Int) then ((laws_eqLocus.f ((rd_T55 x0 x5).f0) ((rd_T55 x0 x5).f1) ((rd_T55 x1 x5).f0) ((rd_T55 x1 x5).f1)).bind fun t118 => (if t118 = true then (laws_eqLocusS.L0 x0 x1 (wrap64 (x5 + 1))) else (some false))) else (none)) else (none)) else (some true)) := by
  refine Lim.succ_eq (laws_eqLocusS.L0_lim x0 x1 x5).mon ?_
  simp only [laws_eqLocusS.l0]
  repeat' first
  | (with_reducible exact laws_eqLocusS.L0_lim _ _ _)
  | (with_reducible refine Lim.ite ?_ ?_)
  | (with_reducible refine Lim.bind ?_ (fun _ => ?_))
  | (with_reducible exact Lim.const _)
theorem laws_eqLocusS.F_eq (l0 : List (S55)) (l1 : List (S55)) : laws_eqLocusS.F l0 l1 = (if (l0.length : Int) = (l1.length : Int) then (laws_eqLocusS.L0 l0 l1 0) else (some false)) := by
  refine Lim.eq_ ?_
  simp only [laws_eqLocusS.f]
  repeat' first
  | (with_reducible exact laws_eqLocusS.L0_lim _ _ _)
  | (with_reducible refine Lim.ite ?_ ?_)
  | (with_reducible refine Lim.bind ?_ (fun _ => ?_))
  | (with_reducible exact Lim.const _)
def laws_markText.l0 : Nat → Int → ByteArray → Option (ByteArray)
  | 0, _, _ => none
  | k + 1, x0, x3 => if x0 > 0 then ((some (([(wrap64 (48 + (Int.tmod x0 10))) % 256] : List Int) : List Int)).bind fun y119 => (if (strOfNums y119).size + x3.size ≤ 9223372036854775807 then (laws_markText.l0 k (wrap64 (Int.tdiv x0 10)) ((strOfNums y119) ++ x3)) else (none))) else (if 1 + x3.size ≤ 9223372036854775807 then (some ((⟨#[109]⟩ : ByteArray) ++ x3)) else (none))
def laws_markText.f (k : Nat) (a0 : Int) : Option (ByteArray) := if a0 ≤ 0 then (some (⟨#[109, 48]⟩ : ByteArray)) else (laws_markText.l0 k a0 (⟨#[]⟩ : ByteArray))
theorem laws_markText.mono_l : ∀ k, (∀ y0 y1, LeO (laws_markText.l0 k y0 y1) (laws_markText.l0 (k + 1) y0 y1))
  | 0 => fun _ _ r h => by simp [laws_markText.l0] at h
  | k + 1 => by
    have ih0 := laws_markText.mono_l k
    · intro y0 y1
      unfold laws_markText.l0
      repeat' first
      | (with_reducible exact ih0 _ _)
      | (with_reducible exact LeO.refl _)
      | (with_reducible exact LeO.none _)
      | (with_reducible refine LeO.ite ?_ ?_)
      | (with_reducible refine LeO.bind ?_ (fun _ => ?_))
      | exact ih0 _ _
      | exact LeO.none _
      | refine LeO.ite ?_ ?_
      | refine LeO.bind ?_ (fun _ => ?_)
theorem laws_markText.mono : ∀ a0 k, LeO (laws_markText.f k a0) (laws_markText.f (k + 1) a0) := by
  intro a0 k
  have ih0 := laws_markText.mono_l k
  unfold laws_markText.f
  repeat' first
      | (with_reducible exact ih0 _ _)
      | (with_reducible exact LeO.refl _)
      | (with_reducible exact LeO.none _)
      | (with_reducible refine LeO.ite ?_ ?_)
      | (with_reducible refine LeO.bind ?_ (fun _ => ?_))
      | exact ih0 _ _
      | exact LeO.none _
      | refine LeO.ite ?_ ?_
      | refine LeO.bind ?_ (fun _ => ?_)
noncomputable def laws_markText.L0 (x0 : Int) (x3 : ByteArray) : Option (ByteArray) := lim fun k => laws_markText.l0 k x0 x3
theorem laws_markText.L0_lim (x0 : Int) (x3 : ByteArray) : Lim (fun k => laws_markText.l0 k x0 x3) (laws_markText.L0 x0 x3) := ⟨fun k => (laws_markText.mono_l k) x0 x3, rfl⟩
noncomputable def laws_markText.F (a0 : Int) : Option (ByteArray) := lim fun k => laws_markText.f k a0
theorem laws_markText.F_lim (a0 : Int) : Lim (fun k => laws_markText.f k a0) (laws_markText.F a0) := ⟨laws_markText.mono a0, rfl⟩
theorem laws_markText.L0_eq (x0 : Int) (x3 : ByteArray) : laws_markText.L0 x0 x3 = (if x0 > 0 then ((some (([(wrap64 (48 + (Int.tmod x0 10))) % 256] : List Int) : List Int)).bind fun y119 => (if (strOfNums y119).size + x3.size ≤ 9223372036854775807 then (laws_markText.L0 (wrap64 (Int.tdiv x0 10)) ((strOfNums y119) ++ x3)) else (none))) else (if 1 + x3.size ≤ 9223372036854775807 then (some ((⟨#[109]⟩ : ByteArray) ++ x3)) else (none))) := by
  refine Lim.succ_eq (laws_markText.L0_lim x0 x3).mon ?_
  simp only [laws_markText.l0]
  repeat' first
  | (with_reducible exact laws_markText.L0_lim _ _)
  | (with_reducible refine Lim.ite ?_ ?_)
  | (with_reducible refine Lim.bind ?_ (fun _ => ?_))
  | (with_reducible exact Lim.const _)
theorem laws_markText.F_eq (a0 : Int) : laws_markText.F a0 = (if a0 ≤ 0 then (some (⟨#[109, 48]⟩ : ByteArray)) else (laws_markText.L0 a0 (⟨#[]⟩ : ByteArray))) := by
  refine Lim.eq_ ?_
  simp only [laws_markText.f]
  repeat' first
  | (with_reducible exact laws_markText.L0_lim _ _)
  | (with_reducible refine Lim.ite ?_ ?_)
  | (with_reducible refine Lim.bind ?_ (fun _ => ?_))
  | (with_reducible exact Lim.const _)
def laws_markLocusS.l0 : Nat → List (S55) → Int → Int → Option (Int × (List (S55)))
  | 0, _, _, _ => none
  | k + 1, x0, x1, x5 => if x5 < (x0.length : Int) then ((laws_markText.f k x1).bind fun t122 => (if 0 ≤ x5 then ((some (x0.set (x5 : Int).toNat (⟨t122, (rd_T55 x0 x5).f1⟩ : S55) : List (S55))).bind fun y123 => (laws_markLocusS.l0 k (y123.set (x5 : Int).toNat (⟨(rd_T55 y123 x5).f0, wrap64 (x1 + 1)⟩ : S55)) (wrap64 ((wrap64 (x1 + 1)) + 1)) (wrap64 (x5 + 1)))) else (none))) else (some (x1, x0))
def laws_markLocusS.f (k : Nat) (l0 : List (S55)) (a1 : Int) : Option (Int × (List (S55))) := laws_markLocusS.l0 k l0 a1 0
theorem laws_markLocusS.mono_l : ∀ k, (∀ y0 y1 y2, LeO (laws_markLocusS.l0 k y0 y1 y2) (laws_markLocusS.l0 (k + 1) y0 y1 y2))
  | 0 => fun _ _ _ r h => by simp [laws_markLocusS.l0] at h
  | k + 1 => by
    have ih0 := laws_markLocusS.mono_l k
    · intro y0 y1 y2
      unfold laws_markLocusS.l0
      repeat' first
      | (with_reducible exact ih0 _ _ _)
      | (with_reducible exact laws_markText.mono _ _)
      | (with_reducible exact LeO.refl _)
      | (with_reducible exact LeO.none _)
      | (with_reducible refine LeO.ite ?_ ?_)
      | (with_reducible refine LeO.bind ?_ (fun _ => ?_))
      | exact ih0 _ _ _
      | exact laws_markText.mono _ _
      | exact LeO.none _
      | refine LeO.ite ?_ ?_
      | refine LeO.bind ?_ (fun _ => ?_)
theorem laws_markLocusS.mono : ∀ a0 a1 k, LeO (laws_markLocusS.f k a0 a1) (laws_markLocusS.f (k + 1) a0 a1) := by
  intro a0 a1 k
  have ih0 := laws_markLocusS.mono_l k
  unfold laws_markLocusS.f
  repeat' first
      | (with_reducible exact ih0 _ _ _)
      | (with_reducible exact laws_markText.mono _ _)
      | (with_reducible exact LeO.refl _)
      | (with_reducible exact LeO.none _)
      | (with_reducible refine LeO.ite ?_ ?_)
      | (with_reducible refine LeO.bind ?_ (fun _ => ?_))
      | exact ih0 _ _ _
      | exact laws_markText.mono _ _
      | exact LeO.none _
      | refine LeO.ite ?_ ?_
      | refine LeO.bind ?_ (fun _ => ?_)
noncomputable def laws_markLocusS.L0 (x0 : List (S55)) (x1 : Int) (x5 : Int) : Option (Int × (List (S55))) := lim fun k => laws_markLocusS.l0 k x0 x1 x5
theorem laws_markLocusS.L0_lim (x0 : List (S55)) (x1 : Int) (x5 : Int) : Lim (fun k => laws_markLocusS.l0 k x0 x1 x5) (laws_markLocusS.L0 x0 x1 x5) := ⟨fun k => (laws_markLocusS.mono_l k) x0 x1 x5, rfl⟩
noncomputable def laws_markLocusS.F (l0 : List (S55)) (a1 : Int) : Option (Int × (List (S55))) := lim fun k => laws_markLocusS.f k l0 a1
theorem laws_markLocusS.F_lim (l0 : List (S55)) (a1 : Int) : Lim (fun k => laws_markLocusS.f k l0 a1) (laws_markLocusS.F l0 a1) := ⟨laws_markLocusS.mono l0 a1, rfl⟩
theorem laws_markLocusS.L0_eq (x0 : List (S55)) (x1 : Int) (x5 : Int) : laws_markLocusS.L0 x0 x1 x5 = (if x5 < (x0.length : Int) then ((laws_markText.F x1).bind fun t122 => (if 0 ≤ x5 then ((some (x0.set (x5 : Int).toNat (⟨t122, (rd_T55 x0 x5).f1⟩ : S55) : List (S55))).bind fun y123 => (laws_markLocusS.L0 (y123.set (x5 : Int).toNat (⟨(rd_T55 y123 x5).f0, wrap64 (x1 + 1)⟩ : S55)) (wrap64 ((wrap64 (x1 + 1)) + 1)) (wrap64 (x5 + 1)))) else (none))) else (some (x1, x0))) := by
  refine Lim.succ_eq (laws_markLocusS.L0_lim x0 x1 x5).mon ?_
  simp only [laws_markLocusS.l0]
  repeat' first
  | (with_reducible exact laws_markLocusS.L0_lim _ _ _)
  | (with_reducible exact laws_markText.F_lim _)
  | (with_reducible refine Lim.ite ?_ ?_)
  | (with_reducible refine Lim.bind ?_ (fun _ => ?_))
  | (with_reducible exact Lim.const _)
theorem laws_markLocusS.F_eq (l0 : List (S55)) (a1 : Int) : laws_markLocusS.F l0 a1 = (laws_markLocusS.L0 l0 a1 0) := by
  refine Lim.eq_ ?_
  simp only [laws_markLocusS.f]
  repeat' first
  | (with_reducible exact laws_markLocusS.L0_lim _ _ _)
  | (with_reducible exact laws_markText.F_lim _)
  | (with_reducible refine Lim.ite ?_ ?_)
  | (with_reducible refine Lim.bind ?_ (fun _ => ?_))
  | (with_reducible exact Lim.const _)
def laws_heldLocusS.l0 : Nat → List (S55) → Int → Int → Option (Int)
  | 0, _, _, _ => none
  | k + 1, x0, x1, x5 => if x5 < (x0.length : Int) then (if 0 ≤ x5 then ((laws_markText.f k x1).bind fun t126 => (if ((rd_T55 x0 x5).f0).toList = t126.toList then (if ((rd_T55 x0 x5).f1) = (wrap64 (x1 + 1)) then (laws_heldLocusS.l0 k x0 (wrap64 ((wrap64 (x1 + 1)) + 1)) (wrap64 (x5 + 1))) else (some (-1))) else (some (-1)))) else (none)) else (some x1)
def laws_heldLocusS.f (k : Nat) (l0 : List (S55)) (a1 : Int) : Option (Int) := laws_heldLocusS.l0 k l0 a1 0
theorem laws_heldLocusS.mono_l : ∀ k, (∀ y0 y1 y2, LeO (laws_heldLocusS.l0 k y0 y1 y2) (laws_heldLocusS.l0 (k + 1) y0 y1 y2))
  | 0 => fun _ _ _ r h => by simp [laws_heldLocusS.l0] at h
  | k + 1 => by
    have ih0 := laws_heldLocusS.mono_l k
    · intro y0 y1 y2
      unfold laws_heldLocusS.l0
      repeat' first
      | (with_reducible exact ih0 _ _ _)
      | (with_reducible exact laws_markText.mono _ _)
      | (with_reducible exact LeO.refl _)
      | (with_reducible exact LeO.none _)
      | (with_reducible refine LeO.ite ?_ ?_)
      | (with_reducible refine LeO.bind ?_ (fun _ => ?_))
      | exact ih0 _ _ _
      | exact laws_markText.mono _ _
      | exact LeO.none _
      | refine LeO.ite ?_ ?_
      | refine LeO.bind ?_ (fun _ => ?_)
theorem laws_heldLocusS.mono : ∀ a0 a1 k, LeO (laws_heldLocusS.f k a0 a1) (laws_heldLocusS.f (k + 1) a0 a1) := by
  intro a0 a1 k
  have ih0 := laws_heldLocusS.mono_l k
  unfold laws_heldLocusS.f
  repeat' first
      | (with_reducible exact ih0 _ _ _)
      | (with_reducible exact laws_markText.mono _ _)
      | (with_reducible exact LeO.refl _)
      | (with_reducible exact LeO.none _)
      | (with_reducible refine LeO.ite ?_ ?_)
      | (with_reducible refine LeO.bind ?_ (fun _ => ?_))
      | exact ih0 _ _ _
      | exact laws_markText.mono _ _
      | exact LeO.none _
      | refine LeO.ite ?_ ?_
      | refine LeO.bind ?_ (fun _ => ?_)
noncomputable def laws_heldLocusS.L0 (x0 : List (S55)) (x1 : Int) (x5 : Int) : Option (Int) := lim fun k => laws_heldLocusS.l0 k x0 x1 x5
theorem laws_heldLocusS.L0_lim (x0 : List (S55)) (x1 : Int) (x5 : Int) : Lim (fun k => laws_heldLocusS.l0 k x0 x1 x5) (laws_heldLocusS.L0 x0 x1 x5) := ⟨fun k => (laws_heldLocusS.mono_l k) x0 x1 x5, rfl⟩
noncomputable def laws_heldLocusS.F (l0 : List (S55)) (a1 : Int) : Option (Int) := lim fun k => laws_heldLocusS.f k l0 a1
theorem laws_heldLocusS.F_lim (l0 : List (S55)) (a1 : Int) : Lim (fun k => laws_heldLocusS.f k l0 a1) (laws_heldLocusS.F l0 a1) := ⟨laws_heldLocusS.mono l0 a1, rfl⟩
theorem laws_heldLocusS.L0_eq (x0 : List (S55)) (x1 : Int) (x5 : Int) : laws_heldLocusS.L0 x0 x1 x5 = (if x5 < (x0.length : Int) then (if 0 ≤ x5 then ((laws_markText.F x1).bind fun t126 => (if ((rd_T55 x0 x5).f0).toList = t126.toList then (if ((rd_T55 x0 x5).f1) = (wrap64 (x1 + 1)) then (laws_heldLocusS.L0 x0 (wrap64 ((wrap64 (x1 + 1)) + 1)) (wrap64 (x5 + 1))) else (some (-1))) else (some (-1)))) else (none)) else (some x1)) := by
  refine Lim.succ_eq (laws_heldLocusS.L0_lim x0 x1 x5).mon ?_
  simp only [laws_heldLocusS.l0]
  repeat' first
  | (with_reducible exact laws_heldLocusS.L0_lim _ _ _)
  | (with_reducible exact laws_markText.F_lim _)
  | (with_reducible refine Lim.ite ?_ ?_)
  | (with_reducible refine Lim.bind ?_ (fun _ => ?_))
  | (with_reducible exact Lim.const _)
theorem laws_heldLocusS.F_eq (l0 : List (S55)) (a1 : Int) : laws_heldLocusS.F l0 a1 = (laws_heldLocusS.L0 l0 a1 0) := by
  refine Lim.eq_ ?_
  simp only [laws_heldLocusS.f]
  repeat' first
  | (with_reducible exact laws_heldLocusS.L0_lim _ _ _)
  | (with_reducible exact laws_markText.F_lim _)
  | (with_reducible refine Lim.ite ?_ ?_)
  | (with_reducible refine Lim.bind ?_ (fun _ => ?_))
  | (with_reducible exact Lim.const _)
def spec_l1In.f (a0 : Int) (a1 : Int) (a2 : Int) : Option (Bool) := if a0 ≥ a1 then (some (decide (a0 ≤ a2))) else (some false)
def spec_naName.l0 : Nat → ByteArray → Int → Option (Bool)
  | 0, _, _ => none
  | k + 1, x0, x3 => if x3 < (x0.size : Int) then (if 0 ≤ x3 then (if (bt x0 x3) < 97 then (some false) else (if (bt x0 x3) > 122 then (some false) else (spec_naName.l0 k x0 (wrap64 (x3 + 1))))) else (none)) else ((spec_l1In.f (x0.size : Int) 1 8).bind fun t128 => (some t128))
def spec_naName.f (k : Nat) (a0 : ByteArray) : Option (Bool) := spec_naName.l0 k a0 0
theorem spec_naName.mono_l : ∀ k, (∀ y0 y1, LeO (spec_naName.l0 k y0 y1) (spec_naName.l0 (k + 1) y0 y1))
  | 0 => fun _ _ r h => by simp [spec_naName.l0] at h
  | k + 1 => by
    have ih0 := spec_naName.mono_l k
    · intro y0 y1
      unfold spec_naName.l0
      repeat' first
      | (with_reducible exact ih0 _ _)
      | (with_reducible exact LeO.refl _)
      | (with_reducible exact LeO.none _)
      | (with_reducible refine LeO.ite ?_ ?_)
      | (with_reducible refine LeO.bind ?_ (fun _ => ?_))
      | exact ih0 _ _
      | exact LeO.none _
      | refine LeO.ite ?_ ?_
      | refine LeO.bind ?_ (fun _ => ?_)
theorem spec_naName.mono : ∀ a0 k, LeO (spec_naName.f k a0) (spec_naName.f (k + 1) a0) := by
  intro a0 k
  have ih0 := spec_naName.mono_l k
  unfold spec_naName.f
  repeat' first
      | (with_reducible exact ih0 _ _)
      | (with_reducible exact LeO.refl _)
      | (with_reducible exact LeO.none _)
      | (with_reducible refine LeO.ite ?_ ?_)
      | (with_reducible refine LeO.bind ?_ (fun _ => ?_))
      | exact ih0 _ _
      | exact LeO.none _
      | refine LeO.ite ?_ ?_
      | refine LeO.bind ?_ (fun _ => ?_)
noncomputable def spec_naName.L0 (x0 : ByteArray) (x3 : Int) : Option (Bool) := lim fun k => spec_naName.l0 k x0 x3
theorem spec_naName.L0_lim (x0 : ByteArray) (x3 : Int) : Lim (fun k => spec_naName.l0 k x0 x3) (spec_naName.L0 x0 x3) := ⟨fun k => (spec_naName.mono_l k) x0 x3, rfl⟩
noncomputable def spec_naName.F (a0 : ByteArray) : Option (Bool) := lim fun k => spec_naName.f k a0
theorem spec_naName.F_lim (a0 : ByteArray) : Lim (fun k => spec_naName.f k a0) (spec_naName.F a0) := ⟨spec_naName.mono a0, rfl⟩
theorem spec_naName.L0_eq (x0 : ByteArray) (x3 : Int) : spec_naName.L0 x0 x3 = (if x3 < (x0.size : Int) then (if 0 ≤ x3 then (if (bt x0 x3) < 97 then (some false) else (if (bt x0 x3) > 122 then (some false) else (spec_naName.L0 x0 (wrap64 (x3 + 1))))) else (none)) else ((spec_l1In.f (x0.size : Int) 1 8).bind fun t128 => (some t128))) := by
  refine Lim.succ_eq (spec_naName.L0_lim x0 x3).mon ?_
  simp only [spec_naName.l0]
  repeat' first
  | (with_reducible exact spec_naName.L0_lim _ _)
  | (with_reducible refine Lim.ite ?_ ?_)
  | (with_reducible refine Lim.bind ?_ (fun _ => ?_))
  | (with_reducible exact Lim.const _)
theorem spec_naName.F_eq (a0 : ByteArray) : spec_naName.F a0 = (spec_naName.L0 a0 0) := by
  refine Lim.eq_ ?_
  simp only [spec_naName.f]
  repeat' first
  | (with_reducible exact spec_naName.L0_lim _ _)
  | (with_reducible refine Lim.ite ?_ ?_)
  | (with_reducible refine Lim.bind ?_ (fun _ => ?_))
  | (with_reducible exact Lim.const _)
def spec_loAngle.f (a0 : Int) : Option (Bool) := (spec_l1In.f a0 (-90) 90).bind fun t129 => (some t129)
def spec_loFind.l0 : Nat → ByteArray → List (S55) → Int → Int → Option (Int)
  | 0, _, _, _, _ => none
  | k + 1, x1, x7, x8, x9 => if x9 < x8 then (if 0 ≤ x9 then (if x9 < (x7.length : Int) then (if ((rd_T55 x7 x9).f0).toList = x1.toList then (some x9) else (spec_loFind.l0 k x1 x7 x8 (wrap64 (x9 + 1)))) else (none)) else (none)) else (some (-1))
def spec_loFind.f (k : Nat) (l0 : List (S55)) (a1 : ByteArray) : Option (Int) := spec_loFind.l0 k a1 l0 (l0.length : Int) 0
theorem spec_loFind.mono_l : ∀ k, (∀ y0 y1 y2 y3, LeO (spec_loFind.l0 k y0 y1 y2 y3) (spec_loFind.l0 (k + 1) y0 y1 y2 y3))
  | 0 => fun _ _ _ _ r h => by simp [spec_loFind.l0] at h
  | k + 1 => by
    have ih0 := spec_loFind.mono_l k
    · intro y0 y1 y2 y3
      unfold spec_loFind.l0
      repeat' first
      | (with_reducible exact ih0 _ _ _ _)
      | (with_reducible exact LeO.refl _)
      | (with_reducible exact LeO.none _)
      | (with_reducible refine LeO.ite ?_ ?_)
      | (with_reducible refine LeO.bind ?_ (fun _ => ?_))
      | exact ih0 _ _ _ _
      | exact LeO.none _
      | refine LeO.ite ?_ ?_
      | refine LeO.bind ?_ (fun _ => ?_)
theorem spec_loFind.mono : ∀ a0 a1 k, LeO (spec_loFind.f k a0 a1) (spec_loFind.f (k + 1) a0 a1) := by
  intro a0 a1 k
  have ih0 := spec_loFind.mono_l k
  unfold spec_loFind.f
  repeat' first
      | (with_reducible exact ih0 _ _ _ _)
      | (with_reducible exact LeO.refl _)
      | (with_reducible exact LeO.none _)
      | (with_reducible refine LeO.ite ?_ ?_)
      | (with_reducible refine LeO.bind ?_ (fun _ => ?_))
      | exact ih0 _ _ _ _
      | exact LeO.none _
      | refine LeO.ite ?_ ?_
      | refine LeO.bind ?_ (fun _ => ?_)
noncomputable def spec_loFind.L0 (x1 : ByteArray) (x7 : List (S55)) (x8 : Int) (x9 : Int) : Option (Int) := lim fun k => spec_loFind.l0 k x1 x7 x8 x9
theorem spec_loFind.L0_lim (x1 : ByteArray) (x7 : List (S55)) (x8 : Int) (x9 : Int) : Lim (fun k => spec_loFind.l0 k x1 x7 x8 x9) (spec_loFind.L0 x1 x7 x8 x9) := ⟨fun k => (spec_loFind.mono_l k) x1 x7 x8 x9, rfl⟩
noncomputable def spec_loFind.F (l0 : List (S55)) (a1 : ByteArray) : Option (Int) := lim fun k => spec_loFind.f k l0 a1
theorem spec_loFind.F_lim (l0 : List (S55)) (a1 : ByteArray) : Lim (fun k => spec_loFind.f k l0 a1) (spec_loFind.F l0 a1) := ⟨spec_loFind.mono l0 a1, rfl⟩
theorem spec_loFind.L0_eq (x1 : ByteArray) (x7 : List (S55)) (x8 : Int) (x9 : Int) : spec_loFind.L0 x1 x7 x8 x9 = (if x9 < x8 then (if 0 ≤ x9 then (if x9 < (x7.length : Int) then (if ((rd_T55 x7 x9).f0).toList = x1.toList then (some x9) else (spec_loFind.L0 x1 x7 x8 (wrap64 (x9 + 1)))) else (none)) else (none)) else (some (-1))) := by
  refine Lim.succ_eq (spec_loFind.L0_lim x1 x7 x8 x9).mon ?_
  simp only [spec_loFind.l0]
  repeat' first
  | (with_reducible exact spec_loFind.L0_lim _ _ _ _)
  | (with_reducible refine Lim.ite ?_ ?_)
  | (with_reducible refine Lim.bind ?_ (fun _ => ?_))
  | (with_reducible exact Lim.const _)
theorem spec_loFind.F_eq (l0 : List (S55)) (a1 : ByteArray) : spec_loFind.F l0 a1 = (spec_loFind.L0 a1 l0 (l0.length : Int) 0) := by
  refine Lim.eq_ ?_
  simp only [spec_loFind.f]
  repeat' first
  | (with_reducible exact spec_loFind.L0_lim _ _ _ _)
  | (with_reducible refine Lim.ite ?_ ?_)
  | (with_reducible refine Lim.bind ?_ (fun _ => ?_))
  | (with_reducible exact Lim.const _)
def spec_loGood.l0 : Nat → List (S55) → List (S55) → Int → Int → Option (Bool)
  | 0, _, _, _, _ => none
  | k + 1, x0, x5, x6, x7 => if x7 < x6 then (if 0 ≤ x7 then (if x7 < (x5.length : Int) then ((spec_naName.f k ((rd_T55 x5 x7).f0)).bind fun t134 => (if t134 = true then ((spec_loAngle.f ((rd_T55 x5 x7).f1)).bind fun t135 => (if t135 = true then (if x7 > 0 then (if 0 ≤ (wrap64 (x7 - 1)) then (if (wrap64 (x7 - 1)) < (x0.length : Int) then (if ((rd_T55 x0 (wrap64 (x7 - 1))).f1) ≥ ((rd_T55 x5 x7).f1) then (some false) else (if x7 ≤ (x0.length : Int) then ((spec_loFind.f k (x0.take (x7 : Int).toNat) ((rd_T55 x5 x7).f0)).bind fun t141 => (if t141 ≥ 0 then (some false) else (spec_loGood.l0 k x0 x5 x6 (wrap64 (x7 + 1))))) else (none))) else (none)) else (none)) else (if x7 ≤ (x0.length : Int) then ((spec_loFind.f k (x0.take (x7 : Int).toNat) ((rd_T55 x5 x7).f0)).bind fun t146 => (if t146 ≥ 0 then (some false) else (spec_loGood.l0 k x0 x5 x6 (wrap64 (x7 + 1))))) else (none))) else (some false))) else (some false))) else (none)) else (none)) else (some (decide ((x0.length : Int) ≤ 8)))
def spec_loGood.f (k : Nat) (l0 : List (S55)) : Option (Bool) := spec_loGood.l0 k l0 l0 (l0.length : Int) 0
theorem spec_loGood.mono_l : ∀ k, (∀ y0 y1 y2 y3, LeO (spec_loGood.l0 k y0 y1 y2 y3) (spec_loGood.l0 (k + 1) y0 y1 y2 y3))
  | 0 => fun _ _ _ _ r h => by simp [spec_loGood.l0] at h
  | k + 1 => by
    have ih0 := spec_loGood.mono_l k
    · intro y0 y1 y2 y3
      unfold spec_loGood.l0
      repeat' first
      | (with_reducible exact ih0 _ _ _ _)
      | (with_reducible exact spec_loFind.mono _ _ _)
      | (with_reducible exact spec_naName.mono _ _)
      | (with_reducible exact LeO.refl _)
      | (with_reducible exact LeO.none _)
      | (with_reducible refine LeO.ite ?_ ?_)
      | (with_reducible refine LeO.bind ?_ (fun _ => ?_))
      | exact ih0 _ _ _ _
      | exact spec_loFind.mono _ _ _
      | exact spec_naName.mono _ _
      | exact LeO.none _
      | refine LeO.ite ?_ ?_
      | refine LeO.bind ?_ (fun _ => ?_)
theorem spec_loGood.mono : ∀ a0 k, LeO (spec_loGood.f k a0) (spec_loGood.f (k + 1) a0) := by
  intro a0 k
  have ih0 := spec_loGood.mono_l k
  unfold spec_loGood.f
  repeat' first
      | (with_reducible exact ih0 _ _ _ _)
      | (with_reducible exact spec_loFind.mono _ _ _)
      | (with_reducible exact spec_naName.mono _ _)
      | (with_reducible exact LeO.refl _)
      | (with_reducible exact LeO.none _)
      | (with_reducible refine LeO.ite ?_ ?_)
      | (with_reducible refine LeO.bind ?_ (fun _ => ?_))
      | exact ih0 _ _ _ _
      | exact spec_loFind.mono _ _ _
      | exact spec_naName.mono _ _
      | exact LeO.none _
      | refine LeO.ite ?_ ?_
      | refine LeO.bind ?_ (fun _ => ?_)
noncomputable def spec_loGood.L0 (x0 : List (S55)) (x5 : List (S55)) (x6 : Int) (x7 : Int) : Option (Bool) := lim fun k => spec_loGood.l0 k x0 x5 x6 x7
theorem spec_loGood.L0_lim (x0 : List (S55)) (x5 : List (S55)) (x6 : Int) (x7 : Int) : Lim (fun k => spec_loGood.l0 k x0 x5 x6 x7) (spec_loGood.L0 x0 x5 x6 x7) := ⟨fun k => (spec_loGood.mono_l k) x0 x5 x6 x7, rfl⟩
noncomputable def spec_loGood.F (l0 : List (S55)) : Option (Bool) := lim fun k => spec_loGood.f k l0
theorem spec_loGood.F_lim (l0 : List (S55)) : Lim (fun k => spec_loGood.f k l0) (spec_loGood.F l0) := ⟨spec_loGood.mono l0, rfl⟩
theorem spec_loGood.L0_eq (x0 : List (S55)) (x5 : List (S55)) (x6 : Int) (x7 : Int) : spec_loGood.L0 x0 x5 x6 x7 = (if x7 < x6 then (if 0 ≤ x7 then (if x7 < (x5.length : Int) then ((spec_naName.F ((rd_T55 x5 x7).f0)).bind fun t134 => (if t134 = true then ((spec_loAngle.f ((rd_T55 x5 x7).f1)).bind fun t135 => (if t135 = true then (if x7 > 0 then (if 0 ≤ (wrap64 (x7 - 1)) then (if (wrap64 (x7 - 1)) < (x0.length : Int) then (if ((rd_T55 x0 (wrap64 (x7 - 1))).f1) ≥ ((rd_T55 x5 x7).f1) then (some false) else (if x7 ≤ (x0.length : Int) then ((spec_loFind.F (x0.take (x7 : Int).toNat) ((rd_T55 x5 x7).f0)).bind fun t141 => (if t141 ≥ 0 then (some false) else (spec_loGood.L0 x0 x5 x6 (wrap64 (x7 + 1))))) else (none))) else (none)) else (none)) else (if x7 ≤ (x0.length : Int) then ((spec_loFind.F (x0.take (x7 : Int).toNat) ((rd_T55 x5 x7).f0)).bind fun t146 => (if t146 ≥ 0 then (some false) else (spec_loGood.L0 x0 x5 x6 (wrap64 (x7 + 1))))) else (none))) else (some false))) else (some false))) else (none)) else (none)) else (some (decide ((x0.length : Int) ≤ 8)))) := by
  refine Lim.succ_eq (spec_loGood.L0_lim x0 x5 x6 x7).mon ?_
  simp only [spec_loGood.l0]
  repeat' first
  | (with_reducible exact spec_loGood.L0_lim _ _ _ _)
  | (with_reducible exact spec_loFind.F_lim _ _)
  | (with_reducible exact spec_naName.F_lim _)
  | (with_reducible refine Lim.ite ?_ ?_)
  | (with_reducible refine Lim.bind ?_ (fun _ => ?_))
  | (with_reducible exact Lim.const _)
theorem spec_loGood.F_eq (l0 : List (S55)) : spec_loGood.F l0 = (spec_loGood.L0 l0 l0 (l0.length : Int) 0) := by
  refine Lim.eq_ ?_
  simp only [spec_loGood.f]
  repeat' first
  | (with_reducible exact spec_loGood.L0_lim _ _ _ _)
  | (with_reducible exact spec_loFind.F_lim _ _)
  | (with_reducible exact spec_naName.F_lim _)
  | (with_reducible refine Lim.ite ?_ ?_)
  | (with_reducible refine Lim.bind ?_ (fun _ => ?_))
  | (with_reducible exact Lim.const _)
def spec_loIf.f (k : Nat) (l0 : List (S55)) : Option ((List (S55)) × Bool) := (spec_loGood.f k l0).bind fun t147 => (if t147 = true then (some (l0, true)) else (some (([] : List (S55)), false)))
theorem spec_loIf.mono : ∀ a0 k, LeO (spec_loIf.f k a0) (spec_loIf.f (k + 1) a0) := by
  intro a0 k
  unfold spec_loIf.f
  repeat' first
      | (with_reducible exact spec_loGood.mono _ _)
      | (with_reducible exact LeO.refl _)
      | (with_reducible exact LeO.none _)
      | (with_reducible refine LeO.ite ?_ ?_)
      | (with_reducible refine LeO.bind ?_ (fun _ => ?_))
      | exact spec_loGood.mono _ _
      | exact LeO.none _
      | refine LeO.ite ?_ ?_
      | refine LeO.bind ?_ (fun _ => ?_)
noncomputable def spec_loIf.F (l0 : List (S55)) : Option ((List (S55)) × Bool) := lim fun k => spec_loIf.f k l0
theorem spec_loIf.F_lim (l0 : List (S55)) : Lim (fun k => spec_loIf.f k l0) (spec_loIf.F l0) := ⟨spec_loIf.mono l0, rfl⟩
theorem spec_loIf.F_eq (l0 : List (S55)) : spec_loIf.F l0 = ((spec_loGood.F l0).bind fun t147 => (if t147 = true then (some (l0, true)) else (some (([] : List (S55)), false)))) := by
  refine Lim.eq_ ?_
  simp only [spec_loIf.f]
  repeat' first
  | (with_reducible exact spec_loGood.F_lim _)
  | (with_reducible refine Lim.ite ?_ ?_)
  | (with_reducible refine Lim.bind ?_ (fun _ => ?_))
  | (with_reducible exact Lim.const _)
def spec_loPut.l0 : Nat → List (S55) → Int → ByteArray → Int → Option ((List (S55)))
  | 0, _, _, _, _ => none
  | k + 1, x0, x5, x149000, x149001 => if x5 < (x0.length : Int) then (if 0 ≤ x5 then (if ((rd_T55 x0 x5).f1) < x149001 then (spec_loPut.l0 k x0 (wrap64 (x5 + 1)) x149000 x149001) else ((some (([] : List (S55)) : List (S55))).bind fun y150 => (if x5 ≤ (x0.length : Int) then ((some (x0.take (x5 : Int).toNat : List (S55))).bind fun y153 => (if y150.length + y153.length < 5864062014805 then ((some (y150 ++ y153 : List (S55))).bind fun y157 => ((some (([(⟨x149000, x149001⟩ : S55)] : List (S55)) : List (S55))).bind fun y160 => (if y157.length + y160.length < 5864062014805 then ((some (y157 ++ y160 : List (S55))).bind fun y163 => ((some (x0.drop (x5 : Int).toNat : List (S55))).bind fun y166 => (if y163.length + y166.length < 5864062014805 then (some (y163 ++ y166)) else (none)))) else (none)))) else (none))) else (none)))) else (none)) else ((some (([] : List (S55)) : List (S55))).bind fun y173 => (if 0 ≤ x5 then (if x5 ≤ (x0.length : Int) then ((some (x0.take (x5 : Int).toNat : List (S55))).bind fun y176 => (if y173.length + y176.length < 5864062014805 then ((some (y173 ++ y176 : List (S55))).bind fun y180 => ((some (([(⟨x149000, x149001⟩ : S55)] : List (S55)) : List (S55))).bind fun y183 => (if y180.length + y183.length < 5864062014805 then ((some (y180 ++ y183 : List (S55))).bind fun y186 => ((some (x0.drop (x5 : Int).toNat : List (S55))).bind fun y189 => (if y186.length + y189.length < 5864062014805 then (some (y186 ++ y189)) else (none)))) else (none)))) else (none))) else (none)) else (none)))
def spec_loPut.f (k : Nat) (l0 : List (S55)) (a1_0 : ByteArray) (a1_1 : Int) : Option ((List (S55))) := spec_loPut.l0 k l0 0 a1_0 a1_1
theorem spec_loPut.mono_l : ∀ k, (∀ y0 y1 y2 y3, LeO (spec_loPut.l0 k y0 y1 y2 y3) (spec_loPut.l0 (k + 1) y0 y1 y2 y3))
  | 0 => fun _ _ _ _ r h => by simp [spec_loPut.l0] at h
  | k + 1 => by
    have ih0 := spec_loPut.mono_l k
    · intro y0 y1 y2 y3
      unfold spec_loPut.l0
      repeat' first
      | (with_reducible exact ih0 _ _ _ _)
      | (with_reducible exact LeO.refl _)
      | (with_reducible exact LeO.none _)
      | (with_reducible refine LeO.ite ?_ ?_)
      | (with_reducible refine LeO.bind ?_ (fun _ => ?_))
      | exact ih0 _ _ _ _
      | exact LeO.none _
      | refine LeO.ite ?_ ?_
      | refine LeO.bind ?_ (fun _ => ?_)
theorem spec_loPut.mono : ∀ a0 a1 a2 k, LeO (spec_loPut.f k a0 a1 a2) (spec_loPut.f (k + 1) a0 a1 a2) := by
  intro a0 a1 a2 k
  have ih0 := spec_loPut.mono_l k
  unfold spec_loPut.f
  repeat' first
      | (with_reducible exact ih0 _ _ _ _)
      | (with_reducible exact LeO.refl _)
      | (with_reducible exact LeO.none _)
      | (with_reducible refine LeO.ite ?_ ?_)
      | (with_reducible refine LeO.bind ?_ (fun _ => ?_))
      | exact ih0 _ _ _ _
      | exact LeO.none _
      | refine LeO.ite ?_ ?_
      | refine LeO.bind ?_ (fun _ => ?_)
noncomputable def spec_loPut.L0 (x0 : List (S55)) (x5 : Int) (x149000 : ByteArray) (x149001 : Int) : Option ((List (S55))) := lim fun k => spec_loPut.l0 k x0 x5 x149000 x149001
theorem spec_loPut.L0_lim (x0 : List (S55)) (x5 : Int) (x149000 : ByteArray) (x149001 : Int) : Lim (fun k => spec_loPut.l0 k x0 x5 x149000 x149001) (spec_loPut.L0 x0 x5 x149000 x149001) := ⟨fun k => (spec_loPut.mono_l k) x0 x5 x149000 x149001, rfl⟩
noncomputable def spec_loPut.F (l0 : List (S55)) (a1_0 : ByteArray) (a1_1 : Int) : Option ((List (S55))) := lim fun k => spec_loPut.f k l0 a1_0 a1_1
theorem spec_loPut.F_lim (l0 : List (S55)) (a1_0 : ByteArray) (a1_1 : Int) : Lim (fun k => spec_loPut.f k l0 a1_0 a1_1) (spec_loPut.F l0 a1_0 a1_1) := ⟨spec_loPut.mono l0 a1_0 a1_1, rfl⟩
theorem spec_loPut.L0_eq (x0 : List (S55)) (x5 : Int) (x149000 : ByteArray) (x149001 : Int) : spec_loPut.L0 x0 x5 x149000 x149001 = (if x5 < (x0.length : Int) then (if 0 ≤ x5 then (if ((rd_T55 x0 x5).f1) < x149001 then (spec_loPut.L0 x0 (wrap64 (x5 + 1)) x149000 x149001) else ((some (([] : List (S55)) : List (S55))).bind fun y150 => (if x5 ≤ (x0.length : Int) then ((some (x0.take (x5 : Int).toNat : List (S55))).bind fun y153 => (if y150.length + y153.length < 5864062014805 then ((some (y150 ++ y153 : List (S55))).bind fun y157 => ((some (([(⟨x149000, x149001⟩ : S55)] : List (S55)) : List (S55))).bind fun y160 => (if y157.length + y160.length < 5864062014805 then ((some (y157 ++ y160 : List (S55))).bind fun y163 => ((some (x0.drop (x5 : Int).toNat : List (S55))).bind fun y166 => (if y163.length + y166.length < 5864062014805 then (some (y163 ++ y166)) else (none)))) else (none)))) else (none))) else (none)))) else (none)) else ((some (([] : List (S55)) : List (S55))).bind fun y173 => (if 0 ≤ x5 then (if x5 ≤ (x0.length : Int) then ((some (x0.take (x5 : Int).toNat : List (S55))).bind fun y176 => (if y173.length + y176.length < 5864062014805 then ((some (y173 ++ y176 : List (S55))).bind fun y180 => ((some (([(⟨x149000, x149001⟩ : S55)] : List (S55)) : List (S55))).bind fun y183 => (if y180.length + y183.length < 5864062014805 then ((some (y180 ++ y183 : List (S55))).bind fun y186 => ((some (x0.drop (x5 : Int).toNat : List (S55))).bind fun y189 => (if y186.length + y189.length < 5864062014805 then (some (y186 ++ y189)) else (none)))) else (none)))) else (none))) else (none)) else (none)))) := by
  refine Lim.succ_eq (spec_loPut.L0_lim x0 x5 x149000 x149001).mon ?_
  simp only [spec_loPut.l0]
  repeat' first
  | (with_reducible exact spec_loPut.L0_lim _ _ _ _)
  | (with_reducible refine Lim.ite ?_ ?_)
  | (with_reducible refine Lim.bind ?_ (fun _ => ?_))
  | (with_reducible exact Lim.const _)
theorem spec_loPut.F_eq (l0 : List (S55)) (a1_0 : ByteArray) (a1_1 : Int) : spec_loPut.F l0 a1_0 a1_1 = (spec_loPut.L0 l0 0 a1_0 a1_1) := by
  refine Lim.eq_ ?_
  simp only [spec_loPut.f]
  repeat' first
  | (with_reducible exact spec_loPut.L0_lim _ _ _ _)
  | (with_reducible refine Lim.ite ?_ ?_)
  | (with_reducible refine Lim.bind ?_ (fun _ => ?_))
  | (with_reducible exact Lim.const _)
def spec_loWithout.l0 : Nat → ByteArray → List (S55) → List (S55) → Int → Int → Option ((List (S55)))
  | 0, _, _, _, _, _ => none
  | k + 1, x1, x5, x8, x9, x10 => if x10 < x9 then (if 0 ≤ x10 then (if x10 < (x8.length : Int) then (if ((rd_T55 x8 x10).f0).toList = x1.toList then (spec_loWithout.l0 k x1 x5 x8 x9 (wrap64 (x10 + 1))) else (if x5.length < 5864062014805 then (spec_loWithout.l0 k x1 (x5 ++ [(⟨(rd_T55 x8 x10).f0, (rd_T55 x8 x10).f1⟩ : S55)]) x8 x9 (wrap64 (x10 + 1))) else (none))) else (none)) else (none)) else (some x5)
def spec_loWithout.f (k : Nat) (l0 : List (S55)) (a1 : ByteArray) : Option ((List (S55))) := spec_loWithout.l0 k a1 ([] : List (S55)) l0 (l0.length : Int) 0
theorem spec_loWithout.mono_l : ∀ k, (∀ y0 y1 y2 y3 y4, LeO (spec_loWithout.l0 k y0 y1 y2 y3 y4) (spec_loWithout.l0 (k + 1) y0 y1 y2 y3 y4))
  | 0 => fun _ _ _ _ _ r h => by simp [spec_loWithout.l0] at h
  | k + 1 => by
    have ih0 := spec_loWithout.mono_l k
    · intro y0 y1 y2 y3 y4
      unfold spec_loWithout.l0
      repeat' first
      | (with_reducible exact ih0 _ _ _ _ _)
      | (with_reducible exact LeO.refl _)
      | (with_reducible exact LeO.none _)
      | (with_reducible refine LeO.ite ?_ ?_)
      | (with_reducible refine LeO.bind ?_ (fun _ => ?_))
      | exact ih0 _ _ _ _ _
      | exact LeO.none _
      | refine LeO.ite ?_ ?_
      | refine LeO.bind ?_ (fun _ => ?_)
theorem spec_loWithout.mono : ∀ a0 a1 k, LeO (spec_loWithout.f k a0 a1) (spec_loWithout.f (k + 1) a0 a1) := by
  intro a0 a1 k
  have ih0 := spec_loWithout.mono_l k
  unfold spec_loWithout.f
  repeat' first
      | (with_reducible exact ih0 _ _ _ _ _)
      | (with_reducible exact LeO.refl _)
      | (with_reducible exact LeO.none _)
      | (with_reducible refine LeO.ite ?_ ?_)
      | (with_reducible refine LeO.bind ?_ (fun _ => ?_))
      | exact ih0 _ _ _ _ _
      | exact LeO.none _
      | refine LeO.ite ?_ ?_
      | refine LeO.bind ?_ (fun _ => ?_)
noncomputable def spec_loWithout.L0 (x1 : ByteArray) (x5 : List (S55)) (x8 : List (S55)) (x9 : Int) (x10 : Int) : Option ((List (S55))) := lim fun k => spec_loWithout.l0 k x1 x5 x8 x9 x10
theorem spec_loWithout.L0_lim (x1 : ByteArray) (x5 : List (S55)) (x8 : List (S55)) (x9 : Int) (x10 : Int) : Lim (fun k => spec_loWithout.l0 k x1 x5 x8 x9 x10) (spec_loWithout.L0 x1 x5 x8 x9 x10) := ⟨fun k => (spec_loWithout.mono_l k) x1 x5 x8 x9 x10, rfl⟩
noncomputable def spec_loWithout.F (l0 : List (S55)) (a1 : ByteArray) : Option ((List (S55))) := lim fun k => spec_loWithout.f k l0 a1
theorem spec_loWithout.F_lim (l0 : List (S55)) (a1 : ByteArray) : Lim (fun k => spec_loWithout.f k l0 a1) (spec_loWithout.F l0 a1) := ⟨spec_loWithout.mono l0 a1, rfl⟩
theorem spec_loWithout.L0_eq (x1 : ByteArray) (x5 : List (S55)) (x8 : List (S55)) (x9 : Int) (x10 : Int) : spec_loWithout.L0 x1 x5 x8 x9 x10 = (if x10 < x9 then (if 0 ≤ x10 then (if x10 < (x8.length : Int) then (if ((rd_T55 x8 x10).f0).toList = x1.toList then (spec_loWithout.L0 x1 x5 x8 x9 (wrap64 (x10 + 1))) else (if x5.length < 5864062014805 then (spec_loWithout.L0 x1 (x5 ++ [(⟨(rd_T55 x8 x10).f0, (rd_T55 x8 x10).f1⟩ : S55)]) x8 x9 (wrap64 (x10 + 1))) else (none))) else (none)) else (none)) else (some x5)) := by
  refine Lim.succ_eq (spec_loWithout.L0_lim x1 x5 x8 x9 x10).mon ?_
  simp only [spec_loWithout.l0]
  repeat' first
  | (with_reducible exact spec_loWithout.L0_lim _ _ _ _ _)
  | (with_reducible refine Lim.ite ?_ ?_)
  | (with_reducible refine Lim.bind ?_ (fun _ => ?_))
  | (with_reducible exact Lim.const _)
theorem spec_loWithout.F_eq (l0 : List (S55)) (a1 : ByteArray) : spec_loWithout.F l0 a1 = (spec_loWithout.L0 a1 ([] : List (S55)) l0 (l0.length : Int) 0) := by
  refine Lim.eq_ ?_
  simp only [spec_loWithout.f]
  repeat' first
  | (with_reducible exact spec_loWithout.L0_lim _ _ _ _ _)
  | (with_reducible refine Lim.ite ?_ ?_)
  | (with_reducible refine Lim.bind ?_ (fun _ => ?_))
  | (with_reducible exact Lim.const _)
def spec_l1Most.f (a0 : Int) (a1 : Int) : Option (Int) := if a0 > a1 then (some a0) else (some a1)
def spec_l1Least.f (a0 : Int) (a1 : Int) : Option (Int) := if a0 < a1 then (some a0) else (some a1)
mutual
def spec_ShiftRole.j0 : Nat → List (S55) → ByteArray → Bool → Option ((List (S55)) × Bool)
  | 0, _, _, _ => none
  | k + 1, x0, x1, x18 => if x18 = true then (some (([] : List (S55)), false)) else ((spec_loFind.f k x0 x1).bind fun t203 => (if 0 ≤ t203 then (if t203 < (x0.length : Int) then ((spec_loWithout.f k x0 x1).bind fun t208 => (spec_ShiftRole.l0 k ((rd_T55 x0 t203).f1) (([(⟨(⟨#[115, 105, 103, 110, 101, 114]⟩ : ByteArray), 0⟩ : S55)] : List (S55))) t208 (t208.length : Int) 0)) else (none)) else (none)))
def spec_ShiftRole.l0 : Nat → Int → List (S55) → List (S55) → Int → Int → Option ((List (S55)) × Bool)
  | 0, _, _, _, _, _ => none
  | k + 1, x6, x7, x30, x31, x32 => if x32 < x31 then (if 0 ≤ x32 then (if x32 < (x30.length : Int) then ((spec_l1Least.f 90 (wrap64 (((rd_T55 x30 x32).f1) - x6))).bind fun t213 => ((spec_l1Most.f (-90) t213).bind fun t214 => ((spec_loPut.f k x7 ((rd_T55 x30 x32).f0) t214).bind fun t215 => (spec_ShiftRole.l0 k x6 t215 x30 x31 (wrap64 (x32 + 1)))))) else (none)) else (none)) else ((spec_loIf.f k x7).bind fun bt218 => (some (bt218.1, bt218.2)))
end
def spec_ShiftRole.f (k : Nat) (l0 : List (S55)) (a1 : ByteArray) : Option ((List (S55)) × Bool) := (spec_loGood.f k l0).bind fun t201 => (if t201 = true then ((spec_loFind.f k l0 a1).bind fun t202 => (spec_ShiftRole.j0 k l0 a1 (decide (t202 < 0)))) else (spec_ShiftRole.j0 k l0 a1 true))
theorem spec_ShiftRole.mono_l : ∀ k, (∀ y0 y1 y2, LeO (spec_ShiftRole.j0 k y0 y1 y2) (spec_ShiftRole.j0 (k + 1) y0 y1 y2)) ∧ (∀ y0 y1 y2 y3 y4, LeO (spec_ShiftRole.l0 k y0 y1 y2 y3 y4) (spec_ShiftRole.l0 (k + 1) y0 y1 y2 y3 y4))
  | 0 => ⟨fun _ _ _ r h => by simp [spec_ShiftRole.j0] at h, fun _ _ _ _ _ r h => by simp [spec_ShiftRole.l0] at h⟩
  | k + 1 => by
    obtain ⟨ih0, ih1⟩ := spec_ShiftRole.mono_l k
    refine ⟨?_, ?_⟩
    · intro y0 y1 y2
      unfold spec_ShiftRole.j0
      repeat' first
      | (with_reducible exact ih0 _ _ _)
      | (with_reducible exact ih1 _ _ _ _ _)
      | (with_reducible exact spec_loFind.mono _ _ _)
      | (with_reducible exact spec_loGood.mono _ _)
      | (with_reducible exact spec_loIf.mono _ _)
      | (with_reducible exact spec_loPut.mono _ _ _ _)
      | (with_reducible exact spec_loWithout.mono _ _ _)
      | (with_reducible exact LeO.refl _)
      | (with_reducible exact LeO.none _)
      | (with_reducible refine LeO.ite ?_ ?_)
      | (with_reducible refine LeO.bind ?_ (fun _ => ?_))
      | exact ih0 _ _ _
      | exact ih1 _ _ _ _ _
      | exact spec_loFind.mono _ _ _
      | exact spec_loGood.mono _ _
      | exact spec_loIf.mono _ _
      | exact spec_loPut.mono _ _ _ _
      | exact spec_loWithout.mono _ _ _
      | exact LeO.none _
      | refine LeO.ite ?_ ?_
      | refine LeO.bind ?_ (fun _ => ?_)
    · intro y0 y1 y2 y3 y4
      unfold spec_ShiftRole.l0
      repeat' first
      | (with_reducible exact ih0 _ _ _)
      | (with_reducible exact ih1 _ _ _ _ _)
      | (with_reducible exact spec_loFind.mono _ _ _)
      | (with_reducible exact spec_loGood.mono _ _)
      | (with_reducible exact spec_loIf.mono _ _)
      | (with_reducible exact spec_loPut.mono _ _ _ _)
      | (with_reducible exact spec_loWithout.mono _ _ _)
      | (with_reducible exact LeO.refl _)
      | (with_reducible exact LeO.none _)
      | (with_reducible refine LeO.ite ?_ ?_)
      | (with_reducible refine LeO.bind ?_ (fun _ => ?_))
      | exact ih0 _ _ _
      | exact ih1 _ _ _ _ _
      | exact spec_loFind.mono _ _ _
      | exact spec_loGood.mono _ _
      | exact spec_loIf.mono _ _
      | exact spec_loPut.mono _ _ _ _
      | exact spec_loWithout.mono _ _ _
      | exact LeO.none _
      | refine LeO.ite ?_ ?_
      | refine LeO.bind ?_ (fun _ => ?_)
theorem spec_ShiftRole.mono : ∀ a0 a1 k, LeO (spec_ShiftRole.f k a0 a1) (spec_ShiftRole.f (k + 1) a0 a1) := by
  intro a0 a1 k
  obtain ⟨ih0, ih1⟩ := spec_ShiftRole.mono_l k
  unfold spec_ShiftRole.f
  repeat' first
      | (with_reducible exact ih0 _ _ _)
      | (with_reducible exact ih1 _ _ _ _ _)
      | (with_reducible exact spec_loFind.mono _ _ _)
      | (with_reducible exact spec_loGood.mono _ _)
      | (with_reducible exact spec_loIf.mono _ _)
      | (with_reducible exact spec_loPut.mono _ _ _ _)
      | (with_reducible exact spec_loWithout.mono _ _ _)
      | (with_reducible exact LeO.refl _)
      | (with_reducible exact LeO.none _)
      | (with_reducible refine LeO.ite ?_ ?_)
      | (with_reducible refine LeO.bind ?_ (fun _ => ?_))
      | exact ih0 _ _ _
      | exact ih1 _ _ _ _ _
      | exact spec_loFind.mono _ _ _
      | exact spec_loGood.mono _ _
      | exact spec_loIf.mono _ _
      | exact spec_loPut.mono _ _ _ _
      | exact spec_loWithout.mono _ _ _
      | exact LeO.none _
      | refine LeO.ite ?_ ?_
      | refine LeO.bind ?_ (fun _ => ?_)
noncomputable def spec_ShiftRole.J0 (x0 : List (S55)) (x1 : ByteArray) (x18 : Bool) : Option ((List (S55)) × Bool) := lim fun k => spec_ShiftRole.j0 k x0 x1 x18
theorem spec_ShiftRole.J0_lim (x0 : List (S55)) (x1 : ByteArray) (x18 : Bool) : Lim (fun k => spec_ShiftRole.j0 k x0 x1 x18) (spec_ShiftRole.J0 x0 x1 x18) := ⟨fun k => (spec_ShiftRole.mono_l k).1 x0 x1 x18, rfl⟩
noncomputable def spec_ShiftRole.L0 (x6 : Int) (x7 : List (S55)) (x30 : List (S55)) (x31 : Int) (x32 : Int) : Option ((List (S55)) × Bool) := lim fun k => spec_ShiftRole.l0 k x6 x7 x30 x31 x32
theorem spec_ShiftRole.L0_lim (x6 : Int) (x7 : List (S55)) (x30 : List (S55)) (x31 : Int) (x32 : Int) : Lim (fun k => spec_ShiftRole.l0 k x6 x7 x30 x31 x32) (spec_ShiftRole.L0 x6 x7 x30 x31 x32) := ⟨fun k => (spec_ShiftRole.mono_l k).2 x6 x7 x30 x31 x32, rfl⟩
noncomputable def spec_ShiftRole.F (l0 : List (S55)) (a1 : ByteArray) : Option ((List (S55)) × Bool) := lim fun k => spec_ShiftRole.f k l0 a1
theorem spec_ShiftRole.F_lim (l0 : List (S55)) (a1 : ByteArray) : Lim (fun k => spec_ShiftRole.f k l0 a1) (spec_ShiftRole.F l0 a1) := ⟨spec_ShiftRole.mono l0 a1, rfl⟩
theorem spec_ShiftRole.J0_eq (x0 : List (S55)) (x1 : ByteArray) (x18 : Bool) : spec_ShiftRole.J0 x0 x1 x18 = (if x18 = true then (some (([] : List (S55)), false)) else ((spec_loFind.F x0 x1).bind fun t203 => (if 0 ≤ t203 then (if t203 < (x0.length : Int) then ((spec_loWithout.F x0 x1).bind fun t208 => (spec_ShiftRole.L0 ((rd_T55 x0 t203).f1) (([(⟨(⟨#[115, 105, 103, 110, 101, 114]⟩ : ByteArray), 0⟩ : S55)] : List (S55))) t208 (t208.length : Int) 0)) else (none)) else (none)))) := by
  refine Lim.succ_eq (spec_ShiftRole.J0_lim x0 x1 x18).mon ?_
  simp only [spec_ShiftRole.j0]
  repeat' first
  | (with_reducible exact spec_ShiftRole.J0_lim _ _ _)
  | (with_reducible exact spec_ShiftRole.L0_lim _ _ _ _ _)
  | (with_reducible exact spec_loFind.F_lim _ _)
  | (with_reducible exact spec_loGood.F_lim _)
  | (with_reducible exact spec_loIf.F_lim _)
  | (with_reducible exact spec_loPut.F_lim _ _ _)
  | (with_reducible exact spec_loWithout.F_lim _ _)
  | (with_reducible refine Lim.ite ?_ ?_)
  | (with_reducible refine Lim.bind ?_ (fun _ => ?_))
  | (with_reducible exact Lim.const _)
theorem spec_ShiftRole.L0_eq (x6 : Int) (x7 : List (S55)) (x30 : List (S55)) (x31 : Int) (x32 : Int) : spec_ShiftRole.L0 x6 x7 x30 x31 x32 = (if x32 < x31 then (if 0 ≤ x32 then (if x32 < (x30.length : Int) then ((spec_l1Least.f 90 (wrap64 (((rd_T55 x30 x32).f1) - x6))).bind fun t213 => ((spec_l1Most.f (-90) t213).bind fun t214 => ((spec_loPut.F x7 ((rd_T55 x30 x32).f0) t214).bind fun t215 => (spec_ShiftRole.L0 x6 t215 x30 x31 (wrap64 (x32 + 1)))))) else (none)) else (none)) else ((spec_loIf.F x7).bind fun bt218 => (some (bt218.1, bt218.2)))) := by
  refine Lim.succ_eq (spec_ShiftRole.L0_lim x6 x7 x30 x31 x32).mon ?_
  simp only [spec_ShiftRole.l0]
  repeat' first
  | (with_reducible exact spec_ShiftRole.J0_lim _ _ _)
  | (with_reducible exact spec_ShiftRole.L0_lim _ _ _ _ _)
  | (with_reducible exact spec_loFind.F_lim _ _)
  | (with_reducible exact spec_loGood.F_lim _)
  | (with_reducible exact spec_loIf.F_lim _)
  | (with_reducible exact spec_loPut.F_lim _ _ _)
  | (with_reducible exact spec_loWithout.F_lim _ _)
  | (with_reducible refine Lim.ite ?_ ?_)
  | (with_reducible refine Lim.bind ?_ (fun _ => ?_))
  | (with_reducible exact Lim.const _)
theorem spec_ShiftRole.F_eq (l0 : List (S55)) (a1 : ByteArray) : spec_ShiftRole.F l0 a1 = ((spec_loGood.F l0).bind fun t201 => (if t201 = true then ((spec_loFind.F l0 a1).bind fun t202 => (spec_ShiftRole.J0 l0 a1 (decide (t202 < 0)))) else (spec_ShiftRole.J0 l0 a1 true))) := by
  refine Lim.eq_ ?_
  simp only [spec_ShiftRole.f]
  repeat' first
  | (with_reducible exact spec_ShiftRole.J0_lim _ _ _)
  | (with_reducible exact spec_ShiftRole.L0_lim _ _ _ _ _)
  | (with_reducible exact spec_loFind.F_lim _ _)
  | (with_reducible exact spec_loGood.F_lim _)
  | (with_reducible exact spec_loIf.F_lim _)
  | (with_reducible exact spec_loPut.F_lim _ _ _)
  | (with_reducible exact spec_loWithout.F_lim _ _)
  | (with_reducible refine Lim.ite ?_ ?_)
  | (with_reducible refine Lim.bind ?_ (fun _ => ?_))
  | (with_reducible exact Lim.const _)
def impl_within.f (a0 : Int) (a1 : Int) (a2 : Int) : Option (Bool) := if a0 ≥ a1 then (some (decide (a0 ≤ a2))) else (some false)
def stringslite_IndexByte.f (a0 : ByteArray) (a1 : Int) : Option (Int) := some (Lib.indexByte a0.data.toList a1.toNat.toUInt8)
def strings_IndexByte.f (a0 : ByteArray) (a1 : Int) : Option (Int) := (stringslite_IndexByte.f a0 a1).bind fun t222 => (some t222)
def impl_hasOnly.l0 : Nat → ByteArray → ByteArray → Int → Int → Option (Bool)
  | 0, _, _, _, _ => none
  | k + 1, x0, x1, x7, x8 => if x8 < x7 then (if 0 ≤ x8 then (if x8 < (x0.size : Int) then ((strings_IndexByte.f x1 (bt x0 x8)).bind fun t223 => (if t223 < 0 then (some false) else (impl_hasOnly.l0 k x0 x1 x7 (wrap64 (x8 + 1))))) else (none)) else (none)) else (some true)
def impl_hasOnly.f (k : Nat) (a0 : ByteArray) (a1 : ByteArray) : Option (Bool) := impl_hasOnly.l0 k a0 a1 (a0.size : Int) 0
theorem impl_hasOnly.mono_l : ∀ k, (∀ y0 y1 y2 y3, LeO (impl_hasOnly.l0 k y0 y1 y2 y3) (impl_hasOnly.l0 (k + 1) y0 y1 y2 y3))
  | 0 => fun _ _ _ _ r h => by simp [impl_hasOnly.l0] at h
  | k + 1 => by
    have ih0 := impl_hasOnly.mono_l k
    · intro y0 y1 y2 y3
      unfold impl_hasOnly.l0
      repeat' first
      | (with_reducible exact ih0 _ _ _ _)
      | (with_reducible exact LeO.refl _)
      | (with_reducible exact LeO.none _)
      | (with_reducible refine LeO.ite ?_ ?_)
      | (with_reducible refine LeO.bind ?_ (fun _ => ?_))
      | exact ih0 _ _ _ _
      | exact LeO.none _
      | refine LeO.ite ?_ ?_
      | refine LeO.bind ?_ (fun _ => ?_)
theorem impl_hasOnly.mono : ∀ a0 a1 k, LeO (impl_hasOnly.f k a0 a1) (impl_hasOnly.f (k + 1) a0 a1) := by
  intro a0 a1 k
  have ih0 := impl_hasOnly.mono_l k
  unfold impl_hasOnly.f
  repeat' first
      | (with_reducible exact ih0 _ _ _ _)
      | (with_reducible exact LeO.refl _)
      | (with_reducible exact LeO.none _)
      | (with_reducible refine LeO.ite ?_ ?_)
      | (with_reducible refine LeO.bind ?_ (fun _ => ?_))
      | exact ih0 _ _ _ _
      | exact LeO.none _
      | refine LeO.ite ?_ ?_
      | refine LeO.bind ?_ (fun _ => ?_)
noncomputable def impl_hasOnly.L0 (x0 : ByteArray) (x1 : ByteArray) (x7 : Int) (x8 : Int) : Option (Bool) := lim fun k => impl_hasOnly.l0 k x0 x1 x7 x8
theorem impl_hasOnly.L0_lim (x0 : ByteArray) (x1 : ByteArray) (x7 : Int) (x8 : Int) : Lim (fun k => impl_hasOnly.l0 k x0 x1 x7 x8) (impl_hasOnly.L0 x0 x1 x7 x8) := ⟨fun k => (impl_hasOnly.mono_l k) x0 x1 x7 x8, rfl⟩
noncomputable def impl_hasOnly.F (a0 : ByteArray) (a1 : ByteArray) : Option (Bool) := lim fun k => impl_hasOnly.f k a0 a1
theorem impl_hasOnly.F_lim (a0 : ByteArray) (a1 : ByteArray) : Lim (fun k => impl_hasOnly.f k a0 a1) (impl_hasOnly.F a0 a1) := ⟨impl_hasOnly.mono a0 a1, rfl⟩
theorem impl_hasOnly.L0_eq (x0 : ByteArray) (x1 : ByteArray) (x7 : Int) (x8 : Int) : impl_hasOnly.L0 x0 x1 x7 x8 = (if x8 < x7 then (if 0 ≤ x8 then (if x8 < (x0.size : Int) then ((strings_IndexByte.f x1 (bt x0 x8)).bind fun t223 => (if t223 < 0 then (some false) else (impl_hasOnly.L0 x0 x1 x7 (wrap64 (x8 + 1))))) else (none)) else (none)) else (some true)) := by
  refine Lim.succ_eq (impl_hasOnly.L0_lim x0 x1 x7 x8).mon ?_
  simp only [impl_hasOnly.l0]
  repeat' first
  | (with_reducible exact impl_hasOnly.L0_lim _ _ _ _)
  | (with_reducible refine Lim.ite ?_ ?_)
  | (with_reducible refine Lim.bind ?_ (fun _ => ?_))
  | (with_reducible exact Lim.const _)
theorem impl_hasOnly.F_eq (a0 : ByteArray) (a1 : ByteArray) : impl_hasOnly.F a0 a1 = (impl_hasOnly.L0 a0 a1 (a0.size : Int) 0) := by
  refine Lim.eq_ ?_
  simp only [impl_hasOnly.f]
  repeat' first
  | (with_reducible exact impl_hasOnly.L0_lim _ _ _ _)
  | (with_reducible refine Lim.ite ?_ ?_)
  | (with_reducible refine Lim.bind ?_ (fun _ => ?_))
  | (with_reducible exact Lim.const _)
def impl_isWordOf.f (k : Nat) (a0 : ByteArray) (a1 : ByteArray) : Option (Bool) := (impl_within.f (a0.size : Int) 1 8).bind fun t224 => (if t224 = true then ((impl_hasOnly.f k a0 a1).bind fun t225 => (some t225)) else (some false))
theorem impl_isWordOf.mono : ∀ a0 a1 k, LeO (impl_isWordOf.f k a0 a1) (impl_isWordOf.f (k + 1) a0 a1) := by
  intro a0 a1 k
  unfold impl_isWordOf.f
  repeat' first
      | (with_reducible exact impl_hasOnly.mono _ _ _)
      | (with_reducible exact LeO.refl _)
      | (with_reducible exact LeO.none _)
      | (with_reducible refine LeO.ite ?_ ?_)
      | (with_reducible refine LeO.bind ?_ (fun _ => ?_))
      | exact impl_hasOnly.mono _ _ _
      | exact LeO.none _
      | refine LeO.ite ?_ ?_
      | refine LeO.bind ?_ (fun _ => ?_)
noncomputable def impl_isWordOf.F (a0 : ByteArray) (a1 : ByteArray) : Option (Bool) := lim fun k => impl_isWordOf.f k a0 a1
theorem impl_isWordOf.F_lim (a0 : ByteArray) (a1 : ByteArray) : Lim (fun k => impl_isWordOf.f k a0 a1) (impl_isWordOf.F a0 a1) := ⟨impl_isWordOf.mono a0 a1, rfl⟩
theorem impl_isWordOf.F_eq (a0 : ByteArray) (a1 : ByteArray) : impl_isWordOf.F a0 a1 = ((impl_within.f (a0.size : Int) 1 8).bind fun t224 => (if t224 = true then ((impl_hasOnly.F a0 a1).bind fun t225 => (some t225)) else (some false))) := by
  refine Lim.eq_ ?_
  simp only [impl_isWordOf.f]
  repeat' first
  | (with_reducible exact impl_hasOnly.F_lim _ _)
  | (with_reducible refine Lim.ite ?_ ?_)
  | (with_reducible refine Lim.bind ?_ (fun _ => ?_))
  | (with_reducible exact Lim.const _)
def impl_isAngle.f (a0 : Int) : Option (Bool) := (impl_within.f a0 (-90) 90).bind fun t226 => (some t226)
def impl_locusOf_1.f (a0_0 : ByteArray) (a0_1 : Int) (a1_0 : ByteArray) : Option (Bool) := some (a0_0.toList == a1_0.toList)
def slices_IndexFunc_Locus_impl_locusOf_1.l0 : Nat → List (S55) → Int → Int → ByteArray → Option (Int)
  | 0, _, _, _, _ => none
  | k + 1, x0, x7, x8, x39000 => if x8 < x7 then (if 0 ≤ x8 then (if x8 < (x0.length : Int) then ((impl_locusOf_1.f ((rd_T55 x0 x8).f0) ((rd_T55 x0 x8).f1) x39000).bind fun t229 => (if t229 = true then (some x8) else (slices_IndexFunc_Locus_impl_locusOf_1.l0 k x0 x7 (wrap64 (x8 + 1)) x39000))) else (none)) else (none)) else (some (-1))
def slices_IndexFunc_Locus_impl_locusOf_1.f (k : Nat) (l0 : List (S55)) (a1_0 : ByteArray) : Option (Int) := slices_IndexFunc_Locus_impl_locusOf_1.l0 k l0 (l0.length : Int) 0 a1_0
theorem slices_IndexFunc_Locus_impl_locusOf_1.mono_l : ∀ k, (∀ y0 y1 y2 y3, LeO (slices_IndexFunc_Locus_impl_locusOf_1.l0 k y0 y1 y2 y3) (slices_IndexFunc_Locus_impl_locusOf_1.l0 (k + 1) y0 y1 y2 y3))
  | 0 => fun _ _ _ _ r h => by simp [slices_IndexFunc_Locus_impl_locusOf_1.l0] at h
  | k + 1 => by
    have ih0 := slices_IndexFunc_Locus_impl_locusOf_1.mono_l k
    · intro y0 y1 y2 y3
      unfold slices_IndexFunc_Locus_impl_locusOf_1.l0
      repeat' first
      | (with_reducible exact ih0 _ _ _ _)
      | (with_reducible exact LeO.refl _)
      | (with_reducible exact LeO.none _)
      | (with_reducible refine LeO.ite ?_ ?_)
      | (with_reducible refine LeO.bind ?_ (fun _ => ?_))
      | exact ih0 _ _ _ _
      | exact LeO.none _
      | refine LeO.ite ?_ ?_
      | refine LeO.bind ?_ (fun _ => ?_)
theorem slices_IndexFunc_Locus_impl_locusOf_1.mono : ∀ a0 a1 k, LeO (slices_IndexFunc_Locus_impl_locusOf_1.f k a0 a1) (slices_IndexFunc_Locus_impl_locusOf_1.f (k + 1) a0 a1) := by
  intro a0 a1 k
  have ih0 := slices_IndexFunc_Locus_impl_locusOf_1.mono_l k
  unfold slices_IndexFunc_Locus_impl_locusOf_1.f
  repeat' first
      | (with_reducible exact ih0 _ _ _ _)
      | (with_reducible exact LeO.refl _)
      | (with_reducible exact LeO.none _)
      | (with_reducible refine LeO.ite ?_ ?_)
      | (with_reducible refine LeO.bind ?_ (fun _ => ?_))
      | exact ih0 _ _ _ _
      | exact LeO.none _
      | refine LeO.ite ?_ ?_
      | refine LeO.bind ?_ (fun _ => ?_)
noncomputable def slices_IndexFunc_Locus_impl_locusOf_1.L0 (x0 : List (S55)) (x7 : Int) (x8 : Int) (x39000 : ByteArray) : Option (Int) := lim fun k => slices_IndexFunc_Locus_impl_locusOf_1.l0 k x0 x7 x8 x39000
theorem slices_IndexFunc_Locus_impl_locusOf_1.L0_lim (x0 : List (S55)) (x7 : Int) (x8 : Int) (x39000 : ByteArray) : Lim (fun k => slices_IndexFunc_Locus_impl_locusOf_1.l0 k x0 x7 x8 x39000) (slices_IndexFunc_Locus_impl_locusOf_1.L0 x0 x7 x8 x39000) := ⟨fun k => (slices_IndexFunc_Locus_impl_locusOf_1.mono_l k) x0 x7 x8 x39000, rfl⟩
noncomputable def slices_IndexFunc_Locus_impl_locusOf_1.F (l0 : List (S55)) (a1_0 : ByteArray) : Option (Int) := lim fun k => slices_IndexFunc_Locus_impl_locusOf_1.f k l0 a1_0
theorem slices_IndexFunc_Locus_impl_locusOf_1.F_lim (l0 : List (S55)) (a1_0 : ByteArray) : Lim (fun k => slices_IndexFunc_Locus_impl_locusOf_1.f k l0 a1_0) (slices_IndexFunc_Locus_impl_locusOf_1.F l0 a1_0) := ⟨slices_IndexFunc_Locus_impl_locusOf_1.mono l0 a1_0, rfl⟩
theorem slices_IndexFunc_Locus_impl_locusOf_1.L0_eq (x0 : List (S55)) (x7 : Int) (x8 : Int) (x39000 : ByteArray) : slices_IndexFunc_Locus_impl_locusOf_1.L0 x0 x7 x8 x39000 = (if x8 < x7 then (if 0 ≤ x8 then (if x8 < (x0.length : Int) then ((impl_locusOf_1.f ((rd_T55 x0 x8).f0) ((rd_T55 x0 x8).f1) x39000).bind fun t229 => (if t229 = true then (some x8) else (slices_IndexFunc_Locus_impl_locusOf_1.L0 x0 x7 (wrap64 (x8 + 1)) x39000))) else (none)) else (none)) else (some (-1))) := by
  refine Lim.succ_eq (slices_IndexFunc_Locus_impl_locusOf_1.L0_lim x0 x7 x8 x39000).mon ?_
  simp only [slices_IndexFunc_Locus_impl_locusOf_1.l0]
  repeat' first
  | (with_reducible exact slices_IndexFunc_Locus_impl_locusOf_1.L0_lim _ _ _ _)
  | (with_reducible refine Lim.ite ?_ ?_)
  | (with_reducible refine Lim.bind ?_ (fun _ => ?_))
  | (with_reducible exact Lim.const _)
theorem slices_IndexFunc_Locus_impl_locusOf_1.F_eq (l0 : List (S55)) (a1_0 : ByteArray) : slices_IndexFunc_Locus_impl_locusOf_1.F l0 a1_0 = (slices_IndexFunc_Locus_impl_locusOf_1.L0 l0 (l0.length : Int) 0 a1_0) := by
  refine Lim.eq_ ?_
  simp only [slices_IndexFunc_Locus_impl_locusOf_1.f]
  repeat' first
  | (with_reducible exact slices_IndexFunc_Locus_impl_locusOf_1.L0_lim _ _ _ _)
  | (with_reducible refine Lim.ite ?_ ?_)
  | (with_reducible refine Lim.bind ?_ (fun _ => ?_))
  | (with_reducible exact Lim.const _)
def impl_locusOf.f (k : Nat) (l0 : List (S55)) (a1 : ByteArray) : Option (Int) := (slices_IndexFunc_Locus_impl_locusOf_1.f k l0 a1).bind fun t231 => (some t231)
theorem impl_locusOf.mono : ∀ a0 a1 k, LeO (impl_locusOf.f k a0 a1) (impl_locusOf.f (k + 1) a0 a1) := by
  intro a0 a1 k
  unfold impl_locusOf.f
  repeat' first
      | (with_reducible exact slices_IndexFunc_Locus_impl_locusOf_1.mono _ _ _)
      | (with_reducible exact LeO.refl _)
      | (with_reducible exact LeO.none _)
      | (with_reducible refine LeO.ite ?_ ?_)
      | (with_reducible refine LeO.bind ?_ (fun _ => ?_))
      | exact slices_IndexFunc_Locus_impl_locusOf_1.mono _ _ _
      | exact LeO.none _
      | refine LeO.ite ?_ ?_
      | refine LeO.bind ?_ (fun _ => ?_)
noncomputable def impl_locusOf.F (l0 : List (S55)) (a1 : ByteArray) : Option (Int) := lim fun k => impl_locusOf.f k l0 a1
theorem impl_locusOf.F_lim (l0 : List (S55)) (a1 : ByteArray) : Lim (fun k => impl_locusOf.f k l0 a1) (impl_locusOf.F l0 a1) := ⟨impl_locusOf.mono l0 a1, rfl⟩
theorem impl_locusOf.F_eq (l0 : List (S55)) (a1 : ByteArray) : impl_locusOf.F l0 a1 = ((slices_IndexFunc_Locus_impl_locusOf_1.F l0 a1).bind fun t231 => (some t231)) := by
  refine Lim.eq_ ?_
  simp only [impl_locusOf.f]
  repeat' first
  | (with_reducible exact slices_IndexFunc_Locus_impl_locusOf_1.F_lim _ _)
  | (with_reducible refine Lim.ite ?_ ?_)
  | (with_reducible refine Lim.bind ?_ (fun _ => ?_))
  | (with_reducible exact Lim.const _)
def impl_AreLoci.l0 : Nat → List (S55) → List (S55) → Int → Int → Option (Bool)
  | 0, _, _, _, _ => none
  | k + 1, x0, x5, x6, x7 => if x7 < x6 then (if 0 ≤ x7 then (if x7 < (x5.length : Int) then ((impl_isWordOf.f k ((rd_T55 x5 x7).f0) (⟨#[97, 98, 99, 100, 101, 102, 103, 104, 105, 106, 107, 108, 109, 110, 111, 112, 113, 114, 115, 116, 117, 118, 119, 120, 121, 122]⟩ : ByteArray)).bind fun t234 => (if t234 = true then ((impl_isAngle.f ((rd_T55 x5 x7).f1)).bind fun t235 => (if t235 = true then (if x7 > 0 then (if 0 ≤ (wrap64 (x7 - 1)) then (if (wrap64 (x7 - 1)) < (x0.length : Int) then (if ((rd_T55 x5 x7).f1) ≤ ((rd_T55 x0 (wrap64 (x7 - 1))).f1) then (some false) else (if x7 ≤ (x0.length : Int) then ((impl_locusOf.f k (x0.take (x7 : Int).toNat) ((rd_T55 x5 x7).f0)).bind fun t241 => (if t241 ≥ 0 then (some false) else (impl_AreLoci.l0 k x0 x5 x6 (wrap64 (x7 + 1))))) else (none))) else (none)) else (none)) else (if x7 ≤ (x0.length : Int) then ((impl_locusOf.f k (x0.take (x7 : Int).toNat) ((rd_T55 x5 x7).f0)).bind fun t246 => (if t246 ≥ 0 then (some false) else (impl_AreLoci.l0 k x0 x5 x6 (wrap64 (x7 + 1))))) else (none))) else (some false))) else (some false))) else (none)) else (none)) else (some (decide ((x0.length : Int) ≤ 8)))
def impl_AreLoci.f (k : Nat) (l0 : List (S55)) : Option (Bool) := impl_AreLoci.l0 k l0 l0 (l0.length : Int) 0
theorem impl_AreLoci.mono_l : ∀ k, (∀ y0 y1 y2 y3, LeO (impl_AreLoci.l0 k y0 y1 y2 y3) (impl_AreLoci.l0 (k + 1) y0 y1 y2 y3))
  | 0 => fun _ _ _ _ r h => by simp [impl_AreLoci.l0] at h
  | k + 1 => by
    have ih0 := impl_AreLoci.mono_l k
    · intro y0 y1 y2 y3
      unfold impl_AreLoci.l0
      repeat' first
      | (with_reducible exact ih0 _ _ _ _)
      | (with_reducible exact impl_isWordOf.mono _ _ _)
      | (with_reducible exact impl_locusOf.mono _ _ _)
      | (with_reducible exact LeO.refl _)
      | (with_reducible exact LeO.none _)
      | (with_reducible refine LeO.ite ?_ ?_)
      | (with_reducible refine LeO.bind ?_ (fun _ => ?_))
      | exact ih0 _ _ _ _
      | exact impl_isWordOf.mono _ _ _
      | exact impl_locusOf.mono _ _ _
      | exact LeO.none _
      | refine LeO.ite ?_ ?_
      | refine LeO.bind ?_ (fun _ => ?_)
theorem impl_AreLoci.mono : ∀ a0 k, LeO (impl_AreLoci.f k a0) (impl_AreLoci.f (k + 1) a0) := by
  intro a0 k
  have ih0 := impl_AreLoci.mono_l k
  unfold impl_AreLoci.f
  repeat' first
      | (with_reducible exact ih0 _ _ _ _)
      | (with_reducible exact impl_isWordOf.mono _ _ _)
      | (with_reducible exact impl_locusOf.mono _ _ _)
      | (with_reducible exact LeO.refl _)
      | (with_reducible exact LeO.none _)
      | (with_reducible refine LeO.ite ?_ ?_)
      | (with_reducible refine LeO.bind ?_ (fun _ => ?_))
      | exact ih0 _ _ _ _
      | exact impl_isWordOf.mono _ _ _
      | exact impl_locusOf.mono _ _ _
      | exact LeO.none _
      | refine LeO.ite ?_ ?_
      | refine LeO.bind ?_ (fun _ => ?_)
noncomputable def impl_AreLoci.L0 (x0 : List (S55)) (x5 : List (S55)) (x6 : Int) (x7 : Int) : Option (Bool) := lim fun k => impl_AreLoci.l0 k x0 x5 x6 x7
theorem impl_AreLoci.L0_lim (x0 : List (S55)) (x5 : List (S55)) (x6 : Int) (x7 : Int) : Lim (fun k => impl_AreLoci.l0 k x0 x5 x6 x7) (impl_AreLoci.L0 x0 x5 x6 x7) := ⟨fun k => (impl_AreLoci.mono_l k) x0 x5 x6 x7, rfl⟩
noncomputable def impl_AreLoci.F (l0 : List (S55)) : Option (Bool) := lim fun k => impl_AreLoci.f k l0
theorem impl_AreLoci.F_lim (l0 : List (S55)) : Lim (fun k => impl_AreLoci.f k l0) (impl_AreLoci.F l0) := ⟨impl_AreLoci.mono l0, rfl⟩
theorem impl_AreLoci.L0_eq (x0 : List (S55)) (x5 : List (S55)) (x6 : Int) (x7 : Int) : impl_AreLoci.L0 x0 x5 x6 x7 = (if x7 < x6 then (if 0 ≤ x7 then (if x7 < (x5.length : Int) then ((impl_isWordOf.F ((rd_T55 x5 x7).f0) (⟨#[97, 98, 99, 100, 101, 102, 103, 104, 105, 106, 107, 108, 109, 110, 111, 112, 113, 114, 115, 116, 117, 118, 119, 120, 121, 122]⟩ : ByteArray)).bind fun t234 => (if t234 = true then ((impl_isAngle.f ((rd_T55 x5 x7).f1)).bind fun t235 => (if t235 = true then (if x7 > 0 then (if 0 ≤ (wrap64 (x7 - 1)) then (if (wrap64 (x7 - 1)) < (x0.length : Int) then (if ((rd_T55 x5 x7).f1) ≤ ((rd_T55 x0 (wrap64 (x7 - 1))).f1) then (some false) else (if x7 ≤ (x0.length : Int) then ((impl_locusOf.F (x0.take (x7 : Int).toNat) ((rd_T55 x5 x7).f0)).bind fun t241 => (if t241 ≥ 0 then (some false) else (impl_AreLoci.L0 x0 x5 x6 (wrap64 (x7 + 1))))) else (none))) else (none)) else (none)) else (if x7 ≤ (x0.length : Int) then ((impl_locusOf.F (x0.take (x7 : Int).toNat) ((rd_T55 x5 x7).f0)).bind fun t246 => (if t246 ≥ 0 then (some false) else (impl_AreLoci.L0 x0 x5 x6 (wrap64 (x7 + 1))))) else (none))) else (some false))) else (some false))) else (none)) else (none)) else (some (decide ((x0.length : Int) ≤ 8)))) := by
  refine Lim.succ_eq (impl_AreLoci.L0_lim x0 x5 x6 x7).mon ?_
  simp only [impl_AreLoci.l0]
  repeat' first
  | (with_reducible exact impl_AreLoci.L0_lim _ _ _ _)
  | (with_reducible exact impl_isWordOf.F_lim _ _)
  | (with_reducible exact impl_locusOf.F_lim _ _)
  | (with_reducible refine Lim.ite ?_ ?_)
  | (with_reducible refine Lim.bind ?_ (fun _ => ?_))
  | (with_reducible exact Lim.const _)
theorem impl_AreLoci.F_eq (l0 : List (S55)) : impl_AreLoci.F l0 = (impl_AreLoci.L0 l0 l0 (l0.length : Int) 0) := by
  refine Lim.eq_ ?_
  simp only [impl_AreLoci.f]
  repeat' first
  | (with_reducible exact impl_AreLoci.L0_lim _ _ _ _)
  | (with_reducible exact impl_isWordOf.F_lim _ _)
  | (with_reducible exact impl_locusOf.F_lim _ _)
  | (with_reducible refine Lim.ite ?_ ?_)
  | (with_reducible refine Lim.bind ?_ (fun _ => ?_))
  | (with_reducible exact Lim.const _)
def impl_sortedLoci_1.f (a0_0 : ByteArray) (a0_1 : Int) (a1_0 : ByteArray) (a1_1 : Int) : Option (Int) := some (wrap64 (a0_1 - a1_1))
def slices_SortFunc_Locus_impl_sortedLoci_1.key (x : S55) : Int := x.f1
instance : Inhabited S55 := ⟨z55⟩
instance : Inhabited (Keyed slices_SortFunc_Locus_impl_sortedLoci_1.key) := ⟨⟨z55, by decide⟩⟩
def slices_SortFunc_Locus_impl_sortedLoci_1.f (l0 : List S55) : Option (List S55) := if 0 < l0.length ∧ l0.length ≤ 12 ∧ ∀ x ∈ l0, InKey slices_SortFunc_Locus_impl_sortedLoci_1.key x then some (sortKey slices_SortFunc_Locus_impl_sortedLoci_1.key l0) else none
def impl_sortedLoci.f (k : Nat) (l0 : List (S55)) : Option ((List (S55)) × Bool) := (slices_SortFunc_Locus_impl_sortedLoci_1.f l0).bind fun t249 => ((impl_AreLoci.f k t249).bind fun t250 => (if t250 = true then (some (t249, true)) else (some (([] : List (S55)), false))))
theorem impl_sortedLoci.mono : ∀ a0 k, LeO (impl_sortedLoci.f k a0) (impl_sortedLoci.f (k + 1) a0) := by
  intro a0 k
  unfold impl_sortedLoci.f
  repeat' first
      | (with_reducible exact impl_AreLoci.mono _ _)
      | (with_reducible exact LeO.refl _)
      | (with_reducible exact LeO.none _)
      | (with_reducible refine LeO.ite ?_ ?_)
      | (with_reducible refine LeO.bind ?_ (fun _ => ?_))
      | exact impl_AreLoci.mono _ _
      | exact LeO.none _
      | refine LeO.ite ?_ ?_
      | refine LeO.bind ?_ (fun _ => ?_)
noncomputable def impl_sortedLoci.F (l0 : List (S55)) : Option ((List (S55)) × Bool) := lim fun k => impl_sortedLoci.f k l0
theorem impl_sortedLoci.F_lim (l0 : List (S55)) : Lim (fun k => impl_sortedLoci.f k l0) (impl_sortedLoci.F l0) := ⟨impl_sortedLoci.mono l0, rfl⟩
theorem impl_sortedLoci.F_eq (l0 : List (S55)) : impl_sortedLoci.F l0 = ((slices_SortFunc_Locus_impl_sortedLoci_1.f l0).bind fun t249 => ((impl_AreLoci.F t249).bind fun t250 => (if t250 = true then (some (t249, true)) else (some (([] : List (S55)), false))))) := by
  refine Lim.eq_ ?_
  simp only [impl_sortedLoci.f]
  repeat' first
  | (with_reducible exact impl_AreLoci.F_lim _)
  | (with_reducible refine Lim.ite ?_ ?_)
  | (with_reducible refine Lim.bind ?_ (fun _ => ?_))
  | (with_reducible exact Lim.const _)
def slices_Clone_Locus.f (l0 : List (S55)) : Option ((List (S55))) := (some (([] : List (S55)) : List (S55))).bind fun y251 => (if y251.length + l0.length < 5864062014805 then (some (y251 ++ l0)) else (none))
def impl_without_1.f (a0_0 : ByteArray) (a0_1 : Int) (a1_0 : ByteArray) : Option (Bool) := some (a0_0.toList == a1_0.toList)
def slices_IndexFunc_Locus_impl_without_1.l0 : Nat → List (S55) → Int → Int → ByteArray → Option (Int)
  | 0, _, _, _, _ => none
  | k + 1, x0, x7, x8, x39000 => if x8 < x7 then (if 0 ≤ x8 then (if x8 < (x0.length : Int) then ((impl_without_1.f ((rd_T55 x0 x8).f0) ((rd_T55 x0 x8).f1) x39000).bind fun t259 => (if t259 = true then (some x8) else (slices_IndexFunc_Locus_impl_without_1.l0 k x0 x7 (wrap64 (x8 + 1)) x39000))) else (none)) else (none)) else (some (-1))
def slices_IndexFunc_Locus_impl_without_1.f (k : Nat) (l0 : List (S55)) (a1_0 : ByteArray) : Option (Int) := slices_IndexFunc_Locus_impl_without_1.l0 k l0 (l0.length : Int) 0 a1_0
theorem slices_IndexFunc_Locus_impl_without_1.mono_l : ∀ k, (∀ y0 y1 y2 y3, LeO (slices_IndexFunc_Locus_impl_without_1.l0 k y0 y1 y2 y3) (slices_IndexFunc_Locus_impl_without_1.l0 (k + 1) y0 y1 y2 y3))
  | 0 => fun _ _ _ _ r h => by simp [slices_IndexFunc_Locus_impl_without_1.l0] at h
  | k + 1 => by
    have ih0 := slices_IndexFunc_Locus_impl_without_1.mono_l k
    · intro y0 y1 y2 y3
      unfold slices_IndexFunc_Locus_impl_without_1.l0
      repeat' first
      | (with_reducible exact ih0 _ _ _ _)
      | (with_reducible exact LeO.refl _)
      | (with_reducible exact LeO.none _)
      | (with_reducible refine LeO.ite ?_ ?_)
      | (with_reducible refine LeO.bind ?_ (fun _ => ?_))
      | exact ih0 _ _ _ _
      | exact LeO.none _
      | refine LeO.ite ?_ ?_
      | refine LeO.bind ?_ (fun _ => ?_)
theorem slices_IndexFunc_Locus_impl_without_1.mono : ∀ a0 a1 k, LeO (slices_IndexFunc_Locus_impl_without_1.f k a0 a1) (slices_IndexFunc_Locus_impl_without_1.f (k + 1) a0 a1) := by
  intro a0 a1 k
  have ih0 := slices_IndexFunc_Locus_impl_without_1.mono_l k
  unfold slices_IndexFunc_Locus_impl_without_1.f
  repeat' first
      | (with_reducible exact ih0 _ _ _ _)
      | (with_reducible exact LeO.refl _)
      | (with_reducible exact LeO.none _)
      | (with_reducible refine LeO.ite ?_ ?_)
      | (with_reducible refine LeO.bind ?_ (fun _ => ?_))
      | exact ih0 _ _ _ _
      | exact LeO.none _
      | refine LeO.ite ?_ ?_
      | refine LeO.bind ?_ (fun _ => ?_)
noncomputable def slices_IndexFunc_Locus_impl_without_1.L0 (x0 : List (S55)) (x7 : Int) (x8 : Int) (x39000 : ByteArray) : Option (Int) := lim fun k => slices_IndexFunc_Locus_impl_without_1.l0 k x0 x7 x8 x39000
theorem slices_IndexFunc_Locus_impl_without_1.L0_lim (x0 : List (S55)) (x7 : Int) (x8 : Int) (x39000 : ByteArray) : Lim (fun k => slices_IndexFunc_Locus_impl_without_1.l0 k x0 x7 x8 x39000) (slices_IndexFunc_Locus_impl_without_1.L0 x0 x7 x8 x39000) := ⟨fun k => (slices_IndexFunc_Locus_impl_without_1.mono_l k) x0 x7 x8 x39000, rfl⟩
noncomputable def slices_IndexFunc_Locus_impl_without_1.F (l0 : List (S55)) (a1_0 : ByteArray) : Option (Int) := lim fun k => slices_IndexFunc_Locus_impl_without_1.f k l0 a1_0
theorem slices_IndexFunc_Locus_impl_without_1.F_lim (l0 : List (S55)) (a1_0 : ByteArray) : Lim (fun k => slices_IndexFunc_Locus_impl_without_1.f k l0 a1_0) (slices_IndexFunc_Locus_impl_without_1.F l0 a1_0) := ⟨slices_IndexFunc_Locus_impl_without_1.mono l0 a1_0, rfl⟩
theorem slices_IndexFunc_Locus_impl_without_1.L0_eq (x0 : List (S55)) (x7 : Int) (x8 : Int) (x39000 : ByteArray) : slices_IndexFunc_Locus_impl_without_1.L0 x0 x7 x8 x39000 = (if x8 < x7 then (if 0 ≤ x8 then (if x8 < (x0.length : Int) then ((impl_without_1.f ((rd_T55 x0 x8).f0) ((rd_T55 x0 x8).f1) x39000).bind fun t259 => (if t259 = true then (some x8) else (slices_IndexFunc_Locus_impl_without_1.L0 x0 x7 (wrap64 (x8 + 1)) x39000))) else (none)) else (none)) else (some (-1))) := by
  refine Lim.succ_eq (slices_IndexFunc_Locus_impl_without_1.L0_lim x0 x7 x8 x39000).mon ?_
  simp only [slices_IndexFunc_Locus_impl_without_1.l0]
  repeat' first
  | (with_reducible exact slices_IndexFunc_Locus_impl_without_1.L0_lim _ _ _ _)
  | (with_reducible refine Lim.ite ?_ ?_)
  | (with_reducible refine Lim.bind ?_ (fun _ => ?_))
  | (with_reducible exact Lim.const _)
theorem slices_IndexFunc_Locus_impl_without_1.F_eq (l0 : List (S55)) (a1_0 : ByteArray) : slices_IndexFunc_Locus_impl_without_1.F l0 a1_0 = (slices_IndexFunc_Locus_impl_without_1.L0 l0 (l0.length : Int) 0 a1_0) := by
  refine Lim.eq_ ?_
  simp only [slices_IndexFunc_Locus_impl_without_1.f]
  repeat' first
  | (with_reducible exact slices_IndexFunc_Locus_impl_without_1.L0_lim _ _ _ _)
  | (with_reducible refine Lim.ite ?_ ?_)
  | (with_reducible refine Lim.bind ?_ (fun _ => ?_))
  | (with_reducible exact Lim.const _)
def slices_DeleteFunc_Locus_impl_without_1.l0 : Nat → List (S55) → Int → Int → ByteArray → Option ((List (S55)))
  | 0, _, _, _, _ => none
  | k + 1, x0, x5, x6, x39000 => if x6 < (x0.length : Int) then (if 0 ≤ x6 then ((impl_without_1.f ((rd_T55 x0 x6).f0) ((rd_T55 x0 x6).f1) x39000).bind fun t260 => (if t260 = true then (slices_DeleteFunc_Locus_impl_without_1.l0 k x0 x5 (wrap64 (x6 + 1)) x39000) else (if 0 ≤ x5 then (if x5 < (x0.length : Int) then (slices_DeleteFunc_Locus_impl_without_1.l0 k (x0.set (x5 : Int).toNat (⟨(rd_T55 x0 x6).f0, (rd_T55 x0 x6).f1⟩ : S55)) (wrap64 (x5 + 1)) (wrap64 (x6 + 1)) x39000) else (none)) else (none)))) else (none)) else (if 0 ≤ x5 then (if x5 ≤ (x0.length : Int) then (some ((x0.take (x5 : Int).toNat ++ List.replicate (x0.length - (x5 : Int).toNat) z55).take (x5 : Int).toNat)) else (none)) else (none))
def slices_DeleteFunc_Locus_impl_without_1.f (k : Nat) (l0 : List (S55)) (a1_0 : ByteArray) : Option ((List (S55))) := (slices_IndexFunc_Locus_impl_without_1.f k l0 a1_0).bind fun t257 => (if t257 = (-1) then (some l0) else (slices_DeleteFunc_Locus_impl_without_1.l0 k l0 t257 (wrap64 (t257 + 1)) a1_0))
theorem slices_DeleteFunc_Locus_impl_without_1.mono_l : ∀ k, (∀ y0 y1 y2 y3, LeO (slices_DeleteFunc_Locus_impl_without_1.l0 k y0 y1 y2 y3) (slices_DeleteFunc_Locus_impl_without_1.l0 (k + 1) y0 y1 y2 y3))
  | 0 => fun _ _ _ _ r h => by simp [slices_DeleteFunc_Locus_impl_without_1.l0] at h
  | k + 1 => by
    have ih0 := slices_DeleteFunc_Locus_impl_without_1.mono_l k
    · intro y0 y1 y2 y3
      unfold slices_DeleteFunc_Locus_impl_without_1.l0
      repeat' first
      | (with_reducible exact ih0 _ _ _ _)
      | (with_reducible exact slices_IndexFunc_Locus_impl_without_1.mono _ _ _)
      | (with_reducible exact LeO.refl _)
      | (with_reducible exact LeO.none _)
      | (with_reducible refine LeO.ite ?_ ?_)
      | (with_reducible refine LeO.bind ?_ (fun _ => ?_))
      | exact ih0 _ _ _ _
      | exact slices_IndexFunc_Locus_impl_without_1.mono _ _ _
      | exact LeO.none _
      | refine LeO.ite ?_ ?_
      | refine LeO.bind ?_ (fun _ => ?_)
theorem slices_DeleteFunc_Locus_impl_without_1.mono : ∀ a0 a1 k, LeO (slices_DeleteFunc_Locus_impl_without_1.f k a0 a1) (slices_DeleteFunc_Locus_impl_without_1.f (k + 1) a0 a1) := by
  intro a0 a1 k
  have ih0 := slices_DeleteFunc_Locus_impl_without_1.mono_l k
  unfold slices_DeleteFunc_Locus_impl_without_1.f
  repeat' first
      | (with_reducible exact ih0 _ _ _ _)
      | (with_reducible exact slices_IndexFunc_Locus_impl_without_1.mono _ _ _)
      | (with_reducible exact LeO.refl _)
      | (with_reducible exact LeO.none _)
      | (with_reducible refine LeO.ite ?_ ?_)
      | (with_reducible refine LeO.bind ?_ (fun _ => ?_))
      | exact ih0 _ _ _ _
      | exact slices_IndexFunc_Locus_impl_without_1.mono _ _ _
      | exact LeO.none _
      | refine LeO.ite ?_ ?_
      | refine LeO.bind ?_ (fun _ => ?_)
noncomputable def slices_DeleteFunc_Locus_impl_without_1.L0 (x0 : List (S55)) (x5 : Int) (x6 : Int) (x39000 : ByteArray) : Option ((List (S55))) := lim fun k => slices_DeleteFunc_Locus_impl_without_1.l0 k x0 x5 x6 x39000
theorem slices_DeleteFunc_Locus_impl_without_1.L0_lim (x0 : List (S55)) (x5 : Int) (x6 : Int) (x39000 : ByteArray) : Lim (fun k => slices_DeleteFunc_Locus_impl_without_1.l0 k x0 x5 x6 x39000) (slices_DeleteFunc_Locus_impl_without_1.L0 x0 x5 x6 x39000) := ⟨fun k => (slices_DeleteFunc_Locus_impl_without_1.mono_l k) x0 x5 x6 x39000, rfl⟩
noncomputable def slices_DeleteFunc_Locus_impl_without_1.F (l0 : List (S55)) (a1_0 : ByteArray) : Option ((List (S55))) := lim fun k => slices_DeleteFunc_Locus_impl_without_1.f k l0 a1_0
theorem slices_DeleteFunc_Locus_impl_without_1.F_lim (l0 : List (S55)) (a1_0 : ByteArray) : Lim (fun k => slices_DeleteFunc_Locus_impl_without_1.f k l0 a1_0) (slices_DeleteFunc_Locus_impl_without_1.F l0 a1_0) := ⟨slices_DeleteFunc_Locus_impl_without_1.mono l0 a1_0, rfl⟩
theorem slices_DeleteFunc_Locus_impl_without_1.L0_eq (x0 : List (S55)) (x5 : Int) (x6 : Int) (x39000 : ByteArray) : slices_DeleteFunc_Locus_impl_without_1.L0 x0 x5 x6 x39000 = (if x6 < (x0.length : Int) then (if 0 ≤ x6 then ((impl_without_1.f ((rd_T55 x0 x6).f0) ((rd_T55 x0 x6).f1) x39000).bind fun t260 => (if t260 = true then (slices_DeleteFunc_Locus_impl_without_1.L0 x0 x5 (wrap64 (x6 + 1)) x39000) else (if 0 ≤ x5 then (if x5 < (x0.length : Int) then (slices_DeleteFunc_Locus_impl_without_1.L0 (x0.set (x5 : Int).toNat (⟨(rd_T55 x0 x6).f0, (rd_T55 x0 x6).f1⟩ : S55)) (wrap64 (x5 + 1)) (wrap64 (x6 + 1)) x39000) else (none)) else (none)))) else (none)) else (if 0 ≤ x5 then (if x5 ≤ (x0.length : Int) then (some ((x0.take (x5 : Int).toNat ++ List.replicate (x0.length - (x5 : Int).toNat) z55).take (x5 : Int).toNat)) else (none)) else (none))) := by
  refine Lim.succ_eq (slices_DeleteFunc_Locus_impl_without_1.L0_lim x0 x5 x6 x39000).mon ?_
  simp only [slices_DeleteFunc_Locus_impl_without_1.l0]
  repeat' first
  | (with_reducible exact slices_DeleteFunc_Locus_impl_without_1.L0_lim _ _ _ _)
  | (with_reducible exact slices_IndexFunc_Locus_impl_without_1.F_lim _ _)
  | (with_reducible refine Lim.ite ?_ ?_)
  | (with_reducible refine Lim.bind ?_ (fun _ => ?_))
  | (with_reducible exact Lim.const _)
theorem slices_DeleteFunc_Locus_impl_without_1.F_eq (l0 : List (S55)) (a1_0 : ByteArray) : slices_DeleteFunc_Locus_impl_without_1.F l0 a1_0 = ((slices_IndexFunc_Locus_impl_without_1.F l0 a1_0).bind fun t257 => (if t257 = (-1) then (some l0) else (slices_DeleteFunc_Locus_impl_without_1.L0 l0 t257 (wrap64 (t257 + 1)) a1_0))) := by
  refine Lim.eq_ ?_
  simp only [slices_DeleteFunc_Locus_impl_without_1.f]
  repeat' first
  | (with_reducible exact slices_DeleteFunc_Locus_impl_without_1.L0_lim _ _ _ _)
  | (with_reducible exact slices_IndexFunc_Locus_impl_without_1.F_lim _ _)
  | (with_reducible refine Lim.ite ?_ ?_)
  | (with_reducible refine Lim.bind ?_ (fun _ => ?_))
  | (with_reducible exact Lim.const _)
def impl_without.f (k : Nat) (l0 : List (S55)) (a1 : ByteArray) : Option ((List (S55))) := (slices_Clone_Locus.f l0).bind fun t267 => ((slices_DeleteFunc_Locus_impl_without_1.f k t267 a1).bind fun t270 => (some t270))
theorem impl_without.mono : ∀ a0 a1 k, LeO (impl_without.f k a0 a1) (impl_without.f (k + 1) a0 a1) := by
  intro a0 a1 k
  unfold impl_without.f
  repeat' first
      | (with_reducible exact slices_DeleteFunc_Locus_impl_without_1.mono _ _ _)
      | (with_reducible exact LeO.refl _)
      | (with_reducible exact LeO.none _)
      | (with_reducible refine LeO.ite ?_ ?_)
      | (with_reducible refine LeO.bind ?_ (fun _ => ?_))
      | exact slices_DeleteFunc_Locus_impl_without_1.mono _ _ _
      | exact LeO.none _
      | refine LeO.ite ?_ ?_
      | refine LeO.bind ?_ (fun _ => ?_)
noncomputable def impl_without.F (l0 : List (S55)) (a1 : ByteArray) : Option ((List (S55))) := lim fun k => impl_without.f k l0 a1
theorem impl_without.F_lim (l0 : List (S55)) (a1 : ByteArray) : Lim (fun k => impl_without.f k l0 a1) (impl_without.F l0 a1) := ⟨impl_without.mono l0 a1, rfl⟩
theorem impl_without.F_eq (l0 : List (S55)) (a1 : ByteArray) : impl_without.F l0 a1 = ((slices_Clone_Locus.f l0).bind fun t267 => ((slices_DeleteFunc_Locus_impl_without_1.F t267 a1).bind fun t270 => (some t270))) := by
  refine Lim.eq_ ?_
  simp only [impl_without.f]
  repeat' first
  | (with_reducible exact slices_DeleteFunc_Locus_impl_without_1.F_lim _ _)
  | (with_reducible refine Lim.ite ?_ ?_)
  | (with_reducible refine Lim.bind ?_ (fun _ => ?_))
  | (with_reducible exact Lim.const _)
def impl_shifted.f (a0 : Int) (a1 : Int) : Option (Int) := some (mn (mx (wrap64 (a0 - a1)) (-90)) 90)
mutual
def impl_ShiftRole.j0 : Nat → List (S55) → ByteArray → Int → Bool → Option ((List (S55)) × Bool)
  | 0, _, _, _, _ => none
  | k + 1, x0, x1, x6, x19 => if x19 = true then (some (([] : List (S55)), false)) else ((impl_without.f k x0 x1).bind fun t278 => (impl_ShiftRole.l0 k x0 x6 (([(⟨(⟨#[115, 105, 103, 110, 101, 114]⟩ : ByteArray), 0⟩ : S55)] : List (S55))) t278 (t278.length : Int) 0))
def impl_ShiftRole.l0 : Nat → List (S55) → Int → List (S55) → List (S55) → Int → Int → Option ((List (S55)) × Bool)
  | 0, _, _, _, _, _, _ => none
  | k + 1, x0, x6, x7, x24, x25, x26 => if x26 < x25 then (if 0 ≤ x26 then (if x26 < (x24.length : Int) then (if 0 ≤ x6 then (if x6 < (x0.length : Int) then ((impl_shifted.f ((rd_T55 x24 x26).f1) ((rd_T55 x0 x6).f1)).bind fun t284 => (if x7.length < 5864062014805 then (impl_ShiftRole.l0 k x0 x6 (x7 ++ [(⟨(rd_T55 x24 x26).f0, t284⟩ : S55)]) x24 x25 (wrap64 (x26 + 1))) else (none))) else (none)) else (none)) else (none)) else (none)) else ((impl_sortedLoci.f k x7).bind fun bt288 => (some (bt288.1, bt288.2)))
end
def impl_ShiftRole.f (k : Nat) (l0 : List (S55)) (a1 : ByteArray) : Option ((List (S55)) × Bool) := (impl_locusOf.f k l0 a1).bind fun t273 => ((impl_AreLoci.f k l0).bind fun t274 => (if t274 = true then (impl_ShiftRole.j0 k l0 a1 t273 (decide (t273 < 0))) else (impl_ShiftRole.j0 k l0 a1 t273 true)))
theorem impl_ShiftRole.mono_l : ∀ k, (∀ y0 y1 y2 y3, LeO (impl_ShiftRole.j0 k y0 y1 y2 y3) (impl_ShiftRole.j0 (k + 1) y0 y1 y2 y3)) ∧ (∀ y0 y1 y2 y3 y4 y5, LeO (impl_ShiftRole.l0 k y0 y1 y2 y3 y4 y5) (impl_ShiftRole.l0 (k + 1) y0 y1 y2 y3 y4 y5))
  | 0 => ⟨fun _ _ _ _ r h => by simp [impl_ShiftRole.j0] at h, fun _ _ _ _ _ _ r h => by simp [impl_ShiftRole.l0] at h⟩
  | k + 1 => by
    obtain ⟨ih0, ih1⟩ := impl_ShiftRole.mono_l k
    refine ⟨?_, ?_⟩
    · intro y0 y1 y2 y3
      unfold impl_ShiftRole.j0
      repeat' first
      | (with_reducible exact ih0 _ _ _ _)
      | (with_reducible exact ih1 _ _ _ _ _ _)
      | (with_reducible exact impl_AreLoci.mono _ _)
      | (with_reducible exact impl_locusOf.mono _ _ _)
      | (with_reducible exact impl_sortedLoci.mono _ _)
      | (with_reducible exact impl_without.mono _ _ _)
      | (with_reducible exact LeO.refl _)
      | (with_reducible exact LeO.none _)
      | (with_reducible refine LeO.ite ?_ ?_)
      | (with_reducible refine LeO.bind ?_ (fun _ => ?_))
      | exact ih0 _ _ _ _
      | exact ih1 _ _ _ _ _ _
      | exact impl_AreLoci.mono _ _
      | exact impl_locusOf.mono _ _ _
      | exact impl_sortedLoci.mono _ _
      | exact impl_without.mono _ _ _
      | exact LeO.none _
      | refine LeO.ite ?_ ?_
      | refine LeO.bind ?_ (fun _ => ?_)
    · intro y0 y1 y2 y3 y4 y5
      unfold impl_ShiftRole.l0
      repeat' first
      | (with_reducible exact ih0 _ _ _ _)
      | (with_reducible exact ih1 _ _ _ _ _ _)
      | (with_reducible exact impl_AreLoci.mono _ _)
      | (with_reducible exact impl_locusOf.mono _ _ _)
      | (with_reducible exact impl_sortedLoci.mono _ _)
      | (with_reducible exact impl_without.mono _ _ _)
      | (with_reducible exact LeO.refl _)
      | (with_reducible exact LeO.none _)
      | (with_reducible refine LeO.ite ?_ ?_)
      | (with_reducible refine LeO.bind ?_ (fun _ => ?_))
      | exact ih0 _ _ _ _
      | exact ih1 _ _ _ _ _ _
      | exact impl_AreLoci.mono _ _
      | exact impl_locusOf.mono _ _ _
      | exact impl_sortedLoci.mono _ _
      | exact impl_without.mono _ _ _
      | exact LeO.none _
      | refine LeO.ite ?_ ?_
      | refine LeO.bind ?_ (fun _ => ?_)
theorem impl_ShiftRole.mono : ∀ a0 a1 k, LeO (impl_ShiftRole.f k a0 a1) (impl_ShiftRole.f (k + 1) a0 a1) := by
  intro a0 a1 k
  obtain ⟨ih0, ih1⟩ := impl_ShiftRole.mono_l k
  unfold impl_ShiftRole.f
  repeat' first
      | (with_reducible exact ih0 _ _ _ _)
      | (with_reducible exact ih1 _ _ _ _ _ _)
      | (with_reducible exact impl_AreLoci.mono _ _)
      | (with_reducible exact impl_locusOf.mono _ _ _)
      | (with_reducible exact impl_sortedLoci.mono _ _)
      | (with_reducible exact impl_without.mono _ _ _)
      | (with_reducible exact LeO.refl _)
      | (with_reducible exact LeO.none _)
      | (with_reducible refine LeO.ite ?_ ?_)
      | (with_reducible refine LeO.bind ?_ (fun _ => ?_))
      | exact ih0 _ _ _ _
      | exact ih1 _ _ _ _ _ _
      | exact impl_AreLoci.mono _ _
      | exact impl_locusOf.mono _ _ _
      | exact impl_sortedLoci.mono _ _
      | exact impl_without.mono _ _ _
      | exact LeO.none _
      | refine LeO.ite ?_ ?_
      | refine LeO.bind ?_ (fun _ => ?_)
noncomputable def impl_ShiftRole.J0 (x0 : List (S55)) (x1 : ByteArray) (x6 : Int) (x19 : Bool) : Option ((List (S55)) × Bool) := lim fun k => impl_ShiftRole.j0 k x0 x1 x6 x19
theorem impl_ShiftRole.J0_lim (x0 : List (S55)) (x1 : ByteArray) (x6 : Int) (x19 : Bool) : Lim (fun k => impl_ShiftRole.j0 k x0 x1 x6 x19) (impl_ShiftRole.J0 x0 x1 x6 x19) := ⟨fun k => (impl_ShiftRole.mono_l k).1 x0 x1 x6 x19, rfl⟩
noncomputable def impl_ShiftRole.L0 (x0 : List (S55)) (x6 : Int) (x7 : List (S55)) (x24 : List (S55)) (x25 : Int) (x26 : Int) : Option ((List (S55)) × Bool) := lim fun k => impl_ShiftRole.l0 k x0 x6 x7 x24 x25 x26
theorem impl_ShiftRole.L0_lim (x0 : List (S55)) (x6 : Int) (x7 : List (S55)) (x24 : List (S55)) (x25 : Int) (x26 : Int) : Lim (fun k => impl_ShiftRole.l0 k x0 x6 x7 x24 x25 x26) (impl_ShiftRole.L0 x0 x6 x7 x24 x25 x26) := ⟨fun k => (impl_ShiftRole.mono_l k).2 x0 x6 x7 x24 x25 x26, rfl⟩
noncomputable def impl_ShiftRole.F (l0 : List (S55)) (a1 : ByteArray) : Option ((List (S55)) × Bool) := lim fun k => impl_ShiftRole.f k l0 a1
theorem impl_ShiftRole.F_lim (l0 : List (S55)) (a1 : ByteArray) : Lim (fun k => impl_ShiftRole.f k l0 a1) (impl_ShiftRole.F l0 a1) := ⟨impl_ShiftRole.mono l0 a1, rfl⟩
theorem impl_ShiftRole.J0_eq (x0 : List (S55)) (x1 : ByteArray) (x6 : Int) (x19 : Bool) : impl_ShiftRole.J0 x0 x1 x6 x19 = (if x19 = true then (some (([] : List (S55)), false)) else ((impl_without.F x0 x1).bind fun t278 => (impl_ShiftRole.L0 x0 x6 (([(⟨(⟨#[115, 105, 103, 110, 101, 114]⟩ : ByteArray), 0⟩ : S55)] : List (S55))) t278 (t278.length : Int) 0))) := by
  refine Lim.succ_eq (impl_ShiftRole.J0_lim x0 x1 x6 x19).mon ?_
  simp only [impl_ShiftRole.j0]
  repeat' first
  | (with_reducible exact impl_ShiftRole.J0_lim _ _ _ _)
  | (with_reducible exact impl_ShiftRole.L0_lim _ _ _ _ _ _)
  | (with_reducible exact impl_AreLoci.F_lim _)
  | (with_reducible exact impl_locusOf.F_lim _ _)
  | (with_reducible exact impl_sortedLoci.F_lim _)
  | (with_reducible exact impl_without.F_lim _ _)
  | (with_reducible refine Lim.ite ?_ ?_)
  | (with_reducible refine Lim.bind ?_ (fun _ => ?_))
  | (with_reducible exact Lim.const _)
theorem impl_ShiftRole.L0_eq (x0 : List (S55)) (x6 : Int) (x7 : List (S55)) (x24 : List (S55)) (x25 : Int) (x26 : Int) : impl_ShiftRole.L0 x0 x6 x7 x24 x25 x26 = (if x26 < x25 then (if 0 ≤ x26 then (if x26 < (x24.length : Int) then (if 0 ≤ x6 then (if x6 < (x0.length : Int) then ((impl_shifted.f ((rd_T55 x24 x26).f1) ((rd_T55 x0 x6).f1)).bind fun t284 => (if x7.length < 5864062014805 then (impl_ShiftRole.L0 x0 x6 (x7 ++ [(⟨(rd_T55 x24 x26).f0, t284⟩ : S55)]) x24 x25 (wrap64 (x26 + 1))) else (none))) else (none)) else (none)) else (none)) else (none)) else ((impl_sortedLoci.F x7).bind fun bt288 => (some (bt288.1, bt288.2)))) := by
  refine Lim.succ_eq (impl_ShiftRole.L0_lim x0 x6 x7 x24 x25 x26).mon ?_
  simp only [impl_ShiftRole.l0]
  repeat' first
  | (with_reducible exact impl_ShiftRole.J0_lim _ _ _ _)
  | (with_reducible exact impl_ShiftRole.L0_lim _ _ _ _ _ _)
  | (with_reducible exact impl_AreLoci.F_lim _)
  | (with_reducible exact impl_locusOf.F_lim _ _)
  | (with_reducible exact impl_sortedLoci.F_lim _)
  | (with_reducible exact impl_without.F_lim _ _)
  | (with_reducible refine Lim.ite ?_ ?_)
  | (with_reducible refine Lim.bind ?_ (fun _ => ?_))
  | (with_reducible exact Lim.const _)
theorem impl_ShiftRole.F_eq (l0 : List (S55)) (a1 : ByteArray) : impl_ShiftRole.F l0 a1 = ((impl_locusOf.F l0 a1).bind fun t273 => ((impl_AreLoci.F l0).bind fun t274 => (if t274 = true then (impl_ShiftRole.J0 l0 a1 t273 (decide (t273 < 0))) else (impl_ShiftRole.J0 l0 a1 t273 true)))) := by
  refine Lim.eq_ ?_
  simp only [impl_ShiftRole.f]
  repeat' first
  | (with_reducible exact impl_ShiftRole.J0_lim _ _ _ _)
  | (with_reducible exact impl_ShiftRole.L0_lim _ _ _ _ _ _)
  | (with_reducible exact impl_AreLoci.F_lim _)
  | (with_reducible exact impl_locusOf.F_lim _ _)
  | (with_reducible exact impl_sortedLoci.F_lim _)
  | (with_reducible exact impl_without.F_lim _ _)
  | (with_reducible refine Lim.ite ?_ ?_)
  | (with_reducible refine Lim.bind ?_ (fun _ => ?_))
  | (with_reducible exact Lim.const _)
mutual
def laws_FnExactShiftRole.j0 : Nat → List (S62) → ByteArray → List (S55) → Bool → List (S55) → List (S55) → Bool → Bool → Option (Bool)
  | 0, _, _, _, _, _, _, _, _ => none
  | k + 1, x0, x1, x6, x7, x8, x9, x10, x47 => if x47 = true then (some false) else ((laws_toLocusS.f k x0).bind fun t308 => ((laws_eqLocusS.f k x8 t308).bind fun t311 => (if t311 = true then ((laws_markLocusS.f k x8 1).bind fun bt312 => (if bt312.1 < 0 then (laws_FnExactShiftRole.j1 k x0 x1 x6 x7 x9 true) else ((laws_eqLocusS.f k x9 x6).bind fun t314 => (if t314 = true then (laws_FnExactShiftRole.j1 k x0 x1 x6 x7 x9 (x10 != x7)) else (laws_FnExactShiftRole.j1 k x0 x1 x6 x7 x9 true))))) else (some false))))
def laws_FnExactShiftRole.j1 : Nat → List (S62) → ByteArray → List (S55) → Bool → List (S55) → Bool → Option (Bool)
  | 0, _, _, _, _, _, _ => none
  | k + 1, x0, x1, x6, x7, x9, x68 => if x68 = true then (some false) else ((laws_markLocusS.f k x9 1).bind fun bt315 => ((laws_heldLocusS.f k bt315.2 1).bind fun t317 => (if t317 < 0 then (some false) else (if t317 = bt315.1 then ((laws_toLocusS.f k x0).bind fun t318 => ((impl_ShiftRole.f k t318 x1).bind fun bt321 => ((laws_eqLocusS.f k bt321.1 x6).bind fun t325 => (if t325 = true then (laws_FnExactShiftRole.j2 k bt315.2 bt315.1 (bt321.2 != x7)) else (laws_FnExactShiftRole.j2 k bt315.2 bt315.1 true))))) else (some false)))))
def laws_FnExactShiftRole.j2 : Nat → List (S55) → Int → Bool → Option (Bool)
  | 0, _, _, _ => none
  | k + 1, x9, x12, x95 => if x95 = true then (some false) else ((laws_heldLocusS.f k x9 1).bind fun t326 => (if t326 < 0 then (some false) else (if t326 = x12 then (some true) else (some false))))
end
def laws_FnExactShiftRole.f (k : Nat) (l0 : List (S62)) (a1 : ByteArray) : Option (Bool) := if (a1.size : Int) > 1048576 then (some true) else ((laws_szLocusS.f k l0 1048576).bind fun t292 => (if t292 < 0 then (some true) else ((laws_toLocusS.f k l0).bind fun t293 => ((spec_ShiftRole.f k t293 a1).bind fun bt296 => ((laws_toLocusS.f k l0).bind fun t300 => ((impl_ShiftRole.f k t300 a1).bind fun bt303 => ((laws_eqLocusS.f k bt303.1 bt296.1).bind fun t307 => (if t307 = true then (laws_FnExactShiftRole.j0 k l0 a1 bt296.1 bt296.2 t300 bt303.1 bt303.2 (bt303.2 != bt296.2)) else (laws_FnExactShiftRole.j0 k l0 a1 bt296.1 bt296.2 t300 bt303.1 bt303.2 true)))))))))
theorem laws_FnExactShiftRole.mono_l : ∀ k, (∀ y0 y1 y2 y3 y4 y5 y6 y7, LeO (laws_FnExactShiftRole.j0 k y0 y1 y2 y3 y4 y5 y6 y7) (laws_FnExactShiftRole.j0 (k + 1) y0 y1 y2 y3 y4 y5 y6 y7)) ∧ (∀ y0 y1 y2 y3 y4 y5, LeO (laws_FnExactShiftRole.j1 k y0 y1 y2 y3 y4 y5) (laws_FnExactShiftRole.j1 (k + 1) y0 y1 y2 y3 y4 y5)) ∧ (∀ y0 y1 y2, LeO (laws_FnExactShiftRole.j2 k y0 y1 y2) (laws_FnExactShiftRole.j2 (k + 1) y0 y1 y2))
  | 0 => ⟨fun _ _ _ _ _ _ _ _ r h => by simp [laws_FnExactShiftRole.j0] at h, fun _ _ _ _ _ _ r h => by simp [laws_FnExactShiftRole.j1] at h, fun _ _ _ r h => by simp [laws_FnExactShiftRole.j2] at h⟩
  | k + 1 => by
    obtain ⟨ih0, ih1, ih2⟩ := laws_FnExactShiftRole.mono_l k
    refine ⟨?_, ?_, ?_⟩
    · intro y0 y1 y2 y3 y4 y5 y6 y7
      unfold laws_FnExactShiftRole.j0
      repeat' first
      | (with_reducible exact ih0 _ _ _ _ _ _ _ _)
      | (with_reducible exact ih1 _ _ _ _ _ _)
      | (with_reducible exact ih2 _ _ _)
      | (with_reducible exact impl_ShiftRole.mono _ _ _)
      | (with_reducible exact laws_eqLocusS.mono _ _ _)
      | (with_reducible exact laws_heldLocusS.mono _ _ _)
      | (with_reducible exact laws_markLocusS.mono _ _ _)
      | (with_reducible exact laws_szLocusS.mono _ _ _)
      | (with_reducible exact laws_toLocusS.mono _ _)
      | (with_reducible exact spec_ShiftRole.mono _ _ _)
      | (with_reducible exact LeO.refl _)
      | (with_reducible exact LeO.none _)
      | (with_reducible refine LeO.ite ?_ ?_)
      | (with_reducible refine LeO.bind ?_ (fun _ => ?_))
      | exact ih0 _ _ _ _ _ _ _ _
      | exact ih1 _ _ _ _ _ _
      | exact ih2 _ _ _
      | exact impl_ShiftRole.mono _ _ _
      | exact laws_eqLocusS.mono _ _ _
      | exact laws_heldLocusS.mono _ _ _
      | exact laws_markLocusS.mono _ _ _
      | exact laws_szLocusS.mono _ _ _
      | exact laws_toLocusS.mono _ _
      | exact spec_ShiftRole.mono _ _ _
      | exact LeO.none _
      | refine LeO.ite ?_ ?_
      | refine LeO.bind ?_ (fun _ => ?_)
    · intro y0 y1 y2 y3 y4 y5
      unfold laws_FnExactShiftRole.j1
      repeat' first
      | (with_reducible exact ih0 _ _ _ _ _ _ _ _)
      | (with_reducible exact ih1 _ _ _ _ _ _)
      | (with_reducible exact ih2 _ _ _)
      | (with_reducible exact impl_ShiftRole.mono _ _ _)
      | (with_reducible exact laws_eqLocusS.mono _ _ _)
      | (with_reducible exact laws_heldLocusS.mono _ _ _)
      | (with_reducible exact laws_markLocusS.mono _ _ _)
      | (with_reducible exact laws_szLocusS.mono _ _ _)
      | (with_reducible exact laws_toLocusS.mono _ _)
      | (with_reducible exact spec_ShiftRole.mono _ _ _)
      | (with_reducible exact LeO.refl _)
      | (with_reducible exact LeO.none _)
      | (with_reducible refine LeO.ite ?_ ?_)
      | (with_reducible refine LeO.bind ?_ (fun _ => ?_))
      | exact ih0 _ _ _ _ _ _ _ _
      | exact ih1 _ _ _ _ _ _
      | exact ih2 _ _ _
      | exact impl_ShiftRole.mono _ _ _
      | exact laws_eqLocusS.mono _ _ _
      | exact laws_heldLocusS.mono _ _ _
      | exact laws_markLocusS.mono _ _ _
      | exact laws_szLocusS.mono _ _ _
      | exact laws_toLocusS.mono _ _
      | exact spec_ShiftRole.mono _ _ _
      | exact LeO.none _
      | refine LeO.ite ?_ ?_
      | refine LeO.bind ?_ (fun _ => ?_)
    · intro y0 y1 y2
      unfold laws_FnExactShiftRole.j2
      repeat' first
      | (with_reducible exact ih0 _ _ _ _ _ _ _ _)
      | (with_reducible exact ih1 _ _ _ _ _ _)
      | (with_reducible exact ih2 _ _ _)
      | (with_reducible exact impl_ShiftRole.mono _ _ _)
      | (with_reducible exact laws_eqLocusS.mono _ _ _)
      | (with_reducible exact laws_heldLocusS.mono _ _ _)
      | (with_reducible exact laws_markLocusS.mono _ _ _)
      | (with_reducible exact laws_szLocusS.mono _ _ _)
      | (with_reducible exact laws_toLocusS.mono _ _)
      | (with_reducible exact spec_ShiftRole.mono _ _ _)
      | (with_reducible exact LeO.refl _)
      | (with_reducible exact LeO.none _)
      | (with_reducible refine LeO.ite ?_ ?_)
      | (with_reducible refine LeO.bind ?_ (fun _ => ?_))
      | exact ih0 _ _ _ _ _ _ _ _
      | exact ih1 _ _ _ _ _ _
      | exact ih2 _ _ _
      | exact impl_ShiftRole.mono _ _ _
      | exact laws_eqLocusS.mono _ _ _
      | exact laws_heldLocusS.mono _ _ _
      | exact laws_markLocusS.mono _ _ _
      | exact laws_szLocusS.mono _ _ _
      | exact laws_toLocusS.mono _ _
      | exact spec_ShiftRole.mono _ _ _
      | exact LeO.none _
      | refine LeO.ite ?_ ?_
      | refine LeO.bind ?_ (fun _ => ?_)
theorem laws_FnExactShiftRole.mono : ∀ a0 a1 k, LeO (laws_FnExactShiftRole.f k a0 a1) (laws_FnExactShiftRole.f (k + 1) a0 a1) := by
  intro a0 a1 k
  obtain ⟨ih0, ih1, ih2⟩ := laws_FnExactShiftRole.mono_l k
  unfold laws_FnExactShiftRole.f
  repeat' first
      | (with_reducible exact ih0 _ _ _ _ _ _ _ _)
      | (with_reducible exact ih1 _ _ _ _ _ _)
      | (with_reducible exact ih2 _ _ _)
      | (with_reducible exact impl_ShiftRole.mono _ _ _)
      | (with_reducible exact laws_eqLocusS.mono _ _ _)
      | (with_reducible exact laws_heldLocusS.mono _ _ _)
      | (with_reducible exact laws_markLocusS.mono _ _ _)
      | (with_reducible exact laws_szLocusS.mono _ _ _)
      | (with_reducible exact laws_toLocusS.mono _ _)
      | (with_reducible exact spec_ShiftRole.mono _ _ _)
      | (with_reducible exact LeO.refl _)
      | (with_reducible exact LeO.none _)
      | (with_reducible refine LeO.ite ?_ ?_)
      | (with_reducible refine LeO.bind ?_ (fun _ => ?_))
      | exact ih0 _ _ _ _ _ _ _ _
      | exact ih1 _ _ _ _ _ _
      | exact ih2 _ _ _
      | exact impl_ShiftRole.mono _ _ _
      | exact laws_eqLocusS.mono _ _ _
      | exact laws_heldLocusS.mono _ _ _
      | exact laws_markLocusS.mono _ _ _
      | exact laws_szLocusS.mono _ _ _
      | exact laws_toLocusS.mono _ _
      | exact spec_ShiftRole.mono _ _ _
      | exact LeO.none _
      | refine LeO.ite ?_ ?_
      | refine LeO.bind ?_ (fun _ => ?_)
noncomputable def laws_FnExactShiftRole.J0 (x0 : List (S62)) (x1 : ByteArray) (x6 : List (S55)) (x7 : Bool) (x8 : List (S55)) (x9 : List (S55)) (x10 : Bool) (x47 : Bool) : Option (Bool) := lim fun k => laws_FnExactShiftRole.j0 k x0 x1 x6 x7 x8 x9 x10 x47
theorem laws_FnExactShiftRole.J0_lim (x0 : List (S62)) (x1 : ByteArray) (x6 : List (S55)) (x7 : Bool) (x8 : List (S55)) (x9 : List (S55)) (x10 : Bool) (x47 : Bool) : Lim (fun k => laws_FnExactShiftRole.j0 k x0 x1 x6 x7 x8 x9 x10 x47) (laws_FnExactShiftRole.J0 x0 x1 x6 x7 x8 x9 x10 x47) := ⟨fun k => (laws_FnExactShiftRole.mono_l k).1 x0 x1 x6 x7 x8 x9 x10 x47, rfl⟩
noncomputable def laws_FnExactShiftRole.J1 (x0 : List (S62)) (x1 : ByteArray) (x6 : List (S55)) (x7 : Bool) (x9 : List (S55)) (x68 : Bool) : Option (Bool) := lim fun k => laws_FnExactShiftRole.j1 k x0 x1 x6 x7 x9 x68
theorem laws_FnExactShiftRole.J1_lim (x0 : List (S62)) (x1 : ByteArray) (x6 : List (S55)) (x7 : Bool) (x9 : List (S55)) (x68 : Bool) : Lim (fun k => laws_FnExactShiftRole.j1 k x0 x1 x6 x7 x9 x68) (laws_FnExactShiftRole.J1 x0 x1 x6 x7 x9 x68) := ⟨fun k => (laws_FnExactShiftRole.mono_l k).2.1 x0 x1 x6 x7 x9 x68, rfl⟩
noncomputable def laws_FnExactShiftRole.J2 (x9 : List (S55)) (x12 : Int) (x95 : Bool) : Option (Bool) := lim fun k => laws_FnExactShiftRole.j2 k x9 x12 x95
theorem laws_FnExactShiftRole.J2_lim (x9 : List (S55)) (x12 : Int) (x95 : Bool) : Lim (fun k => laws_FnExactShiftRole.j2 k x9 x12 x95) (laws_FnExactShiftRole.J2 x9 x12 x95) := ⟨fun k => (laws_FnExactShiftRole.mono_l k).2.2 x9 x12 x95, rfl⟩
noncomputable def laws_FnExactShiftRole.F (l0 : List (S62)) (a1 : ByteArray) : Option (Bool) := lim fun k => laws_FnExactShiftRole.f k l0 a1
theorem laws_FnExactShiftRole.F_lim (l0 : List (S62)) (a1 : ByteArray) : Lim (fun k => laws_FnExactShiftRole.f k l0 a1) (laws_FnExactShiftRole.F l0 a1) := ⟨laws_FnExactShiftRole.mono l0 a1, rfl⟩
theorem laws_FnExactShiftRole.J0_eq (x0 : List (S62)) (x1 : ByteArray) (x6 : List (S55)) (x7 : Bool) (x8 : List (S55)) (x9 : List (S55)) (x10 : Bool) (x47 : Bool) : laws_FnExactShiftRole.J0 x0 x1 x6 x7 x8 x9 x10 x47 = (if x47 = true then (some false) else ((laws_toLocusS.F x0).bind fun t308 => ((laws_eqLocusS.F x8 t308).bind fun t311 => (if t311 = true then ((laws_markLocusS.F x8 1).bind fun bt312 => (if bt312.1 < 0 then (laws_FnExactShiftRole.J1 x0 x1 x6 x7 x9 true) else ((laws_eqLocusS.F x9 x6).bind fun t314 => (if t314 = true then (laws_FnExactShiftRole.J1 x0 x1 x6 x7 x9 (x10 != x7)) else (laws_FnExactShiftRole.J1 x0 x1 x6 x7 x9 true))))) else (some false))))) := by
  refine Lim.succ_eq (laws_FnExactShiftRole.J0_lim x0 x1 x6 x7 x8 x9 x10 x47).mon ?_
  simp only [laws_FnExactShiftRole.j0]
  repeat' first
  | (with_reducible exact laws_FnExactShiftRole.J0_lim _ _ _ _ _ _ _ _)
  | (with_reducible exact laws_FnExactShiftRole.J1_lim _ _ _ _ _ _)
  | (with_reducible exact laws_FnExactShiftRole.J2_lim _ _ _)
  | (with_reducible exact impl_ShiftRole.F_lim _ _)
  | (with_reducible exact laws_eqLocusS.F_lim _ _)
  | (with_reducible exact laws_heldLocusS.F_lim _ _)
  | (with_reducible exact laws_markLocusS.F_lim _ _)
  | (with_reducible exact laws_szLocusS.F_lim _ _)
  | (with_reducible exact laws_toLocusS.F_lim _)
  | (with_reducible exact spec_ShiftRole.F_lim _ _)
  | (with_reducible refine Lim.ite ?_ ?_)
  | (with_reducible refine Lim.bind ?_ (fun _ => ?_))
  | (with_reducible exact Lim.const _)
theorem laws_FnExactShiftRole.J1_eq (x0 : List (S62)) (x1 : ByteArray) (x6 : List (S55)) (x7 : Bool) (x9 : List (S55)) (x68 : Bool) : laws_FnExactShiftRole.J1 x0 x1 x6 x7 x9 x68 = (if x68 = true then (some false) else ((laws_markLocusS.F x9 1).bind fun bt315 => ((laws_heldLocusS.F bt315.2 1).bind fun t317 => (if t317 < 0 then (some false) else (if t317 = bt315.1 then ((laws_toLocusS.F x0).bind fun t318 => ((impl_ShiftRole.F t318 x1).bind fun bt321 => ((laws_eqLocusS.F bt321.1 x6).bind fun t325 => (if t325 = true then (laws_FnExactShiftRole.J2 bt315.2 bt315.1 (bt321.2 != x7)) else (laws_FnExactShiftRole.J2 bt315.2 bt315.1 true))))) else (some false)))))) := by
  refine Lim.succ_eq (laws_FnExactShiftRole.J1_lim x0 x1 x6 x7 x9 x68).mon ?_
  simp only [laws_FnExactShiftRole.j1]
  repeat' first
  | (with_reducible exact laws_FnExactShiftRole.J0_lim _ _ _ _ _ _ _ _)
  | (with_reducible exact laws_FnExactShiftRole.J1_lim _ _ _ _ _ _)
  | (with_reducible exact laws_FnExactShiftRole.J2_lim _ _ _)
  | (with_reducible exact impl_ShiftRole.F_lim _ _)
  | (with_reducible exact laws_eqLocusS.F_lim _ _)
  | (with_reducible exact laws_heldLocusS.F_lim _ _)
  | (with_reducible exact laws_markLocusS.F_lim _ _)
  | (with_reducible exact laws_szLocusS.F_lim _ _)
  | (with_reducible exact laws_toLocusS.F_lim _)
  | (with_reducible exact spec_ShiftRole.F_lim _ _)
  | (with_reducible refine Lim.ite ?_ ?_)
  | (with_reducible refine Lim.bind ?_ (fun _ => ?_))
  | (with_reducible exact Lim.const _)
theorem laws_FnExactShiftRole.J2_eq (x9 : List (S55)) (x12 : Int) (x95 : Bool) : laws_FnExactShiftRole.J2 x9 x12 x95 = (if x95 = true then (some false) else ((laws_heldLocusS.F x9 1).bind fun t326 => (if t326 < 0 then (some false) else (if t326 = x12 then (some true) else (some false))))) := by
  refine Lim.succ_eq (laws_FnExactShiftRole.J2_lim x9 x12 x95).mon ?_
  simp only [laws_FnExactShiftRole.j2]
  repeat' first
  | (with_reducible exact laws_FnExactShiftRole.J0_lim _ _ _ _ _ _ _ _)
  | (with_reducible exact laws_FnExactShiftRole.J1_lim _ _ _ _ _ _)
  | (with_reducible exact laws_FnExactShiftRole.J2_lim _ _ _)
  | (with_reducible exact impl_ShiftRole.F_lim _ _)
  | (with_reducible exact laws_eqLocusS.F_lim _ _)
  | (with_reducible exact laws_heldLocusS.F_lim _ _)
  | (with_reducible exact laws_markLocusS.F_lim _ _)
  | (with_reducible exact laws_szLocusS.F_lim _ _)
  | (with_reducible exact laws_toLocusS.F_lim _)
  | (with_reducible exact spec_ShiftRole.F_lim _ _)
  | (with_reducible refine Lim.ite ?_ ?_)
  | (with_reducible refine Lim.bind ?_ (fun _ => ?_))
  | (with_reducible exact Lim.const _)
theorem laws_FnExactShiftRole.F_eq (l0 : List (S62)) (a1 : ByteArray) : laws_FnExactShiftRole.F l0 a1 = (if (a1.size : Int) > 1048576 then (some true) else ((laws_szLocusS.F l0 1048576).bind fun t292 => (if t292 < 0 then (some true) else ((laws_toLocusS.F l0).bind fun t293 => ((spec_ShiftRole.F t293 a1).bind fun bt296 => ((laws_toLocusS.F l0).bind fun t300 => ((impl_ShiftRole.F t300 a1).bind fun bt303 => ((laws_eqLocusS.F bt303.1 bt296.1).bind fun t307 => (if t307 = true then (laws_FnExactShiftRole.J0 l0 a1 bt296.1 bt296.2 t300 bt303.1 bt303.2 (bt303.2 != bt296.2)) else (laws_FnExactShiftRole.J0 l0 a1 bt296.1 bt296.2 t300 bt303.1 bt303.2 true)))))))))) := by
  refine Lim.eq_ ?_
  simp only [laws_FnExactShiftRole.f]
  repeat' first
  | (with_reducible exact laws_FnExactShiftRole.J0_lim _ _ _ _ _ _ _ _)
  | (with_reducible exact laws_FnExactShiftRole.J1_lim _ _ _ _ _ _)
  | (with_reducible exact laws_FnExactShiftRole.J2_lim _ _ _)
  | (with_reducible exact impl_ShiftRole.F_lim _ _)
  | (with_reducible exact laws_eqLocusS.F_lim _ _)
  | (with_reducible exact laws_heldLocusS.F_lim _ _)
  | (with_reducible exact laws_markLocusS.F_lim _ _)
  | (with_reducible exact laws_szLocusS.F_lim _ _)
  | (with_reducible exact laws_toLocusS.F_lim _)
  | (with_reducible exact spec_ShiftRole.F_lim _ _)
  | (with_reducible refine Lim.ite ?_ ?_)
  | (with_reducible refine Lim.bind ?_ (fun _ => ?_))
  | (with_reducible exact Lim.const _)
def Wf62 (x : S62) : Prop := x.f0.size ≤ 9223372036854775807 ∧ (Lit.int .i64 x.f1).wf = true
def laws_FnExactShiftRole.Pure : Prop := ∀ (l0 : List (S62)) (a1 : ByteArray), (l0.length ≤ 9223372036854775807 ∧ ∀ x ∈ l0, Wf62 x) → (a1.size ≤ 9223372036854775807) → ∃ k, laws_FnExactShiftRole.f k l0 a1 = some true
end Go.Proofs.Ytbheajjagkdjmaa.PFnExactShiftRole
