/- Written by a program of this claim's author, out of the loaded program as Lean prints it: the functions as Lean functions, and that the calls answer so. -/
import Derived.Test.YtbheajjagkdjmaaPFnExactDoersOfx0
namespace Go.Proofs.Ytbheajjagkdjmaa.PFnExactDoersOf
open Go.RowKit Go.Proofs.YtbheajjagkdjmaaW.PrintWords Go.Proofs.YtbheajjagkdjmaaW.PrintLast Go.Proofs.YtbheajjagkdjmaaW.PrintMore
attribute [local go_sem] max2_int min2_int max_two min_two max_three min_three max_four min_four   -- for this text's walks alone
set_option linter.unusedVariables false
set_option linter.unusedSimpArgs false

def laws_szLocus.f (a0_0 : ByteArray) (a0_1 : Int) (a1 : Int) : Option (Int) := if (wrap64 (a1 - (a0_0.size : Int))) < 0 then (some (-1)) else (some (wrap64 (a1 - (a0_0.size : Int))))
def laws_szLocusS.l0 : Nat → List (S62) → Int → Int → Option (Int)
  | 0, _, _, _ => none
  | k + 1, x0, x1, x5 => if x5 < (x0.length : Int) then (if 0 ≤ x5 then ((laws_szLocus.f ((rd_T62 x0 x5).f0) ((rd_T62 x0 x5).f1) x1).bind fun t103 => (if t103 < 0 then (some (-1)) else (laws_szLocusS.l0 k x0 t103 (wrap64 (x5 + 1))))) else (none)) else (some x1)
def laws_szLocusS.f (k : Nat) (l0 : List (S62)) (a1 : Int) : Option (Int) := if (wrap64 (a1 - (l0.length : Int))) < 0 then (some (-1)) else (laws_szLocusS.l0 k l0 (wrap64 (a1 - (l0.length : Int))) 0)
theorem laws_szLocusS.mono_l : ∀ k, (∀ y0 y1 y2, LeO (laws_szLocusS.l0 k y0 y1 y2) (laws_szLocusS.l0 (k + 1) y0 y1 y2))
  | 0 => fun _ _ _ r h => by simp [laws_szLocusS.l0] at h
  | k + 1 => by
    have ih0 := laws_szLocusS.mono_l k
    · intro y0 y1 y2
      unfold laws_szLocusS.l0
      repeat' first
      | (with_reducible exact ih0 _ _ _)
      | (with_reducible exact LeO.refl _)
      | (with_reducible exact LeO.none _)
      | (with_reducible refine LeO.ite ?_ ?_)
      | (with_reducible refine LeO.bind ?_ (fun _ => ?_))
      | exact ih0 _ _ _
      | exact LeO.none _
      | refine LeO.ite ?_ ?_
      | refine LeO.bind ?_ (fun _ => ?_)
theorem laws_szLocusS.mono : ∀ a0 a1 k, LeO (laws_szLocusS.f k a0 a1) (laws_szLocusS.f (k + 1) a0 a1) := by
  intro a0 a1 k
  have ih0 := laws_szLocusS.mono_l k
  unfold laws_szLocusS.f
  repeat' first
      | (with_reducible exact ih0 _ _ _)
      | (with_reducible exact LeO.refl _)
      | (with_reducible exact LeO.none _)
      | (with_reducible refine LeO.ite ?_ ?_)
      | (with_reducible refine LeO.bind ?_ (fun _ => ?_))
      | exact ih0 _ _ _
      | exact LeO.none _
      | refine LeO.ite ?_ ?_
      | refine LeO.bind ?_ (fun _ => ?_)
noncomputable def laws_szLocusS.L0 (x0 : List (S62)) (x1 : Int) (x5 : Int) : Option (Int) := lim fun k => laws_szLocusS.l0 k x0 x1 x5
theorem laws_szLocusS.L0_lim (x0 : List (S62)) (x1 : Int) (x5 : Int) : Lim (fun k => laws_szLocusS.l0 k x0 x1 x5) (laws_szLocusS.L0 x0 x1 x5) := ⟨fun k => (laws_szLocusS.mono_l k) x0 x1 x5, rfl⟩
noncomputable def laws_szLocusS.F (l0 : List (S62)) (a1 : Int) : Option (Int) := lim fun k => laws_szLocusS.f k l0 a1
theorem laws_szLocusS.F_lim (l0 : List (S62)) (a1 : Int) : Lim (fun k => laws_szLocusS.f k l0 a1) (laws_szLocusS.F l0 a1) := ⟨laws_szLocusS.mono l0 a1, rfl⟩
theorem laws_szLocusS.L0_eq (x0 : List (S62)) (x1 : Int) (x5 : Int) : laws_szLocusS.L0 x0 x1 x5 = (if x5 < (x0.length : Int) then (if 0 ≤ x5 then ((laws_szLocus.f ((rd_T62 x0 x5).f0) ((rd_T62 x0 x5).f1) x1).bind fun t103 => (if t103 < 0 then (some (-1)) else (laws_szLocusS.L0 x0 t103 (wrap64 (x5 + 1))))) else (none)) else (some x1)) := by
  refine Lim.succ_eq (laws_szLocusS.L0_lim x0 x1 x5).mon ?_
  simp only [laws_szLocusS.l0]
  repeat' first
  | (with_reducible exact laws_szLocusS.L0_lim _ _ _)
  | (with_reducible refine Lim.ite ?_ ?_)
  | (with_reducible refine Lim.bind ?_ (fun _ => ?_))
  | (with_reducible exact Lim.const _)
theorem laws_szLocusS.F_eq (l0 : List (S62)) (a1 : Int) : laws_szLocusS.F l0 a1 = (if (wrap64 (a1 - (l0.length : Int))) < 0 then (some (-1)) else (laws_szLocusS.L0 l0 (wrap64 (a1 - (l0.length : Int))) 0)) := by
  refine Lim.eq_ ?_
  simp only [laws_szLocusS.f]
  repeat' first
  | (with_reducible exact laws_szLocusS.L0_lim _ _ _)
  | (with_reducible refine Lim.ite ?_ ?_)
  | (with_reducible refine Lim.bind ?_ (fun _ => ?_))
  | (with_reducible exact Lim.const _)
def laws_toLocus.f (a0_0 : ByteArray) (a0_1 : Int) : Option (ByteArray × Int) := some (a0_0, a0_1)
def laws_toLocusS.l0 : Nat → List (S62) → List (S55) → Int → Option ((List (S55)))
  | 0, _, _, _ => none
  | k + 1, x0, x3, x4 => if x4 < (x0.length : Int) then (if 0 ≤ x4 then ((laws_toLocus.f ((rd_T62 x0 x4).f0) ((rd_T62 x0 x4).f1)).bind fun bt111 => (if x4 < (x3.length : Int) then (laws_toLocusS.l0 k x0 (x3.set (x4 : Int).toNat (⟨bt111.1, bt111.2⟩ : S55)) (wrap64 (x4 + 1))) else (none))) else (none)) else (some x3)
def laws_toLocusS.f (k : Nat) (l0 : List (S62)) : Option ((List (S55))) := if 0 ≤ (l0.length : Int) then (if ((l0.length : Int) : Int).toNat ≤ 11728124029610 then (laws_toLocusS.l0 k l0 (List.replicate ((l0.length : Int) : Int).toNat z55) 0) else (none)) else (none)
theorem laws_toLocusS.mono_l : ∀ k, (∀ y0 y1 y2, LeO (laws_toLocusS.l0 k y0 y1 y2) (laws_toLocusS.l0 (k + 1) y0 y1 y2))
  | 0 => fun _ _ _ r h => by simp [laws_toLocusS.l0] at h
  | k + 1 => by
    have ih0 := laws_toLocusS.mono_l k
    · intro y0 y1 y2
      unfold laws_toLocusS.l0
      repeat' first
      | (with_reducible exact ih0 _ _ _)
      | (with_reducible exact LeO.refl _)
      | (with_reducible exact LeO.none _)
      | (with_reducible refine LeO.ite ?_ ?_)
      | (with_reducible refine LeO.bind ?_ (fun _ => ?_))
      | exact ih0 _ _ _
      | exact LeO.none _
      | refine LeO.ite ?_ ?_
      | refine LeO.bind ?_ (fun _ => ?_)
theorem laws_toLocusS.mono : ∀ a0 k, LeO (laws_toLocusS.f k a0) (laws_toLocusS.f (k + 1) a0) := by
  intro a0 k
  have ih0 := laws_toLocusS.mono_l k
  unfold laws_toLocusS.f
  repeat' first
      | (with_reducible exact ih0 _ _ _)
      | (with_reducible exact LeO.refl _)
      | (with_reducible exact LeO.none _)
      | (with_reducible refine LeO.ite ?_ ?_)
      | (with_reducible refine LeO.bind ?_ (fun _ => ?_))
      | exact ih0 _ _ _
      | exact LeO.none _
      | refine LeO.ite ?_ ?_
      | refine LeO.bind ?_ (fun _ => ?_)
noncomputable def laws_toLocusS.L0 (x0 : List (S62)) (x3 : List (S55)) (x4 : Int) : Option ((List (S55))) := lim fun k => laws_toLocusS.l0 k x0 x3 x4
theorem laws_toLocusS.L0_lim (x0 : List (S62)) (x3 : List (S55)) (x4 : Int) : Lim (fun k => laws_toLocusS.l0 k x0 x3 x4) (laws_toLocusS.L0 x0 x3 x4) := ⟨fun k => (laws_toLocusS.mono_l k) x0 x3 x4, rfl⟩
noncomputable def laws_toLocusS.F (l0 : List (S62)) : Option ((List (S55))) := lim fun k => laws_toLocusS.f k l0
theorem laws_toLocusS.F_lim (l0 : List (S62)) : Lim (fun k => laws_toLocusS.f k l0) (laws_toLocusS.F l0) := ⟨laws_toLocusS.mono l0, rfl⟩
theorem laws_toLocusS.L0_eq (x0 : List (S62)) (x3 : List (S55)) (x4 : Int) : laws_toLocusS.L0 x0 x3 x4 = (if x4 < (x0.length : Int) then (if 0 ≤ x4 then ((laws_toLocus.f ((rd_T62 x0 x4).f0) ((rd_T62 x0 x4).f1)).bind fun bt111 => (if x4 < (x3.length : Int) then (laws_toLocusS.L0 x0 (x3.set (x4 : Int).toNat (⟨bt111.1, bt111.2⟩ : S55)) (wrap64 (x4 + 1))) else (none))) else (none)) else (some x3)) := by
  refine Lim.succ_eq (laws_toLocusS.L0_lim x0 x3 x4).mon ?_
  simp only [laws_toLocusS.l0]
  repeat' first
  | (with_reducible exact laws_toLocusS.L0_lim _ _ _)
  | (with_reducible refine Lim.ite ?_ ?_)
  | (with_reducible refine Lim.bind ?_ (fun _ => ?_))
  | (with_reducible exact Lim.const _)
theorem laws_toLocusS.F_eq (l0 : List (S62)) : laws_toLocusS.F l0 = (if 0 ≤ (l0.length : Int) then (if ((l0.length : Int) : Int).toNat ≤ 11728124029610 then (laws_toLocusS.L0 l0 (List.replicate ((l0.length : Int) : Int).toNat z55) 0) else (none)) else (none)) := by
  refine Lim.eq_ ?_
  simp only [laws_toLocusS.f]
  repeat' first
  | (with_reducible exact laws_toLocusS.L0_lim _ _ _)
  | (with_reducible refine Lim.ite ?_ ?_)
  | (with_reducible refine Lim.bind ?_ (fun _ => ?_))
  | (with_reducible exact Lim.const _)
def laws_eqLocus.f (a0_0 : ByteArray) (a0_1 : Int) (a1_0 : ByteArray) (a1_1 : Int) : Option (Bool) := if a0_0.toList = a1_0.toList then (if a0_1 = a1_1 then (some true) else (some false)) else (some false)
def laws_eqLocusS.l0 : Nat → List (S55) → List (S55) → Int → Option (Bool)
  | 0, _, _, _ => none
  | k + 1, x0, x1, x5 => if x5 < (x0.length : Int) then (if 0 ≤ x5 then (if x5 < (x1.length : Int) then ((laws_eqLocus.f ((rd_T55 x0 x5).f0) ((rd_T55 x0 x5).f1) ((rd_T55 x1 x5).f0) ((rd_T55 x1 x5).f1)).bind fun t118 => (if t118 = true then (laws_eqLocusS.l0 k x0 x1 (wrap64 (x5 + 1))) else (some false))) else (none)) else (none)) else (some true)
def laws_eqLocusS.f (k : Nat) (l0 : List (S55)) (l1 : List (S55)) : Option (Bool) := if (l0.length : Int) = (l1.length : Int) then (laws_eqLocusS.l0 k l0 l1 0) else (some false)
theorem laws_eqLocusS.mono_l : ∀ k, (∀ y0 y1 y2, LeO (laws_eqLocusS.l0 k y0 y1 y2) (laws_eqLocusS.l0 (k + 1) y0 y1 y2))
  | 0 => fun _ _ _ r h => by simp [laws_eqLocusS.l0] at h
  | k + 1 => by
    have ih0 := laws_eqLocusS.mono_l k
    · intro y0 y1 y2
      unfold laws_eqLocusS.l0
      repeat' first
      | (with_reducible exact ih0 _ _ _)
      | (with_reducible exact LeO.refl _)
      | (with_reducible exact LeO.none _)
      | (with_reducible refine LeO.ite ?_ ?_)
      | (with_reducible refine LeO.bind ?_ (fun _ => ?_))
      | exact ih0 _ _ _
      | exact LeO.none _
      | refine LeO.ite ?_ ?_
      | refine LeO.bind ?_ (fun _ => ?_)
theorem laws_eqLocusS.mono : ∀ a0 a1 k, LeO (laws_eqLocusS.f k a0 a1) (laws_eqLocusS.f (k + 1) a0 a1) := by
  intro a0 a1 k
  have ih0 := laws_eqLocusS.mono_l k
  unfold laws_eqLocusS.f
  repeat' first
      | (with_reducible exact ih0 _ _ _)
      | (with_reducible exact LeO.refl _)
      | (with_reducible exact LeO.none _)
      | (with_reducible refine LeO.ite ?_ ?_)
      | (with_reducible refine LeO.bind ?_ (fun _ => ?_))
      | exact ih0 _ _ _
      | exact LeO.none _
      | refine LeO.ite ?_ ?_
      | refine LeO.bind ?_ (fun _ => ?_)
noncomputable def laws_eqLocusS.L0 (x0 : List (S55)) (x1 : List (S55)) (x5 : Int) : Option (Bool) := lim fun k => laws_eqLocusS.l0 k x0 x1 x5
theorem laws_eqLocusS.L0_lim (x0 : List (S55)) (x1 : List (S55)) (x5 : Int) : Lim (fun k => laws_eqLocusS.l0 k x0 x1 x5) (laws_eqLocusS.L0 x0 x1 x5) := ⟨fun k => (laws_eqLocusS.mono_l k) x0 x1 x5, rfl⟩
noncomputable def laws_eqLocusS.F (l0 : List (S55)) (l1 : List (S55)) : Option (Bool) := lim fun k => laws_eqLocusS.f k l0 l1
theorem laws_eqLocusS.F_lim (l0 : List (S55)) (l1 : List (S55)) : Lim (fun k => laws_eqLocusS.f k l0 l1) (laws_eqLocusS.F l0 l1) := ⟨laws_eqLocusS.mono l0 l1, rfl⟩
theorem laws_eqLocusS.L0_eq (x0 : List (S55)) (x1 : List (S55)) (x5 : Int) : laws_eqLocusS.L0 x0 x1 x5 = (if x5 < (x0.length : Int) then (if 0 ≤ x5 then (if x5 < (x1.length : Int) then ((laws_eqLocus.f ((rd_T55 x0 x5).f0) ((rd_T55 x0 x5).f1) ((rd_T55 x1 x5).f0) ((rd_T55 x1 x5).f1)).bind fun t118 => (if t118 = true then (laws_eqLocusS.L0 x0 x1 (wrap64 (x5 + 1))) else (some false))) else (none)) else (none)) else (some true)) := by
  refine Lim.succ_eq (laws_eqLocusS.L0_lim x0 x1 x5).mon ?_
  simp only [laws_eqLocusS.l0]
  repeat' first
  | (with_reducible exact laws_eqLocusS.L0_lim _ _ _)
  | (with_reducible refine Lim.ite ?_ ?_)
  | (with_reducible refine Lim.bind ?_ (fun _ => ?_))
  | (with_reducible exact Lim.const _)
theorem laws_eqLocusS.F_eq (l0 : List (S55)) (l1 : List (S55)) : laws_eqLocusS.F l0 l1 = (if (l0.length : Int) = (l1.length : Int) then (laws_eqLocusS.L0 l0 l1 0) else (some false)) := by
  refine Lim.eq_ ?_
  simp only [laws_eqLocusS.f]
  repeat' first
  | (with_reducible exact laws_eqLocusS.L0_lim _ _ _)
  | (with_reducible refine Lim.ite ?_ ?_)
  | (with_reducible refine Lim.bind ?_ (fun _ => ?_))
  | (with_reducible exact Lim.const _)
def laws_markText.l0 : Nat → Int → ByteArray → Option (ByteArray)
  | 0, _, _ => none
  | k + 1, x0, x3 => if x0 > 0 then ((some (([(wrap64 (48 + (Int.tmod x0 10))) % 256] : List Int) : List Int)).bind fun y119 => (if (strOfNums y119).size + x3.size ≤ 9223372036854775807 then (laws_markText.l0 k (wrap64 (Int.tdiv x0 10)) ((strOfNums y119) ++ x3)) else (none))) else (if 1 + x3.size ≤ 9223372036854775807 then (some ((⟨#[109]⟩ : ByteArray) ++ x3)) else (none))
def laws_markText.f (k : Nat) (a0 : Int) : Option (ByteArray) := if a0 ≤ 0 then (some (⟨#[109, 48]⟩ : ByteArray)) else (laws_markText.l0 k a0 (⟨#[]⟩ : ByteArray))
theorem laws_markText.mono_l : ∀ k, (∀ y0 y1, LeO (laws_markText.l0 k y0 y1) (laws_markText.l0 (k + 1) y0 y1))
  | 0 => fun _ _ r h => by simp [laws_markText.l0] at h
  | k + 1 => by
    have ih0 := laws_markText.mono_l k
    · intro y0 y1
      unfold laws_markText.l0
      repeat' first
      | (with_reducible exact ih0 _ _)
      | (with_reducible exact LeO.refl _)
      | (with_reducible exact LeO.none _)
      | (with_reducible refine LeO.ite ?_ ?_)
      | (with_reducible refine LeO.bind ?_ (fun _ => ?_))
      | exact ih0 _ _
      | exact LeO.none _
      | refine LeO.ite ?_ ?_
      | refine LeO.bind ?_ (fun _ => ?_)
theorem laws_markText.mono : ∀ a0 k, LeO (laws_markText.f k a0) (laws_markText.f (k + 1) a0) := by
  intro a0 k
  have ih0 := laws_markText.mono_l k
  unfold laws_markText.f
  repeat' first
      | (with_reducible exact ih0 _ _)
      | (with_reducible exact LeO.refl _)
      | (with_reducible exact LeO.none _)
      | (with_reducible refine LeO.ite ?_ ?_)
      | (with_reducible refine LeO.bind ?_ (fun _ => ?_))
      | exact ih0 _ _
      | exact LeO.none _
      | refine LeO.ite ?_ ?_
      | refine LeO.bind ?_ (fun _ => ?_)
noncomputable def laws_markText.L0 (x0 : Int) (x3 : ByteArray) : Option (ByteArray) := lim fun k => laws_markText.l0 k x0 x3
theorem laws_markText.L0_lim (x0 : Int) (x3 : ByteArray) : Lim (fun k => laws_markText.l0 k x0 x3) (laws_markText.L0 x0 x3) := ⟨fun k => (laws_markText.mono_l k) x0 x3, rfl⟩
noncomputable def laws_markText.F (a0 : Int) : Option (ByteArray) := lim fun k => laws_markText.f k a0
theorem laws_markText.F_lim (a0 : Int) : Lim (fun k => laws_markText.f k a0) (laws_markText.F a0) := ⟨laws_markText.mono a0, rfl⟩
theorem laws_markText.L0_eq (x0 : Int) (x3 : ByteArray) : laws_markText.L0 x0 x3 = (if x0 > 0 then ((some (([(wrap64 (48 + (Int.tmod x0 10))) % 256] : List Int) : List Int)).bind fun y119 => (if (strOfNums y119).size + x3.size ≤ 9223372036854775807 then (laws_markText.L0 (wrap64 (Int.tdiv x0 10)) ((strOfNums y119) ++ x3)) else (none))) else (if 1 + x3.size ≤ 9223372036854775807 then (some ((⟨#[109]⟩ : ByteArray) ++ x3)) else (none))) := by
  refine Lim.succ_eq (laws_markText.L0_lim x0 x3).mon ?_
  simp only [laws_markText.l0]
  repeat' first
  | (with_reducible exact laws_markText.L0_lim _ _)
  | (with_reducible refine Lim.ite ?_ ?_)
  | (with_reducible refine Lim.bind ?_ (fun _ => ?_))
  | (with_reducible exact Lim.const _)
theorem laws_markText.F_eq (a0 : Int) : laws_markText.F a0 = (if a0 ≤ 0 then (some (⟨#[109, 48]⟩ : ByteArray)) else (laws_markText.L0 a0 (⟨#[]⟩ : ByteArray))) := by
  refine Lim.eq_ ?_
  simp only [laws_markText.f]
  repeat' first
  | (with_reducible exact laws_markText.L0_lim _ _)
  | (with_reducible refine Lim.ite ?_ ?_)
  | (with_reducible refine Lim.bind ?_ (fun _ => ?_))
  | (with_reducible exact Lim.const _)
def laws_markLocusS.l0 : Nat → List (S55) → Int → Int → Option (Int × (List (S55)))
  | 0, _, _, _ => none
  | k + 1, x0, x1, x5 => if x5 < (x0.length : Int) then ((laws_markText.f k x1).bind fun t122 => (if 0 ≤ x5 then ((some (x0.set (x5 : Int).toNat (⟨t122, (rd_T55 x0 x5).f1⟩ : S55) : List (S55))).bind fun y123 => (laws_markLocusS.l0 k (y123.set (x5 : Int).toNat (⟨(rd_T55 y123 x5).f0, wrap64 (x1 + 1)⟩ : S55)) (wrap64 ((wrap64 (x1 + 1)) + 1)) (wrap64 (x5 + 1)))) else (none))) else (some (x1, x0))
def laws_markLocusS.f (k : Nat) (l0 : List (S55)) (a1 : Int) : Option (Int × (List (S55))) := laws_markLocusS.l0 k l0 a1 0
theorem laws_markLocusS.mono_l : ∀ k, (∀ y0 y1 y2, LeO (laws_markLocusS.l0 k y0 y1 y2) (laws_markLocusS.l0 (k + 1) y0 y1 y2))
  | 0 => fun _ _ _ r h => by simp [laws_markLocusS.l0] at h
  | k + 1 => by
    have ih0 := laws_markLocusS.mono_l k
    · intro y0 y1 y2
      unfold laws_markLocusS.l0
      repeat' first
      | (with_reducible exact ih0 _ _ _)
      | (with_reducible exact laws_markText.mono _ _)
      | (with_reducible exact LeO.refl _)
      | (with_reducible exact LeO.none _)
      | (with_reducible refine LeO.ite ?_ ?_)
      | (with_reducible refine LeO.bind ?_ (fun _ => ?_))
      | exact ih0 _ _ _
      | exact laws_markText.mono _ _
      | exact LeO.none _
      | refine LeO.ite ?_ ?_
      | refine LeO.bind ?_ (fun _ => ?_)
theorem laws_markLocusS.mono : ∀ a0 a1 k, LeO (laws_markLocusS.f k a0 a1) (laws_markLocusS.f (k + 1) a0 a1) := by
  intro a0 a1 k
  have ih0 := laws_markLocusS.mono_l k
  unfold laws_markLocusS.f
  repeat' first
      | (with_reducible exact ih0 _ _ _)
      | (with_reducible exact laws_markText.mono _ _)
      | (with_reducible exact LeO.refl _)
      | (with_reducible exact LeO.none _)
      | (with_reducible refine LeO.ite ?_ ?_)
      | (with_reducible refine LeO.bind ?_ (fun _ => ?_))
      | exact ih0 _ _ _
      | exact laws_markText.mono _ _
      | exact LeO.none _
      | refine LeO.ite ?_ ?_
      | refine LeO.bind ?_ (fun _ => ?_)
noncomputable def laws_markLocusS.L0 (x0 : List (S55)) (x1 : Int) (x5 : Int) : Option (Int × (List (S55))) := lim fun k => laws_markLocusS.l0 k x0 x1 x5
theorem laws_markLocusS.L0_lim (x0 : List (S55)) (x1 : Int) (x5 : Int) : Lim (fun k => laws_markLocusS.l0 k x0 x1 x5) (laws_markLocusS.L0 x0 x1 x5) := ⟨fun k => (laws_markLocusS.mono_l k) x0 x1 x5, rfl⟩
noncomputable def laws_markLocusS.F (l0 : List (S55)) (a1 : Int) : Option (Int × (List (S55))) := lim fun k => laws_markLocusS.f k l0 a1
theorem laws_markLocusS.F_lim (l0 : List (S55)) (a1 : Int) : Lim (fun k => laws_markLocusS.f k l0 a1) (laws_markLocusS.F l0 a1) := ⟨laws_markLocusS.mono l0 a1, rfl⟩
theorem laws_markLocusS.L0_eq (x0 : List (S55)) (x1 : Int) (x5 : Int) : laws_markLocusS.L0 x0 x1 x5 = (if x5 < (x0.length : Int) then ((laws_markText.F x1).bind fun t122 => (if 0 ≤ x5 then ((some (x0.set (x5 : Int).toNat (⟨t122, (rd_T55 x0 x5).f1⟩ : S55) : List (S55))).bind fun y123 => (laws_markLocusS.L0 (y123.set (x5 : Int).toNat (⟨(rd_T55 y123 x5).f0, wrap64 (x1 + 1)⟩ : S55)) (wrap64 ((wrap64 (x1 + 1)) + 1)) (wrap64 (x5 + 1)))) else (none))) else (some (x1, x0))) := by
  refine Lim.succ_eq (laws_markLocusS.L0_lim x0 x1 x5).mon ?_
  simp only [laws_markLocusS.l0]
  repeat' first
  | (with_reducible exact laws_markLocusS.L0_lim _ _ _)
  | (with_reducible exact laws_markText.F_lim _)
  | (with_reducible refine Lim.ite ?_ ?_)
  | (with_reducible refine Lim.bind ?_ (fun _ => ?_))
  | (with_reducible exact Lim.const _)
theorem laws_markLocusS.F_eq (l0 : List (S55)) (a1 : Int) : laws_markLocusS.F l0 a1 = (laws_markLocusS.L0 l0 a1 0) := by
  refine Lim.eq_ ?_
  simp only [laws_markLocusS.f]
  repeat' first
  | (with_reducible exact laws_markLocusS.L0_lim _ _ _)
  | (with_reducible exact laws_markText.F_lim _)
  | (with_reducible refine Lim.ite ?_ ?_)
  | (with_reducible refine Lim.bind ?_ (fun _ => ?_))
  | (with_reducible exact Lim.const _)
def laws_szVerb.f (a0_0 : ByteArray) (a0_1 : Int) (a0_2 : Int) (a1 : Int) : Option (Int) := if (wrap64 (a1 - (a0_0.size : Int))) < 0 then (some (-1)) else (some (wrap64 (a1 - (a0_0.size : Int))))
def laws_szVerbS.l0 : Nat → List (S76) → Int → Int → Option (Int)
  | 0, _, _, _ => none
  | k + 1, x0, x1, x5 => if x5 < (x0.length : Int) then (if 0 ≤ x5 then ((laws_szVerb.f ((rd_T76 x0 x5).f0) ((rd_T76 x0 x5).f1) ((rd_T76 x0 x5).f2) x1).bind fun t127 => (if t127 < 0 then (some (-1)) else (laws_szVerbS.l0 k x0 t127 (wrap64 (x5 + 1))))) else (none)) else (some x1)
def laws_szVerbS.f (k : Nat) (l0 : List (S76)) (a1 : Int) : Option (Int) := if (wrap64 (a1 - (l0.length : Int))) < 0 then (some (-1)) else (laws_szVerbS.l0 k l0 (wrap64 (a1 - (l0.length : Int))) 0)
theorem laws_szVerbS.mono_l : ∀ k, (∀ y0 y1 y2, LeO (laws_szVerbS.l0 k y0 y1 y2) (laws_szVerbS.l0 (k + 1) y0 y1 y2))
  | 0 => fun _ _ _ r h => by simp [laws_szVerbS.l0] at h
  | k + 1 => by
    have ih0 := laws_szVerbS.mono_l k
    · intro y0 y1 y2
      unfold laws_szVerbS.l0
      repeat' first
      | (with_reducible exact ih0 _ _ _)
      | (with_reducible exact LeO.refl _)
      | (with_reducible exact LeO.none _)
      | (with_reducible refine LeO.ite ?_ ?_)
      | (with_reducible refine LeO.bind ?_ (fun _ => ?_))
      | exact ih0 _ _ _
      | exact LeO.none _
      | refine LeO.ite ?_ ?_
      | refine LeO.bind ?_ (fun _ => ?_)
theorem laws_szVerbS.mono : ∀ a0 a1 k, LeO (laws_szVerbS.f k a0 a1) (laws_szVerbS.f (k + 1) a0 a1) := by
  intro a0 a1 k
  have ih0 := laws_szVerbS.mono_l k
  unfold laws_szVerbS.f
  repeat' first
      | (with_reducible exact ih0 _ _ _)
      | (with_reducible exact LeO.refl _)
      | (with_reducible exact LeO.none _)
      | (with_reducible refine LeO.ite ?_ ?_)
      | (with_reducible refine LeO.bind ?_ (fun _ => ?_))
      | exact ih0 _ _ _
      | exact LeO.none _
      | refine LeO.ite ?_ ?_
      | refine LeO.bind ?_ (fun _ => ?_)
noncomputable def laws_szVerbS.L0 (x0 : List (S76)) (x1 : Int) (x5 : Int) : Option (Int) := lim fun k => laws_szVerbS.l0 k x0 x1 x5
theorem laws_szVerbS.L0_lim (x0 : List (S76)) (x1 : Int) (x5 : Int) : Lim (fun k => laws_szVerbS.l0 k x0 x1 x5) (laws_szVerbS.L0 x0 x1 x5) := ⟨fun k => (laws_szVerbS.mono_l k) x0 x1 x5, rfl⟩
noncomputable def laws_szVerbS.F (l0 : List (S76)) (a1 : Int) : Option (Int) := lim fun k => laws_szVerbS.f k l0 a1
theorem laws_szVerbS.F_lim (l0 : List (S76)) (a1 : Int) : Lim (fun k => laws_szVerbS.f k l0 a1) (laws_szVerbS.F l0 a1) := ⟨laws_szVerbS.mono l0 a1, rfl⟩
theorem laws_szVerbS.L0_eq (x0 : List (S76)) (x1 : Int) (x5 : Int) : laws_szVerbS.L0 x0 x1 x5 = (if x5 < (x0.length : Int) then (if 0 ≤ x5 then ((laws_szVerb.f ((rd_T76 x0 x5).f0) ((rd_T76 x0 x5).f1) ((rd_T76 x0 x5).f2) x1).bind fun t127 => (if t127 < 0 then (some (-1)) else (laws_szVerbS.L0 x0 t127 (wrap64 (x5 + 1))))) else (none)) else (some x1)) := by
  refine Lim.succ_eq (laws_szVerbS.L0_lim x0 x1 x5).mon ?_
  simp only [laws_szVerbS.l0]
  repeat' first
  | (with_reducible exact laws_szVerbS.L0_lim _ _ _)
  | (with_reducible refine Lim.ite ?_ ?_)
  | (with_reducible refine Lim.bind ?_ (fun _ => ?_))
  | (with_reducible exact Lim.const _)
theorem laws_szVerbS.F_eq (l0 : List (S76)) (a1 : Int) : laws_szVerbS.F l0 a1 = (if (wrap64 (a1 - (l0.length : Int))) < 0 then (some (-1)) else (laws_szVerbS.L0 l0 (wrap64 (a1 - (l0.length : Int))) 0)) := by
  refine Lim.eq_ ?_
  simp only [laws_szVerbS.f]
  repeat' first
  | (with_reducible exact laws_szVerbS.L0_lim _ _ _)
  | (with_reducible refine Lim.ite ?_ ?_)
  | (with_reducible refine Lim.bind ?_ (fun _ => ?_))
  | (with_reducible exact Lim.const _)
def spec_l1In.f (a0 : Int) (a1 : Int) (a2 : Int) : Option (Bool) := if a0 ≥ a1 then (some (decide (a0 ≤ a2))) else (some false)
def spec_naName.l0 : Nat → ByteArray → Int → Option (Bool)
  | 0, _, _ => none
  | k + 1, x0, x3 => if x3 < (x0.size : Int) then (if 0 ≤ x3 then (if (bt x0 x3) < 97 then (some false) else (if (bt x0 x3) > 122 then (some false) else (spec_naName.l0 k x0 (wrap64 (x3 + 1))))) else (none)) else ((spec_l1In.f (x0.size : Int) 1 8).bind fun t128 => (some t128))
def spec_naName.f (k : Nat) (a0 : ByteArray) : Option (Bool) := spec_naName.l0 k a0 0
theorem spec_naName.mono_l : ∀ k, (∀ y0 y1, LeO (spec_naName.l0 k y0 y1) (spec_naName.l0 (k + 1) y0 y1))
  | 0 => fun _ _ r h => by simp [spec_naName.l0] at h
  | k + 1 => by
    have ih0 := spec_naName.mono_l k
    · intro y0 y1
      unfold spec_naName.l0
      repeat' first
      | (with_reducible exact ih0 _ _)
      | (with_reducible exact LeO.refl _)
      | (with_reducible exact LeO.none _)
      | (with_reducible refine LeO.ite ?_ ?_)
      | (with_reducible refine LeO.bind ?_ (fun _ => ?_))
      | exact ih0 _ _
      | exact LeO.none _
      | refine LeO.ite ?_ ?_
      | refine LeO.bind ?_ (fun _ => ?_)
theorem spec_naName.mono : ∀ a0 k, LeO (spec_naName.f k a0) (spec_naName.f (k + 1) a0) := by
  intro a0 k
  have ih0 := spec_naName.mono_l k
  unfold spec_naName.f
  repeat' first
      | (with_reducible exact ih0 _ _)
      | (with_reducible exact LeO.refl _)
      | (with_reducible exact LeO.none _)
      | (with_reducible refine LeO.ite ?_ ?_)
      | (with_reducible refine LeO.bind ?_ (fun _ => ?_))
      | exact ih0 _ _
      | exact LeO.none _
      | refine LeO.ite ?_ ?_
      | refine LeO.bind ?_ (fun _ => ?_)
noncomputable def spec_naName.L0 (x0 : ByteArray) (x3 : Int) : Option (Bool) := lim fun k => spec_naName.l0 k x0 x3
theorem spec_naName.L0_lim (x0 : ByteArray) (x3 : Int) : Lim (fun k => spec_naName.l0 k x0 x3) (spec_naName.L0 x0 x3) := ⟨fun k => (spec_naName.mono_l k) x0 x3, rfl⟩
noncomputable def spec_naName.F (a0 : ByteArray) : Option (Bool) := lim fun k => spec_naName.f k a0
theorem spec_naName.F_lim (a0 : ByteArray) : Lim (fun k => spec_naName.f k a0) (spec_naName.F a0) := ⟨spec_naName.mono a0, rfl⟩
theorem spec_naName.L0_eq (x0 : ByteArray) (x3 : Int) : spec_naName.L0 x0 x3 = (if x3 < (x0.size : Int) then (if 0 ≤ x3 then (if (bt x0 x3) < 97 then (some false) else (if (bt x0 x3) > 122 then (some false) else (spec_naName.L0 x0 (wrap64 (x3 + 1))))) else (none)) else ((spec_l1In.f (x0.size : Int) 1 8).bind fun t128 => (some t128))) := by
  refine Lim.succ_eq (spec_naName.L0_lim x0 x3).mon ?_
  simp only [spec_naName.l0]
  repeat' first
  | (with_reducible exact spec_naName.L0_lim _ _)
  | (with_reducible refine Lim.ite ?_ ?_)
  | (with_reducible refine Lim.bind ?_ (fun _ => ?_))
  | (with_reducible exact Lim.const _)
theorem spec_naName.F_eq (a0 : ByteArray) : spec_naName.F a0 = (spec_naName.L0 a0 0) := by
  refine Lim.eq_ ?_
  simp only [spec_naName.f]
  repeat' first
  | (with_reducible exact spec_naName.L0_lim _ _)
  | (with_reducible refine Lim.ite ?_ ?_)
  | (with_reducible refine Lim.bind ?_ (fun _ => ?_))
  | (with_reducible exact Lim.const _)
def spec_loAngle.f (a0 : Int) : Option (Bool) := (spec_l1In.f a0 (-90) 90).bind fun t129 => (some t129)
def spec_loFind.l0 : Nat → ByteArray → List (S55) → Int → Int → Option (Int)
  | 0, _, _, _, _ => none
  | k + 1, x1, x7, x8, x9 => if x9 < x8 then (if 0 ≤ x9 then (if x9 < (x7.length : Int) then (if ((rd_T55 x7 x9).f0).toList = x1.toList then (some x9) else (spec_loFind.l0 k x1 x7 x8 (wrap64 (x9 + 1)))) else (none)) else (none)) else (some (-1))
def spec_loFind.f (k : Nat) (l0 : List (S55)) (a1 : ByteArray) : Option (Int) := spec_loFind.l0 k a1 l0 (l0.length : Int) 0
theorem spec_loFind.mono_l : ∀ k, (∀ y0 y1 y2 y3, LeO (spec_loFind.l0 k y0 y1 y2 y3) (spec_loFind.l0 (k + 1) y0 y1 y2 y3))
  | 0 => fun _ _ _ _ r h => by simp [spec_loFind.l0] at h
  | k + 1 => by
    have ih0 := spec_loFind.mono_l k
    · intro y0 y1 y2 y3
      unfold spec_loFind.l0
      repeat' first
      | (with_reducible exact ih0 _ _ _ _)
      | (with_reducible exact LeO.refl _)
      | (with_reducible exact LeO.none _)
      | (with_reducible refine LeO.ite ?_ ?_)
      | (with_reducible refine LeO.bind ?_ (fun _ => ?_))
      | exact ih0 _ _ _ _
      | exact LeO.none _
      | refine LeO.ite ?_ ?_
      | refine LeO.bind ?_ (fun _ => ?_)
theorem spec_loFind.mono : ∀ a0 a1 k, LeO (spec_loFind.f k a0 a1) (spec_loFind.f (k + 1) a0 a1) := by
  intro a0 a1 k
  have ih0 := spec_loFind.mono_l k
  unfold spec_loFind.f
  repeat' first
      | (with_reducible exact ih0 _ _ _ _)
      | (with_reducible exact LeO.refl _)
      | (with_reducible exact LeO.none _)
      | (with_reducible refine LeO.ite ?_ ?_)
      | (with_reducible refine LeO.bind ?_ (fun _ => ?_))
      | exact ih0 _ _ _ _
      | exact LeO.none _
      | refine LeO.ite ?_ ?_
      | refine LeO.bind ?_ (fun _ => ?_)
noncomputable def spec_loFind.L0 (x1 : ByteArray) (x7 : List (S55)) (x8 : Int) (x9 : Int) : Option (Int) := lim fun k => spec_loFind.l0 k x1 x7 x8 x9
theorem spec_loFind.L0_lim (x1 : ByteArray) (x7 : List (S55)) (x8 : Int) (x9 : Int) : Lim (fun k => spec_loFind.l0 k x1 x7 x8 x9) (spec_loFind.L0 x1 x7 x8 x9) := ⟨fun k => (spec_loFind.mono_l k) x1 x7 x8 x9, rfl⟩
noncomputable def spec_loFind.F (l0 : List (S55)) (a1 : ByteArray) : Option (Int) := lim fun k => spec_loFind.f k l0 a1
theorem spec_loFind.F_lim (l0 : List (S55)) (a1 : ByteArray) : Lim (fun k => spec_loFind.f k l0 a1) (spec_loFind.F l0 a1) := ⟨spec_loFind.mono l0 a1, rfl⟩
theorem spec_loFind.L0_eq (x1 : ByteArray) (x7 : List (S55)) (x8 : Int) (x9 : Int) : spec_loFind.L0 x1 x7 x8 x9 = (if x9 < x8 then (if 0 ≤ x9 then (if x9 < (x7.length : Int) then (if ((rd_T55 x7 x9).f0).toList = x1.toList then (some x9) else (spec_loFind.L0 x1 x7 x8 (wrap64 (x9 + 1)))) else (none)) else (none)) else (some (-1))) := by
  refine Lim.succ_eq (spec_loFind.L0_lim x1 x7 x8 x9).mon ?_
  simp only [spec_loFind.l0]
  repeat' first
  | (with_reducible exact spec_loFind.L0_lim _ _ _ _)
  | (with_reducible refine Lim.ite ?_ ?_)
  | (with_reducible refine Lim.bind ?_ (fun _ => ?_))
  | (with_reducible exact Lim.const _)
theorem spec_loFind.F_eq (l0 : List (S55)) (a1 : ByteArray) : spec_loFind.F l0 a1 = (spec_loFind.L0 a1 l0 (l0.length : Int) 0) := by
  refine Lim.eq_ ?_
  simp only [spec_loFind.f]
  repeat' first
  | (with_reducible exact spec_loFind.L0_lim _ _ _ _)
  | (with_reducible refine Lim.ite ?_ ?_)
  | (with_reducible refine Lim.bind ?_ (fun _ => ?_))
  | (with_reducible exact Lim.const _)
mutual
def spec_loGood.l0 : Nat → List (S55) → List (S55) → Int → Int → Option (Bool)
  | 0, _, _, _, _ => none
  | k + 1, x0, x5, x6, x7 => if x7 < x6 then (if 0 ≤ x7 then (if x7 < (x5.length : Int) then ((spec_naName.f k ((rd_T55 x5 x7).f0)).bind fun t134 => (if t134 = true then ((spec_loAngle.f ((rd_T55 x5 x7).f1)).bind fun t135 => (if t135 = true then (if x7 > 0 then (if 0 ≤ (wrap64 (x7 - 1)) then (if (wrap64 (x7 - 1)) < (x0.length : Int) then (if ((rd_T55 x0 (wrap64 (x7 - 1))).f1) ≥ ((rd_T55 x5 x7).f1) then (spec_loGood.j1 k x0 x5 x6 x7 true) else (if x7 ≤ (x0.length : Int) then ((spec_loFind.f k (x0.take (x7 : Int).toNat) ((rd_T55 x5 x7).f0)).bind fun t141 => (spec_loGood.j1 k x0 x5 x6 x7 (decide (t141 ≥ 0)))) else (none))) else (none)) else (none)) else (if x7 ≤ (x0.length : Int) then ((spec_loFind.f k (x0.take (x7 : Int).toNat) ((rd_T55 x5 x7).f0)).bind fun t146 => (spec_loGood.j1 k x0 x5 x6 x7 (decide (t146 ≥ 0)))) else (none))) else (spec_loGood.j1 k x0 x5 x6 x7 true))) else (spec_loGood.j1 k x0 x5 x6 x7 true))) else (none)) else (none)) else (some (decide ((x0.length : Int) ≤ 8)))
def spec_loGood.j1 : Nat → List (S55) → List (S55) → Int → Int → Bool → Option (Bool)
  | 0, _, _, _, _, _ => none
  | k + 1, x0, x5, x6, x7, x45 => if x45 = true then (some false) else (spec_loGood.l0 k x0 x5 x6 (wrap64 (x7 + 1)))
end
def spec_loGood.f (k : Nat) (l0 : List (S55)) : Option (Bool) := spec_loGood.l0 k l0 l0 (l0.length : Int) 0
theorem spec_loGood.mono_l : ∀ k, (∀ y0 y1 y2 y3, LeO (spec_loGood.l0 k y0 y1 y2 y3) (spec_loGood.l0 (k + 1) y0 y1 y2 y3)) ∧ (∀ y0 y1 y2 y3 y4, LeO (spec_loGood.j1 k y0 y1 y2 y3 y4) (spec_loGood.j1 (k + 1) y0 y1 y2 y3 y4))
  | 0 => ⟨fun _ _ _ _ r h => by simp [spec_loGood.l0] at h, fun _ _ _ _ _ r h => by simp [spec_loGood.j1] at h⟩
  | k + 1 => by
    obtain ⟨ih0, ih1⟩ := spec_loGood.mono_l k
    refine ⟨?_, ?_⟩
    · intro y0 y1 y2 y3
      unfold spec_loGood.l0
      repeat' first
      | (with_reducible exact ih0 _ _ _ _)
      | (with_reducible exact ih1 _ _ _ _ _)
      | (with_reducible exact spec_loFind.mono _ _ _)
      | (with_reducible exact spec_naName.mono _ _)
      | (with_reducible exact LeO.refl _)
      | (with_reducible exact LeO.none _)
      | (with_reducible refine LeO.ite ?_ ?_)
      | (with_reducible refine LeO.bind ?_ (fun _ => ?_))
      | exact ih0 _ _ _ _
      | exact ih1 _ _ _ _ _
      | exact spec_loFind.mono _ _ _
      | exact spec_naName.mono _ _
      | exact LeO.none _
      | refine LeO.ite ?_ ?_
      | refine LeO.bind ?_ (fun _ => ?_)
    · intro y0 y1 y2 y3 y4
      unfold spec_loGood.j1
      repeat' first
      | (with_reducible exact ih0 _ _ _ _)
      | (with_reducible exact ih1 _ _ _ _ _)
      | (with_reducible exact spec_loFind.mono _ _ _)
      | (with_reducible exact spec_naName.mono _ _)
      | (with_reducible exact LeO.refl _)
      | (with_reducible exact LeO.none _)
      | (with_reducible refine LeO.ite ?_ ?_)
      | (with_reducible refine LeO.bind ?_ (fun _ => ?_))
      | exact ih0 _ _ _ _
      | exact ih1 _ _ _ _ _
      | exact spec_loFind.mono _ _ _
      | exact spec_naName.mono _ _
      | exact LeO.none _
      | refine LeO.ite ?_ ?_
      | refine LeO.bind ?_ (fun _ => ?_)
theorem spec_loGood.mono : ∀ a0 k, LeO (spec_loGood.f k a0) (spec_loGood.f (k + 1) a0) := by
  intro a0 k
  obtain ⟨ih0, ih1⟩ := spec_loGood.mono_l k
  unfold spec_loGood.f
  repeat' first
      | (with_reducible exact ih0 _ _ _ _)
      | (with_reducible exact ih1 _ _ _ _ _)
      | (with_reducible exact spec_loFind.mono _ _ _)
      | (with_reducible exact spec_naName.mono _ _)
      | (with_reducible exact LeO.refl _)
      | (with_reducible exact LeO.none _)
      | (with_reducible refine LeO.ite ?_ ?_)
      | (with_reducible refine LeO.bind ?_ (fun _ => ?_))
      | exact ih0 _ _ _ _
      | exact ih1 _ _ _ _ _
      | exact spec_loFind.mono _ _ _
      | exact spec_naName.mono _ _
      | exact LeO.none _
      | refine LeO.ite ?_ ?_
      | refine LeO.bind ?_ (fun _ => ?_)
noncomputable def spec_loGood.L0 (x0 : List (S55)) (x5 : List (S55)) (x6 : Int) (x7 : Int) : Option (Bool) := lim fun k => spec_loGood.l0 k x0 x5 x6 x7
theorem spec_loGood.L0_lim (x0 : List (S55)) (x5 : List (S55)) (x6 : Int) (x7 : Int) : Lim (fun k => spec_loGood.l0 k x0 x5 x6 x7) (spec_loGood.L0 x0 x5 x6 x7) := ⟨fun k => (spec_loGood.mono_l k).1 x0 x5 x6 x7, rfl⟩
noncomputable def spec_loGood.J1 (x0 : List (S55)) (x5 : List (S55)) (x6 : Int) (x7 : Int) (x45 : Bool) : Option (Bool) := lim fun k => spec_loGood.j1 k x0 x5 x6 x7 x45
theorem spec_loGood.J1_lim (x0 : List (S55)) (x5 : List (S55)) (x6 : Int) (x7 : Int) (x45 : Bool) : Lim (fun k => spec_loGood.j1 k x0 x5 x6 x7 x45) (spec_loGood.J1 x0 x5 x6 x7 x45) := ⟨fun k => (spec_loGood.mono_l k).2 x0 x5 x6 x7 x45, rfl⟩
noncomputable def spec_loGood.F (l0 : List (S55)) : Option (Bool) := lim fun k => spec_loGood.f k l0
theorem spec_loGood.F_lim (l0 : List (S55)) : Lim (fun k => spec_loGood.f k l0) (spec_loGood.F l0) := ⟨spec_loGood.mono l0, rfl⟩
theorem spec_loGood.L0_eq (x0 : List (S55)) (x5 : List (S55)) (x6 : Int) (x7 : Int) : spec_loGood.L0 x0 x5 x6 x7 = (if x7 < x6 then (if 0 ≤ x7 then (if x7 < (x5.length : Int) then ((spec_naName.F ((rd_T55 x5 x7).f0)).bind fun t134 => (if t134 = true then ((spec_loAngle.f ((rd_T55 x5 x7).f1)).bind fun t135 => (if t135 = true then (if x7 > 0 then (if 0 ≤ (wrap64 (x7 - 1)) then (if (wrap64 (x7 - 1)) < (x0.length : Int) then (if ((rd_T55 x0 (wrap64 (x7 - 1))).f1) ≥ ((rd_T55 x5 x7).f1) then (spec_loGood.J1 x0 x5 x6 x7 true) else (if x7 ≤ (x0.length : Int) then ((spec_loFind.F (x0.take (x7 : Int).toNat) ((rd_T55 x5 x7).f0)).bind fun t141 => (spec_loGood.J1 x0 x5 x6 x7 (decide (t141 ≥ 0)))) else (none))) else (none)) else (none)) else (if x7 ≤ (x0.length : Int) then ((spec_loFind.F (x0.take (x7 : Int).toNat) ((rd_T55 x5 x7).f0)).bind fun t146 => (spec_loGood.J1 x0 x5 x6 x7 (decide (t146 ≥ 0)))) else (none))) else (spec_loGood.J1 x0 x5 x6 x7 true))) else (spec_loGood.J1 x0 x5 x6 x7 true))) else (none)) else (none)) else (some (decide ((x0.length : Int) ≤ 8)))) := by
  refine Lim.succ_eq (spec_loGood.L0_lim x0 x5 x6 x7).mon ?_
  simp only [spec_loGood.l0]
  repeat' first
  | (with_reducible exact spec_loGood.L0_lim _ _ _ _)
  | (with_reducible exact spec_loGood.J1_lim _ _ _ _ _)
  | (with_reducible exact spec_loFind.F_lim _ _)
  | (with_reducible exact spec_naName.F_lim _)
  | (with_reducible refine Lim.ite ?_ ?_)
  | (with_reducible refine Lim.bind ?_ (fun _ => ?_))
  | (with_reducible exact Lim.const _)
theorem spec_loGood.J1_eq (x0 : List (S55)) (x5 : List (S55)) (x6 : Int) (x7 : Int) (x45 : Bool) : spec_loGood.J1 x0 x5 x6 x7 x45 = (if x45 = true then (some false) else (spec_loGood.L0 x0 x5 x6 (wrap64 (x7 + 1)))) := by
  refine Lim.succ_eq (spec_loGood.J1_lim x0 x5 x6 x7 x45).mon ?_
  simp only [spec_loGood.j1]
  repeat' first
  | (with_reducible exact spec_loGood.L0_lim _ _ _ _)
  | (with_reducible exact spec_loGood.J1_lim _ _ _ _ _)
  | (with_reducible exact spec_loFind.F_lim _ _)
  | (with_reducible exact spec_naName.F_lim _)
  | (with_reducible refine Lim.ite ?_ ?_)
  | (with_reducible refine Lim.bind ?_ (fun _ => ?_))
  | (with_reducible exact Lim.const _)
theorem spec_loGood.F_eq (l0 : List (S55)) : spec_loGood.F l0 = (spec_loGood.L0 l0 l0 (l0.length : Int) 0) := by
  refine Lim.eq_ ?_
  simp only [spec_loGood.f]
  repeat' first
  | (with_reducible exact spec_loGood.L0_lim _ _ _ _)
  | (with_reducible exact spec_loGood.J1_lim _ _ _ _ _)
  | (with_reducible exact spec_loFind.F_lim _ _)
  | (with_reducible exact spec_naName.F_lim _)
  | (with_reducible refine Lim.ite ?_ ?_)
  | (with_reducible refine Lim.bind ?_ (fun _ => ?_))
  | (with_reducible exact Lim.const _)
def spec_fsWord.l0 : Nat → ByteArray → Int → Option (Bool)
  | 0, _, _ => none
  | k + 1, x0, x3 => if x3 < (x0.size : Int) then (if 0 ≤ x3 then (if (bt x0 x3) < 65 then (some false) else (if (bt x0 x3) > 90 then (some false) else (spec_fsWord.l0 k x0 (wrap64 (x3 + 1))))) else (none)) else ((spec_l1In.f (x0.size : Int) 1 8).bind fun t147 => (some t147))
def spec_fsWord.f (k : Nat) (a0 : ByteArray) : Option (Bool) := spec_fsWord.l0 k a0 0
theorem spec_fsWord.mono_l : ∀ k, (∀ y0 y1, LeO (spec_fsWord.l0 k y0 y1) (spec_fsWord.l0 (k + 1) y0 y1))
  | 0 => fun _ _ r h => by simp [spec_fsWord.l0] at h
  | k + 1 => by
    have ih0 := spec_fsWord.mono_l k
    · intro y0 y1
      unfold spec_fsWord.l0
      repeat' first
      | (with_reducible exact ih0 _ _)
      | (with_reducible exact LeO.refl _)
      | (with_reducible exact LeO.none _)
      | (with_reducible refine LeO.ite ?_ ?_)
      | (with_reducible refine LeO.bind ?_ (fun _ => ?_))
      | exact ih0 _ _
      | exact LeO.none _
      | refine LeO.ite ?_ ?_
      | refine LeO.bind ?_ (fun _ => ?_)
theorem spec_fsWord.mono : ∀ a0 k, LeO (spec_fsWord.f k a0) (spec_fsWord.f (k + 1) a0) := by
  intro a0 k
  have ih0 := spec_fsWord.mono_l k
  unfold spec_fsWord.f
  repeat' first
      | (with_reducible exact ih0 _ _)
      | (with_reducible exact LeO.refl _)
      | (with_reducible exact LeO.none _)
      | (with_reducible refine LeO.ite ?_ ?_)
      | (with_reducible refine LeO.bind ?_ (fun _ => ?_))
      | exact ih0 _ _
      | exact LeO.none _
      | refine LeO.ite ?_ ?_
      | refine LeO.bind ?_ (fun _ => ?_)
noncomputable def spec_fsWord.L0 (x0 : ByteArray) (x3 : Int) : Option (Bool) := lim fun k => spec_fsWord.l0 k x0 x3
theorem spec_fsWord.L0_lim (x0 : ByteArray) (x3 : Int) : Lim (fun k => spec_fsWord.l0 k x0 x3) (spec_fsWord.L0 x0 x3) := ⟨fun k => (spec_fsWord.mono_l k) x0 x3, rfl⟩
noncomputable def spec_fsWord.F (a0 : ByteArray) : Option (Bool) := lim fun k => spec_fsWord.f k a0
theorem spec_fsWord.F_lim (a0 : ByteArray) : Lim (fun k => spec_fsWord.f k a0) (spec_fsWord.F a0) := ⟨spec_fsWord.mono a0, rfl⟩
theorem spec_fsWord.L0_eq (x0 : ByteArray) (x3 : Int) : spec_fsWord.L0 x0 x3 = (if x3 < (x0.size : Int) then (if 0 ≤ x3 then (if (bt x0 x3) < 65 then (some false) else (if (bt x0 x3) > 90 then (some false) else (spec_fsWord.L0 x0 (wrap64 (x3 + 1))))) else (none)) else ((spec_l1In.f (x0.size : Int) 1 8).bind fun t147 => (some t147))) := by
  refine Lim.succ_eq (spec_fsWord.L0_lim x0 x3).mon ?_
  simp only [spec_fsWord.l0]
  repeat' first
  | (with_reducible exact spec_fsWord.L0_lim _ _)
  | (with_reducible refine Lim.ite ?_ ?_)
  | (with_reducible refine Lim.bind ?_ (fun _ => ?_))
  | (with_reducible exact Lim.const _)
theorem spec_fsWord.F_eq (a0 : ByteArray) : spec_fsWord.F a0 = (spec_fsWord.L0 a0 0) := by
  refine Lim.eq_ ?_
  simp only [spec_fsWord.f]
  repeat' first
  | (with_reducible exact spec_fsWord.L0_lim _ _)
  | (with_reducible refine Lim.ite ?_ ?_)
  | (with_reducible refine Lim.bind ?_ (fun _ => ?_))
  | (with_reducible exact Lim.const _)
def spec_veOne.f (k : Nat) (a0_0 : ByteArray) (a0_1 : Int) (a0_2 : Int) : Option (Bool) := (spec_fsWord.f k a0_0).bind fun t149 => (if t149 = true then ((spec_loAngle.f a0_1).bind fun t150 => (if t150 = true then ((spec_loAngle.f a0_2).bind fun t151 => (if t151 = true then (some (a0_1 != a0_2)) else (some false))) else (some false))) else (some false))
theorem spec_veOne.mono : ∀ a0 a1 a2 k, LeO (spec_veOne.f k a0 a1 a2) (spec_veOne.f (k + 1) a0 a1 a2) := by
  intro a0 a1 a2 k
  unfold spec_veOne.f
  repeat' first
      | (with_reducible exact spec_fsWord.mono _ _)
      | (with_reducible exact LeO.refl _)
      | (with_reducible exact LeO.none _)
      | (with_reducible refine LeO.ite ?_ ?_)
      | (with_reducible refine LeO.bind ?_ (fun _ => ?_))
      | exact spec_fsWord.mono _ _
      | exact LeO.none _
      | refine LeO.ite ?_ ?_
      | refine LeO.bind ?_ (fun _ => ?_)
noncomputable def spec_veOne.F (a0_0 : ByteArray) (a0_1 : Int) (a0_2 : Int) : Option (Bool) := lim fun k => spec_veOne.f k a0_0 a0_1 a0_2
theorem spec_veOne.F_lim (a0_0 : ByteArray) (a0_1 : Int) (a0_2 : Int) : Lim (fun k => spec_veOne.f k a0_0 a0_1 a0_2) (spec_veOne.F a0_0 a0_1 a0_2) := ⟨spec_veOne.mono a0_0 a0_1 a0_2, rfl⟩
theorem spec_veOne.F_eq (a0_0 : ByteArray) (a0_1 : Int) (a0_2 : Int) : spec_veOne.F a0_0 a0_1 a0_2 = ((spec_fsWord.F a0_0).bind fun t149 => (if t149 = true then ((spec_loAngle.f a0_1).bind fun t150 => (if t150 = true then ((spec_loAngle.f a0_2).bind fun t151 => (if t151 = true then (some (a0_1 != a0_2)) else (some false))) else (some false))) else (some false))) := by
  refine Lim.eq_ ?_
  simp only [spec_veOne.f]
  repeat' first
  | (with_reducible exact spec_fsWord.F_lim _)
  | (with_reducible refine Lim.ite ?_ ?_)
  | (with_reducible refine Lim.bind ?_ (fun _ => ?_))
  | (with_reducible exact Lim.const _)
def spec_veGood.l0 : Nat → List (S55) → List (S78) → List (S78) → Int → Int → Option (Bool)
  | 0, _, _, _, _, _ => none
  | k + 1, x0, x1, x7, x8, x9 => if x9 < x8 then (if 0 ≤ x9 then (if x9 < (x7.length : Int) then ((spec_veOne.f k ((rd_T78 x7 x9).f0) ((rd_T78 x7 x9).f1) ((rd_T78 x7 x9).f2)).bind fun t154 => (if t154 = true then (spec_veGood.l0 k x0 x1 x7 x8 (wrap64 (x9 + 1))) else (some false))) else (none)) else (none)) else ((spec_loGood.f k x0).bind fun t155 => (if t155 = true then (some (decide ((x1.length : Int) ≤ 20))) else (some false)))
def spec_veGood.f (k : Nat) (l0 : List (S55)) (l1 : List (S78)) : Option (Bool) := spec_veGood.l0 k l0 l1 l1 (l1.length : Int) 0
theorem spec_veGood.mono_l : ∀ k, (∀ y0 y1 y2 y3 y4, LeO (spec_veGood.l0 k y0 y1 y2 y3 y4) (spec_veGood.l0 (k + 1) y0 y1 y2 y3 y4))
  | 0 => fun _ _ _ _ _ r h => by simp [spec_veGood.l0] at h
  | k + 1 => by
    have ih0 := spec_veGood.mono_l k
    · intro y0 y1 y2 y3 y4
      unfold spec_veGood.l0
      repeat' first
      | (with_reducible exact ih0 _ _ _ _ _)
      | (with_reducible exact spec_loGood.mono _ _)
      | (with_reducible exact spec_veOne.mono _ _ _ _)
      | (with_reducible exact LeO.refl _)
      | (with_reducible exact LeO.none _)
      | (with_reducible refine LeO.ite ?_ ?_)
      | (with_reducible refine LeO.bind ?_ (fun _ => ?_))
      | exact ih0 _ _ _ _ _
      | exact spec_loGood.mono _ _
      | exact spec_veOne.mono _ _ _ _
      | exact LeO.none _
      | refine LeO.ite ?_ ?_
      | refine LeO.bind ?_ (fun _ => ?_)
theorem spec_veGood.mono : ∀ a0 a1 k, LeO (spec_veGood.f k a0 a1) (spec_veGood.f (k + 1) a0 a1) := by
  intro a0 a1 k
  have ih0 := spec_veGood.mono_l k
  unfold spec_veGood.f
  repeat' first
      | (with_reducible exact ih0 _ _ _ _ _)
      | (with_reducible exact spec_loGood.mono _ _)
      | (with_reducible exact spec_veOne.mono _ _ _ _)
      | (with_reducible exact LeO.refl _)
      | (with_reducible exact LeO.none _)
      | (with_reducible refine LeO.ite ?_ ?_)
      | (with_reducible refine LeO.bind ?_ (fun _ => ?_))
      | exact ih0 _ _ _ _ _
      | exact spec_loGood.mono _ _
      | exact spec_veOne.mono _ _ _ _
      | exact LeO.none _
      | refine LeO.ite ?_ ?_
      | refine LeO.bind ?_ (fun _ => ?_)
noncomputable def spec_veGood.L0 (x0 : List (S55)) (x1 : List (S78)) (x7 : List (S78)) (x8 : Int) (x9 : Int) : Option (Bool) := lim fun k => spec_veGood.l0 k x0 x1 x7 x8 x9
theorem spec_veGood.L0_lim (x0 : List (S55)) (x1 : List (S78)) (x7 : List (S78)) (x8 : Int) (x9 : Int) : Lim (fun k => spec_veGood.l0 k x0 x1 x7 x8 x9) (spec_veGood.L0 x0 x1 x7 x8 x9) := ⟨fun k => (spec_veGood.mono_l k) x0 x1 x7 x8 x9, rfl⟩
noncomputable def spec_veGood.F (l0 : List (S55)) (l1 : List (S78)) : Option (Bool) := lim fun k => spec_veGood.f k l0 l1
theorem spec_veGood.F_lim (l0 : List (S55)) (l1 : List (S78)) : Lim (fun k => spec_veGood.f k l0 l1) (spec_veGood.F l0 l1) := ⟨spec_veGood.mono l0 l1, rfl⟩
theorem spec_veGood.L0_eq (x0 : List (S55)) (x1 : List (S78)) (x7 : List (S78)) (x8 : Int) (x9 : Int) : spec_veGood.L0 x0 x1 x7 x8 x9 = (if x9 < x8 then (if 0 ≤ x9 then (if x9 < (x7.length : Int) then ((spec_veOne.F ((rd_T78 x7 x9).f0) ((rd_T78 x7 x9).f1) ((rd_T78 x7 x9).f2)).bind fun t154 => (if t154 = true then (spec_veGood.L0 x0 x1 x7 x8 (wrap64 (x9 + 1))) else (some false))) else (none)) else (none)) else ((spec_loGood.F x0).bind fun t155 => (if t155 = true then (some (decide ((x1.length : Int) ≤ 20))) else (some false)))) := by
  refine Lim.succ_eq (spec_veGood.L0_lim x0 x1 x7 x8 x9).mon ?_
  simp only [spec_veGood.l0]
  repeat' first
  | (with_reducible exact spec_veGood.L0_lim _ _ _ _ _)
  | (with_reducible exact spec_loGood.F_lim _)
  | (with_reducible exact spec_veOne.F_lim _ _ _)
  | (with_reducible refine Lim.ite ?_ ?_)
  | (with_reducible refine Lim.bind ?_ (fun _ => ?_))
  | (with_reducible exact Lim.const _)
theorem spec_veGood.F_eq (l0 : List (S55)) (l1 : List (S78)) : spec_veGood.F l0 l1 = (spec_veGood.L0 l0 l1 l1 (l1.length : Int) 0) := by
  refine Lim.eq_ ?_
  simp only [spec_veGood.f]
  repeat' first
  | (with_reducible exact spec_veGood.L0_lim _ _ _ _ _)
  | (with_reducible exact spec_loGood.F_lim _)
  | (with_reducible exact spec_veOne.F_lim _ _ _)
  | (with_reducible refine Lim.ite ?_ ?_)
  | (with_reducible refine Lim.bind ?_ (fun _ => ?_))
  | (with_reducible exact Lim.const _)
def spec_l1Most.f (a0 : Int) (a1 : Int) : Option (Int) := if a0 > a1 then (some a0) else (some a1)
def spec_l1Abs.f (a0 : Int) : Option (Int) := (spec_l1Most.f a0 (wrap64 (-a0))).bind fun t156 => (some t156)
def spec_loLeast.l0 : Nat → Int → Int → Int → List (S55) → Int → Int → Option (Int × Int)
  | 0, _, _, _, _, _, _ => none
  | k + 1, x1, x6, x7, x11, x12, x13 => if x13 < x12 then (if 0 ≤ x13 then (if x13 < (x11.length : Int) then ((spec_l1Abs.f (wrap64 (((rd_T55 x11 x13).f1) - x1))).bind fun t159 => (if t159 < x6 then (spec_loLeast.l0 k x1 t159 1 x11 x12 (wrap64 (x13 + 1))) else (if t159 = x6 then (spec_loLeast.l0 k x1 x6 (wrap64 (x7 + 1)) x11 x12 (wrap64 (x13 + 1))) else (spec_loLeast.l0 k x1 x6 x7 x11 x12 (wrap64 (x13 + 1)))))) else (none)) else (none)) else (some (x6, x7))
def spec_loLeast.f (k : Nat) (l0 : List (S55)) (a1 : Int) : Option (Int × Int) := spec_loLeast.l0 k a1 181 0 l0 (l0.length : Int) 0
theorem spec_loLeast.mono_l : ∀ k, (∀ y0 y1 y2 y3 y4 y5, LeO (spec_loLeast.l0 k y0 y1 y2 y3 y4 y5) (spec_loLeast.l0 (k + 1) y0 y1 y2 y3 y4 y5))
  | 0 => fun _ _ _ _ _ _ r h => by simp [spec_loLeast.l0] at h
  | k + 1 => by
    have ih0 := spec_loLeast.mono_l k
    · intro y0 y1 y2 y3 y4 y5
      unfold spec_loLeast.l0
      repeat' first
      | (with_reducible exact ih0 _ _ _ _ _ _)
      | (with_reducible exact LeO.refl _)
      | (with_reducible exact LeO.none _)
      | (with_reducible refine LeO.ite ?_ ?_)
      | (with_reducible refine LeO.bind ?_ (fun _ => ?_))
      | exact ih0 _ _ _ _ _ _
      | exact LeO.none _
      | refine LeO.ite ?_ ?_
      | refine LeO.bind ?_ (fun _ => ?_)
theorem spec_loLeast.mono : ∀ a0 a1 k, LeO (spec_loLeast.f k a0 a1) (spec_loLeast.f (k + 1) a0 a1) := by
  intro a0 a1 k
  have ih0 := spec_loLeast.mono_l k
  unfold spec_loLeast.f
  repeat' first
      | (with_reducible exact ih0 _ _ _ _ _ _)
      | (with_reducible exact LeO.refl _)
      | (with_reducible exact LeO.none _)
      | (with_reducible refine LeO.ite ?_ ?_)
      | (with_reducible refine LeO.bind ?_ (fun _ => ?_))
      | exact ih0 _ _ _ _ _ _
      | exact LeO.none _
      | refine LeO.ite ?_ ?_
      | refine LeO.bind ?_ (fun _ => ?_)
noncomputable def spec_loLeast.L0 (x1 : Int) (x6 : Int) (x7 : Int) (x11 : List (S55)) (x12 : Int) (x13 : Int) : Option (Int × Int) := lim fun k => spec_loLeast.l0 k x1 x6 x7 x11 x12 x13
theorem spec_loLeast.L0_lim (x1 : Int) (x6 : Int) (x7 : Int) (x11 : List (S55)) (x12 : Int) (x13 : Int) : Lim (fun k => spec_loLeast.l0 k x1 x6 x7 x11 x12 x13) (spec_loLeast.L0 x1 x6 x7 x11 x12 x13) := ⟨fun k => (spec_loLeast.mono_l k) x1 x6 x7 x11 x12 x13, rfl⟩
noncomputable def spec_loLeast.F (l0 : List (S55)) (a1 : Int) : Option (Int × Int) := lim fun k => spec_loLeast.f k l0 a1
theorem spec_loLeast.F_lim (l0 : List (S55)) (a1 : Int) : Lim (fun k => spec_loLeast.f k l0 a1) (spec_loLeast.F l0 a1) := ⟨spec_loLeast.mono l0 a1, rfl⟩
theorem spec_loLeast.L0_eq (x1 : Int) (x6 : Int) (x7 : Int) (x11 : List (S55)) (x12 : Int) (x13 : Int) : spec_loLeast.L0 x1 x6 x7 x11 x12 x13 = (if x13 < x12 then (if 0 ≤ x13 then (if x13 < (x11.length : Int) then ((spec_l1Abs.f (wrap64 (((rd_T55 x11 x13).f1) - x1))).bind fun t159 => (if t159 < x6 then (spec_loLeast.L0 x1 t159 1 x11 x12 (wrap64 (x13 + 1))) else (if t159 = x6 then (spec_loLeast.L0 x1 x6 (wrap64 (x7 + 1)) x11 x12 (wrap64 (x13 + 1))) else (spec_loLeast.L0 x1 x6 x7 x11 x12 (wrap64 (x13 + 1)))))) else (none)) else (none)) else (some (x6, x7))) := by
  refine Lim.succ_eq (spec_loLeast.L0_lim x1 x6 x7 x11 x12 x13).mon ?_
  simp only [spec_loLeast.l0]
  repeat' first
  | (with_reducible exact spec_loLeast.L0_lim _ _ _ _ _ _)
  | (with_reducible refine Lim.ite ?_ ?_)
  | (with_reducible refine Lim.bind ?_ (fun _ => ?_))
  | (with_reducible exact Lim.const _)
theorem spec_loLeast.F_eq (l0 : List (S55)) (a1 : Int) : spec_loLeast.F l0 a1 = (spec_loLeast.L0 a1 181 0 l0 (l0.length : Int) 0) := by
  refine Lim.eq_ ?_
  simp only [spec_loLeast.f]
  repeat' first
  | (with_reducible exact spec_loLeast.L0_lim _ _ _ _ _ _)
  | (with_reducible refine Lim.ite ?_ ?_)
  | (with_reducible refine Lim.bind ?_ (fun _ => ?_))
  | (with_reducible exact Lim.const _)
mutual
def spec_loMeans.j0 : Nat → List (S55) → Int → Int → Bool → Option (ByteArray × Bool)
  | 0, _, _, _, _ => none
  | k + 1, x0, x1, x6, x21 => if x21 = true then (some ((⟨#[]⟩ : ByteArray), false)) else (spec_loMeans.l0 k x1 x6 x0 (x0.length : Int) 0)
def spec_loMeans.l0 : Nat → Int → Int → List (S55) → Int → Int → Option (ByteArray × Bool)
  | 0, _, _, _, _, _ => none
  | k + 1, x1, x6, x22, x23, x24 => if x24 < x23 then (if 0 ≤ x24 then (if x24 < (x22.length : Int) then ((spec_l1Abs.f (wrap64 (((rd_T55 x22 x24).f1) - x1))).bind fun t164 => (if t164 = x6 then (some ((rd_T55 x22 x24).f0, true)) else (spec_loMeans.l0 k x1 x6 x22 x23 (wrap64 (x24 + 1))))) else (none)) else (none)) else (some ((⟨#[]⟩ : ByteArray), false))
end
def spec_loMeans.f (k : Nat) (l0 : List (S55)) (a1 : Int) : Option (ByteArray × Bool) := (spec_loLeast.f k l0 a1).bind fun bt160 => (if bt160.1 > 20 then (spec_loMeans.j0 k l0 a1 bt160.1 true) else (spec_loMeans.j0 k l0 a1 bt160.1 (bt160.2 != 1)))
theorem spec_loMeans.mono_l : ∀ k, (∀ y0 y1 y2 y3, LeO (spec_loMeans.j0 k y0 y1 y2 y3) (spec_loMeans.j0 (k + 1) y0 y1 y2 y3)) ∧ (∀ y0 y1 y2 y3 y4, LeO (spec_loMeans.l0 k y0 y1 y2 y3 y4) (spec_loMeans.l0 (k + 1) y0 y1 y2 y3 y4))
  | 0 => ⟨fun _ _ _ _ r h => by simp [spec_loMeans.j0] at h, fun _ _ _ _ _ r h => by simp [spec_loMeans.l0] at h⟩
  | k + 1 => by
    obtain ⟨ih0, ih1⟩ := spec_loMeans.mono_l k
    refine ⟨?_, ?_⟩
    · intro y0 y1 y2 y3
      unfold spec_loMeans.j0
      repeat' first
      | (with_reducible exact ih0 _ _ _ _)
      | (with_reducible exact ih1 _ _ _ _ _)
      | (with_reducible exact spec_loLeast.mono _ _ _)
      | (with_reducible exact LeO.refl _)
      | (with_reducible exact LeO.none _)
      | (with_reducible refine LeO.ite ?_ ?_)
      | (with_reducible refine LeO.bind ?_ (fun _ => ?_))
      | exact ih0 _ _ _ _
      | exact ih1 _ _ _ _ _
      | exact spec_loLeast.mono _ _ _
      | exact LeO.none _
      | refine LeO.ite ?_ ?_
      | refine LeO.bind ?_ (fun _ => ?_)
    · intro y0 y1 y2 y3 y4
      unfold spec_loMeans.l0
      repeat' first
      | (with_reducible exact ih0 _ _ _ _)
      | (with_reducible exact ih1 _ _ _ _ _)
      | (with_reducible exact spec_loLeast.mono _ _ _)
      | (with_reducible exact LeO.refl _)
      | (with_reducible exact LeO.none _)
      | (with_reducible refine LeO.ite ?_ ?_)
      | (with_reducible refine LeO.bind ?_ (fun _ => ?_))
      | exact ih0 _ _ _ _
      | exact ih1 _ _ _ _ _
      | exact spec_loLeast.mono _ _ _
      | exact LeO.none _
      | refine LeO.ite ?_ ?_
      | refine LeO.bind ?_ (fun _ => ?_)
theorem spec_loMeans.mono : ∀ a0 a1 k, LeO (spec_loMeans.f k a0 a1) (spec_loMeans.f (k + 1) a0 a1) := by
  intro a0 a1 k
  obtain ⟨ih0, ih1⟩ := spec_loMeans.mono_l k
  unfold spec_loMeans.f
  repeat' first
      | (with_reducible exact ih0 _ _ _ _)
      | (with_reducible exact ih1 _ _ _ _ _)
      | (with_reducible exact spec_loLeast.mono _ _ _)
      | (with_reducible exact LeO.refl _)
      | (with_reducible exact LeO.none _)
      | (with_reducible refine LeO.ite ?_ ?_)
      | (with_reducible refine LeO.bind ?_ (fun _ => ?_))
      | exact ih0 _ _ _ _
      | exact ih1 _ _ _ _ _
      | exact spec_loLeast.mono _ _ _
      | exact LeO.none _
      | refine LeO.ite ?_ ?_
      | refine LeO.bind ?_ (fun _ => ?_)
noncomputable def spec_loMeans.J0 (x0 : List (S55)) (x1 : Int) (x6 : Int) (x21 : Bool) : Option (ByteArray × Bool) := lim fun k => spec_loMeans.j0 k x0 x1 x6 x21
theorem spec_loMeans.J0_lim (x0 : List (S55)) (x1 : Int) (x6 : Int) (x21 : Bool) : Lim (fun k => spec_loMeans.j0 k x0 x1 x6 x21) (spec_loMeans.J0 x0 x1 x6 x21) := ⟨fun k => (spec_loMeans.mono_l k).1 x0 x1 x6 x21, rfl⟩
noncomputable def spec_loMeans.L0 (x1 : Int) (x6 : Int) (x22 : List (S55)) (x23 : Int) (x24 : Int) : Option (ByteArray × Bool) := lim fun k => spec_loMeans.l0 k x1 x6 x22 x23 x24
theorem spec_loMeans.L0_lim (x1 : Int) (x6 : Int) (x22 : List (S55)) (x23 : Int) (x24 : Int) : Lim (fun k => spec_loMeans.l0 k x1 x6 x22 x23 x24) (spec_loMeans.L0 x1 x6 x22 x23 x24) := ⟨fun k => (spec_loMeans.mono_l k).2 x1 x6 x22 x23 x24, rfl⟩
noncomputable def spec_loMeans.F (l0 : List (S55)) (a1 : Int) : Option (ByteArray × Bool) := lim fun k => spec_loMeans.f k l0 a1
theorem spec_loMeans.F_lim (l0 : List (S55)) (a1 : Int) : Lim (fun k => spec_loMeans.f k l0 a1) (spec_loMeans.F l0 a1) := ⟨spec_loMeans.mono l0 a1, rfl⟩
theorem spec_loMeans.J0_eq (x0 : List (S55)) (x1 : Int) (x6 : Int) (x21 : Bool) : spec_loMeans.J0 x0 x1 x6 x21 = (if x21 = true then (some ((⟨#[]⟩ : ByteArray), false)) else (spec_loMeans.L0 x1 x6 x0 (x0.length : Int) 0)) := by
  refine Lim.succ_eq (spec_loMeans.J0_lim x0 x1 x6 x21).mon ?_
  simp only [spec_loMeans.j0]
  repeat' first
  | (with_reducible exact spec_loMeans.J0_lim _ _ _ _)
  | (with_reducible exact spec_loMeans.L0_lim _ _ _ _ _)
  | (with_reducible exact spec_loLeast.F_lim _ _)
  | (with_reducible refine Lim.ite ?_ ?_)
  | (with_reducible refine Lim.bind ?_ (fun _ => ?_))
  | (with_reducible exact Lim.const _)
theorem spec_loMeans.L0_eq (x1 : Int) (x6 : Int) (x22 : List (S55)) (x23 : Int) (x24 : Int) : spec_loMeans.L0 x1 x6 x22 x23 x24 = (if x24 < x23 then (if 0 ≤ x24 then (if x24 < (x22.length : Int) then ((spec_l1Abs.f (wrap64 (((rd_T55 x22 x24).f1) - x1))).bind fun t164 => (if t164 = x6 then (some ((rd_T55 x22 x24).f0, true)) else (spec_loMeans.L0 x1 x6 x22 x23 (wrap64 (x24 + 1))))) else (none)) else (none)) else (some ((⟨#[]⟩ : ByteArray), false))) := by
  refine Lim.succ_eq (spec_loMeans.L0_lim x1 x6 x22 x23 x24).mon ?_
  simp only [spec_loMeans.l0]
  repeat' first
  | (with_reducible exact spec_loMeans.J0_lim _ _ _ _)
  | (with_reducible exact spec_loMeans.L0_lim _ _ _ _ _)
  | (with_reducible exact spec_loLeast.F_lim _ _)
  | (with_reducible refine Lim.ite ?_ ?_)
  | (with_reducible refine Lim.bind ?_ (fun _ => ?_))
  | (with_reducible exact Lim.const _)
theorem spec_loMeans.F_eq (l0 : List (S55)) (a1 : Int) : spec_loMeans.F l0 a1 = ((spec_loLeast.F l0 a1).bind fun bt160 => (if bt160.1 > 20 then (spec_loMeans.J0 l0 a1 bt160.1 true) else (spec_loMeans.J0 l0 a1 bt160.1 (bt160.2 != 1)))) := by
  refine Lim.eq_ ?_
  simp only [spec_loMeans.f]
  repeat' first
  | (with_reducible exact spec_loMeans.J0_lim _ _ _ _)
  | (with_reducible exact spec_loMeans.L0_lim _ _ _ _ _)
  | (with_reducible exact spec_loLeast.F_lim _ _)
  | (with_reducible refine Lim.ite ?_ ?_)
  | (with_reducible refine Lim.bind ?_ (fun _ => ?_))
  | (with_reducible exact Lim.const _)
def spec_veMeans.f (k : Nat) (l0 : List (S55)) (a1_0 : ByteArray) (a1_1 : Int) (a1_2 : Int) : Option (ByteArray × ByteArray × Bool) := (spec_loMeans.f k l0 a1_1).bind fun bt166 => ((spec_loMeans.f k l0 a1_2).bind fun bt168 => (if bt166.2 = true then (if bt168.2 = true then (if bt166.1.toList = bt168.1.toList then (some ((⟨#[]⟩ : ByteArray), (⟨#[]⟩ : ByteArray), false)) else (some (bt166.1, bt168.1, true))) else (some ((⟨#[]⟩ : ByteArray), (⟨#[]⟩ : ByteArray), false))) else (some ((⟨#[]⟩ : ByteArray), (⟨#[]⟩ : ByteArray), false))))
theorem spec_veMeans.mono : ∀ a0 a1 a2 a3 k, LeO (spec_veMeans.f k a0 a1 a2 a3) (spec_veMeans.f (k + 1) a0 a1 a2 a3) := by
  intro a0 a1 a2 a3 k
  unfold spec_veMeans.f
  repeat' first
      | (with_reducible exact spec_loMeans.mono _ _ _)
      | (with_reducible exact LeO.refl _)
      | (with_reducible exact LeO.none _)
      | (with_reducible refine LeO.ite ?_ ?_)
      | (with_reducible refine LeO.bind ?_ (fun _ => ?_))
      | exact spec_loMeans.mono _ _ _
      | exact LeO.none _
      | refine LeO.ite ?_ ?_
      | refine LeO.bind ?_ (fun _ => ?_)
noncomputable def spec_veMeans.F (l0 : List (S55)) (a1_0 : ByteArray) (a1_1 : Int) (a1_2 : Int) : Option (ByteArray × ByteArray × Bool) := lim fun k => spec_veMeans.f k l0 a1_0 a1_1 a1_2
theorem spec_veMeans.F_lim (l0 : List (S55)) (a1_0 : ByteArray) (a1_1 : Int) (a1_2 : Int) : Lim (fun k => spec_veMeans.f k l0 a1_0 a1_1 a1_2) (spec_veMeans.F l0 a1_0 a1_1 a1_2) := ⟨spec_veMeans.mono l0 a1_0 a1_1 a1_2, rfl⟩
theorem spec_veMeans.F_eq (l0 : List (S55)) (a1_0 : ByteArray) (a1_1 : Int) (a1_2 : Int) : spec_veMeans.F l0 a1_0 a1_1 a1_2 = ((spec_loMeans.F l0 a1_1).bind fun bt166 => ((spec_loMeans.F l0 a1_2).bind fun bt168 => (if bt166.2 = true then (if bt168.2 = true then (if bt166.1.toList = bt168.1.toList then (some ((⟨#[]⟩ : ByteArray), (⟨#[]⟩ : ByteArray), false)) else (some (bt166.1, bt168.1, true))) else (some ((⟨#[]⟩ : ByteArray), (⟨#[]⟩ : ByteArray), false))) else (some ((⟨#[]⟩ : ByteArray), (⟨#[]⟩ : ByteArray), false))))) := by
  refine Lim.eq_ ?_
  simp only [spec_veMeans.f]
  repeat' first
  | (with_reducible exact spec_loMeans.F_lim _ _)
  | (with_reducible refine Lim.ite ?_ ?_)
  | (with_reducible refine Lim.bind ?_ (fun _ => ?_))
  | (with_reducible exact Lim.const _)
mutual
def spec_DoersOf.j0 : Nat → List (S55) → List (S78) → ByteArray → Bool → Option (List ByteArray × Bool)
  | 0, _, _, _, _ => none
  | k + 1, x0, x1, x2, x23 => if x23 = true then (some (([] : List ByteArray), false)) else (spec_DoersOf.l0 k x0 x2 ([] : List ByteArray) x1 (x1.length : Int) 0)
def spec_DoersOf.l0 : Nat → List (S55) → ByteArray → List ByteArray → List (S78) → Int → Int → Option (List ByteArray × Bool)
  | 0, _, _, _, _, _, _ => none
  | k + 1, x0, x2, x8, x24, x25, x26 => if x26 < x25 then (if 0 ≤ x26 then (if x26 < (x24.length : Int) then ((spec_veMeans.f k x0 ((rd_T78 x24 x26).f0) ((rd_T78 x24 x26).f1) ((rd_T78 x24 x26).f2)).bind fun bt174 => (if bt174.2.2 = true then (spec_DoersOf.j2 k x0 x2 x8 bt174.1 x24 x25 x26 (((rd_T78 x24 x26).f0).toList != x2.toList)) else (spec_DoersOf.j2 k x0 x2 x8 bt174.1 x24 x25 x26 true))) else (none)) else (none)) else (some (x8, true))
def spec_DoersOf.j2 : Nat → List (S55) → ByteArray → List ByteArray → ByteArray → List (S78) → Int → Int → Bool → Option (List ByteArray × Bool)
  | 0, _, _, _, _, _, _, _, _ => none
  | k + 1, x0, x2, x8, x11, x24, x25, x26, x44 => if x44 = true then (spec_DoersOf.l0 k x0 x2 x8 x24 x25 (wrap64 (x26 + 1))) else (spec_DoersOf.l1 k x0 x2 x8 x11 0 x24 x25 x26)
def spec_DoersOf.l1 : Nat → List (S55) → ByteArray → List ByteArray → ByteArray → Int → List (S78) → Int → Int → Option (List ByteArray × Bool)
  | 0, _, _, _, _, _, _, _, _ => none
  | k + 1, x0, x2, x8, x11, x14, x24, x25, x26 => if x14 < (x8.length : Int) then (if 0 ≤ x14 then (spec_DoersOf.j4 k x0 x2 x8 x11 x14 x24 x25 x26 (Op.bytesLess ((rdOf ByteArray.empty x8 x14).toList) x11.toList)) else (none)) else (spec_DoersOf.j4 k x0 x2 x8 x11 x14 x24 x25 x26 false)
def spec_DoersOf.j4 : Nat → List (S55) → ByteArray → List ByteArray → ByteArray → Int → List (S78) → Int → Int → Bool → Option (List ByteArray × Bool)
  | 0, _, _, _, _, _, _, _, _, _ => none
  | k + 1, x0, x2, x8, x11, x14, x24, x25, x26, x56 => if x56 = true then (spec_DoersOf.l1 k x0 x2 x8 x11 (wrap64 (x14 + 1)) x24 x25 x26) else (if x14 = (x8.length : Int) then (spec_DoersOf.j5 k x0 x2 x8 x11 x14 x24 x25 x26 true) else (if 0 ≤ x14 then (if x14 < (x8.length : Int) then (spec_DoersOf.j5 k x0 x2 x8 x11 x14 x24 x25 x26 ((rdOf ByteArray.empty x8 x14).toList != x11.toList)) else (none)) else (none)))
def spec_DoersOf.j5 : Nat → List (S55) → ByteArray → List ByteArray → ByteArray → Int → List (S78) → Int → Int → Bool → Option (List ByteArray × Bool)
  | 0, _, _, _, _, _, _, _, _, _ => none
  | k + 1, x0, x2, x8, x11, x14, x24, x25, x26, x70 => if x70 = true then ((some (([] : List ByteArray) : List ByteArray)).bind fun y179 => (if 0 ≤ x14 then (if x14 ≤ (x8.length : Int) then ((some (x8.take (x14 : Int).toNat : List ByteArray)).bind fun y182 => (if y179.length + y182.length < 8796093022208 then ((some (y179 ++ y182 : List ByteArray)).bind fun y186 => ((some (([x11] : List ByteArray) : List ByteArray)).bind fun y189 => (if y186.length + y189.length < 8796093022208 then ((some (y186 ++ y189 : List ByteArray)).bind fun y192 => ((some (x8.drop (x14 : Int).toNat : List ByteArray)).bind fun y195 => (if y192.length + y195.length < 8796093022208 then (spec_DoersOf.l0 k x0 x2 (y192 ++ y195) x24 x25 (wrap64 (x26 + 1))) else (none)))) else (none)))) else (none))) else (none)) else (none))) else (spec_DoersOf.l0 k x0 x2 x8 x24 x25 (wrap64 (x26 + 1)))
end
def spec_DoersOf.f (k : Nat) (l0 : List (S55)) (l1 : List (S78)) (a2 : ByteArray) : Option (List ByteArray × Bool) := (spec_veGood.f k l0 l1).bind fun t170 => (if t170 = true then ((spec_fsWord.f k a2).bind fun t171 => (spec_DoersOf.j0 k l0 l1 a2 (!t171))) else (spec_DoersOf.j0 k l0 l1 a2 true))
theorem spec_DoersOf.mono_l : ∀ k, (∀ y0 y1 y2 y3, LeO (spec_DoersOf.j0 k y0 y1 y2 y3) (spec_DoersOf.j0 (k + 1) y0 y1 y2 y3)) ∧ (∀ y0 y1 y2 y3 y4 y5, LeO (spec_DoersOf.l0 k y0 y1 y2 y3 y4 y5) (spec_DoersOf.l0 (k + 1) y0 y1 y2 y3 y4 y5)) ∧ (∀ y0 y1 y2 y3 y4 y5 y6 y7, LeO (spec_DoersOf.j2 k y0 y1 y2 y3 y4 y5 y6 y7) (spec_DoersOf.j2 (k + 1) y0 y1 y2 y3 y4 y5 y6 y7)) ∧ (∀ y0 y1 y2 y3 y4 y5 y6 y7, LeO (spec_DoersOf.l1 k y0 y1 y2 y3 y4 y5 y6 y7) (spec_DoersOf.l1 (k + 1) y0 y1 y2 y3 y4 y5 y6 y7)) ∧ (∀ y0 y1 y2 y3 y4 y5 y6 y7 y8, LeO (spec_DoersOf.j4 k y0 y1 y2 y3 y4 y5 y6 y7 y8) (spec_DoersOf.j4 (k + 1) y0 y1 y2 y3 y4 y5 y6 y7 y8)) ∧ (∀ y0 y1 y2 y3 y4 y5 y6 y7 y8, LeO (spec_DoersOf.j5 k y0 y1 y2 y3 y4 y5 y6 y7 y8) (spec_DoersOf.j5 (k + 1) y0 y1 y2 y3 y4 y5 y6 y7 y8))
  | 0 => ⟨fun _ _ _ _ r h => by simp [spec_DoersOf.j0] at h, fun _ _ _ _ _ _ r h => by simp [spec_DoersOf.l0] at h, fun _ _ _ _ _ _ _ _ r h => by simp [spec_DoersOf.j2] at h, fun _ _ _ _ _ _ _ _ r h => by simp [spec_DoersOf.l1] at h, fun _ _ _ _ _ _ _ _ _ r h => by simp [spec_DoersOf.j4] at h, fun _ _ _ _ _ _ _ _ _ r h => by simp [spec_DoersOf.j5] at h⟩
  | k + 1 => by
    obtain ⟨ih0, ih1, ih2, ih3, ih4, ih5⟩ := spec_DoersOf.mono_l k
    refine ⟨?_, ?_, ?_, ?_, ?_, ?_⟩
    · intro y0 y1 y2 y3
      unfold spec_DoersOf.j0
      repeat' first
      | (with_reducible exact ih0 _ _ _ _)
      | (with_reducible exact ih1 _ _ _ _ _ _)
      | (with_reducible exact ih2 _ _ _ _ _ _ _ _)
      | (with_reducible exact ih3 _ _ _ _ _ _ _ _)
      | (with_reducible exact ih4 _ _ _ _ _ _ _ _ _)
      | (with_reducible exact ih5 _ _ _ _ _ _ _ _ _)
      | (with_reducible exact spec_fsWord.mono _ _)
      | (with_reducible exact spec_veGood.mono _ _ _)
      | (with_reducible exact spec_veMeans.mono _ _ _ _ _)
      | (with_reducible exact LeO.refl _)
      | (with_reducible exact LeO.none _)
      | (with_reducible refine LeO.ite ?_ ?_)
      | (with_reducible refine LeO.bind ?_ (fun _ => ?_))
      | exact ih0 _ _ _ _
      | exact ih1 _ _ _ _ _ _
      | exact ih2 _ _ _ _ _ _ _ _
      | exact ih3 _ _ _ _ _ _ _ _
      | exact ih4 _ _ _ _ _ _ _ _ _
      | exact ih5 _ _ _ _ _ _ _ _ _
      | exact spec_fsWord.mono _ _
      | exact spec_veGood.mono _ _ _
      | exact spec_veMeans.mono _ _ _ _ _
      | exact LeO.none _
      | refine LeO.ite ?_ ?_
      | refine LeO.bind ?_ (fun _ => ?_)
    · intro y0 y1 y2 y3 y4 y5
      unfold spec_DoersOf.l0
      repeat' first
      | (with_reducible exact ih0 _ _ _ _)
      | (with_reducible exact ih1 _ _ _ _ _ _)
      | (with_reducible exact ih2 _ _ _ _ _ _ _ _)
      | (with_reducible exact ih3 _ _ _ _ _ _ _ _)
      | (with_reducible exact ih4 _ _ _ _ _ _ _ _ _)
      | (with_reducible exact ih5 _ _ _ _ _ _ _ _ _)
      | (with_reducible exact spec_fsWord.mono _ _)
      | (with_reducible exact spec_veGood.mono _ _ _)
      | (with_reducible exact spec_veMeans.mono _ _ _ _ _)
      | (with_reducible exact LeO.refl _)
      | (with_reducible exact LeO.none _)
      | (with_reducible refine LeO.ite ?_ ?_)
      | (with_reducible refine LeO.bind ?_ (fun _ => ?_))
      | exact ih0 _ _ _ _
      | exact ih1 _ _ _ _ _ _
      | exact ih2 _ _ _ _ _ _ _ _
      | exact ih3 _ _ _ _ _ _ _ _
      | exact ih4 _ _ _ _ _ _ _ _ _
      | exact ih5 _ _ _ _ _ _ _ _ _
      | exact spec_fsWord.mono _ _
      | exact spec_veGood.mono _ _ _
      | exact spec_veMeans.mono _ _ _ _ _
      | exact LeO.none _
      | refine LeO.ite ?_ ?_
      | refine LeO.bind ?_ (fun _ => ?_)
    · intro y0 y1 y2 y3 y4 y5 y6 y7
      unfold spec_DoersOf.j2
      repeat' first
      | (with_reducible exact ih0 _ _ _ _)
      | (with_reducible exact ih1 _ _ _ _ _ _)
      | (with_reducible exact ih2 _ _ _ _ _ _ _ _)
      | (with_reducible exact ih3 _ _ _ _ _ _ _ _)
      | (with_reducible exact ih4 _ _ _ _ _ _ _ _ _)
      | (with_reducible exact ih5 _ _ _ _ _ _ _ _ _)
      | (with_reducible exact spec_fsWord.mono _ _)
      | (with_reducible exact spec_veGood.mono _ _ _)
      | (with_reducible exact spec_veMeans.mono _ _ _ _ _)
      | (with_reducible exact LeO.refl _)
      | (with_reducible exact LeO.none _)
      | (with_reducible refine LeO.ite ?_ ?_)
      | (with_reducible refine LeO.bind ?_ (fun _ => ?_))
      | exact ih0 _ _ _ _
      | exact ih1 _ _ _ _ _ _
      | exact ih2 _ _ _ _ _ _ _ _
      | exact ih3 _ _ _ _ _ _ _ _
      | exact ih4 _ _ _ _ _ _ _ _ _
      | exact ih5 _ _ _ _ _ _ _ _ _
      | exact spec_fsWord.mono _ _
      | exact spec_veGood.mono _ _ _
      | exact spec_veMeans.mono _ _ _ _ _
      | exact LeO.none _
      | refine LeO.ite ?_ ?_
      | refine LeO.bind ?_ (fun _ => ?_)
    · intro y0 y1 y2 y3 y4 y5 y6 y7
      unfold spec_DoersOf.l1
      repeat' first
      | (with_reducible exact ih0 _ _ _ _)
      | (with_reducible exact ih1 _ _ _ _ _ _)
      | (with_reducible exact ih2 _ _ _ _ _ _ _ _)
      | (with_reducible exact ih3 _ _ _ _ _ _ _ _)
      | (with_reducible exact ih4 _ _ _ _ _ _ _ _ _)
      | (with_reducible exact ih5 _ _ _ _ _ _ _ _ _)
      | (with_reducible exact spec_fsWord.mono _ _)
      | (with_reducible exact spec_veGood.mono _ _ _)
      | (with_reducible exact spec_veMeans.mono _ _ _ _ _)
      | (with_reducible exact LeO.refl _)
      | (with_reducible exact LeO.none _)
      | (with_reducible refine LeO.ite ?_ ?_)
      | (with_reducible refine LeO.bind ?_ (fun _ => ?_))
      | exact ih0 _ _ _ _
      | exact ih1 _ _ _ _ _ _
      | exact ih2 _ _ _ _ _ _ _ _
      | exact ih3 _ _ _ _ _ _ _ _
      | exact ih4 _ _ _ _ _ _ _ _ _
      | exact ih5 _ _ _ _ _ _ _ _ _
      | exact spec_fsWord.mono _ _
      | exact spec_veGood.mono _ _ _
      | exact spec_veMeans.mono _ _ _ _ _
      | exact LeO.none _
      | refine LeO.ite ?_ ?_
      | refine LeO.bind ?_ (fun _ => ?_)
    · intro y0 y1 y2 y3 y4 y5 y6 y7 y8
      unfold spec_DoersOf.j4
      repeat' first
      | (with_reducible exact ih0 _ _ _ _)
      | (with_reducible exact ih1 _ _ _ _ _ _)
      | (with_reducible exact ih2 _ _ _ _ _ _ _ _)
      | (with_reducible exact ih3 _ _ _ _ _ _ _ _)
      | (with_reducible exact ih4 _ _ _ _ _ _ _ _ _)
      | (with_reducible exact ih5 _ _ _ _ _ _ _ _ _)
      | (with_reducible exact spec_fsWord.mono _ _)
      | (with_reducible exact spec_veGood.mono _ _ _)
      | (with_reducible exact spec_veMeans.mono _ _ _ _ _)
      | (with_reducible exact LeO.refl _)
      | (with_reducible exact LeO.none _)
      | (with_reducible refine LeO.ite ?_ ?_)
      | (with_reducible refine LeO.bind ?_ (fun _ => ?_))
      | exact ih0 _ _ _ _
      | exact ih1 _ _ _ _ _ _
      | exact ih2 _ _ _ _ _ _ _ _
      | exact ih3 _ _ _ _ _ _ _ _
      | exact ih4 _ _ _ _ _ _ _ _ _
      | exact ih5 _ _ _ _ _ _ _ _ _
      | exact spec_fsWord.mono _ _
      | exact spec_veGood.mono _ _ _
      | exact spec_veMeans.mono _ _ _ _ _
      | exact LeO.none _
      | refine LeO.ite ?_ ?_
      | refine LeO.bind ?_ (fun _ => ?_)
    · intro y0 y1 y2 y3 y4 y5 y6 y7 y8
      unfold spec_DoersOf.j5
      repeat' first
      | (with_reducible exact ih0 _ _ _ _)
      | (with_reducible exact ih1 _ _ _ _ _ _)
      | (with_reducible exact ih2 _ _ _ _ _ _ _ _)
      | (with_reducible exact ih3 _ _ _ _ _ _ _ _)
      | (with_reducible exact ih4 _ _ _ _ _ _ _ _ _)
      | (with_reducible exact ih5 _ _ _ _ _ _ _ _ _)
      | (with_reducible exact spec_fsWord.mono _ _)
      | (with_reducible exact spec_veGood.mono _ _ _)
      | (with_reducible exact spec_veMeans.mono _ _ _ _ _)
      | (with_reducible exact LeO.refl _)
      | (with_reducible exact LeO.none _)
      | (with_reducible refine LeO.ite ?_ ?_)
      | (with_reducible refine LeO.bind ?_ (fun _ => ?_))
      | exact ih0 _ _ _ _
      | exact ih1 _ _ _ _ _ _
      | exact ih2 _ _ _ _ _ _ _ _
      | exact ih3 _ _ _ _ _ _ _ _
      | exact ih4 _ _ _ _ _ _ _ _ _
      | exact ih5 _ _ _ _ _ _ _ _ _
      | exact spec_fsWord.mono _ _
      | exact spec_veGood.mono _ _ _
      | exact spec_veMeans.mono _ _ _ _ _
      | exact LeO.none _
      | refine LeO.ite ?_ ?_
      | refine LeO.bind ?_ (fun _ => ?_)
theorem spec_DoersOf.mono : ∀ a0 a1 a2 k, LeO (spec_DoersOf.f k a0 a1 a2) (spec_DoersOf.f (k + 1) a0 a1 a2) := by
  intro a0 a1 a2 k
  obtain ⟨ih0, ih1, ih2, ih3, ih4, ih5⟩ := spec_DoersOf.mono_l k
  unfold spec_DoersOf.f
  repeat' first
      | (with_reducible exact ih0 _ _ _ _)
      | (with_reducible exact ih1 _ _ _ _ _ _)
      | (with_reducible exact ih2 _ _ _ _ _ _ _ _)
      | (with_reducible exact ih3 _ _ _ _ _ _ _ _)
      | (with_reducible exact ih4 _ _ _ _ _ _ _ _ _)
      | (with_reducible exact ih5 _ _ _ _ _ _ _ _ _)
      | (with_reducible exact spec_fsWord.mono _ _)
      | (with_reducible exact spec_veGood.mono _ _ _)
      | (with_reducible exact spec_veMeans.mono _ _ _ _ _)
      | (with_reducible exact LeO.refl _)
      | (with_reducible exact LeO.none _)
      | (with_reducible refine LeO.ite ?_ ?_)
      | (with_reducible refine LeO.bind ?_ (fun _ => ?_))
      | exact ih0 _ _ _ _
      | exact ih1 _ _ _ _ _ _
      | exact ih2 _ _ _ _ _ _ _ _
      | exact ih3 _ _ _ _ _ _ _ _
      | exact ih4 _ _ _ _ _ _ _ _ _
      | exact ih5 _ _ _ _ _ _ _ _ _
      | exact spec_fsWord.mono _ _
      | exact spec_veGood.mono _ _ _
      | exact spec_veMeans.mono _ _ _ _ _
      | exact LeO.none _
      | refine LeO.ite ?_ ?_
      | refine LeO.bind ?_ (fun _ => ?_)
noncomputable def spec_DoersOf.J0 (x0 : List (S55)) (x1 : List (S78)) (x2 : ByteArray) (x23 : Bool) : Option (List ByteArray × Bool) := lim fun k => spec_DoersOf.j0 k x0 x1 x2 x23
theorem spec_DoersOf.J0_lim (x0 : List (S55)) (x1 : List (S78)) (x2 : ByteArray) (x23 : Bool) : Lim (fun k => spec_DoersOf.j0 k x0 x1 x2 x23) (spec_DoersOf.J0 x0 x1 x2 x23) := ⟨fun k => (spec_DoersOf.mono_l k).1 x0 x1 x2 x23, rfl⟩
noncomputable def spec_DoersOf.L0 (x0 : List (S55)) (x2 : ByteArray) (x8 : List ByteArray) (x24 : List (S78)) (x25 : Int) (x26 : Int) : Option (List ByteArray × Bool) := lim fun k => spec_DoersOf.l0 k x0 x2 x8 x24 x25 x26
theorem spec_DoersOf.L0_lim (x0 : List (S55)) (x2 : ByteArray) (x8 : List ByteArray) (x24 : List (S78)) (x25 : Int) (x26 : Int) : Lim (fun k => spec_DoersOf.l0 k x0 x2 x8 x24 x25 x26) (spec_DoersOf.L0 x0 x2 x8 x24 x25 x26) := ⟨fun k => (spec_DoersOf.mono_l k).2.1 x0 x2 x8 x24 x25 x26, rfl⟩
noncomputable def spec_DoersOf.J2 (x0 : List (S55)) (x2 : ByteArray) (x8 : List ByteArray) (x11 : ByteArray) (x24 : List (S78)) (x25 : Int) (x26 : Int) (x44 : Bool) : Option (List ByteArray × Bool) := lim fun k => spec_DoersOf.j2 k x0 x2 x8 x11 x24 x25 x26 x44
theorem spec_DoersOf.J2_lim (x0 : List (S55)) (x2 : ByteArray) (x8 : List ByteArray) (x11 : ByteArray) (x24 : List (S78)) (x25 : Int) (x26 : Int) (x44 : Bool) : Lim (fun k => spec_DoersOf.j2 k x0 x2 x8 x11 x24 x25 x26 x44) (spec_DoersOf.J2 x0 x2 x8 x11 x24 x25 x26 x44) := ⟨fun k => (spec_DoersOf.mono_l k).2.2.1 x0 x2 x8 x11 x24 x25 x26 x44, rfl⟩
noncomputable def spec_DoersOf.L1 (x0 : List (S55)) (x2 : ByteArray) (x8 : List ByteArray) (x11 : ByteArray) (x14 : Int) (x24 : List (S78)) (x25 : Int) (x26 : Int) : Option (List ByteArray × Bool) := lim fun k => spec_DoersOf.l1 k x0 x2 x8 x11 x14 x24 x25 x26
theorem spec_DoersOf.L1_lim (x0 : List (S55)) (x2 : ByteArray) (x8 : List ByteArray) (x11 : ByteArray) (x14 : Int) (x24 : List (S78)) (x25 : Int) (x26 : Int) : Lim (fun k => spec_DoersOf.l1 k x0 x2 x8 x11 x14 x24 x25 x26) (spec_DoersOf.L1 x0 x2 x8 x11 x14 x24 x25 x26) := ⟨fun k => (spec_DoersOf.mono_l k).2.2.2.1 x0 x2 x8 x11 x14 x24 x25 x26, rfl⟩
noncomputable def spec_DoersOf.J4 (x0 : List (S55)) (x2 : ByteArray) (x8 : List ByteArray) (x11 : ByteArray) (x14 : Int) (x24 : List (S78)) (x25 : Int) (x26 : Int) (x56 : Bool) : Option (List ByteArray × Bool) := lim fun k => spec_DoersOf.j4 k x0 x2 x8 x11 x14 x24 x25 x26 x56
theorem spec_DoersOf.J4_lim (x0 : List (S55)) (x2 : ByteArray) (x8 : List ByteArray) (x11 : ByteArray) (x14 : Int) (x24 : List (S78)) (x25 : Int) (x26 : Int) (x56 : Bool) : Lim (fun k => spec_DoersOf.j4 k x0 x2 x8 x11 x14 x24 x25 x26 x56) (spec_DoersOf.J4 x0 x2 x8 x11 x14 x24 x25 x26 x56) := ⟨fun k => (spec_DoersOf.mono_l k).2.2.2.2.1 x0 x2 x8 x11 x14 x24 x25 x26 x56, rfl⟩
noncomputable def spec_DoersOf.J5 (x0 : List (S55)) (x2 : ByteArray) (x8 : List ByteArray) (x11 : ByteArray) (x14 : Int) (x24 : List (S78)) (x25 : Int) (x26 : Int) (x70 : Bool) : Option (List ByteArray × Bool) := lim fun k => spec_DoersOf.j5 k x0 x2 x8 x11 x14 x24 x25 x26 x70
theorem spec_DoersOf.J5_lim (x0 : List (S55)) (x2 : ByteArray) (x8 : List ByteArray) (x11 : ByteArray) (x14 : Int) (x24 : List (S78)) (x25 : Int) (x26 : Int) (x70 : Bool) : Lim (fun k => spec_DoersOf.j5 k x0 x2 x8 x11 x14 x24 x25 x26 x70) (spec_DoersOf.J5 x0 x2 x8 x11 x14 x24 x25 x26 x70) := ⟨fun k => (spec_DoersOf.mono_l k).2.2.2.2.2 x0 x2 x8 x11 x14 x24 x25 x26 x70, rfl⟩
noncomputable def spec_DoersOf.F (l0 : List (S55)) (l1 : List (S78)) (a2 : ByteArray) : Option (List ByteArray × Bool) := lim fun k => spec_DoersOf.f k l0 l1 a2
theorem spec_DoersOf.F_lim (l0 : List (S55)) (l1 : List (S78)) (a2 : ByteArray) : Lim (fun k => spec_DoersOf.f k l0 l1 a2) (spec_DoersOf.F l0 l1 a2) := ⟨spec_DoersOf.mono l0 l1 a2, rfl⟩
theorem spec_DoersOf.J0_eq (x0 : List (S55)) (x1 : List (S78)) (x2 : ByteArray) (x23 : Bool) : spec_DoersOf.J0 x0 x1 x2 x23 = (if x23 = true then (some (([] : List ByteArray), false)) else (spec_DoersOf.L0 x0 x2 ([] : List ByteArray) x1 (x1.length : Int) 0)) := by
  refine Lim.succ_eq (spec_DoersOf.J0_lim x0 x1 x2 x23).mon ?_
  simp only [spec_DoersOf.j0]
  repeat' first
  | (with_reducible exact spec_DoersOf.J0_lim _ _ _ _)
  | (with_reducible exact spec_DoersOf.L0_lim _ _ _ _ _ _)
  | (with_reducible exact spec_DoersOf.J2_lim _ _ _ _ _ _ _ _)
  | (with_reducible exact spec_DoersOf.L1_lim _ _ _ _ _ _ _ _)
  | (with_reducible exact spec_DoersOf.J4_lim _ _ _ _ _ _ _ _ _)
  | (with_reducible exact spec_DoersOf.J5_lim _ _ _ _ _ _ _ _ _)
  | (with_reducible exact spec_fsWord.F_lim _)
  | (with_reducible exact spec_veGood.F_lim _ _)
  | (with_reducible exact spec_veMeans.F_lim _ _ _ _)
  | (with_reducible refine Lim.ite ?_ ?_)
  | (with_reducible refine Lim.bind ?_ (fun _ => ?_))
  | (with_reducible exact Lim.const _)
theorem spec_DoersOf.L0_eq (x0 : List (S55)) (x2 : ByteArray) (x8 : List ByteArray) (x24 : List (S78)) (x25 : Int) (x26 : Int) : spec_DoersOf.L0 x0 x2 x8 x24 x25 x26 = (if x26 < x25 then (if 0 ≤ x26 then (if x26 < (x24.length : Int) then ((spec_veMeans.F x0 ((rd_T78 x24 x26).f0) ((rd_T78 x24 x26).f1) ((rd_T78 x24 x26).f2)).bind fun bt174 => (if bt174.2.2 = true then (spec_DoersOf.J2 x0 x2 x8 bt174.1 x24 x25 x26 (((rd_T78 x24 x26).f0).toList != x2.toList)) else (spec_DoersOf.J2 x0 x2 x8 bt174.1 x24 x25 x26 true))) else (none)) else (none)) else (some (x8, true))) := by
  refine Lim.succ_eq (spec_DoersOf.L0_lim x0 x2 x8 x24 x25 x26).mon ?_
  simp only [spec_DoersOf.l0]
  repeat' first
  | (with_reducible exact spec_DoersOf.J0_lim _ _ _ _)
  | (with_reducible exact spec_DoersOf.L0_lim _ _ _ _ _ _)
  | (with_reducible exact spec_DoersOf.J2_lim _ _ _ _ _ _ _ _)
  | (with_reducible exact spec_DoersOf.L1_lim _ _ _ _ _ _ _ _)
  | (with_reducible exact spec_DoersOf.J4_lim _ _ _ _ _ _ _ _ _)
  | (with_reducible exact spec_DoersOf.J5_lim _ _ _ _ _ _ _ _ _)
  | (with_reducible exact spec_fsWord.F_lim _)
  | (with_reducible exact spec_veGood.F_lim _ _)
  | (with_reducible exact spec_veMeans.F_lim _ _ _ _)
  | (with_reducible refine Lim.ite ?_ ?_)
  | (with_reducible refine Lim.bind ?_ (fun _ => ?_))
  | (with_reducible exact Lim.const _)
theorem spec_DoersOf.J2_eq (x0 : List (S55)) (x2 : ByteArray) (x8 : List ByteArray) (x11 : ByteArray) (x24 : List (S78)) (x25 : Int) (x26 : Int) (x44 : Bool) : spec_DoersOf.J2 x0 x2 x8 x11 x24 x25 x26 x44 = (if x44 = true then (spec_DoersOf.L0 x0 x2 x8 x24 x25 (wrap64 (x26 + 1))) else (spec_DoersOf.L1 x0 x2 x8 x11 0 x24 x25 x26)) := by
  refine Lim.succ_eq (spec_DoersOf.J2_lim x0 x2 x8 x11 x24 x25 x26 x44).mon ?_
  simp only [spec_DoersOf.j2]
  repeat' first
  | (with_reducible exact spec_DoersOf.J0_lim _ _ _ _)
  | (with_reducible exact spec_DoersOf.L0_lim _ _ _ _ _ _)
  | (with_reducible exact spec_DoersOf.J2_lim _ _ _ _ _ _ _ _)
  | (with_reducible exact spec_DoersOf.L1_lim _ _ _ _ _ _ _ _)
  | (with_reducible exact spec_DoersOf.J4_lim _ _ _ _ _ _ _ _ _)
  | (with_reducible exact spec_DoersOf.J5_lim _ _ _ _ _ _ _ _ _)
  | (with_reducible exact spec_fsWord.F_lim _)
  | (with_reducible exact spec_veGood.F_lim _ _)
  | (with_reducible exact spec_veMeans.F_lim _ _ _ _)
  | (with_reducible refine Lim.ite ?_ ?_)
  | (with_reducible refine Lim.bind ?_ (fun _ => ?_))
  | (with_reducible exact Lim.const _)
theorem spec_DoersOf.L1_eq (x0 : List (S55)) (x2 : ByteArray) (x8 : List ByteArray) (x11 : ByteArray) (x14 : Int) (x24 : List (S78)) (x25 : Int) (x26 : Int) : spec_DoersOf.L1 x0 x2 x8 x11 x14 x24 x25 x26 = (if x14 < (x8.length : Int) then (if 0 ≤ x14 then (spec_DoersOf.J4 x0 x2 x8 x11 x14 x24 x25 x26 (Op.bytesLess ((rdOf ByteArray.empty x8 x14).toList) x11.toList)) else (none)) else (spec_DoersOf.J4 x0 x2 x8 x11 x14 x24 x25 x26 false)) := by
  refine Lim.succ_eq (spec_DoersOf.L1_lim x0 x2 x8 x11 x14 x24 x25 x26).mon ?_
  simp only [spec_DoersOf.l1]
  repeat' first
  | (with_reducible exact spec_DoersOf.J0_lim _ _ _ _)
  | (with_reducible exact spec_DoersOf.L0_lim _ _ _ _ _ _)
  | (with_reducible exact spec_DoersOf.J2_lim _ _ _ _ _ _ _ _)
  | (with_reducible exact spec_DoersOf.L1_lim _ _ _ _ _ _ _ _)
  | (with_reducible exact spec_DoersOf.J4_lim _ _ _ _ _ _ _ _ _)
  | (with_reducible exact spec_DoersOf.J5_lim _ _ _ _ _ _ _ _ _)
  | (with_reducible exact spec_fsWord.F_lim _)
  | (with_reducible exact spec_veGood.F_lim _ _)
  | (with_reducible exact spec_veMeans.F_lim _ _ _ _)
  | (with_reducible refine Lim.ite ?_ ?_)
  | (with_reducible refine Lim.bind ?_ (fun _ => ?_))
  | (with_reducible exact Lim.const _)
theorem spec_DoersOf.J4_eq (x0 : List (S55)) (x2 : ByteArray) (x8 : List ByteArray) (x11 : ByteArray) (x14 : Int) (x24 : List (S78)) (x25 : Int) (x26 : Int) (x56 : Bool) : spec_DoersOf.J4 x0 x2 x8 x11 x14 x24 x25 x26 x56 = (if x56 = true then (spec_DoersOf.L1 x0 x2 x8 x11 (wrap64 (x14 + 1)) x24 x25 x26) else (if x14 = (x8.length : Int) then (spec_DoersOf.J5 x0 x2 x8 x11 x14 x24 x25 x26 true) else (if 0 ≤ x14 then (if x14 < (x8.length : Int) then (spec_DoersOf.J5 x0 x2 x8 x11 x14 x24 x25 x26 ((rdOf ByteArray.empty x8 x14).toList != x11.toList)) else (none)) else (none)))) := by
  refine Lim.succ_eq (spec_DoersOf.J4_lim x0 x2 x8 x11 x14 x24 x25 x26 x56).mon ?_
  simp only [spec_DoersOf.j4]
  repeat' first
  | (with_reducible exact spec_DoersOf.J0_lim _ _ _ _)
  | (with_reducible exact spec_DoersOf.L0_lim _ _ _ _ _ _)
  | (with_reducible exact spec_DoersOf.J2_lim _ _ _ _ _ _ _ _)
  | (with_reducible exact spec_DoersOf.L1_lim _ _ _ _ _ _ _ _)
  | (with_reducible exact spec_DoersOf.J4_lim _ _ _ _ _ _ _ _ _)
  | (with_reducible exact spec_DoersOf.J5_lim _ _ _ _ _ _ _ _ _)
  | (with_reducible exact spec_fsWord.F_lim _)
  | (with_reducible exact spec_veGood.F_lim _ _)
  | (with_reducible exact spec_veMeans.F_lim _ _ _ _)
  | (with_reducible refine Lim.ite ?_ ?_)
  | (with_reducible refine Lim.bind ?_ (fun _ => ?_))
  | (with_reducible exact Lim.const _)
theorem spec_DoersOf.J5_eq (x0 : List (S55)) (x2 : ByteArray) (x8 : List ByteArray) (x11 : ByteArray) (x14 : Int) (x24 : List (S78)) (x25 : Int) (x26 : Int) (x70 : Bool) : spec_DoersOf.J5 x0 x2 x8 x11 x14 x24 x25 x26 x70 = (if x70 = true then ((some (([] : List ByteArray) : List ByteArray)).bind fun y179 => (if 0 ≤ x14 then (if x14 ≤ (x8.length : Int) then ((some (x8.take (x14 : Int).toNat : List ByteArray)).bind fun y182 => (if y179.length + y182.length < 8796093022208 then ((some (y179 ++ y182 : List ByteArray)).bind fun y186 => ((some (([x11] : List ByteArray) : List ByteArray)).bind fun y189 => (if y186.length + y189.length < 8796093022208 then ((some (y186 ++ y189 : List ByteArray)).bind fun y192 => ((some (x8.drop (x14 : Int).toNat : List ByteArray)).bind fun y195 => (if y192.length + y195.length < 8796093022208 then (spec_DoersOf.L0 x0 x2 (y192 ++ y195) x24 x25 (wrap64 (x26 + 1))) else (none)))) else (none)))) else (none))) else (none)) else (none))) else (spec_DoersOf.L0 x0 x2 x8 x24 x25 (wrap64 (x26 + 1)))) := by
  refine Lim.succ_eq (spec_DoersOf.J5_lim x0 x2 x8 x11 x14 x24 x25 x26 x70).mon ?_
  simp only [spec_DoersOf.j5]
  repeat' first
  | (with_reducible exact spec_DoersOf.J0_lim _ _ _ _)
  | (with_reducible exact spec_DoersOf.L0_lim _ _ _ _ _ _)
  | (with_reducible exact spec_DoersOf.J2_lim _ _ _ _ _ _ _ _)
  | (with_reducible exact spec_DoersOf.L1_lim _ _ _ _ _ _ _ _)
  | (with_reducible exact spec_DoersOf.J4_lim _ _ _ _ _ _ _ _ _)
  | (with_reducible exact spec_DoersOf.J5_lim _ _ _ _ _ _ _ _ _)
  | (with_reducible exact spec_fsWord.F_lim _)
  | (with_reducible exact spec_veGood.F_lim _ _)
  | (with_reducible exact spec_veMeans.F_lim _ _ _ _)
  | (with_reducible refine Lim.ite ?_ ?_)
  | (with_reducible refine Lim.bind ?_ (fun _ => ?_))
  | (with_reducible exact Lim.const _)
theorem spec_DoersOf.F_eq (l0 : List (S55)) (l1 : List (S78)) (a2 : ByteArray) : spec_DoersOf.F l0 l1 a2 = ((spec_veGood.F l0 l1).bind fun t170 => (if t170 = true then ((spec_fsWord.F a2).bind fun t171 => (spec_DoersOf.J0 l0 l1 a2 (!t171))) else (spec_DoersOf.J0 l0 l1 a2 true))) := by
  refine Lim.eq_ ?_
  simp only [spec_DoersOf.f]
  repeat' first
  | (with_reducible exact spec_DoersOf.J0_lim _ _ _ _)
  | (with_reducible exact spec_DoersOf.L0_lim _ _ _ _ _ _)
  | (with_reducible exact spec_DoersOf.J2_lim _ _ _ _ _ _ _ _)
  | (with_reducible exact spec_DoersOf.L1_lim _ _ _ _ _ _ _ _)
  | (with_reducible exact spec_DoersOf.J4_lim _ _ _ _ _ _ _ _ _)
  | (with_reducible exact spec_DoersOf.J5_lim _ _ _ _ _ _ _ _ _)
  | (with_reducible exact spec_fsWord.F_lim _)
  | (with_reducible exact spec_veGood.F_lim _ _)
  | (with_reducible exact spec_veMeans.F_lim _ _ _ _)
  | (with_reducible refine Lim.ite ?_ ?_)
  | (with_reducible refine Lim.bind ?_ (fun _ => ?_))
  | (with_reducible exact Lim.const _)
def laws_toVerb.f (a0_0 : ByteArray) (a0_1 : Int) (a0_2 : Int) : Option (ByteArray × Int × Int) := some (a0_0, a0_1, a0_2)
def laws_toVerbS.l0 : Nat → List (S76) → List (S78) → Int → Option ((List (S78)))
  | 0, _, _, _ => none
  | k + 1, x0, x3, x4 => if x4 < (x0.length : Int) then (if 0 ≤ x4 then ((laws_toVerb.f ((rd_T76 x0 x4).f0) ((rd_T76 x0 x4).f1) ((rd_T76 x0 x4).f2)).bind fun bt209 => (if x4 < (x3.length : Int) then (laws_toVerbS.l0 k x0 (x3.set (x4 : Int).toNat (⟨bt209.1, bt209.2.1, bt209.2.2⟩ : S78)) (wrap64 (x4 + 1))) else (none))) else (none)) else (some x3)
def laws_toVerbS.f (k : Nat) (l0 : List (S76)) : Option ((List (S78))) := if 0 ≤ (l0.length : Int) then (if ((l0.length : Int) : Int).toNat ≤ 8796093022208 then (laws_toVerbS.l0 k l0 (List.replicate ((l0.length : Int) : Int).toNat z78) 0) else (none)) else (none)
theorem laws_toVerbS.mono_l : ∀ k, (∀ y0 y1 y2, LeO (laws_toVerbS.l0 k y0 y1 y2) (laws_toVerbS.l0 (k + 1) y0 y1 y2))
  | 0 => fun _ _ _ r h => by simp [laws_toVerbS.l0] at h
  | k + 1 => by
    have ih0 := laws_toVerbS.mono_l k
    · intro y0 y1 y2
      unfold laws_toVerbS.l0
      repeat' first
      | (with_reducible exact ih0 _ _ _)
      | (with_reducible exact LeO.refl _)
      | (with_reducible exact LeO.none _)
      | (with_reducible refine LeO.ite ?_ ?_)
      | (with_reducible refine LeO.bind ?_ (fun _ => ?_))
      | exact ih0 _ _ _
      | exact LeO.none _
      | refine LeO.ite ?_ ?_
      | refine LeO.bind ?_ (fun _ => ?_)
theorem laws_toVerbS.mono : ∀ a0 k, LeO (laws_toVerbS.f k a0) (laws_toVerbS.f (k + 1) a0) := by
  intro a0 k
  have ih0 := laws_toVerbS.mono_l k
  unfold laws_toVerbS.f
  repeat' first
      | (with_reducible exact ih0 _ _ _)
      | (with_reducible exact LeO.refl _)
      | (with_reducible exact LeO.none _)
      | (with_reducible refine LeO.ite ?_ ?_)
      | (with_reducible refine LeO.bind ?_ (fun _ => ?_))
      | exact ih0 _ _ _
      | exact LeO.none _
      | refine LeO.ite ?_ ?_
      | refine LeO.bind ?_ (fun _ => ?_)
noncomputable def laws_toVerbS.L0 (x0 : List (S76)) (x3 : List (S78)) (x4 : Int) : Option ((List (S78))) := lim fun k => laws_toVerbS.l0 k x0 x3 x4
theorem laws_toVerbS.L0_lim (x0 : List (S76)) (x3 : List (S78)) (x4 : Int) : Lim (fun k => laws_toVerbS.l0 k x0 x3 x4) (laws_toVerbS.L0 x0 x3 x4) := ⟨fun k => (laws_toVerbS.mono_l k) x0 x3 x4, rfl⟩
noncomputable def laws_toVerbS.F (l0 : List (S76)) : Option ((List (S78))) := lim fun k => laws_toVerbS.f k l0
theorem laws_toVerbS.F_lim (l0 : List (S76)) : Lim (fun k => laws_toVerbS.f k l0) (laws_toVerbS.F l0) := ⟨laws_toVerbS.mono l0, rfl⟩
theorem laws_toVerbS.L0_eq (x0 : List (S76)) (x3 : List (S78)) (x4 : Int) : laws_toVerbS.L0 x0 x3 x4 = (if x4 < (x0.length : Int) then (if 0 ≤ x4 then ((laws_toVerb.f ((rd_T76 x0 x4).f0) ((rd_T76 x0 x4).f1) ((rd_T76 x0 x4).f2)).bind fun bt209 => (if x4 < (x3.length : Int) then (laws_toVerbS.L0 x0 (x3.set (x4 : Int).toNat (⟨bt209.1, bt209.2.1, bt209.2.2⟩ : S78)) (wrap64 (x4 + 1))) else (none))) else (none)) else (some x3)) := by
  refine Lim.succ_eq (laws_toVerbS.L0_lim x0 x3 x4).mon ?_
  simp only [laws_toVerbS.l0]
  repeat' first
  | (with_reducible exact laws_toVerbS.L0_lim _ _ _)
  | (with_reducible refine Lim.ite ?_ ?_)
  | (with_reducible refine Lim.bind ?_ (fun _ => ?_))
  | (with_reducible exact Lim.const _)
theorem laws_toVerbS.F_eq (l0 : List (S76)) : laws_toVerbS.F l0 = (if 0 ≤ (l0.length : Int) then (if ((l0.length : Int) : Int).toNat ≤ 8796093022208 then (laws_toVerbS.L0 l0 (List.replicate ((l0.length : Int) : Int).toNat z78) 0) else (none)) else (none)) := by
  refine Lim.eq_ ?_
  simp only [laws_toVerbS.f]
  repeat' first
  | (with_reducible exact laws_toVerbS.L0_lim _ _ _)
  | (with_reducible refine Lim.ite ?_ ?_)
  | (with_reducible refine Lim.bind ?_ (fun _ => ?_))
  | (with_reducible exact Lim.const _)
def impl_within.f (a0 : Int) (a1 : Int) (a2 : Int) : Option (Bool) := if a0 ≥ a1 then (some (decide (a0 ≤ a2))) else (some false)
def stringslite_IndexByte.f (a0 : ByteArray) (a1 : Int) : Option (Int) := some (Lib.indexByte a0.data.toList a1.toNat.toUInt8)
def strings_IndexByte.f (a0 : ByteArray) (a1 : Int) : Option (Int) := (stringslite_IndexByte.f a0 a1).bind fun t213 => (some t213)
def impl_hasOnly.l0 : Nat → ByteArray → ByteArray → Int → Int → Option (Bool)
  | 0, _, _, _, _ => none
  | k + 1, x0, x1, x7, x8 => if x8 < x7 then (if 0 ≤ x8 then (if x8 < (x0.size : Int) then ((strings_IndexByte.f x1 (bt x0 x8)).bind fun t214 => (if t214 < 0 then (some false) else (impl_hasOnly.l0 k x0 x1 x7 (wrap64 (x8 + 1))))) else (none)) else (none)) else (some true)
def impl_hasOnly.f (k : Nat) (a0 : ByteArray) (a1 : ByteArray) : Option (Bool) := impl_hasOnly.l0 k a0 a1 (a0.size : Int) 0
theorem impl_hasOnly.mono_l : ∀ k, (∀ y0 y1 y2 y3, LeO (impl_hasOnly.l0 k y0 y1 y2 y3) (impl_hasOnly.l0 (k + 1) y0 y1 y2 y3))
  | 0 => fun _ _ _ _ r h => by simp [impl_hasOnly.l0] at h
  | k + 1 => by
    have ih0 := impl_hasOnly.mono_l k
    · intro y0 y1 y2 y3
      unfold impl_hasOnly.l0
      repeat' first
      | (with_reducible exact ih0 _ _ _ _)
      | (with_reducible exact LeO.refl _)
      | (with_reducible exact LeO.none _)
      | (with_reducible refine LeO.ite ?_ ?_)
      | (with_reducible refine LeO.bind ?_ (fun _ => ?_))
      | exact ih0 _ _ _ _
      | exact LeO.none _
      | refine LeO.ite ?_ ?_
      | refine LeO.bind ?_ (fun _ => ?_)
theorem impl_hasOnly.mono : ∀ a0 a1 k, LeO (impl_hasOnly.f k a0 a1) (impl_hasOnly.f (k + 1) a0 a1) := by
  intro a0 a1 k
  have ih0 := impl_hasOnly.mono_l k
  unfold impl_hasOnly.f
  repeat' first
      | (with_reducible exact ih0 _ _ _ _)
      | (with_reducible exact LeO.refl _)
      | (with_reducible exact LeO.none _)
      | (with_reducible refine LeO.ite ?_ ?_)
      | (with_reducible refine LeO.bind ?_ (fun _ => ?_))
      | exact ih0 _ _ _ _
      | exact LeO.none _
      | refine LeO.ite ?_ ?_
      | refine LeO.bind ?_ (fun _ => ?_)
noncomputable def impl_hasOnly.L0 (x0 : ByteArray) (x1 : ByteArray) (x7 : Int) (x8 : Int) : Option (Bool) := lim fun k => impl_hasOnly.l0 k x0 x1 x7 x8
theorem impl_hasOnly.L0_lim (x0 : ByteArray) (x1 : ByteArray) (x7 : Int) (x8 : Int) : Lim (fun k => impl_hasOnly.l0 k x0 x1 x7 x8) (impl_hasOnly.L0 x0 x1 x7 x8) := ⟨fun k => (impl_hasOnly.mono_l k) x0 x1 x7 x8, rfl⟩
noncomputable def impl_hasOnly.F (a0 : ByteArray) (a1 : ByteArray) : Option (Bool) := lim fun k => impl_hasOnly.f k a0 a1
theorem impl_hasOnly.F_lim (a0 : ByteArray) (a1 : ByteArray) : Lim (fun k => impl_hasOnly.f k a0 a1) (impl_hasOnly.F a0 a1) := ⟨impl_hasOnly.mono a0 a1, rfl⟩
theorem impl_hasOnly.L0_eq (x0 : ByteArray) (x1 : ByteArray) (x7 : Int) (x8 : Int) : impl_hasOnly.L0 x0 x1 x7 x8 = (if x8 < x7 then (if 0 ≤ x8 then (if x8 < (x0.size : Int) then ((strings_IndexByte.f x1 (bt x0 x8)).bind fun t214 => (if t214 < 0 then (some false) else (impl_hasOnly.L0 x0 x1 x7 (wrap64 (x8 + 1))))) else (none)) else (none)) else (some true)) := by
  refine Lim.succ_eq (impl_hasOnly.L0_lim x0 x1 x7 x8).mon ?_
  simp only [impl_hasOnly.l0]
  repeat' first
  | (with_reducible exact impl_hasOnly.L0_lim _ _ _ _)
  | (with_reducible refine Lim.ite ?_ ?_)
  | (with_reducible refine Lim.bind ?_ (fun _ => ?_))
  | (with_reducible exact Lim.const _)
theorem impl_hasOnly.F_eq (a0 : ByteArray) (a1 : ByteArray) : impl_hasOnly.F a0 a1 = (impl_hasOnly.L0 a0 a1 (a0.size : Int) 0) := by
  refine Lim.eq_ ?_
  simp only [impl_hasOnly.f]
  repeat' first
  | (with_reducible exact impl_hasOnly.L0_lim _ _ _ _)
  | (with_reducible refine Lim.ite ?_ ?_)
  | (with_reducible refine Lim.bind ?_ (fun _ => ?_))
  | (with_reducible exact Lim.const _)
def impl_isWordOf.f (k : Nat) (a0 : ByteArray) (a1 : ByteArray) : Option (Bool) := (impl_within.f (a0.size : Int) 1 8).bind fun t215 => (if t215 = true then ((impl_hasOnly.f k a0 a1).bind fun t216 => (some t216)) else (some false))
theorem impl_isWordOf.mono : ∀ a0 a1 k, LeO (impl_isWordOf.f k a0 a1) (impl_isWordOf.f (k + 1) a0 a1) := by
  intro a0 a1 k
  unfold impl_isWordOf.f
  repeat' first
      | (with_reducible exact impl_hasOnly.mono _ _ _)
      | (with_reducible exact LeO.refl _)
      | (with_reducible exact LeO.none _)
      | (with_reducible refine LeO.ite ?_ ?_)
      | (with_reducible refine LeO.bind ?_ (fun _ => ?_))
      | exact impl_hasOnly.mono _ _ _
      | exact LeO.none _
      | refine LeO.ite ?_ ?_
      | refine LeO.bind ?_ (fun _ => ?_)
noncomputable def impl_isWordOf.F (a0 : ByteArray) (a1 : ByteArray) : Option (Bool) := lim fun k => impl_isWordOf.f k a0 a1
theorem impl_isWordOf.F_lim (a0 : ByteArray) (a1 : ByteArray) : Lim (fun k => impl_isWordOf.f k a0 a1) (impl_isWordOf.F a0 a1) := ⟨impl_isWordOf.mono a0 a1, rfl⟩
theorem impl_isWordOf.F_eq (a0 : ByteArray) (a1 : ByteArray) : impl_isWordOf.F a0 a1 = ((impl_within.f (a0.size : Int) 1 8).bind fun t215 => (if t215 = true then ((impl_hasOnly.F a0 a1).bind fun t216 => (some t216)) else (some false))) := by
  refine Lim.eq_ ?_
  simp only [impl_isWordOf.f]
  repeat' first
  | (with_reducible exact impl_hasOnly.F_lim _ _)
  | (with_reducible refine Lim.ite ?_ ?_)
  | (with_reducible refine Lim.bind ?_ (fun _ => ?_))
  | (with_reducible exact Lim.const _)
def impl_isAngle.f (a0 : Int) : Option (Bool) := (impl_within.f a0 (-90) 90).bind fun t217 => (some t217)
def impl_locusOf_1.f (a0_0 : ByteArray) (a0_1 : Int) (a1_0 : ByteArray) : Option (Bool) := some (a0_0.toList == a1_0.toList)
def slices_IndexFunc_Locus_impl_locusOf_1.l0 : Nat → List (S55) → Int → Int → ByteArray → Option (Int)
  | 0, _, _, _, _ => none
  | k + 1, x0, x7, x8, x39000 => if x8 < x7 then (if 0 ≤ x8 then (if x8 < (x0.length : Int) then ((impl_locusOf_1.f ((rd_T55 x0 x8).f0) ((rd_T55 x0 x8).f1) x39000).bind fun t220 => (if t220 = true then (some x8) else (slices_IndexFunc_Locus_impl_locusOf_1.l0 k x0 x7 (wrap64 (x8 + 1)) x39000))) else (none)) else (none)) else (some (-1))
def slices_IndexFunc_Locus_impl_locusOf_1.f (k : Nat) (l0 : List (S55)) (a1_0 : ByteArray) : Option (Int) := slices_IndexFunc_Locus_impl_locusOf_1.l0 k l0 (l0.length : Int) 0 a1_0
theorem slices_IndexFunc_Locus_impl_locusOf_1.mono_l : ∀ k, (∀ y0 y1 y2 y3, LeO (slices_IndexFunc_Locus_impl_locusOf_1.l0 k y0 y1 y2 y3) (slices_IndexFunc_Locus_impl_locusOf_1.l0 (k + 1) y0 y1 y2 y3))
  | 0 => fun _ _ _ _ r h => by simp [slices_IndexFunc_Locus_impl_locusOf_1.l0] at h
  | k + 1 => by
    have ih0 := slices_IndexFunc_Locus_impl_locusOf_1.mono_l k
    · intro y0 y1 y2 y3
      unfold slices_IndexFunc_Locus_impl_locusOf_1.l0
      repeat' first
      | (with_reducible exact ih0 _ _ _ _)
      | (with_reducible exact LeO.refl _)
      | (with_reducible exact LeO.none _)
      | (with_reducible refine LeO.ite ?_ ?_)
      | (with_reducible refine LeO.bind ?_ (fun _ => ?_))
      | exact ih0 _ _ _ _
      | exact LeO.none _
      | refine LeO.ite ?_ ?_
      | refine LeO.bind ?_ (fun _ => ?_)
theorem slices_IndexFunc_Locus_impl_locusOf_1.mono : ∀ a0 a1 k, LeO (slices_IndexFunc_Locus_impl_locusOf_1.f k a0 a1) (slices_IndexFunc_Locus_impl_locusOf_1.f (k + 1) a0 a1) := by
  intro a0 a1 k
  have ih0 := slices_IndexFunc_Locus_impl_locusOf_1.mono_l k
  unfold slices_IndexFunc_Locus_impl_locusOf_1.f
  repeat' first
      | (with_reducible exact ih0 _ _ _ _)
      | (with_reducible exact LeO.refl _)
      | (with_reducible exact LeO.none _)
      | (with_reducible refine LeO.ite ?_ ?_)
      | (with_reducible refine LeO.bind ?_ (fun _ => ?_))
      | exact ih0 _ _ _ _
      | exact LeO.none _
      | refine LeO.ite ?_ ?_
      | refine LeO.bind ?_ (fun _ => ?_)
noncomputable def slices_IndexFunc_Locus_impl_locusOf_1.L0 (x0 : List (S55)) (x7 : Int) (x8 : Int) (x39000 : ByteArray) : Option (Int) := lim fun k => slices_IndexFunc_Locus_impl_locusOf_1.l0 k x0 x7 x8 x39000
theorem slices_IndexFunc_Locus_impl_locusOf_1.L0_lim (x0 : List (S55)) (x7 : Int) (x8 : Int) (x39000 : ByteArray) : Lim (fun k => slices_IndexFunc_Locus_impl_locusOf_1.l0 k x0 x7 x8 x39000) (slices_IndexFunc_Locus_impl_locusOf_1.L0 x0 x7 x8 x39000) := ⟨fun k => (slices_IndexFunc_Locus_impl_locusOf_1.mono_l k) x0 x7 x8 x39000, rfl⟩
noncomputable def slices_IndexFunc_Locus_impl_locusOf_1.F (l0 : List (S55)) (a1_0 : ByteArray) : Option (Int) := lim fun k => slices_IndexFunc_Locus_impl_locusOf_1.f k l0 a1_0
theorem slices_IndexFunc_Locus_impl_locusOf_1.F_lim (l0 : List (S55)) (a1_0 : ByteArray) : Lim (fun k => slices_IndexFunc_Locus_impl_locusOf_1.f k l0 a1_0) (slices_IndexFunc_Locus_impl_locusOf_1.F l0 a1_0) := ⟨slices_IndexFunc_Locus_impl_locusOf_1.mono l0 a1_0, rfl⟩
theorem slices_IndexFunc_Locus_impl_locusOf_1.L0_eq (x0 : List (S55)) (x7 : Int) (x8 : Int) (x39000 : ByteArray) : slices_IndexFunc_Locus_impl_locusOf_1.L0 x0 x7 x8 x39000 = (if x8 < x7 then (if 0 ≤ x8 then (if x8 < (x0.length : Int) then ((impl_locusOf_1.f ((rd_T55 x0 x8).f0) ((rd_T55 x0 x8).f1) x39000).bind fun t220 => (if t220 = true then (some x8) else (slices_IndexFunc_Locus_impl_locusOf_1.L0 x0 x7 (wrap64 (x8 + 1)) x39000))) else (none)) else (none)) else (some (-1))) := by
  refine Lim.succ_eq (slices_IndexFunc_Locus_impl_locusOf_1.L0_lim x0 x7 x8 x39000).mon ?_
  simp only [slices_IndexFunc_Locus_impl_locusOf_1.l0]
  repeat' first
  | (with_reducible exact slices_IndexFunc_Locus_impl_locusOf_1.L0_lim _ _ _ _)
  | (with_reducible refine Lim.ite ?_ ?_)
  | (with_reducible refine Lim.bind ?_ (fun _ => ?_))
  | (with_reducible exact Lim.const _)
theorem slices_IndexFunc_Locus_impl_locusOf_1.F_eq (l0 : List (S55)) (a1_0 : ByteArray) : slices_IndexFunc_Locus_impl_locusOf_1.F l0 a1_0 = (slices_IndexFunc_Locus_impl_locusOf_1.L0 l0 (l0.length : Int) 0 a1_0) := by
  refine Lim.eq_ ?_
  simp only [slices_IndexFunc_Locus_impl_locusOf_1.f]
  repeat' first
  | (with_reducible exact slices_IndexFunc_Locus_impl_locusOf_1.L0_lim _ _ _ _)
  | (with_reducible refine Lim.ite ?_ ?_)
  | (with_reducible refine Lim.bind ?_ (fun _ => ?_))
  | (with_reducible exact Lim.const _)
def impl_locusOf.f (k : Nat) (l0 : List (S55)) (a1 : ByteArray) : Option (Int) := (slices_IndexFunc_Locus_impl_locusOf_1.f k l0 a1).bind fun t222 => (some t222)
theorem impl_locusOf.mono : ∀ a0 a1 k, LeO (impl_locusOf.f k a0 a1) (impl_locusOf.f (k + 1) a0 a1) := by
  intro a0 a1 k
  unfold impl_locusOf.f
  repeat' first
      | (with_reducible exact slices_IndexFunc_Locus_impl_locusOf_1.mono _ _ _)
      | (with_reducible exact LeO.refl _)
      | (with_reducible exact LeO.none _)
      | (with_reducible refine LeO.ite ?_ ?_)
      | (with_reducible refine LeO.bind ?_ (fun _ => ?_))
      | exact slices_IndexFunc_Locus_impl_locusOf_1.mono _ _ _
      | exact LeO.none _
      | refine LeO.ite ?_ ?_
      | refine LeO.bind ?_ (fun _ => ?_)
noncomputable def impl_locusOf.F (l0 : List (S55)) (a1 : ByteArray) : Option (Int) := lim fun k => impl_locusOf.f k l0 a1
theorem impl_locusOf.F_lim (l0 : List (S55)) (a1 : ByteArray) : Lim (fun k => impl_locusOf.f k l0 a1) (impl_locusOf.F l0 a1) := ⟨impl_locusOf.mono l0 a1, rfl⟩
theorem impl_locusOf.F_eq (l0 : List (S55)) (a1 : ByteArray) : impl_locusOf.F l0 a1 = ((slices_IndexFunc_Locus_impl_locusOf_1.F l0 a1).bind fun t222 => (some t222)) := by
  refine Lim.eq_ ?_
  simp only [impl_locusOf.f]
  repeat' first
  | (with_reducible exact slices_IndexFunc_Locus_impl_locusOf_1.F_lim _ _)
  | (with_reducible refine Lim.ite ?_ ?_)
  | (with_reducible refine Lim.bind ?_ (fun _ => ?_))
  | (with_reducible exact Lim.const _)
mutual
def impl_AreLoci.l0 : Nat → List (S55) → List (S55) → Int → Int → Option (Bool)
  | 0, _, _, _, _ => none
  | k + 1, x0, x5, x6, x7 => if x7 < x6 then (if 0 ≤ x7 then (if x7 < (x5.length : Int) then ((impl_isWordOf.f k ((rd_T55 x5 x7).f0) (⟨#[97, 98, 99, 100, 101, 102, 103, 104, 105, 106, 107, 108, 109, 110, 111, 112, 113, 114, 115, 116, 117, 118, 119, 120, 121, 122]⟩ : ByteArray)).bind fun t225 => (if t225 = true then ((impl_isAngle.f ((rd_T55 x5 x7).f1)).bind fun t226 => (if t226 = true then (if x7 > 0 then (if 0 ≤ (wrap64 (x7 - 1)) then (if (wrap64 (x7 - 1)) < (x0.length : Int) then (if ((rd_T55 x5 x7).f1) ≤ ((rd_T55 x0 (wrap64 (x7 - 1))).f1) then (impl_AreLoci.j1 k x0 x5 x6 x7 true) else (if x7 ≤ (x0.length : Int) then ((impl_locusOf.f k (x0.take (x7 : Int).toNat) ((rd_T55 x5 x7).f0)).bind fun t232 => (impl_AreLoci.j1 k x0 x5 x6 x7 (decide (t232 ≥ 0)))) else (none))) else (none)) else (none)) else (if x7 ≤ (x0.length : Int) then ((impl_locusOf.f k (x0.take (x7 : Int).toNat) ((rd_T55 x5 x7).f0)).bind fun t237 => (impl_AreLoci.j1 k x0 x5 x6 x7 (decide (t237 ≥ 0)))) else (none))) else (impl_AreLoci.j1 k x0 x5 x6 x7 true))) else (impl_AreLoci.j1 k x0 x5 x6 x7 true))) else (none)) else (none)) else (some (decide ((x0.length : Int) ≤ 8)))
def impl_AreLoci.j1 : Nat → List (S55) → List (S55) → Int → Int → Bool → Option (Bool)
  | 0, _, _, _, _, _ => none
  | k + 1, x0, x5, x6, x7, x45 => if x45 = true then (some false) else (impl_AreLoci.l0 k x0 x5 x6 (wrap64 (x7 + 1)))
end
def impl_AreLoci.f (k : Nat) (l0 : List (S55)) : Option (Bool) := impl_AreLoci.l0 k l0 l0 (l0.length : Int) 0
theorem impl_AreLoci.mono_l : ∀ k, (∀ y0 y1 y2 y3, LeO (impl_AreLoci.l0 k y0 y1 y2 y3) (impl_AreLoci.l0 (k + 1) y0 y1 y2 y3)) ∧ (∀ y0 y1 y2 y3 y4, LeO (impl_AreLoci.j1 k y0 y1 y2 y3 y4) (impl_AreLoci.j1 (k + 1) y0 y1 y2 y3 y4))
  | 0 => ⟨fun _ _ _ _ r h => by simp [impl_AreLoci.l0] at h, fun _ _ _ _ _ r h => by simp [impl_AreLoci.j1] at h⟩
  | k + 1 => by
    obtain ⟨ih0, ih1⟩ := impl_AreLoci.mono_l k
    refine ⟨?_, ?_⟩
    · intro y0 y1 y2 y3
      unfold impl_AreLoci.l0
      repeat' first
      | (with_reducible exact ih0 _ _ _ _)
      | (with_reducible exact ih1 _ _ _ _ _)
      | (with_reducible exact impl_isWordOf.mono _ _ _)
      | (with_reducible exact impl_locusOf.mono _ _ _)
      | (with_reducible exact LeO.refl _)
      | (with_reducible exact LeO.none _)
      | (with_reducible refine LeO.ite ?_ ?_)
      | (with_reducible refine LeO.bind ?_ (fun _ => ?_))
      | exact ih0 _ _ _ _
      | exact ih1 _ _ _ _ _
      | exact impl_isWordOf.mono _ _ _
      | exact impl_locusOf.mono _ _ _
      | exact LeO.none _
      | refine LeO.ite ?_ ?_
      | refine LeO.bind ?_ (fun _ => ?_)
    · intro y0 y1 y2 y3 y4
      unfold impl_AreLoci.j1
      repeat' first
      | (with_reducible exact ih0 _ _ _ _)
      | (with_reducible exact ih1 _ _ _ _ _)
      | (with_reducible exact impl_isWordOf.mono _ _ _)
      | (with_reducible exact impl_locusOf.mono _ _ _)
      | (with_reducible exact LeO.refl _)
      | (with_reducible exact LeO.none _)
      | (with_reducible refine LeO.ite ?_ ?_)
      | (with_reducible refine LeO.bind ?_ (fun _ => ?_))
      | exact ih0 _ _ _ _
      | exact ih1 _ _ _ _ _
      | exact impl_isWordOf.mono _ _ _
      | exact impl_locusOf.mono _ _ _
      | exact LeO.none _
      | refine LeO.ite ?_ ?_
      | refine LeO.bind ?_ (fun _ => ?_)
theorem impl_AreLoci.mono : ∀ a0 k, LeO (impl_AreLoci.f k a0) (impl_AreLoci.f (k + 1) a0) := by
  intro a0 k
  obtain ⟨ih0, ih1⟩ := impl_AreLoci.mono_l k
  unfold impl_AreLoci.f
  repeat' first
      | (with_reducible exact ih0 _ _ _ _)
      | (with_reducible exact ih1 _ _ _ _ _)
      | (with_reducible exact impl_isWordOf.mono _ _ _)
      | (with_reducible exact impl_locusOf.mono _ _ _)
      | (with_reducible exact LeO.refl _)
      | (with_reducible exact LeO.none _)
      | (with_reducible refine LeO.ite ?_ ?_)
      | (with_reducible refine LeO.bind ?_ (fun _ => ?_))
      | exact ih0 _ _ _ _
      | exact ih1 _ _ _ _ _
      | exact impl_isWordOf.mono _ _ _
      | exact impl_locusOf.mono _ _ _
      | exact LeO.none _
      | refine LeO.ite ?_ ?_
      | refine LeO.bind ?_ (fun _ => ?_)
noncomputable def impl_AreLoci.L0 (x0 : List (S55)) (x5 : List (S55)) (x6 : Int) (x7 : Int) : Option (Bool) := lim fun k => impl_AreLoci.l0 k x0 x5 x6 x7
theorem impl_AreLoci.L0_lim (x0 : List (S55)) (x5 : List (S55)) (x6 : Int) (x7 : Int) : Lim (fun k => impl_AreLoci.l0 k x0 x5 x6 x7) (impl_AreLoci.L0 x0 x5 x6 x7) := ⟨fun k => (impl_AreLoci.mono_l k).1 x0 x5 x6 x7, rfl⟩
noncomputable def impl_AreLoci.J1 (x0 : List (S55)) (x5 : List (S55)) (x6 : Int) (x7 : Int) (x45 : Bool) : Option (Bool) := lim fun k => impl_AreLoci.j1 k x0 x5 x6 x7 x45
theorem impl_AreLoci.J1_lim (x0 : List (S55)) (x5 : List (S55)) (x6 : Int) (x7 : Int) (x45 : Bool) : Lim (fun k => impl_AreLoci.j1 k x0 x5 x6 x7 x45) (impl_AreLoci.J1 x0 x5 x6 x7 x45) := ⟨fun k => (impl_AreLoci.mono_l k).2 x0 x5 x6 x7 x45, rfl⟩
noncomputable def impl_AreLoci.F (l0 : List (S55)) : Option (Bool) := lim fun k => impl_AreLoci.f k l0
theorem impl_AreLoci.F_lim (l0 : List (S55)) : Lim (fun k => impl_AreLoci.f k l0) (impl_AreLoci.F l0) := ⟨impl_AreLoci.mono l0, rfl⟩
theorem impl_AreLoci.L0_eq (x0 : List (S55)) (x5 : List (S55)) (x6 : Int) (x7 : Int) : impl_AreLoci.L0 x0 x5 x6 x7 = (if x7 < x6 then (if 0 ≤ x7 then (if x7 < (x5.length : Int) then ((impl_isWordOf.F ((rd_T55 x5 x7).f0) (⟨#[97, 98, 99, 100, 101, 102, 103, 104, 105, 106, 107, 108, 109, 110, 111, 112, 113, 114, 115, 116, 117, 118, 119, 120, 121, 122]⟩ : ByteArray)).bind fun t225 => (if t225 = true then ((impl_isAngle.f ((rd_T55 x5 x7).f1)).bind fun t226 => (if t226 = true then (if x7 > 0 then (if 0 ≤ (wrap64 (x7 - 1)) then (if (wrap64 (x7 - 1)) < (x0.length : Int) then (if ((rd_T55 x5 x7).f1) ≤ ((rd_T55 x0 (wrap64 (x7 - 1))).f1) then (impl_AreLoci.J1 x0 x5 x6 x7 true) else (if x7 ≤ (x0.length : Int) then ((impl_locusOf.F (x0.take (x7 : Int).toNat) ((rd_T55 x5 x7).f0)).bind fun t232 => (impl_AreLoci.J1 x0 x5 x6 x7 (decide (t232 ≥ 0)))) else (none))) else (none)) else (none)) else (if x7 ≤ (x0.length : Int) then ((impl_locusOf.F (x0.take (x7 : Int).toNat) ((rd_T55 x5 x7).f0)).bind fun t237 => (impl_AreLoci.J1 x0 x5 x6 x7 (decide (t237 ≥ 0)))) else (none))) else (impl_AreLoci.J1 x0 x5 x6 x7 true))) else (impl_AreLoci.J1 x0 x5 x6 x7 true))) else (none)) else (none)) else (some (decide ((x0.length : Int) ≤ 8)))) := by
  refine Lim.succ_eq (impl_AreLoci.L0_lim x0 x5 x6 x7).mon ?_
  simp only [impl_AreLoci.l0]
  repeat' first
  | (with_reducible exact impl_AreLoci.L0_lim _ _ _ _)
  | (with_reducible exact impl_AreLoci.J1_lim _ _ _ _ _)
  | (with_reducible exact impl_isWordOf.F_lim _ _)
  | (with_reducible exact impl_locusOf.F_lim _ _)
  | (with_reducible refine Lim.ite ?_ ?_)
  | (with_reducible refine Lim.bind ?_ (fun _ => ?_))
  | (with_reducible exact Lim.const _)
theorem impl_AreLoci.J1_eq (x0 : List (S55)) (x5 : List (S55)) (x6 : Int) (x7 : Int) (x45 : Bool) : impl_AreLoci.J1 x0 x5 x6 x7 x45 = (if x45 = true then (some false) else (impl_AreLoci.L0 x0 x5 x6 (wrap64 (x7 + 1)))) := by
  refine Lim.succ_eq (impl_AreLoci.J1_lim x0 x5 x6 x7 x45).mon ?_
  simp only [impl_AreLoci.j1]
  repeat' first
  | (with_reducible exact impl_AreLoci.L0_lim _ _ _ _)
  | (with_reducible exact impl_AreLoci.J1_lim _ _ _ _ _)
  | (with_reducible exact impl_isWordOf.F_lim _ _)
  | (with_reducible exact impl_locusOf.F_lim _ _)
  | (with_reducible refine Lim.ite ?_ ?_)
  | (with_reducible refine Lim.bind ?_ (fun _ => ?_))
  | (with_reducible exact Lim.const _)
theorem impl_AreLoci.F_eq (l0 : List (S55)) : impl_AreLoci.F l0 = (impl_AreLoci.L0 l0 l0 (l0.length : Int) 0) := by
  refine Lim.eq_ ?_
  simp only [impl_AreLoci.f]
  repeat' first
  | (with_reducible exact impl_AreLoci.L0_lim _ _ _ _)
  | (with_reducible exact impl_AreLoci.J1_lim _ _ _ _ _)
  | (with_reducible exact impl_isWordOf.F_lim _ _)
  | (with_reducible exact impl_locusOf.F_lim _ _)
  | (with_reducible refine Lim.ite ?_ ?_)
  | (with_reducible refine Lim.bind ?_ (fun _ => ?_))
  | (with_reducible exact Lim.const _)
def impl_IsGloss.f (k : Nat) (a0 : ByteArray) : Option (Bool) := (impl_isWordOf.f k a0 (⟨#[65, 66, 67, 68, 69, 70, 71, 72, 73, 74, 75, 76, 77, 78, 79, 80, 81, 82, 83, 84, 85, 86, 87, 88, 89, 90]⟩ : ByteArray)).bind fun t238 => (some t238)
theorem impl_IsGloss.mono : ∀ a0 k, LeO (impl_IsGloss.f k a0) (impl_IsGloss.f (k + 1) a0) := by
  intro a0 k
  unfold impl_IsGloss.f
  repeat' first
      | (with_reducible exact impl_isWordOf.mono _ _ _)
      | (with_reducible exact LeO.refl _)
      | (with_reducible exact LeO.none _)
      | (with_reducible refine LeO.ite ?_ ?_)
      | (with_reducible refine LeO.bind ?_ (fun _ => ?_))
      | exact impl_isWordOf.mono _ _ _
      | exact LeO.none _
      | refine LeO.ite ?_ ?_
      | refine LeO.bind ?_ (fun _ => ?_)
noncomputable def impl_IsGloss.F (a0 : ByteArray) : Option (Bool) := lim fun k => impl_IsGloss.f k a0
theorem impl_IsGloss.F_lim (a0 : ByteArray) : Lim (fun k => impl_IsGloss.f k a0) (impl_IsGloss.F a0) := ⟨impl_IsGloss.mono a0, rfl⟩
theorem impl_IsGloss.F_eq (a0 : ByteArray) : impl_IsGloss.F a0 = ((impl_isWordOf.F a0 (⟨#[65, 66, 67, 68, 69, 70, 71, 72, 73, 74, 75, 76, 77, 78, 79, 80, 81, 82, 83, 84, 85, 86, 87, 88, 89, 90]⟩ : ByteArray)).bind fun t238 => (some t238)) := by
  refine Lim.eq_ ?_
  simp only [impl_IsGloss.f]
  repeat' first
  | (with_reducible exact impl_isWordOf.F_lim _ _)
  | (with_reducible refine Lim.ite ?_ ?_)
  | (with_reducible refine Lim.bind ?_ (fun _ => ?_))
  | (with_reducible exact Lim.const _)
def impl_IsVerb.f (k : Nat) (a0_0 : ByteArray) (a0_1 : Int) (a0_2 : Int) : Option (Bool) := (impl_IsGloss.f k a0_0).bind fun t240 => (if t240 = true then ((impl_isAngle.f a0_1).bind fun t241 => (if t241 = true then ((impl_isAngle.f a0_2).bind fun t242 => (if t242 = true then (some (a0_1 != a0_2)) else (some false))) else (some false))) else (some false))
theorem impl_IsVerb.mono : ∀ a0 a1 a2 k, LeO (impl_IsVerb.f k a0 a1 a2) (impl_IsVerb.f (k + 1) a0 a1 a2) := by
  intro a0 a1 a2 k
  unfold impl_IsVerb.f
  repeat' first
      | (with_reducible exact impl_IsGloss.mono _ _)
      | (with_reducible exact LeO.refl _)
      | (with_reducible exact LeO.none _)
      | (with_reducible refine LeO.ite ?_ ?_)
      | (with_reducible refine LeO.bind ?_ (fun _ => ?_))
      | exact impl_IsGloss.mono _ _
      | exact LeO.none _
      | refine LeO.ite ?_ ?_
      | refine LeO.bind ?_ (fun _ => ?_)
noncomputable def impl_IsVerb.F (a0_0 : ByteArray) (a0_1 : Int) (a0_2 : Int) : Option (Bool) := lim fun k => impl_IsVerb.f k a0_0 a0_1 a0_2
theorem impl_IsVerb.F_lim (a0_0 : ByteArray) (a0_1 : Int) (a0_2 : Int) : Lim (fun k => impl_IsVerb.f k a0_0 a0_1 a0_2) (impl_IsVerb.F a0_0 a0_1 a0_2) := ⟨impl_IsVerb.mono a0_0 a0_1 a0_2, rfl⟩
theorem impl_IsVerb.F_eq (a0_0 : ByteArray) (a0_1 : Int) (a0_2 : Int) : impl_IsVerb.F a0_0 a0_1 a0_2 = ((impl_IsGloss.F a0_0).bind fun t240 => (if t240 = true then ((impl_isAngle.f a0_1).bind fun t241 => (if t241 = true then ((impl_isAngle.f a0_2).bind fun t242 => (if t242 = true then (some (a0_1 != a0_2)) else (some false))) else (some false))) else (some false))) := by
  refine Lim.eq_ ?_
  simp only [impl_IsVerb.f]
  repeat' first
  | (with_reducible exact impl_IsGloss.F_lim _)
  | (with_reducible refine Lim.ite ?_ ?_)
  | (with_reducible refine Lim.bind ?_ (fun _ => ?_))
  | (with_reducible exact Lim.const _)
def impl_allOf_Verb_1_impl_IsVerb.f (k : Nat) (a0_0 : ByteArray) (a0_1 : Int) (a0_2 : Int)  : Option (Bool) := (impl_IsVerb.f k a0_0 a0_1 a0_2).bind fun t244 => (some (!t244))
theorem impl_allOf_Verb_1_impl_IsVerb.mono : ∀ a0 a1 a2 k, LeO (impl_allOf_Verb_1_impl_IsVerb.f k a0 a1 a2) (impl_allOf_Verb_1_impl_IsVerb.f (k + 1) a0 a1 a2) := by
  intro a0 a1 a2 k
  unfold impl_allOf_Verb_1_impl_IsVerb.f
  repeat' first
      | (with_reducible exact impl_IsVerb.mono _ _ _ _)
      | (with_reducible exact LeO.refl _)
      | (with_reducible exact LeO.none _)
      | (with_reducible refine LeO.ite ?_ ?_)
      | (with_reducible refine LeO.bind ?_ (fun _ => ?_))
      | exact impl_IsVerb.mono _ _ _ _
      | exact LeO.none _
      | refine LeO.ite ?_ ?_
      | refine LeO.bind ?_ (fun _ => ?_)
noncomputable def impl_allOf_Verb_1_impl_IsVerb.F (a0_0 : ByteArray) (a0_1 : Int) (a0_2 : Int)  : Option (Bool) := lim fun k => impl_allOf_Verb_1_impl_IsVerb.f k a0_0 a0_1 a0_2
theorem impl_allOf_Verb_1_impl_IsVerb.F_lim (a0_0 : ByteArray) (a0_1 : Int) (a0_2 : Int)  : Lim (fun k => impl_allOf_Verb_1_impl_IsVerb.f k a0_0 a0_1 a0_2) (impl_allOf_Verb_1_impl_IsVerb.F a0_0 a0_1 a0_2) := ⟨impl_allOf_Verb_1_impl_IsVerb.mono a0_0 a0_1 a0_2, rfl⟩
theorem impl_allOf_Verb_1_impl_IsVerb.F_eq (a0_0 : ByteArray) (a0_1 : Int) (a0_2 : Int)  : impl_allOf_Verb_1_impl_IsVerb.F a0_0 a0_1 a0_2 = ((impl_IsVerb.F a0_0 a0_1 a0_2).bind fun t244 => (some (!t244))) := by
  refine Lim.eq_ ?_
  simp only [impl_allOf_Verb_1_impl_IsVerb.f]
  repeat' first
  | (with_reducible exact impl_IsVerb.F_lim _ _ _)
  | (with_reducible refine Lim.ite ?_ ?_)
  | (with_reducible refine Lim.bind ?_ (fun _ => ?_))
  | (with_reducible exact Lim.const _)
def slices_IndexFunc_Verb_impl_allOf_Verb_1_impl_IsVerb.l0 : Nat → List (S78) → Int → Int → Option (Int)
  | 0, _, _, _ => none
  | k + 1, x0, x7, x8 => if x8 < x7 then (if 0 ≤ x8 then (if x8 < (x0.length : Int) then ((impl_allOf_Verb_1_impl_IsVerb.f k ((rd_T78 x0 x8).f0) ((rd_T78 x0 x8).f1) ((rd_T78 x0 x8).f2)).bind fun t246 => (if t246 = true then (some x8) else (slices_IndexFunc_Verb_impl_allOf_Verb_1_impl_IsVerb.l0 k x0 x7 (wrap64 (x8 + 1))))) else (none)) else (none)) else (some (-1))
def slices_IndexFunc_Verb_impl_allOf_Verb_1_impl_IsVerb.f (k : Nat) (l0 : List (S78))  : Option (Int) := slices_IndexFunc_Verb_impl_allOf_Verb_1_impl_IsVerb.l0 k l0 (l0.length : Int) 0
theorem slices_IndexFunc_Verb_impl_allOf_Verb_1_impl_IsVerb.mono_l : ∀ k, (∀ y0 y1 y2, LeO (slices_IndexFunc_Verb_impl_allOf_Verb_1_impl_IsVerb.l0 k y0 y1 y2) (slices_IndexFunc_Verb_impl_allOf_Verb_1_impl_IsVerb.l0 (k + 1) y0 y1 y2))
  | 0 => fun _ _ _ r h => by simp [slices_IndexFunc_Verb_impl_allOf_Verb_1_impl_IsVerb.l0] at h
  | k + 1 => by
    have ih0 := slices_IndexFunc_Verb_impl_allOf_Verb_1_impl_IsVerb.mono_l k
    · intro y0 y1 y2
      unfold slices_IndexFunc_Verb_impl_allOf_Verb_1_impl_IsVerb.l0
      repeat' first
      | (with_reducible exact ih0 _ _ _)
      | (with_reducible exact impl_allOf_Verb_1_impl_IsVerb.mono _ _ _ _)
      | (with_reducible exact LeO.refl _)
      | (with_reducible exact LeO.none _)
      | (with_reducible refine LeO.ite ?_ ?_)
      | (with_reducible refine LeO.bind ?_ (fun _ => ?_))
      | exact ih0 _ _ _
      | exact impl_allOf_Verb_1_impl_IsVerb.mono _ _ _ _
      | exact LeO.none _
      | refine LeO.ite ?_ ?_
      | refine LeO.bind ?_ (fun _ => ?_)
theorem slices_IndexFunc_Verb_impl_allOf_Verb_1_impl_IsVerb.mono : ∀ a0 k, LeO (slices_IndexFunc_Verb_impl_allOf_Verb_1_impl_IsVerb.f k a0) (slices_IndexFunc_Verb_impl_allOf_Verb_1_impl_IsVerb.f (k + 1) a0) := by
  intro a0 k
  have ih0 := slices_IndexFunc_Verb_impl_allOf_Verb_1_impl_IsVerb.mono_l k
  unfold slices_IndexFunc_Verb_impl_allOf_Verb_1_impl_IsVerb.f
  repeat' first
      | (with_reducible exact ih0 _ _ _)
      | (with_reducible exact impl_allOf_Verb_1_impl_IsVerb.mono _ _ _ _)
      | (with_reducible exact LeO.refl _)
      | (with_reducible exact LeO.none _)
      | (with_reducible refine LeO.ite ?_ ?_)
      | (with_reducible refine LeO.bind ?_ (fun _ => ?_))
      | exact ih0 _ _ _
      | exact impl_allOf_Verb_1_impl_IsVerb.mono _ _ _ _
      | exact LeO.none _
      | refine LeO.ite ?_ ?_
      | refine LeO.bind ?_ (fun _ => ?_)
noncomputable def slices_IndexFunc_Verb_impl_allOf_Verb_1_impl_IsVerb.L0 (x0 : List (S78)) (x7 : Int) (x8 : Int) : Option (Int) := lim fun k => slices_IndexFunc_Verb_impl_allOf_Verb_1_impl_IsVerb.l0 k x0 x7 x8
theorem slices_IndexFunc_Verb_impl_allOf_Verb_1_impl_IsVerb.L0_lim (x0 : List (S78)) (x7 : Int) (x8 : Int) : Lim (fun k => slices_IndexFunc_Verb_impl_allOf_Verb_1_impl_IsVerb.l0 k x0 x7 x8) (slices_IndexFunc_Verb_impl_allOf_Verb_1_impl_IsVerb.L0 x0 x7 x8) := ⟨fun k => (slices_IndexFunc_Verb_impl_allOf_Verb_1_impl_IsVerb.mono_l k) x0 x7 x8, rfl⟩
noncomputable def slices_IndexFunc_Verb_impl_allOf_Verb_1_impl_IsVerb.F (l0 : List (S78))  : Option (Int) := lim fun k => slices_IndexFunc_Verb_impl_allOf_Verb_1_impl_IsVerb.f k l0
theorem slices_IndexFunc_Verb_impl_allOf_Verb_1_impl_IsVerb.F_lim (l0 : List (S78))  : Lim (fun k => slices_IndexFunc_Verb_impl_allOf_Verb_1_impl_IsVerb.f k l0) (slices_IndexFunc_Verb_impl_allOf_Verb_1_impl_IsVerb.F l0) := ⟨slices_IndexFunc_Verb_impl_allOf_Verb_1_impl_IsVerb.mono l0, rfl⟩
theorem slices_IndexFunc_Verb_impl_allOf_Verb_1_impl_IsVerb.L0_eq (x0 : List (S78)) (x7 : Int) (x8 : Int) : slices_IndexFunc_Verb_impl_allOf_Verb_1_impl_IsVerb.L0 x0 x7 x8 = (if x8 < x7 then (if 0 ≤ x8 then (if x8 < (x0.length : Int) then ((impl_allOf_Verb_1_impl_IsVerb.F ((rd_T78 x0 x8).f0) ((rd_T78 x0 x8).f1) ((rd_T78 x0 x8).f2)).bind fun t246 => (if t246 = true then (some x8) else (slices_IndexFunc_Verb_impl_allOf_Verb_1_impl_IsVerb.L0 x0 x7 (wrap64 (x8 + 1))))) else (none)) else (none)) else (some (-1))) := by
  refine Lim.succ_eq (slices_IndexFunc_Verb_impl_allOf_Verb_1_impl_IsVerb.L0_lim x0 x7 x8).mon ?_
  simp only [slices_IndexFunc_Verb_impl_allOf_Verb_1_impl_IsVerb.l0]
  repeat' first
  | (with_reducible exact slices_IndexFunc_Verb_impl_allOf_Verb_1_impl_IsVerb.L0_lim _ _ _)
  | (with_reducible exact impl_allOf_Verb_1_impl_IsVerb.F_lim _ _ _)
  | (with_reducible refine Lim.ite ?_ ?_)
  | (with_reducible refine Lim.bind ?_ (fun _ => ?_))
  | (with_reducible exact Lim.const _)
theorem slices_IndexFunc_Verb_impl_allOf_Verb_1_impl_IsVerb.F_eq (l0 : List (S78))  : slices_IndexFunc_Verb_impl_allOf_Verb_1_impl_IsVerb.F l0 = (slices_IndexFunc_Verb_impl_allOf_Verb_1_impl_IsVerb.L0 l0 (l0.length : Int) 0) := by
  refine Lim.eq_ ?_
  simp only [slices_IndexFunc_Verb_impl_allOf_Verb_1_impl_IsVerb.f]
  repeat' first
  | (with_reducible exact slices_IndexFunc_Verb_impl_allOf_Verb_1_impl_IsVerb.L0_lim _ _ _)
  | (with_reducible exact impl_allOf_Verb_1_impl_IsVerb.F_lim _ _ _)
  | (with_reducible refine Lim.ite ?_ ?_)
  | (with_reducible refine Lim.bind ?_ (fun _ => ?_))
  | (with_reducible exact Lim.const _)
def slices_ContainsFunc_Verb_impl_allOf_Verb_1_impl_IsVerb.f (k : Nat) (l0 : List (S78))  : Option (Bool) := (slices_IndexFunc_Verb_impl_allOf_Verb_1_impl_IsVerb.f k l0).bind fun t247 => (some (decide (t247 ≥ 0)))
theorem slices_ContainsFunc_Verb_impl_allOf_Verb_1_impl_IsVerb.mono : ∀ a0 k, LeO (slices_ContainsFunc_Verb_impl_allOf_Verb_1_impl_IsVerb.f k a0) (slices_ContainsFunc_Verb_impl_allOf_Verb_1_impl_IsVerb.f (k + 1) a0) := by
  intro a0 k
  unfold slices_ContainsFunc_Verb_impl_allOf_Verb_1_impl_IsVerb.f
  repeat' first
      | (with_reducible exact slices_IndexFunc_Verb_impl_allOf_Verb_1_impl_IsVerb.mono _ _)
      | (with_reducible exact LeO.refl _)
      | (with_reducible exact LeO.none _)
      | (with_reducible refine LeO.ite ?_ ?_)
      | (with_reducible refine LeO.bind ?_ (fun _ => ?_))
      | exact slices_IndexFunc_Verb_impl_allOf_Verb_1_impl_IsVerb.mono _ _
      | exact LeO.none _
      | refine LeO.ite ?_ ?_
      | refine LeO.bind ?_ (fun _ => ?_)
noncomputable def slices_ContainsFunc_Verb_impl_allOf_Verb_1_impl_IsVerb.F (l0 : List (S78))  : Option (Bool) := lim fun k => slices_ContainsFunc_Verb_impl_allOf_Verb_1_impl_IsVerb.f k l0
theorem slices_ContainsFunc_Verb_impl_allOf_Verb_1_impl_IsVerb.F_lim (l0 : List (S78))  : Lim (fun k => slices_ContainsFunc_Verb_impl_allOf_Verb_1_impl_IsVerb.f k l0) (slices_ContainsFunc_Verb_impl_allOf_Verb_1_impl_IsVerb.F l0) := ⟨slices_ContainsFunc_Verb_impl_allOf_Verb_1_impl_IsVerb.mono l0, rfl⟩
theorem slices_ContainsFunc_Verb_impl_allOf_Verb_1_impl_IsVerb.F_eq (l0 : List (S78))  : slices_ContainsFunc_Verb_impl_allOf_Verb_1_impl_IsVerb.F l0 = ((slices_IndexFunc_Verb_impl_allOf_Verb_1_impl_IsVerb.F l0).bind fun t247 => (some (decide (t247 ≥ 0)))) := by
  refine Lim.eq_ ?_
  simp only [slices_ContainsFunc_Verb_impl_allOf_Verb_1_impl_IsVerb.f]
  repeat' first
  | (with_reducible exact slices_IndexFunc_Verb_impl_allOf_Verb_1_impl_IsVerb.F_lim _)
  | (with_reducible refine Lim.ite ?_ ?_)
  | (with_reducible refine Lim.bind ?_ (fun _ => ?_))
  | (with_reducible exact Lim.const _)
def impl_allOf_Verb_impl_IsVerb.f (k : Nat) (l0 : List (S78))  : Option (Bool) := (slices_ContainsFunc_Verb_impl_allOf_Verb_1_impl_IsVerb.f k l0).bind fun t249 => (some (!t249))
theorem impl_allOf_Verb_impl_IsVerb.mono : ∀ a0 k, LeO (impl_allOf_Verb_impl_IsVerb.f k a0) (impl_allOf_Verb_impl_IsVerb.f (k + 1) a0) := by
  intro a0 k
  unfold impl_allOf_Verb_impl_IsVerb.f
  repeat' first
      | (with_reducible exact slices_ContainsFunc_Verb_impl_allOf_Verb_1_impl_IsVerb.mono _ _)
      | (with_reducible exact LeO.refl _)
      | (with_reducible exact LeO.none _)
      | (with_reducible refine LeO.ite ?_ ?_)
      | (with_reducible refine LeO.bind ?_ (fun _ => ?_))
      | exact slices_ContainsFunc_Verb_impl_allOf_Verb_1_impl_IsVerb.mono _ _
      | exact LeO.none _
      | refine LeO.ite ?_ ?_
      | refine LeO.bind ?_ (fun _ => ?_)
noncomputable def impl_allOf_Verb_impl_IsVerb.F (l0 : List (S78))  : Option (Bool) := lim fun k => impl_allOf_Verb_impl_IsVerb.f k l0
theorem impl_allOf_Verb_impl_IsVerb.F_lim (l0 : List (S78))  : Lim (fun k => impl_allOf_Verb_impl_IsVerb.f k l0) (impl_allOf_Verb_impl_IsVerb.F l0) := ⟨impl_allOf_Verb_impl_IsVerb.mono l0, rfl⟩
theorem impl_allOf_Verb_impl_IsVerb.F_eq (l0 : List (S78))  : impl_allOf_Verb_impl_IsVerb.F l0 = ((slices_ContainsFunc_Verb_impl_allOf_Verb_1_impl_IsVerb.F l0).bind fun t249 => (some (!t249))) := by
  refine Lim.eq_ ?_
  simp only [impl_allOf_Verb_impl_IsVerb.f]
  repeat' first
  | (with_reducible exact slices_ContainsFunc_Verb_impl_allOf_Verb_1_impl_IsVerb.F_lim _)
  | (with_reducible refine Lim.ite ?_ ?_)
  | (with_reducible refine Lim.bind ?_ (fun _ => ?_))
  | (with_reducible exact Lim.const _)
def impl_areVerbs.f (k : Nat) (l0 : List (S78)) : Option (Bool) := if (l0.length : Int) ≤ 20 then ((impl_allOf_Verb_impl_IsVerb.f k l0).bind fun t250 => (some t250)) else (some false)
theorem impl_areVerbs.mono : ∀ a0 k, LeO (impl_areVerbs.f k a0) (impl_areVerbs.f (k + 1) a0) := by
  intro a0 k
  unfold impl_areVerbs.f
  repeat' first
      | (with_reducible exact impl_allOf_Verb_impl_IsVerb.mono _ _)
      | (with_reducible exact LeO.refl _)
      | (with_reducible exact LeO.none _)
      | (with_reducible refine LeO.ite ?_ ?_)
      | (with_reducible refine LeO.bind ?_ (fun _ => ?_))
      | exact impl_allOf_Verb_impl_IsVerb.mono _ _
      | exact LeO.none _
      | refine LeO.ite ?_ ?_
      | refine LeO.bind ?_ (fun _ => ?_)
noncomputable def impl_areVerbs.F (l0 : List (S78)) : Option (Bool) := lim fun k => impl_areVerbs.f k l0
theorem impl_areVerbs.F_lim (l0 : List (S78)) : Lim (fun k => impl_areVerbs.f k l0) (impl_areVerbs.F l0) := ⟨impl_areVerbs.mono l0, rfl⟩
theorem impl_areVerbs.F_eq (l0 : List (S78)) : impl_areVerbs.F l0 = (if (l0.length : Int) ≤ 20 then ((impl_allOf_Verb_impl_IsVerb.F l0).bind fun t250 => (some t250)) else (some false)) := by
  refine Lim.eq_ ?_
  simp only [impl_areVerbs.f]
  repeat' first
  | (with_reducible exact impl_allOf_Verb_impl_IsVerb.F_lim _)
  | (with_reducible refine Lim.ite ?_ ?_)
  | (with_reducible refine Lim.bind ?_ (fun _ => ?_))
  | (with_reducible exact Lim.const _)
def impl_distance.f (a0 : Int) (a1 : Int) : Option (Int) := some (mx (wrap64 (a0 - a1)) (wrap64 (a1 - a0)))
def impl_nearestLoci.l0 : Nat → Int → Int → List ByteArray → List (S55) → Int → Int → Option (Int × List ByteArray)
  | 0, _, _, _, _, _, _ => none
  | k + 1, x1, x6, x7, x11, x12, x13 => if x13 < x12 then (if 0 ≤ x13 then (if x13 < (x11.length : Int) then ((impl_distance.f ((rd_T55 x11 x13).f1) x1).bind fun t253 => (if t253 < x6 then (if t253 = t253 then (if ([] : List ByteArray).length < 8796093022208 then (impl_nearestLoci.l0 k x1 t253 (([] : List ByteArray) ++ [(rd_T55 x11 x13).f0]) x11 x12 (wrap64 (x13 + 1))) else (none)) else (impl_nearestLoci.l0 k x1 t253 ([] : List ByteArray) x11 x12 (wrap64 (x13 + 1)))) else (if t253 = x6 then (if x7.length < 8796093022208 then (impl_nearestLoci.l0 k x1 x6 (x7 ++ [(rd_T55 x11 x13).f0]) x11 x12 (wrap64 (x13 + 1))) else (none)) else (impl_nearestLoci.l0 k x1 x6 x7 x11 x12 (wrap64 (x13 + 1)))))) else (none)) else (none)) else (some (x6, x7))
def impl_nearestLoci.f (k : Nat) (l0 : List (S55)) (a1 : Int) : Option (Int × List ByteArray) := impl_nearestLoci.l0 k a1 181 ([] : List ByteArray) l0 (l0.length : Int) 0
theorem impl_nearestLoci.mono_l : ∀ k, (∀ y0 y1 y2 y3 y4 y5, LeO (impl_nearestLoci.l0 k y0 y1 y2 y3 y4 y5) (impl_nearestLoci.l0 (k + 1) y0 y1 y2 y3 y4 y5))
  | 0 => fun _ _ _ _ _ _ r h => by simp [impl_nearestLoci.l0] at h
  | k + 1 => by
    have ih0 := impl_nearestLoci.mono_l k
    · intro y0 y1 y2 y3 y4 y5
      unfold impl_nearestLoci.l0
      repeat' first
      | (with_reducible exact ih0 _ _ _ _ _ _)
      | (with_reducible exact LeO.refl _)
      | (with_reducible exact LeO.none _)
      | (with_reducible refine LeO.ite ?_ ?_)
      | (with_reducible refine LeO.bind ?_ (fun _ => ?_))
      | exact ih0 _ _ _ _ _ _
      | exact LeO.none _
      | refine LeO.ite ?_ ?_
      | refine LeO.bind ?_ (fun _ => ?_)
theorem impl_nearestLoci.mono : ∀ a0 a1 k, LeO (impl_nearestLoci.f k a0 a1) (impl_nearestLoci.f (k + 1) a0 a1) := by
  intro a0 a1 k
  have ih0 := impl_nearestLoci.mono_l k
  unfold impl_nearestLoci.f
  repeat' first
      | (with_reducible exact ih0 _ _ _ _ _ _)
      | (with_reducible exact LeO.refl _)
      | (with_reducible exact LeO.none _)
      | (with_reducible refine LeO.ite ?_ ?_)
      | (with_reducible refine LeO.bind ?_ (fun _ => ?_))
      | exact ih0 _ _ _ _ _ _
      | exact LeO.none _
      | refine LeO.ite ?_ ?_
      | refine LeO.bind ?_ (fun _ => ?_)
noncomputable def impl_nearestLoci.L0 (x1 : Int) (x6 : Int) (x7 : List ByteArray) (x11 : List (S55)) (x12 : Int) (x13 : Int) : Option (Int × List ByteArray) := lim fun k => impl_nearestLoci.l0 k x1 x6 x7 x11 x12 x13
theorem impl_nearestLoci.L0_lim (x1 : Int) (x6 : Int) (x7 : List ByteArray) (x11 : List (S55)) (x12 : Int) (x13 : Int) : Lim (fun k => impl_nearestLoci.l0 k x1 x6 x7 x11 x12 x13) (impl_nearestLoci.L0 x1 x6 x7 x11 x12 x13) := ⟨fun k => (impl_nearestLoci.mono_l k) x1 x6 x7 x11 x12 x13, rfl⟩
noncomputable def impl_nearestLoci.F (l0 : List (S55)) (a1 : Int) : Option (Int × List ByteArray) := lim fun k => impl_nearestLoci.f k l0 a1
theorem impl_nearestLoci.F_lim (l0 : List (S55)) (a1 : Int) : Lim (fun k => impl_nearestLoci.f k l0 a1) (impl_nearestLoci.F l0 a1) := ⟨impl_nearestLoci.mono l0 a1, rfl⟩
theorem impl_nearestLoci.L0_eq (x1 : Int) (x6 : Int) (x7 : List ByteArray) (x11 : List (S55)) (x12 : Int) (x13 : Int) : impl_nearestLoci.L0 x1 x6 x7 x11 x12 x13 = (if x13 < x12 then (if 0 ≤ x13 then (if x13 < (x11.length : Int) then ((impl_distance.f ((rd_T55 x11 x13).f1) x1).bind fun t253 => (if t253 < x6 then (if t253 = t253 then (if ([] : List ByteArray).length < 8796093022208 then (impl_nearestLoci.L0 x1 t253 (([] : List ByteArray) ++ [(rd_T55 x11 x13).f0]) x11 x12 (wrap64 (x13 + 1))) else (none)) else (impl_nearestLoci.L0 x1 t253 ([] : List ByteArray) x11 x12 (wrap64 (x13 + 1)))) else (if t253 = x6 then (if x7.length < 8796093022208 then (impl_nearestLoci.L0 x1 x6 (x7 ++ [(rd_T55 x11 x13).f0]) x11 x12 (wrap64 (x13 + 1))) else (none)) else (impl_nearestLoci.L0 x1 x6 x7 x11 x12 (wrap64 (x13 + 1)))))) else (none)) else (none)) else (some (x6, x7))) := by
  refine Lim.succ_eq (impl_nearestLoci.L0_lim x1 x6 x7 x11 x12 x13).mon ?_
  simp only [impl_nearestLoci.l0]
  repeat' first
  | (with_reducible exact impl_nearestLoci.L0_lim _ _ _ _ _ _)
  | (with_reducible refine Lim.ite ?_ ?_)
  | (with_reducible refine Lim.bind ?_ (fun _ => ?_))
  | (with_reducible exact Lim.const _)
theorem impl_nearestLoci.F_eq (l0 : List (S55)) (a1 : Int) : impl_nearestLoci.F l0 a1 = (impl_nearestLoci.L0 a1 181 ([] : List ByteArray) l0 (l0.length : Int) 0) := by
  refine Lim.eq_ ?_
  simp only [impl_nearestLoci.f]
  repeat' first
  | (with_reducible exact impl_nearestLoci.L0_lim _ _ _ _ _ _)
  | (with_reducible refine Lim.ite ?_ ?_)
  | (with_reducible refine Lim.bind ?_ (fun _ => ?_))
  | (with_reducible exact Lim.const _)
def impl_pointsAt.f (k : Nat) (l0 : List (S55)) (a1 : Int) : Option (ByteArray) := (impl_nearestLoci.f k l0 a1).bind fun bt260 => (if bt260.1 > 20 then (some (⟨#[]⟩ : ByteArray)) else (if (bt260.2.length : Int) = 1 then (if 0 < (bt260.2.length : Int) then (some (rdOf ByteArray.empty bt260.2 0)) else (none)) else (some (⟨#[]⟩ : ByteArray))))
theorem impl_pointsAt.mono : ∀ a0 a1 k, LeO (impl_pointsAt.f k a0 a1) (impl_pointsAt.f (k + 1) a0 a1) := by
  intro a0 a1 k
  unfold impl_pointsAt.f
  repeat' first
      | (with_reducible exact impl_nearestLoci.mono _ _ _)
      | (with_reducible exact LeO.refl _)
      | (with_reducible exact LeO.none _)
      | (with_reducible refine LeO.ite ?_ ?_)
      | (with_reducible refine LeO.bind ?_ (fun _ => ?_))
      | exact impl_nearestLoci.mono _ _ _
      | exact LeO.none _
      | refine LeO.ite ?_ ?_
      | refine LeO.bind ?_ (fun _ => ?_)
noncomputable def impl_pointsAt.F (l0 : List (S55)) (a1 : Int) : Option (ByteArray) := lim fun k => impl_pointsAt.f k l0 a1
theorem impl_pointsAt.F_lim (l0 : List (S55)) (a1 : Int) : Lim (fun k => impl_pointsAt.f k l0 a1) (impl_pointsAt.F l0 a1) := ⟨impl_pointsAt.mono l0 a1, rfl⟩
theorem impl_pointsAt.F_eq (l0 : List (S55)) (a1 : Int) : impl_pointsAt.F l0 a1 = ((impl_nearestLoci.F l0 a1).bind fun bt260 => (if bt260.1 > 20 then (some (⟨#[]⟩ : ByteArray)) else (if (bt260.2.length : Int) = 1 then (if 0 < (bt260.2.length : Int) then (some (rdOf ByteArray.empty bt260.2 0)) else (none)) else (some (⟨#[]⟩ : ByteArray))))) := by
  refine Lim.eq_ ?_
  simp only [impl_pointsAt.f]
  repeat' first
  | (with_reducible exact impl_nearestLoci.F_lim _ _)
  | (with_reducible refine Lim.ite ?_ ?_)
  | (with_reducible refine Lim.bind ?_ (fun _ => ?_))
  | (with_reducible exact Lim.const _)
def impl_Verb_meaning.f (k : Nat) (a0_0 : ByteArray) (a0_1 : Int) (a0_2 : Int) (l1 : List (S55)) : Option (ByteArray × ByteArray) := (impl_pointsAt.f k l1 a0_1).bind fun t266 => ((impl_pointsAt.f k l1 a0_2).bind fun t267 => (if t266.toList = ([] : List UInt8) then (some ((⟨#[]⟩ : ByteArray), (⟨#[]⟩ : ByteArray))) else (if t267.toList = ([] : List UInt8) then (some ((⟨#[]⟩ : ByteArray), (⟨#[]⟩ : ByteArray))) else (if t266.toList = t267.toList then (some ((⟨#[]⟩ : ByteArray), (⟨#[]⟩ : ByteArray))) else (some (t266, t267))))))
theorem impl_Verb_meaning.mono : ∀ a0 a1 a2 a3 k, LeO (impl_Verb_meaning.f k a0 a1 a2 a3) (impl_Verb_meaning.f (k + 1) a0 a1 a2 a3) := by
  intro a0 a1 a2 a3 k
  unfold impl_Verb_meaning.f
  repeat' first
      | (with_reducible exact impl_pointsAt.mono _ _ _)
      | (with_reducible exact LeO.refl _)
      | (with_reducible exact LeO.none _)
      | (with_reducible refine LeO.ite ?_ ?_)
      | (with_reducible refine LeO.bind ?_ (fun _ => ?_))
      | exact impl_pointsAt.mono _ _ _
      | exact LeO.none _
      | refine LeO.ite ?_ ?_
      | refine LeO.bind ?_ (fun _ => ?_)
noncomputable def impl_Verb_meaning.F (a0_0 : ByteArray) (a0_1 : Int) (a0_2 : Int) (l1 : List (S55)) : Option (ByteArray × ByteArray) := lim fun k => impl_Verb_meaning.f k a0_0 a0_1 a0_2 l1
theorem impl_Verb_meaning.F_lim (a0_0 : ByteArray) (a0_1 : Int) (a0_2 : Int) (l1 : List (S55)) : Lim (fun k => impl_Verb_meaning.f k a0_0 a0_1 a0_2 l1) (impl_Verb_meaning.F a0_0 a0_1 a0_2 l1) := ⟨impl_Verb_meaning.mono a0_0 a0_1 a0_2 l1, rfl⟩
theorem impl_Verb_meaning.F_eq (a0_0 : ByteArray) (a0_1 : Int) (a0_2 : Int) (l1 : List (S55)) : impl_Verb_meaning.F a0_0 a0_1 a0_2 l1 = ((impl_pointsAt.F l1 a0_1).bind fun t266 => ((impl_pointsAt.F l1 a0_2).bind fun t267 => (if t266.toList = ([] : List UInt8) then (some ((⟨#[]⟩ : ByteArray), (⟨#[]⟩ : ByteArray))) else (if t267.toList = ([] : List UInt8) then (some ((⟨#[]⟩ : ByteArray), (⟨#[]⟩ : ByteArray))) else (if t266.toList = t267.toList then (some ((⟨#[]⟩ : ByteArray), (⟨#[]⟩ : ByteArray))) else (some (t266, t267))))))) := by
  refine Lim.eq_ ?_
  simp only [impl_Verb_meaning.f]
  repeat' first
  | (with_reducible exact impl_pointsAt.F_lim _ _)
  | (with_reducible refine Lim.ite ?_ ?_)
  | (with_reducible refine Lim.bind ?_ (fun _ => ?_))
  | (with_reducible exact Lim.const _)
def slices_Clone_string.f (l0 : List ByteArray) : Option (List ByteArray) := (some (([] : List ByteArray) : List ByteArray)).bind fun y268 => (if y268.length + l0.length < 8796093022208 then (some (y268 ++ l0)) else (none))
def slices_Sort_string.f (l0 : List ByteArray) : Option (List ByteArray) := if l0.length < 4611686018427387904 then some (sortTexts l0) else none
def slices_Compact_string.f (l0 : List ByteArray) : Option (List ByteArray) := if l0.length < 4611686018427387904 then some (onceTexts l0) else none
def impl_distinct_string.f (l0 : List ByteArray) : Option (List ByteArray) := (slices_Clone_string.f l0).bind fun t274 => ((slices_Sort_string.f t274).bind fun t277 => ((slices_Compact_string.f t277).bind fun t278 => (some t278)))
mutual
def impl_DoersOf.j0 : Nat → List (S55) → List (S78) → ByteArray → Bool → Option (List ByteArray × Bool)
  | 0, _, _, _, _ => none
  | k + 1, x0, x1, x2, x25 => if x25 = true then (some (([] : List ByteArray), false)) else (impl_DoersOf.l0 k x0 x2 ([] : List ByteArray) x1 (x1.length : Int) 0)
def impl_DoersOf.l0 : Nat → List (S55) → ByteArray → List ByteArray → List (S78) → Int → Int → Option (List ByteArray × Bool)
  | 0, _, _, _, _, _, _ => none
  | k + 1, x0, x2, x8, x26, x27, x28 => if x28 < x27 then (if 0 ≤ x28 then (if x28 < (x26.length : Int) then ((impl_Verb_meaning.f k ((rd_T78 x26 x28).f0) ((rd_T78 x26 x28).f1) ((rd_T78 x26 x28).f2) x0).bind fun bt286 => (if bt286.1.toList = ([] : List UInt8) then (impl_DoersOf.l0 k x0 x2 x8 x26 x27 (wrap64 (x28 + 1))) else (if ((rd_T78 x26 x28).f0).toList = x2.toList then (if x8.length < 8796093022208 then (impl_DoersOf.l0 k x0 x2 (x8 ++ [bt286.1]) x26 x27 (wrap64 (x28 + 1))) else (none)) else (impl_DoersOf.l0 k x0 x2 x8 x26 x27 (wrap64 (x28 + 1)))))) else (none)) else (none)) else ((impl_distinct_string.f x8).bind fun t291 => (some (t291, true)))
end
def impl_DoersOf.f (k : Nat) (l0 : List (S55)) (l1 : List (S78)) (a2 : ByteArray) : Option (List ByteArray × Bool) := (impl_AreLoci.f k l0).bind fun t281 => (if t281 = true then ((impl_areVerbs.f k l1).bind fun t282 => (if t282 = true then ((impl_IsGloss.f k a2).bind fun t283 => (impl_DoersOf.j0 k l0 l1 a2 (!t283))) else (impl_DoersOf.j0 k l0 l1 a2 true))) else (impl_DoersOf.j0 k l0 l1 a2 true))
theorem impl_DoersOf.mono_l : ∀ k, (∀ y0 y1 y2 y3, LeO (impl_DoersOf.j0 k y0 y1 y2 y3) (impl_DoersOf.j0 (k + 1) y0 y1 y2 y3)) ∧ (∀ y0 y1 y2 y3 y4 y5, LeO (impl_DoersOf.l0 k y0 y1 y2 y3 y4 y5) (impl_DoersOf.l0 (k + 1) y0 y1 y2 y3 y4 y5))
  | 0 => ⟨fun _ _ _ _ r h => by simp [impl_DoersOf.j0] at h, fun _ _ _ _ _ _ r h => by simp [impl_DoersOf.l0] at h⟩
  | k + 1 => by
    obtain ⟨ih0, ih1⟩ := impl_DoersOf.mono_l k
    refine ⟨?_, ?_⟩
    · intro y0 y1 y2 y3
      unfold impl_DoersOf.j0
      repeat' first
      | (with_reducible exact ih0 _ _ _ _)
      | (with_reducible exact ih1 _ _ _ _ _ _)
      | (with_reducible exact impl_AreLoci.mono _ _)
      | (with_reducible exact impl_IsGloss.mono _ _)
      | (with_reducible exact impl_Verb_meaning.mono _ _ _ _ _)
      | (with_reducible exact impl_areVerbs.mono _ _)
      | (with_reducible exact LeO.refl _)
      | (with_reducible exact LeO.none _)
      | (with_reducible refine LeO.ite ?_ ?_)
      | (with_reducible refine LeO.bind ?_ (fun _ => ?_))
      | exact ih0 _ _ _ _
      | exact ih1 _ _ _ _ _ _
      | exact impl_AreLoci.mono _ _
      | exact impl_IsGloss.mono _ _
      | exact impl_Verb_meaning.mono _ _ _ _ _
      | exact impl_areVerbs.mono _ _
      | exact LeO.none _
      | refine LeO.ite ?_ ?_
      | refine LeO.bind ?_ (fun _ => ?_)
    · intro y0 y1 y2 y3 y4 y5
      unfold impl_DoersOf.l0
      repeat' first
      | (with_reducible exact ih0 _ _ _ _)
      | (with_reducible exact ih1 _ _ _ _ _ _)
      | (with_reducible exact impl_AreLoci.mono _ _)
      | (with_reducible exact impl_IsGloss.mono _ _)
      | (with_reducible exact impl_Verb_meaning.mono _ _ _ _ _)
      | (with_reducible exact impl_areVerbs.mono _ _)
      | (with_reducible exact LeO.refl _)
      | (with_reducible exact LeO.none _)
      | (with_reducible refine LeO.ite ?_ ?_)
      | (with_reducible refine LeO.bind ?_ (fun _ => ?_))
      | exact ih0 _ _ _ _
      | exact ih1 _ _ _ _ _ _
      | exact impl_AreLoci.mono _ _
      | exact impl_IsGloss.mono _ _
      | exact impl_Verb_meaning.mono _ _ _ _ _
      | exact impl_areVerbs.mono _ _
      | exact LeO.none _
      | refine LeO.ite ?_ ?_
      | refine LeO.bind ?_ (fun _ => ?_)
theorem impl_DoersOf.mono : ∀ a0 a1 a2 k, LeO (impl_DoersOf.f k a0 a1 a2) (impl_DoersOf.f (k + 1) a0 a1 a2) := by
  intro a0 a1 a2 k
  obtain ⟨ih0, ih1⟩ := impl_DoersOf.mono_l k
  unfold impl_DoersOf.f
  repeat' first
      | (with_reducible exact ih0 _ _ _ _)
      | (with_reducible exact ih1 _ _ _ _ _ _)
      | (with_reducible exact impl_AreLoci.mono _ _)
      | (with_reducible exact impl_IsGloss.mono _ _)
      | (with_reducible exact impl_Verb_meaning.mono _ _ _ _ _)
      | (with_reducible exact impl_areVerbs.mono _ _)
      | (with_reducible exact LeO.refl _)
      | (with_reducible exact LeO.none _)
      | (with_reducible refine LeO.ite ?_ ?_)
      | (with_reducible refine LeO.bind ?_ (fun _ => ?_))
      | exact ih0 _ _ _ _
      | exact ih1 _ _ _ _ _ _
      | exact impl_AreLoci.mono _ _
      | exact impl_IsGloss.mono _ _
      | exact impl_Verb_meaning.mono _ _ _ _ _
      | exact impl_areVerbs.mono _ _
      | exact LeO.none _
      | refine LeO.ite ?_ ?_
      | refine LeO.bind ?_ (fun _ => ?_)
noncomputable def impl_DoersOf.J0 (x0 : List (S55)) (x1 : List (S78)) (x2 : ByteArray) (x25 : Bool) : Option (List ByteArray × Bool) := lim fun k => impl_DoersOf.j0 k x0 x1 x2 x25
theorem impl_DoersOf.J0_lim (x0 : List (S55)) (x1 : List (S78)) (x2 : ByteArray) (x25 : Bool) : Lim (fun k => impl_DoersOf.j0 k x0 x1 x2 x25) (impl_DoersOf.J0 x0 x1 x2 x25) := ⟨fun k => (impl_DoersOf.mono_l k).1 x0 x1 x2 x25, rfl⟩
noncomputable def impl_DoersOf.L0 (x0 : List (S55)) (x2 : ByteArray) (x8 : List ByteArray) (x26 : List (S78)) (x27 : Int) (x28 : Int) : Option (List ByteArray × Bool) := lim fun k => impl_DoersOf.l0 k x0 x2 x8 x26 x27 x28
theorem impl_DoersOf.L0_lim (x0 : List (S55)) (x2 : ByteArray) (x8 : List ByteArray) (x26 : List (S78)) (x27 : Int) (x28 : Int) : Lim (fun k => impl_DoersOf.l0 k x0 x2 x8 x26 x27 x28) (impl_DoersOf.L0 x0 x2 x8 x26 x27 x28) := ⟨fun k => (impl_DoersOf.mono_l k).2 x0 x2 x8 x26 x27 x28, rfl⟩
noncomputable def impl_DoersOf.F (l0 : List (S55)) (l1 : List (S78)) (a2 : ByteArray) : Option (List ByteArray × Bool) := lim fun k => impl_DoersOf.f k l0 l1 a2
theorem impl_DoersOf.F_lim (l0 : List (S55)) (l1 : List (S78)) (a2 : ByteArray) : Lim (fun k => impl_DoersOf.f k l0 l1 a2) (impl_DoersOf.F l0 l1 a2) := ⟨impl_DoersOf.mono l0 l1 a2, rfl⟩
theorem impl_DoersOf.J0_eq (x0 : List (S55)) (x1 : List (S78)) (x2 : ByteArray) (x25 : Bool) : impl_DoersOf.J0 x0 x1 x2 x25 = (if x25 = true then (some (([] : List ByteArray), false)) else (impl_DoersOf.L0 x0 x2 ([] : List ByteArray) x1 (x1.length : Int) 0)) := by
  refine Lim.succ_eq (impl_DoersOf.J0_lim x0 x1 x2 x25).mon ?_
  simp only [impl_DoersOf.j0]
  repeat' first
  | (with_reducible exact impl_DoersOf.J0_lim _ _ _ _)
  | (with_reducible exact impl_DoersOf.L0_lim _ _ _ _ _ _)
  | (with_reducible exact impl_AreLoci.F_lim _)
  | (with_reducible exact impl_IsGloss.F_lim _)
  | (with_reducible exact impl_Verb_meaning.F_lim _ _ _ _)
  | (with_reducible exact impl_areVerbs.F_lim _)
  | (with_reducible refine Lim.ite ?_ ?_)
  | (with_reducible refine Lim.bind ?_ (fun _ => ?_))
  | (with_reducible exact Lim.const _)
theorem impl_DoersOf.L0_eq (x0 : List (S55)) (x2 : ByteArray) (x8 : List ByteArray) (x26 : List (S78)) (x27 : Int) (x28 : Int) : impl_DoersOf.L0 x0 x2 x8 x26 x27 x28 = (if x28 < x27 then (if 0 ≤ x28 then (if x28 < (x26.length : Int) then ((impl_Verb_meaning.F ((rd_T78 x26 x28).f0) ((rd_T78 x26 x28).f1) ((rd_T78 x26 x28).f2) x0).bind fun bt286 => (if bt286.1.toList = ([] : List UInt8) then (impl_DoersOf.L0 x0 x2 x8 x26 x27 (wrap64 (x28 + 1))) else (if ((rd_T78 x26 x28).f0).toList = x2.toList then (if x8.length < 8796093022208 then (impl_DoersOf.L0 x0 x2 (x8 ++ [bt286.1]) x26 x27 (wrap64 (x28 + 1))) else (none)) else (impl_DoersOf.L0 x0 x2 x8 x26 x27 (wrap64 (x28 + 1)))))) else (none)) else (none)) else ((impl_distinct_string.f x8).bind fun t291 => (some (t291, true)))) := by
  refine Lim.succ_eq (impl_DoersOf.L0_lim x0 x2 x8 x26 x27 x28).mon ?_
  simp only [impl_DoersOf.l0]
  repeat' first
  | (with_reducible exact impl_DoersOf.J0_lim _ _ _ _)
  | (with_reducible exact impl_DoersOf.L0_lim _ _ _ _ _ _)
  | (with_reducible exact impl_AreLoci.F_lim _)
  | (with_reducible exact impl_IsGloss.F_lim _)
  | (with_reducible exact impl_Verb_meaning.F_lim _ _ _ _)
  | (with_reducible exact impl_areVerbs.F_lim _)
  | (with_reducible refine Lim.ite ?_ ?_)
  | (with_reducible refine Lim.bind ?_ (fun _ => ?_))
  | (with_reducible exact Lim.const _)
theorem impl_DoersOf.F_eq (l0 : List (S55)) (l1 : List (S78)) (a2 : ByteArray) : impl_DoersOf.F l0 l1 a2 = ((impl_AreLoci.F l0).bind fun t281 => (if t281 = true then ((impl_areVerbs.F l1).bind fun t282 => (if t282 = true then ((impl_IsGloss.F a2).bind fun t283 => (impl_DoersOf.J0 l0 l1 a2 (!t283))) else (impl_DoersOf.J0 l0 l1 a2 true))) else (impl_DoersOf.J0 l0 l1 a2 true))) := by
  refine Lim.eq_ ?_
  simp only [impl_DoersOf.f]
  repeat' first
  | (with_reducible exact impl_DoersOf.J0_lim _ _ _ _)
  | (with_reducible exact impl_DoersOf.L0_lim _ _ _ _ _ _)
  | (with_reducible exact impl_AreLoci.F_lim _)
  | (with_reducible exact impl_IsGloss.F_lim _)
  | (with_reducible exact impl_Verb_meaning.F_lim _ _ _ _)
  | (with_reducible exact impl_areVerbs.F_lim _)
  | (with_reducible refine Lim.ite ?_ ?_)
  | (with_reducible refine Lim.bind ?_ (fun _ => ?_))
  | (with_reducible exact Lim.const _)
def laws_eqStringS.l0 : Nat → List ByteArray → List ByteArray → Int → Option (Bool)
  | 0, _, _, _ => none
  | k + 1, x0, x1, x5 => if x5 < (x0.length : Int) then (if 0 ≤ x5 then (if x5 < (x1.length : Int) then (if (rdOf ByteArray.empty x0 x5).toList = (rdOf ByteArray.empty x1 x5).toList then (laws_eqStringS.l0 k x0 x1 (wrap64 (x5 + 1))) else (some false)) else (none)) else (none)) else (some true)
def laws_eqStringS.f (k : Nat) (l0 : List ByteArray) (l1 : List ByteArray) : Option (Bool) := if (l0.length : Int) = (l1.length : Int) then (laws_eqStringS.l0 k l0 l1 0) else (some false)
theorem laws_eqStringS.mono_l : ∀ k, (∀ y0 y1 y2, LeO (laws_eqStringS.l0 k y0 y1 y2) (laws_eqStringS.l0 (k + 1) y0 y1 y2))
  | 0 => fun _ _ _ r h => by simp [laws_eqStringS.l0] at h
  | k + 1 => by
    have ih0 := laws_eqStringS.mono_l k
    · intro y0 y1 y2
      unfold laws_eqStringS.l0
      repeat' first
      | (with_reducible exact ih0 _ _ _)
      | (with_reducible exact LeO.refl _)
      | (with_reducible exact LeO.none _)
      | (with_reducible refine LeO.ite ?_ ?_)
      | (with_reducible refine LeO.bind ?_ (fun _ => ?_))
      | exact ih0 _ _ _
      | exact LeO.none _
      | refine LeO.ite ?_ ?_
      | refine LeO.bind ?_ (fun _ => ?_)
theorem laws_eqStringS.mono : ∀ a0 a1 k, LeO (laws_eqStringS.f k a0 a1) (laws_eqStringS.f (k + 1) a0 a1) := by
  intro a0 a1 k
  have ih0 := laws_eqStringS.mono_l k
  unfold laws_eqStringS.f
  repeat' first
      | (with_reducible exact ih0 _ _ _)
      | (with_reducible exact LeO.refl _)
      | (with_reducible exact LeO.none _)
      | (with_reducible refine LeO.ite ?_ ?_)
      | (with_reducible refine LeO.bind ?_ (fun _ => ?_))
      | exact ih0 _ _ _
      | exact LeO.none _
      | refine LeO.ite ?_ ?_
      | refine LeO.bind ?_ (fun _ => ?_)
noncomputable def laws_eqStringS.L0 (x0 : List ByteArray) (x1 : List ByteArray) (x5 : Int) : Option (Bool) := lim fun k => laws_eqStringS.l0 k x0 x1 x5
theorem laws_eqStringS.L0_lim (x0 : List ByteArray) (x1 : List ByteArray) (x5 : Int) : Lim (fun k => laws_eqStringS.l0 k x0 x1 x5) (laws_eqStringS.L0 x0 x1 x5) := ⟨fun k => (laws_eqStringS.mono_l k) x0 x1 x5, rfl⟩
noncomputable def laws_eqStringS.F (l0 : List ByteArray) (l1 : List ByteArray) : Option (Bool) := lim fun k => laws_eqStringS.f k l0 l1
theorem laws_eqStringS.F_lim (l0 : List ByteArray) (l1 : List ByteArray) : Lim (fun k => laws_eqStringS.f k l0 l1) (laws_eqStringS.F l0 l1) := ⟨laws_eqStringS.mono l0 l1, rfl⟩
theorem laws_eqStringS.L0_eq (x0 : List ByteArray) (x1 : List ByteArray) (x5 : Int) : laws_eqStringS.L0 x0 x1 x5 = (if x5 < (x0.length : Int) then (if 0 ≤ x5 then (if x5 < (x1.length : Int) then (if (rdOf ByteArray.empty x0 x5).toList = (rdOf ByteArray.empty x1 x5).toList then (laws_eqStringS.L0 x0 x1 (wrap64 (x5 + 1))) else (some false)) else (none)) else (none)) else (some true)) := by
  refine Lim.succ_eq (laws_eqStringS.L0_lim x0 x1 x5).mon ?_
  simp only [laws_eqStringS.l0]
  repeat' first
  | (with_reducible exact laws_eqStringS.L0_lim _ _ _)
  | (with_reducible refine Lim.ite ?_ ?_)
  | (with_reducible refine Lim.bind ?_ (fun _ => ?_))
  | (with_reducible exact Lim.const _)
theorem laws_eqStringS.F_eq (l0 : List ByteArray) (l1 : List ByteArray) : laws_eqStringS.F l0 l1 = (if (l0.length : Int) = (l1.length : Int) then (laws_eqStringS.L0 l0 l1 0) else (some false)) := by
  refine Lim.eq_ ?_
  simp only [laws_eqStringS.f]
  repeat' first
  | (with_reducible exact laws_eqStringS.L0_lim _ _ _)
  | (with_reducible refine Lim.ite ?_ ?_)
  | (with_reducible refine Lim.bind ?_ (fun _ => ?_))
  | (with_reducible exact Lim.const _)
def laws_eqVerb.f (a0_0 : ByteArray) (a0_1 : Int) (a0_2 : Int) (a1_0 : ByteArray) (a1_1 : Int) (a1_2 : Int) : Option (Bool) := if a0_0.toList = a1_0.toList then (if a0_1 = a1_1 then (if a0_2 = a1_2 then (some true) else (some false)) else (some false)) else (some false)
def laws_eqVerbS.l0 : Nat → List (S78) → List (S78) → Int → Option (Bool)
  | 0, _, _, _ => none
  | k + 1, x0, x1, x5 => if x5 < (x0.length : Int) then (if 0 ≤ x5 then (if x5 < (x1.length : Int) then ((laws_eqVerb.f ((rd_T78 x0 x5).f0) ((rd_T78 x0 x5).f1) ((rd_T78 x0 x5).f2) ((rd_T78 x1 x5).f0) ((rd_T78 x1 x5).f1) ((rd_T78 x1 x5).f2)).bind fun t300 => (if t300 = true then (laws_eqVerbS.l0 k x0 x1 (wrap64 (x5 + 1))) else (some false))) else (none)) else (none)) else (some true)
def laws_eqVerbS.f (k : Nat) (l0 : List (S78)) (l1 : List (S78)) : Option (Bool) := if (l0.length : Int) = (l1.length : Int) then (laws_eqVerbS.l0 k l0 l1 0) else (some false)
theorem laws_eqVerbS.mono_l : ∀ k, (∀ y0 y1 y2, LeO (laws_eqVerbS.l0 k y0 y1 y2) (laws_eqVerbS.l0 (k + 1) y0 y1 y2))
  | 0 => fun _ _ _ r h => by simp [laws_eqVerbS.l0] at h
  | k + 1 => by
    have ih0 := laws_eqVerbS.mono_l k
    · intro y0 y1 y2
      unfold laws_eqVerbS.l0
      repeat' first
      | (with_reducible exact ih0 _ _ _)
      | (with_reducible exact LeO.refl _)
      | (with_reducible exact LeO.none _)
      | (with_reducible refine LeO.ite ?_ ?_)
      | (with_reducible refine LeO.bind ?_ (fun _ => ?_))
      | exact ih0 _ _ _
      | exact LeO.none _
      | refine LeO.ite ?_ ?_
      | refine LeO.bind ?_ (fun _ => ?_)
theorem laws_eqVerbS.mono : ∀ a0 a1 k, LeO (laws_eqVerbS.f k a0 a1) (laws_eqVerbS.f (k + 1) a0 a1) := by
  intro a0 a1 k
  have ih0 := laws_eqVerbS.mono_l k
  unfold laws_eqVerbS.f
  repeat' first
      | (with_reducible exact ih0 _ _ _)
      | (with_reducible exact LeO.refl _)
      | (with_reducible exact LeO.none _)
      | (with_reducible refine LeO.ite ?_ ?_)
      | (with_reducible refine LeO.bind ?_ (fun _ => ?_))
      | exact ih0 _ _ _
      | exact LeO.none _
      | refine LeO.ite ?_ ?_
      | refine LeO.bind ?_ (fun _ => ?_)
noncomputable def laws_eqVerbS.L0 (x0 : List (S78)) (x1 : List (S78)) (x5 : Int) : Option (Bool) := lim fun k => laws_eqVerbS.l0 k x0 x1 x5
theorem laws_eqVerbS.L0_lim (x0 : List (S78)) (x1 : List (S78)) (x5 : Int) : Lim (fun k => laws_eqVerbS.l0 k x0 x1 x5) (laws_eqVerbS.L0 x0 x1 x5) := ⟨fun k => (laws_eqVerbS.mono_l k) x0 x1 x5, rfl⟩
noncomputable def laws_eqVerbS.F (l0 : List (S78)) (l1 : List (S78)) : Option (Bool) := lim fun k => laws_eqVerbS.f k l0 l1
theorem laws_eqVerbS.F_lim (l0 : List (S78)) (l1 : List (S78)) : Lim (fun k => laws_eqVerbS.f k l0 l1) (laws_eqVerbS.F l0 l1) := ⟨laws_eqVerbS.mono l0 l1, rfl⟩
theorem laws_eqVerbS.L0_eq (x0 : List (S78)) (x1 : List (S78)) (x5 : Int) : laws_eqVerbS.L0 x0 x1 x5 = (if x5 < (x0.length : Int) then (if 0 ≤ x5 then (if x5 < (x1.length : Int) then ((laws_eqVerb.f ((rd_T78 x0 x5).f0) ((rd_T78 x0 x5).f1) ((rd_T78 x0 x5).f2) ((rd_T78 x1 x5).f0) ((rd_T78 x1 x5).f1) ((rd_T78 x1 x5).f2)).bind fun t300 => (if t300 = true then (laws_eqVerbS.L0 x0 x1 (wrap64 (x5 + 1))) else (some false))) else (none)) else (none)) else (some true)) := by
  refine Lim.succ_eq (laws_eqVerbS.L0_lim x0 x1 x5).mon ?_
  simp only [laws_eqVerbS.l0]
  repeat' first
  | (with_reducible exact laws_eqVerbS.L0_lim _ _ _)
  | (with_reducible refine Lim.ite ?_ ?_)
  | (with_reducible refine Lim.bind ?_ (fun _ => ?_))
  | (with_reducible exact Lim.const _)
theorem laws_eqVerbS.F_eq (l0 : List (S78)) (l1 : List (S78)) : laws_eqVerbS.F l0 l1 = (if (l0.length : Int) = (l1.length : Int) then (laws_eqVerbS.L0 l0 l1 0) else (some false)) := by
  refine Lim.eq_ ?_
  simp only [laws_eqVerbS.f]
  repeat' first
  | (with_reducible exact laws_eqVerbS.L0_lim _ _ _)
  | (with_reducible refine Lim.ite ?_ ?_)
  | (with_reducible refine Lim.bind ?_ (fun _ => ?_))
  | (with_reducible exact Lim.const _)
def laws_markVerbS.l0 : Nat → List (S78) → Int → Int → Option (Int × (List (S78)))
  | 0, _, _, _ => none
  | k + 1, x0, x1, x5 => if x5 < (x0.length : Int) then ((laws_markText.f k x1).bind fun t301 => (if 0 ≤ x5 then ((some (x0.set (x5 : Int).toNat (⟨t301, (rd_T78 x0 x5).f1, (rd_T78 x0 x5).f2⟩ : S78) : List (S78))).bind fun y302 => ((some (y302.set (x5 : Int).toNat (⟨(rd_T78 y302 x5).f0, wrap64 (x1 + 1), (rd_T78 y302 x5).f2⟩ : S78) : List (S78))).bind fun y303 => (laws_markVerbS.l0 k (y303.set (x5 : Int).toNat (⟨(rd_T78 y303 x5).f0, (rd_T78 y303 x5).f1, wrap64 ((wrap64 (x1 + 1)) + 1)⟩ : S78)) (wrap64 ((wrap64 ((wrap64 (x1 + 1)) + 1)) + 1)) (wrap64 (x5 + 1))))) else (none))) else (some (x1, x0))
def laws_markVerbS.f (k : Nat) (l0 : List (S78)) (a1 : Int) : Option (Int × (List (S78))) := laws_markVerbS.l0 k l0 a1 0
theorem laws_markVerbS.mono_l : ∀ k, (∀ y0 y1 y2, LeO (laws_markVerbS.l0 k y0 y1 y2) (laws_markVerbS.l0 (k + 1) y0 y1 y2))
  | 0 => fun _ _ _ r h => by simp [laws_markVerbS.l0] at h
  | k + 1 => by
    have ih0 := laws_markVerbS.mono_l k
    · intro y0 y1 y2
      unfold laws_markVerbS.l0
      repeat' first
      | (with_reducible exact ih0 _ _ _)
      | (with_reducible exact laws_markText.mono _ _)
      | (with_reducible exact LeO.refl _)
      | (with_reducible exact LeO.none _)
      | (with_reducible refine LeO.ite ?_ ?_)
      | (with_reducible refine LeO.bind ?_ (fun _ => ?_))
      | exact ih0 _ _ _
      | exact laws_markText.mono _ _
      | exact LeO.none _
      | refine LeO.ite ?_ ?_
      | refine LeO.bind ?_ (fun _ => ?_)
theorem laws_markVerbS.mono : ∀ a0 a1 k, LeO (laws_markVerbS.f k a0 a1) (laws_markVerbS.f (k + 1) a0 a1) := by
  intro a0 a1 k
  have ih0 := laws_markVerbS.mono_l k
  unfold laws_markVerbS.f
  repeat' first
      | (with_reducible exact ih0 _ _ _)
      | (with_reducible exact laws_markText.mono _ _)
      | (with_reducible exact LeO.refl _)
      | (with_reducible exact LeO.none _)
      | (with_reducible refine LeO.ite ?_ ?_)
      | (with_reducible refine LeO.bind ?_ (fun _ => ?_))
      | exact ih0 _ _ _
      | exact laws_markText.mono _ _
      | exact LeO.none _
      | refine LeO.ite ?_ ?_
      | refine LeO.bind ?_ (fun _ => ?_)
noncomputable def laws_markVerbS.L0 (x0 : List (S78)) (x1 : Int) (x5 : Int) : Option (Int × (List (S78))) := lim fun k => laws_markVerbS.l0 k x0 x1 x5
theorem laws_markVerbS.L0_lim (x0 : List (S78)) (x1 : Int) (x5 : Int) : Lim (fun k => laws_markVerbS.l0 k x0 x1 x5) (laws_markVerbS.L0 x0 x1 x5) := ⟨fun k => (laws_markVerbS.mono_l k) x0 x1 x5, rfl⟩
noncomputable def laws_markVerbS.F (l0 : List (S78)) (a1 : Int) : Option (Int × (List (S78))) := lim fun k => laws_markVerbS.f k l0 a1
theorem laws_markVerbS.F_lim (l0 : List (S78)) (a1 : Int) : Lim (fun k => laws_markVerbS.f k l0 a1) (laws_markVerbS.F l0 a1) := ⟨laws_markVerbS.mono l0 a1, rfl⟩
theorem laws_markVerbS.L0_eq (x0 : List (S78)) (x1 : Int) (x5 : Int) : laws_markVerbS.L0 x0 x1 x5 = (if x5 < (x0.length : Int) then ((laws_markText.F x1).bind fun t301 => (if 0 ≤ x5 then ((some (x0.set (x5 : Int).toNat (⟨t301, (rd_T78 x0 x5).f1, (rd_T78 x0 x5).f2⟩ : S78) : List (S78))).bind fun y302 => ((some (y302.set (x5 : Int).toNat (⟨(rd_T78 y302 x5).f0, wrap64 (x1 + 1), (rd_T78 y302 x5).f2⟩ : S78) : List (S78))).bind fun y303 => (laws_markVerbS.L0 (y303.set (x5 : Int).toNat (⟨(rd_T78 y303 x5).f0, (rd_T78 y303 x5).f1, wrap64 ((wrap64 (x1 + 1)) + 1)⟩ : S78)) (wrap64 ((wrap64 ((wrap64 (x1 + 1)) + 1)) + 1)) (wrap64 (x5 + 1))))) else (none))) else (some (x1, x0))) := by
  refine Lim.succ_eq (laws_markVerbS.L0_lim x0 x1 x5).mon ?_
  simp only [laws_markVerbS.l0]
  repeat' first
  | (with_reducible exact laws_markVerbS.L0_lim _ _ _)
  | (with_reducible exact laws_markText.F_lim _)
  | (with_reducible refine Lim.ite ?_ ?_)
  | (with_reducible refine Lim.bind ?_ (fun _ => ?_))
  | (with_reducible exact Lim.const _)
theorem laws_markVerbS.F_eq (l0 : List (S78)) (a1 : Int) : laws_markVerbS.F l0 a1 = (laws_markVerbS.L0 l0 a1 0) := by
  refine Lim.eq_ ?_
  simp only [laws_markVerbS.f]
  repeat' first
  | (with_reducible exact laws_markVerbS.L0_lim _ _ _)
  | (with_reducible exact laws_markText.F_lim _)
  | (with_reducible refine Lim.ite ?_ ?_)
  | (with_reducible refine Lim.bind ?_ (fun _ => ?_))
  | (with_reducible exact Lim.const _)
def laws_markStringS.l0 : Nat → List ByteArray → Int → Int → Option (Int × List ByteArray)
  | 0, _, _, _ => none
  | k + 1, x0, x1, x5 => if x5 < (x0.length : Int) then ((laws_markText.f k x1).bind fun t305 => (if 0 ≤ x5 then (laws_markStringS.l0 k (x0.set (x5 : Int).toNat t305) (wrap64 (x1 + 1)) (wrap64 (x5 + 1))) else (none))) else (some (x1, x0))
def laws_markStringS.f (k : Nat) (l0 : List ByteArray) (a1 : Int) : Option (Int × List ByteArray) := laws_markStringS.l0 k l0 a1 0
theorem laws_markStringS.mono_l : ∀ k, (∀ y0 y1 y2, LeO (laws_markStringS.l0 k y0 y1 y2) (laws_markStringS.l0 (k + 1) y0 y1 y2))
  | 0 => fun _ _ _ r h => by simp [laws_markStringS.l0] at h
  | k + 1 => by
    have ih0 := laws_markStringS.mono_l k
    · intro y0 y1 y2
      unfold laws_markStringS.l0
      repeat' first
      | (with_reducible exact ih0 _ _ _)
      | (with_reducible exact laws_markText.mono _ _)
      | (with_reducible exact LeO.refl _)
      | (with_reducible exact LeO.none _)
      | (with_reducible refine LeO.ite ?_ ?_)
      | (with_reducible refine LeO.bind ?_ (fun _ => ?_))
      | exact ih0 _ _ _
      | exact laws_markText.mono _ _
      | exact LeO.none _
      | refine LeO.ite ?_ ?_
      | refine LeO.bind ?_ (fun _ => ?_)
theorem laws_markStringS.mono : ∀ a0 a1 k, LeO (laws_markStringS.f k a0 a1) (laws_markStringS.f (k + 1) a0 a1) := by
  intro a0 a1 k
  have ih0 := laws_markStringS.mono_l k
  unfold laws_markStringS.f
  repeat' first
      | (with_reducible exact ih0 _ _ _)
      | (with_reducible exact laws_markText.mono _ _)
      | (with_reducible exact LeO.refl _)
      | (with_reducible exact LeO.none _)
      | (with_reducible refine LeO.ite ?_ ?_)
      | (with_reducible refine LeO.bind ?_ (fun _ => ?_))
      | exact ih0 _ _ _
      | exact laws_markText.mono _ _
      | exact LeO.none _
      | refine LeO.ite ?_ ?_
      | refine LeO.bind ?_ (fun _ => ?_)
noncomputable def laws_markStringS.L0 (x0 : List ByteArray) (x1 : Int) (x5 : Int) : Option (Int × List ByteArray) := lim fun k => laws_markStringS.l0 k x0 x1 x5
theorem laws_markStringS.L0_lim (x0 : List ByteArray) (x1 : Int) (x5 : Int) : Lim (fun k => laws_markStringS.l0 k x0 x1 x5) (laws_markStringS.L0 x0 x1 x5) := ⟨fun k => (laws_markStringS.mono_l k) x0 x1 x5, rfl⟩
noncomputable def laws_markStringS.F (l0 : List ByteArray) (a1 : Int) : Option (Int × List ByteArray) := lim fun k => laws_markStringS.f k l0 a1
theorem laws_markStringS.F_lim (l0 : List ByteArray) (a1 : Int) : Lim (fun k => laws_markStringS.f k l0 a1) (laws_markStringS.F l0 a1) := ⟨laws_markStringS.mono l0 a1, rfl⟩
theorem laws_markStringS.L0_eq (x0 : List ByteArray) (x1 : Int) (x5 : Int) : laws_markStringS.L0 x0 x1 x5 = (if x5 < (x0.length : Int) then ((laws_markText.F x1).bind fun t305 => (if 0 ≤ x5 then (laws_markStringS.L0 (x0.set (x5 : Int).toNat t305) (wrap64 (x1 + 1)) (wrap64 (x5 + 1))) else (none))) else (some (x1, x0))) := by
  refine Lim.succ_eq (laws_markStringS.L0_lim x0 x1 x5).mon ?_
  simp only [laws_markStringS.l0]
  repeat' first
  | (with_reducible exact laws_markStringS.L0_lim _ _ _)
  | (with_reducible exact laws_markText.F_lim _)
  | (with_reducible refine Lim.ite ?_ ?_)
  | (with_reducible refine Lim.bind ?_ (fun _ => ?_))
  | (with_reducible exact Lim.const _)
theorem laws_markStringS.F_eq (l0 : List ByteArray) (a1 : Int) : laws_markStringS.F l0 a1 = (laws_markStringS.L0 l0 a1 0) := by
  refine Lim.eq_ ?_
  simp only [laws_markStringS.f]
  repeat' first
  | (with_reducible exact laws_markStringS.L0_lim _ _ _)
  | (with_reducible exact laws_markText.F_lim _)
  | (with_reducible refine Lim.ite ?_ ?_)
  | (with_reducible refine Lim.bind ?_ (fun _ => ?_))
  | (with_reducible exact Lim.const _)
def laws_heldStringS.l0 : Nat → List ByteArray → Int → Int → Option (Int)
  | 0, _, _, _ => none
  | k + 1, x0, x1, x5 => if x5 < (x0.length : Int) then (if 0 ≤ x5 then ((laws_markText.f k x1).bind fun t308 => (if (rdOf ByteArray.empty x0 x5).toList = t308.toList then (laws_heldStringS.l0 k x0 (wrap64 (x1 + 1)) (wrap64 (x5 + 1))) else (some (-1)))) else (none)) else (some x1)
def laws_heldStringS.f (k : Nat) (l0 : List ByteArray) (a1 : Int) : Option (Int) := laws_heldStringS.l0 k l0 a1 0
theorem laws_heldStringS.mono_l : ∀ k, (∀ y0 y1 y2, LeO (laws_heldStringS.l0 k y0 y1 y2) (laws_heldStringS.l0 (k + 1) y0 y1 y2))
  | 0 => fun _ _ _ r h => by simp [laws_heldStringS.l0] at h
  | k + 1 => by
    have ih0 := laws_heldStringS.mono_l k
    · intro y0 y1 y2
      unfold laws_heldStringS.l0
      repeat' first
      | (with_reducible exact ih0 _ _ _)
      | (with_reducible exact laws_markText.mono _ _)
      | (with_reducible exact LeO.refl _)
      | (with_reducible exact LeO.none _)
      | (with_reducible refine LeO.ite ?_ ?_)
      | (with_reducible refine LeO.bind ?_ (fun _ => ?_))
      | exact ih0 _ _ _
      | exact laws_markText.mono _ _
      | exact LeO.none _
      | refine LeO.ite ?_ ?_
      | refine LeO.bind ?_ (fun _ => ?_)
theorem laws_heldStringS.mono : ∀ a0 a1 k, LeO (laws_heldStringS.f k a0 a1) (laws_heldStringS.f (k + 1) a0 a1) := by
  intro a0 a1 k
  have ih0 := laws_heldStringS.mono_l k
  unfold laws_heldStringS.f
  repeat' first
      | (with_reducible exact ih0 _ _ _)
      | (with_reducible exact laws_markText.mono _ _)
      | (with_reducible exact LeO.refl _)
      | (with_reducible exact LeO.none _)
      | (with_reducible refine LeO.ite ?_ ?_)
      | (with_reducible refine LeO.bind ?_ (fun _ => ?_))
      | exact ih0 _ _ _
      | exact laws_markText.mono _ _
      | exact LeO.none _
      | refine LeO.ite ?_ ?_
      | refine LeO.bind ?_ (fun _ => ?_)
noncomputable def laws_heldStringS.L0 (x0 : List ByteArray) (x1 : Int) (x5 : Int) : Option (Int) := lim fun k => laws_heldStringS.l0 k x0 x1 x5
theorem laws_heldStringS.L0_lim (x0 : List ByteArray) (x1 : Int) (x5 : Int) : Lim (fun k => laws_heldStringS.l0 k x0 x1 x5) (laws_heldStringS.L0 x0 x1 x5) := ⟨fun k => (laws_heldStringS.mono_l k) x0 x1 x5, rfl⟩
noncomputable def laws_heldStringS.F (l0 : List ByteArray) (a1 : Int) : Option (Int) := lim fun k => laws_heldStringS.f k l0 a1
theorem laws_heldStringS.F_lim (l0 : List ByteArray) (a1 : Int) : Lim (fun k => laws_heldStringS.f k l0 a1) (laws_heldStringS.F l0 a1) := ⟨laws_heldStringS.mono l0 a1, rfl⟩
theorem laws_heldStringS.L0_eq (x0 : List ByteArray) (x1 : Int) (x5 : Int) : laws_heldStringS.L0 x0 x1 x5 = (if x5 < (x0.length : Int) then (if 0 ≤ x5 then ((laws_markText.F x1).bind fun t308 => (if (rdOf ByteArray.empty x0 x5).toList = t308.toList then (laws_heldStringS.L0 x0 (wrap64 (x1 + 1)) (wrap64 (x5 + 1))) else (some (-1)))) else (none)) else (some x1)) := by
  refine Lim.succ_eq (laws_heldStringS.L0_lim x0 x1 x5).mon ?_
  simp only [laws_heldStringS.l0]
  repeat' first
  | (with_reducible exact laws_heldStringS.L0_lim _ _ _)
  | (with_reducible exact laws_markText.F_lim _)
  | (with_reducible refine Lim.ite ?_ ?_)
  | (with_reducible refine Lim.bind ?_ (fun _ => ?_))
  | (with_reducible exact Lim.const _)
theorem laws_heldStringS.F_eq (l0 : List ByteArray) (a1 : Int) : laws_heldStringS.F l0 a1 = (laws_heldStringS.L0 l0 a1 0) := by
  refine Lim.eq_ ?_
  simp only [laws_heldStringS.f]
  repeat' first
  | (with_reducible exact laws_heldStringS.L0_lim _ _ _)
  | (with_reducible exact laws_markText.F_lim _)
  | (with_reducible refine Lim.ite ?_ ?_)
  | (with_reducible refine Lim.bind ?_ (fun _ => ?_))
  | (with_reducible exact Lim.const _)
mutual
def laws_FnExactDoersOf.j0 : Nat → List (S62) → List (S76) → ByteArray → List ByteArray → Bool → List (S55) → List (S78) → List ByteArray → Bool → Bool → Option (Bool)
  | 0, _, _, _, _, _, _, _, _, _, _ => none
  | k + 1, x0, x1, x2, x8, x9, x10, x11, x12, x13, x60 => if x60 = true then (some false) else ((laws_toLocusS.f k x0).bind fun t332 => ((laws_eqLocusS.f k x10 t332).bind fun t335 => (if t335 = true then ((laws_toVerbS.f k x1).bind fun t336 => ((laws_eqVerbS.f k x11 t336).bind fun t339 => (if t339 = true then ((laws_markLocusS.f k x10 1).bind fun bt340 => ((laws_markVerbS.f k x11 bt340.1).bind fun bt342 => (if bt342.1 < 0 then (laws_FnExactDoersOf.j1 k x0 x1 x2 x8 x9 x12 true) else ((laws_eqStringS.f k x12 x8).bind fun t344 => (if t344 = true then (laws_FnExactDoersOf.j1 k x0 x1 x2 x8 x9 x12 (x13 != x9)) else (laws_FnExactDoersOf.j1 k x0 x1 x2 x8 x9 x12 true)))))) else (some false)))) else (some false))))
def laws_FnExactDoersOf.j1 : Nat → List (S62) → List (S76) → ByteArray → List ByteArray → Bool → List ByteArray → Bool → Option (Bool)
  | 0, _, _, _, _, _, _, _ => none
  | k + 1, x0, x1, x2, x8, x9, x12, x89 => if x89 = true then (some false) else ((laws_markStringS.f k x12 1).bind fun bt345 => ((laws_heldStringS.f k bt345.2 1).bind fun t347 => (if t347 < 0 then (some false) else (if t347 = bt345.1 then ((laws_toLocusS.f k x0).bind fun t348 => ((laws_toVerbS.f k x1).bind fun t351 => ((impl_DoersOf.f k t348 t351 x2).bind fun bt354 => ((laws_eqStringS.f k bt354.1 x8).bind fun t358 => (if t358 = true then (laws_FnExactDoersOf.j2 k bt345.2 bt345.1 (bt354.2 != x9)) else (laws_FnExactDoersOf.j2 k bt345.2 bt345.1 true)))))) else (some false)))))
def laws_FnExactDoersOf.j2 : Nat → List ByteArray → Int → Bool → Option (Bool)
  | 0, _, _, _ => none
  | k + 1, x12, x15, x118 => if x118 = true then (some false) else ((laws_heldStringS.f k x12 1).bind fun t359 => (if t359 < 0 then (some false) else (if t359 = x15 then (some true) else (some false))))
end
def laws_FnExactDoersOf.f (k : Nat) (l0 : List (S62)) (l1 : List (S76)) (a2 : ByteArray) : Option (Bool) := if (a2.size : Int) > 1048576 then (some true) else ((laws_szLocusS.f k l0 1048576).bind fun t309 => (if t309 < 0 then (some true) else ((laws_szVerbS.f k l1 t309).bind fun t310 => (if t310 < 0 then (some true) else ((laws_toLocusS.f k l0).bind fun t311 => ((laws_toVerbS.f k l1).bind fun t314 => ((spec_DoersOf.f k t311 t314 a2).bind fun bt317 => ((laws_toLocusS.f k l0).bind fun t321 => ((laws_toVerbS.f k l1).bind fun t324 => ((impl_DoersOf.f k t321 t324 a2).bind fun bt327 => ((laws_eqStringS.f k bt327.1 bt317.1).bind fun t331 => (if t331 = true then (laws_FnExactDoersOf.j0 k l0 l1 a2 bt317.1 bt317.2 t321 t324 bt327.1 bt327.2 (bt327.2 != bt317.2)) else (laws_FnExactDoersOf.j0 k l0 l1 a2 bt317.1 bt317.2 t321 t324 bt327.1 bt327.2 true)))))))))))))
theorem laws_FnExactDoersOf.mono_l : ∀ k, (∀ y0 y1 y2 y3 y4 y5 y6 y7 y8 y9, LeO (laws_FnExactDoersOf.j0 k y0 y1 y2 y3 y4 y5 y6 y7 y8 y9) (laws_FnExactDoersOf.j0 (k + 1) y0 y1 y2 y3 y4 y5 y6 y7 y8 y9)) ∧ (∀ y0 y1 y2 y3 y4 y5 y6, LeO (laws_FnExactDoersOf.j1 k y0 y1 y2 y3 y4 y5 y6) (laws_FnExactDoersOf.j1 (k + 1) y0 y1 y2 y3 y4 y5 y6)) ∧ (∀ y0 y1 y2, LeO (laws_FnExactDoersOf.j2 k y0 y1 y2) (laws_FnExactDoersOf.j2 (k + 1) y0 y1 y2))
  | 0 => ⟨fun _ _ _ _ _ _ _ _ _ _ r h => by simp [laws_FnExactDoersOf.j0] at h, fun _ _ _ _ _ _ _ r h => by simp [laws_FnExactDoersOf.j1] at h, fun _ _ _ r h => by simp [laws_FnExactDoersOf.j2] at h⟩
  | k + 1 => by
    obtain ⟨ih0, ih1, ih2⟩ := laws_FnExactDoersOf.mono_l k
    refine ⟨?_, ?_, ?_⟩
    · intro y0 y1 y2 y3 y4 y5 y6 y7 y8 y9
      unfold laws_FnExactDoersOf.j0
      repeat' first
      | (with_reducible exact ih0 _ _ _ _ _ _ _ _ _ _)
      | (with_reducible exact ih1 _ _ _ _ _ _ _)
      | (with_reducible exact ih2 _ _ _)
      | (with_reducible exact impl_DoersOf.mono _ _ _ _)
      | (with_reducible exact laws_eqLocusS.mono _ _ _)
      | (with_reducible exact laws_eqStringS.mono _ _ _)
      | (with_reducible exact laws_eqVerbS.mono _ _ _)
      | (with_reducible exact laws_heldStringS.mono _ _ _)
      | (with_reducible exact laws_markLocusS.mono _ _ _)
      | (with_reducible exact laws_markStringS.mono _ _ _)
      | (with_reducible exact laws_markVerbS.mono _ _ _)
      | (with_reducible exact laws_szLocusS.mono _ _ _)
      | (with_reducible exact laws_szVerbS.mono _ _ _)
      | (with_reducible exact laws_toLocusS.mono _ _)
      | (with_reducible exact laws_toVerbS.mono _ _)
      | (with_reducible exact spec_DoersOf.mono _ _ _ _)
      | (with_reducible exact LeO.refl _)
      | (with_reducible exact LeO.none _)
      | (with_reducible refine LeO.ite ?_ ?_)
      | (with_reducible refine LeO.bind ?_ (fun _ => ?_))
      | exact ih0 _ _ _ _ _ _ _ _ _ _
      | exact ih1 _ _ _ _ _ _ _
      | exact ih2 _ _ _
      | exact impl_DoersOf.mono _ _ _ _
      | exact laws_eqLocusS.mono _ _ _
      | exact laws_eqStringS.mono _ _ _
      | exact laws_eqVerbS.mono _ _ _
      | exact laws_heldStringS.mono _ _ _
      | exact laws_markLocusS.mono _ _ _
      | exact laws_markStringS.mono _ _ _
      | exact laws_markVerbS.mono _ _ _
      | exact laws_szLocusS.mono _ _ _
      | exact laws_szVerbS.mono _ _ _
      | exact laws_toLocusS.mono _ _
      | exact laws_toVerbS.mono _ _
      | exact spec_DoersOf.mono _ _ _ _
      | exact LeO.none _
      | refine LeO.ite ?_ ?_
      | refine LeO.bind ?_ (fun _ => ?_)
    · intro y0 y1 y2 y3 y4 y5 y6
      unfold laws_FnExactDoersOf.j1
      repeat' first
      | (with_reducible exact ih0 _ _ _ _ _ _ _ _ _ _)
      | (with_reducible exact ih1 _ _ _ _ _ _ _)
      | (with_reducible exact ih2 _ _ _)
      | (with_reducible exact impl_DoersOf.mono _ _ _ _)
      | (with_reducible exact laws_eqLocusS.mono _ _ _)
      | (with_reducible exact laws_eqStringS.mono _ _ _)
      | (with_reducible exact laws_eqVerbS.mono _ _ _)
      | (with_reducible exact laws_heldStringS.mono _ _ _)
      | (with_reducible exact laws_markLocusS.mono _ _ _)
      | (with_reducible exact laws_markStringS.mono _ _ _)
      | (with_reducible exact laws_markVerbS.mono _ _ _)
      | (with_reducible exact laws_szLocusS.mono _ _ _)
      | (with_reducible exact laws_szVerbS.mono _ _ _)
      | (with_reducible exact laws_toLocusS.mono _ _)
      | (with_reducible exact laws_toVerbS.mono _ _)
      | (with_reducible exact spec_DoersOf.mono _ _ _ _)
      | (with_reducible exact LeO.refl _)
      | (with_reducible exact LeO.none _)
      | (with_reducible refine LeO.ite ?_ ?_)
      | (with_reducible refine LeO.bind ?_ (fun _ => ?_))
      | exact ih0 _ _ _ _ _ _ _ _ _ _
      | exact ih1 _ _ _ _ _ _ _
      | exact ih2 _ _ _
      | exact impl_DoersOf.mono _ _ _ _
      | exact laws_eqLocusS.mono _ _ _
      | exact laws_eqStringS.mono _ _ _
      | exact laws_eqVerbS.mono _ _ _
      | exact laws_heldStringS.mono _ _ _
      | exact laws_markLocusS.mono _ _ _
      | exact laws_markStringS.mono _ _ _
      | exact laws_markVerbS.mono _ _ _
      | exact laws_szLocusS.mono _ _ _
      | exact laws_szVerbS.mono _ _ _
      | exact laws_toLocusS.mono _ _
      | exact laws_toVerbS.mono _ _
      | exact spec_DoersOf.mono _ _ _ _
      | exact LeO.none _
      | refine LeO.ite ?_ ?_
      | refine LeO.bind ?_ (fun _ => ?_)
    · intro y0 y1 y2
      unfold laws_FnExactDoersOf.j2
      repeat' first
      | (with_reducible exact ih0 _ _ _ _ _ _ _ _ _ _)
      | (with_reducible exact ih1 _ _ _ _ _ _ _)
      | (with_reducible exact ih2 _ _ _)
      | (with_reducible exact impl_DoersOf.mono _ _ _ _)
      | (with_reducible exact laws_eqLocusS.mono _ _ _)
      | (with_reducible exact laws_eqStringS.mono _ _ _)
      | (with_reducible exact laws_eqVerbS.mono _ _ _)
      | (with_reducible exact laws_heldStringS.mono _ _ _)
      | (with_reducible exact laws_markLocusS.mono _ _ _)
      | (with_reducible exact laws_markStringS.mono _ _ _)
      | (with_reducible exact laws_markVerbS.mono _ _ _)
      | (with_reducible exact laws_szLocusS.mono _ _ _)
      | (with_reducible exact laws_szVerbS.mono _ _ _)
      | (with_reducible exact laws_toLocusS.mono _ _)
      | (with_reducible exact laws_toVerbS.mono _ _)
      | (with_reducible exact spec_DoersOf.mono _ _ _ _)
      | (with_reducible exact LeO.refl _)
      | (with_reducible exact LeO.none _)
      | (with_reducible refine LeO.ite ?_ ?_)
      | (with_reducible refine LeO.bind ?_ (fun _ => ?_))
      | exact ih0 _ _ _ _ _ _ _ _ _ _
      | exact ih1 _ _ _ _ _ _ _
      | exact ih2 _ _ _
      | exact impl_DoersOf.mono _ _ _ _
      | exact laws_eqLocusS.mono _ _ _
      | exact laws_eqStringS.mono _ _ _
      | exact laws_eqVerbS.mono _ _ _
      | exact laws_heldStringS.mono _ _ _
      | exact laws_markLocusS.mono _ _ _
      | exact laws_markStringS.mono _ _ _
      | exact laws_markVerbS.mono _ _ _
      | exact laws_szLocusS.mono _ _ _
      | exact laws_szVerbS.mono _ _ _
      | exact laws_toLocusS.mono _ _
      | exact laws_toVerbS.mono _ _
      | exact spec_DoersOf.mono _ _ _ _
      | exact LeO.none _
      | refine LeO.ite ?_ ?_
      | refine LeO.bind ?_ (fun _ => ?_)
theorem laws_FnExactDoersOf.mono : ∀ a0 a1 a2 k, LeO (laws_FnExactDoersOf.f k a0 a1 a2) (laws_FnExactDoersOf.f (k + 1) a0 a1 a2) := by
  intro a0 a1 a2 k
  obtain ⟨ih0, ih1, ih2⟩ := laws_FnExactDoersOf.mono_l k
  unfold laws_FnExactDoersOf.f
  repeat' first
      | (with_reducible exact ih0 _ _ _ _ _ _ _ _ _ _)
      | (with_reducible exact ih1 _ _ _ _ _ _ _)
      | (with_reducible exact ih2 _ _ _)
      | (with_reducible exact impl_DoersOf.mono _ _ _ _)
      | (with_reducible exact laws_eqLocusS.mono _ _ _)
      | (with_reducible exact laws_eqStringS.mono _ _ _)
      | (with_reducible exact laws_eqVerbS.mono _ _ _)
      | (with_reducible exact laws_heldStringS.mono _ _ _)
      | (with_reducible exact laws_markLocusS.mono _ _ _)
      | (with_reducible exact laws_markStringS.mono _ _ _)
      | (with_reducible exact laws_markVerbS.mono _ _ _)
      | (with_reducible exact laws_szLocusS.mono _ _ _)
      | (with_reducible exact laws_szVerbS.mono _ _ _)
      | (with_reducible exact laws_toLocusS.mono _ _)
      | (with_reducible exact laws_toVerbS.mono _ _)
      | (with_reducible exact spec_DoersOf.mono _ _ _ _)
      | (with_reducible exact LeO.refl _)
      | (with_reducible exact LeO.none _)
      | (with_reducible refine LeO.ite ?_ ?_)
      | (with_reducible refine LeO.bind ?_ (fun _ => ?_))
      | exact ih0 _ _ _ _ _ _ _ _ _ _
      | exact ih1 _ _ _ _ _ _ _
      | exact ih2 _ _ _
      | exact impl_DoersOf.mono _ _ _ _
      | exact laws_eqLocusS.mono _ _ _
      | exact laws_eqStringS.mono _ _ _
      | exact laws_eqVerbS.mono _ _ _
      | exact laws_heldStringS.mono _ _ _
      | exact laws_markLocusS.mono _ _ _
      | exact laws_markStringS.mono _ _ _
      | exact laws_markVerbS.mono _ _ _
      | exact laws_szLocusS.mono _ _ _
      | exact laws_szVerbS.mono _ _ _
      | exact laws_toLocusS.mono _ _
      | exact laws_toVerbS.mono _ _
      | exact spec_DoersOf.mono _ _ _ _
      | exact LeO.none _
      | refine LeO.ite ?_ ?_
      | refine LeO.bind ?_ (fun _ => ?_)
noncomputable def laws_FnExactDoersOf.J0 (x0 : List (S62)) (x1 : List (S76)) (x2 : ByteArray) (x8 : List ByteArray) (x9 : Bool) (x10 : List (S55)) (x11 : List (S78)) (x12 : List ByteArray) (x13 : Bool) (x60 : Bool) : Option (Bool) := lim fun k => laws_FnExactDoersOf.j0 k x0 x1 x2 x8 x9 x10 x11 x12 x13 x60
theorem laws_FnExactDoersOf.J0_lim (x0 : List (S62)) (x1 : List (S76)) (x2 : ByteArray) (x8 : List ByteArray) (x9 : Bool) (x10 : List (S55)) (x11 : List (S78)) (x12 : List ByteArray) (x13 : Bool) (x60 : Bool) : Lim (fun k => laws_FnExactDoersOf.j0 k x0 x1 x2 x8 x9 x10 x11 x12 x13 x60) (laws_FnExactDoersOf.J0 x0 x1 x2 x8 x9 x10 x11 x12 x13 x60) := ⟨fun k => (laws_FnExactDoersOf.mono_l k).1 x0 x1 x2 x8 x9 x10 x11 x12 x13 x60, rfl⟩
noncomputable def laws_FnExactDoersOf.J1 (x0 : List (S62)) (x1 : List (S76)) (x2 : ByteArray) (x8 : List ByteArray) (x9 : Bool) (x12 : List ByteArray) (x89 : Bool) : Option (Bool) := lim fun k => laws_FnExactDoersOf.j1 k x0 x1 x2 x8 x9 x12 x89
theorem laws_FnExactDoersOf.J1_lim (x0 : List (S62)) (x1 : List (S76)) (x2 : ByteArray) (x8 : List ByteArray) (x9 : Bool) (x12 : List ByteArray) (x89 : Bool) : Lim (fun k => laws_FnExactDoersOf.j1 k x0 x1 x2 x8 x9 x12 x89) (laws_FnExactDoersOf.J1 x0 x1 x2 x8 x9 x12 x89) := ⟨fun k => (laws_FnExactDoersOf.mono_l k).2.1 x0 x1 x2 x8 x9 x12 x89, rfl⟩
noncomputable def laws_FnExactDoersOf.J2 (x12 : List ByteArray) (x15 : Int) (x118 : Bool) : Option (Bool) := lim fun k => laws_FnExactDoersOf.j2 k x12 x15 x118
theorem laws_FnExactDoersOf.J2_lim (x12 : List ByteArray) (x15 : Int) (x118 : Bool) : Lim (fun k => laws_FnExactDoersOf.j2 k x12 x15 x118) (laws_FnExactDoersOf.J2 x12 x15 x118) := ⟨fun k => (laws_FnExactDoersOf.mono_l k).2.2 x12 x15 x118, rfl⟩
noncomputable def laws_FnExactDoersOf.F (l0 : List (S62)) (l1 : List (S76)) (a2 : ByteArray) : Option (Bool) := lim fun k => laws_FnExactDoersOf.f k l0 l1 a2
theorem laws_FnExactDoersOf.F_lim (l0 : List (S62)) (l1 : List (S76)) (a2 : ByteArray) : Lim (fun k => laws_FnExactDoersOf.f k l0 l1 a2) (laws_FnExactDoersOf.F l0 l1 a2) := ⟨laws_FnExactDoersOf.mono l0 l1 a2, rfl⟩
theorem laws_FnExactDoersOf.J0_eq (x0 : List (S62)) (x1 : List (S76)) (x2 : ByteArray) (x8 : List ByteArray) (x9 : Bool) (x10 : List (S55)) (x11 : List (S78)) (x12 : List ByteArray) (x13 : Bool) (x60 : Bool) : laws_FnExactDoersOf.J0 x0 x1 x2 x8 x9 x10 x11 x12 x13 x60 = (if x60 = true then (some false) else ((laws_toLocusS.F x0).bind fun t332 => ((laws_eqLocusS.F x10 t332).bind fun t335 => (if t335 = true then ((laws_toVerbS.F x1).bind fun t336 => ((laws_eqVerbS.F x11 t336).bind fun t339 => (if t339 = true then ((laws_markLocusS.F x10 1).bind fun bt340 => ((laws_markVerbS.F x11 bt340.1).bind fun bt342 => (if bt342.1 < 0 then (laws_FnExactDoersOf.J1 x0 x1 x2 x8 x9 x12 true) else ((laws_eqStringS.F x12 x8).bind fun t344 => (if t344 = true then (laws_FnExactDoersOf.J1 x0 x1 x2 x8 x9 x12 (x13 != x9)) else (laws_FnExactDoersOf.J1 x0 x1 x2 x8 x9 x12 true)))))) else (some false)))) else (some false))))) := by
  refine Lim.succ_eq (laws_FnExactDoersOf.J0_lim x0 x1 x2 x8 x9 x10 x11 x12 x13 x60).mon ?_
  simp only [laws_FnExactDoersOf.j0]
  repeat' first
  | (with_reducible exact laws_FnExactDoersOf.J0_lim _ _ _ _ _ _ _ _ _ _)
  | (with_reducible exact laws_FnExactDoersOf.J1_lim _ _ _ _ _ _ _)
  | (with_reducible exact laws_FnExactDoersOf.J2_lim _ _ _)
  | (with_reducible exact impl_DoersOf.F_lim _ _ _)
  | (with_reducible exact laws_eqLocusS.F_lim _ _)
  | (with_reducible exact laws_eqStringS.F_lim _ _)
  | (with_reducible exact laws_eqVerbS.F_lim _ _)
  | (with_reducible exact laws_heldStringS.F_lim _ _)
  | (with_reducible exact laws_markLocusS.F_lim _ _)
  | (with_reducible exact laws_markStringS.F_lim _ _)
  | (with_reducible exact laws_markVerbS.F_lim _ _)
  | (with_reducible exact laws_szLocusS.F_lim _ _)
  | (with_reducible exact laws_szVerbS.F_lim _ _)
  | (with_reducible exact laws_toLocusS.F_lim _)
  | (with_reducible exact laws_toVerbS.F_lim _)
  | (with_reducible exact spec_DoersOf.F_lim _ _ _)
  | (with_reducible refine Lim.ite ?_ ?_)
  | (with_reducible refine Lim.bind ?_ (fun _ => ?_))
  | (with_reducible exact Lim.const _)
theorem laws_FnExactDoersOf.J1_eq (x0 : List (S62)) (x1 : List (S76)) (x2 : ByteArray) (x8 : List ByteArray) (x9 : Bool) (x12 : List ByteArray) (x89 : Bool) : laws_FnExactDoersOf.J1 x0 x1 x2 x8 x9 x12 x89 = (if x89 = true then (some false) else ((laws_markStringS.F x12 1).bind fun bt345 => ((laws_heldStringS.F bt345.2 1).bind fun t347 => (if t347 < 0 then (some false) else (if t347 = bt345.1 then ((laws_toLocusS.F x0).bind fun t348 => ((laws_toVerbS.F x1).bind fun t351 => ((impl_DoersOf.F t348 t351 x2).bind fun bt354 => ((laws_eqStringS.F bt354.1 x8).bind fun t358 => (if t358 = true then (laws_FnExactDoersOf.J2 bt345.2 bt345.1 (bt354.2 != x9)) else (laws_FnExactDoersOf.J2 bt345.2 bt345.1 true)))))) else (some false)))))) := by
  refine Lim.succ_eq (laws_FnExactDoersOf.J1_lim x0 x1 x2 x8 x9 x12 x89).mon ?_
  simp only [laws_FnExactDoersOf.j1]
  repeat' first
  | (with_reducible exact laws_FnExactDoersOf.J0_lim _ _ _ _ _ _ _ _ _ _)
  | (with_reducible exact laws_FnExactDoersOf.J1_lim _ _ _ _ _ _ _)
  | (with_reducible exact laws_FnExactDoersOf.J2_lim _ _ _)
  | (with_reducible exact impl_DoersOf.F_lim _ _ _)
  | (with_reducible exact laws_eqLocusS.F_lim _ _)
  | (with_reducible exact laws_eqStringS.F_lim _ _)
  | (with_reducible exact laws_eqVerbS.F_lim _ _)
  | (with_reducible exact laws_heldStringS.F_lim _ _)
  | (with_reducible exact laws_markLocusS.F_lim _ _)
  | (with_reducible exact laws_markStringS.F_lim _ _)
  | (with_reducible exact laws_markVerbS.F_lim _ _)
  | (with_reducible exact laws_szLocusS.F_lim _ _)
  | (with_reducible exact laws_szVerbS.F_lim _ _)
  | (with_reducible exact laws_toLocusS.F_lim _)
  | (with_reducible exact laws_toVerbS.F_lim _)
  | (with_reducible exact spec_DoersOf.F_lim _ _ _)
  | (with_reducible refine Lim.ite ?_ ?_)
  | (with_reducible refine Lim.bind ?_ (fun _ => ?_))
  | (with_reducible exact Lim.const _)
theorem laws_FnExactDoersOf.J2_eq (x12 : List ByteArray) (x15 : Int) (x118 : Bool) : laws_FnExactDoersOf.J2 x12 x15 x118 = (if x118 = true then (some false) else ((laws_heldStringS.F x12 1).bind fun t359 => (if t359 < 0 then (some false) else (if t359 = x15 then (some true) else (some false))))) := by
  refine Lim.succ_eq (laws_FnExactDoersOf.J2_lim x12 x15 x118).mon ?_
  simp only [laws_FnExactDoersOf.j2]
  repeat' first
  | (with_reducible exact laws_FnExactDoersOf.J0_lim _ _ _ _ _ _ _ _ _ _)
  | (with_reducible exact laws_FnExactDoersOf.J1_lim _ _ _ _ _ _ _)
  | (with_reducible exact laws_FnExactDoersOf.J2_lim _ _ _)
  | (with_reducible exact impl_DoersOf.F_lim _ _ _)
  | (with_reducible exact laws_eqLocusS.F_lim _ _)
  | (with_reducible exact laws_eqStringS.F_lim _ _)
  | (with_reducible exact laws_eqVerbS.F_lim _ _)
  | (with_reducible exact laws_heldStringS.F_lim _ _)
  | (with_reducible exact laws_markLocusS.F_lim _ _)
  | (with_reducible exact laws_markStringS.F_lim _ _)
  | (with_reducible exact laws_markVerbS.F_lim _ _)
  | (with_reducible exact laws_szLocusS.F_lim _ _)
  | (with_reducible exact laws_szVerbS.F_lim _ _)
  | (with_reducible exact laws_toLocusS.F_lim _)
  | (with_reducible exact laws_toVerbS.F_lim _)
  | (with_reducible exact spec_DoersOf.F_lim _ _ _)
  | (with_reducible refine Lim.ite ?_ ?_)
  | (with_reducible refine Lim.bind ?_ (fun _ => ?_))
  | (with_reducible exact Lim.const _)
theorem laws_FnExactDoersOf.F_eq (l0 : List (S62)) (l1 : List (S76)) (a2 : ByteArray) : laws_FnExactDoersOf.F l0 l1 a2 = (if (a2.size : Int) > 1048576 then (some true) else ((laws_szLocusS.F l0 1048576).bind fun t309 => (if t309 < 0 then (some true) else ((laws_szVerbS.F l1 t309).bind fun t310 => (if t310 < 0 then (some true) else ((laws_toLocusS.F l0).bind fun t311 => ((laws_toVerbS.F l1).bind fun t314 => ((spec_DoersOf.F t311 t314 a2).bind fun bt317 => ((laws_toLocusS.F l0).bind fun t321 => ((laws_toVerbS.F l1).bind fun t324 => ((impl_DoersOf.F t321 t324 a2).bind fun bt327 => ((laws_eqStringS.F bt327.1 bt317.1).bind fun t331 => (if t331 = true then (laws_FnExactDoersOf.J0 l0 l1 a2 bt317.1 bt317.2 t321 t324 bt327.1 bt327.2 (bt327.2 != bt317.2)) else (laws_FnExactDoersOf.J0 l0 l1 a2 bt317.1 bt317.2 t321 t324 bt327.1 bt327.2 true)))))))))))))) := by
  refine Lim.eq_ ?_
  simp only [laws_FnExactDoersOf.f]
  repeat' first
  | (with_reducible exact laws_FnExactDoersOf.J0_lim _ _ _ _ _ _ _ _ _ _)
  | (with_reducible exact laws_FnExactDoersOf.J1_lim _ _ _ _ _ _ _)
  | (with_reducible exact laws_FnExactDoersOf.J2_lim _ _ _)
  | (with_reducible exact impl_DoersOf.F_lim _ _ _)
  | (with_reducible exact laws_eqLocusS.F_lim _ _)
  | (with_reducible exact laws_eqStringS.F_lim _ _)
  | (with_reducible exact laws_eqVerbS.F_lim _ _)
  | (with_reducible exact laws_heldStringS.F_lim _ _)
  | (with_reducible exact laws_markLocusS.F_lim _ _)
  | (with_reducible exact laws_markStringS.F_lim _ _)
  | (with_reducible exact laws_markVerbS.F_lim _ _)
  | (with_reducible exact laws_szLocusS.F_lim _ _)
  | (with_reducible exact laws_szVerbS.F_lim _ _)
  | (with_reducible exact laws_toLocusS.F_lim _)
  | (with_reducible exact laws_toVerbS.F_lim _)
  | (with_reducible exact spec_DoersOf.F_lim _ _ _)
  | (with_reducible refine Lim.ite ?_ ?_)
  | (with_reducible refine Lim.bind ?_ (fun _ => ?_))
  | (with_reducible exact Lim.const _)
def Wf62 (x : S62) : Prop := x.f0.size ≤ 9223372036854775807 ∧ (Lit.int .i64 x.f1).wf = true
def Wf76 (x : S76) : Prop := x.f0.size ≤ 9223372036854775807 ∧ (Lit.int .i64 x.f1).wf = true ∧ (Lit.int .i64 x.f2).wf = true
def laws_FnExactDoersOf.Pure : Prop := ∀ (l0 : List (S62)) (l1 : List (S76)) (a2 : ByteArray), (l0.length ≤ 9223372036854775807 ∧ ∀ x ∈ l0, Wf62 x) → (l1.length ≤ 9223372036854775807 ∧ ∀ x ∈ l1, Wf76 x) → (a2.size ≤ 9223372036854775807) → ∃ k, laws_FnExactDoersOf.f k l0 l1 a2 = some true
end Go.Proofs.Ytbheajjagkdjmaa.PFnExactDoersOf
