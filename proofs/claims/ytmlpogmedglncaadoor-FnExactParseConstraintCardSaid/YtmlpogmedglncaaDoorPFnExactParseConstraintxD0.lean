/- Written by a program of this claim's author, out of the loaded program as Lean prints it: the functions as Lean functions, and that the calls answer so. -/
import Derived.Test.YtmlpogmedglncaaDoorPFnExactParseConstraintx0
namespace Go.Proofs.YtmlpogmedglncaaDoor.PFnExactParseConstraint
open Go.RowKit Go.Proofs.YtmlpogmedglncaaDoorW.PrintWords Go.Proofs.YtmlpogmedglncaaDoorW.PrintLast Go.Proofs.YtmlpogmedglncaaDoorW.PrintMore
attribute [local go_sem] max2_int min2_int max_two min_two max_three min_three max_four min_four   -- for this text's walks alone
set_option linter.unusedVariables false
set_option linter.unusedSimpArgs false

def spec_l1In.f (a0 : Int) (a1 : Int) (a2 : Int) : Option (Bool) := if a0 ≥ a1 then (some (decide (a0 ≤ a2))) else (some false)
def spec_ruMost.f (a0 : Int) : Option (Int) := (some (([18, 9, 4, 3, 9] : List Int) : List Int)).bind fun y101 => (if 0 ≤ a0 then (if a0 < (y101.length : Int) then (some (rd y101 a0)) else (none)) else (none))
def spec_ruGood.f (a0_0 : Int) (a0_1 : Int) : Option (Bool) := (spec_l1In.f a0_0 0 4).bind fun t106 => (if t106 = true then ((spec_ruMost.f a0_0).bind fun t107 => ((spec_l1In.f a0_1 0 t107).bind fun t108 => (if t108 = true then (if a0_0 = 3 then ((spec_l1In.f a0_1 0 3).bind fun t109 => (some t109)) else (some true)) else (some false)))) else (some false))
def spec_ruNames.f  : Option (List ByteArray) := some (([(⟨#[115, 116, 101, 112, 115]⟩ : ByteArray), (⟨#[114, 101, 103, 105, 111, 110]⟩ : ByteArray), (⟨#[111, 112, 101, 110]⟩ : ByteArray), (⟨#[107, 105, 110, 100]⟩ : ByteArray), (⟨#[98, 101, 108, 111, 119]⟩ : ByteArray)] : List ByteArray))
def spec_l1Split.l0 : Nat → ByteArray → Int → List ByteArray → Int → Int → Option (List ByteArray)
  | 0, _, _, _, _, _ => none
  | k + 1, x0, x1, x5, x6, x7 => if x7 < (x0.size : Int) then (if 0 ≤ x7 then (if (bt x0 x7) = x1 then (if 0 ≤ x6 then (if x6 ≤ x7 then (if x7 ≤ (x0.size : Int) then (if x5.length < 8796093022208 then (spec_l1Split.l0 k x0 x1 (x5 ++ [x0.extract (x6 : Int).toNat (x7 : Int).toNat]) (wrap64 (x7 + 1)) (wrap64 (x7 + 1))) else (none)) else (none)) else (none)) else (none)) else (spec_l1Split.l0 k x0 x1 x5 x6 (wrap64 (x7 + 1)))) else (none)) else (if 0 ≤ x6 then (if x6 ≤ (x0.size : Int) then (if x5.length < 8796093022208 then (some (x5 ++ [x0.extract (x6 : Int).toNat x0.size])) else (none)) else (none)) else (none))
def spec_l1Split.f (k : Nat) (a0 : ByteArray) (a1 : Int) : Option (List ByteArray) := spec_l1Split.l0 k a0 a1 ([] : List ByteArray) 0 0
theorem spec_l1Split.mono_l : ∀ k, (∀ y0 y1 y2 y3 y4, LeO (spec_l1Split.l0 k y0 y1 y2 y3 y4) (spec_l1Split.l0 (k + 1) y0 y1 y2 y3 y4))
  | 0 => fun _ _ _ _ _ r h => by simp [spec_l1Split.l0] at h
  | k + 1 => by
    have ih0 := spec_l1Split.mono_l k
    · intro y0 y1 y2 y3 y4
      unfold spec_l1Split.l0
      repeat' first
      | (with_reducible exact ih0 _ _ _ _ _)
      | (with_reducible exact LeO.refl _)
      | (with_reducible exact LeO.none _)
      | (with_reducible refine LeO.ite ?_ ?_)
      | (with_reducible refine LeO.bind ?_ (fun _ => ?_))
      | exact ih0 _ _ _ _ _
      | exact LeO.none _
      | refine LeO.ite ?_ ?_
      | refine LeO.bind ?_ (fun _ => ?_)
theorem spec_l1Split.mono : ∀ a0 a1 k, LeO (spec_l1Split.f k a0 a1) (spec_l1Split.f (k + 1) a0 a1) := by
  intro a0 a1 k
  have ih0 := spec_l1Split.mono_l k
  unfold spec_l1Split.f
  repeat' first
      | (with_reducible exact ih0 _ _ _ _ _)
      | (with_reducible exact LeO.refl _)
      | (with_reducible exact LeO.none _)
      | (with_reducible refine LeO.ite ?_ ?_)
      | (with_reducible refine LeO.bind ?_ (fun _ => ?_))
      | exact ih0 _ _ _ _ _
      | exact LeO.none _
      | refine LeO.ite ?_ ?_
      | refine LeO.bind ?_ (fun _ => ?_)
noncomputable def spec_l1Split.L0 (x0 : ByteArray) (x1 : Int) (x5 : List ByteArray) (x6 : Int) (x7 : Int) : Option (List ByteArray) := lim fun k => spec_l1Split.l0 k x0 x1 x5 x6 x7
theorem spec_l1Split.L0_lim (x0 : ByteArray) (x1 : Int) (x5 : List ByteArray) (x6 : Int) (x7 : Int) : Lim (fun k => spec_l1Split.l0 k x0 x1 x5 x6 x7) (spec_l1Split.L0 x0 x1 x5 x6 x7) := ⟨fun k => (spec_l1Split.mono_l k) x0 x1 x5 x6 x7, rfl⟩
noncomputable def spec_l1Split.F (a0 : ByteArray) (a1 : Int) : Option (List ByteArray) := lim fun k => spec_l1Split.f k a0 a1
theorem spec_l1Split.F_lim (a0 : ByteArray) (a1 : Int) : Lim (fun k => spec_l1Split.f k a0 a1) (spec_l1Split.F a0 a1) := ⟨spec_l1Split.mono a0 a1, rfl⟩
theorem spec_l1Split.L0_eq (x0 : ByteArray) (x1 : Int) (x5 : List ByteArray) (x6 : Int) (x7 : Int) : spec_l1Split.L0 x0 x1 x5 x6 x7 = (if x7 < (x0.size : Int) then (if 0 ≤ x7 then (if (bt x0 x7) = x1 then (if 0 ≤ x6 then (if x6 ≤ x7 then (if x7 ≤ (x0.size : Int) then (if x5.length < 8796093022208 then (spec_l1Split.L0 x0 x1 (x5 ++ [x0.extract (x6 : Int).toNat (x7 : Int).toNat]) (wrap64 (x7 + 1)) (wrap64 (x7 + 1))) else (none)) else (none)) else (none)) else (none)) else (spec_l1Split.L0 x0 x1 x5 x6 (wrap64 (x7 + 1)))) else (none)) else (if 0 ≤ x6 then (if x6 ≤ (x0.size : Int) then (if x5.length < 8796093022208 then (some (x5 ++ [x0.extract (x6 : Int).toNat x0.size])) else (none)) else (none)) else (none))) := by
  refine Lim.succ_eq (spec_l1Split.L0_lim x0 x1 x5 x6 x7).mon ?_
  simp only [spec_l1Split.l0]
  repeat' first
  | (with_reducible exact spec_l1Split.L0_lim _ _ _ _ _)
  | (with_reducible refine Lim.ite ?_ ?_)
  | (with_reducible refine Lim.bind ?_ (fun _ => ?_))
  | (with_reducible exact Lim.const _)
theorem spec_l1Split.F_eq (a0 : ByteArray) (a1 : Int) : spec_l1Split.F a0 a1 = (spec_l1Split.L0 a0 a1 ([] : List ByteArray) 0 0) := by
  refine Lim.eq_ ?_
  simp only [spec_l1Split.f]
  repeat' first
  | (with_reducible exact spec_l1Split.L0_lim _ _ _ _ _)
  | (with_reducible refine Lim.ite ?_ ?_)
  | (with_reducible refine Lim.bind ?_ (fun _ => ?_))
  | (with_reducible exact Lim.const _)
mutual
def spec_l1Read.j0 : Nat → ByteArray → Bool → Option (Int)
  | 0, _, _ => none
  | k + 1, x0, x18 => if x18 = true then (some (-1)) else (spec_l1Read.l0 k x0 0 0)
def spec_l1Read.l0 : Nat → ByteArray → Int → Int → Option (Int)
  | 0, _, _, _ => none
  | k + 1, x0, x3, x4 => if x4 < (x0.size : Int) then (if 0 ≤ x4 then (if (bt x0 x4) < 48 then (some (-1)) else (if (bt x0 x4) > 57 then (some (-1)) else (spec_l1Read.l0 k x0 (wrap64 ((wrap64 (10 * x3)) + (((bt x0 x4) - 48) % 256))) (wrap64 (x4 + 1))))) else (none)) else (some x3)
end
def spec_l1Read.f (k : Nat) (a0 : ByteArray) : Option (Int) := (spec_l1In.f (a0.size : Int) 1 6).bind fun t119 => (if t119 = true then (if 0 < (a0.size : Int) then (if (bt a0 0) = 48 then (spec_l1Read.j0 k a0 (decide ((a0.size : Int) > 1))) else (spec_l1Read.j0 k a0 false)) else (none)) else (spec_l1Read.j0 k a0 true))
theorem spec_l1Read.mono_l : ∀ k, (∀ y0 y1, LeO (spec_l1Read.j0 k y0 y1) (spec_l1Read.j0 (k + 1) y0 y1)) ∧ (∀ y0 y1 y2, LeO (spec_l1Read.l0 k y0 y1 y2) (spec_l1Read.l0 (k + 1) y0 y1 y2))
  | 0 => ⟨fun _ _ r h => by simp [spec_l1Read.j0] at h, fun _ _ _ r h => by simp [spec_l1Read.l0] at h⟩
  | k + 1 => by
    obtain ⟨ih0, ih1⟩ := spec_l1Read.mono_l k
    refine ⟨?_, ?_⟩
    · intro y0 y1
      unfold spec_l1Read.j0
      repeat' first
      | (with_reducible exact ih0 _ _)
      | (with_reducible exact ih1 _ _ _)
      | (with_reducible exact LeO.refl _)
      | (with_reducible exact LeO.none _)
      | (with_reducible refine LeO.ite ?_ ?_)
      | (with_reducible refine LeO.bind ?_ (fun _ => ?_))
      | exact ih0 _ _
      | exact ih1 _ _ _
      | exact LeO.none _
      | refine LeO.ite ?_ ?_
      | refine LeO.bind ?_ (fun _ => ?_)
    · intro y0 y1 y2
      unfold spec_l1Read.l0
      repeat' first
      | (with_reducible exact ih0 _ _)
      | (with_reducible exact ih1 _ _ _)
      | (with_reducible exact LeO.refl _)
      | (with_reducible exact LeO.none _)
      | (with_reducible refine LeO.ite ?_ ?_)
      | (with_reducible refine LeO.bind ?_ (fun _ => ?_))
      | exact ih0 _ _
      | exact ih1 _ _ _
      | exact LeO.none _
      | refine LeO.ite ?_ ?_
      | refine LeO.bind ?_ (fun _ => ?_)
theorem spec_l1Read.mono : ∀ a0 k, LeO (spec_l1Read.f k a0) (spec_l1Read.f (k + 1) a0) := by
  intro a0 k
  obtain ⟨ih0, ih1⟩ := spec_l1Read.mono_l k
  unfold spec_l1Read.f
  repeat' first
      | (with_reducible exact ih0 _ _)
      | (with_reducible exact ih1 _ _ _)
      | (with_reducible exact LeO.refl _)
      | (with_reducible exact LeO.none _)
      | (with_reducible refine LeO.ite ?_ ?_)
      | (with_reducible refine LeO.bind ?_ (fun _ => ?_))
      | exact ih0 _ _
      | exact ih1 _ _ _
      | exact LeO.none _
      | refine LeO.ite ?_ ?_
      | refine LeO.bind ?_ (fun _ => ?_)
noncomputable def spec_l1Read.J0 (x0 : ByteArray) (x18 : Bool) : Option (Int) := lim fun k => spec_l1Read.j0 k x0 x18
theorem spec_l1Read.J0_lim (x0 : ByteArray) (x18 : Bool) : Lim (fun k => spec_l1Read.j0 k x0 x18) (spec_l1Read.J0 x0 x18) := ⟨fun k => (spec_l1Read.mono_l k).1 x0 x18, rfl⟩
noncomputable def spec_l1Read.L0 (x0 : ByteArray) (x3 : Int) (x4 : Int) : Option (Int) := lim fun k => spec_l1Read.l0 k x0 x3 x4
theorem spec_l1Read.L0_lim (x0 : ByteArray) (x3 : Int) (x4 : Int) : Lim (fun k => spec_l1Read.l0 k x0 x3 x4) (spec_l1Read.L0 x0 x3 x4) := ⟨fun k => (spec_l1Read.mono_l k).2 x0 x3 x4, rfl⟩
noncomputable def spec_l1Read.F (a0 : ByteArray) : Option (Int) := lim fun k => spec_l1Read.f k a0
theorem spec_l1Read.F_lim (a0 : ByteArray) : Lim (fun k => spec_l1Read.f k a0) (spec_l1Read.F a0) := ⟨spec_l1Read.mono a0, rfl⟩
theorem spec_l1Read.J0_eq (x0 : ByteArray) (x18 : Bool) : spec_l1Read.J0 x0 x18 = (if x18 = true then (some (-1)) else (spec_l1Read.L0 x0 0 0)) := by
  refine Lim.succ_eq (spec_l1Read.J0_lim x0 x18).mon ?_
  simp only [spec_l1Read.j0]
  repeat' first
  | (with_reducible exact spec_l1Read.J0_lim _ _)
  | (with_reducible exact spec_l1Read.L0_lim _ _ _)
  | (with_reducible refine Lim.ite ?_ ?_)
  | (with_reducible refine Lim.bind ?_ (fun _ => ?_))
  | (with_reducible exact Lim.const _)
theorem spec_l1Read.L0_eq (x0 : ByteArray) (x3 : Int) (x4 : Int) : spec_l1Read.L0 x0 x3 x4 = (if x4 < (x0.size : Int) then (if 0 ≤ x4 then (if (bt x0 x4) < 48 then (some (-1)) else (if (bt x0 x4) > 57 then (some (-1)) else (spec_l1Read.L0 x0 (wrap64 ((wrap64 (10 * x3)) + (((bt x0 x4) - 48) % 256))) (wrap64 (x4 + 1))))) else (none)) else (some x3)) := by
  refine Lim.succ_eq (spec_l1Read.L0_lim x0 x3 x4).mon ?_
  simp only [spec_l1Read.l0]
  repeat' first
  | (with_reducible exact spec_l1Read.J0_lim _ _)
  | (with_reducible exact spec_l1Read.L0_lim _ _ _)
  | (with_reducible refine Lim.ite ?_ ?_)
  | (with_reducible refine Lim.bind ?_ (fun _ => ?_))
  | (with_reducible exact Lim.const _)
theorem spec_l1Read.F_eq (a0 : ByteArray) : spec_l1Read.F a0 = ((spec_l1In.f (a0.size : Int) 1 6).bind fun t119 => (if t119 = true then (if 0 < (a0.size : Int) then (if (bt a0 0) = 48 then (spec_l1Read.J0 a0 (decide ((a0.size : Int) > 1))) else (spec_l1Read.J0 a0 false)) else (none)) else (spec_l1Read.J0 a0 true))) := by
  refine Lim.eq_ ?_
  simp only [spec_l1Read.f]
  repeat' first
  | (with_reducible exact spec_l1Read.J0_lim _ _)
  | (with_reducible exact spec_l1Read.L0_lim _ _ _)
  | (with_reducible refine Lim.ite ?_ ?_)
  | (with_reducible refine Lim.bind ?_ (fun _ => ?_))
  | (with_reducible exact Lim.const _)
def spec_ParseConstraint.l0 : Nat → List ByteArray → List ByteArray → Int → Int → Option (Int × Int × Bool)
  | 0, _, _, _, _ => none
  | k + 1, x4, x14, x15, x16 => if x16 < x15 then (if 0 ≤ x16 then (if x16 < (x14.length : Int) then (if 1 < (x4.length : Int) then ((spec_l1Read.f k (rdOf ByteArray.empty x4 1)).bind fun t129 => (if 0 < (x4.length : Int) then (if (rdOf ByteArray.empty x14 x16).toList = (rdOf ByteArray.empty x4 0).toList then ((spec_ruGood.f x16 t129).bind fun t132 => (if t132 = true then (some (x16, t129, true)) else (spec_ParseConstraint.l0 k x4 x14 x15 (wrap64 (x16 + 1))))) else (spec_ParseConstraint.l0 k x4 x14 x15 (wrap64 (x16 + 1)))) else (none))) else (none)) else (none)) else (none)) else (some (0, 0, false))
def spec_ParseConstraint.f (k : Nat) (a0 : ByteArray) : Option (Int × Int × Bool) := (spec_l1Split.f k a0 61).bind fun t121 => (if (t121.length : Int) = 2 then ((spec_ruNames.f).bind fun t124 => (spec_ParseConstraint.l0 k t121 t124 (t124.length : Int) 0)) else (some (0, 0, false)))
theorem spec_ParseConstraint.mono_l : ∀ k, (∀ y0 y1 y2 y3, LeO (spec_ParseConstraint.l0 k y0 y1 y2 y3) (spec_ParseConstraint.l0 (k + 1) y0 y1 y2 y3))
  | 0 => fun _ _ _ _ r h => by simp [spec_ParseConstraint.l0] at h
  | k + 1 => by
    have ih0 := spec_ParseConstraint.mono_l k
    · intro y0 y1 y2 y3
      unfold spec_ParseConstraint.l0
      repeat' first
      | (with_reducible exact ih0 _ _ _ _)
      | (with_reducible exact spec_l1Read.mono _ _)
      | (with_reducible exact spec_l1Split.mono _ _ _)
      | (with_reducible exact LeO.refl _)
      | (with_reducible exact LeO.none _)
      | (with_reducible refine LeO.ite ?_ ?_)
      | (with_reducible refine LeO.bind ?_ (fun _ => ?_))
      | exact ih0 _ _ _ _
      | exact spec_l1Read.mono _ _
      | exact spec_l1Split.mono _ _ _
      | exact LeO.none _
      | refine LeO.ite ?_ ?_
      | refine LeO.bind ?_ (fun _ => ?_)
theorem spec_ParseConstraint.mono : ∀ a0 k, LeO (spec_ParseConstraint.f k a0) (spec_ParseConstraint.f (k + 1) a0) := by
  intro a0 k
  have ih0 := spec_ParseConstraint.mono_l k
  unfold spec_ParseConstraint.f
  repeat' first
      | (with_reducible exact ih0 _ _ _ _)
      | (with_reducible exact spec_l1Read.mono _ _)
      | (with_reducible exact spec_l1Split.mono _ _ _)
      | (with_reducible exact LeO.refl _)
      | (with_reducible exact LeO.none _)
      | (with_reducible refine LeO.ite ?_ ?_)
      | (with_reducible refine LeO.bind ?_ (fun _ => ?_))
      | exact ih0 _ _ _ _
      | exact spec_l1Read.mono _ _
      | exact spec_l1Split.mono _ _ _
      | exact LeO.none _
      | refine LeO.ite ?_ ?_
      | refine LeO.bind ?_ (fun _ => ?_)
noncomputable def spec_ParseConstraint.L0 (x4 : List ByteArray) (x14 : List ByteArray) (x15 : Int) (x16 : Int) : Option (Int × Int × Bool) := lim fun k => spec_ParseConstraint.l0 k x4 x14 x15 x16
theorem spec_ParseConstraint.L0_lim (x4 : List ByteArray) (x14 : List ByteArray) (x15 : Int) (x16 : Int) : Lim (fun k => spec_ParseConstraint.l0 k x4 x14 x15 x16) (spec_ParseConstraint.L0 x4 x14 x15 x16) := ⟨fun k => (spec_ParseConstraint.mono_l k) x4 x14 x15 x16, rfl⟩
noncomputable def spec_ParseConstraint.F (a0 : ByteArray) : Option (Int × Int × Bool) := lim fun k => spec_ParseConstraint.f k a0
theorem spec_ParseConstraint.F_lim (a0 : ByteArray) : Lim (fun k => spec_ParseConstraint.f k a0) (spec_ParseConstraint.F a0) := ⟨spec_ParseConstraint.mono a0, rfl⟩
theorem spec_ParseConstraint.L0_eq (x4 : List ByteArray) (x14 : List ByteArray) (x15 : Int) (x16 : Int) : spec_ParseConstraint.L0 x4 x14 x15 x16 = (if x16 < x15 then (if 0 ≤ x16 then (if x16 < (x14.length : Int) then (if 1 < (x4.length : Int) then ((spec_l1Read.F (rdOf ByteArray.empty x4 1)).bind fun t129 => (if 0 < (x4.length : Int) then (if (rdOf ByteArray.empty x14 x16).toList = (rdOf ByteArray.empty x4 0).toList then ((spec_ruGood.f x16 t129).bind fun t132 => (if t132 = true then (some (x16, t129, true)) else (spec_ParseConstraint.L0 x4 x14 x15 (wrap64 (x16 + 1))))) else (spec_ParseConstraint.L0 x4 x14 x15 (wrap64 (x16 + 1)))) else (none))) else (none)) else (none)) else (none)) else (some (0, 0, false))) := by
  refine Lim.succ_eq (spec_ParseConstraint.L0_lim x4 x14 x15 x16).mon ?_
  simp only [spec_ParseConstraint.l0]
  repeat' first
  | (with_reducible exact spec_ParseConstraint.L0_lim _ _ _ _)
  | (with_reducible exact spec_l1Read.F_lim _)
  | (with_reducible exact spec_l1Split.F_lim _ _)
  | (with_reducible refine Lim.ite ?_ ?_)
  | (with_reducible refine Lim.bind ?_ (fun _ => ?_))
  | (with_reducible exact Lim.const _)
theorem spec_ParseConstraint.F_eq (a0 : ByteArray) : spec_ParseConstraint.F a0 = ((spec_l1Split.F a0 61).bind fun t121 => (if (t121.length : Int) = 2 then ((spec_ruNames.f).bind fun t124 => (spec_ParseConstraint.L0 t121 t124 (t124.length : Int) 0)) else (some (0, 0, false)))) := by
  refine Lim.eq_ ?_
  simp only [spec_ParseConstraint.f]
  repeat' first
  | (with_reducible exact spec_ParseConstraint.L0_lim _ _ _ _)
  | (with_reducible exact spec_l1Read.F_lim _)
  | (with_reducible exact spec_l1Split.F_lim _ _)
  | (with_reducible refine Lim.ite ?_ ?_)
  | (with_reducible refine Lim.bind ?_ (fun _ => ?_))
  | (with_reducible exact Lim.const _)
def impl_within.f (a0 : Int) (a1 : Int) (a2 : Int) : Option (Bool) := if a0 ≥ a1 then (some (decide (a0 ≤ a2))) else (some false)
def impl_IsConstraint.f (a0_0 : Int) (a0_1 : Int) : Option (Bool) := some (if 0 ≤ a0_0 ∧ a0_0 ≤ 4 then decide (0 ≤ a0_1 ∧ a0_1 ≤ ([18, 9, 4, 3, 9] : List Int).getD a0_0.toNat 0) else false)
def strconv_Itoa.f (a0 : Int) : Option (ByteArray) := if 0 ≤ a0 ∧ a0 < 100 then some ⟨(Lib.decDigits a0.toNat).toArray⟩ else none
def impl_Constraint_text.nm (n : Nat) : ByteArray := [(⟨#[115, 116, 101, 112, 115]⟩ : ByteArray), ⟨#[114, 101, 103, 105, 111, 110]⟩, ⟨#[111, 112, 101, 110]⟩, ⟨#[107, 105, 110, 100]⟩, ⟨#[98, 101, 108, 111, 119]⟩].getD n ⟨#[]⟩
def impl_Constraint_text.f (a0_0 : Int) (a0_1 : Int) : Option (ByteArray) := if 0 ≤ a0_0 ∧ a0_0 ≤ 4 ∧ 0 ≤ a0_1 ∧ a0_1 < 100 then some ((impl_Constraint_text.nm a0_0.toNat ++ ⟨#[61]⟩) ++ ⟨(Lib.decDigits a0_1.toNat).toArray⟩) else none
mutual
def impl_ParseConstraint.l0 : Nat → ByteArray → Int → Option (Int × Int × Bool)
  | 0, _, _ => none
  | k + 1, x0, x4 => if x4 ≤ 4 then (impl_ParseConstraint.l1 k x0 x4 0) else (some (0, 0, false))
def impl_ParseConstraint.l1 : Nat → ByteArray → Int → Int → Option (Int × Int × Bool)
  | 0, _, _, _ => none
  | k + 1, x0, x4, x11 => if x11 < 19 then ((impl_IsConstraint.f x4 x11).bind fun t135 => (if t135 = true then ((impl_Constraint_text.f x4 x11).bind fun t136 => (if t136.toList = x0.toList then (some (x4, x11, true)) else (impl_ParseConstraint.l1 k x0 x4 (wrap64 (x11 + 1))))) else (impl_ParseConstraint.l1 k x0 x4 (wrap64 (x11 + 1))))) else (impl_ParseConstraint.l0 k x0 (wrap64 (x4 + 1)))
end
def impl_ParseConstraint.f (k : Nat) (a0 : ByteArray) : Option (Int × Int × Bool) := impl_ParseConstraint.l0 k a0 0
theorem impl_ParseConstraint.mono_l : ∀ k, (∀ y0 y1, LeO (impl_ParseConstraint.l0 k y0 y1) (impl_ParseConstraint.l0 (k + 1) y0 y1)) ∧ (∀ y0 y1 y2, LeO (impl_ParseConstraint.l1 k y0 y1 y2) (impl_ParseConstraint.l1 (k + 1) y0 y1 y2))
  | 0 => ⟨fun _ _ r h => by simp [impl_ParseConstraint.l0] at h, fun _ _ _ r h => by simp [impl_ParseConstraint.l1] at h⟩
  | k + 1 => by
    obtain ⟨ih0, ih1⟩ := impl_ParseConstraint.mono_l k
    refine ⟨?_, ?_⟩
    · intro y0 y1
      unfold impl_ParseConstraint.l0
      repeat' first
      | (with_reducible exact ih0 _ _)
      | (with_reducible exact ih1 _ _ _)
      | (with_reducible exact LeO.refl _)
      | (with_reducible exact LeO.none _)
      | (with_reducible refine LeO.ite ?_ ?_)
      | (with_reducible refine LeO.bind ?_ (fun _ => ?_))
      | exact ih0 _ _
      | exact ih1 _ _ _
      | exact LeO.none _
      | refine LeO.ite ?_ ?_
      | refine LeO.bind ?_ (fun _ => ?_)
    · intro y0 y1 y2
      unfold impl_ParseConstraint.l1
      repeat' first
      | (with_reducible exact ih0 _ _)
      | (with_reducible exact ih1 _ _ _)
      | (with_reducible exact LeO.refl _)
      | (with_reducible exact LeO.none _)
      | (with_reducible refine LeO.ite ?_ ?_)
      | (with_reducible refine LeO.bind ?_ (fun _ => ?_))
      | exact ih0 _ _
      | exact ih1 _ _ _
      | exact LeO.none _
      | refine LeO.ite ?_ ?_
      | refine LeO.bind ?_ (fun _ => ?_)
theorem impl_ParseConstraint.mono : ∀ a0 k, LeO (impl_ParseConstraint.f k a0) (impl_ParseConstraint.f (k + 1) a0) := by
  intro a0 k
  obtain ⟨ih0, ih1⟩ := impl_ParseConstraint.mono_l k
  unfold impl_ParseConstraint.f
  repeat' first
      | (with_reducible exact ih0 _ _)
      | (with_reducible exact ih1 _ _ _)
      | (with_reducible exact LeO.refl _)
      | (with_reducible exact LeO.none _)
      | (with_reducible refine LeO.ite ?_ ?_)
      | (with_reducible refine LeO.bind ?_ (fun _ => ?_))
      | exact ih0 _ _
      | exact ih1 _ _ _
      | exact LeO.none _
      | refine LeO.ite ?_ ?_
      | refine LeO.bind ?_ (fun _ => ?_)
noncomputable def impl_ParseConstraint.L0 (x0 : ByteArray) (x4 : Int) : Option (Int × Int × Bool) := lim fun k => impl_ParseConstraint.l0 k x0 x4
theorem impl_ParseConstraint.L0_lim (x0 : ByteArray) (x4 : Int) : Lim (fun k => impl_ParseConstraint.l0 k x0 x4) (impl_ParseConstraint.L0 x0 x4) := ⟨fun k => (impl_ParseConstraint.mono_l k).1 x0 x4, rfl⟩
noncomputable def impl_ParseConstraint.L1 (x0 : ByteArray) (x4 : Int) (x11 : Int) : Option (Int × Int × Bool) := lim fun k => impl_ParseConstraint.l1 k x0 x4 x11
theorem impl_ParseConstraint.L1_lim (x0 : ByteArray) (x4 : Int) (x11 : Int) : Lim (fun k => impl_ParseConstraint.l1 k x0 x4 x11) (impl_ParseConstraint.L1 x0 x4 x11) := ⟨fun k => (impl_ParseConstraint.mono_l k).2 x0 x4 x11, rfl⟩
noncomputable def impl_ParseConstraint.F (a0 : ByteArray) : Option (Int × Int × Bool) := lim fun k => impl_ParseConstraint.f k a0
theorem impl_ParseConstraint.F_lim (a0 : ByteArray) : Lim (fun k => impl_ParseConstraint.f k a0) (impl_ParseConstraint.F a0) := ⟨impl_ParseConstraint.mono a0, rfl⟩
theorem impl_ParseConstraint.L0_eq (x0 : ByteArray) (x4 : Int) : impl_ParseConstraint.L0 x0 x4 = (if x4 ≤ 4 then (impl_ParseConstraint.L1 x0 x4 0) else (some (0, 0, false))) := by
  refine Lim.succ_eq (impl_ParseConstraint.L0_lim x0 x4).mon ?_
  simp only [impl_ParseConstraint.l0]
  repeat' first
  | (with_reducible exact impl_ParseConstraint.L0_lim _ _)
  | (with_reducible exact impl_ParseConstraint.L1_lim _ _ _)
  | (with_reducible refine Lim.ite ?_ ?_)
  | (with_reducible refine Lim.bind ?_ (fun _ => ?_))
  | (with_reducible exact Lim.const _)
theorem impl_ParseConstraint.L1_eq (x0 : ByteArray) (x4 : Int) (x11 : Int) : impl_ParseConstraint.L1 x0 x4 x11 = (if x11 < 19 then ((impl_IsConstraint.f x4 x11).bind fun t135 => (if t135 = true then ((impl_Constraint_text.f x4 x11).bind fun t136 => (if t136.toList = x0.toList then (some (x4, x11, true)) else (impl_ParseConstraint.L1 x0 x4 (wrap64 (x11 + 1))))) else (impl_ParseConstraint.L1 x0 x4 (wrap64 (x11 + 1))))) else (impl_ParseConstraint.L0 x0 (wrap64 (x4 + 1)))) := by
  refine Lim.succ_eq (impl_ParseConstraint.L1_lim x0 x4 x11).mon ?_
  simp only [impl_ParseConstraint.l1]
  repeat' first
  | (with_reducible exact impl_ParseConstraint.L0_lim _ _)
  | (with_reducible exact impl_ParseConstraint.L1_lim _ _ _)
  | (with_reducible refine Lim.ite ?_ ?_)
  | (with_reducible refine Lim.bind ?_ (fun _ => ?_))
  | (with_reducible exact Lim.const _)
theorem impl_ParseConstraint.F_eq (a0 : ByteArray) : impl_ParseConstraint.F a0 = (impl_ParseConstraint.L0 a0 0) := by
  refine Lim.eq_ ?_
  simp only [impl_ParseConstraint.f]
  repeat' first
  | (with_reducible exact impl_ParseConstraint.L0_lim _ _)
  | (with_reducible exact impl_ParseConstraint.L1_lim _ _ _)
  | (with_reducible refine Lim.ite ?_ ?_)
  | (with_reducible refine Lim.bind ?_ (fun _ => ?_))
  | (with_reducible exact Lim.const _)
def laws_eqConstraint.f (a0_0 : Int) (a0_1 : Int) (a1_0 : Int) (a1_1 : Int) : Option (Bool) := if a0_0 = a1_0 then (if a0_1 = a1_1 then (some true) else (some false)) else (some false)
def laws_FnExactParseConstraint.f (k : Nat) (a0 : ByteArray) : Option (Bool) := if (a0.size : Int) > 1048576 then (some true) else ((spec_ParseConstraint.f k a0).bind fun bt139 => ((impl_ParseConstraint.f k a0).bind fun bt143 => ((laws_eqConstraint.f bt143.1 bt143.2.1 bt139.1 bt139.2.1).bind fun t147 => (if t147 = true then (if (bt143.2.2 != bt139.2.2) = true then (some false) else (some true)) else (some false)))))
theorem laws_FnExactParseConstraint.mono : ∀ a0 k, LeO (laws_FnExactParseConstraint.f k a0) (laws_FnExactParseConstraint.f (k + 1) a0) := by
  intro a0 k
  unfold laws_FnExactParseConstraint.f
  repeat' first
      | (with_reducible exact impl_ParseConstraint.mono _ _)
      | (with_reducible exact spec_ParseConstraint.mono _ _)
      | (with_reducible exact LeO.refl _)
      | (with_reducible exact LeO.none _)
      | (with_reducible refine LeO.ite ?_ ?_)
      | (with_reducible refine LeO.bind ?_ (fun _ => ?_))
      | exact impl_ParseConstraint.mono _ _
      | exact spec_ParseConstraint.mono _ _
      | exact LeO.none _
      | refine LeO.ite ?_ ?_
      | refine LeO.bind ?_ (fun _ => ?_)
noncomputable def laws_FnExactParseConstraint.F (a0 : ByteArray) : Option (Bool) := lim fun k => laws_FnExactParseConstraint.f k a0
theorem laws_FnExactParseConstraint.F_lim (a0 : ByteArray) : Lim (fun k => laws_FnExactParseConstraint.f k a0) (laws_FnExactParseConstraint.F a0) := ⟨laws_FnExactParseConstraint.mono a0, rfl⟩
theorem laws_FnExactParseConstraint.F_eq (a0 : ByteArray) : laws_FnExactParseConstraint.F a0 = (if (a0.size : Int) > 1048576 then (some true) else ((spec_ParseConstraint.F a0).bind fun bt139 => ((impl_ParseConstraint.F a0).bind fun bt143 => ((laws_eqConstraint.f bt143.1 bt143.2.1 bt139.1 bt139.2.1).bind fun t147 => (if t147 = true then (if (bt143.2.2 != bt139.2.2) = true then (some false) else (some true)) else (some false)))))) := by
  refine Lim.eq_ ?_
  simp only [laws_FnExactParseConstraint.f]
  repeat' first
  | (with_reducible exact impl_ParseConstraint.F_lim _)
  | (with_reducible exact spec_ParseConstraint.F_lim _)
  | (with_reducible refine Lim.ite ?_ ?_)
  | (with_reducible refine Lim.bind ?_ (fun _ => ?_))
  | (with_reducible exact Lim.const _)
def laws_FnExactParseConstraint.Pure : Prop := ∀ (a0 : ByteArray), (a0.size ≤ 9223372036854775807) → ∃ k, laws_FnExactParseConstraint.f k a0 = some true
end Go.Proofs.YtmlpogmedglncaaDoor.PFnExactParseConstraint
