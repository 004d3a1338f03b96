/- Written by a program of this claim's author, out of the loaded program as Lean prints it: the functions as Lean functions, and that the calls answer so. -/
import Derived.Test.YtmlpogmedglncaaDoorPFnExactConstraintTextx0
namespace Go.Proofs.YtmlpogmedglncaaDoor.PFnExactConstraintText
open Go.RowKit Go.Proofs.YtmlpogmedglncaaDoorW.PrintWords Go.Proofs.YtmlpogmedglncaaDoorW.PrintLast Go.Proofs.YtmlpogmedglncaaDoorW.PrintMore
attribute [local go_sem] max2_int min2_int max_two min_two max_three min_three max_four min_four   -- for this text's walks alone
set_option linter.unusedVariables false
set_option linter.unusedSimpArgs false

def spec_l1In.f (a0 : Int) (a1 : Int) (a2 : Int) : Option (Bool) := if a0 ≥ a1 then (some (decide (a0 ≤ a2))) else (some false)
def spec_ruMost.f (a0 : Int) : Option (Int) := (some (([18, 9, 4, 3, 9] : List Int) : List Int)).bind fun y101 => (if 0 ≤ a0 then (if a0 < (y101.length : Int) then (some (rd y101 a0)) else (none)) else (none))
def spec_ruGood.f (a0_0 : Int) (a0_1 : Int) : Option (Bool) := (spec_l1In.f a0_0 0 4).bind fun t106 => (if t106 = true then ((spec_ruMost.f a0_0).bind fun t107 => ((spec_l1In.f a0_1 0 t107).bind fun t108 => (if t108 = true then (if a0_0 = 3 then ((spec_l1In.f a0_1 0 3).bind fun t109 => (some t109)) else (some true)) else (some false)))) else (some false))
def spec_ruNames.f  : Option (List ByteArray) := some (([(⟨#[115, 116, 101, 112, 115]⟩ : ByteArray), (⟨#[114, 101, 103, 105, 111, 110]⟩ : ByteArray), (⟨#[111, 112, 101, 110]⟩ : ByteArray), (⟨#[107, 105, 110, 100]⟩ : ByteArray), (⟨#[98, 101, 108, 111, 119]⟩ : ByteArray)] : List ByteArray))
def spec_l1Num.f : Nat → Int → Option (ByteArray)
  | 0, _ => none
  | k + 1, a0 => if a0 < 10 then (some (strOfNums (([(wrap64 (48 + a0)) % 256] : List Int)))) else ((spec_l1Num.f k (wrap64 (Int.tdiv a0 10))).bind fun t116 => ((some (([(wrap64 (48 + (Int.tmod a0 10))) % 256] : List Int) : List Int)).bind fun y117 => (if t116.size + (strOfNums y117).size ≤ 9223372036854775807 then (some (t116 ++ (strOfNums y117))) else (none))))
theorem spec_l1Num.mono_l : ∀ k, (∀ y0, LeO (spec_l1Num.f k y0) (spec_l1Num.f (k + 1) y0))
  | 0 => fun _ r h => by simp [spec_l1Num.f] at h
  | k + 1 => by
    have ih0 := spec_l1Num.mono_l k
    · intro y0
      unfold spec_l1Num.f
      repeat' first
      | (with_reducible exact ih0 _)
      | (with_reducible exact LeO.refl _)
      | (with_reducible exact LeO.none _)
      | (with_reducible refine LeO.ite ?_ ?_)
      | (with_reducible refine LeO.bind ?_ (fun _ => ?_))
      | exact ih0 _
      | exact LeO.none _
      | refine LeO.ite ?_ ?_
      | refine LeO.bind ?_ (fun _ => ?_)
theorem spec_l1Num.mono : ∀ a0 k, LeO (spec_l1Num.f k a0) (spec_l1Num.f (k + 1) a0) := by
  intro a0 k
  have ih0 := spec_l1Num.mono_l k
  exact ih0 a0
noncomputable def spec_l1Num.F (a0 : Int) : Option (ByteArray) := lim fun k => spec_l1Num.f k a0
theorem spec_l1Num.F_lim (a0 : Int) : Lim (fun k => spec_l1Num.f k a0) (spec_l1Num.F a0) := ⟨spec_l1Num.mono a0, rfl⟩
theorem spec_l1Num.F_eq (a0 : Int) : spec_l1Num.F a0 = (if a0 < 10 then (some (strOfNums (([(wrap64 (48 + a0)) % 256] : List Int)))) else ((spec_l1Num.F (wrap64 (Int.tdiv a0 10))).bind fun t116 => ((some (([(wrap64 (48 + (Int.tmod a0 10))) % 256] : List Int) : List Int)).bind fun y117 => (if t116.size + (strOfNums y117).size ≤ 9223372036854775807 then (some (t116 ++ (strOfNums y117))) else (none))))) := by
  refine Lim.succ_eq (spec_l1Num.F_lim a0).mon ?_
  simp only [spec_l1Num.f]
  repeat' first
  | (with_reducible exact spec_l1Num.F_lim _)
  | (with_reducible refine Lim.ite ?_ ?_)
  | (with_reducible refine Lim.bind ?_ (fun _ => ?_))
  | (with_reducible exact Lim.const _)
def spec_ConstraintText.f (k : Nat) (a0_0 : Int) (a0_1 : Int) : Option (ByteArray × Bool) := (spec_ruGood.f a0_0 a0_1).bind fun t121 => (if t121 = true then ((spec_ruNames.f).bind fun t122 => (if 0 ≤ a0_0 then (if a0_0 < (t122.length : Int) then (if (rdOf ByteArray.empty t122 a0_0).size + 1 ≤ 9223372036854775807 then ((spec_l1Num.f k a0_1).bind fun t126 => (if ((rdOf ByteArray.empty t122 a0_0) ++ (⟨#[61]⟩ : ByteArray)).size + t126.size ≤ 9223372036854775807 then (some (((rdOf ByteArray.empty t122 a0_0) ++ (⟨#[61]⟩ : ByteArray)) ++ t126, true)) else (none))) else (none)) else (none)) else (none))) else (some ((⟨#[]⟩ : ByteArray), false)))
theorem spec_ConstraintText.mono : ∀ a0 a1 k, LeO (spec_ConstraintText.f k a0 a1) (spec_ConstraintText.f (k + 1) a0 a1) := by
  intro a0 a1 k
  unfold spec_ConstraintText.f
  repeat' first
      | (with_reducible exact spec_l1Num.mono _ _)
      | (with_reducible exact LeO.refl _)
      | (with_reducible exact LeO.none _)
      | (with_reducible refine LeO.ite ?_ ?_)
      | (with_reducible refine LeO.bind ?_ (fun _ => ?_))
      | exact spec_l1Num.mono _ _
      | exact LeO.none _
      | refine LeO.ite ?_ ?_
      | refine LeO.bind ?_ (fun _ => ?_)
noncomputable def spec_ConstraintText.F (a0_0 : Int) (a0_1 : Int) : Option (ByteArray × Bool) := lim fun k => spec_ConstraintText.f k a0_0 a0_1
theorem spec_ConstraintText.F_lim (a0_0 : Int) (a0_1 : Int) : Lim (fun k => spec_ConstraintText.f k a0_0 a0_1) (spec_ConstraintText.F a0_0 a0_1) := ⟨spec_ConstraintText.mono a0_0 a0_1, rfl⟩
theorem spec_ConstraintText.F_eq (a0_0 : Int) (a0_1 : Int) : spec_ConstraintText.F a0_0 a0_1 = ((spec_ruGood.f a0_0 a0_1).bind fun t121 => (if t121 = true then ((spec_ruNames.f).bind fun t122 => (if 0 ≤ a0_0 then (if a0_0 < (t122.length : Int) then (if (rdOf ByteArray.empty t122 a0_0).size + 1 ≤ 9223372036854775807 then ((spec_l1Num.F a0_1).bind fun t126 => (if ((rdOf ByteArray.empty t122 a0_0) ++ (⟨#[61]⟩ : ByteArray)).size + t126.size ≤ 9223372036854775807 then (some (((rdOf ByteArray.empty t122 a0_0) ++ (⟨#[61]⟩ : ByteArray)) ++ t126, true)) else (none))) else (none)) else (none)) else (none))) else (some ((⟨#[]⟩ : ByteArray), false)))) := by
  refine Lim.eq_ ?_
  simp only [spec_ConstraintText.f]
  repeat' first
  | (with_reducible exact spec_l1Num.F_lim _)
  | (with_reducible refine Lim.ite ?_ ?_)
  | (with_reducible refine Lim.bind ?_ (fun _ => ?_))
  | (with_reducible exact Lim.const _)
def laws_toConstraint.f (a0_0 : Int) (a0_1 : Int) : Option (Int × Int) := some (a0_0, a0_1)
def impl_within.f (a0 : Int) (a1 : Int) (a2 : Int) : Option (Bool) := if a0 ≥ a1 then (some (decide (a0 ≤ a2))) else (some false)
def impl_IsConstraint.f (a0_0 : Int) (a0_1 : Int) : Option (Bool) := some (if 0 ≤ a0_0 ∧ a0_0 ≤ 4 then decide (0 ≤ a0_1 ∧ a0_1 ≤ ([18, 9, 4, 3, 9] : List Int).getD a0_0.toNat 0) else false)
def strconv_Itoa.f (a0 : Int) : Option (ByteArray) := if 0 ≤ a0 ∧ a0 < 100 then some ⟨(Lib.decDigits a0.toNat).toArray⟩ else none
def impl_Constraint_text.nm (n : Nat) : ByteArray := [(⟨#[115, 116, 101, 112, 115]⟩ : ByteArray), ⟨#[114, 101, 103, 105, 111, 110]⟩, ⟨#[111, 112, 101, 110]⟩, ⟨#[107, 105, 110, 100]⟩, ⟨#[98, 101, 108, 111, 119]⟩].getD n ⟨#[]⟩
def impl_Constraint_text.f (a0_0 : Int) (a0_1 : Int) : Option (ByteArray) := if 0 ≤ a0_0 ∧ a0_0 ≤ 4 ∧ 0 ≤ a0_1 ∧ a0_1 < 100 then some ((impl_Constraint_text.nm a0_0.toNat ++ ⟨#[61]⟩) ++ ⟨(Lib.decDigits a0_1.toNat).toArray⟩) else none
def impl_ConstraintText.f (a0_0 : Int) (a0_1 : Int) : Option (ByteArray × Bool) := (impl_IsConstraint.f a0_0 a0_1).bind fun t131 => (if t131 = true then ((impl_Constraint_text.f a0_0 a0_1).bind fun t132 => (some (t132, true))) else (some ((⟨#[]⟩ : ByteArray), false)))
def laws_FnExactConstraintText.f (k : Nat) (a0_0 : Int) (a0_1 : Int) : Option (Bool) := (laws_toConstraint.f a0_0 a0_1).bind fun bt134 => ((spec_ConstraintText.f k bt134.1 bt134.2).bind fun bt136 => ((laws_toConstraint.f a0_0 a0_1).bind fun bt138 => ((impl_ConstraintText.f bt138.1 bt138.2).bind fun bt140 => (if bt140.1.toList = bt136.1.toList then (if (bt140.2 != bt136.2) = true then (some false) else (some true)) else (some false)))))
theorem laws_FnExactConstraintText.mono : ∀ a0 a1 k, LeO (laws_FnExactConstraintText.f k a0 a1) (laws_FnExactConstraintText.f (k + 1) a0 a1) := by
  intro a0 a1 k
  unfold laws_FnExactConstraintText.f
  repeat' first
      | (with_reducible exact spec_ConstraintText.mono _ _ _)
      | (with_reducible exact LeO.refl _)
      | (with_reducible exact LeO.none _)
      | (with_reducible refine LeO.ite ?_ ?_)
      | (with_reducible refine LeO.bind ?_ (fun _ => ?_))
      | exact spec_ConstraintText.mono _ _ _
      | exact LeO.none _
      | refine LeO.ite ?_ ?_
      | refine LeO.bind ?_ (fun _ => ?_)
noncomputable def laws_FnExactConstraintText.F (a0_0 : Int) (a0_1 : Int) : Option (Bool) := lim fun k => laws_FnExactConstraintText.f k a0_0 a0_1
theorem laws_FnExactConstraintText.F_lim (a0_0 : Int) (a0_1 : Int) : Lim (fun k => laws_FnExactConstraintText.f k a0_0 a0_1) (laws_FnExactConstraintText.F a0_0 a0_1) := ⟨laws_FnExactConstraintText.mono a0_0 a0_1, rfl⟩
theorem laws_FnExactConstraintText.F_eq (a0_0 : Int) (a0_1 : Int) : laws_FnExactConstraintText.F a0_0 a0_1 = ((laws_toConstraint.f a0_0 a0_1).bind fun bt134 => ((spec_ConstraintText.F bt134.1 bt134.2).bind fun bt136 => ((laws_toConstraint.f a0_0 a0_1).bind fun bt138 => ((impl_ConstraintText.f bt138.1 bt138.2).bind fun bt140 => (if bt140.1.toList = bt136.1.toList then (if (bt140.2 != bt136.2) = true then (some false) else (some true)) else (some false)))))) := by
  refine Lim.eq_ ?_
  simp only [laws_FnExactConstraintText.f]
  repeat' first
  | (with_reducible exact spec_ConstraintText.F_lim _ _)
  | (with_reducible refine Lim.ite ?_ ?_)
  | (with_reducible refine Lim.bind ?_ (fun _ => ?_))
  | (with_reducible exact Lim.const _)
def Wf23 (x : S23) : Prop := (Lit.int .i64 x.f0).wf = true ∧ (Lit.int .i64 x.f1).wf = true
def laws_FnExactConstraintText.Pure : Prop := ∀ (a0_0 : Int) (a0_1 : Int), Wf23 (⟨a0_0, a0_1⟩ : S23) → ∃ k, laws_FnExactConstraintText.f k a0_0 a0_1 = some true
end Go.Proofs.YtmlpogmedglncaaDoor.PFnExactConstraintText
