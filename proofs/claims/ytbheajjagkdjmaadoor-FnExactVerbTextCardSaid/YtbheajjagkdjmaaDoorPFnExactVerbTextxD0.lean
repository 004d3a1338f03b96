/- Written by a program of this claim's author, out of the loaded program as Lean prints it: the functions as Lean functions, and that the calls answer so. -/
import Derived.Test.YtbheajjagkdjmaaDoorPFnExactVerbTextx0
namespace Go.Proofs.YtbheajjagkdjmaaDoor.PFnExactVerbText
open Go.RowKit Go.Proofs.YtbheajjagkdjmaaDoorW.PrintWords Go.Proofs.YtbheajjagkdjmaaDoorW.PrintLast Go.Proofs.YtbheajjagkdjmaaDoorW.PrintMore
attribute [local go_sem] max2_int min2_int max_two min_two max_three min_three max_four min_four   -- for this text's walks alone
set_option linter.unusedVariables false
set_option linter.unusedSimpArgs false

def laws_szVerb.f (a0_0 : ByteArray) (a0_1 : Int) (a0_2 : Int) (a1 : Int) : Option (Int) := if (wrap64 (a1 - (a0_0.size : Int))) < 0 then (some (-1)) else (some (wrap64 (a1 - (a0_0.size : Int))))
def spec_l1In.f (a0 : Int) (a1 : Int) (a2 : Int) : Option (Bool) := if a0 ≥ a1 then (some (decide (a0 ≤ a2))) else (some false)
def spec_loAngle.f (a0 : Int) : Option (Bool) := (spec_l1In.f a0 (-90) 90).bind fun t102 => (some t102)
def spec_fsWord.l0 : Nat → ByteArray → Int → Option (Bool)
  | 0, _, _ => none
  | k + 1, x0, x3 => if x3 < (x0.size : Int) then (if 0 ≤ x3 then (if (bt x0 x3) < 65 then (some false) else (if (bt x0 x3) > 90 then (some false) else (spec_fsWord.l0 k x0 (wrap64 (x3 + 1))))) else (none)) else ((spec_l1In.f (x0.size : Int) 1 8).bind fun t103 => (some t103))
def spec_fsWord.f (k : Nat) (a0 : ByteArray) : Option (Bool) := spec_fsWord.l0 k a0 0
theorem spec_fsWord.mono_l : ∀ k, (∀ y0 y1, LeO (spec_fsWord.l0 k y0 y1) (spec_fsWord.l0 (k + 1) y0 y1))
  | 0 => fun _ _ r h => by simp [spec_fsWord.l0] at h
  | k + 1 => by
    have ih0 := spec_fsWord.mono_l k
    · intro y0 y1
      unfold spec_fsWord.l0
      repeat' first
      | (with_reducible exact ih0 _ _)
      | (with_reducible exact LeO.refl _)
      | (with_reducible exact LeO.none _)
      | (with_reducible refine LeO.ite ?_ ?_)
      | (with_reducible refine LeO.bind ?_ (fun _ => ?_))
      | exact ih0 _ _
      | exact LeO.none _
      | refine LeO.ite ?_ ?_
      | refine LeO.bind ?_ (fun _ => ?_)
theorem spec_fsWord.mono : ∀ a0 k, LeO (spec_fsWord.f k a0) (spec_fsWord.f (k + 1) a0) := by
  intro a0 k
  have ih0 := spec_fsWord.mono_l k
  unfold spec_fsWord.f
  repeat' first
      | (with_reducible exact ih0 _ _)
      | (with_reducible exact LeO.refl _)
      | (with_reducible exact LeO.none _)
      | (with_reducible refine LeO.ite ?_ ?_)
      | (with_reducible refine LeO.bind ?_ (fun _ => ?_))
      | exact ih0 _ _
      | exact LeO.none _
      | refine LeO.ite ?_ ?_
      | refine LeO.bind ?_ (fun _ => ?_)
noncomputable def spec_fsWord.L0 (x0 : ByteArray) (x3 : Int) : Option (Bool) := lim fun k => spec_fsWord.l0 k x0 x3
theorem spec_fsWord.L0_lim (x0 : ByteArray) (x3 : Int) : Lim (fun k => spec_fsWord.l0 k x0 x3) (spec_fsWord.L0 x0 x3) := ⟨fun k => (spec_fsWord.mono_l k) x0 x3, rfl⟩
noncomputable def spec_fsWord.F (a0 : ByteArray) : Option (Bool) := lim fun k => spec_fsWord.f k a0
theorem spec_fsWord.F_lim (a0 : ByteArray) : Lim (fun k => spec_fsWord.f k a0) (spec_fsWord.F a0) := ⟨spec_fsWord.mono a0, rfl⟩
theorem spec_fsWord.L0_eq (x0 : ByteArray) (x3 : Int) : spec_fsWord.L0 x0 x3 = (if x3 < (x0.size : Int) then (if 0 ≤ x3 then (if (bt x0 x3) < 65 then (some false) else (if (bt x0 x3) > 90 then (some false) else (spec_fsWord.L0 x0 (wrap64 (x3 + 1))))) else (none)) else ((spec_l1In.f (x0.size : Int) 1 8).bind fun t103 => (some t103))) := by
  refine Lim.succ_eq (spec_fsWord.L0_lim x0 x3).mon ?_
  simp only [spec_fsWord.l0]
  repeat' first
  | (with_reducible exact spec_fsWord.L0_lim _ _)
  | (with_reducible refine Lim.ite ?_ ?_)
  | (with_reducible refine Lim.bind ?_ (fun _ => ?_))
  | (with_reducible exact Lim.const _)
theorem spec_fsWord.F_eq (a0 : ByteArray) : spec_fsWord.F a0 = (spec_fsWord.L0 a0 0) := by
  refine Lim.eq_ ?_
  simp only [spec_fsWord.f]
  repeat' first
  | (with_reducible exact spec_fsWord.L0_lim _ _)
  | (with_reducible refine Lim.ite ?_ ?_)
  | (with_reducible refine Lim.bind ?_ (fun _ => ?_))
  | (with_reducible exact Lim.const _)
def spec_veOne.f (k : Nat) (a0_0 : ByteArray) (a0_1 : Int) (a0_2 : Int) : Option (Bool) := (spec_fsWord.f k a0_0).bind fun t105 => (if t105 = true then ((spec_loAngle.f a0_1).bind fun t106 => (if t106 = true then ((spec_loAngle.f a0_2).bind fun t107 => (if t107 = true then (some (a0_1 != a0_2)) else (some false))) else (some false))) else (some false))
theorem spec_veOne.mono : ∀ a0 a1 a2 k, LeO (spec_veOne.f k a0 a1 a2) (spec_veOne.f (k + 1) a0 a1 a2) := by
  intro a0 a1 a2 k
  unfold spec_veOne.f
  repeat' first
      | (with_reducible exact spec_fsWord.mono _ _)
      | (with_reducible exact LeO.refl _)
      | (with_reducible exact LeO.none _)
      | (with_reducible refine LeO.ite ?_ ?_)
      | (with_reducible refine LeO.bind ?_ (fun _ => ?_))
      | exact spec_fsWord.mono _ _
      | exact LeO.none _
      | refine LeO.ite ?_ ?_
      | refine LeO.bind ?_ (fun _ => ?_)
noncomputable def spec_veOne.F (a0_0 : ByteArray) (a0_1 : Int) (a0_2 : Int) : Option (Bool) := lim fun k => spec_veOne.f k a0_0 a0_1 a0_2
theorem spec_veOne.F_lim (a0_0 : ByteArray) (a0_1 : Int) (a0_2 : Int) : Lim (fun k => spec_veOne.f k a0_0 a0_1 a0_2) (spec_veOne.F a0_0 a0_1 a0_2) := ⟨spec_veOne.mono a0_0 a0_1 a0_2, rfl⟩
theorem spec_veOne.F_eq (a0_0 : ByteArray) (a0_1 : Int) (a0_2 : Int) : spec_veOne.F a0_0 a0_1 a0_2 = ((spec_fsWord.F a0_0).bind fun t105 => (if t105 = true then ((spec_loAngle.f a0_1).bind fun t106 => (if t106 = true then ((spec_loAngle.f a0_2).bind fun t107 => (if t107 = true then (some (a0_1 != a0_2)) else (some false))) else (some false))) else (some false))) := by
  refine Lim.eq_ ?_
  simp only [spec_veOne.f]
  repeat' first
  | (with_reducible exact spec_fsWord.F_lim _)
  | (with_reducible refine Lim.ite ?_ ?_)
  | (with_reducible refine Lim.bind ?_ (fun _ => ?_))
  | (with_reducible exact Lim.const _)
def spec_l1Num.f : Nat → Int → Option (ByteArray)
  | 0, _ => none
  | k + 1, a0 => if a0 < 10 then (some (strOfNums (([(wrap64 (48 + a0)) % 256] : List Int)))) else ((spec_l1Num.f k (wrap64 (Int.tdiv a0 10))).bind fun t111 => ((some (([(wrap64 (48 + (Int.tmod a0 10))) % 256] : List Int) : List Int)).bind fun y112 => (if t111.size + (strOfNums y112).size ≤ 9223372036854775807 then (some (t111 ++ (strOfNums y112))) else (none))))
theorem spec_l1Num.mono_l : ∀ k, (∀ y0, LeO (spec_l1Num.f k y0) (spec_l1Num.f (k + 1) y0))
  | 0 => fun _ r h => by simp [spec_l1Num.f] at h
  | k + 1 => by
    have ih0 := spec_l1Num.mono_l k
    · intro y0
      unfold spec_l1Num.f
      repeat' first
      | (with_reducible exact ih0 _)
      | (with_reducible exact LeO.refl _)
      | (with_reducible exact LeO.none _)
      | (with_reducible refine LeO.ite ?_ ?_)
      | (with_reducible refine LeO.bind ?_ (fun _ => ?_))
      | exact ih0 _
      | exact LeO.none _
      | refine LeO.ite ?_ ?_
      | refine LeO.bind ?_ (fun _ => ?_)
theorem spec_l1Num.mono : ∀ a0 k, LeO (spec_l1Num.f k a0) (spec_l1Num.f (k + 1) a0) := by
  intro a0 k
  have ih0 := spec_l1Num.mono_l k
  exact ih0 a0
noncomputable def spec_l1Num.F (a0 : Int) : Option (ByteArray) := lim fun k => spec_l1Num.f k a0
theorem spec_l1Num.F_lim (a0 : Int) : Lim (fun k => spec_l1Num.f k a0) (spec_l1Num.F a0) := ⟨spec_l1Num.mono a0, rfl⟩
theorem spec_l1Num.F_eq (a0 : Int) : spec_l1Num.F a0 = (if a0 < 10 then (some (strOfNums (([(wrap64 (48 + a0)) % 256] : List Int)))) else ((spec_l1Num.F (wrap64 (Int.tdiv a0 10))).bind fun t111 => ((some (([(wrap64 (48 + (Int.tmod a0 10))) % 256] : List Int) : List Int)).bind fun y112 => (if t111.size + (strOfNums y112).size ≤ 9223372036854775807 then (some (t111 ++ (strOfNums y112))) else (none))))) := by
  refine Lim.succ_eq (spec_l1Num.F_lim a0).mon ?_
  simp only [spec_l1Num.f]
  repeat' first
  | (with_reducible exact spec_l1Num.F_lim _)
  | (with_reducible refine Lim.ite ?_ ?_)
  | (with_reducible refine Lim.bind ?_ (fun _ => ?_))
  | (with_reducible exact Lim.const _)
def spec_l1Int.f (k : Nat) (a0 : Int) : Option (ByteArray) := if a0 < 0 then ((spec_l1Num.f k (wrap64 (-a0))).bind fun t115 => (if 1 + t115.size ≤ 9223372036854775807 then (some ((⟨#[45]⟩ : ByteArray) ++ t115)) else (none))) else ((spec_l1Num.f k a0).bind fun t116 => (some t116))
theorem spec_l1Int.mono : ∀ a0 k, LeO (spec_l1Int.f k a0) (spec_l1Int.f (k + 1) a0) := by
  intro a0 k
  unfold spec_l1Int.f
  repeat' first
      | (with_reducible exact spec_l1Num.mono _ _)
      | (with_reducible exact LeO.refl _)
      | (with_reducible exact LeO.none _)
      | (with_reducible refine LeO.ite ?_ ?_)
      | (with_reducible refine LeO.bind ?_ (fun _ => ?_))
      | exact spec_l1Num.mono _ _
      | exact LeO.none _
      | refine LeO.ite ?_ ?_
      | refine LeO.bind ?_ (fun _ => ?_)
noncomputable def spec_l1Int.F (a0 : Int) : Option (ByteArray) := lim fun k => spec_l1Int.f k a0
theorem spec_l1Int.F_lim (a0 : Int) : Lim (fun k => spec_l1Int.f k a0) (spec_l1Int.F a0) := ⟨spec_l1Int.mono a0, rfl⟩
theorem spec_l1Int.F_eq (a0 : Int) : spec_l1Int.F a0 = (if a0 < 0 then ((spec_l1Num.F (wrap64 (-a0))).bind fun t115 => (if 1 + t115.size ≤ 9223372036854775807 then (some ((⟨#[45]⟩ : ByteArray) ++ t115)) else (none))) else ((spec_l1Num.F a0).bind fun t116 => (some t116))) := by
  refine Lim.eq_ ?_
  simp only [spec_l1Int.f]
  repeat' first
  | (with_reducible exact spec_l1Num.F_lim _)
  | (with_reducible refine Lim.ite ?_ ?_)
  | (with_reducible refine Lim.bind ?_ (fun _ => ?_))
  | (with_reducible exact Lim.const _)
def spec_veText.f (k : Nat) (a0_0 : ByteArray) (a0_1 : Int) (a0_2 : Int) : Option (ByteArray) := if a0_0.size + 1 ≤ 9223372036854775807 then ((spec_l1Int.f k a0_1).bind fun t118 => (if (a0_0 ++ (⟨#[58]⟩ : ByteArray)).size + t118.size ≤ 9223372036854775807 then (if ((a0_0 ++ (⟨#[58]⟩ : ByteArray)) ++ t118).size + 1 ≤ 9223372036854775807 then ((spec_l1Int.f k a0_2).bind fun t119 => (if (((a0_0 ++ (⟨#[58]⟩ : ByteArray)) ++ t118) ++ (⟨#[62]⟩ : ByteArray)).size + t119.size ≤ 9223372036854775807 then (some ((((a0_0 ++ (⟨#[58]⟩ : ByteArray)) ++ t118) ++ (⟨#[62]⟩ : ByteArray)) ++ t119)) else (none))) else (none)) else (none))) else (none)
theorem spec_veText.mono : ∀ a0 a1 a2 k, LeO (spec_veText.f k a0 a1 a2) (spec_veText.f (k + 1) a0 a1 a2) := by
  intro a0 a1 a2 k
  unfold spec_veText.f
  repeat' first
      | (with_reducible exact spec_l1Int.mono _ _)
      | (with_reducible exact LeO.refl _)
      | (with_reducible exact LeO.none _)
      | (with_reducible refine LeO.ite ?_ ?_)
      | (with_reducible refine LeO.bind ?_ (fun _ => ?_))
      | exact spec_l1Int.mono _ _
      | exact LeO.none _
      | refine LeO.ite ?_ ?_
      | refine LeO.bind ?_ (fun _ => ?_)
noncomputable def spec_veText.F (a0_0 : ByteArray) (a0_1 : Int) (a0_2 : Int) : Option (ByteArray) := lim fun k => spec_veText.f k a0_0 a0_1 a0_2
theorem spec_veText.F_lim (a0_0 : ByteArray) (a0_1 : Int) (a0_2 : Int) : Lim (fun k => spec_veText.f k a0_0 a0_1 a0_2) (spec_veText.F a0_0 a0_1 a0_2) := ⟨spec_veText.mono a0_0 a0_1 a0_2, rfl⟩
theorem spec_veText.F_eq (a0_0 : ByteArray) (a0_1 : Int) (a0_2 : Int) : spec_veText.F a0_0 a0_1 a0_2 = (if a0_0.size + 1 ≤ 9223372036854775807 then ((spec_l1Int.F a0_1).bind fun t118 => (if (a0_0 ++ (⟨#[58]⟩ : ByteArray)).size + t118.size ≤ 9223372036854775807 then (if ((a0_0 ++ (⟨#[58]⟩ : ByteArray)) ++ t118).size + 1 ≤ 9223372036854775807 then ((spec_l1Int.F a0_2).bind fun t119 => (if (((a0_0 ++ (⟨#[58]⟩ : ByteArray)) ++ t118) ++ (⟨#[62]⟩ : ByteArray)).size + t119.size ≤ 9223372036854775807 then (some ((((a0_0 ++ (⟨#[58]⟩ : ByteArray)) ++ t118) ++ (⟨#[62]⟩ : ByteArray)) ++ t119)) else (none))) else (none)) else (none))) else (none)) := by
  refine Lim.eq_ ?_
  simp only [spec_veText.f]
  repeat' first
  | (with_reducible exact spec_l1Int.F_lim _)
  | (with_reducible refine Lim.ite ?_ ?_)
  | (with_reducible refine Lim.bind ?_ (fun _ => ?_))
  | (with_reducible exact Lim.const _)
def spec_VerbText.f (k : Nat) (a0_0 : ByteArray) (a0_1 : Int) (a0_2 : Int) : Option (ByteArray × Bool) := (spec_veOne.f k a0_0 a0_1 a0_2).bind fun t121 => (if t121 = true then ((spec_veText.f k a0_0 a0_1 a0_2).bind fun t122 => (some (t122, true))) else (some ((⟨#[]⟩ : ByteArray), false)))
theorem spec_VerbText.mono : ∀ a0 a1 a2 k, LeO (spec_VerbText.f k a0 a1 a2) (spec_VerbText.f (k + 1) a0 a1 a2) := by
  intro a0 a1 a2 k
  unfold spec_VerbText.f
  repeat' first
      | (with_reducible exact spec_veOne.mono _ _ _ _)
      | (with_reducible exact spec_veText.mono _ _ _ _)
      | (with_reducible exact LeO.refl _)
      | (with_reducible exact LeO.none _)
      | (with_reducible refine LeO.ite ?_ ?_)
      | (with_reducible refine LeO.bind ?_ (fun _ => ?_))
      | exact spec_veOne.mono _ _ _ _
      | exact spec_veText.mono _ _ _ _
      | exact LeO.none _
      | refine LeO.ite ?_ ?_
      | refine LeO.bind ?_ (fun _ => ?_)
noncomputable def spec_VerbText.F (a0_0 : ByteArray) (a0_1 : Int) (a0_2 : Int) : Option (ByteArray × Bool) := lim fun k => spec_VerbText.f k a0_0 a0_1 a0_2
theorem spec_VerbText.F_lim (a0_0 : ByteArray) (a0_1 : Int) (a0_2 : Int) : Lim (fun k => spec_VerbText.f k a0_0 a0_1 a0_2) (spec_VerbText.F a0_0 a0_1 a0_2) := ⟨spec_VerbText.mono a0_0 a0_1 a0_2, rfl⟩
theorem spec_VerbText.F_eq (a0_0 : ByteArray) (a0_1 : Int) (a0_2 : Int) : spec_VerbText.F a0_0 a0_1 a0_2 = ((spec_veOne.F a0_0 a0_1 a0_2).bind fun t121 => (if t121 = true then ((spec_veText.F a0_0 a0_1 a0_2).bind fun t122 => (some (t122, true))) else (some ((⟨#[]⟩ : ByteArray), false)))) := by
  refine Lim.eq_ ?_
  simp only [spec_VerbText.f]
  repeat' first
  | (with_reducible exact spec_veOne.F_lim _ _ _)
  | (with_reducible exact spec_veText.F_lim _ _ _)
  | (with_reducible refine Lim.ite ?_ ?_)
  | (with_reducible refine Lim.bind ?_ (fun _ => ?_))
  | (with_reducible exact Lim.const _)
def laws_toVerb.f (a0_0 : ByteArray) (a0_1 : Int) (a0_2 : Int) : Option (ByteArray × Int × Int) := some (a0_0, a0_1, a0_2)
def impl_within.f (a0 : Int) (a1 : Int) (a2 : Int) : Option (Bool) := if a0 ≥ a1 then (some (decide (a0 ≤ a2))) else (some false)
def impl_isAngle.f (a0 : Int) : Option (Bool) := (impl_within.f a0 (-90) 90).bind fun t126 => (some t126)
def stringslite_IndexByte.f (a0 : ByteArray) (a1 : Int) : Option (Int) := some (Lib.indexByte a0.data.toList a1.toNat.toUInt8)
def strings_IndexByte.f (a0 : ByteArray) (a1 : Int) : Option (Int) := (stringslite_IndexByte.f a0 a1).bind fun t127 => (some t127)
def impl_hasOnly.l0 : Nat → ByteArray → ByteArray → Int → Int → Option (Bool)
  | 0, _, _, _, _ => none
  | k + 1, x0, x1, x7, x8 => if x8 < x7 then (if 0 ≤ x8 then (if x8 < (x0.size : Int) then ((strings_IndexByte.f x1 (bt x0 x8)).bind fun t128 => (if t128 < 0 then (some false) else (impl_hasOnly.l0 k x0 x1 x7 (wrap64 (x8 + 1))))) else (none)) else (none)) else (some true)
def impl_hasOnly.f (k : Nat) (a0 : ByteArray) (a1 : ByteArray) : Option (Bool) := impl_hasOnly.l0 k a0 a1 (a0.size : Int) 0
theorem impl_hasOnly.mono_l : ∀ k, (∀ y0 y1 y2 y3, LeO (impl_hasOnly.l0 k y0 y1 y2 y3) (impl_hasOnly.l0 (k + 1) y0 y1 y2 y3))
  | 0 => fun _ _ _ _ r h => by simp [impl_hasOnly.l0] at h
  | k + 1 => by
    have ih0 := impl_hasOnly.mono_l k
    · intro y0 y1 y2 y3
      unfold impl_hasOnly.l0
      repeat' first
      | (with_reducible exact ih0 _ _ _ _)
      | (with_reducible exact LeO.refl _)
      | (with_reducible exact LeO.none _)
      | (with_reducible refine LeO.ite ?_ ?_)
      | (with_reducible refine LeO.bind ?_ (fun _ => ?_))
      | exact ih0 _ _ _ _
      | exact LeO.none _
      | refine LeO.ite ?_ ?_
      | refine LeO.bind ?_ (fun _ => ?_)
theorem impl_hasOnly.mono : ∀ a0 a1 k, LeO (impl_hasOnly.f k a0 a1) (impl_hasOnly.f (k + 1) a0 a1) := by
  intro a0 a1 k
  have ih0 := impl_hasOnly.mono_l k
  unfold impl_hasOnly.f
  repeat' first
      | (with_reducible exact ih0 _ _ _ _)
      | (with_reducible exact LeO.refl _)
      | (with_reducible exact LeO.none _)
      | (with_reducible refine LeO.ite ?_ ?_)
      | (with_reducible refine LeO.bind ?_ (fun _ => ?_))
      | exact ih0 _ _ _ _
      | exact LeO.none _
      | refine LeO.ite ?_ ?_
      | refine LeO.bind ?_ (fun _ => ?_)
noncomputable def impl_hasOnly.L0 (x0 : ByteArray) (x1 : ByteArray) (x7 : Int) (x8 : Int) : Option (Bool) := lim fun k => impl_hasOnly.l0 k x0 x1 x7 x8
theorem impl_hasOnly.L0_lim (x0 : ByteArray) (x1 : ByteArray) (x7 : Int) (x8 : Int) : Lim (fun k => impl_hasOnly.l0 k x0 x1 x7 x8) (impl_hasOnly.L0 x0 x1 x7 x8) := ⟨fun k => (impl_hasOnly.mono_l k) x0 x1 x7 x8, rfl⟩
noncomputable def impl_hasOnly.F (a0 : ByteArray) (a1 : ByteArray) : Option (Bool) := lim fun k => impl_hasOnly.f k a0 a1
theorem impl_hasOnly.F_lim (a0 : ByteArray) (a1 : ByteArray) : Lim (fun k => impl_hasOnly.f k a0 a1) (impl_hasOnly.F a0 a1) := ⟨impl_hasOnly.mono a0 a1, rfl⟩
theorem impl_hasOnly.L0_eq (x0 : ByteArray) (x1 : ByteArray) (x7 : Int) (x8 : Int) : impl_hasOnly.L0 x0 x1 x7 x8 = (if x8 < x7 then (if 0 ≤ x8 then (if x8 < (x0.size : Int) then ((strings_IndexByte.f x1 (bt x0 x8)).bind fun t128 => (if t128 < 0 then (some false) else (impl_hasOnly.L0 x0 x1 x7 (wrap64 (x8 + 1))))) else (none)) else (none)) else (some true)) := by
  refine Lim.succ_eq (impl_hasOnly.L0_lim x0 x1 x7 x8).mon ?_
  simp only [impl_hasOnly.l0]
  repeat' first
  | (with_reducible exact impl_hasOnly.L0_lim _ _ _ _)
  | (with_reducible refine Lim.ite ?_ ?_)
  | (with_reducible refine Lim.bind ?_ (fun _ => ?_))
  | (with_reducible exact Lim.const _)
theorem impl_hasOnly.F_eq (a0 : ByteArray) (a1 : ByteArray) : impl_hasOnly.F a0 a1 = (impl_hasOnly.L0 a0 a1 (a0.size : Int) 0) := by
  refine Lim.eq_ ?_
  simp only [impl_hasOnly.f]
  repeat' first
  | (with_reducible exact impl_hasOnly.L0_lim _ _ _ _)
  | (with_reducible refine Lim.ite ?_ ?_)
  | (with_reducible refine Lim.bind ?_ (fun _ => ?_))
  | (with_reducible exact Lim.const _)
def impl_isWordOf.f (k : Nat) (a0 : ByteArray) (a1 : ByteArray) : Option (Bool) := (impl_within.f (a0.size : Int) 1 8).bind fun t129 => (if t129 = true then ((impl_hasOnly.f k a0 a1).bind fun t130 => (some t130)) else (some false))
theorem impl_isWordOf.mono : ∀ a0 a1 k, LeO (impl_isWordOf.f k a0 a1) (impl_isWordOf.f (k + 1) a0 a1) := by
  intro a0 a1 k
  unfold impl_isWordOf.f
  repeat' first
      | (with_reducible exact impl_hasOnly.mono _ _ _)
      | (with_reducible exact LeO.refl _)
      | (with_reducible exact LeO.none _)
      | (with_reducible refine LeO.ite ?_ ?_)
      | (with_reducible refine LeO.bind ?_ (fun _ => ?_))
      | exact impl_hasOnly.mono _ _ _
      | exact LeO.none _
      | refine LeO.ite ?_ ?_
      | refine LeO.bind ?_ (fun _ => ?_)
noncomputable def impl_isWordOf.F (a0 : ByteArray) (a1 : ByteArray) : Option (Bool) := lim fun k => impl_isWordOf.f k a0 a1
theorem impl_isWordOf.F_lim (a0 : ByteArray) (a1 : ByteArray) : Lim (fun k => impl_isWordOf.f k a0 a1) (impl_isWordOf.F a0 a1) := ⟨impl_isWordOf.mono a0 a1, rfl⟩
theorem impl_isWordOf.F_eq (a0 : ByteArray) (a1 : ByteArray) : impl_isWordOf.F a0 a1 = ((impl_within.f (a0.size : Int) 1 8).bind fun t129 => (if t129 = true then ((impl_hasOnly.F a0 a1).bind fun t130 => (some t130)) else (some false))) := by
  refine Lim.eq_ ?_
  simp only [impl_isWordOf.f]
  repeat' first
  | (with_reducible exact impl_hasOnly.F_lim _ _)
  | (with_reducible refine Lim.ite ?_ ?_)
  | (with_reducible refine Lim.bind ?_ (fun _ => ?_))
  | (with_reducible exact Lim.const _)
def impl_IsGloss.f (k : Nat) (a0 : ByteArray) : Option (Bool) := (impl_isWordOf.f k a0 (⟨#[65, 66, 67, 68, 69, 70, 71, 72, 73, 74, 75, 76, 77, 78, 79, 80, 81, 82, 83, 84, 85, 86, 87, 88, 89, 90]⟩ : ByteArray)).bind fun t131 => (some t131)
theorem impl_IsGloss.mono : ∀ a0 k, LeO (impl_IsGloss.f k a0) (impl_IsGloss.f (k + 1) a0) := by
  intro a0 k
  unfold impl_IsGloss.f
  repeat' first
      | (with_reducible exact impl_isWordOf.mono _ _ _)
      | (with_reducible exact LeO.refl _)
      | (with_reducible exact LeO.none _)
      | (with_reducible refine LeO.ite ?_ ?_)
      | (with_reducible refine LeO.bind ?_ (fun _ => ?_))
      | exact impl_isWordOf.mono _ _ _
      | exact LeO.none _
      | refine LeO.ite ?_ ?_
      | refine LeO.bind ?_ (fun _ => ?_)
noncomputable def impl_IsGloss.F (a0 : ByteArray) : Option (Bool) := lim fun k => impl_IsGloss.f k a0
theorem impl_IsGloss.F_lim (a0 : ByteArray) : Lim (fun k => impl_IsGloss.f k a0) (impl_IsGloss.F a0) := ⟨impl_IsGloss.mono a0, rfl⟩
theorem impl_IsGloss.F_eq (a0 : ByteArray) : impl_IsGloss.F a0 = ((impl_isWordOf.F a0 (⟨#[65, 66, 67, 68, 69, 70, 71, 72, 73, 74, 75, 76, 77, 78, 79, 80, 81, 82, 83, 84, 85, 86, 87, 88, 89, 90]⟩ : ByteArray)).bind fun t131 => (some t131)) := by
  refine Lim.eq_ ?_
  simp only [impl_IsGloss.f]
  repeat' first
  | (with_reducible exact impl_isWordOf.F_lim _ _)
  | (with_reducible refine Lim.ite ?_ ?_)
  | (with_reducible refine Lim.bind ?_ (fun _ => ?_))
  | (with_reducible exact Lim.const _)
def impl_IsVerb.f (k : Nat) (a0_0 : ByteArray) (a0_1 : Int) (a0_2 : Int) : Option (Bool) := (impl_IsGloss.f k a0_0).bind fun t133 => (if t133 = true then ((impl_isAngle.f a0_1).bind fun t134 => (if t134 = true then ((impl_isAngle.f a0_2).bind fun t135 => (if t135 = true then (some (a0_1 != a0_2)) else (some false))) else (some false))) else (some false))
theorem impl_IsVerb.mono : ∀ a0 a1 a2 k, LeO (impl_IsVerb.f k a0 a1 a2) (impl_IsVerb.f (k + 1) a0 a1 a2) := by
  intro a0 a1 a2 k
  unfold impl_IsVerb.f
  repeat' first
      | (with_reducible exact impl_IsGloss.mono _ _)
      | (with_reducible exact LeO.refl _)
      | (with_reducible exact LeO.none _)
      | (with_reducible refine LeO.ite ?_ ?_)
      | (with_reducible refine LeO.bind ?_ (fun _ => ?_))
      | exact impl_IsGloss.mono _ _
      | exact LeO.none _
      | refine LeO.ite ?_ ?_
      | refine LeO.bind ?_ (fun _ => ?_)
noncomputable def impl_IsVerb.F (a0_0 : ByteArray) (a0_1 : Int) (a0_2 : Int) : Option (Bool) := lim fun k => impl_IsVerb.f k a0_0 a0_1 a0_2
theorem impl_IsVerb.F_lim (a0_0 : ByteArray) (a0_1 : Int) (a0_2 : Int) : Lim (fun k => impl_IsVerb.f k a0_0 a0_1 a0_2) (impl_IsVerb.F a0_0 a0_1 a0_2) := ⟨impl_IsVerb.mono a0_0 a0_1 a0_2, rfl⟩
theorem impl_IsVerb.F_eq (a0_0 : ByteArray) (a0_1 : Int) (a0_2 : Int) : impl_IsVerb.F a0_0 a0_1 a0_2 = ((impl_IsGloss.F a0_0).bind fun t133 => (if t133 = true then ((impl_isAngle.f a0_1).bind fun t134 => (if t134 = true then ((impl_isAngle.f a0_2).bind fun t135 => (if t135 = true then (some (a0_1 != a0_2)) else (some false))) else (some false))) else (some false))) := by
  refine Lim.eq_ ?_
  simp only [impl_IsVerb.f]
  repeat' first
  | (with_reducible exact impl_IsGloss.F_lim _)
  | (with_reducible refine Lim.ite ?_ ?_)
  | (with_reducible refine Lim.bind ?_ (fun _ => ?_))
  | (with_reducible exact Lim.const _)
def strconv_Itoa.f (a0 : Int) : Option (ByteArray) := if -9223372036854775808 ≤ a0 ∧ a0 ≤ 9223372036854775807 then some ⟨(Lib.itoa a0).toArray⟩ else none
def impl_Verb_text.f (a0_0 : ByteArray) (a0_1 : Int) (a0_2 : Int) : Option (ByteArray) := if a0_0.size + 1 ≤ 9223372036854775807 then ((strconv_Itoa.f a0_1).bind fun t137 => (if (a0_0 ++ (⟨#[58]⟩ : ByteArray)).size + t137.size ≤ 9223372036854775807 then (if ((a0_0 ++ (⟨#[58]⟩ : ByteArray)) ++ t137).size + 1 ≤ 9223372036854775807 then ((strconv_Itoa.f a0_2).bind fun t138 => (if (((a0_0 ++ (⟨#[58]⟩ : ByteArray)) ++ t137) ++ (⟨#[62]⟩ : ByteArray)).size + t138.size ≤ 9223372036854775807 then (some ((((a0_0 ++ (⟨#[58]⟩ : ByteArray)) ++ t137) ++ (⟨#[62]⟩ : ByteArray)) ++ t138)) else (none))) else (none)) else (none))) else (none)
def impl_VerbText.f (k : Nat) (a0_0 : ByteArray) (a0_1 : Int) (a0_2 : Int) : Option (ByteArray × Bool) := (impl_IsVerb.f k a0_0 a0_1 a0_2).bind fun t140 => (if t140 = true then ((impl_Verb_text.f a0_0 a0_1 a0_2).bind fun t141 => (some (t141, true))) else (some ((⟨#[]⟩ : ByteArray), false)))
theorem impl_VerbText.mono : ∀ a0 a1 a2 k, LeO (impl_VerbText.f k a0 a1 a2) (impl_VerbText.f (k + 1) a0 a1 a2) := by
  intro a0 a1 a2 k
  unfold impl_VerbText.f
  repeat' first
      | (with_reducible exact impl_IsVerb.mono _ _ _ _)
      | (with_reducible exact LeO.refl _)
      | (with_reducible exact LeO.none _)
      | (with_reducible refine LeO.ite ?_ ?_)
      | (with_reducible refine LeO.bind ?_ (fun _ => ?_))
      | exact impl_IsVerb.mono _ _ _ _
      | exact LeO.none _
      | refine LeO.ite ?_ ?_
      | refine LeO.bind ?_ (fun _ => ?_)
noncomputable def impl_VerbText.F (a0_0 : ByteArray) (a0_1 : Int) (a0_2 : Int) : Option (ByteArray × Bool) := lim fun k => impl_VerbText.f k a0_0 a0_1 a0_2
theorem impl_VerbText.F_lim (a0_0 : ByteArray) (a0_1 : Int) (a0_2 : Int) : Lim (fun k => impl_VerbText.f k a0_0 a0_1 a0_2) (impl_VerbText.F a0_0 a0_1 a0_2) := ⟨impl_VerbText.mono a0_0 a0_1 a0_2, rfl⟩
theorem impl_VerbText.F_eq (a0_0 : ByteArray) (a0_1 : Int) (a0_2 : Int) : impl_VerbText.F a0_0 a0_1 a0_2 = ((impl_IsVerb.F a0_0 a0_1 a0_2).bind fun t140 => (if t140 = true then ((impl_Verb_text.f a0_0 a0_1 a0_2).bind fun t141 => (some (t141, true))) else (some ((⟨#[]⟩ : ByteArray), false)))) := by
  refine Lim.eq_ ?_
  simp only [impl_VerbText.f]
  repeat' first
  | (with_reducible exact impl_IsVerb.F_lim _ _ _)
  | (with_reducible refine Lim.ite ?_ ?_)
  | (with_reducible refine Lim.bind ?_ (fun _ => ?_))
  | (with_reducible exact Lim.const _)
def laws_FnExactVerbText.f (k : Nat) (a0_0 : ByteArray) (a0_1 : Int) (a0_2 : Int) : Option (Bool) := (laws_szVerb.f a0_0 a0_1 a0_2 1048576).bind fun t143 => (if t143 < 0 then (some true) else ((laws_toVerb.f a0_0 a0_1 a0_2).bind fun bt144 => ((spec_VerbText.f k bt144.1 bt144.2.1 bt144.2.2).bind fun bt147 => ((laws_toVerb.f a0_0 a0_1 a0_2).bind fun bt149 => ((impl_VerbText.f k bt149.1 bt149.2.1 bt149.2.2).bind fun bt152 => (if bt152.1.toList = bt147.1.toList then (if (bt152.2 != bt147.2) = true then (some false) else (some true)) else (some false)))))))
theorem laws_FnExactVerbText.mono : ∀ a0 a1 a2 k, LeO (laws_FnExactVerbText.f k a0 a1 a2) (laws_FnExactVerbText.f (k + 1) a0 a1 a2) := by
  intro a0 a1 a2 k
  unfold laws_FnExactVerbText.f
  repeat' first
      | (with_reducible exact impl_VerbText.mono _ _ _ _)
      | (with_reducible exact spec_VerbText.mono _ _ _ _)
      | (with_reducible exact LeO.refl _)
      | (with_reducible exact LeO.none _)
      | (with_reducible refine LeO.ite ?_ ?_)
      | (with_reducible refine LeO.bind ?_ (fun _ => ?_))
      | exact impl_VerbText.mono _ _ _ _
      | exact spec_VerbText.mono _ _ _ _
      | exact LeO.none _
      | refine LeO.ite ?_ ?_
      | refine LeO.bind ?_ (fun _ => ?_)
noncomputable def laws_FnExactVerbText.F (a0_0 : ByteArray) (a0_1 : Int) (a0_2 : Int) : Option (Bool) := lim fun k => laws_FnExactVerbText.f k a0_0 a0_1 a0_2
theorem laws_FnExactVerbText.F_lim (a0_0 : ByteArray) (a0_1 : Int) (a0_2 : Int) : Lim (fun k => laws_FnExactVerbText.f k a0_0 a0_1 a0_2) (laws_FnExactVerbText.F a0_0 a0_1 a0_2) := ⟨laws_FnExactVerbText.mono a0_0 a0_1 a0_2, rfl⟩
theorem laws_FnExactVerbText.F_eq (a0_0 : ByteArray) (a0_1 : Int) (a0_2 : Int) : laws_FnExactVerbText.F a0_0 a0_1 a0_2 = ((laws_szVerb.f a0_0 a0_1 a0_2 1048576).bind fun t143 => (if t143 < 0 then (some true) else ((laws_toVerb.f a0_0 a0_1 a0_2).bind fun bt144 => ((spec_VerbText.F bt144.1 bt144.2.1 bt144.2.2).bind fun bt147 => ((laws_toVerb.f a0_0 a0_1 a0_2).bind fun bt149 => ((impl_VerbText.F bt149.1 bt149.2.1 bt149.2.2).bind fun bt152 => (if bt152.1.toList = bt147.1.toList then (if (bt152.2 != bt147.2) = true then (some false) else (some true)) else (some false)))))))) := by
  refine Lim.eq_ ?_
  simp only [laws_FnExactVerbText.f]
  repeat' first
  | (with_reducible exact impl_VerbText.F_lim _ _ _)
  | (with_reducible exact spec_VerbText.F_lim _ _ _)
  | (with_reducible refine Lim.ite ?_ ?_)
  | (with_reducible refine Lim.bind ?_ (fun _ => ?_))
  | (with_reducible exact Lim.const _)
def Wf23 (x : S23) : Prop := x.f0.size ≤ 9223372036854775807 ∧ (Lit.int .i64 x.f1).wf = true ∧ (Lit.int .i64 x.f2).wf = true
def laws_FnExactVerbText.Pure : Prop := ∀ (a0_0 : ByteArray) (a0_1 : Int) (a0_2 : Int), Wf23 (⟨a0_0, a0_1, a0_2⟩ : S23) → ∃ k, laws_FnExactVerbText.f k a0_0 a0_1 a0_2 = some true
end Go.Proofs.YtbheajjagkdjmaaDoor.PFnExactVerbText
