/- Written by a program of this claim's author, out of the loaded program as Lean prints it: the functions as Lean functions, and that the calls answer so. -/
import Derived.Test.YtgjljcejhdpibaaDoorPFnExactParseLocix0
namespace Go.Proofs.YtgjljcejhdpibaaDoor.PFnExactParseLoci
open Go.RowKit Go.Proofs.YtgjljcejhdpibaaDoorW.PrintWords Go.Proofs.YtgjljcejhdpibaaDoorW.PrintLast Go.Proofs.YtgjljcejhdpibaaDoorW.PrintMore
attribute [local go_sem] max2_int min2_int max_two min_two max_three min_three max_four min_four   -- for this text's walks alone
set_option linter.unusedVariables false
set_option linter.unusedSimpArgs false

def spec_l1Split.l0 : Nat → ByteArray → Int → List ByteArray → Int → Int → Option (List ByteArray)
  | 0, _, _, _, _, _ => none
  | k + 1, x0, x1, x5, x6, x7 => if x7 < (x0.size : Int) then (if 0 ≤ x7 then (if (bt x0 x7) = x1 then (if 0 ≤ x6 then (if x6 ≤ x7 then (if x7 ≤ (x0.size : Int) then (if x5.length < 8796093022208 then (spec_l1Split.l0 k x0 x1 (x5 ++ [x0.extract (x6 : Int).toNat (x7 : Int).toNat]) (wrap64 (x7 + 1)) (wrap64 (x7 + 1))) else (none)) else (none)) else (none)) else (none)) else (spec_l1Split.l0 k x0 x1 x5 x6 (wrap64 (x7 + 1)))) else (none)) else (if 0 ≤ x6 then (if x6 ≤ (x0.size : Int) then (if x5.length < 8796093022208 then (some (x5 ++ [x0.extract (x6 : Int).toNat x0.size])) else (none)) else (none)) else (none))
def spec_l1Split.f (k : Nat) (a0 : ByteArray) (a1 : Int) : Option (List ByteArray) := spec_l1Split.l0 k a0 a1 ([] : List ByteArray) 0 0
theorem spec_l1Split.mono_l : ∀ k, (∀ y0 y1 y2 y3 y4, LeO (spec_l1Split.l0 k y0 y1 y2 y3 y4) (spec_l1Split.l0 (k + 1) y0 y1 y2 y3 y4))
  | 0 => fun _ _ _ _ _ r h => by simp [spec_l1Split.l0] at h
  | k + 1 => by
    have ih0 := spec_l1Split.mono_l k
    · intro y0 y1 y2 y3 y4
      unfold spec_l1Split.l0
      repeat' first
      | (with_reducible exact ih0 _ _ _ _ _)
      | (with_reducible exact LeO.refl _)
      | (with_reducible exact LeO.none _)
      | (with_reducible refine LeO.ite ?_ ?_)
      | (with_reducible refine LeO.bind ?_ (fun _ => ?_))
      | exact ih0 _ _ _ _ _
      | exact LeO.none _
      | refine LeO.ite ?_ ?_
      | refine LeO.bind ?_ (fun _ => ?_)
theorem spec_l1Split.mono : ∀ a0 a1 k, LeO (spec_l1Split.f k a0 a1) (spec_l1Split.f (k + 1) a0 a1) := by
  intro a0 a1 k
  have ih0 := spec_l1Split.mono_l k
  unfold spec_l1Split.f
  repeat' first
      | (with_reducible exact ih0 _ _ _ _ _)
      | (with_reducible exact LeO.refl _)
      | (with_reducible exact LeO.none _)
      | (with_reducible refine LeO.ite ?_ ?_)
      | (with_reducible refine LeO.bind ?_ (fun _ => ?_))
      | exact ih0 _ _ _ _ _
      | exact LeO.none _
      | refine LeO.ite ?_ ?_
      | refine LeO.bind ?_ (fun _ => ?_)
noncomputable def spec_l1Split.L0 (x0 : ByteArray) (x1 : Int) (x5 : List ByteArray) (x6 : Int) (x7 : Int) : Option (List ByteArray) := lim fun k => spec_l1Split.l0 k x0 x1 x5 x6 x7
theorem spec_l1Split.L0_lim (x0 : ByteArray) (x1 : Int) (x5 : List ByteArray) (x6 : Int) (x7 : Int) : Lim (fun k => spec_l1Split.l0 k x0 x1 x5 x6 x7) (spec_l1Split.L0 x0 x1 x5 x6 x7) := ⟨fun k => (spec_l1Split.mono_l k) x0 x1 x5 x6 x7, rfl⟩
noncomputable def spec_l1Split.F (a0 : ByteArray) (a1 : Int) : Option (List ByteArray) := lim fun k => spec_l1Split.f k a0 a1
theorem spec_l1Split.F_lim (a0 : ByteArray) (a1 : Int) : Lim (fun k => spec_l1Split.f k a0 a1) (spec_l1Split.F a0 a1) := ⟨spec_l1Split.mono a0 a1, rfl⟩
theorem spec_l1Split.L0_eq (x0 : ByteArray) (x1 : Int) (x5 : List ByteArray) (x6 : Int) (x7 : Int) : spec_l1Split.L0 x0 x1 x5 x6 x7 = (if x7 < (x0.size : Int) then (if 0 ≤ x7 then (if (bt x0 x7) = x1 then (if 0 ≤ x6 then (if x6 ≤ x7 then (if x7 ≤ (x0.size : Int) then (if x5.length < 8796093022208 then (spec_l1Split.L0 x0 x1 (x5 ++ [x0.extract (x6 : Int).toNat (x7 : Int).toNat]) (wrap64 (x7 + 1)) (wrap64 (x7 + 1))) else (none)) else (none)) else (none)) else (none)) else (spec_l1Split.L0 x0 x1 x5 x6 (wrap64 (x7 + 1)))) else (none)) else (if 0 ≤ x6 then (if x6 ≤ (x0.size : Int) then (if x5.length < 8796093022208 then (some (x5 ++ [x0.extract (x6 : Int).toNat x0.size])) else (none)) else (none)) else (none))) := by
  refine Lim.succ_eq (spec_l1Split.L0_lim x0 x1 x5 x6 x7).mon ?_
  simp only [spec_l1Split.l0]
  repeat' first
  | (with_reducible exact spec_l1Split.L0_lim _ _ _ _ _)
  | (with_reducible refine Lim.ite ?_ ?_)
  | (with_reducible refine Lim.bind ?_ (fun _ => ?_))
  | (with_reducible exact Lim.const _)
theorem spec_l1Split.F_eq (a0 : ByteArray) (a1 : Int) : spec_l1Split.F a0 a1 = (spec_l1Split.L0 a0 a1 ([] : List ByteArray) 0 0) := by
  refine Lim.eq_ ?_
  simp only [spec_l1Split.f]
  repeat' first
  | (with_reducible exact spec_l1Split.L0_lim _ _ _ _ _)
  | (with_reducible refine Lim.ite ?_ ?_)
  | (with_reducible refine Lim.bind ?_ (fun _ => ?_))
  | (with_reducible exact Lim.const _)
def spec_l1In.f (a0 : Int) (a1 : Int) (a2 : Int) : Option (Bool) := if a0 ≥ a1 then (some (decide (a0 ≤ a2))) else (some false)
mutual
def spec_l1Read.j0 : Nat → ByteArray → Bool → Option (Int)
  | 0, _, _ => none
  | k + 1, x0, x18 => if x18 = true then (some (-1)) else (spec_l1Read.l0 k x0 0 0)
def spec_l1Read.l0 : Nat → ByteArray → Int → Int → Option (Int)
  | 0, _, _, _ => none
  | k + 1, x0, x3, x4 => if x4 < (x0.size : Int) then (if 0 ≤ x4 then (if (bt x0 x4) < 48 then (some (-1)) else (if (bt x0 x4) > 57 then (some (-1)) else (spec_l1Read.l0 k x0 (wrap64 ((wrap64 (10 * x3)) + (((bt x0 x4) - 48) % 256))) (wrap64 (x4 + 1))))) else (none)) else (some x3)
end
def spec_l1Read.f (k : Nat) (a0 : ByteArray) : Option (Int) := (spec_l1In.f (a0.size : Int) 1 6).bind fun t107 => (if t107 = true then (if 0 < (a0.size : Int) then (if (bt a0 0) = 48 then (spec_l1Read.j0 k a0 (decide ((a0.size : Int) > 1))) else (spec_l1Read.j0 k a0 false)) else (none)) else (spec_l1Read.j0 k a0 true))
theorem spec_l1Read.mono_l : ∀ k, (∀ y0 y1, LeO (spec_l1Read.j0 k y0 y1) (spec_l1Read.j0 (k + 1) y0 y1)) ∧ (∀ y0 y1 y2, LeO (spec_l1Read.l0 k y0 y1 y2) (spec_l1Read.l0 (k + 1) y0 y1 y2))
  | 0 => ⟨fun _ _ r h => by simp [spec_l1Read.j0] at h, fun _ _ _ r h => by simp [spec_l1Read.l0] at h⟩
  | k + 1 => by
    obtain ⟨ih0, ih1⟩ := spec_l1Read.mono_l k
    refine ⟨?_, ?_⟩
    · intro y0 y1
      unfold spec_l1Read.j0
      repeat' first
      | (with_reducible exact ih0 _ _)
      | (with_reducible exact ih1 _ _ _)
      | (with_reducible exact LeO.refl _)
      | (with_reducible exact LeO.none _)
      | (with_reducible refine LeO.ite ?_ ?_)
      | (with_reducible refine LeO.bind ?_ (fun _ => ?_))
      | exact ih0 _ _
      | exact ih1 _ _ _
      | exact LeO.none _
      | refine LeO.ite ?_ ?_
      | refine LeO.bind ?_ (fun _ => ?_)
    · intro y0 y1 y2
      unfold spec_l1Read.l0
      repeat' first
      | (with_reducible exact ih0 _ _)
      | (with_reducible exact ih1 _ _ _)
      | (with_reducible exact LeO.refl _)
      | (with_reducible exact LeO.none _)
      | (with_reducible refine LeO.ite ?_ ?_)
      | (with_reducible refine LeO.bind ?_ (fun _ => ?_))
      | exact ih0 _ _
      | exact ih1 _ _ _
      | exact LeO.none _
      | refine LeO.ite ?_ ?_
      | refine LeO.bind ?_ (fun _ => ?_)
theorem spec_l1Read.mono : ∀ a0 k, LeO (spec_l1Read.f k a0) (spec_l1Read.f (k + 1) a0) := by
  intro a0 k
  obtain ⟨ih0, ih1⟩ := spec_l1Read.mono_l k
  unfold spec_l1Read.f
  repeat' first
      | (with_reducible exact ih0 _ _)
      | (with_reducible exact ih1 _ _ _)
      | (with_reducible exact LeO.refl _)
      | (with_reducible exact LeO.none _)
      | (with_reducible refine LeO.ite ?_ ?_)
      | (with_reducible refine LeO.bind ?_ (fun _ => ?_))
      | exact ih0 _ _
      | exact ih1 _ _ _
      | exact LeO.none _
      | refine LeO.ite ?_ ?_
      | refine LeO.bind ?_ (fun _ => ?_)
noncomputable def spec_l1Read.J0 (x0 : ByteArray) (x18 : Bool) : Option (Int) := lim fun k => spec_l1Read.j0 k x0 x18
theorem spec_l1Read.J0_lim (x0 : ByteArray) (x18 : Bool) : Lim (fun k => spec_l1Read.j0 k x0 x18) (spec_l1Read.J0 x0 x18) := ⟨fun k => (spec_l1Read.mono_l k).1 x0 x18, rfl⟩
noncomputable def spec_l1Read.L0 (x0 : ByteArray) (x3 : Int) (x4 : Int) : Option (Int) := lim fun k => spec_l1Read.l0 k x0 x3 x4
theorem spec_l1Read.L0_lim (x0 : ByteArray) (x3 : Int) (x4 : Int) : Lim (fun k => spec_l1Read.l0 k x0 x3 x4) (spec_l1Read.L0 x0 x3 x4) := ⟨fun k => (spec_l1Read.mono_l k).2 x0 x3 x4, rfl⟩
noncomputable def spec_l1Read.F (a0 : ByteArray) : Option (Int) := lim fun k => spec_l1Read.f k a0
theorem spec_l1Read.F_lim (a0 : ByteArray) : Lim (fun k => spec_l1Read.f k a0) (spec_l1Read.F a0) := ⟨spec_l1Read.mono a0, rfl⟩
theorem spec_l1Read.J0_eq (x0 : ByteArray) (x18 : Bool) : spec_l1Read.J0 x0 x18 = (if x18 = true then (some (-1)) else (spec_l1Read.L0 x0 0 0)) := by
  refine Lim.succ_eq (spec_l1Read.J0_lim x0 x18).mon ?_
  simp only [spec_l1Read.j0]
  repeat' first
  | (with_reducible exact spec_l1Read.J0_lim _ _)
  | (with_reducible exact spec_l1Read.L0_lim _ _ _)
  | (with_reducible refine Lim.ite ?_ ?_)
  | (with_reducible refine Lim.bind ?_ (fun _ => ?_))
  | (with_reducible exact Lim.const _)
theorem spec_l1Read.L0_eq (x0 : ByteArray) (x3 : Int) (x4 : Int) : spec_l1Read.L0 x0 x3 x4 = (if x4 < (x0.size : Int) then (if 0 ≤ x4 then (if (bt x0 x4) < 48 then (some (-1)) else (if (bt x0 x4) > 57 then (some (-1)) else (spec_l1Read.L0 x0 (wrap64 ((wrap64 (10 * x3)) + (((bt x0 x4) - 48) % 256))) (wrap64 (x4 + 1))))) else (none)) else (some x3)) := by
  refine Lim.succ_eq (spec_l1Read.L0_lim x0 x3 x4).mon ?_
  simp only [spec_l1Read.l0]
  repeat' first
  | (with_reducible exact spec_l1Read.J0_lim _ _)
  | (with_reducible exact spec_l1Read.L0_lim _ _ _)
  | (with_reducible refine Lim.ite ?_ ?_)
  | (with_reducible refine Lim.bind ?_ (fun _ => ?_))
  | (with_reducible exact Lim.const _)
theorem spec_l1Read.F_eq (a0 : ByteArray) : spec_l1Read.F a0 = ((spec_l1In.f (a0.size : Int) 1 6).bind fun t107 => (if t107 = true then (if 0 < (a0.size : Int) then (if (bt a0 0) = 48 then (spec_l1Read.J0 a0 (decide ((a0.size : Int) > 1))) else (spec_l1Read.J0 a0 false)) else (none)) else (spec_l1Read.J0 a0 true))) := by
  refine Lim.eq_ ?_
  simp only [spec_l1Read.f]
  repeat' first
  | (with_reducible exact spec_l1Read.J0_lim _ _)
  | (with_reducible exact spec_l1Read.L0_lim _ _ _)
  | (with_reducible refine Lim.ite ?_ ?_)
  | (with_reducible refine Lim.bind ?_ (fun _ => ?_))
  | (with_reducible exact Lim.const _)
def spec_l1Num.f : Nat → Int → Option (ByteArray)
  | 0, _ => none
  | k + 1, a0 => if a0 < 10 then (some (strOfNums (([(wrap64 (48 + a0)) % 256] : List Int)))) else ((spec_l1Num.f k (wrap64 (Int.tdiv a0 10))).bind fun t111 => ((some (([(wrap64 (48 + (Int.tmod a0 10))) % 256] : List Int) : List Int)).bind fun y112 => (if t111.size + (strOfNums y112).size ≤ 9223372036854775807 then (some (t111 ++ (strOfNums y112))) else (none))))
theorem spec_l1Num.mono_l : ∀ k, (∀ y0, LeO (spec_l1Num.f k y0) (spec_l1Num.f (k + 1) y0))
  | 0 => fun _ r h => by simp [spec_l1Num.f] at h
  | k + 1 => by
    have ih0 := spec_l1Num.mono_l k
    · intro y0
      unfold spec_l1Num.f
      repeat' first
      | (with_reducible exact ih0 _)
      | (with_reducible exact LeO.refl _)
      | (with_reducible exact LeO.none _)
      | (with_reducible refine LeO.ite ?_ ?_)
      | (with_reducible refine LeO.bind ?_ (fun _ => ?_))
      | exact ih0 _
      | exact LeO.none _
      | refine LeO.ite ?_ ?_
      | refine LeO.bind ?_ (fun _ => ?_)
theorem spec_l1Num.mono : ∀ a0 k, LeO (spec_l1Num.f k a0) (spec_l1Num.f (k + 1) a0) := by
  intro a0 k
  have ih0 := spec_l1Num.mono_l k
  exact ih0 a0
noncomputable def spec_l1Num.F (a0 : Int) : Option (ByteArray) := lim fun k => spec_l1Num.f k a0
theorem spec_l1Num.F_lim (a0 : Int) : Lim (fun k => spec_l1Num.f k a0) (spec_l1Num.F a0) := ⟨spec_l1Num.mono a0, rfl⟩
theorem spec_l1Num.F_eq (a0 : Int) : spec_l1Num.F a0 = (if a0 < 10 then (some (strOfNums (([(wrap64 (48 + a0)) % 256] : List Int)))) else ((spec_l1Num.F (wrap64 (Int.tdiv a0 10))).bind fun t111 => ((some (([(wrap64 (48 + (Int.tmod a0 10))) % 256] : List Int) : List Int)).bind fun y112 => (if t111.size + (strOfNums y112).size ≤ 9223372036854775807 then (some (t111 ++ (strOfNums y112))) else (none))))) := by
  refine Lim.succ_eq (spec_l1Num.F_lim a0).mon ?_
  simp only [spec_l1Num.f]
  repeat' first
  | (with_reducible exact spec_l1Num.F_lim _)
  | (with_reducible refine Lim.ite ?_ ?_)
  | (with_reducible refine Lim.bind ?_ (fun _ => ?_))
  | (with_reducible exact Lim.const _)
def spec_l1Int.f (k : Nat) (a0 : Int) : Option (ByteArray) := if a0 < 0 then ((spec_l1Num.f k (wrap64 (-a0))).bind fun t115 => (if 1 + t115.size ≤ 9223372036854775807 then (some ((⟨#[45]⟩ : ByteArray) ++ t115)) else (none))) else ((spec_l1Num.f k a0).bind fun t116 => (some t116))
theorem spec_l1Int.mono : ∀ a0 k, LeO (spec_l1Int.f k a0) (spec_l1Int.f (k + 1) a0) := by
  intro a0 k
  unfold spec_l1Int.f
  repeat' first
      | (with_reducible exact spec_l1Num.mono _ _)
      | (with_reducible exact LeO.refl _)
      | (with_reducible exact LeO.none _)
      | (with_reducible refine LeO.ite ?_ ?_)
      | (with_reducible refine LeO.bind ?_ (fun _ => ?_))
      | exact spec_l1Num.mono _ _
      | exact LeO.none _
      | refine LeO.ite ?_ ?_
      | refine LeO.bind ?_ (fun _ => ?_)
noncomputable def spec_l1Int.F (a0 : Int) : Option (ByteArray) := lim fun k => spec_l1Int.f k a0
theorem spec_l1Int.F_lim (a0 : Int) : Lim (fun k => spec_l1Int.f k a0) (spec_l1Int.F a0) := ⟨spec_l1Int.mono a0, rfl⟩
theorem spec_l1Int.F_eq (a0 : Int) : spec_l1Int.F a0 = (if a0 < 0 then ((spec_l1Num.F (wrap64 (-a0))).bind fun t115 => (if 1 + t115.size ≤ 9223372036854775807 then (some ((⟨#[45]⟩ : ByteArray) ++ t115)) else (none))) else ((spec_l1Num.F a0).bind fun t116 => (some t116))) := by
  refine Lim.eq_ ?_
  simp only [spec_l1Int.f]
  repeat' first
  | (with_reducible exact spec_l1Num.F_lim _)
  | (with_reducible refine Lim.ite ?_ ?_)
  | (with_reducible refine Lim.bind ?_ (fun _ => ?_))
  | (with_reducible exact Lim.const _)
def spec_loRead.j0 : Nat → ByteArray → Int → Bool → Option (Int)
  | 0, _, _, _ => none
  | k + 1, x0, x3, x13 => if x13 = true then (if 1 ≤ (x0.size : Int) then ((spec_l1Read.f k (x0.extract 1 x0.size)).bind fun t118 => ((spec_l1Int.f k (wrap64 (-t118))).bind fun t119 => (if t119.toList = x0.toList then (some (wrap64 (-t118))) else (some 1000)))) else (none)) else ((spec_l1Int.f k x3).bind fun t120 => (if t120.toList = x0.toList then (some x3) else (some 1000)))
def spec_loRead.f (k : Nat) (a0 : ByteArray) : Option (Int) := (spec_l1Read.f k a0).bind fun t117 => (if (a0.size : Int) > 1 then (if 0 < (a0.size : Int) then (spec_loRead.j0 k a0 t117 ((bt a0 0) == 45)) else (none)) else (spec_loRead.j0 k a0 t117 false))
theorem spec_loRead.mono_l : ∀ k, (∀ y0 y1 y2, LeO (spec_loRead.j0 k y0 y1 y2) (spec_loRead.j0 (k + 1) y0 y1 y2))
  | 0 => fun _ _ _ r h => by simp [spec_loRead.j0] at h
  | k + 1 => by
    have ih0 := spec_loRead.mono_l k
    · intro y0 y1 y2
      unfold spec_loRead.j0
      repeat' first
      | (with_reducible exact ih0 _ _ _)
      | (with_reducible exact spec_l1Int.mono _ _)
      | (with_reducible exact spec_l1Read.mono _ _)
      | (with_reducible exact LeO.refl _)
      | (with_reducible exact LeO.none _)
      | (with_reducible refine LeO.ite ?_ ?_)
      | (with_reducible refine LeO.bind ?_ (fun _ => ?_))
      | exact ih0 _ _ _
      | exact spec_l1Int.mono _ _
      | exact spec_l1Read.mono _ _
      | exact LeO.none _
      | refine LeO.ite ?_ ?_
      | refine LeO.bind ?_ (fun _ => ?_)
theorem spec_loRead.mono : ∀ a0 k, LeO (spec_loRead.f k a0) (spec_loRead.f (k + 1) a0) := by
  intro a0 k
  have ih0 := spec_loRead.mono_l k
  unfold spec_loRead.f
  repeat' first
      | (with_reducible exact ih0 _ _ _)
      | (with_reducible exact spec_l1Int.mono _ _)
      | (with_reducible exact spec_l1Read.mono _ _)
      | (with_reducible exact LeO.refl _)
      | (with_reducible exact LeO.none _)
      | (with_reducible refine LeO.ite ?_ ?_)
      | (with_reducible refine LeO.bind ?_ (fun _ => ?_))
      | exact ih0 _ _ _
      | exact spec_l1Int.mono _ _
      | exact spec_l1Read.mono _ _
      | exact LeO.none _
      | refine LeO.ite ?_ ?_
      | refine LeO.bind ?_ (fun _ => ?_)
noncomputable def spec_loRead.J0 (x0 : ByteArray) (x3 : Int) (x13 : Bool) : Option (Int) := lim fun k => spec_loRead.j0 k x0 x3 x13
theorem spec_loRead.J0_lim (x0 : ByteArray) (x3 : Int) (x13 : Bool) : Lim (fun k => spec_loRead.j0 k x0 x3 x13) (spec_loRead.J0 x0 x3 x13) := ⟨fun k => (spec_loRead.mono_l k) x0 x3 x13, rfl⟩
noncomputable def spec_loRead.F (a0 : ByteArray) : Option (Int) := lim fun k => spec_loRead.f k a0
theorem spec_loRead.F_lim (a0 : ByteArray) : Lim (fun k => spec_loRead.f k a0) (spec_loRead.F a0) := ⟨spec_loRead.mono a0, rfl⟩
theorem spec_loRead.J0_eq (x0 : ByteArray) (x3 : Int) (x13 : Bool) : spec_loRead.J0 x0 x3 x13 = (if x13 = true then (if 1 ≤ (x0.size : Int) then ((spec_l1Read.F (x0.extract 1 x0.size)).bind fun t118 => ((spec_l1Int.F (wrap64 (-t118))).bind fun t119 => (if t119.toList = x0.toList then (some (wrap64 (-t118))) else (some 1000)))) else (none)) else ((spec_l1Int.F x3).bind fun t120 => (if t120.toList = x0.toList then (some x3) else (some 1000)))) := by
  refine Lim.succ_eq (spec_loRead.J0_lim x0 x3 x13).mon ?_
  simp only [spec_loRead.j0]
  repeat' first
  | (with_reducible exact spec_loRead.J0_lim _ _ _)
  | (with_reducible exact spec_l1Int.F_lim _)
  | (with_reducible exact spec_l1Read.F_lim _)
  | (with_reducible refine Lim.ite ?_ ?_)
  | (with_reducible refine Lim.bind ?_ (fun _ => ?_))
  | (with_reducible exact Lim.const _)
theorem spec_loRead.F_eq (a0 : ByteArray) : spec_loRead.F a0 = ((spec_l1Read.F a0).bind fun t117 => (if (a0.size : Int) > 1 then (if 0 < (a0.size : Int) then (spec_loRead.J0 a0 t117 ((bt a0 0) == 45)) else (none)) else (spec_loRead.J0 a0 t117 false))) := by
  refine Lim.eq_ ?_
  simp only [spec_loRead.f]
  repeat' first
  | (with_reducible exact spec_loRead.J0_lim _ _ _)
  | (with_reducible exact spec_l1Int.F_lim _)
  | (with_reducible exact spec_l1Read.F_lim _)
  | (with_reducible refine Lim.ite ?_ ?_)
  | (with_reducible refine Lim.bind ?_ (fun _ => ?_))
  | (with_reducible exact Lim.const _)
def spec_loAngle.f (a0 : Int) : Option (Bool) := (spec_l1In.f a0 (-90) 90).bind fun t121 => (some t121)
def spec_naName.l0 : Nat → ByteArray → Int → Option (Bool)
  | 0, _, _ => none
  | k + 1, x0, x3 => if x3 < (x0.size : Int) then (if 0 ≤ x3 then (if (bt x0 x3) < 97 then (some false) else (if (bt x0 x3) > 122 then (some false) else (spec_naName.l0 k x0 (wrap64 (x3 + 1))))) else (none)) else ((spec_l1In.f (x0.size : Int) 1 8).bind fun t122 => (some t122))
def spec_naName.f (k : Nat) (a0 : ByteArray) : Option (Bool) := spec_naName.l0 k a0 0
theorem spec_naName.mono_l : ∀ k, (∀ y0 y1, LeO (spec_naName.l0 k y0 y1) (spec_naName.l0 (k + 1) y0 y1))
  | 0 => fun _ _ r h => by simp [spec_naName.l0] at h
  | k + 1 => by
    have ih0 := spec_naName.mono_l k
    · intro y0 y1
      unfold spec_naName.l0
      repeat' first
      | (with_reducible exact ih0 _ _)
      | (with_reducible exact LeO.refl _)
      | (with_reducible exact LeO.none _)
      | (with_reducible refine LeO.ite ?_ ?_)
      | (with_reducible refine LeO.bind ?_ (fun _ => ?_))
      | exact ih0 _ _
      | exact LeO.none _
      | refine LeO.ite ?_ ?_
      | refine LeO.bind ?_ (fun _ => ?_)
theorem spec_naName.mono : ∀ a0 k, LeO (spec_naName.f k a0) (spec_naName.f (k + 1) a0) := by
  intro a0 k
  have ih0 := spec_naName.mono_l k
  unfold spec_naName.f
  repeat' first
      | (with_reducible exact ih0 _ _)
      | (with_reducible exact LeO.refl _)
      | (with_reducible exact LeO.none _)
      | (with_reducible refine LeO.ite ?_ ?_)
      | (with_reducible refine LeO.bind ?_ (fun _ => ?_))
      | exact ih0 _ _
      | exact LeO.none _
      | refine LeO.ite ?_ ?_
      | refine LeO.bind ?_ (fun _ => ?_)
noncomputable def spec_naName.L0 (x0 : ByteArray) (x3 : Int) : Option (Bool) := lim fun k => spec_naName.l0 k x0 x3
theorem spec_naName.L0_lim (x0 : ByteArray) (x3 : Int) : Lim (fun k => spec_naName.l0 k x0 x3) (spec_naName.L0 x0 x3) := ⟨fun k => (spec_naName.mono_l k) x0 x3, rfl⟩
noncomputable def spec_naName.F (a0 : ByteArray) : Option (Bool) := lim fun k => spec_naName.f k a0
theorem spec_naName.F_lim (a0 : ByteArray) : Lim (fun k => spec_naName.f k a0) (spec_naName.F a0) := ⟨spec_naName.mono a0, rfl⟩
theorem spec_naName.L0_eq (x0 : ByteArray) (x3 : Int) : spec_naName.L0 x0 x3 = (if x3 < (x0.size : Int) then (if 0 ≤ x3 then (if (bt x0 x3) < 97 then (some false) else (if (bt x0 x3) > 122 then (some false) else (spec_naName.L0 x0 (wrap64 (x3 + 1))))) else (none)) else ((spec_l1In.f (x0.size : Int) 1 8).bind fun t122 => (some t122))) := by
  refine Lim.succ_eq (spec_naName.L0_lim x0 x3).mon ?_
  simp only [spec_naName.l0]
  repeat' first
  | (with_reducible exact spec_naName.L0_lim _ _)
  | (with_reducible refine Lim.ite ?_ ?_)
  | (with_reducible refine Lim.bind ?_ (fun _ => ?_))
  | (with_reducible exact Lim.const _)
theorem spec_naName.F_eq (a0 : ByteArray) : spec_naName.F a0 = (spec_naName.L0 a0 0) := by
  refine Lim.eq_ ?_
  simp only [spec_naName.f]
  repeat' first
  | (with_reducible exact spec_naName.L0_lim _ _)
  | (with_reducible refine Lim.ite ?_ ?_)
  | (with_reducible refine Lim.bind ?_ (fun _ => ?_))
  | (with_reducible exact Lim.const _)
def spec_loFind.l0 : Nat → ByteArray → List (S40) → Int → Int → Option (Int)
  | 0, _, _, _, _ => none
  | k + 1, x1, x7, x8, x9 => if x9 < x8 then (if 0 ≤ x9 then (if x9 < (x7.length : Int) then (if ((rd_T40 x7 x9).f0).toList = x1.toList then (some x9) else (spec_loFind.l0 k x1 x7 x8 (wrap64 (x9 + 1)))) else (none)) else (none)) else (some (-1))
def spec_loFind.f (k : Nat) (l0 : List (S40)) (a1 : ByteArray) : Option (Int) := spec_loFind.l0 k a1 l0 (l0.length : Int) 0
theorem spec_loFind.mono_l : ∀ k, (∀ y0 y1 y2 y3, LeO (spec_loFind.l0 k y0 y1 y2 y3) (spec_loFind.l0 (k + 1) y0 y1 y2 y3))
  | 0 => fun _ _ _ _ r h => by simp [spec_loFind.l0] at h
  | k + 1 => by
    have ih0 := spec_loFind.mono_l k
    · intro y0 y1 y2 y3
      unfold spec_loFind.l0
      repeat' first
      | (with_reducible exact ih0 _ _ _ _)
      | (with_reducible exact LeO.refl _)
      | (with_reducible exact LeO.none _)
      | (with_reducible refine LeO.ite ?_ ?_)
      | (with_reducible refine LeO.bind ?_ (fun _ => ?_))
      | exact ih0 _ _ _ _
      | exact LeO.none _
      | refine LeO.ite ?_ ?_
      | refine LeO.bind ?_ (fun _ => ?_)
theorem spec_loFind.mono : ∀ a0 a1 k, LeO (spec_loFind.f k a0 a1) (spec_loFind.f (k + 1) a0 a1) := by
  intro a0 a1 k
  have ih0 := spec_loFind.mono_l k
  unfold spec_loFind.f
  repeat' first
      | (with_reducible exact ih0 _ _ _ _)
      | (with_reducible exact LeO.refl _)
      | (with_reducible exact LeO.none _)
      | (with_reducible refine LeO.ite ?_ ?_)
      | (with_reducible refine LeO.bind ?_ (fun _ => ?_))
      | exact ih0 _ _ _ _
      | exact LeO.none _
      | refine LeO.ite ?_ ?_
      | refine LeO.bind ?_ (fun _ => ?_)
noncomputable def spec_loFind.L0 (x1 : ByteArray) (x7 : List (S40)) (x8 : Int) (x9 : Int) : Option (Int) := lim fun k => spec_loFind.l0 k x1 x7 x8 x9
theorem spec_loFind.L0_lim (x1 : ByteArray) (x7 : List (S40)) (x8 : Int) (x9 : Int) : Lim (fun k => spec_loFind.l0 k x1 x7 x8 x9) (spec_loFind.L0 x1 x7 x8 x9) := ⟨fun k => (spec_loFind.mono_l k) x1 x7 x8 x9, rfl⟩
noncomputable def spec_loFind.F (l0 : List (S40)) (a1 : ByteArray) : Option (Int) := lim fun k => spec_loFind.f k l0 a1
theorem spec_loFind.F_lim (l0 : List (S40)) (a1 : ByteArray) : Lim (fun k => spec_loFind.f k l0 a1) (spec_loFind.F l0 a1) := ⟨spec_loFind.mono l0 a1, rfl⟩
theorem spec_loFind.L0_eq (x1 : ByteArray) (x7 : List (S40)) (x8 : Int) (x9 : Int) : spec_loFind.L0 x1 x7 x8 x9 = (if x9 < x8 then (if 0 ≤ x9 then (if x9 < (x7.length : Int) then (if ((rd_T40 x7 x9).f0).toList = x1.toList then (some x9) else (spec_loFind.L0 x1 x7 x8 (wrap64 (x9 + 1)))) else (none)) else (none)) else (some (-1))) := by
  refine Lim.succ_eq (spec_loFind.L0_lim x1 x7 x8 x9).mon ?_
  simp only [spec_loFind.l0]
  repeat' first
  | (with_reducible exact spec_loFind.L0_lim _ _ _ _)
  | (with_reducible refine Lim.ite ?_ ?_)
  | (with_reducible refine Lim.bind ?_ (fun _ => ?_))
  | (with_reducible exact Lim.const _)
theorem spec_loFind.F_eq (l0 : List (S40)) (a1 : ByteArray) : spec_loFind.F l0 a1 = (spec_loFind.L0 a1 l0 (l0.length : Int) 0) := by
  refine Lim.eq_ ?_
  simp only [spec_loFind.f]
  repeat' first
  | (with_reducible exact spec_loFind.L0_lim _ _ _ _)
  | (with_reducible refine Lim.ite ?_ ?_)
  | (with_reducible refine Lim.bind ?_ (fun _ => ?_))
  | (with_reducible exact Lim.const _)
def spec_loGood.l0 : Nat → List (S40) → List (S40) → Int → Int → Option (Bool)
  | 0, _, _, _, _ => none
  | k + 1, x0, x5, x6, x7 => if x7 < x6 then (if 0 ≤ x7 then (if x7 < (x5.length : Int) then ((spec_naName.f k ((rd_T40 x5 x7).f0)).bind fun t127 => (if t127 = true then ((spec_loAngle.f ((rd_T40 x5 x7).f1)).bind fun t128 => (if t128 = true then (if x7 > 0 then (if 0 ≤ (wrap64 (x7 - 1)) then (if (wrap64 (x7 - 1)) < (x0.length : Int) then (if ((rd_T40 x0 (wrap64 (x7 - 1))).f1) ≥ ((rd_T40 x5 x7).f1) then (some false) else (if x7 ≤ (x0.length : Int) then ((spec_loFind.f k (x0.take (x7 : Int).toNat) ((rd_T40 x5 x7).f0)).bind fun t134 => (if t134 ≥ 0 then (some false) else (spec_loGood.l0 k x0 x5 x6 (wrap64 (x7 + 1))))) else (none))) else (none)) else (none)) else (if x7 ≤ (x0.length : Int) then ((spec_loFind.f k (x0.take (x7 : Int).toNat) ((rd_T40 x5 x7).f0)).bind fun t139 => (if t139 ≥ 0 then (some false) else (spec_loGood.l0 k x0 x5 x6 (wrap64 (x7 + 1))))) else (none))) else (some false))) else (some false))) else (none)) else (none)) else (some (decide ((x0.length : Int) ≤ 8)))
def spec_loGood.f (k : Nat) (l0 : List (S40)) : Option (Bool) := spec_loGood.l0 k l0 l0 (l0.length : Int) 0
theorem spec_loGood.mono_l : ∀ k, (∀ y0 y1 y2 y3, LeO (spec_loGood.l0 k y0 y1 y2 y3) (spec_loGood.l0 (k + 1) y0 y1 y2 y3))
  | 0 => fun _ _ _ _ r h => by simp [spec_loGood.l0] at h
  | k + 1 => by
    have ih0 := spec_loGood.mono_l k
    · intro y0 y1 y2 y3
      unfold spec_loGood.l0
      repeat' first
      | (with_reducible exact ih0 _ _ _ _)
      | (with_reducible exact spec_loFind.mono _ _ _)
      | (with_reducible exact spec_naName.mono _ _)
      | (with_reducible exact LeO.refl _)
      | (with_reducible exact LeO.none _)
      | (with_reducible refine LeO.ite ?_ ?_)
      | (with_reducible refine LeO.bind ?_ (fun _ => ?_))
      | exact ih0 _ _ _ _
      | exact spec_loFind.mono _ _ _
      | exact spec_naName.mono _ _
      | exact LeO.none _
      | refine LeO.ite ?_ ?_
      | refine LeO.bind ?_ (fun _ => ?_)
theorem spec_loGood.mono : ∀ a0 k, LeO (spec_loGood.f k a0) (spec_loGood.f (k + 1) a0) := by
  intro a0 k
  have ih0 := spec_loGood.mono_l k
  unfold spec_loGood.f
  repeat' first
      | (with_reducible exact ih0 _ _ _ _)
      | (with_reducible exact spec_loFind.mono _ _ _)
      | (with_reducible exact spec_naName.mono _ _)
      | (with_reducible exact LeO.refl _)
      | (with_reducible exact LeO.none _)
      | (with_reducible refine LeO.ite ?_ ?_)
      | (with_reducible refine LeO.bind ?_ (fun _ => ?_))
      | exact ih0 _ _ _ _
      | exact spec_loFind.mono _ _ _
      | exact spec_naName.mono _ _
      | exact LeO.none _
      | refine LeO.ite ?_ ?_
      | refine LeO.bind ?_ (fun _ => ?_)
noncomputable def spec_loGood.L0 (x0 : List (S40)) (x5 : List (S40)) (x6 : Int) (x7 : Int) : Option (Bool) := lim fun k => spec_loGood.l0 k x0 x5 x6 x7
theorem spec_loGood.L0_lim (x0 : List (S40)) (x5 : List (S40)) (x6 : Int) (x7 : Int) : Lim (fun k => spec_loGood.l0 k x0 x5 x6 x7) (spec_loGood.L0 x0 x5 x6 x7) := ⟨fun k => (spec_loGood.mono_l k) x0 x5 x6 x7, rfl⟩
noncomputable def spec_loGood.F (l0 : List (S40)) : Option (Bool) := lim fun k => spec_loGood.f k l0
theorem spec_loGood.F_lim (l0 : List (S40)) : Lim (fun k => spec_loGood.f k l0) (spec_loGood.F l0) := ⟨spec_loGood.mono l0, rfl⟩
theorem spec_loGood.L0_eq (x0 : List (S40)) (x5 : List (S40)) (x6 : Int) (x7 : Int) : spec_loGood.L0 x0 x5 x6 x7 = (if x7 < x6 then (if 0 ≤ x7 then (if x7 < (x5.length : Int) then ((spec_naName.F ((rd_T40 x5 x7).f0)).bind fun t127 => (if t127 = true then ((spec_loAngle.f ((rd_T40 x5 x7).f1)).bind fun t128 => (if t128 = true then (if x7 > 0 then (if 0 ≤ (wrap64 (x7 - 1)) then (if (wrap64 (x7 - 1)) < (x0.length : Int) then (if ((rd_T40 x0 (wrap64 (x7 - 1))).f1) ≥ ((rd_T40 x5 x7).f1) then (some false) else (if x7 ≤ (x0.length : Int) then ((spec_loFind.F (x0.take (x7 : Int).toNat) ((rd_T40 x5 x7).f0)).bind fun t134 => (if t134 ≥ 0 then (some false) else (spec_loGood.L0 x0 x5 x6 (wrap64 (x7 + 1))))) else (none))) else (none)) else (none)) else (if x7 ≤ (x0.length : Int) then ((spec_loFind.F (x0.take (x7 : Int).toNat) ((rd_T40 x5 x7).f0)).bind fun t139 => (if t139 ≥ 0 then (some false) else (spec_loGood.L0 x0 x5 x6 (wrap64 (x7 + 1))))) else (none))) else (some false))) else (some false))) else (none)) else (none)) else (some (decide ((x0.length : Int) ≤ 8)))) := by
  refine Lim.succ_eq (spec_loGood.L0_lim x0 x5 x6 x7).mon ?_
  simp only [spec_loGood.l0]
  repeat' first
  | (with_reducible exact spec_loGood.L0_lim _ _ _ _)
  | (with_reducible exact spec_loFind.F_lim _ _)
  | (with_reducible exact spec_naName.F_lim _)
  | (with_reducible refine Lim.ite ?_ ?_)
  | (with_reducible refine Lim.bind ?_ (fun _ => ?_))
  | (with_reducible exact Lim.const _)
theorem spec_loGood.F_eq (l0 : List (S40)) : spec_loGood.F l0 = (spec_loGood.L0 l0 l0 (l0.length : Int) 0) := by
  refine Lim.eq_ ?_
  simp only [spec_loGood.f]
  repeat' first
  | (with_reducible exact spec_loGood.L0_lim _ _ _ _)
  | (with_reducible exact spec_loFind.F_lim _ _)
  | (with_reducible exact spec_naName.F_lim _)
  | (with_reducible refine Lim.ite ?_ ?_)
  | (with_reducible refine Lim.bind ?_ (fun _ => ?_))
  | (with_reducible exact Lim.const _)
def spec_loText.l0 : Nat → ByteArray → List (S40) → Int → Int → Option (ByteArray)
  | 0, _, _, _, _ => none
  | k + 1, x3, x6, x7, x8 => if x8 < x7 then (if 0 ≤ x8 then (if x8 < (x6.length : Int) then (if ((rd_T40 x6 x8).f0).size + 1 ≤ 9223372036854775807 then ((spec_l1Int.f k ((rd_T40 x6 x8).f1)).bind fun t142 => (if (((rd_T40 x6 x8).f0) ++ (⟨#[64]⟩ : ByteArray)).size + t142.size ≤ 9223372036854775807 then (if ((((rd_T40 x6 x8).f0) ++ (⟨#[64]⟩ : ByteArray)) ++ t142).size + 1 ≤ 9223372036854775807 then (if x3.size + (((((rd_T40 x6 x8).f0) ++ (⟨#[64]⟩ : ByteArray)) ++ t142) ++ (⟨#[59]⟩ : ByteArray)).size ≤ 9223372036854775807 then (spec_loText.l0 k (x3 ++ (((((rd_T40 x6 x8).f0) ++ (⟨#[64]⟩ : ByteArray)) ++ t142) ++ (⟨#[59]⟩ : ByteArray))) x6 x7 (wrap64 (x8 + 1))) else (none)) else (none)) else (none))) else (none)) else (none)) else (none)) else (some x3)
def spec_loText.f (k : Nat) (l0 : List (S40)) : Option (ByteArray) := spec_loText.l0 k (⟨#[]⟩ : ByteArray) l0 (l0.length : Int) 0
theorem spec_loText.mono_l : ∀ k, (∀ y0 y1 y2 y3, LeO (spec_loText.l0 k y0 y1 y2 y3) (spec_loText.l0 (k + 1) y0 y1 y2 y3))
  | 0 => fun _ _ _ _ r h => by simp [spec_loText.l0] at h
  | k + 1 => by
    have ih0 := spec_loText.mono_l k
    · intro y0 y1 y2 y3
      unfold spec_loText.l0
      repeat' first
      | (with_reducible exact ih0 _ _ _ _)
      | (with_reducible exact spec_l1Int.mono _ _)
      | (with_reducible exact LeO.refl _)
      | (with_reducible exact LeO.none _)
      | (with_reducible refine LeO.ite ?_ ?_)
      | (with_reducible refine LeO.bind ?_ (fun _ => ?_))
      | exact ih0 _ _ _ _
      | exact spec_l1Int.mono _ _
      | exact LeO.none _
      | refine LeO.ite ?_ ?_
      | refine LeO.bind ?_ (fun _ => ?_)
theorem spec_loText.mono : ∀ a0 k, LeO (spec_loText.f k a0) (spec_loText.f (k + 1) a0) := by
  intro a0 k
  have ih0 := spec_loText.mono_l k
  unfold spec_loText.f
  repeat' first
      | (with_reducible exact ih0 _ _ _ _)
      | (with_reducible exact spec_l1Int.mono _ _)
      | (with_reducible exact LeO.refl _)
      | (with_reducible exact LeO.none _)
      | (with_reducible refine LeO.ite ?_ ?_)
      | (with_reducible refine LeO.bind ?_ (fun _ => ?_))
      | exact ih0 _ _ _ _
      | exact spec_l1Int.mono _ _
      | exact LeO.none _
      | refine LeO.ite ?_ ?_
      | refine LeO.bind ?_ (fun _ => ?_)
noncomputable def spec_loText.L0 (x3 : ByteArray) (x6 : List (S40)) (x7 : Int) (x8 : Int) : Option (ByteArray) := lim fun k => spec_loText.l0 k x3 x6 x7 x8
theorem spec_loText.L0_lim (x3 : ByteArray) (x6 : List (S40)) (x7 : Int) (x8 : Int) : Lim (fun k => spec_loText.l0 k x3 x6 x7 x8) (spec_loText.L0 x3 x6 x7 x8) := ⟨fun k => (spec_loText.mono_l k) x3 x6 x7 x8, rfl⟩
noncomputable def spec_loText.F (l0 : List (S40)) : Option (ByteArray) := lim fun k => spec_loText.f k l0
theorem spec_loText.F_lim (l0 : List (S40)) : Lim (fun k => spec_loText.f k l0) (spec_loText.F l0) := ⟨spec_loText.mono l0, rfl⟩
theorem spec_loText.L0_eq (x3 : ByteArray) (x6 : List (S40)) (x7 : Int) (x8 : Int) : spec_loText.L0 x3 x6 x7 x8 = (if x8 < x7 then (if 0 ≤ x8 then (if x8 < (x6.length : Int) then (if ((rd_T40 x6 x8).f0).size + 1 ≤ 9223372036854775807 then ((spec_l1Int.F ((rd_T40 x6 x8).f1)).bind fun t142 => (if (((rd_T40 x6 x8).f0) ++ (⟨#[64]⟩ : ByteArray)).size + t142.size ≤ 9223372036854775807 then (if ((((rd_T40 x6 x8).f0) ++ (⟨#[64]⟩ : ByteArray)) ++ t142).size + 1 ≤ 9223372036854775807 then (if x3.size + (((((rd_T40 x6 x8).f0) ++ (⟨#[64]⟩ : ByteArray)) ++ t142) ++ (⟨#[59]⟩ : ByteArray)).size ≤ 9223372036854775807 then (spec_loText.L0 (x3 ++ (((((rd_T40 x6 x8).f0) ++ (⟨#[64]⟩ : ByteArray)) ++ t142) ++ (⟨#[59]⟩ : ByteArray))) x6 x7 (wrap64 (x8 + 1))) else (none)) else (none)) else (none))) else (none)) else (none)) else (none)) else (some x3)) := by
  refine Lim.succ_eq (spec_loText.L0_lim x3 x6 x7 x8).mon ?_
  simp only [spec_loText.l0]
  repeat' first
  | (with_reducible exact spec_loText.L0_lim _ _ _ _)
  | (with_reducible exact spec_l1Int.F_lim _)
  | (with_reducible refine Lim.ite ?_ ?_)
  | (with_reducible refine Lim.bind ?_ (fun _ => ?_))
  | (with_reducible exact Lim.const _)
theorem spec_loText.F_eq (l0 : List (S40)) : spec_loText.F l0 = (spec_loText.L0 (⟨#[]⟩ : ByteArray) l0 (l0.length : Int) 0) := by
  refine Lim.eq_ ?_
  simp only [spec_loText.f]
  repeat' first
  | (with_reducible exact spec_loText.L0_lim _ _ _ _)
  | (with_reducible exact spec_l1Int.F_lim _)
  | (with_reducible refine Lim.ite ?_ ?_)
  | (with_reducible refine Lim.bind ?_ (fun _ => ?_))
  | (with_reducible exact Lim.const _)
def spec_ParseLoci.l0 : Nat → ByteArray → List (S40) → List ByteArray → Int → Int → Option ((List (S40)) × Bool)
  | 0, _, _, _, _, _ => none
  | k + 1, x0, x5, x18, x19, x20 => if x20 < x19 then (if 0 ≤ x20 then (if x20 < (x18.length : Int) then ((spec_l1Split.f k (rdOf ByteArray.empty x18 x20) 64).bind fun t150 => (if (t150.length : Int) = 2 then (if 0 < (t150.length : Int) then (if 1 < (t150.length : Int) then ((spec_loRead.f k (rdOf ByteArray.empty t150 1)).bind fun t155 => (if x5.length < 5864062014805 then (spec_ParseLoci.l0 k x0 (x5 ++ [(⟨rdOf ByteArray.empty t150 0, t155⟩ : S40)]) x18 x19 (wrap64 (x20 + 1))) else (none))) else (none)) else (none)) else (some (([] : List (S40)), false)))) else (none)) else (none)) else ((spec_loGood.f k x5).bind fun t159 => (if t159 = true then ((spec_loText.f k x5).bind fun t160 => (if t160.toList = x0.toList then (some (x5, true)) else (some (([] : List (S40)), false)))) else (some (([] : List (S40)), false))))
def spec_ParseLoci.f (k : Nat) (a0 : ByteArray) : Option ((List (S40)) × Bool) := (spec_l1Split.f k a0 59).bind fun t143 => (if (t143.length : Int) > 9 then (some (([] : List (S40)), false)) else (if 0 ≤ (wrap64 ((t143.length : Int) - 1)) then (if (wrap64 ((t143.length : Int) - 1)) ≤ (t143.length : Int) then ((some (t143.take ((wrap64 ((t143.length : Int) - 1)) : Int).toNat : List ByteArray)).bind fun y146 => (spec_ParseLoci.l0 k a0 ([] : List (S40)) y146 (y146.length : Int) 0)) else (none)) else (none)))
theorem spec_ParseLoci.mono_l : ∀ k, (∀ y0 y1 y2 y3 y4, LeO (spec_ParseLoci.l0 k y0 y1 y2 y3 y4) (spec_ParseLoci.l0 (k + 1) y0 y1 y2 y3 y4))
  | 0 => fun _ _ _ _ _ r h => by simp [spec_ParseLoci.l0] at h
  | k + 1 => by
    have ih0 := spec_ParseLoci.mono_l k
    · intro y0 y1 y2 y3 y4
      unfold spec_ParseLoci.l0
      repeat' first
      | (with_reducible exact ih0 _ _ _ _ _)
      | (with_reducible exact spec_l1Split.mono _ _ _)
      | (with_reducible exact spec_loGood.mono _ _)
      | (with_reducible exact spec_loRead.mono _ _)
      | (with_reducible exact spec_loText.mono _ _)
      | (with_reducible exact LeO.refl _)
      | (with_reducible exact LeO.none _)
      | (with_reducible refine LeO.ite ?_ ?_)
      | (with_reducible refine LeO.bind ?_ (fun _ => ?_))
      | exact ih0 _ _ _ _ _
      | exact spec_l1Split.mono _ _ _
      | exact spec_loGood.mono _ _
      | exact spec_loRead.mono _ _
      | exact spec_loText.mono _ _
      | exact LeO.none _
      | refine LeO.ite ?_ ?_
      | refine LeO.bind ?_ (fun _ => ?_)
theorem spec_ParseLoci.mono : ∀ a0 k, LeO (spec_ParseLoci.f k a0) (spec_ParseLoci.f (k + 1) a0) := by
  intro a0 k
  have ih0 := spec_ParseLoci.mono_l k
  unfold spec_ParseLoci.f
  repeat' first
      | (with_reducible exact ih0 _ _ _ _ _)
      | (with_reducible exact spec_l1Split.mono _ _ _)
      | (with_reducible exact spec_loGood.mono _ _)
      | (with_reducible exact spec_loRead.mono _ _)
      | (with_reducible exact spec_loText.mono _ _)
      | (with_reducible exact LeO.refl _)
      | (with_reducible exact LeO.none _)
      | (with_reducible refine LeO.ite ?_ ?_)
      | (with_reducible refine LeO.bind ?_ (fun _ => ?_))
      | exact ih0 _ _ _ _ _
      | exact spec_l1Split.mono _ _ _
      | exact spec_loGood.mono _ _
      | exact spec_loRead.mono _ _
      | exact spec_loText.mono _ _
      | exact LeO.none _
      | refine LeO.ite ?_ ?_
      | refine LeO.bind ?_ (fun _ => ?_)
noncomputable def spec_ParseLoci.L0 (x0 : ByteArray) (x5 : List (S40)) (x18 : List ByteArray) (x19 : Int) (x20 : Int) : Option ((List (S40)) × Bool) := lim fun k => spec_ParseLoci.l0 k x0 x5 x18 x19 x20
theorem spec_ParseLoci.L0_lim (x0 : ByteArray) (x5 : List (S40)) (x18 : List ByteArray) (x19 : Int) (x20 : Int) : Lim (fun k => spec_ParseLoci.l0 k x0 x5 x18 x19 x20) (spec_ParseLoci.L0 x0 x5 x18 x19 x20) := ⟨fun k => (spec_ParseLoci.mono_l k) x0 x5 x18 x19 x20, rfl⟩
noncomputable def spec_ParseLoci.F (a0 : ByteArray) : Option ((List (S40)) × Bool) := lim fun k => spec_ParseLoci.f k a0
theorem spec_ParseLoci.F_lim (a0 : ByteArray) : Lim (fun k => spec_ParseLoci.f k a0) (spec_ParseLoci.F a0) := ⟨spec_ParseLoci.mono a0, rfl⟩
theorem spec_ParseLoci.L0_eq (x0 : ByteArray) (x5 : List (S40)) (x18 : List ByteArray) (x19 : Int) (x20 : Int) : spec_ParseLoci.L0 x0 x5 x18 x19 x20 = (if x20 < x19 then (if 0 ≤ x20 then (if x20 < (x18.length : Int) then ((spec_l1Split.F (rdOf ByteArray.empty x18 x20) 64).bind fun t150 => (if (t150.length : Int) = 2 then (if 0 < (t150.length : Int) then (if 1 < (t150.length : Int) then ((spec_loRead.F (rdOf ByteArray.empty t150 1)).bind fun t155 => (if x5.length < 5864062014805 then (spec_ParseLoci.L0 x0 (x5 ++ [(⟨rdOf ByteArray.empty t150 0, t155⟩ : S40)]) x18 x19 (wrap64 (x20 + 1))) else (none))) else (none)) else (none)) else (some (([] : List (S40)), false)))) else (none)) else (none)) else ((spec_loGood.F x5).bind fun t159 => (if t159 = true then ((spec_loText.F x5).bind fun t160 => (if t160.toList = x0.toList then (some (x5, true)) else (some (([] : List (S40)), false)))) else (some (([] : List (S40)), false))))) := by
  refine Lim.succ_eq (spec_ParseLoci.L0_lim x0 x5 x18 x19 x20).mon ?_
  simp only [spec_ParseLoci.l0]
  repeat' first
  | (with_reducible exact spec_ParseLoci.L0_lim _ _ _ _ _)
  | (with_reducible exact spec_l1Split.F_lim _ _)
  | (with_reducible exact spec_loGood.F_lim _)
  | (with_reducible exact spec_loRead.F_lim _)
  | (with_reducible exact spec_loText.F_lim _)
  | (with_reducible refine Lim.ite ?_ ?_)
  | (with_reducible refine Lim.bind ?_ (fun _ => ?_))
  | (with_reducible exact Lim.const _)
theorem spec_ParseLoci.F_eq (a0 : ByteArray) : spec_ParseLoci.F a0 = ((spec_l1Split.F a0 59).bind fun t143 => (if (t143.length : Int) > 9 then (some (([] : List (S40)), false)) else (if 0 ≤ (wrap64 ((t143.length : Int) - 1)) then (if (wrap64 ((t143.length : Int) - 1)) ≤ (t143.length : Int) then ((some (t143.take ((wrap64 ((t143.length : Int) - 1)) : Int).toNat : List ByteArray)).bind fun y146 => (spec_ParseLoci.L0 a0 ([] : List (S40)) y146 (y146.length : Int) 0)) else (none)) else (none)))) := by
  refine Lim.eq_ ?_
  simp only [spec_ParseLoci.f]
  repeat' first
  | (with_reducible exact spec_ParseLoci.L0_lim _ _ _ _ _)
  | (with_reducible exact spec_l1Split.F_lim _ _)
  | (with_reducible exact spec_loGood.F_lim _)
  | (with_reducible exact spec_loRead.F_lim _)
  | (with_reducible exact spec_loText.F_lim _)
  | (with_reducible refine Lim.ite ?_ ?_)
  | (with_reducible refine Lim.bind ?_ (fun _ => ?_))
  | (with_reducible exact Lim.const _)
def stringslite_Index.f (a0 : ByteArray) (a1 : ByteArray) : Option (Int) := if a1.size = 1 then some (Lib.indexByte a0.data.toList (a1.data.toList.getD 0 0)) else none
def stringslite_Cut.f (a0 : ByteArray) (a1 : ByteArray) : Option (ByteArray × ByteArray × Bool) := (stringslite_Index.f a0 a1).bind fun t161 => (if t161 ≥ 0 then (if 0 ≤ t161 then (if t161 ≤ (a0.size : Int) then (if 0 ≤ (wrap64 (t161 + (a1.size : Int))) then (if (wrap64 (t161 + (a1.size : Int))) ≤ (a0.size : Int) then (some (a0.extract 0 (t161 : Int).toNat, a0.extract ((wrap64 (t161 + (a1.size : Int))) : Int).toNat a0.size, true)) else (none)) else (none)) else (none)) else (none)) else (some (a0, (⟨#[]⟩ : ByteArray), false)))
def strings_Cut.f (a0 : ByteArray) (a1 : ByteArray) : Option (ByteArray × ByteArray × Bool) := (stringslite_Cut.f a0 a1).bind fun bt162 => (some (bt162.1, bt162.2.1, bt162.2.2))
def stringslite_HasSuffix.f (a0 : ByteArray) (a1 : ByteArray) : Option (Bool) := if (a0.size : Int) ≥ (a1.size : Int) then (if 0 ≤ (wrap64 ((a0.size : Int) - (a1.size : Int))) then (if (wrap64 ((a0.size : Int) - (a1.size : Int))) ≤ (a0.size : Int) then (some ((a0.extract ((wrap64 ((a0.size : Int) - (a1.size : Int))) : Int).toNat a0.size).toList == a1.toList)) else (none)) else (none)) else (some false)
def stringslite_TrimSuffix.f (a0 : ByteArray) (a1 : ByteArray) : Option (ByteArray) := (stringslite_HasSuffix.f a0 a1).bind fun t165 => (if t165 = true then (if 0 ≤ (wrap64 ((a0.size : Int) - (a1.size : Int))) then (if (wrap64 ((a0.size : Int) - (a1.size : Int))) ≤ (a0.size : Int) then (some (a0.extract 0 ((wrap64 ((a0.size : Int) - (a1.size : Int))) : Int).toNat)) else (none)) else (none)) else (some a0))
def strings_TrimSuffix.f (a0 : ByteArray) (a1 : ByteArray) : Option (ByteArray) := (stringslite_TrimSuffix.f a0 a1).bind fun t166 => (some t166)
def impl_decimal.f (a0 : ByteArray) : Option (Int × Bool) := if a0.size ≤ 281474976710656 then some (match Lib.atoiAll a0.data.toList with | .ok v => if Lib.itoa v = a0.data.toList then (v, true) else (0, false) | _ => (0, false)) else none
def impl_within.f (a0 : Int) (a1 : Int) (a2 : Int) : Option (Bool) := if a0 ≥ a1 then (some (decide (a0 ≤ a2))) else (some false)
def impl_isAngle.f (a0 : Int) : Option (Bool) := (impl_within.f a0 (-90) 90).bind fun t167 => (some t167)
def stringslite_IndexByte.f (a0 : ByteArray) (a1 : Int) : Option (Int) := some (Lib.indexByte a0.data.toList a1.toNat.toUInt8)
def strings_IndexByte.f (a0 : ByteArray) (a1 : Int) : Option (Int) := (stringslite_IndexByte.f a0 a1).bind fun t168 => (some t168)
def impl_hasOnly.l0 : Nat → ByteArray → ByteArray → Int → Int → Option (Bool)
  | 0, _, _, _, _ => none
  | k + 1, x0, x1, x7, x8 => if x8 < x7 then (if 0 ≤ x8 then (if x8 < (x0.size : Int) then ((strings_IndexByte.f x1 (bt x0 x8)).bind fun t169 => (if t169 < 0 then (some false) else (impl_hasOnly.l0 k x0 x1 x7 (wrap64 (x8 + 1))))) else (none)) else (none)) else (some true)
def impl_hasOnly.f (k : Nat) (a0 : ByteArray) (a1 : ByteArray) : Option (Bool) := impl_hasOnly.l0 k a0 a1 (a0.size : Int) 0
theorem impl_hasOnly.mono_l : ∀ k, (∀ y0 y1 y2 y3, LeO (impl_hasOnly.l0 k y0 y1 y2 y3) (impl_hasOnly.l0 (k + 1) y0 y1 y2 y3))
  | 0 => fun _ _ _ _ r h => by simp [impl_hasOnly.l0] at h
  | k + 1 => by
    have ih0 := impl_hasOnly.mono_l k
    · intro y0 y1 y2 y3
      unfold impl_hasOnly.l0
      repeat' first
      | (with_reducible exact ih0 _ _ _ _)
      | (with_reducible exact LeO.refl _)
      | (with_reducible exact LeO.none _)
      | (with_reducible refine LeO.ite ?_ ?_)
      | (with_reducible refine LeO.bind ?_ (fun _ => ?_))
      | exact ih0 _ _ _ _
      | exact LeO.none _
      | refine LeO.ite ?_ ?_
      | refine LeO.bind ?_ (fun _ => ?_)
theorem impl_hasOnly.mono : ∀ a0 a1 k, LeO (impl_hasOnly.f k a0 a1) (impl_hasOnly.f (k + 1) a0 a1) := by
  intro a0 a1 k
  have ih0 := impl_hasOnly.mono_l k
  unfold impl_hasOnly.f
  repeat' first
      | (with_reducible exact ih0 _ _ _ _)
      | (with_reducible exact LeO.refl _)
      | (with_reducible exact LeO.none _)
      | (with_reducible refine LeO.ite ?_ ?_)
      | (with_reducible refine LeO.bind ?_ (fun _ => ?_))
      | exact ih0 _ _ _ _
      | exact LeO.none _
      | refine LeO.ite ?_ ?_
      | refine LeO.bind ?_ (fun _ => ?_)
noncomputable def impl_hasOnly.L0 (x0 : ByteArray) (x1 : ByteArray) (x7 : Int) (x8 : Int) : Option (Bool) := lim fun k => impl_hasOnly.l0 k x0 x1 x7 x8
theorem impl_hasOnly.L0_lim (x0 : ByteArray) (x1 : ByteArray) (x7 : Int) (x8 : Int) : Lim (fun k => impl_hasOnly.l0 k x0 x1 x7 x8) (impl_hasOnly.L0 x0 x1 x7 x8) := ⟨fun k => (impl_hasOnly.mono_l k) x0 x1 x7 x8, rfl⟩
noncomputable def impl_hasOnly.F (a0 : ByteArray) (a1 : ByteArray) : Option (Bool) := lim fun k => impl_hasOnly.f k a0 a1
theorem impl_hasOnly.F_lim (a0 : ByteArray) (a1 : ByteArray) : Lim (fun k => impl_hasOnly.f k a0 a1) (impl_hasOnly.F a0 a1) := ⟨impl_hasOnly.mono a0 a1, rfl⟩
theorem impl_hasOnly.L0_eq (x0 : ByteArray) (x1 : ByteArray) (x7 : Int) (x8 : Int) : impl_hasOnly.L0 x0 x1 x7 x8 = (if x8 < x7 then (if 0 ≤ x8 then (if x8 < (x0.size : Int) then ((strings_IndexByte.f x1 (bt x0 x8)).bind fun t169 => (if t169 < 0 then (some false) else (impl_hasOnly.L0 x0 x1 x7 (wrap64 (x8 + 1))))) else (none)) else (none)) else (some true)) := by
  refine Lim.succ_eq (impl_hasOnly.L0_lim x0 x1 x7 x8).mon ?_
  simp only [impl_hasOnly.l0]
  repeat' first
  | (with_reducible exact impl_hasOnly.L0_lim _ _ _ _)
  | (with_reducible refine Lim.ite ?_ ?_)
  | (with_reducible refine Lim.bind ?_ (fun _ => ?_))
  | (with_reducible exact Lim.const _)
theorem impl_hasOnly.F_eq (a0 : ByteArray) (a1 : ByteArray) : impl_hasOnly.F a0 a1 = (impl_hasOnly.L0 a0 a1 (a0.size : Int) 0) := by
  refine Lim.eq_ ?_
  simp only [impl_hasOnly.f]
  repeat' first
  | (with_reducible exact impl_hasOnly.L0_lim _ _ _ _)
  | (with_reducible refine Lim.ite ?_ ?_)
  | (with_reducible refine Lim.bind ?_ (fun _ => ?_))
  | (with_reducible exact Lim.const _)
def impl_isWordOf.f (k : Nat) (a0 : ByteArray) (a1 : ByteArray) : Option (Bool) := (impl_within.f (a0.size : Int) 1 8).bind fun t170 => (if t170 = true then ((impl_hasOnly.f k a0 a1).bind fun t171 => (some t171)) else (some false))
theorem impl_isWordOf.mono : ∀ a0 a1 k, LeO (impl_isWordOf.f k a0 a1) (impl_isWordOf.f (k + 1) a0 a1) := by
  intro a0 a1 k
  unfold impl_isWordOf.f
  repeat' first
      | (with_reducible exact impl_hasOnly.mono _ _ _)
      | (with_reducible exact LeO.refl _)
      | (with_reducible exact LeO.none _)
      | (with_reducible refine LeO.ite ?_ ?_)
      | (with_reducible refine LeO.bind ?_ (fun _ => ?_))
      | exact impl_hasOnly.mono _ _ _
      | exact LeO.none _
      | refine LeO.ite ?_ ?_
      | refine LeO.bind ?_ (fun _ => ?_)
noncomputable def impl_isWordOf.F (a0 : ByteArray) (a1 : ByteArray) : Option (Bool) := lim fun k => impl_isWordOf.f k a0 a1
theorem impl_isWordOf.F_lim (a0 : ByteArray) (a1 : ByteArray) : Lim (fun k => impl_isWordOf.f k a0 a1) (impl_isWordOf.F a0 a1) := ⟨impl_isWordOf.mono a0 a1, rfl⟩
theorem impl_isWordOf.F_eq (a0 : ByteArray) (a1 : ByteArray) : impl_isWordOf.F a0 a1 = ((impl_within.f (a0.size : Int) 1 8).bind fun t170 => (if t170 = true then ((impl_hasOnly.F a0 a1).bind fun t171 => (some t171)) else (some false))) := by
  refine Lim.eq_ ?_
  simp only [impl_isWordOf.f]
  repeat' first
  | (with_reducible exact impl_hasOnly.F_lim _ _)
  | (with_reducible refine Lim.ite ?_ ?_)
  | (with_reducible refine Lim.bind ?_ (fun _ => ?_))
  | (with_reducible exact Lim.const _)
def impl_locusOf_1.f (a0_0 : ByteArray) (a0_1 : Int) (a1_0 : ByteArray) : Option (Bool) := some (a0_0.toList == a1_0.toList)
def slices_IndexFunc_Locus_impl_locusOf_1.l0 : Nat → List (S40) → Int → Int → ByteArray → Option (Int)
  | 0, _, _, _, _ => none
  | k + 1, x0, x7, x8, x39000 => if x8 < x7 then (if 0 ≤ x8 then (if x8 < (x0.length : Int) then ((impl_locusOf_1.f ((rd_T40 x0 x8).f0) ((rd_T40 x0 x8).f1) x39000).bind fun t174 => (if t174 = true then (some x8) else (slices_IndexFunc_Locus_impl_locusOf_1.l0 k x0 x7 (wrap64 (x8 + 1)) x39000))) else (none)) else (none)) else (some (-1))
def slices_IndexFunc_Locus_impl_locusOf_1.f (k : Nat) (l0 : List (S40)) (a1_0 : ByteArray) : Option (Int) := slices_IndexFunc_Locus_impl_locusOf_1.l0 k l0 (l0.length : Int) 0 a1_0
theorem slices_IndexFunc_Locus_impl_locusOf_1.mono_l : ∀ k, (∀ y0 y1 y2 y3, LeO (slices_IndexFunc_Locus_impl_locusOf_1.l0 k y0 y1 y2 y3) (slices_IndexFunc_Locus_impl_locusOf_1.l0 (k + 1) y0 y1 y2 y3))
  | 0 => fun _ _ _ _ r h => by simp [slices_IndexFunc_Locus_impl_locusOf_1.l0] at h
  | k + 1 => by
    have ih0 := slices_IndexFunc_Locus_impl_locusOf_1.mono_l k
    · intro y0 y1 y2 y3
      unfold slices_IndexFunc_Locus_impl_locusOf_1.l0
      repeat' first
      | (with_reducible exact ih0 _ _ _ _)
      | (with_reducible exact LeO.refl _)
      | (with_reducible exact LeO.none _)
      | (with_reducible refine LeO.ite ?_ ?_)
      | (with_reducible refine LeO.bind ?_ (fun _ => ?_))
      | exact ih0 _ _ _ _
      | exact LeO.none _
      | refine LeO.ite ?_ ?_
      | refine LeO.bind ?_ (fun _ => ?_)
theorem slices_IndexFunc_Locus_impl_locusOf_1.mono : ∀ a0 a1 k, LeO (slices_IndexFunc_Locus_impl_locusOf_1.f k a0 a1) (slices_IndexFunc_Locus_impl_locusOf_1.f (k + 1) a0 a1) := by
  intro a0 a1 k
  have ih0 := slices_IndexFunc_Locus_impl_locusOf_1.mono_l k
  unfold slices_IndexFunc_Locus_impl_locusOf_1.f
  repeat' first
      | (with_reducible exact ih0 _ _ _ _)
      | (with_reducible exact LeO.refl _)
      | (with_reducible exact LeO.none _)
      | (with_reducible refine LeO.ite ?_ ?_)
      | (with_reducible refine LeO.bind ?_ (fun _ => ?_))
      | exact ih0 _ _ _ _
      | exact LeO.none _
      | refine LeO.ite ?_ ?_
      | refine LeO.bind ?_ (fun _ => ?_)
noncomputable def slices_IndexFunc_Locus_impl_locusOf_1.L0 (x0 : List (S40)) (x7 : Int) (x8 : Int) (x39000 : ByteArray) : Option (Int) := lim fun k => slices_IndexFunc_Locus_impl_locusOf_1.l0 k x0 x7 x8 x39000
theorem slices_IndexFunc_Locus_impl_locusOf_1.L0_lim (x0 : List (S40)) (x7 : Int) (x8 : Int) (x39000 : ByteArray) : Lim (fun k => slices_IndexFunc_Locus_impl_locusOf_1.l0 k x0 x7 x8 x39000) (slices_IndexFunc_Locus_impl_locusOf_1.L0 x0 x7 x8 x39000) := ⟨fun k => (slices_IndexFunc_Locus_impl_locusOf_1.mono_l k) x0 x7 x8 x39000, rfl⟩
noncomputable def slices_IndexFunc_Locus_impl_locusOf_1.F (l0 : List (S40)) (a1_0 : ByteArray) : Option (Int) := lim fun k => slices_IndexFunc_Locus_impl_locusOf_1.f k l0 a1_0
theorem slices_IndexFunc_Locus_impl_locusOf_1.F_lim (l0 : List (S40)) (a1_0 : ByteArray) : Lim (fun k => slices_IndexFunc_Locus_impl_locusOf_1.f k l0 a1_0) (slices_IndexFunc_Locus_impl_locusOf_1.F l0 a1_0) := ⟨slices_IndexFunc_Locus_impl_locusOf_1.mono l0 a1_0, rfl⟩
theorem slices_IndexFunc_Locus_impl_locusOf_1.L0_eq (x0 : List (S40)) (x7 : Int) (x8 : Int) (x39000 : ByteArray) : slices_IndexFunc_Locus_impl_locusOf_1.L0 x0 x7 x8 x39000 = (if x8 < x7 then (if 0 ≤ x8 then (if x8 < (x0.length : Int) then ((impl_locusOf_1.f ((rd_T40 x0 x8).f0) ((rd_T40 x0 x8).f1) x39000).bind fun t174 => (if t174 = true then (some x8) else (slices_IndexFunc_Locus_impl_locusOf_1.L0 x0 x7 (wrap64 (x8 + 1)) x39000))) else (none)) else (none)) else (some (-1))) := by
  refine Lim.succ_eq (slices_IndexFunc_Locus_impl_locusOf_1.L0_lim x0 x7 x8 x39000).mon ?_
  simp only [slices_IndexFunc_Locus_impl_locusOf_1.l0]
  repeat' first
  | (with_reducible exact slices_IndexFunc_Locus_impl_locusOf_1.L0_lim _ _ _ _)
  | (with_reducible refine Lim.ite ?_ ?_)
  | (with_reducible refine Lim.bind ?_ (fun _ => ?_))
  | (with_reducible exact Lim.const _)
theorem slices_IndexFunc_Locus_impl_locusOf_1.F_eq (l0 : List (S40)) (a1_0 : ByteArray) : slices_IndexFunc_Locus_impl_locusOf_1.F l0 a1_0 = (slices_IndexFunc_Locus_impl_locusOf_1.L0 l0 (l0.length : Int) 0 a1_0) := by
  refine Lim.eq_ ?_
  simp only [slices_IndexFunc_Locus_impl_locusOf_1.f]
  repeat' first
  | (with_reducible exact slices_IndexFunc_Locus_impl_locusOf_1.L0_lim _ _ _ _)
  | (with_reducible refine Lim.ite ?_ ?_)
  | (with_reducible refine Lim.bind ?_ (fun _ => ?_))
  | (with_reducible exact Lim.const _)
def impl_locusOf.f (k : Nat) (l0 : List (S40)) (a1 : ByteArray) : Option (Int) := (slices_IndexFunc_Locus_impl_locusOf_1.f k l0 a1).bind fun t176 => (some t176)
theorem impl_locusOf.mono : ∀ a0 a1 k, LeO (impl_locusOf.f k a0 a1) (impl_locusOf.f (k + 1) a0 a1) := by
  intro a0 a1 k
  unfold impl_locusOf.f
  repeat' first
      | (with_reducible exact slices_IndexFunc_Locus_impl_locusOf_1.mono _ _ _)
      | (with_reducible exact LeO.refl _)
      | (with_reducible exact LeO.none _)
      | (with_reducible refine LeO.ite ?_ ?_)
      | (with_reducible refine LeO.bind ?_ (fun _ => ?_))
      | exact slices_IndexFunc_Locus_impl_locusOf_1.mono _ _ _
      | exact LeO.none _
      | refine LeO.ite ?_ ?_
      | refine LeO.bind ?_ (fun _ => ?_)
noncomputable def impl_locusOf.F (l0 : List (S40)) (a1 : ByteArray) : Option (Int) := lim fun k => impl_locusOf.f k l0 a1
theorem impl_locusOf.F_lim (l0 : List (S40)) (a1 : ByteArray) : Lim (fun k => impl_locusOf.f k l0 a1) (impl_locusOf.F l0 a1) := ⟨impl_locusOf.mono l0 a1, rfl⟩
theorem impl_locusOf.F_eq (l0 : List (S40)) (a1 : ByteArray) : impl_locusOf.F l0 a1 = ((slices_IndexFunc_Locus_impl_locusOf_1.F l0 a1).bind fun t176 => (some t176)) := by
  refine Lim.eq_ ?_
  simp only [impl_locusOf.f]
  repeat' first
  | (with_reducible exact slices_IndexFunc_Locus_impl_locusOf_1.F_lim _ _)
  | (with_reducible refine Lim.ite ?_ ?_)
  | (with_reducible refine Lim.bind ?_ (fun _ => ?_))
  | (with_reducible exact Lim.const _)
def impl_AreLoci.l0 : Nat → List (S40) → List (S40) → Int → Int → Option (Bool)
  | 0, _, _, _, _ => none
  | k + 1, x0, x5, x6, x7 => if x7 < x6 then (if 0 ≤ x7 then (if x7 < (x5.length : Int) then ((impl_isWordOf.f k ((rd_T40 x5 x7).f0) (⟨#[97, 98, 99, 100, 101, 102, 103, 104, 105, 106, 107, 108, 109, 110, 111, 112, 113, 114, 115, 116, 117, 118, 119, 120, 121, 122]⟩ : ByteArray)).bind fun t179 => (if t179 = true then ((impl_isAngle.f ((rd_T40 x5 x7).f1)).bind fun t180 => (if t180 = true then (if x7 > 0 then (if 0 ≤ (wrap64 (x7 - 1)) then (if (wrap64 (x7 - 1)) < (x0.length : Int) then (if ((rd_T40 x5 x7).f1) ≤ ((rd_T40 x0 (wrap64 (x7 - 1))).f1) then (some false) else (if x7 ≤ (x0.length : Int) then ((impl_locusOf.f k (x0.take (x7 : Int).toNat) ((rd_T40 x5 x7).f0)).bind fun t186 => (if t186 ≥ 0 then (some false) else (impl_AreLoci.l0 k x0 x5 x6 (wrap64 (x7 + 1))))) else (none))) else (none)) else (none)) else (if x7 ≤ (x0.length : Int) then ((impl_locusOf.f k (x0.take (x7 : Int).toNat) ((rd_T40 x5 x7).f0)).bind fun t191 => (if t191 ≥ 0 then (some false) else (impl_AreLoci.l0 k x0 x5 x6 (wrap64 (x7 + 1))))) else (none))) else (some false))) else (some false))) else (none)) else (none)) else (some (decide ((x0.length : Int) ≤ 8)))
def impl_AreLoci.f (k : Nat) (l0 : List (S40)) : Option (Bool) := impl_AreLoci.l0 k l0 l0 (l0.length : Int) 0
theorem impl_AreLoci.mono_l : ∀ k, (∀ y0 y1 y2 y3, LeO (impl_AreLoci.l0 k y0 y1 y2 y3) (impl_AreLoci.l0 (k + 1) y0 y1 y2 y3))
  | 0 => fun _ _ _ _ r h => by simp [impl_AreLoci.l0] at h
  | k + 1 => by
    have ih0 := impl_AreLoci.mono_l k
    · intro y0 y1 y2 y3
      unfold impl_AreLoci.l0
      repeat' first
      | (with_reducible exact ih0 _ _ _ _)
      | (with_reducible exact impl_isWordOf.mono _ _ _)
      | (with_reducible exact impl_locusOf.mono _ _ _)
      | (with_reducible exact LeO.refl _)
      | (with_reducible exact LeO.none _)
      | (with_reducible refine LeO.ite ?_ ?_)
      | (with_reducible refine LeO.bind ?_ (fun _ => ?_))
      | exact ih0 _ _ _ _
      | exact impl_isWordOf.mono _ _ _
      | exact impl_locusOf.mono _ _ _
      | exact LeO.none _
      | refine LeO.ite ?_ ?_
      | refine LeO.bind ?_ (fun _ => ?_)
theorem impl_AreLoci.mono : ∀ a0 k, LeO (impl_AreLoci.f k a0) (impl_AreLoci.f (k + 1) a0) := by
  intro a0 k
  have ih0 := impl_AreLoci.mono_l k
  unfold impl_AreLoci.f
  repeat' first
      | (with_reducible exact ih0 _ _ _ _)
      | (with_reducible exact impl_isWordOf.mono _ _ _)
      | (with_reducible exact impl_locusOf.mono _ _ _)
      | (with_reducible exact LeO.refl _)
      | (with_reducible exact LeO.none _)
      | (with_reducible refine LeO.ite ?_ ?_)
      | (with_reducible refine LeO.bind ?_ (fun _ => ?_))
      | exact ih0 _ _ _ _
      | exact impl_isWordOf.mono _ _ _
      | exact impl_locusOf.mono _ _ _
      | exact LeO.none _
      | refine LeO.ite ?_ ?_
      | refine LeO.bind ?_ (fun _ => ?_)
noncomputable def impl_AreLoci.L0 (x0 : List (S40)) (x5 : List (S40)) (x6 : Int) (x7 : Int) : Option (Bool) := lim fun k => impl_AreLoci.l0 k x0 x5 x6 x7
theorem impl_AreLoci.L0_lim (x0 : List (S40)) (x5 : List (S40)) (x6 : Int) (x7 : Int) : Lim (fun k => impl_AreLoci.l0 k x0 x5 x6 x7) (impl_AreLoci.L0 x0 x5 x6 x7) := ⟨fun k => (impl_AreLoci.mono_l k) x0 x5 x6 x7, rfl⟩
noncomputable def impl_AreLoci.F (l0 : List (S40)) : Option (Bool) := lim fun k => impl_AreLoci.f k l0
theorem impl_AreLoci.F_lim (l0 : List (S40)) : Lim (fun k => impl_AreLoci.f k l0) (impl_AreLoci.F l0) := ⟨impl_AreLoci.mono l0, rfl⟩
theorem impl_AreLoci.L0_eq (x0 : List (S40)) (x5 : List (S40)) (x6 : Int) (x7 : Int) : impl_AreLoci.L0 x0 x5 x6 x7 = (if x7 < x6 then (if 0 ≤ x7 then (if x7 < (x5.length : Int) then ((impl_isWordOf.F ((rd_T40 x5 x7).f0) (⟨#[97, 98, 99, 100, 101, 102, 103, 104, 105, 106, 107, 108, 109, 110, 111, 112, 113, 114, 115, 116, 117, 118, 119, 120, 121, 122]⟩ : ByteArray)).bind fun t179 => (if t179 = true then ((impl_isAngle.f ((rd_T40 x5 x7).f1)).bind fun t180 => (if t180 = true then (if x7 > 0 then (if 0 ≤ (wrap64 (x7 - 1)) then (if (wrap64 (x7 - 1)) < (x0.length : Int) then (if ((rd_T40 x5 x7).f1) ≤ ((rd_T40 x0 (wrap64 (x7 - 1))).f1) then (some false) else (if x7 ≤ (x0.length : Int) then ((impl_locusOf.F (x0.take (x7 : Int).toNat) ((rd_T40 x5 x7).f0)).bind fun t186 => (if t186 ≥ 0 then (some false) else (impl_AreLoci.L0 x0 x5 x6 (wrap64 (x7 + 1))))) else (none))) else (none)) else (none)) else (if x7 ≤ (x0.length : Int) then ((impl_locusOf.F (x0.take (x7 : Int).toNat) ((rd_T40 x5 x7).f0)).bind fun t191 => (if t191 ≥ 0 then (some false) else (impl_AreLoci.L0 x0 x5 x6 (wrap64 (x7 + 1))))) else (none))) else (some false))) else (some false))) else (none)) else (none)) else (some (decide ((x0.length : Int) ≤ 8)))) := by
  refine Lim.succ_eq (impl_AreLoci.L0_lim x0 x5 x6 x7).mon ?_
  simp only [impl_AreLoci.l0]
  repeat' first
  | (with_reducible exact impl_AreLoci.L0_lim _ _ _ _)
  | (with_reducible exact impl_isWordOf.F_lim _ _)
  | (with_reducible exact impl_locusOf.F_lim _ _)
  | (with_reducible refine Lim.ite ?_ ?_)
  | (with_reducible refine Lim.bind ?_ (fun _ => ?_))
  | (with_reducible exact Lim.const _)
theorem impl_AreLoci.F_eq (l0 : List (S40)) : impl_AreLoci.F l0 = (impl_AreLoci.L0 l0 l0 (l0.length : Int) 0) := by
  refine Lim.eq_ ?_
  simp only [impl_AreLoci.f]
  repeat' first
  | (with_reducible exact impl_AreLoci.L0_lim _ _ _ _)
  | (with_reducible exact impl_isWordOf.F_lim _ _)
  | (with_reducible exact impl_locusOf.F_lim _ _)
  | (with_reducible refine Lim.ite ?_ ?_)
  | (with_reducible refine Lim.bind ?_ (fun _ => ?_))
  | (with_reducible exact Lim.const _)
def strconv_Itoa.f (a0 : Int) : Option (ByteArray) := if -9223372036854775808 ≤ a0 ∧ a0 ≤ 9223372036854775807 then some ⟨(Lib.itoa a0).toArray⟩ else none
def impl_lociText.l0 : Nat → ByteArray → List (S40) → Int → Int → Option (ByteArray)
  | 0, _, _, _, _ => none
  | k + 1, x3, x6, x7, x8 => if x8 < x7 then (if 0 ≤ x8 then (if x8 < (x6.length : Int) then (if ((rd_T40 x6 x8).f0).size + 1 ≤ 9223372036854775807 then ((strconv_Itoa.f ((rd_T40 x6 x8).f1)).bind fun t194 => (if (((rd_T40 x6 x8).f0) ++ (⟨#[64]⟩ : ByteArray)).size + t194.size ≤ 9223372036854775807 then (if ((((rd_T40 x6 x8).f0) ++ (⟨#[64]⟩ : ByteArray)) ++ t194).size + 1 ≤ 9223372036854775807 then (if x3.size + (((((rd_T40 x6 x8).f0) ++ (⟨#[64]⟩ : ByteArray)) ++ t194) ++ (⟨#[59]⟩ : ByteArray)).size ≤ 9223372036854775807 then (impl_lociText.l0 k (x3 ++ (((((rd_T40 x6 x8).f0) ++ (⟨#[64]⟩ : ByteArray)) ++ t194) ++ (⟨#[59]⟩ : ByteArray))) x6 x7 (wrap64 (x8 + 1))) else (none)) else (none)) else (none))) else (none)) else (none)) else (none)) else (some x3)
def impl_lociText.f (k : Nat) (l0 : List (S40)) : Option (ByteArray) := impl_lociText.l0 k (⟨#[]⟩ : ByteArray) l0 (l0.length : Int) 0
theorem impl_lociText.mono_l : ∀ k, (∀ y0 y1 y2 y3, LeO (impl_lociText.l0 k y0 y1 y2 y3) (impl_lociText.l0 (k + 1) y0 y1 y2 y3))
  | 0 => fun _ _ _ _ r h => by simp [impl_lociText.l0] at h
  | k + 1 => by
    have ih0 := impl_lociText.mono_l k
    · intro y0 y1 y2 y3
      unfold impl_lociText.l0
      repeat' first
      | (with_reducible exact ih0 _ _ _ _)
      | (with_reducible exact LeO.refl _)
      | (with_reducible exact LeO.none _)
      | (with_reducible refine LeO.ite ?_ ?_)
      | (with_reducible refine LeO.bind ?_ (fun _ => ?_))
      | exact ih0 _ _ _ _
      | exact LeO.none _
      | refine LeO.ite ?_ ?_
      | refine LeO.bind ?_ (fun _ => ?_)
theorem impl_lociText.mono : ∀ a0 k, LeO (impl_lociText.f k a0) (impl_lociText.f (k + 1) a0) := by
  intro a0 k
  have ih0 := impl_lociText.mono_l k
  unfold impl_lociText.f
  repeat' first
      | (with_reducible exact ih0 _ _ _ _)
      | (with_reducible exact LeO.refl _)
      | (with_reducible exact LeO.none _)
      | (with_reducible refine LeO.ite ?_ ?_)
      | (with_reducible refine LeO.bind ?_ (fun _ => ?_))
      | exact ih0 _ _ _ _
      | exact LeO.none _
      | refine LeO.ite ?_ ?_
      | refine LeO.bind ?_ (fun _ => ?_)
noncomputable def impl_lociText.L0 (x3 : ByteArray) (x6 : List (S40)) (x7 : Int) (x8 : Int) : Option (ByteArray) := lim fun k => impl_lociText.l0 k x3 x6 x7 x8
theorem impl_lociText.L0_lim (x3 : ByteArray) (x6 : List (S40)) (x7 : Int) (x8 : Int) : Lim (fun k => impl_lociText.l0 k x3 x6 x7 x8) (impl_lociText.L0 x3 x6 x7 x8) := ⟨fun k => (impl_lociText.mono_l k) x3 x6 x7 x8, rfl⟩
noncomputable def impl_lociText.F (l0 : List (S40)) : Option (ByteArray) := lim fun k => impl_lociText.f k l0
theorem impl_lociText.F_lim (l0 : List (S40)) : Lim (fun k => impl_lociText.f k l0) (impl_lociText.F l0) := ⟨impl_lociText.mono l0, rfl⟩
theorem impl_lociText.L0_eq (x3 : ByteArray) (x6 : List (S40)) (x7 : Int) (x8 : Int) : impl_lociText.L0 x3 x6 x7 x8 = (if x8 < x7 then (if 0 ≤ x8 then (if x8 < (x6.length : Int) then (if ((rd_T40 x6 x8).f0).size + 1 ≤ 9223372036854775807 then ((strconv_Itoa.f ((rd_T40 x6 x8).f1)).bind fun t194 => (if (((rd_T40 x6 x8).f0) ++ (⟨#[64]⟩ : ByteArray)).size + t194.size ≤ 9223372036854775807 then (if ((((rd_T40 x6 x8).f0) ++ (⟨#[64]⟩ : ByteArray)) ++ t194).size + 1 ≤ 9223372036854775807 then (if x3.size + (((((rd_T40 x6 x8).f0) ++ (⟨#[64]⟩ : ByteArray)) ++ t194) ++ (⟨#[59]⟩ : ByteArray)).size ≤ 9223372036854775807 then (impl_lociText.L0 (x3 ++ (((((rd_T40 x6 x8).f0) ++ (⟨#[64]⟩ : ByteArray)) ++ t194) ++ (⟨#[59]⟩ : ByteArray))) x6 x7 (wrap64 (x8 + 1))) else (none)) else (none)) else (none))) else (none)) else (none)) else (none)) else (some x3)) := by
  refine Lim.succ_eq (impl_lociText.L0_lim x3 x6 x7 x8).mon ?_
  simp only [impl_lociText.l0]
  repeat' first
  | (with_reducible exact impl_lociText.L0_lim _ _ _ _)
  | (with_reducible refine Lim.ite ?_ ?_)
  | (with_reducible refine Lim.bind ?_ (fun _ => ?_))
  | (with_reducible exact Lim.const _)
theorem impl_lociText.F_eq (l0 : List (S40)) : impl_lociText.F l0 = (impl_lociText.L0 (⟨#[]⟩ : ByteArray) l0 (l0.length : Int) 0) := by
  refine Lim.eq_ ?_
  simp only [impl_lociText.f]
  repeat' first
  | (with_reducible exact impl_lociText.L0_lim _ _ _ _)
  | (with_reducible refine Lim.ite ?_ ?_)
  | (with_reducible refine Lim.bind ?_ (fun _ => ?_))
  | (with_reducible exact Lim.const _)
def strings_Index.f (a0 : ByteArray) (a1 : ByteArray) : Option (Int) := (stringslite_Index.f a0 a1).bind fun t195 => (some t195)
def impl_ParseLoci.pieces (s : ByteArray) (c : UInt8) (e : Nat) : List ByteArray := (cutsAt e c s.data.toList).map mk_
def impl_ParseLoci.one (out : List S40) (x : ByteArray) : Option (List S40) := if x.toList = [] then some out else (if 8 < out.length then some out else ((strings_TrimSuffix.f x ⟨#[59]⟩).bind fun y => (strings_Cut.f y ⟨#[64]⟩).bind fun c => (impl_decimal.f c.2.1).bind fun d => some (out ++ [⟨c.1, d.1⟩])))
def impl_ParseLoci.run : List ByteArray → List S40 → Option (List S40)
  | [], out => some out
  | x :: t, out => (impl_ParseLoci.one out x).bind fun o => impl_ParseLoci.run t o
def impl_ParseLoci.f (k : Nat) (a0 : ByteArray) : Option (List S40 × Bool) := if a0.size ≤ 1048576 then ((impl_ParseLoci.run (impl_ParseLoci.pieces a0 59 1) []).bind fun out => (impl_AreLoci.f k out).bind fun t => (if t = true then ((impl_lociText.f k out).bind fun s => (if s.toList = a0.toList then some (out, true) else some ([], false))) else some ([], false))) else none
noncomputable def impl_ParseLoci.G (a0 : ByteArray) : Option (List S40 × Bool) := if a0.size ≤ 1048576 then ((impl_ParseLoci.run (impl_ParseLoci.pieces a0 59 1) []).bind fun out => (impl_AreLoci.F out).bind fun t => (if t = true then ((impl_lociText.F out).bind fun s => (if s.toList = a0.toList then some (out, true) else some ([], false))) else some ([], false))) else none
theorem impl_ParseLoci.f_lim (a0 : ByteArray) : Lim (fun k => impl_ParseLoci.f k a0) (impl_ParseLoci.G a0) := Lim.ite (Lim.bind (Lim.const _) fun out => Lim.bind (impl_AreLoci.F_lim out) fun _ => Lim.ite (Lim.bind (impl_lociText.F_lim out) fun _ => Lim.ite (Lim.const _) (Lim.const _)) (Lim.const _)) (Lim.const _)
theorem impl_ParseLoci.mono (a0 : ByteArray) (k : Nat) : LeO (impl_ParseLoci.f k a0) (impl_ParseLoci.f (k + 1) a0) := (impl_ParseLoci.f_lim a0).mon k
noncomputable def impl_ParseLoci.F (a0 : ByteArray) : Option (List S40 × Bool) := lim fun k => impl_ParseLoci.f k a0
theorem impl_ParseLoci.F_lim (a0 : ByteArray) : Lim (fun k => impl_ParseLoci.f k a0) (impl_ParseLoci.F a0) := ⟨impl_ParseLoci.mono a0, rfl⟩
theorem impl_ParseLoci.F_eq (a0 : ByteArray) : impl_ParseLoci.F a0 = impl_ParseLoci.G a0 := (impl_ParseLoci.f_lim a0).eq
def laws_eqLocus.f (a0_0 : ByteArray) (a0_1 : Int) (a1_0 : ByteArray) (a1_1 : Int) : Option (Bool) := if a0_0.toList = a1_0.toList then (if a0_1 = a1_1 then (some true) else (some false)) else (some false)
def laws_eqLocusS.l0 : Nat → List (S40) → List (S40) → Int → Option (Bool)
  | 0, _, _, _ => none
  | k + 1, x0, x1, x5 => if x5 < (x0.length : Int) then (if 0 ≤ x5 then (if x5 < (x1.length : Int) then ((laws_eqLocus.f ((rd_T40 x0 x5).f0) ((rd_T40 x0 x5).f1) ((rd_T40 x1 x5).f0) ((rd_T40 x1 x5).f1)).bind fun t200 => (if t200 = true then (laws_eqLocusS.l0 k x0 x1 (wrap64 (x5 + 1))) else (some false))) else (none)) else (none)) else (some true)
def laws_eqLocusS.f (k : Nat) (l0 : List (S40)) (l1 : List (S40)) : Option (Bool) := if (l0.length : Int) = (l1.length : Int) then (laws_eqLocusS.l0 k l0 l1 0) else (some false)
theorem laws_eqLocusS.mono_l : ∀ k, (∀ y0 y1 y2, LeO (laws_eqLocusS.l0 k y0 y1 y2) (laws_eqLocusS.l0 (k + 1) y0 y1 y2))
  | 0 => fun _ _ _ r h => by simp [laws_eqLocusS.l0] at h
  | k + 1 => by
    have ih0 := laws_eqLocusS.mono_l k
    · intro y0 y1 y2
      unfold laws_eqLocusS.l0
      repeat' first
      | (with_reducible exact ih0 _ _ _)
      | (with_reducible exact LeO.refl _)
      | (with_reducible exact LeO.none _)
      | (with_reducible refine LeO.ite ?_ ?_)
      | (with_reducible refine LeO.bind ?_ (fun _ => ?_))
      | exact ih0 _ _ _
      | exact LeO.none _
      | refine LeO.ite ?_ ?_
      | refine LeO.bind ?_ (fun _ => ?_)
theorem laws_eqLocusS.mono : ∀ a0 a1 k, LeO (laws_eqLocusS.f k a0 a1) (laws_eqLocusS.f (k + 1) a0 a1) := by
  intro a0 a1 k
  have ih0 := laws_eqLocusS.mono_l k
  unfold laws_eqLocusS.f
  repeat' first
      | (with_reducible exact ih0 _ _ _)
      | (with_reducible exact LeO.refl _)
      | (with_reducible exact LeO.none _)
      | (with_reducible refine LeO.ite ?_ ?_)
      | (with_reducible refine LeO.bind ?_ (fun _ => ?_))
      | exact ih0 _ _ _
      | exact LeO.none _
      | refine LeO.ite ?_ ?_
      | refine LeO.bind ?_ (fun _ => ?_)
noncomputable def laws_eqLocusS.L0 (x0 : List (S40)) (x1 : List (S40)) (x5 : Int) : Option (Bool) := lim fun k => laws_eqLocusS.l0 k x0 x1 x5
theorem laws_eqLocusS.L0_lim (x0 : List (S40)) (x1 : List (S40)) (x5 : Int) : Lim (fun k => laws_eqLocusS.l0 k x0 x1 x5) (laws_eqLocusS.L0 x0 x1 x5) := ⟨fun k => (laws_eqLocusS.mono_l k) x0 x1 x5, rfl⟩
noncomputable def laws_eqLocusS.F (l0 : List (S40)) (l1 : List (S40)) : Option (Bool) := lim fun k => laws_eqLocusS.f k l0 l1
theorem laws_eqLocusS.F_lim (l0 : List (S40)) (l1 : List (S40)) : Lim (fun k => laws_eqLocusS.f k l0 l1) (laws_eqLocusS.F l0 l1) := ⟨laws_eqLocusS.mono l0 l1, rfl⟩
theorem laws_eqLocusS.L0_eq (x0 : List (S40)) (x1 : List (S40)) (x5 : Int) : laws_eqLocusS.L0 x0 x1 x5 = (if x5 < (x0.length : Int) then (if 0 ≤ x5 then (if x5 < (x1.length : Int) then ((laws_eqLocus.f ((rd_T40 x0 x5).f0) ((rd_T40 x0 x5).f1) ((rd_T40 x1 x5).f0) ((rd_T40 x1 x5).f1)).bind fun t200 => (if t200 = true then (laws_eqLocusS.L0 x0 x1 (wrap64 (x5 + 1))) else (some false))) else (none)) else (none)) else (some true)) := by
  refine Lim.succ_eq (laws_eqLocusS.L0_lim x0 x1 x5).mon ?_
  simp only [laws_eqLocusS.l0]
  repeat' first
  | (with_reducible exact laws_eqLocusS.L0_lim _ _ _)
  | (with_reducible refine Lim.ite ?_ ?_)
  | (with_reducible refine Lim.bind ?_ (fun _ => ?_))
  | (with_reducible exact Lim.const _)
theorem laws_eqLocusS.F_eq (l0 : List (S40)) (l1 : List (S40)) : laws_eqLocusS.F l0 l1 = (if (l0.length : Int) = (l1.length : Int) then (laws_eqLocusS.L0 l0 l1 0) else (some false)) := by
  refine Lim.eq_ ?_
  simp only [laws_eqLocusS.f]
  repeat' first
  | (with_reducible exact laws_eqLocusS.L0_lim _ _ _)
  | (with_reducible refine Lim.ite ?_ ?_)
  | (with_reducible refine Lim.bind ?_ (fun _ => ?_))
  | (with_reducible exact Lim.const _)
def laws_markText.l0 : Nat → Int → ByteArray → Option (ByteArray)
  | 0, _, _ => none
  | k + 1, x0, x3 => if x0 > 0 then ((some (([(wrap64 (48 + (Int.tmod x0 10))) % 256] : List Int) : List Int)).bind fun y201 => (if (strOfNums y201).size + x3.size ≤ 9223372036854775807 then (laws_markText.l0 k (wrap64 (Int.tdiv x0 10)) ((strOfNums y201) ++ x3)) else (none))) else (if 1 + x3.size ≤ 9223372036854775807 then (some ((⟨#[109]⟩ : ByteArray) ++ x3)) else (none))
def laws_markText.f (k : Nat) (a0 : Int) : Option (ByteArray) := if a0 ≤ 0 then (some (⟨#[109, 48]⟩ : ByteArray)) else (laws_markText.l0 k a0 (⟨#[]⟩ : ByteArray))
theorem laws_markText.mono_l : ∀ k, (∀ y0 y1, LeO (laws_markText.l0 k y0 y1) (laws_markText.l0 (k + 1) y0 y1))
  | 0 => fun _ _ r h => by simp [laws_markText.l0] at h
  | k + 1 => by
    have ih0 := laws_markText.mono_l k
    · intro y0 y1
      unfold laws_markText.l0
      repeat' first
      | (with_reducible exact ih0 _ _)
      | (with_reducible exact LeO.refl _)
      | (with_reducible exact LeO.none _)
      | (with_reducible refine LeO.ite ?_ ?_)
      | (with_reducible refine LeO.bind ?_ (fun _ => ?_))
      | exact ih0 _ _
      | exact LeO.none _
      | refine LeO.ite ?_ ?_
      | refine LeO.bind ?_ (fun _ => ?_)
theorem laws_markText.mono : ∀ a0 k, LeO (laws_markText.f k a0) (laws_markText.f (k + 1) a0) := by
  intro a0 k
  have ih0 := laws_markText.mono_l k
  unfold laws_markText.f
  repeat' first
      | (with_reducible exact ih0 _ _)
      | (with_reducible exact LeO.refl _)
      | (with_reducible exact LeO.none _)
      | (with_reducible refine LeO.ite ?_ ?_)
      | (with_reducible refine LeO.bind ?_ (fun _ => ?_))
      | exact ih0 _ _
      | exact LeO.none _
      | refine LeO.ite ?_ ?_
      | refine LeO.bind ?_ (fun _ => ?_)
noncomputable def laws_markText.L0 (x0 : Int) (x3 : ByteArray) : Option (ByteArray) := lim fun k => laws_markText.l0 k x0 x3
theorem laws_markText.L0_lim (x0 : Int) (x3 : ByteArray) : Lim (fun k => laws_markText.l0 k x0 x3) (laws_markText.L0 x0 x3) := ⟨fun k => (laws_markText.mono_l k) x0 x3, rfl⟩
noncomputable def laws_markText.F (a0 : Int) : Option (ByteArray) := lim fun k => laws_markText.f k a0
theorem laws_markText.F_lim (a0 : Int) : Lim (fun k => laws_markText.f k a0) (laws_markText.F a0) := ⟨laws_markText.mono a0, rfl⟩
theorem laws_markText.L0_eq (x0 : Int) (x3 : ByteArray) : laws_markText.L0 x0 x3 = (if x0 > 0 then ((some (([(wrap64 (48 + (Int.tmod x0 10))) % 256] : List Int) : List Int)).bind fun y201 => (if (strOfNums y201).size + x3.size ≤ 9223372036854775807 then (laws_markText.L0 (wrap64 (Int.tdiv x0 10)) ((strOfNums y201) ++ x3)) else (none))) else (if 1 + x3.size ≤ 9223372036854775807 then (some ((⟨#[109]⟩ : ByteArray) ++ x3)) else (none))) := by
  refine Lim.succ_eq (laws_markText.L0_lim x0 x3).mon ?_
  simp only [laws_markText.l0]
  repeat' first
  | (with_reducible exact laws_markText.L0_lim _ _)
  | (with_reducible refine Lim.ite ?_ ?_)
  | (with_reducible refine Lim.bind ?_ (fun _ => ?_))
  | (with_reducible exact Lim.const _)
theorem laws_markText.F_eq (a0 : Int) : laws_markText.F a0 = (if a0 ≤ 0 then (some (⟨#[109, 48]⟩ : ByteArray)) else (laws_markText.L0 a0 (⟨#[]⟩ : ByteArray))) := by
  refine Lim.eq_ ?_
  simp only [laws_markText.f]
  repeat' first
  | (with_reducible exact laws_markText.L0_lim _ _)
  | (with_reducible refine Lim.ite ?_ ?_)
  | (with_reducible refine Lim.bind ?_ (fun _ => ?_))
  | (with_reducible exact Lim.const _)
def laws_markLocusS.l0 : Nat → List (S40) → Int → Int → Option (Int × (List (S40)))
  | 0, _, _, _ => none
  | k + 1, x0, x1, x5 => if x5 < (x0.length : Int) then ((laws_markText.f k x1).bind fun t204 => (if 0 ≤ x5 then ((some (x0.set (x5 : Int).toNat (⟨t204, (rd_T40 x0 x5).f1⟩ : S40) : List (S40))).bind fun y205 => (laws_markLocusS.l0 k (y205.set (x5 : Int).toNat (⟨(rd_T40 y205 x5).f0, wrap64 (x1 + 1)⟩ : S40)) (wrap64 ((wrap64 (x1 + 1)) + 1)) (wrap64 (x5 + 1)))) else (none))) else (some (x1, x0))
def laws_markLocusS.f (k : Nat) (l0 : List (S40)) (a1 : Int) : Option (Int × (List (S40))) := laws_markLocusS.l0 k l0 a1 0
theorem laws_markLocusS.mono_l : ∀ k, (∀ y0 y1 y2, LeO (laws_markLocusS.l0 k y0 y1 y2) (laws_markLocusS.l0 (k + 1) y0 y1 y2))
  | 0 => fun _ _ _ r h => by simp [laws_markLocusS.l0] at h
  | k + 1 => by
    have ih0 := laws_markLocusS.mono_l k
    · intro y0 y1 y2
      unfold laws_markLocusS.l0
      repeat' first
      | (with_reducible exact ih0 _ _ _)
      | (with_reducible exact laws_markText.mono _ _)
      | (with_reducible exact LeO.refl _)
      | (with_reducible exact LeO.none _)
      | (with_reducible refine LeO.ite ?_ ?_)
      | (with_reducible refine LeO.bind ?_ (fun _ => ?_))
      | exact ih0 _ _ _
      | exact laws_markText.mono _ _
      | exact LeO.none _
      | refine LeO.ite ?_ ?_
      | refine LeO.bind ?_ (fun _ => ?_)
theorem laws_markLocusS.mono : ∀ a0 a1 k, LeO (laws_markLocusS.f k a0 a1) (laws_markLocusS.f (k + 1) a0 a1) := by
  intro a0 a1 k
  have ih0 := laws_markLocusS.mono_l k
  unfold laws_markLocusS.f
  repeat' first
      | (with_reducible exact ih0 _ _ _)
      | (with_reducible exact laws_markText.mono _ _)
      | (with_reducible exact LeO.refl _)
      | (with_reducible exact LeO.none _)
      | (with_reducible refine LeO.ite ?_ ?_)
      | (with_reducible refine LeO.bind ?_ (fun _ => ?_))
      | exact ih0 _ _ _
      | exact laws_markText.mono _ _
      | exact LeO.none _
      | refine LeO.ite ?_ ?_
      | refine LeO.bind ?_ (fun _ => ?_)
noncomputable def laws_markLocusS.L0 (x0 : List (S40)) (x1 : Int) (x5 : Int) : Option (Int × (List (S40))) := lim fun k => laws_markLocusS.l0 k x0 x1 x5
theorem laws_markLocusS.L0_lim (x0 : List (S40)) (x1 : Int) (x5 : Int) : Lim (fun k => laws_markLocusS.l0 k x0 x1 x5) (laws_markLocusS.L0 x0 x1 x5) := ⟨fun k => (laws_markLocusS.mono_l k) x0 x1 x5, rfl⟩
noncomputable def laws_markLocusS.F (l0 : List (S40)) (a1 : Int) : Option (Int × (List (S40))) := lim fun k => laws_markLocusS.f k l0 a1
theorem laws_markLocusS.F_lim (l0 : List (S40)) (a1 : Int) : Lim (fun k => laws_markLocusS.f k l0 a1) (laws_markLocusS.F l0 a1) := ⟨laws_markLocusS.mono l0 a1, rfl⟩
theorem laws_markLocusS.L0_eq (x0 : List (S40)) (x1 : Int) (x5 : Int) : laws_markLocusS.L0 x0 x1 x5 = (if x5 < (x0.length : Int) then ((laws_markText.F x1).bind fun t204 => (if 0 ≤ x5 then ((some (x0.set (x5 : Int).toNat (⟨t204, (rd_T40 x0 x5).f1⟩ : S40) : List (S40))).bind fun y205 => (laws_markLocusS.L0 (y205.set (x5 : Int).toNat (⟨(rd_T40 y205 x5).f0, wrap64 (x1 + 1)⟩ : S40)) (wrap64 ((wrap64 (x1 + 1)) + 1)) (wrap64 (x5 + 1)))) else (none))) else (some (x1, x0))) := by
  refine Lim.succ_eq (laws_markLocusS.L0_lim x0 x1 x5).mon ?_
  simp only [laws_markLocusS.l0]
  repeat' first
  | (with_reducible exact laws_markLocusS.L0_lim _ _ _)
  | (with_reducible exact laws_markText.F_lim _)
  | (with_reducible refine Lim.ite ?_ ?_)
  | (with_reducible refine Lim.bind ?_ (fun _ => ?_))
  | (with_reducible exact Lim.const _)
theorem laws_markLocusS.F_eq (l0 : List (S40)) (a1 : Int) : laws_markLocusS.F l0 a1 = (laws_markLocusS.L0 l0 a1 0) := by
  refine Lim.eq_ ?_
  simp only [laws_markLocusS.f]
  repeat' first
  | (with_reducible exact laws_markLocusS.L0_lim _ _ _)
  | (with_reducible exact laws_markText.F_lim _)
  | (with_reducible refine Lim.ite ?_ ?_)
  | (with_reducible refine Lim.bind ?_ (fun _ => ?_))
  | (with_reducible exact Lim.const _)
def laws_heldLocusS.l0 : Nat → List (S40) → Int → Int → Option (Int)
  | 0, _, _, _ => none
  | k + 1, x0, x1, x5 => if x5 < (x0.length : Int) then (if 0 ≤ x5 then ((laws_markText.f k x1).bind fun t208 => (if ((rd_T40 x0 x5).f0).toList = t208.toList then (if ((rd_T40 x0 x5).f1) = (wrap64 (x1 + 1)) then (laws_heldLocusS.l0 k x0 (wrap64 ((wrap64 (x1 + 1)) + 1)) (wrap64 (x5 + 1))) else (some (-1))) else (some (-1)))) else (none)) else (some x1)
def laws_heldLocusS.f (k : Nat) (l0 : List (S40)) (a1 : Int) : Option (Int) := laws_heldLocusS.l0 k l0 a1 0
theorem laws_heldLocusS.mono_l : ∀ k, (∀ y0 y1 y2, LeO (laws_heldLocusS.l0 k y0 y1 y2) (laws_heldLocusS.l0 (k + 1) y0 y1 y2))
  | 0 => fun _ _ _ r h => by simp [laws_heldLocusS.l0] at h
  | k + 1 => by
    have ih0 := laws_heldLocusS.mono_l k
    · intro y0 y1 y2
      unfold laws_heldLocusS.l0
      repeat' first
      | (with_reducible exact ih0 _ _ _)
      | (with_reducible exact laws_markText.mono _ _)
      | (with_reducible exact LeO.refl _)
      | (with_reducible exact LeO.none _)
      | (with_reducible refine LeO.ite ?_ ?_)
      | (with_reducible refine LeO.bind ?_ (fun _ => ?_))
      | exact ih0 _ _ _
      | exact laws_markText.mono _ _
      | exact LeO.none _
      | refine LeO.ite ?_ ?_
      | refine LeO.bind ?_ (fun _ => ?_)
theorem laws_heldLocusS.mono : ∀ a0 a1 k, LeO (laws_heldLocusS.f k a0 a1) (laws_heldLocusS.f (k + 1) a0 a1) := by
  intro a0 a1 k
  have ih0 := laws_heldLocusS.mono_l k
  unfold laws_heldLocusS.f
  repeat' first
      | (with_reducible exact ih0 _ _ _)
      | (with_reducible exact laws_markText.mono _ _)
      | (with_reducible exact LeO.refl _)
      | (with_reducible exact LeO.none _)
      | (with_reducible refine LeO.ite ?_ ?_)
      | (with_reducible refine LeO.bind ?_ (fun _ => ?_))
      | exact ih0 _ _ _
      | exact laws_markText.mono _ _
      | exact LeO.none _
      | refine LeO.ite ?_ ?_
      | refine LeO.bind ?_ (fun _ => ?_)
noncomputable def laws_heldLocusS.L0 (x0 : List (S40)) (x1 : Int) (x5 : Int) : Option (Int) := lim fun k => laws_heldLocusS.l0 k x0 x1 x5
theorem laws_heldLocusS.L0_lim (x0 : List (S40)) (x1 : Int) (x5 : Int) : Lim (fun k => laws_heldLocusS.l0 k x0 x1 x5) (laws_heldLocusS.L0 x0 x1 x5) := ⟨fun k => (laws_heldLocusS.mono_l k) x0 x1 x5, rfl⟩
noncomputable def laws_heldLocusS.F (l0 : List (S40)) (a1 : Int) : Option (Int) := lim fun k => laws_heldLocusS.f k l0 a1
theorem laws_heldLocusS.F_lim (l0 : List (S40)) (a1 : Int) : Lim (fun k => laws_heldLocusS.f k l0 a1) (laws_heldLocusS.F l0 a1) := ⟨laws_heldLocusS.mono l0 a1, rfl⟩
theorem laws_heldLocusS.L0_eq (x0 : List (S40)) (x1 : Int) (x5 : Int) : laws_heldLocusS.L0 x0 x1 x5 = (if x5 < (x0.length : Int) then (if 0 ≤ x5 then ((laws_markText.F x1).bind fun t208 => (if ((rd_T40 x0 x5).f0).toList = t208.toList then (if ((rd_T40 x0 x5).f1) = (wrap64 (x1 + 1)) then (laws_heldLocusS.L0 x0 (wrap64 ((wrap64 (x1 + 1)) + 1)) (wrap64 (x5 + 1))) else (some (-1))) else (some (-1)))) else (none)) else (some x1)) := by
  refine Lim.succ_eq (laws_heldLocusS.L0_lim x0 x1 x5).mon ?_
  simp only [laws_heldLocusS.l0]
  repeat' first
  | (with_reducible exact laws_heldLocusS.L0_lim _ _ _)
  | (with_reducible exact laws_markText.F_lim _)
  | (with_reducible refine Lim.ite ?_ ?_)
  | (with_reducible refine Lim.bind ?_ (fun _ => ?_))
  | (with_reducible exact Lim.const _)
theorem laws_heldLocusS.F_eq (l0 : List (S40)) (a1 : Int) : laws_heldLocusS.F l0 a1 = (laws_heldLocusS.L0 l0 a1 0) := by
  refine Lim.eq_ ?_
  simp only [laws_heldLocusS.f]
  repeat' first
  | (with_reducible exact laws_heldLocusS.L0_lim _ _ _)
  | (with_reducible exact laws_markText.F_lim _)
  | (with_reducible refine Lim.ite ?_ ?_)
  | (with_reducible refine Lim.bind ?_ (fun _ => ?_))
  | (with_reducible exact Lim.const _)
mutual
def laws_FnExactParseLoci.j0 : Nat → ByteArray → List (S40) → Bool → List (S40) → Bool → Option (Bool)
  | 0, _, _, _, _, _ => none
  | k + 1, x0, x3, x4, x5, x32 => if x32 = true then (some false) else ((laws_markLocusS.f k x5 1).bind fun bt219 => ((laws_heldLocusS.f k bt219.2 1).bind fun t221 => (if t221 < 0 then (some false) else (if t221 = bt219.1 then ((impl_ParseLoci.f k x0).bind fun bt222 => ((laws_eqLocusS.f k bt222.1 x3).bind fun t226 => (if t226 = true then (laws_FnExactParseLoci.j1 k bt219.2 bt219.1 (bt222.2 != x4)) else (laws_FnExactParseLoci.j1 k bt219.2 bt219.1 true)))) else (some false)))))
def laws_FnExactParseLoci.j1 : Nat → List (S40) → Int → Bool → Option (Bool)
  | 0, _, _, _ => none
  | k + 1, x5, x7, x57 => if x57 = true then (some false) else ((laws_heldLocusS.f k x5 1).bind fun t227 => (if t227 < 0 then (some false) else (if t227 = x7 then (some true) else (some false))))
end
def laws_FnExactParseLoci.f (k : Nat) (a0 : ByteArray) : Option (Bool) := if (a0.size : Int) > 1048576 then (some true) else ((spec_ParseLoci.f k a0).bind fun bt210 => ((impl_ParseLoci.f k a0).bind fun bt214 => ((laws_eqLocusS.f k bt214.1 bt210.1).bind fun t218 => (if t218 = true then (laws_FnExactParseLoci.j0 k a0 bt210.1 bt210.2 bt214.1 (bt214.2 != bt210.2)) else (laws_FnExactParseLoci.j0 k a0 bt210.1 bt210.2 bt214.1 true)))))
theorem laws_FnExactParseLoci.mono_l : ∀ k, (∀ y0 y1 y2 y3 y4, LeO (laws_FnExactParseLoci.j0 k y0 y1 y2 y3 y4) (laws_FnExactParseLoci.j0 (k + 1) y0 y1 y2 y3 y4)) ∧ (∀ y0 y1 y2, LeO (laws_FnExactParseLoci.j1 k y0 y1 y2) (laws_FnExactParseLoci.j1 (k + 1) y0 y1 y2))
  | 0 => ⟨fun _ _ _ _ _ r h => by simp [laws_FnExactParseLoci.j0] at h, fun _ _ _ r h => by simp [laws_FnExactParseLoci.j1] at h⟩
  | k + 1 => by
    obtain ⟨ih0, ih1⟩ := laws_FnExactParseLoci.mono_l k
    refine ⟨?_, ?_⟩
    · intro y0 y1 y2 y3 y4
      unfold laws_FnExactParseLoci.j0
      repeat' first
      | (with_reducible exact ih0 _ _ _ _ _)
      | (with_reducible exact ih1 _ _ _)
      | (with_reducible exact impl_ParseLoci.mono _ _)
      | (with_reducible exact laws_eqLocusS.mono _ _ _)
      | (with_reducible exact laws_heldLocusS.mono _ _ _)
      | (with_reducible exact laws_markLocusS.mono _ _ _)
      | (with_reducible exact spec_ParseLoci.mono _ _)
      | (with_reducible exact LeO.refl _)
      | (with_reducible exact LeO.none _)
      | (with_reducible refine LeO.ite ?_ ?_)
      | (with_reducible refine LeO.bind ?_ (fun _ => ?_))
      | exact ih0 _ _ _ _ _
      | exact ih1 _ _ _
      | exact impl_ParseLoci.mono _ _
      | exact laws_eqLocusS.mono _ _ _
      | exact laws_heldLocusS.mono _ _ _
      | exact laws_markLocusS.mono _ _ _
      | exact spec_ParseLoci.mono _ _
      | exact LeO.none _
      | refine LeO.ite ?_ ?_
      | refine LeO.bind ?_ (fun _ => ?_)
    · intro y0 y1 y2
      unfold laws_FnExactParseLoci.j1
      repeat' first
      | (with_reducible exact ih0 _ _ _ _ _)
      | (with_reducible exact ih1 _ _ _)
      | (with_reducible exact impl_ParseLoci.mono _ _)
      | (with_reducible exact laws_eqLocusS.mono _ _ _)
      | (with_reducible exact laws_heldLocusS.mono _ _ _)
      | (with_reducible exact laws_markLocusS.mono _ _ _)
      | (with_reducible exact spec_ParseLoci.mono _ _)
      | (with_reducible exact LeO.refl _)
      | (with_reducible exact LeO.none _)
      | (with_reducible refine LeO.ite ?_ ?_)
      | (with_reducible refine LeO.bind ?_ (fun _ => ?_))
      | exact ih0 _ _ _ _ _
      | exact ih1 _ _ _
      | exact impl_ParseLoci.mono _ _
      | exact laws_eqLocusS.mono _ _ _
      | exact laws_heldLocusS.mono _ _ _
      | exact laws_markLocusS.mono _ _ _
      | exact spec_ParseLoci.mono _ _
      | exact LeO.none _
      | refine LeO.ite ?_ ?_
      | refine LeO.bind ?_ (fun _ => ?_)
theorem laws_FnExactParseLoci.mono : ∀ a0 k, LeO (laws_FnExactParseLoci.f k a0) (laws_FnExactParseLoci.f (k + 1) a0) := by
  intro a0 k
  obtain ⟨ih0, ih1⟩ := laws_FnExactParseLoci.mono_l k
  unfold laws_FnExactParseLoci.f
  repeat' first
      | (with_reducible exact ih0 _ _ _ _ _)
      | (with_reducible exact ih1 _ _ _)
      | (with_reducible exact impl_ParseLoci.mono _ _)
      | (with_reducible exact laws_eqLocusS.mono _ _ _)
      | (with_reducible exact laws_heldLocusS.mono _ _ _)
      | (with_reducible exact laws_markLocusS.mono _ _ _)
      | (with_reducible exact spec_ParseLoci.mono _ _)
      | (with_reducible exact LeO.refl _)
      | (with_reducible exact LeO.none _)
      | (with_reducible refine LeO.ite ?_ ?_)
      | (with_reducible refine LeO.bind ?_ (fun _ => ?_))
      | exact ih0 _ _ _ _ _
      | exact ih1 _ _ _
      | exact impl_ParseLoci.mono _ _
      | exact laws_eqLocusS.mono _ _ _
      | exact laws_heldLocusS.mono _ _ _
      | exact laws_markLocusS.mono _ _ _
      | exact spec_ParseLoci.mono _ _
      | exact LeO.none _
      | refine LeO.ite ?_ ?_
      | refine LeO.bind ?_ (fun _ => ?_)
noncomputable def laws_FnExactParseLoci.J0 (x0 : ByteArray) (x3 : List (S40)) (x4 : Bool) (x5 : List (S40)) (x32 : Bool) : Option (Bool) := lim fun k => laws_FnExactParseLoci.j0 k x0 x3 x4 x5 x32
theorem laws_FnExactParseLoci.J0_lim (x0 : ByteArray) (x3 : List (S40)) (x4 : Bool) (x5 : List (S40)) (x32 : Bool) : Lim (fun k => laws_FnExactParseLoci.j0 k x0 x3 x4 x5 x32) (laws_FnExactParseLoci.J0 x0 x3 x4 x5 x32) := ⟨fun k => (laws_FnExactParseLoci.mono_l k).1 x0 x3 x4 x5 x32, rfl⟩
noncomputable def laws_FnExactParseLoci.J1 (x5 : List (S40)) (x7 : Int) (x57 : Bool) : Option (Bool) := lim fun k => laws_FnExactParseLoci.j1 k x5 x7 x57
theorem laws_FnExactParseLoci.J1_lim (x5 : List (S40)) (x7 : Int) (x57 : Bool) : Lim (fun k => laws_FnExactParseLoci.j1 k x5 x7 x57) (laws_FnExactParseLoci.J1 x5 x7 x57) := ⟨fun k => (laws_FnExactParseLoci.mono_l k).2 x5 x7 x57, rfl⟩
noncomputable def laws_FnExactParseLoci.F (a0 : ByteArray) : Option (Bool) := lim fun k => laws_FnExactParseLoci.f k a0
theorem laws_FnExactParseLoci.F_lim (a0 : ByteArray) : Lim (fun k => laws_FnExactParseLoci.f k a0) (laws_FnExactParseLoci.F a0) := ⟨laws_FnExactParseLoci.mono a0, rfl⟩
theorem laws_FnExactParseLoci.J0_eq (x0 : ByteArray) (x3 : List (S40)) (x4 : Bool) (x5 : List (S40)) (x32 : Bool) : laws_FnExactParseLoci.J0 x0 x3 x4 x5 x32 = (if x32 = true then (some false) else ((laws_markLocusS.F x5 1).bind fun bt219 => ((laws_heldLocusS.F bt219.2 1).bind fun t221 => (if t221 < 0 then (some false) else (if t221 = bt219.1 then ((impl_ParseLoci.F x0).bind fun bt222 => ((laws_eqLocusS.F bt222.1 x3).bind fun t226 => (if t226 = true then (laws_FnExactParseLoci.J1 bt219.2 bt219.1 (bt222.2 != x4)) else (laws_FnExactParseLoci.J1 bt219.2 bt219.1 true)))) else (some false)))))) := by
  refine Lim.succ_eq (laws_FnExactParseLoci.J0_lim x0 x3 x4 x5 x32).mon ?_
  simp only [laws_FnExactParseLoci.j0]
  repeat' first
  | (with_reducible exact laws_FnExactParseLoci.J0_lim _ _ _ _ _)
  | (with_reducible exact laws_FnExactParseLoci.J1_lim _ _ _)
  | (with_reducible exact impl_ParseLoci.F_lim _)
  | (with_reducible exact laws_eqLocusS.F_lim _ _)
  | (with_reducible exact laws_heldLocusS.F_lim _ _)
  | (with_reducible exact laws_markLocusS.F_lim _ _)
  | (with_reducible exact spec_ParseLoci.F_lim _)
  | (with_reducible refine Lim.ite ?_ ?_)
  | (with_reducible refine Lim.bind ?_ (fun _ => ?_))
  | (with_reducible exact Lim.const _)
theorem laws_FnExactParseLoci.J1_eq (x5 : List (S40)) (x7 : Int) (x57 : Bool) : laws_FnExactParseLoci.J1 x5 x7 x57 = (if x57 = true then (some false) else ((laws_heldLocusS.F x5 1).bind fun t227 => (if t227 < 0 then (some false) else (if t227 = x7 then (some true) else (some false))))) := by
  refine Lim.succ_eq (laws_FnExactParseLoci.J1_lim x5 x7 x57).mon ?_
  simp only [laws_FnExactParseLoci.j1]
  repeat' first
  | (with_reducible exact laws_FnExactParseLoci.J0_lim _ _ _ _ _)
  | (with_reducible exact laws_FnExactParseLoci.J1_lim _ _ _)
  | (with_reducible exact impl_ParseLoci.F_lim _)
  | (with_reducible exact laws_eqLocusS.F_lim _ _)
  | (with_reducible exact laws_heldLocusS.F_lim _ _)
  | (with_reducible exact laws_markLocusS.F_lim _ _)
  | (with_reducible exact spec_ParseLoci.F_lim _)
  | (with_reducible refine Lim.ite ?_ ?_)
  | (with_reducible refine Lim.bind ?_ (fun _ => ?_))
  | (with_reducible exact Lim.const _)
theorem laws_FnExactParseLoci.F_eq (a0 : ByteArray) : laws_FnExactParseLoci.F a0 = (if (a0.size : Int) > 1048576 then (some true) else ((spec_ParseLoci.F a0).bind fun bt210 => ((impl_ParseLoci.F a0).bind fun bt214 => ((laws_eqLocusS.F bt214.1 bt210.1).bind fun t218 => (if t218 = true then (laws_FnExactParseLoci.J0 a0 bt210.1 bt210.2 bt214.1 (bt214.2 != bt210.2)) else (laws_FnExactParseLoci.J0 a0 bt210.1 bt210.2 bt214.1 true)))))) := by
  refine Lim.eq_ ?_
  simp only [laws_FnExactParseLoci.f]
  repeat' first
  | (with_reducible exact laws_FnExactParseLoci.J0_lim _ _ _ _ _)
  | (with_reducible exact laws_FnExactParseLoci.J1_lim _ _ _)
  | (with_reducible exact impl_ParseLoci.F_lim _)
  | (with_reducible exact laws_eqLocusS.F_lim _ _)
  | (with_reducible exact laws_heldLocusS.F_lim _ _)
  | (with_reducible exact laws_markLocusS.F_lim _ _)
  | (with_reducible exact spec_ParseLoci.F_lim _)
  | (with_reducible refine Lim.ite ?_ ?_)
  | (with_reducible refine Lim.bind ?_ (fun _ => ?_))
  | (with_reducible exact Lim.const _)
def laws_FnExactParseLoci.Pure : Prop := ∀ (a0 : ByteArray), (a0.size ≤ 9223372036854775807) → ∃ k, laws_FnExactParseLoci.f k a0 = some true
end Go.Proofs.YtgjljcejhdpibaaDoor.PFnExactParseLoci
