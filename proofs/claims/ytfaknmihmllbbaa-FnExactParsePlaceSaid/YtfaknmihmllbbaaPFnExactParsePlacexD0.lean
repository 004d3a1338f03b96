/- Written by a program of this claim's author, out of the loaded program as Lean prints it: the functions as Lean functions, and that the calls answer so. -/
import Derived.Test.YtfaknmihmllbbaaPFnExactParsePlacex0
namespace Go.Proofs.Ytfaknmihmllbbaa.PFnExactParsePlace
open Go.RowKit Go.Proofs.YtfaknmihmllbbaaW.PrintWords Go.Proofs.YtfaknmihmllbbaaW.PrintLast Go.Proofs.YtfaknmihmllbbaaW.PrintMore
attribute [local go_sem] max2_int min2_int max_two min_two max_three min_three max_four min_four   -- for this text's walks alone
set_option linter.unusedVariables false
set_option linter.unusedSimpArgs false

def spec_plNames.f  : Option (List ByteArray) := some (([(⟨#[115, 112, 97, 99, 101]⟩ : ByteArray), (⟨#[104, 101, 97, 100]⟩ : ByteArray), (⟨#[101, 121, 101]⟩ : ByteArray), (⟨#[99, 104, 101, 101, 107]⟩ : ByteArray), (⟨#[109, 111, 117, 116, 104]⟩ : ByteArray), (⟨#[99, 104, 105, 110]⟩ : ByteArray), (⟨#[110, 101, 99, 107]⟩ : ByteArray), (⟨#[99, 104, 101, 115, 116]⟩ : ByteArray), (⟨#[119, 97, 105, 115, 116]⟩ : ByteArray), (⟨#[104, 105, 112]⟩ : ByteArray)] : List ByteArray))
def spec_plText.f (a0_0 : Int) (a0_1 : Int) (a0_2 : Bool) : Option (ByteArray) := (spec_plNames.f).bind fun t105 => (if 0 ≤ a0_0 then (if a0_0 < (t105.length : Int) then (if a0_1 = (-1) then (if (rdOf ByteArray.empty t105 a0_0).size + 1 ≤ 9223372036854775807 then (if a0_2 = true then (if ((rdOf ByteArray.empty t105 a0_0) ++ (⟨#[60]⟩ : ByteArray)).size + 1 ≤ 9223372036854775807 then (some (((rdOf ByteArray.empty t105 a0_0) ++ (⟨#[60]⟩ : ByteArray)) ++ (⟨#[42]⟩ : ByteArray))) else (none)) else (some ((rdOf ByteArray.empty t105 a0_0) ++ (⟨#[60]⟩ : ByteArray)))) else (none)) else (if a0_1 = 1 then (if (rdOf ByteArray.empty t105 a0_0).size + 1 ≤ 9223372036854775807 then (if a0_2 = true then (if ((rdOf ByteArray.empty t105 a0_0) ++ (⟨#[62]⟩ : ByteArray)).size + 1 ≤ 9223372036854775807 then (some (((rdOf ByteArray.empty t105 a0_0) ++ (⟨#[62]⟩ : ByteArray)) ++ (⟨#[42]⟩ : ByteArray))) else (none)) else (some ((rdOf ByteArray.empty t105 a0_0) ++ (⟨#[62]⟩ : ByteArray)))) else (none)) else (if a0_2 = true then (if (rdOf ByteArray.empty t105 a0_0).size + 1 ≤ 9223372036854775807 then (some ((rdOf ByteArray.empty t105 a0_0) ++ (⟨#[42]⟩ : ByteArray))) else (none)) else (some (rdOf ByteArray.empty t105 a0_0))))) else (none)) else (none))
def spec_l1In.f (a0 : Int) (a1 : Int) (a2 : Int) : Option (Bool) := if a0 ≥ a1 then (some (decide (a0 ≤ a2))) else (some false)
def spec_plGood.f (a0_0 : Int) (a0_1 : Int) (a0_2 : Bool) : Option (Bool) := (spec_l1In.f a0_0 0 9).bind fun t110 => (if t110 = true then ((spec_l1In.f a0_1 (-1) 1).bind fun t111 => (if t111 = true then (if a0_0 > 0 then (some true) else (some (!a0_2))) else (some false))) else (some false))
mutual
def spec_plAll.l0 : Nat → List (S32) → Int → Option ((List (S32)))
  | 0, _, _ => none
  | k + 1, x1, x2 => if x2 < 10 then (spec_plAll.l1 k x1 x2 (-1)) else (some x1)
def spec_plAll.l1 : Nat → List (S32) → Int → Int → Option ((List (S32)))
  | 0, _, _, _ => none
  | k + 1, x1, x2, x3 => if x3 ≤ 1 then ((some (([false, true] : List Bool) : List Bool)).bind fun y112 => (spec_plAll.l2 k x1 x2 x3 y112 (y112.length : Int) 0)) else (spec_plAll.l0 k x1 (wrap64 (x2 + 1)))
def spec_plAll.l2 : Nat → List (S32) → Int → Int → List Bool → Int → Int → Option ((List (S32)))
  | 0, _, _, _, _, _, _ => none
  | k + 1, x1, x2, x3, x15, x16, x17 => if x17 < x16 then (if 0 ≤ x17 then (if x17 < (x15.length : Int) then ((spec_plGood.f x2 x3 (rdOf false x15 x17)).bind fun t117 => (if t117 = true then (if x1.length < 5864062014805 then (spec_plAll.l2 k (x1 ++ [(⟨x2, x3, rdOf false x15 x17⟩ : S32)]) x2 x3 x15 x16 (wrap64 (x17 + 1))) else (none)) else (spec_plAll.l2 k x1 x2 x3 x15 x16 (wrap64 (x17 + 1))))) else (none)) else (none)) else (spec_plAll.l1 k x1 x2 (wrap64 (x3 + 1)))
end
def spec_plAll.f (k : Nat)  : Option ((List (S32))) := spec_plAll.l0 k ([] : List (S32)) 0
theorem spec_plAll.mono_l : ∀ k, (∀ y0 y1, LeO (spec_plAll.l0 k y0 y1) (spec_plAll.l0 (k + 1) y0 y1)) ∧ (∀ y0 y1 y2, LeO (spec_plAll.l1 k y0 y1 y2) (spec_plAll.l1 (k + 1) y0 y1 y2)) ∧ (∀ y0 y1 y2 y3 y4 y5, LeO (spec_plAll.l2 k y0 y1 y2 y3 y4 y5) (spec_plAll.l2 (k + 1) y0 y1 y2 y3 y4 y5))
  | 0 => ⟨fun _ _ r h => by simp [spec_plAll.l0] at h, fun _ _ _ r h => by simp [spec_plAll.l1] at h, fun _ _ _ _ _ _ r h => by simp [spec_plAll.l2] at h⟩
  | k + 1 => by
    obtain ⟨ih0, ih1, ih2⟩ := spec_plAll.mono_l k
    refine ⟨?_, ?_, ?_⟩
    · intro y0 y1
      unfold spec_plAll.l0
      repeat' first
      | (with_reducible exact ih0 _ _)
      | (with_reducible exact ih1 _ _ _)
      | (with_reducible exact ih2 _ _ _ _ _ _)
      | (with_reducible exact LeO.refl _)
      | (with_reducible exact LeO.none _)
      | (with_reducible refine LeO.ite ?_ ?_)
      | (with_reducible refine LeO.bind ?_ (fun _ => ?_))
      | exact ih0 _ _
      | exact ih1 _ _ _
      | exact ih2 _ _ _ _ _ _
      | exact LeO.none _
      | refine LeO.ite ?_ ?_
      | refine LeO.bind ?_ (fun _ => ?_)
    · intro y0 y1 y2
      unfold spec_plAll.l1
      repeat' first
      | (with_reducible exact ih0 _ _)
      | (with_reducible exact ih1 _ _ _)
      | (with_reducible exact ih2 _ _ _ _ _ _)
      | (with_reducible exact LeO.refl _)
      | (with_reducible exact LeO.none _)
      | (with_reducible refine LeO.ite ?_ ?_)
      | (with_reducible refine LeO.bind ?_ (fun _ => ?_))
      | exact ih0 _ _
      | exact ih1 _ _ _
      | exact ih2 _ _ _ _ _ _
      | exact LeO.none _
      | refine LeO.ite ?_ ?_
      | refine LeO.bind ?_ (fun _ => ?_)
    · intro y0 y1 y2 y3 y4 y5
      unfold spec_plAll.l2
      repeat' first
      | (with_reducible exact ih0 _ _)
      | (with_reducible exact ih1 _ _ _)
      | (with_reducible exact ih2 _ _ _ _ _ _)
      | (with_reducible exact LeO.refl _)
      | (with_reducible exact LeO.none _)
      | (with_reducible refine LeO.ite ?_ ?_)
      | (with_reducible refine LeO.bind ?_ (fun _ => ?_))
      | exact ih0 _ _
      | exact ih1 _ _ _
      | exact ih2 _ _ _ _ _ _
      | exact LeO.none _
      | refine LeO.ite ?_ ?_
      | refine LeO.bind ?_ (fun _ => ?_)
theorem spec_plAll.mono : ∀ k, LeO (spec_plAll.f k ) (spec_plAll.f (k + 1) ) := by
  intro  k
  obtain ⟨ih0, ih1, ih2⟩ := spec_plAll.mono_l k
  unfold spec_plAll.f
  repeat' first
      | (with_reducible exact ih0 _ _)
      | (with_reducible exact ih1 _ _ _)
      | (with_reducible exact ih2 _ _ _ _ _ _)
      | (with_reducible exact LeO.refl _)
      | (with_reducible exact LeO.none _)
      | (with_reducible refine LeO.ite ?_ ?_)
      | (with_reducible refine LeO.bind ?_ (fun _ => ?_))
      | exact ih0 _ _
      | exact ih1 _ _ _
      | exact ih2 _ _ _ _ _ _
      | exact LeO.none _
      | refine LeO.ite ?_ ?_
      | refine LeO.bind ?_ (fun _ => ?_)
noncomputable def spec_plAll.L0 (x1 : List (S32)) (x2 : Int) : Option ((List (S32))) := lim fun k => spec_plAll.l0 k x1 x2
theorem spec_plAll.L0_lim (x1 : List (S32)) (x2 : Int) : Lim (fun k => spec_plAll.l0 k x1 x2) (spec_plAll.L0 x1 x2) := ⟨fun k => (spec_plAll.mono_l k).1 x1 x2, rfl⟩
noncomputable def spec_plAll.L1 (x1 : List (S32)) (x2 : Int) (x3 : Int) : Option ((List (S32))) := lim fun k => spec_plAll.l1 k x1 x2 x3
theorem spec_plAll.L1_lim (x1 : List (S32)) (x2 : Int) (x3 : Int) : Lim (fun k => spec_plAll.l1 k x1 x2 x3) (spec_plAll.L1 x1 x2 x3) := ⟨fun k => (spec_plAll.mono_l k).2.1 x1 x2 x3, rfl⟩
noncomputable def spec_plAll.L2 (x1 : List (S32)) (x2 : Int) (x3 : Int) (x15 : List Bool) (x16 : Int) (x17 : Int) : Option ((List (S32))) := lim fun k => spec_plAll.l2 k x1 x2 x3 x15 x16 x17
theorem spec_plAll.L2_lim (x1 : List (S32)) (x2 : Int) (x3 : Int) (x15 : List Bool) (x16 : Int) (x17 : Int) : Lim (fun k => spec_plAll.l2 k x1 x2 x3 x15 x16 x17) (spec_plAll.L2 x1 x2 x3 x15 x16 x17) := ⟨fun k => (spec_plAll.mono_l k).2.2 x1 x2 x3 x15 x16 x17, rfl⟩
noncomputable def spec_plAll.F  : Option ((List (S32))) := lim fun k => spec_plAll.f k 
theorem spec_plAll.F_lim  : Lim (fun k => spec_plAll.f k ) (spec_plAll.F ) := ⟨spec_plAll.mono , rfl⟩
theorem spec_plAll.L0_eq (x1 : List (S32)) (x2 : Int) : spec_plAll.L0 x1 x2 = (if x2 < 10 then (spec_plAll.L1 x1 x2 (-1)) else (some x1)) := by
  refine Lim.succ_eq (spec_plAll.L0_lim x1 x2).mon ?_
  simp only [spec_plAll.l0]
  repeat' first
  | (with_reducible exact spec_plAll.L0_lim _ _)
  | (with_reducible exact spec_plAll.L1_lim _ _ _)
  | (with_reducible exact spec_plAll.L2_lim _ _ _ _ _ _)
  | (with_reducible refine Lim.ite ?_ ?_)
  | (with_reducible refine Lim.bind ?_ (fun _ => ?_))
  | (with_reducible exact Lim.const _)
theorem spec_plAll.L1_eq (x1 : List (S32)) (x2 : Int) (x3 : Int) : spec_plAll.L1 x1 x2 x3 = (if x3 ≤ 1 then ((some (([false, true] : List Bool) : List Bool)).bind fun y112 => (spec_plAll.L2 x1 x2 x3 y112 (y112.length : Int) 0)) else (spec_plAll.L0 x1 (wrap64 (x2 + 1)))) := by
  refine Lim.succ_eq (spec_plAll.L1_lim x1 x2 x3).mon ?_
  simp only [spec_plAll.l1]
  repeat' first
  | (with_reducible exact spec_plAll.L0_lim _ _)
  | (with_reducible exact spec_plAll.L1_lim _ _ _)
  | (with_reducible exact spec_plAll.L2_lim _ _ _ _ _ _)
  | (with_reducible refine Lim.ite ?_ ?_)
  | (with_reducible refine Lim.bind ?_ (fun _ => ?_))
  | (with_reducible exact Lim.const _)
theorem spec_plAll.L2_eq (x1 : List (S32)) (x2 : Int) (x3 : Int) (x15 : List Bool) (x16 : Int) (x17 : Int) : spec_plAll.L2 x1 x2 x3 x15 x16 x17 = (if x17 < x16 then (if 0 ≤ x17 then (if x17 < (x15.length : Int) then ((spec_plGood.f x2 x3 (rdOf false x15 x17)).bind fun t117 => (if t117 = true then (if x1.length < 5864062014805 then (spec_plAll.L2 (x1 ++ [(⟨x2, x3, rdOf false x15 x17⟩ : S32)]) x2 x3 x15 x16 (wrap64 (x17 + 1))) else (none)) else (spec_plAll.L2 x1 x2 x3 x15 x16 (wrap64 (x17 + 1))))) else (none)) else (none)) else (spec_plAll.L1 x1 x2 (wrap64 (x3 + 1)))) := by
  refine Lim.succ_eq (spec_plAll.L2_lim x1 x2 x3 x15 x16 x17).mon ?_
  simp only [spec_plAll.l2]
  repeat' first
  | (with_reducible exact spec_plAll.L0_lim _ _)
  | (with_reducible exact spec_plAll.L1_lim _ _ _)
  | (with_reducible exact spec_plAll.L2_lim _ _ _ _ _ _)
  | (with_reducible refine Lim.ite ?_ ?_)
  | (with_reducible refine Lim.bind ?_ (fun _ => ?_))
  | (with_reducible exact Lim.const _)
theorem spec_plAll.F_eq  : spec_plAll.F  = (spec_plAll.L0 ([] : List (S32)) 0) := by
  refine Lim.eq_ ?_
  simp only [spec_plAll.f]
  repeat' first
  | (with_reducible exact spec_plAll.L0_lim _ _)
  | (with_reducible exact spec_plAll.L1_lim _ _ _)
  | (with_reducible exact spec_plAll.L2_lim _ _ _ _ _ _)
  | (with_reducible refine Lim.ite ?_ ?_)
  | (with_reducible refine Lim.bind ?_ (fun _ => ?_))
  | (with_reducible exact Lim.const _)
def spec_plParse.l0 : Nat → ByteArray → List (S32) → Int → Int → Option (Int × Int × Bool × Bool)
  | 0, _, _, _, _ => none
  | k + 1, x0, x6, x7, x8 => if x8 < x7 then (if 0 ≤ x8 then (if x8 < (x6.length : Int) then ((spec_plText.f ((rd_T32 x6 x8).f0) ((rd_T32 x6 x8).f1) ((rd_T32 x6 x8).f2)).bind fun t127 => (if t127.toList = x0.toList then (some ((rd_T32 x6 x8).f0, (rd_T32 x6 x8).f1, (rd_T32 x6 x8).f2, true)) else (spec_plParse.l0 k x0 x6 x7 (wrap64 (x8 + 1))))) else (none)) else (none)) else (some (0, 0, false, false))
def spec_plParse.f (k : Nat) (a0 : ByteArray) : Option (Int × Int × Bool × Bool) := (spec_plAll.f k).bind fun t122 => (spec_plParse.l0 k a0 t122 (t122.length : Int) 0)
theorem spec_plParse.mono_l : ∀ k, (∀ y0 y1 y2 y3, LeO (spec_plParse.l0 k y0 y1 y2 y3) (spec_plParse.l0 (k + 1) y0 y1 y2 y3))
  | 0 => fun _ _ _ _ r h => by simp [spec_plParse.l0] at h
  | k + 1 => by
    have ih0 := spec_plParse.mono_l k
    · intro y0 y1 y2 y3
      unfold spec_plParse.l0
      repeat' first
      | (with_reducible exact ih0 _ _ _ _)
      | (with_reducible exact spec_plAll.mono _)
      | (with_reducible exact LeO.refl _)
      | (with_reducible exact LeO.none _)
      | (with_reducible refine LeO.ite ?_ ?_)
      | (with_reducible refine LeO.bind ?_ (fun _ => ?_))
      | exact ih0 _ _ _ _
      | exact spec_plAll.mono _
      | exact LeO.none _
      | refine LeO.ite ?_ ?_
      | refine LeO.bind ?_ (fun _ => ?_)
theorem spec_plParse.mono : ∀ a0 k, LeO (spec_plParse.f k a0) (spec_plParse.f (k + 1) a0) := by
  intro a0 k
  have ih0 := spec_plParse.mono_l k
  unfold spec_plParse.f
  repeat' first
      | (with_reducible exact ih0 _ _ _ _)
      | (with_reducible exact spec_plAll.mono _)
      | (with_reducible exact LeO.refl _)
      | (with_reducible exact LeO.none _)
      | (with_reducible refine LeO.ite ?_ ?_)
      | (with_reducible refine LeO.bind ?_ (fun _ => ?_))
      | exact ih0 _ _ _ _
      | exact spec_plAll.mono _
      | exact LeO.none _
      | refine LeO.ite ?_ ?_
      | refine LeO.bind ?_ (fun _ => ?_)
noncomputable def spec_plParse.L0 (x0 : ByteArray) (x6 : List (S32)) (x7 : Int) (x8 : Int) : Option (Int × Int × Bool × Bool) := lim fun k => spec_plParse.l0 k x0 x6 x7 x8
theorem spec_plParse.L0_lim (x0 : ByteArray) (x6 : List (S32)) (x7 : Int) (x8 : Int) : Lim (fun k => spec_plParse.l0 k x0 x6 x7 x8) (spec_plParse.L0 x0 x6 x7 x8) := ⟨fun k => (spec_plParse.mono_l k) x0 x6 x7 x8, rfl⟩
noncomputable def spec_plParse.F (a0 : ByteArray) : Option (Int × Int × Bool × Bool) := lim fun k => spec_plParse.f k a0
theorem spec_plParse.F_lim (a0 : ByteArray) : Lim (fun k => spec_plParse.f k a0) (spec_plParse.F a0) := ⟨spec_plParse.mono a0, rfl⟩
theorem spec_plParse.L0_eq (x0 : ByteArray) (x6 : List (S32)) (x7 : Int) (x8 : Int) : spec_plParse.L0 x0 x6 x7 x8 = (if x8 < x7 then (if 0 ≤ x8 then (if x8 < (x6.length : Int) then ((spec_plText.f ((rd_T32 x6 x8).f0) ((rd_T32 x6 x8).f1) ((rd_T32 x6 x8).f2)).bind fun t127 => (if t127.toList = x0.toList then (some ((rd_T32 x6 x8).f0, (rd_T32 x6 x8).f1, (rd_T32 x6 x8).f2, true)) else (spec_plParse.L0 x0 x6 x7 (wrap64 (x8 + 1))))) else (none)) else (none)) else (some (0, 0, false, false))) := by
  refine Lim.succ_eq (spec_plParse.L0_lim x0 x6 x7 x8).mon ?_
  simp only [spec_plParse.l0]
  repeat' first
  | (with_reducible exact spec_plParse.L0_lim _ _ _ _)
  | (with_reducible exact spec_plAll.F_lim)
  | (with_reducible refine Lim.ite ?_ ?_)
  | (with_reducible refine Lim.bind ?_ (fun _ => ?_))
  | (with_reducible exact Lim.const _)
theorem spec_plParse.F_eq (a0 : ByteArray) : spec_plParse.F a0 = ((spec_plAll.F).bind fun t122 => (spec_plParse.L0 a0 t122 (t122.length : Int) 0)) := by
  refine Lim.eq_ ?_
  simp only [spec_plParse.f]
  repeat' first
  | (with_reducible exact spec_plParse.L0_lim _ _ _ _)
  | (with_reducible exact spec_plAll.F_lim)
  | (with_reducible refine Lim.ite ?_ ?_)
  | (with_reducible refine Lim.bind ?_ (fun _ => ?_))
  | (with_reducible exact Lim.const _)
def spec_ParsePlace.f (k : Nat) (a0 : ByteArray) : Option (Int × Int × Bool × Bool) := (spec_plParse.f k a0).bind fun bt129 => (some (bt129.1, bt129.2.1, bt129.2.2.1, bt129.2.2.2))
theorem spec_ParsePlace.mono : ∀ a0 k, LeO (spec_ParsePlace.f k a0) (spec_ParsePlace.f (k + 1) a0) := by
  intro a0 k
  unfold spec_ParsePlace.f
  repeat' first
      | (with_reducible exact spec_plParse.mono _ _)
      | (with_reducible exact LeO.refl _)
      | (with_reducible exact LeO.none _)
      | (with_reducible refine LeO.ite ?_ ?_)
      | (with_reducible refine LeO.bind ?_ (fun _ => ?_))
      | exact spec_plParse.mono _ _
      | exact LeO.none _
      | refine LeO.ite ?_ ?_
      | refine LeO.bind ?_ (fun _ => ?_)
noncomputable def spec_ParsePlace.F (a0 : ByteArray) : Option (Int × Int × Bool × Bool) := lim fun k => spec_ParsePlace.f k a0
theorem spec_ParsePlace.F_lim (a0 : ByteArray) : Lim (fun k => spec_ParsePlace.f k a0) (spec_ParsePlace.F a0) := ⟨spec_ParsePlace.mono a0, rfl⟩
theorem spec_ParsePlace.F_eq (a0 : ByteArray) : spec_ParsePlace.F a0 = ((spec_plParse.F a0).bind fun bt129 => (some (bt129.1, bt129.2.1, bt129.2.2.1, bt129.2.2.2))) := by
  refine Lim.eq_ ?_
  simp only [spec_ParsePlace.f]
  repeat' first
  | (with_reducible exact spec_plParse.F_lim _)
  | (with_reducible refine Lim.ite ?_ ?_)
  | (with_reducible refine Lim.bind ?_ (fun _ => ?_))
  | (with_reducible exact Lim.const _)
def impl_Place_text.nm (n : Nat) : ByteArray := [(⟨#[115, 112, 97, 99, 101]⟩ : ByteArray), ⟨#[104, 101, 97, 100]⟩, ⟨#[101, 121, 101]⟩, ⟨#[99, 104, 101, 101, 107]⟩, ⟨#[109, 111, 117, 116, 104]⟩, ⟨#[99, 104, 105, 110]⟩, ⟨#[110, 101, 99, 107]⟩, ⟨#[99, 104, 101, 115, 116]⟩, ⟨#[119, 97, 105, 115, 116]⟩, ⟨#[104, 105, 112]⟩].getD n ⟨#[]⟩
def impl_Place_text.f (a0_0 : Int) (a0_1 : Int) (a0_2 : Bool) : Option (ByteArray) := if 0 ≤ a0_0 ∧ a0_0 ≤ 9 then (if a0_1 = -1 then some (if a0_2 = true then (impl_Place_text.nm a0_0.toNat ++ ⟨#[60]⟩) ++ ⟨#[42]⟩ else impl_Place_text.nm a0_0.toNat ++ ⟨#[60]⟩) else if a0_1 = 0 then some (if a0_2 = true then (impl_Place_text.nm a0_0.toNat ++ ⟨#[]⟩) ++ ⟨#[42]⟩ else impl_Place_text.nm a0_0.toNat ++ ⟨#[]⟩) else if a0_1 = 1 then some (if a0_2 = true then (impl_Place_text.nm a0_0.toNat ++ ⟨#[62]⟩) ++ ⟨#[42]⟩ else impl_Place_text.nm a0_0.toNat ++ ⟨#[62]⟩) else none) else none
def impl_within.f (a0 : Int) (a1 : Int) (a2 : Int) : Option (Bool) := if a0 ≥ a1 then (some (decide (a0 ≤ a2))) else (some false)
def impl_IsPlace.f (a0_0 : Int) (a0_1 : Int) (a0_2 : Bool) : Option (Bool) := (impl_within.f a0_0 0 9).bind fun t134 => (if t134 = true then ((impl_within.f a0_1 (-1) 1).bind fun t135 => (if t135 = true then (if a0_2 = true then (some (!(a0_0 == 0))) else (some (!false))) else (some false))) else (some false))
def impl_PlaceOfCode.f (a0 : Int) : Option (Int × Int × Bool × Bool) := (impl_within.f a0 0 59).bind fun t137 => (if t137 = true then ((impl_IsPlace.f (wrap64 (Int.tdiv a0 6)) (wrap64 ((wrap64 (Int.tdiv (Int.tmod a0 6) 2)) - 1)) ((Int.tmod a0 2) == 1)).bind fun t139 => (if t139 = true then (some (wrap64 (Int.tdiv a0 6), wrap64 ((wrap64 (Int.tdiv (Int.tmod a0 6) 2)) - 1), ((Int.tmod a0 2) == 1), true)) else (some (0, 0, false, false)))) else (some (0, 0, false, false)))
def impl_ParsePlace.l0 : Nat → ByteArray → Int → Option (Int × Int × Bool × Bool)
  | 0, _, _ => none
  | k + 1, x0, x7 => if x7 < 60 then ((impl_PlaceOfCode.f x7).bind fun bt141 => (if bt141.2.2.2 = true then ((impl_Place_text.f bt141.1 bt141.2.1 bt141.2.2.1).bind fun t146 => (if t146.toList = x0.toList then (some (bt141.1, bt141.2.1, bt141.2.2.1, true)) else (impl_ParsePlace.l0 k x0 (wrap64 (x7 + 1))))) else (impl_ParsePlace.l0 k x0 (wrap64 (x7 + 1))))) else (some (0, 0, false, false))
def impl_ParsePlace.f (k : Nat) (a0 : ByteArray) : Option (Int × Int × Bool × Bool) := impl_ParsePlace.l0 k a0 0
theorem impl_ParsePlace.mono_l : ∀ k, (∀ y0 y1, LeO (impl_ParsePlace.l0 k y0 y1) (impl_ParsePlace.l0 (k + 1) y0 y1))
  | 0 => fun _ _ r h => by simp [impl_ParsePlace.l0] at h
  | k + 1 => by
    have ih0 := impl_ParsePlace.mono_l k
    · intro y0 y1
      unfold impl_ParsePlace.l0
      repeat' first
      | (with_reducible exact ih0 _ _)
      | (with_reducible exact LeO.refl _)
      | (with_reducible exact LeO.none _)
      | (with_reducible refine LeO.ite ?_ ?_)
      | (with_reducible refine LeO.bind ?_ (fun _ => ?_))
      | exact ih0 _ _
      | exact LeO.none _
      | refine LeO.ite ?_ ?_
      | refine LeO.bind ?_ (fun _ => ?_)
theorem impl_ParsePlace.mono : ∀ a0 k, LeO (impl_ParsePlace.f k a0) (impl_ParsePlace.f (k + 1) a0) := by
  intro a0 k
  have ih0 := impl_ParsePlace.mono_l k
  unfold impl_ParsePlace.f
  repeat' first
      | (with_reducible exact ih0 _ _)
      | (with_reducible exact LeO.refl _)
      | (with_reducible exact LeO.none _)
      | (with_reducible refine LeO.ite ?_ ?_)
      | (with_reducible refine LeO.bind ?_ (fun _ => ?_))
      | exact ih0 _ _
      | exact LeO.none _
      | refine LeO.ite ?_ ?_
      | refine LeO.bind ?_ (fun _ => ?_)
noncomputable def impl_ParsePlace.L0 (x0 : ByteArray) (x7 : Int) : Option (Int × Int × Bool × Bool) := lim fun k => impl_ParsePlace.l0 k x0 x7
theorem impl_ParsePlace.L0_lim (x0 : ByteArray) (x7 : Int) : Lim (fun k => impl_ParsePlace.l0 k x0 x7) (impl_ParsePlace.L0 x0 x7) := ⟨fun k => (impl_ParsePlace.mono_l k) x0 x7, rfl⟩
noncomputable def impl_ParsePlace.F (a0 : ByteArray) : Option (Int × Int × Bool × Bool) := lim fun k => impl_ParsePlace.f k a0
theorem impl_ParsePlace.F_lim (a0 : ByteArray) : Lim (fun k => impl_ParsePlace.f k a0) (impl_ParsePlace.F a0) := ⟨impl_ParsePlace.mono a0, rfl⟩
theorem impl_ParsePlace.L0_eq (x0 : ByteArray) (x7 : Int) : impl_ParsePlace.L0 x0 x7 = (if x7 < 60 then ((impl_PlaceOfCode.f x7).bind fun bt141 => (if bt141.2.2.2 = true then ((impl_Place_text.f bt141.1 bt141.2.1 bt141.2.2.1).bind fun t146 => (if t146.toList = x0.toList then (some (bt141.1, bt141.2.1, bt141.2.2.1, true)) else (impl_ParsePlace.L0 x0 (wrap64 (x7 + 1))))) else (impl_ParsePlace.L0 x0 (wrap64 (x7 + 1))))) else (some (0, 0, false, false))) := by
  refine Lim.succ_eq (impl_ParsePlace.L0_lim x0 x7).mon ?_
  simp only [impl_ParsePlace.l0]
  repeat' first
  | (with_reducible exact impl_ParsePlace.L0_lim _ _)
  | (with_reducible refine Lim.ite ?_ ?_)
  | (with_reducible refine Lim.bind ?_ (fun _ => ?_))
  | (with_reducible exact Lim.const _)
theorem impl_ParsePlace.F_eq (a0 : ByteArray) : impl_ParsePlace.F a0 = (impl_ParsePlace.L0 a0 0) := by
  refine Lim.eq_ ?_
  simp only [impl_ParsePlace.f]
  repeat' first
  | (with_reducible exact impl_ParsePlace.L0_lim _ _)
  | (with_reducible refine Lim.ite ?_ ?_)
  | (with_reducible refine Lim.bind ?_ (fun _ => ?_))
  | (with_reducible exact Lim.const _)
def laws_eqPlace.f (a0_0 : Int) (a0_1 : Int) (a0_2 : Bool) (a1_0 : Int) (a1_1 : Int) (a1_2 : Bool) : Option (Bool) := if a0_0 = a1_0 then (if a0_1 = a1_1 then (if (a0_2 != a1_2) = true then (some false) else (some true)) else (some false)) else (some false)
def laws_FnExactParsePlace.f (k : Nat) (a0 : ByteArray) : Option (Bool) := if (a0.size : Int) > 1048576 then (some true) else ((spec_ParsePlace.f k a0).bind fun bt149 => ((impl_ParsePlace.f k a0).bind fun bt154 => ((laws_eqPlace.f bt154.1 bt154.2.1 bt154.2.2.1 bt149.1 bt149.2.1 bt149.2.2.1).bind fun t159 => (if t159 = true then (if (bt154.2.2.2 != bt149.2.2.2) = true then (some false) else (some true)) else (some false)))))
theorem laws_FnExactParsePlace.mono : ∀ a0 k, LeO (laws_FnExactParsePlace.f k a0) (laws_FnExactParsePlace.f (k + 1) a0) := by
  intro a0 k
  unfold laws_FnExactParsePlace.f
  repeat' first
      | (with_reducible exact impl_ParsePlace.mono _ _)
      | (with_reducible exact spec_ParsePlace.mono _ _)
      | (with_reducible exact LeO.refl _)
      | (with_reducible exact LeO.none _)
      | (with_reducible refine LeO.ite ?_ ?_)
      | (with_reducible refine LeO.bind ?_ (fun _ => ?_))
      | exact impl_ParsePlace.mono _ _
      | exact spec_ParsePlace.mono _ _
      | exact LeO.none _
      | refine LeO.ite ?_ ?_
      | refine LeO.bind ?_ (fun _ => ?_)
noncomputable def laws_FnExactParsePlace.F (a0 : ByteArray) : Option (Bool) := lim fun k => laws_FnExactParsePlace.f k a0
theorem laws_FnExactParsePlace.F_lim (a0 : ByteArray) : Lim (fun k => laws_FnExactParsePlace.f k a0) (laws_FnExactParsePlace.F a0) := ⟨laws_FnExactParsePlace.mono a0, rfl⟩
theorem laws_FnExactParsePlace.F_eq (a0 : ByteArray) : laws_FnExactParsePlace.F a0 = (if (a0.size : Int) > 1048576 then (some true) else ((spec_ParsePlace.F a0).bind fun bt149 => ((impl_ParsePlace.F a0).bind fun bt154 => ((laws_eqPlace.f bt154.1 bt154.2.1 bt154.2.2.1 bt149.1 bt149.2.1 bt149.2.2.1).bind fun t159 => (if t159 = true then (if (bt154.2.2.2 != bt149.2.2.2) = true then (some false) else (some true)) else (some false)))))) := by
  refine Lim.eq_ ?_
  simp only [laws_FnExactParsePlace.f]
  repeat' first
  | (with_reducible exact impl_ParsePlace.F_lim _)
  | (with_reducible exact spec_ParsePlace.F_lim _)
  | (with_reducible refine Lim.ite ?_ ?_)
  | (with_reducible refine Lim.bind ?_ (fun _ => ?_))
  | (with_reducible exact Lim.const _)
def laws_FnExactParsePlace.Pure : Prop := ∀ (a0 : ByteArray), a0.size ≤ 140737488351232 → ∃ k, laws_FnExactParsePlace.f k a0 = some true
end Go.Proofs.Ytfaknmihmllbbaa.PFnExactParsePlace
