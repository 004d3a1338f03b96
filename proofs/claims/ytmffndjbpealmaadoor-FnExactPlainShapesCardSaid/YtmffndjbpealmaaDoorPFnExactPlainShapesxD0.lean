/- Written by a program of this claim's author, out of the loaded program as Lean prints it: the functions as Lean functions, and that the calls answer so. -/
import Derived.Test.YtmffndjbpealmaaDoorPFnExactPlainShapesx0
namespace Go.Proofs.YtmffndjbpealmaaDoor.PFnExactPlainShapes
open Go.RowKit Go.Proofs.YtmffndjbpealmaaDoorW.PrintWords Go.Proofs.YtmffndjbpealmaaDoorW.PrintLast Go.Proofs.YtmffndjbpealmaaDoorW.PrintMore
attribute [local go_sem] max2_int min2_int max_two min_two max_three min_three max_four min_four   -- for this text's walks alone
set_option linter.unusedVariables false
set_option linter.unusedSimpArgs false

def spec_shFingers.f (a0_0 : Int) (a0_1 : Int) (a0_2 : Int) (a0_3 : Int) (a0_4 : Int) (a0_5 : Bool) : Option (List Int) := some (([a0_1, a0_2, a0_3, a0_4] : List Int))
def spec_l1In.f (a0 : Int) (a1 : Int) (a2 : Int) : Option (Bool) := if a0 ≥ a1 then (some (decide (a0 ≤ a2))) else (some false)
def spec_l1All.l0 : Nat → Int → Int → List Int → Int → Int → Option (Bool)
  | 0, _, _, _, _, _ => none
  | k + 1, x1, x2, x9, x10, x11 => if x11 < x10 then (if 0 ≤ x11 then (if x11 < (x9.length : Int) then ((spec_l1In.f (rd x9 x11) x1 x2).bind fun t106 => (if t106 = true then (spec_l1All.l0 k x1 x2 x9 x10 (wrap64 (x11 + 1))) else (some false))) else (none)) else (none)) else (some true)
def spec_l1All.f (k : Nat) (l0 : List Int) (a1 : Int) (a2 : Int) : Option (Bool) := spec_l1All.l0 k a1 a2 l0 (l0.length : Int) 0
theorem spec_l1All.mono_l : ∀ k, (∀ y0 y1 y2 y3 y4, LeO (spec_l1All.l0 k y0 y1 y2 y3 y4) (spec_l1All.l0 (k + 1) y0 y1 y2 y3 y4))
  | 0 => fun _ _ _ _ _ r h => by simp [spec_l1All.l0] at h
  | k + 1 => by
    have ih0 := spec_l1All.mono_l k
    · intro y0 y1 y2 y3 y4
      unfold spec_l1All.l0
      repeat' first
      | (with_reducible exact ih0 _ _ _ _ _)
      | (with_reducible exact LeO.refl _)
      | (with_reducible exact LeO.none _)
      | (with_reducible refine LeO.ite ?_ ?_)
      | (with_reducible refine LeO.bind ?_ (fun _ => ?_))
      | exact ih0 _ _ _ _ _
      | exact LeO.none _
      | refine LeO.ite ?_ ?_
      | refine LeO.bind ?_ (fun _ => ?_)
theorem spec_l1All.mono : ∀ a0 a1 a2 k, LeO (spec_l1All.f k a0 a1 a2) (spec_l1All.f (k + 1) a0 a1 a2) := by
  intro a0 a1 a2 k
  have ih0 := spec_l1All.mono_l k
  unfold spec_l1All.f
  repeat' first
      | (with_reducible exact ih0 _ _ _ _ _)
      | (with_reducible exact LeO.refl _)
      | (with_reducible exact LeO.none _)
      | (with_reducible refine LeO.ite ?_ ?_)
      | (with_reducible refine LeO.bind ?_ (fun _ => ?_))
      | exact ih0 _ _ _ _ _
      | exact LeO.none _
      | refine LeO.ite ?_ ?_
      | refine LeO.bind ?_ (fun _ => ?_)
noncomputable def spec_l1All.L0 (x1 : Int) (x2 : Int) (x9 : List Int) (x10 : Int) (x11 : Int) : Option (Bool) := lim fun k => spec_l1All.l0 k x1 x2 x9 x10 x11
theorem spec_l1All.L0_lim (x1 : Int) (x2 : Int) (x9 : List Int) (x10 : Int) (x11 : Int) : Lim (fun k => spec_l1All.l0 k x1 x2 x9 x10 x11) (spec_l1All.L0 x1 x2 x9 x10 x11) := ⟨fun k => (spec_l1All.mono_l k) x1 x2 x9 x10 x11, rfl⟩
noncomputable def spec_l1All.F (l0 : List Int) (a1 : Int) (a2 : Int) : Option (Bool) := lim fun k => spec_l1All.f k l0 a1 a2
theorem spec_l1All.F_lim (l0 : List Int) (a1 : Int) (a2 : Int) : Lim (fun k => spec_l1All.f k l0 a1 a2) (spec_l1All.F l0 a1 a2) := ⟨spec_l1All.mono l0 a1 a2, rfl⟩
theorem spec_l1All.L0_eq (x1 : Int) (x2 : Int) (x9 : List Int) (x10 : Int) (x11 : Int) : spec_l1All.L0 x1 x2 x9 x10 x11 = (if x11 < x10 then (if 0 ≤ x11 then (if x11 < (x9.length : Int) then ((spec_l1In.f (rd x9 x11) x1 x2).bind fun t106 => (if t106 = true then (spec_l1All.L0 x1 x2 x9 x10 (wrap64 (x11 + 1))) else (some false))) else (none)) else (none)) else (some true)) := by
  refine Lim.succ_eq (spec_l1All.L0_lim x1 x2 x9 x10 x11).mon ?_
  simp only [spec_l1All.l0]
  repeat' first
  | (with_reducible exact spec_l1All.L0_lim _ _ _ _ _)
  | (with_reducible refine Lim.ite ?_ ?_)
  | (with_reducible refine Lim.bind ?_ (fun _ => ?_))
  | (with_reducible exact Lim.const _)
theorem spec_l1All.F_eq (l0 : List Int) (a1 : Int) (a2 : Int) : spec_l1All.F l0 a1 a2 = (spec_l1All.L0 a1 a2 l0 (l0.length : Int) 0) := by
  refine Lim.eq_ ?_
  simp only [spec_l1All.f]
  repeat' first
  | (with_reducible exact spec_l1All.L0_lim _ _ _ _ _)
  | (with_reducible refine Lim.ite ?_ ?_)
  | (with_reducible refine Lim.bind ?_ (fun _ => ?_))
  | (with_reducible exact Lim.const _)
def spec_shWide.l0 : Nat → List Int → Int → Option (Bool)
  | 0, _, _ => none
  | k + 1, x3, x4 => if x4 < 4 then (if 0 ≤ (wrap64 (x4 - 1)) then (if (wrap64 (x4 - 1)) < (x3.length : Int) then (if (rd x3 (wrap64 (x4 - 1))) = 0 then (if 0 ≤ x4 then (if x4 < (x3.length : Int) then (if (rd x3 x4) = 0 then (some true) else (spec_shWide.l0 k x3 (wrap64 (x4 + 1)))) else (none)) else (none)) else (spec_shWide.l0 k x3 (wrap64 (x4 + 1)))) else (none)) else (none)) else (some false)
def spec_shWide.f (k : Nat) (a0_0 : Int) (a0_1 : Int) (a0_2 : Int) (a0_3 : Int) (a0_4 : Int) (a0_5 : Bool) : Option (Bool) := (spec_shFingers.f a0_0 a0_1 a0_2 a0_3 a0_4 a0_5).bind fun t108 => (spec_shWide.l0 k t108 1)
theorem spec_shWide.mono_l : ∀ k, (∀ y0 y1, LeO (spec_shWide.l0 k y0 y1) (spec_shWide.l0 (k + 1) y0 y1))
  | 0 => fun _ _ r h => by simp [spec_shWide.l0] at h
  | k + 1 => by
    have ih0 := spec_shWide.mono_l k
    · intro y0 y1
      unfold spec_shWide.l0
      repeat' first
      | (with_reducible exact ih0 _ _)
      | (with_reducible exact LeO.refl _)
      | (with_reducible exact LeO.none _)
      | (with_reducible refine LeO.ite ?_ ?_)
      | (with_reducible refine LeO.bind ?_ (fun _ => ?_))
      | exact ih0 _ _
      | exact LeO.none _
      | refine LeO.ite ?_ ?_
      | refine LeO.bind ?_ (fun _ => ?_)
theorem spec_shWide.mono : ∀ a0 a1 a2 a3 a4 a5 k, LeO (spec_shWide.f k a0 a1 a2 a3 a4 a5) (spec_shWide.f (k + 1) a0 a1 a2 a3 a4 a5) := by
  intro a0 a1 a2 a3 a4 a5 k
  have ih0 := spec_shWide.mono_l k
  unfold spec_shWide.f
  repeat' first
      | (with_reducible exact ih0 _ _)
      | (with_reducible exact LeO.refl _)
      | (with_reducible exact LeO.none _)
      | (with_reducible refine LeO.ite ?_ ?_)
      | (with_reducible refine LeO.bind ?_ (fun _ => ?_))
      | exact ih0 _ _
      | exact LeO.none _
      | refine LeO.ite ?_ ?_
      | refine LeO.bind ?_ (fun _ => ?_)
noncomputable def spec_shWide.L0 (x3 : List Int) (x4 : Int) : Option (Bool) := lim fun k => spec_shWide.l0 k x3 x4
theorem spec_shWide.L0_lim (x3 : List Int) (x4 : Int) : Lim (fun k => spec_shWide.l0 k x3 x4) (spec_shWide.L0 x3 x4) := ⟨fun k => (spec_shWide.mono_l k) x3 x4, rfl⟩
noncomputable def spec_shWide.F (a0_0 : Int) (a0_1 : Int) (a0_2 : Int) (a0_3 : Int) (a0_4 : Int) (a0_5 : Bool) : Option (Bool) := lim fun k => spec_shWide.f k a0_0 a0_1 a0_2 a0_3 a0_4 a0_5
theorem spec_shWide.F_lim (a0_0 : Int) (a0_1 : Int) (a0_2 : Int) (a0_3 : Int) (a0_4 : Int) (a0_5 : Bool) : Lim (fun k => spec_shWide.f k a0_0 a0_1 a0_2 a0_3 a0_4 a0_5) (spec_shWide.F a0_0 a0_1 a0_2 a0_3 a0_4 a0_5) := ⟨spec_shWide.mono a0_0 a0_1 a0_2 a0_3 a0_4 a0_5, rfl⟩
theorem spec_shWide.L0_eq (x3 : List Int) (x4 : Int) : spec_shWide.L0 x3 x4 = (if x4 < 4 then (if 0 ≤ (wrap64 (x4 - 1)) then (if (wrap64 (x4 - 1)) < (x3.length : Int) then (if (rd x3 (wrap64 (x4 - 1))) = 0 then (if 0 ≤ x4 then (if x4 < (x3.length : Int) then (if (rd x3 x4) = 0 then (some true) else (spec_shWide.L0 x3 (wrap64 (x4 + 1)))) else (none)) else (none)) else (spec_shWide.L0 x3 (wrap64 (x4 + 1)))) else (none)) else (none)) else (some false)) := by
  refine Lim.succ_eq (spec_shWide.L0_lim x3 x4).mon ?_
  simp only [spec_shWide.l0]
  repeat' first
  | (with_reducible exact spec_shWide.L0_lim _ _)
  | (with_reducible refine Lim.ite ?_ ?_)
  | (with_reducible refine Lim.bind ?_ (fun _ => ?_))
  | (with_reducible exact Lim.const _)
theorem spec_shWide.F_eq (a0_0 : Int) (a0_1 : Int) (a0_2 : Int) (a0_3 : Int) (a0_4 : Int) (a0_5 : Bool) : spec_shWide.F a0_0 a0_1 a0_2 a0_3 a0_4 a0_5 = ((spec_shFingers.f a0_0 a0_1 a0_2 a0_3 a0_4 a0_5).bind fun t108 => (spec_shWide.L0 t108 1)) := by
  refine Lim.eq_ ?_
  simp only [spec_shWide.f]
  repeat' first
  | (with_reducible exact spec_shWide.L0_lim _ _)
  | (with_reducible refine Lim.ite ?_ ?_)
  | (with_reducible refine Lim.bind ?_ (fun _ => ?_))
  | (with_reducible exact Lim.const _)
def spec_shGood.f (k : Nat) (a0_0 : Int) (a0_1 : Int) (a0_2 : Int) (a0_3 : Int) (a0_4 : Int) (a0_5 : Bool) : Option (Bool) := (spec_l1In.f a0_0 0 2).bind fun t114 => (if t114 = true then ((spec_shFingers.f a0_0 a0_1 a0_2 a0_3 a0_4 a0_5).bind fun t115 => ((spec_l1All.f k t115 0 2).bind fun t118 => (if t118 = true then (if a0_5 = true then ((spec_shWide.f k a0_0 a0_1 a0_2 a0_3 a0_4 a0_5).bind fun t119 => (some t119)) else (some true)) else (some false)))) else (some false))
theorem spec_shGood.mono : ∀ a0 a1 a2 a3 a4 a5 k, LeO (spec_shGood.f k a0 a1 a2 a3 a4 a5) (spec_shGood.f (k + 1) a0 a1 a2 a3 a4 a5) := by
  intro a0 a1 a2 a3 a4 a5 k
  unfold spec_shGood.f
  repeat' first
      | (with_reducible exact spec_l1All.mono _ _ _ _)
      | (with_reducible exact spec_shWide.mono _ _ _ _ _ _ _)
      | (with_reducible exact LeO.refl _)
      | (with_reducible exact LeO.none _)
      | (with_reducible refine LeO.ite ?_ ?_)
      | (with_reducible refine LeO.bind ?_ (fun _ => ?_))
      | exact spec_l1All.mono _ _ _ _
      | exact spec_shWide.mono _ _ _ _ _ _ _
      | exact LeO.none _
      | refine LeO.ite ?_ ?_
      | refine LeO.bind ?_ (fun _ => ?_)
noncomputable def spec_shGood.F (a0_0 : Int) (a0_1 : Int) (a0_2 : Int) (a0_3 : Int) (a0_4 : Int) (a0_5 : Bool) : Option (Bool) := lim fun k => spec_shGood.f k a0_0 a0_1 a0_2 a0_3 a0_4 a0_5
theorem spec_shGood.F_lim (a0_0 : Int) (a0_1 : Int) (a0_2 : Int) (a0_3 : Int) (a0_4 : Int) (a0_5 : Bool) : Lim (fun k => spec_shGood.f k a0_0 a0_1 a0_2 a0_3 a0_4 a0_5) (spec_shGood.F a0_0 a0_1 a0_2 a0_3 a0_4 a0_5) := ⟨spec_shGood.mono a0_0 a0_1 a0_2 a0_3 a0_4 a0_5, rfl⟩
theorem spec_shGood.F_eq (a0_0 : Int) (a0_1 : Int) (a0_2 : Int) (a0_3 : Int) (a0_4 : Int) (a0_5 : Bool) : spec_shGood.F a0_0 a0_1 a0_2 a0_3 a0_4 a0_5 = ((spec_l1In.f a0_0 0 2).bind fun t114 => (if t114 = true then ((spec_shFingers.f a0_0 a0_1 a0_2 a0_3 a0_4 a0_5).bind fun t115 => ((spec_l1All.F t115 0 2).bind fun t118 => (if t118 = true then (if a0_5 = true then ((spec_shWide.F a0_0 a0_1 a0_2 a0_3 a0_4 a0_5).bind fun t119 => (some t119)) else (some true)) else (some false)))) else (some false))) := by
  refine Lim.eq_ ?_
  simp only [spec_shGood.f]
  repeat' first
  | (with_reducible exact spec_l1All.F_lim _ _ _)
  | (with_reducible exact spec_shWide.F_lim _ _ _ _ _ _)
  | (with_reducible refine Lim.ite ?_ ?_)
  | (with_reducible refine Lim.bind ?_ (fun _ => ?_))
  | (with_reducible exact Lim.const _)
mutual
def spec_shParse.j0 : Nat → ByteArray → Bool → Option (Int × Int × Int × Int × Int × Bool × Bool)
  | 0, _, _ => none
  | k + 1, x0, x20 => if x20 = true then (some (0, 0, 0, 0, 0, false, false)) else (spec_shParse.l0 k x0 ([] : List Int) 0)
def spec_shParse.l0 : Nat → ByteArray → List Int → Int → Option (Int × Int × Int × Int × Int × Bool × Bool)
  | 0, _, _, _ => none
  | k + 1, x0, x4, x5 => if x5 < 5 then (if 0 ≤ x5 then (if x5 < (x0.size : Int) then (if x4.length < 17592186044416 then (spec_shParse.l0 k x0 (x4 ++ [wrap64 ((wrap64 (bt x0 x5)) - 48)]) (wrap64 (x5 + 1))) else (none)) else (none)) else (none)) else (if 0 < (x4.length : Int) then (if 1 < (x4.length : Int) then (if 2 < (x4.length : Int) then (if 3 < (x4.length : Int) then (if 4 < (x4.length : Int) then ((spec_shGood.f k (rd x4 0) (rd x4 1) (rd x4 2) (rd x4 3) (rd x4 4) ((x0.size : Int) == 6)).bind fun t131 => (if t131 = true then (some (rd x4 0, rd x4 1, rd x4 2, rd x4 3, rd x4 4, ((x0.size : Int) == 6), true)) else (some (0, 0, 0, 0, 0, false, false)))) else (none)) else (none)) else (none)) else (none)) else (none))
end
def spec_shParse.f (k : Nat) (a0 : ByteArray) : Option (Int × Int × Int × Int × Int × Bool × Bool) := (spec_l1In.f (a0.size : Int) 5 6).bind fun t121 => (if t121 = true then (if (a0.size : Int) = 6 then (if 5 < (a0.size : Int) then (spec_shParse.j0 k a0 ((bt a0 5) != 115)) else (none)) else (spec_shParse.j0 k a0 false)) else (spec_shParse.j0 k a0 true))
theorem spec_shParse.mono_l : ∀ k, (∀ y0 y1, LeO (spec_shParse.j0 k y0 y1) (spec_shParse.j0 (k + 1) y0 y1)) ∧ (∀ y0 y1 y2, LeO (spec_shParse.l0 k y0 y1 y2) (spec_shParse.l0 (k + 1) y0 y1 y2))
  | 0 => ⟨fun _ _ r h => by simp [spec_shParse.j0] at h, fun _ _ _ r h => by simp [spec_shParse.l0] at h⟩
  | k + 1 => by
    obtain ⟨ih0, ih1⟩ := spec_shParse.mono_l k
    refine ⟨?_, ?_⟩
    · intro y0 y1
      unfold spec_shParse.j0
      repeat' first
      | (with_reducible exact ih0 _ _)
      | (with_reducible exact ih1 _ _ _)
      | (with_reducible exact spec_shGood.mono _ _ _ _ _ _ _)
      | (with_reducible exact LeO.refl _)
      | (with_reducible exact LeO.none _)
      | (with_reducible refine LeO.ite ?_ ?_)
      | (with_reducible refine LeO.bind ?_ (fun _ => ?_))
      | exact ih0 _ _
      | exact ih1 _ _ _
      | exact spec_shGood.mono _ _ _ _ _ _ _
      | exact LeO.none _
      | refine LeO.ite ?_ ?_
      | refine LeO.bind ?_ (fun _ => ?_)
    · intro y0 y1 y2
      unfold spec_shParse.l0
      repeat' first
      | (with_reducible exact ih0 _ _)
      | (with_reducible exact ih1 _ _ _)
      | (with_reducible exact spec_shGood.mono _ _ _ _ _ _ _)
      | (with_reducible exact LeO.refl _)
      | (with_reducible exact LeO.none _)
      | (with_reducible refine LeO.ite ?_ ?_)
      | (with_reducible refine LeO.bind ?_ (fun _ => ?_))
      | exact ih0 _ _
      | exact ih1 _ _ _
      | exact spec_shGood.mono _ _ _ _ _ _ _
      | exact LeO.none _
      | refine LeO.ite ?_ ?_
      | refine LeO.bind ?_ (fun _ => ?_)
theorem spec_shParse.mono : ∀ a0 k, LeO (spec_shParse.f k a0) (spec_shParse.f (k + 1) a0) := by
  intro a0 k
  obtain ⟨ih0, ih1⟩ := spec_shParse.mono_l k
  unfold spec_shParse.f
  repeat' first
      | (with_reducible exact ih0 _ _)
      | (with_reducible exact ih1 _ _ _)
      | (with_reducible exact spec_shGood.mono _ _ _ _ _ _ _)
      | (with_reducible exact LeO.refl _)
      | (with_reducible exact LeO.none _)
      | (with_reducible refine LeO.ite ?_ ?_)
      | (with_reducible refine LeO.bind ?_ (fun _ => ?_))
      | exact ih0 _ _
      | exact ih1 _ _ _
      | exact spec_shGood.mono _ _ _ _ _ _ _
      | exact LeO.none _
      | refine LeO.ite ?_ ?_
      | refine LeO.bind ?_ (fun _ => ?_)
noncomputable def spec_shParse.J0 (x0 : ByteArray) (x20 : Bool) : Option (Int × Int × Int × Int × Int × Bool × Bool) := lim fun k => spec_shParse.j0 k x0 x20
theorem spec_shParse.J0_lim (x0 : ByteArray) (x20 : Bool) : Lim (fun k => spec_shParse.j0 k x0 x20) (spec_shParse.J0 x0 x20) := ⟨fun k => (spec_shParse.mono_l k).1 x0 x20, rfl⟩
noncomputable def spec_shParse.L0 (x0 : ByteArray) (x4 : List Int) (x5 : Int) : Option (Int × Int × Int × Int × Int × Bool × Bool) := lim fun k => spec_shParse.l0 k x0 x4 x5
theorem spec_shParse.L0_lim (x0 : ByteArray) (x4 : List Int) (x5 : Int) : Lim (fun k => spec_shParse.l0 k x0 x4 x5) (spec_shParse.L0 x0 x4 x5) := ⟨fun k => (spec_shParse.mono_l k).2 x0 x4 x5, rfl⟩
noncomputable def spec_shParse.F (a0 : ByteArray) : Option (Int × Int × Int × Int × Int × Bool × Bool) := lim fun k => spec_shParse.f k a0
theorem spec_shParse.F_lim (a0 : ByteArray) : Lim (fun k => spec_shParse.f k a0) (spec_shParse.F a0) := ⟨spec_shParse.mono a0, rfl⟩
theorem spec_shParse.J0_eq (x0 : ByteArray) (x20 : Bool) : spec_shParse.J0 x0 x20 = (if x20 = true then (some (0, 0, 0, 0, 0, false, false)) else (spec_shParse.L0 x0 ([] : List Int) 0)) := by
  refine Lim.succ_eq (spec_shParse.J0_lim x0 x20).mon ?_
  simp only [spec_shParse.j0]
  repeat' first
  | (with_reducible exact spec_shParse.J0_lim _ _)
  | (with_reducible exact spec_shParse.L0_lim _ _ _)
  | (with_reducible exact spec_shGood.F_lim _ _ _ _ _ _)
  | (with_reducible refine Lim.ite ?_ ?_)
  | (with_reducible refine Lim.bind ?_ (fun _ => ?_))
  | (with_reducible exact Lim.const _)
theorem spec_shParse.L0_eq (x0 : ByteArray) (x4 : List Int) (x5 : Int) : spec_shParse.L0 x0 x4 x5 = (if x5 < 5 then (if 0 ≤ x5 then (if x5 < (x0.size : Int) then (if x4.length < 17592186044416 then (spec_shParse.L0 x0 (x4 ++ [wrap64 ((wrap64 (bt x0 x5)) - 48)]) (wrap64 (x5 + 1))) else (none)) else (none)) else (none)) else (if 0 < (x4.length : Int) then (if 1 < (x4.length : Int) then (if 2 < (x4.length : Int) then (if 3 < (x4.length : Int) then (if 4 < (x4.length : Int) then ((spec_shGood.F (rd x4 0) (rd x4 1) (rd x4 2) (rd x4 3) (rd x4 4) ((x0.size : Int) == 6)).bind fun t131 => (if t131 = true then (some (rd x4 0, rd x4 1, rd x4 2, rd x4 3, rd x4 4, ((x0.size : Int) == 6), true)) else (some (0, 0, 0, 0, 0, false, false)))) else (none)) else (none)) else (none)) else (none)) else (none))) := by
  refine Lim.succ_eq (spec_shParse.L0_lim x0 x4 x5).mon ?_
  simp only [spec_shParse.l0]
  repeat' first
  | (with_reducible exact spec_shParse.J0_lim _ _)
  | (with_reducible exact spec_shParse.L0_lim _ _ _)
  | (with_reducible exact spec_shGood.F_lim _ _ _ _ _ _)
  | (with_reducible refine Lim.ite ?_ ?_)
  | (with_reducible refine Lim.bind ?_ (fun _ => ?_))
  | (with_reducible exact Lim.const _)
theorem spec_shParse.F_eq (a0 : ByteArray) : spec_shParse.F a0 = ((spec_l1In.f (a0.size : Int) 5 6).bind fun t121 => (if t121 = true then (if (a0.size : Int) = 6 then (if 5 < (a0.size : Int) then (spec_shParse.J0 a0 ((bt a0 5) != 115)) else (none)) else (spec_shParse.J0 a0 false)) else (spec_shParse.J0 a0 true))) := by
  refine Lim.eq_ ?_
  simp only [spec_shParse.f]
  repeat' first
  | (with_reducible exact spec_shParse.J0_lim _ _)
  | (with_reducible exact spec_shParse.L0_lim _ _ _)
  | (with_reducible exact spec_shGood.F_lim _ _ _ _ _ _)
  | (with_reducible refine Lim.ite ?_ ?_)
  | (with_reducible refine Lim.bind ?_ (fun _ => ?_))
  | (with_reducible exact Lim.const _)
def spec_siPlain.l0 : Nat → List (S35) → List ByteArray → Int → Int → Option ((List (S35)))
  | 0, _, _, _, _ => none
  | k + 1, x1, x6, x7, x8 => if x8 < x7 then (if 0 ≤ x8 then (if x8 < (x6.length : Int) then ((spec_shParse.f k (rdOf ByteArray.empty x6 x8)).bind fun bt136 => (if x1.length < 2932031007402 then (spec_siPlain.l0 k (x1 ++ [(⟨bt136.1, bt136.2.1, bt136.2.2.1, bt136.2.2.2.1, bt136.2.2.2.2.1, bt136.2.2.2.2.2.1⟩ : S35)]) x6 x7 (wrap64 (x8 + 1))) else (none))) else (none)) else (none)) else (some x1)
def spec_siPlain.f (k : Nat)  : Option ((List (S35))) := (some (([(⟨#[48, 48, 48, 48, 48]⟩ : ByteArray), (⟨#[48, 48, 48, 48, 48, 115]⟩ : ByteArray), (⟨#[50, 50, 50, 50, 50]⟩ : ByteArray), (⟨#[49, 48, 48, 48, 48]⟩ : ByteArray), (⟨#[49, 48, 50, 50, 50]⟩ : ByteArray), (⟨#[48, 48, 50, 50, 50]⟩ : ByteArray)] : List ByteArray) : List ByteArray)).bind fun y132 => (spec_siPlain.l0 k ([] : List (S35)) y132 (y132.length : Int) 0)
theorem spec_siPlain.mono_l : ∀ k, (∀ y0 y1 y2 y3, LeO (spec_siPlain.l0 k y0 y1 y2 y3) (spec_siPlain.l0 (k + 1) y0 y1 y2 y3))
  | 0 => fun _ _ _ _ r h => by simp [spec_siPlain.l0] at h
  | k + 1 => by
    have ih0 := spec_siPlain.mono_l k
    · intro y0 y1 y2 y3
      unfold spec_siPlain.l0
      repeat' first
      | (with_reducible exact ih0 _ _ _ _)
      | (with_reducible exact spec_shParse.mono _ _)
      | (with_reducible exact LeO.refl _)
      | (with_reducible exact LeO.none _)
      | (with_reducible refine LeO.ite ?_ ?_)
      | (with_reducible refine LeO.bind ?_ (fun _ => ?_))
      | exact ih0 _ _ _ _
      | exact spec_shParse.mono _ _
      | exact LeO.none _
      | refine LeO.ite ?_ ?_
      | refine LeO.bind ?_ (fun _ => ?_)
theorem spec_siPlain.mono : ∀ k, LeO (spec_siPlain.f k ) (spec_siPlain.f (k + 1) ) := by
  intro  k
  have ih0 := spec_siPlain.mono_l k
  unfold spec_siPlain.f
  repeat' first
      | (with_reducible exact ih0 _ _ _ _)
      | (with_reducible exact spec_shParse.mono _ _)
      | (with_reducible exact LeO.refl _)
      | (with_reducible exact LeO.none _)
      | (with_reducible refine LeO.ite ?_ ?_)
      | (with_reducible refine LeO.bind ?_ (fun _ => ?_))
      | exact ih0 _ _ _ _
      | exact spec_shParse.mono _ _
      | exact LeO.none _
      | refine LeO.ite ?_ ?_
      | refine LeO.bind ?_ (fun _ => ?_)
noncomputable def spec_siPlain.L0 (x1 : List (S35)) (x6 : List ByteArray) (x7 : Int) (x8 : Int) : Option ((List (S35))) := lim fun k => spec_siPlain.l0 k x1 x6 x7 x8
theorem spec_siPlain.L0_lim (x1 : List (S35)) (x6 : List ByteArray) (x7 : Int) (x8 : Int) : Lim (fun k => spec_siPlain.l0 k x1 x6 x7 x8) (spec_siPlain.L0 x1 x6 x7 x8) := ⟨fun k => (spec_siPlain.mono_l k) x1 x6 x7 x8, rfl⟩
noncomputable def spec_siPlain.F  : Option ((List (S35))) := lim fun k => spec_siPlain.f k 
theorem spec_siPlain.F_lim  : Lim (fun k => spec_siPlain.f k ) (spec_siPlain.F ) := ⟨spec_siPlain.mono , rfl⟩
theorem spec_siPlain.L0_eq (x1 : List (S35)) (x6 : List ByteArray) (x7 : Int) (x8 : Int) : spec_siPlain.L0 x1 x6 x7 x8 = (if x8 < x7 then (if 0 ≤ x8 then (if x8 < (x6.length : Int) then ((spec_shParse.F (rdOf ByteArray.empty x6 x8)).bind fun bt136 => (if x1.length < 2932031007402 then (spec_siPlain.L0 (x1 ++ [(⟨bt136.1, bt136.2.1, bt136.2.2.1, bt136.2.2.2.1, bt136.2.2.2.2.1, bt136.2.2.2.2.2.1⟩ : S35)]) x6 x7 (wrap64 (x8 + 1))) else (none))) else (none)) else (none)) else (some x1)) := by
  refine Lim.succ_eq (spec_siPlain.L0_lim x1 x6 x7 x8).mon ?_
  simp only [spec_siPlain.l0]
  repeat' first
  | (with_reducible exact spec_siPlain.L0_lim _ _ _ _)
  | (with_reducible exact spec_shParse.F_lim _)
  | (with_reducible refine Lim.ite ?_ ?_)
  | (with_reducible refine Lim.bind ?_ (fun _ => ?_))
  | (with_reducible exact Lim.const _)
theorem spec_siPlain.F_eq  : spec_siPlain.F  = ((some (([(⟨#[48, 48, 48, 48, 48]⟩ : ByteArray), (⟨#[48, 48, 48, 48, 48, 115]⟩ : ByteArray), (⟨#[50, 50, 50, 50, 50]⟩ : ByteArray), (⟨#[49, 48, 48, 48, 48]⟩ : ByteArray), (⟨#[49, 48, 50, 50, 50]⟩ : ByteArray), (⟨#[48, 48, 50, 50, 50]⟩ : ByteArray)] : List ByteArray) : List ByteArray)).bind fun y132 => (spec_siPlain.L0 ([] : List (S35)) y132 (y132.length : Int) 0)) := by
  refine Lim.eq_ ?_
  simp only [spec_siPlain.f]
  repeat' first
  | (with_reducible exact spec_siPlain.L0_lim _ _ _ _)
  | (with_reducible exact spec_shParse.F_lim _)
  | (with_reducible refine Lim.ite ?_ ?_)
  | (with_reducible refine Lim.bind ?_ (fun _ => ?_))
  | (with_reducible exact Lim.const _)
def spec_PlainShapes.f (k : Nat)  : Option ((List (S35))) := (spec_siPlain.f k).bind fun t147 => (some t147)
theorem spec_PlainShapes.mono : ∀ k, LeO (spec_PlainShapes.f k ) (spec_PlainShapes.f (k + 1) ) := by
  intro  k
  unfold spec_PlainShapes.f
  repeat' first
      | (with_reducible exact spec_siPlain.mono _)
      | (with_reducible exact LeO.refl _)
      | (with_reducible exact LeO.none _)
      | (with_reducible refine LeO.ite ?_ ?_)
      | (with_reducible refine LeO.bind ?_ (fun _ => ?_))
      | exact spec_siPlain.mono _
      | exact LeO.none _
      | refine LeO.ite ?_ ?_
      | refine LeO.bind ?_ (fun _ => ?_)
noncomputable def spec_PlainShapes.F  : Option ((List (S35))) := lim fun k => spec_PlainShapes.f k 
theorem spec_PlainShapes.F_lim  : Lim (fun k => spec_PlainShapes.f k ) (spec_PlainShapes.F ) := ⟨spec_PlainShapes.mono , rfl⟩
theorem spec_PlainShapes.F_eq  : spec_PlainShapes.F  = ((spec_siPlain.F).bind fun t147 => (some t147)) := by
  refine Lim.eq_ ?_
  simp only [spec_PlainShapes.f]
  repeat' first
  | (with_reducible exact spec_siPlain.F_lim)
  | (with_reducible refine Lim.ite ?_ ?_)
  | (with_reducible refine Lim.bind ?_ (fun _ => ?_))
  | (with_reducible exact Lim.const _)
def impl_Shape_bends.f (a0_0 : Int) (a0_1 : Int) (a0_2 : Int) (a0_3 : Int) (a0_4 : Int) (a0_5 : Bool) : Option (List Int) := some (([a0_1, a0_2, a0_3, a0_4] : List Int))
def impl_within.f (a0 : Int) (a1 : Int) (a2 : Int) : Option (Bool) := if a0 ≥ a1 then (some (decide (a0 ≤ a2))) else (some false)
def impl_allWithin_1.f (a0 : Int) (a1_0 : Int) (a2_0 : Int) : Option (Bool) := (impl_within.f a0 a1_0 a2_0).bind fun t154 => (some (!t154))
def slices_IndexFunc_int_impl_allWithin_1.l0 : Nat → List Int → Int → Int → Int → Int → Option (Int)
  | 0, _, _, _, _, _ => none
  | k + 1, x0, x7, x8, x39000, x40000 => if x8 < x7 then (if 0 ≤ x8 then (if x8 < (x0.length : Int) then ((impl_allWithin_1.f (rd x0 x8) x39000 x40000).bind fun t156 => (if t156 = true then (some x8) else (slices_IndexFunc_int_impl_allWithin_1.l0 k x0 x7 (wrap64 (x8 + 1)) x39000 x40000))) else (none)) else (none)) else (some (-1))
def slices_IndexFunc_int_impl_allWithin_1.f (k : Nat) (l0 : List Int) (a1_0 : Int) (a1_1 : Int) : Option (Int) := slices_IndexFunc_int_impl_allWithin_1.l0 k l0 (l0.length : Int) 0 a1_0 a1_1
theorem slices_IndexFunc_int_impl_allWithin_1.mono_l : ∀ k, (∀ y0 y1 y2 y3 y4, LeO (slices_IndexFunc_int_impl_allWithin_1.l0 k y0 y1 y2 y3 y4) (slices_IndexFunc_int_impl_allWithin_1.l0 (k + 1) y0 y1 y2 y3 y4))
  | 0 => fun _ _ _ _ _ r h => by simp [slices_IndexFunc_int_impl_allWithin_1.l0] at h
  | k + 1 => by
    have ih0 := slices_IndexFunc_int_impl_allWithin_1.mono_l k
    · intro y0 y1 y2 y3 y4
      unfold slices_IndexFunc_int_impl_allWithin_1.l0
      repeat' first
      | (with_reducible exact ih0 _ _ _ _ _)
      | (with_reducible exact LeO.refl _)
      | (with_reducible exact LeO.none _)
      | (with_reducible refine LeO.ite ?_ ?_)
      | (with_reducible refine LeO.bind ?_ (fun _ => ?_))
      | exact ih0 _ _ _ _ _
      | exact LeO.none _
      | refine LeO.ite ?_ ?_
      | refine LeO.bind ?_ (fun _ => ?_)
theorem slices_IndexFunc_int_impl_allWithin_1.mono : ∀ a0 a1 a2 k, LeO (slices_IndexFunc_int_impl_allWithin_1.f k a0 a1 a2) (slices_IndexFunc_int_impl_allWithin_1.f (k + 1) a0 a1 a2) := by
  intro a0 a1 a2 k
  have ih0 := slices_IndexFunc_int_impl_allWithin_1.mono_l k
  unfold slices_IndexFunc_int_impl_allWithin_1.f
  repeat' first
      | (with_reducible exact ih0 _ _ _ _ _)
      | (with_reducible exact LeO.refl _)
      | (with_reducible exact LeO.none _)
      | (with_reducible refine LeO.ite ?_ ?_)
      | (with_reducible refine LeO.bind ?_ (fun _ => ?_))
      | exact ih0 _ _ _ _ _
      | exact LeO.none _
      | refine LeO.ite ?_ ?_
      | refine LeO.bind ?_ (fun _ => ?_)
noncomputable def slices_IndexFunc_int_impl_allWithin_1.L0 (x0 : List Int) (x7 : Int) (x8 : Int) (x39000 : Int) (x40000 : Int) : Option (Int) := lim fun k => slices_IndexFunc_int_impl_allWithin_1.l0 k x0 x7 x8 x39000 x40000
theorem slices_IndexFunc_int_impl_allWithin_1.L0_lim (x0 : List Int) (x7 : Int) (x8 : Int) (x39000 : Int) (x40000 : Int) : Lim (fun k => slices_IndexFunc_int_impl_allWithin_1.l0 k x0 x7 x8 x39000 x40000) (slices_IndexFunc_int_impl_allWithin_1.L0 x0 x7 x8 x39000 x40000) := ⟨fun k => (slices_IndexFunc_int_impl_allWithin_1.mono_l k) x0 x7 x8 x39000 x40000, rfl⟩
noncomputable def slices_IndexFunc_int_impl_allWithin_1.F (l0 : List Int) (a1_0 : Int) (a1_1 : Int) : Option (Int) := lim fun k => slices_IndexFunc_int_impl_allWithin_1.f k l0 a1_0 a1_1
theorem slices_IndexFunc_int_impl_allWithin_1.F_lim (l0 : List Int) (a1_0 : Int) (a1_1 : Int) : Lim (fun k => slices_IndexFunc_int_impl_allWithin_1.f k l0 a1_0 a1_1) (slices_IndexFunc_int_impl_allWithin_1.F l0 a1_0 a1_1) := ⟨slices_IndexFunc_int_impl_allWithin_1.mono l0 a1_0 a1_1, rfl⟩
theorem slices_IndexFunc_int_impl_allWithin_1.L0_eq (x0 : List Int) (x7 : Int) (x8 : Int) (x39000 : Int) (x40000 : Int) : slices_IndexFunc_int_impl_allWithin_1.L0 x0 x7 x8 x39000 x40000 = (if x8 < x7 then (if 0 ≤ x8 then (if x8 < (x0.length : Int) then ((impl_allWithin_1.f (rd x0 x8) x39000 x40000).bind fun t156 => (if t156 = true then (some x8) else (slices_IndexFunc_int_impl_allWithin_1.L0 x0 x7 (wrap64 (x8 + 1)) x39000 x40000))) else (none)) else (none)) else (some (-1))) := by
  refine Lim.succ_eq (slices_IndexFunc_int_impl_allWithin_1.L0_lim x0 x7 x8 x39000 x40000).mon ?_
  simp only [slices_IndexFunc_int_impl_allWithin_1.l0]
  repeat' first
  | (with_reducible exact slices_IndexFunc_int_impl_allWithin_1.L0_lim _ _ _ _ _)
  | (with_reducible refine Lim.ite ?_ ?_)
  | (with_reducible refine Lim.bind ?_ (fun _ => ?_))
  | (with_reducible exact Lim.const _)
theorem slices_IndexFunc_int_impl_allWithin_1.F_eq (l0 : List Int) (a1_0 : Int) (a1_1 : Int) : slices_IndexFunc_int_impl_allWithin_1.F l0 a1_0 a1_1 = (slices_IndexFunc_int_impl_allWithin_1.L0 l0 (l0.length : Int) 0 a1_0 a1_1) := by
  refine Lim.eq_ ?_
  simp only [slices_IndexFunc_int_impl_allWithin_1.f]
  repeat' first
  | (with_reducible exact slices_IndexFunc_int_impl_allWithin_1.L0_lim _ _ _ _ _)
  | (with_reducible refine Lim.ite ?_ ?_)
  | (with_reducible refine Lim.bind ?_ (fun _ => ?_))
  | (with_reducible exact Lim.const _)
def slices_ContainsFunc_int_impl_allWithin_1.f (k : Nat) (l0 : List Int) (a1_0 : Int) (a1_1 : Int) : Option (Bool) := (slices_IndexFunc_int_impl_allWithin_1.f k l0 a1_0 a1_1).bind fun t157 => (some (decide (t157 ≥ 0)))
theorem slices_ContainsFunc_int_impl_allWithin_1.mono : ∀ a0 a1 a2 k, LeO (slices_ContainsFunc_int_impl_allWithin_1.f k a0 a1 a2) (slices_ContainsFunc_int_impl_allWithin_1.f (k + 1) a0 a1 a2) := by
  intro a0 a1 a2 k
  unfold slices_ContainsFunc_int_impl_allWithin_1.f
  repeat' first
      | (with_reducible exact slices_IndexFunc_int_impl_allWithin_1.mono _ _ _ _)
      | (with_reducible exact LeO.refl _)
      | (with_reducible exact LeO.none _)
      | (with_reducible refine LeO.ite ?_ ?_)
      | (with_reducible refine LeO.bind ?_ (fun _ => ?_))
      | exact slices_IndexFunc_int_impl_allWithin_1.mono _ _ _ _
      | exact LeO.none _
      | refine LeO.ite ?_ ?_
      | refine LeO.bind ?_ (fun _ => ?_)
noncomputable def slices_ContainsFunc_int_impl_allWithin_1.F (l0 : List Int) (a1_0 : Int) (a1_1 : Int) : Option (Bool) := lim fun k => slices_ContainsFunc_int_impl_allWithin_1.f k l0 a1_0 a1_1
theorem slices_ContainsFunc_int_impl_allWithin_1.F_lim (l0 : List Int) (a1_0 : Int) (a1_1 : Int) : Lim (fun k => slices_ContainsFunc_int_impl_allWithin_1.f k l0 a1_0 a1_1) (slices_ContainsFunc_int_impl_allWithin_1.F l0 a1_0 a1_1) := ⟨slices_ContainsFunc_int_impl_allWithin_1.mono l0 a1_0 a1_1, rfl⟩
theorem slices_ContainsFunc_int_impl_allWithin_1.F_eq (l0 : List Int) (a1_0 : Int) (a1_1 : Int) : slices_ContainsFunc_int_impl_allWithin_1.F l0 a1_0 a1_1 = ((slices_IndexFunc_int_impl_allWithin_1.F l0 a1_0 a1_1).bind fun t157 => (some (decide (t157 ≥ 0)))) := by
  refine Lim.eq_ ?_
  simp only [slices_ContainsFunc_int_impl_allWithin_1.f]
  repeat' first
  | (with_reducible exact slices_IndexFunc_int_impl_allWithin_1.F_lim _ _ _)
  | (with_reducible refine Lim.ite ?_ ?_)
  | (with_reducible refine Lim.bind ?_ (fun _ => ?_))
  | (with_reducible exact Lim.const _)
def impl_allWithin.f (k : Nat) (l0 : List Int) (a1 : Int) (a2 : Int) : Option (Bool) := (slices_ContainsFunc_int_impl_allWithin_1.f k l0 a1 a2).bind fun t160 => (some (!t160))
theorem impl_allWithin.mono : ∀ a0 a1 a2 k, LeO (impl_allWithin.f k a0 a1 a2) (impl_allWithin.f (k + 1) a0 a1 a2) := by
  intro a0 a1 a2 k
  unfold impl_allWithin.f
  repeat' first
      | (with_reducible exact slices_ContainsFunc_int_impl_allWithin_1.mono _ _ _ _)
      | (with_reducible exact LeO.refl _)
      | (with_reducible exact LeO.none _)
      | (with_reducible refine LeO.ite ?_ ?_)
      | (with_reducible refine LeO.bind ?_ (fun _ => ?_))
      | exact slices_ContainsFunc_int_impl_allWithin_1.mono _ _ _ _
      | exact LeO.none _
      | refine LeO.ite ?_ ?_
      | refine LeO.bind ?_ (fun _ => ?_)
noncomputable def impl_allWithin.F (l0 : List Int) (a1 : Int) (a2 : Int) : Option (Bool) := lim fun k => impl_allWithin.f k l0 a1 a2
theorem impl_allWithin.F_lim (l0 : List Int) (a1 : Int) (a2 : Int) : Lim (fun k => impl_allWithin.f k l0 a1 a2) (impl_allWithin.F l0 a1 a2) := ⟨impl_allWithin.mono l0 a1 a2, rfl⟩
theorem impl_allWithin.F_eq (l0 : List Int) (a1 : Int) (a2 : Int) : impl_allWithin.F l0 a1 a2 = ((slices_ContainsFunc_int_impl_allWithin_1.F l0 a1 a2).bind fun t160 => (some (!t160))) := by
  refine Lim.eq_ ?_
  simp only [impl_allWithin.f]
  repeat' first
  | (with_reducible exact slices_ContainsFunc_int_impl_allWithin_1.F_lim _ _ _)
  | (with_reducible refine Lim.ite ?_ ?_)
  | (with_reducible refine Lim.bind ?_ (fun _ => ?_))
  | (with_reducible exact Lim.const _)
def impl_Shape_maySpread.f (a0_0 : Int) (a0_1 : Int) (a0_2 : Int) (a0_3 : Int) (a0_4 : Int) (a0_5 : Bool) : Option (Bool) := if a0_2 = 0 then (if a0_1 = 0 then (some true) else (if a0_3 = 0 then (some true) else (some false))) else (if a0_3 = 0 then (some (a0_4 == 0)) else (some false))
def impl_IsShape.f (k : Nat) (a0_0 : Int) (a0_1 : Int) (a0_2 : Int) (a0_3 : Int) (a0_4 : Int) (a0_5 : Bool) : Option (Bool) := (some (([a0_0] : List Int) : List Int)).bind fun y163 => ((impl_Shape_bends.f a0_0 a0_1 a0_2 a0_3 a0_4 a0_5).bind fun t166 => (if y163.length + t166.length < 17592186044416 then ((impl_allWithin.f k (y163 ++ t166) 0 2).bind fun t172 => (if t172 = true then (if a0_5 = true then ((impl_Shape_maySpread.f a0_0 a0_1 a0_2 a0_3 a0_4 a0_5).bind fun t173 => (some t173)) else (some true)) else (some false))) else (none)))
theorem impl_IsShape.mono : ∀ a0 a1 a2 a3 a4 a5 k, LeO (impl_IsShape.f k a0 a1 a2 a3 a4 a5) (impl_IsShape.f (k + 1) a0 a1 a2 a3 a4 a5) := by
  intro a0 a1 a2 a3 a4 a5 k
  unfold impl_IsShape.f
  repeat' first
      | (with_reducible exact impl_allWithin.mono _ _ _ _)
      | (with_reducible exact LeO.refl _)
      | (with_reducible exact LeO.none _)
      | (with_reducible refine LeO.ite ?_ ?_)
      | (with_reducible refine LeO.bind ?_ (fun _ => ?_))
      | exact impl_allWithin.mono _ _ _ _
      | exact LeO.none _
      | refine LeO.ite ?_ ?_
      | refine LeO.bind ?_ (fun _ => ?_)
noncomputable def impl_IsShape.F (a0_0 : Int) (a0_1 : Int) (a0_2 : Int) (a0_3 : Int) (a0_4 : Int) (a0_5 : Bool) : Option (Bool) := lim fun k => impl_IsShape.f k a0_0 a0_1 a0_2 a0_3 a0_4 a0_5
theorem impl_IsShape.F_lim (a0_0 : Int) (a0_1 : Int) (a0_2 : Int) (a0_3 : Int) (a0_4 : Int) (a0_5 : Bool) : Lim (fun k => impl_IsShape.f k a0_0 a0_1 a0_2 a0_3 a0_4 a0_5) (impl_IsShape.F a0_0 a0_1 a0_2 a0_3 a0_4 a0_5) := ⟨impl_IsShape.mono a0_0 a0_1 a0_2 a0_3 a0_4 a0_5, rfl⟩
theorem impl_IsShape.F_eq (a0_0 : Int) (a0_1 : Int) (a0_2 : Int) (a0_3 : Int) (a0_4 : Int) (a0_5 : Bool) : impl_IsShape.F a0_0 a0_1 a0_2 a0_3 a0_4 a0_5 = ((some (([a0_0] : List Int) : List Int)).bind fun y163 => ((impl_Shape_bends.f a0_0 a0_1 a0_2 a0_3 a0_4 a0_5).bind fun t166 => (if y163.length + t166.length < 17592186044416 then ((impl_allWithin.F (y163 ++ t166) 0 2).bind fun t172 => (if t172 = true then (if a0_5 = true then ((impl_Shape_maySpread.f a0_0 a0_1 a0_2 a0_3 a0_4 a0_5).bind fun t173 => (some t173)) else (some true)) else (some false))) else (none)))) := by
  refine Lim.eq_ ?_
  simp only [impl_IsShape.f]
  repeat' first
  | (with_reducible exact impl_allWithin.F_lim _ _ _)
  | (with_reducible refine Lim.ite ?_ ?_)
  | (with_reducible refine Lim.bind ?_ (fun _ => ?_))
  | (with_reducible exact Lim.const _)
def strconv_Itoa.f (a0 : Int) : Option (ByteArray) := if 0 ≤ a0 ∧ a0 < 100 then some ⟨(Lib.decDigits a0.toNat).toArray⟩ else none
def impl_Shape_text.l0 : Nat → ByteArray → List Int → Int → Int → Int → Int → Int → Int → Int → Bool → Option (ByteArray)
  | 0, _, _, _, _, _, _, _, _, _, _ => none
  | k + 1, x3, x10, x11, x12, x175000, x175001, x175002, x175003, x175004, x175005 => if x12 < x11 then (if 0 ≤ x12 then (if x12 < (x10.length : Int) then ((strconv_Itoa.f (rd x10 x12)).bind fun t180 => (if x3.size + t180.size ≤ 9223372036854775807 then (impl_Shape_text.l0 k (x3 ++ t180) x10 x11 (wrap64 (x12 + 1)) x175000 x175001 x175002 x175003 x175004 x175005) else (none))) else (none)) else (none)) else (if x175005 = true then (if x3.size + 1 ≤ 9223372036854775807 then (some (x3 ++ (⟨#[115]⟩ : ByteArray))) else (none)) else (some x3))
def impl_Shape_text.f (k : Nat) (a0_0 : Int) (a0_1 : Int) (a0_2 : Int) (a0_3 : Int) (a0_4 : Int) (a0_5 : Bool) : Option (ByteArray) := (strconv_Itoa.f a0_0).bind fun t175 => ((impl_Shape_bends.f a0_0 a0_1 a0_2 a0_3 a0_4 a0_5).bind fun t176 => (impl_Shape_text.l0 k t175 t176 (t176.length : Int) 0 a0_0 a0_1 a0_2 a0_3 a0_4 a0_5))
theorem impl_Shape_text.mono_l : ∀ k, (∀ y0 y1 y2 y3 y4 y5 y6 y7 y8 y9, LeO (impl_Shape_text.l0 k y0 y1 y2 y3 y4 y5 y6 y7 y8 y9) (impl_Shape_text.l0 (k + 1) y0 y1 y2 y3 y4 y5 y6 y7 y8 y9))
  | 0 => fun _ _ _ _ _ _ _ _ _ _ r h => by simp [impl_Shape_text.l0] at h
  | k + 1 => by
    have ih0 := impl_Shape_text.mono_l k
    · intro y0 y1 y2 y3 y4 y5 y6 y7 y8 y9
      unfold impl_Shape_text.l0
      repeat' first
      | (with_reducible exact ih0 _ _ _ _ _ _ _ _ _ _)
      | (with_reducible exact LeO.refl _)
      | (with_reducible exact LeO.none _)
      | (with_reducible refine LeO.ite ?_ ?_)
      | (with_reducible refine LeO.bind ?_ (fun _ => ?_))
      | exact ih0 _ _ _ _ _ _ _ _ _ _
      | exact LeO.none _
      | refine LeO.ite ?_ ?_
      | refine LeO.bind ?_ (fun _ => ?_)
theorem impl_Shape_text.mono : ∀ a0 a1 a2 a3 a4 a5 k, LeO (impl_Shape_text.f k a0 a1 a2 a3 a4 a5) (impl_Shape_text.f (k + 1) a0 a1 a2 a3 a4 a5) := by
  intro a0 a1 a2 a3 a4 a5 k
  have ih0 := impl_Shape_text.mono_l k
  unfold impl_Shape_text.f
  repeat' first
      | (with_reducible exact ih0 _ _ _ _ _ _ _ _ _ _)
      | (with_reducible exact LeO.refl _)
      | (with_reducible exact LeO.none _)
      | (with_reducible refine LeO.ite ?_ ?_)
      | (with_reducible refine LeO.bind ?_ (fun _ => ?_))
      | exact ih0 _ _ _ _ _ _ _ _ _ _
      | exact LeO.none _
      | refine LeO.ite ?_ ?_
      | refine LeO.bind ?_ (fun _ => ?_)
noncomputable def impl_Shape_text.L0 (x3 : ByteArray) (x10 : List Int) (x11 : Int) (x12 : Int) (x175000 : Int) (x175001 : Int) (x175002 : Int) (x175003 : Int) (x175004 : Int) (x175005 : Bool) : Option (ByteArray) := lim fun k => impl_Shape_text.l0 k x3 x10 x11 x12 x175000 x175001 x175002 x175003 x175004 x175005
theorem impl_Shape_text.L0_lim (x3 : ByteArray) (x10 : List Int) (x11 : Int) (x12 : Int) (x175000 : Int) (x175001 : Int) (x175002 : Int) (x175003 : Int) (x175004 : Int) (x175005 : Bool) : Lim (fun k => impl_Shape_text.l0 k x3 x10 x11 x12 x175000 x175001 x175002 x175003 x175004 x175005) (impl_Shape_text.L0 x3 x10 x11 x12 x175000 x175001 x175002 x175003 x175004 x175005) := ⟨fun k => (impl_Shape_text.mono_l k) x3 x10 x11 x12 x175000 x175001 x175002 x175003 x175004 x175005, rfl⟩
noncomputable def impl_Shape_text.F (a0_0 : Int) (a0_1 : Int) (a0_2 : Int) (a0_3 : Int) (a0_4 : Int) (a0_5 : Bool) : Option (ByteArray) := lim fun k => impl_Shape_text.f k a0_0 a0_1 a0_2 a0_3 a0_4 a0_5
theorem impl_Shape_text.F_lim (a0_0 : Int) (a0_1 : Int) (a0_2 : Int) (a0_3 : Int) (a0_4 : Int) (a0_5 : Bool) : Lim (fun k => impl_Shape_text.f k a0_0 a0_1 a0_2 a0_3 a0_4 a0_5) (impl_Shape_text.F a0_0 a0_1 a0_2 a0_3 a0_4 a0_5) := ⟨impl_Shape_text.mono a0_0 a0_1 a0_2 a0_3 a0_4 a0_5, rfl⟩
theorem impl_Shape_text.L0_eq (x3 : ByteArray) (x10 : List Int) (x11 : Int) (x12 : Int) (x175000 : Int) (x175001 : Int) (x175002 : Int) (x175003 : Int) (x175004 : Int) (x175005 : Bool) : impl_Shape_text.L0 x3 x10 x11 x12 x175000 x175001 x175002 x175003 x175004 x175005 = (if x12 < x11 then (if 0 ≤ x12 then (if x12 < (x10.length : Int) then ((strconv_Itoa.f (rd x10 x12)).bind fun t180 => (if x3.size + t180.size ≤ 9223372036854775807 then (impl_Shape_text.L0 (x3 ++ t180) x10 x11 (wrap64 (x12 + 1)) x175000 x175001 x175002 x175003 x175004 x175005) else (none))) else (none)) else (none)) else (if x175005 = true then (if x3.size + 1 ≤ 9223372036854775807 then (some (x3 ++ (⟨#[115]⟩ : ByteArray))) else (none)) else (some x3))) := by
  refine Lim.succ_eq (impl_Shape_text.L0_lim x3 x10 x11 x12 x175000 x175001 x175002 x175003 x175004 x175005).mon ?_
  simp only [impl_Shape_text.l0]
  repeat' first
  | (with_reducible exact impl_Shape_text.L0_lim _ _ _ _ _ _ _ _ _ _)
  | (with_reducible refine Lim.ite ?_ ?_)
  | (with_reducible refine Lim.bind ?_ (fun _ => ?_))
  | (with_reducible exact Lim.const _)
theorem impl_Shape_text.F_eq (a0_0 : Int) (a0_1 : Int) (a0_2 : Int) (a0_3 : Int) (a0_4 : Int) (a0_5 : Bool) : impl_Shape_text.F a0_0 a0_1 a0_2 a0_3 a0_4 a0_5 = ((strconv_Itoa.f a0_0).bind fun t175 => ((impl_Shape_bends.f a0_0 a0_1 a0_2 a0_3 a0_4 a0_5).bind fun t176 => (impl_Shape_text.L0 t175 t176 (t176.length : Int) 0 a0_0 a0_1 a0_2 a0_3 a0_4 a0_5))) := by
  refine Lim.eq_ ?_
  simp only [impl_Shape_text.f]
  repeat' first
  | (with_reducible exact impl_Shape_text.L0_lim _ _ _ _ _ _ _ _ _ _)
  | (with_reducible refine Lim.ite ?_ ?_)
  | (with_reducible refine Lim.bind ?_ (fun _ => ?_))
  | (with_reducible exact Lim.const _)
def impl_Shape_with.f (a0_0 : Int) (a0_1 : Int) (a0_2 : Int) (a0_3 : Int) (a0_4 : Int) (a0_5 : Bool) (a1 : Int) (a2 : Int) : Option (Int × Int × Int × Int × Int × Bool) := if a1 = 0 then (if a0_5 = true then ((impl_Shape_maySpread.f a2 a0_1 a0_2 a0_3 a0_4 a0_5).bind fun t183 => (some (a2, a0_1, a0_2, a0_3, a0_4, t183))) else (some (a2, a0_1, a0_2, a0_3, a0_4, false))) else (if a1 = 1 then (if a0_5 = true then ((impl_Shape_maySpread.f a0_0 a2 a0_2 a0_3 a0_4 a0_5).bind fun t184 => (some (a0_0, a2, a0_2, a0_3, a0_4, t184))) else (some (a0_0, a2, a0_2, a0_3, a0_4, false))) else (if a1 = 2 then (if a0_5 = true then ((impl_Shape_maySpread.f a0_0 a0_1 a2 a0_3 a0_4 a0_5).bind fun t185 => (some (a0_0, a0_1, a2, a0_3, a0_4, t185))) else (some (a0_0, a0_1, a2, a0_3, a0_4, false))) else (if a1 = 3 then (if a0_5 = true then ((impl_Shape_maySpread.f a0_0 a0_1 a0_2 a2 a0_4 a0_5).bind fun t186 => (some (a0_0, a0_1, a0_2, a2, a0_4, t186))) else (some (a0_0, a0_1, a0_2, a2, a0_4, false))) else (if a0_5 = true then ((impl_Shape_maySpread.f a0_0 a0_1 a0_2 a0_3 a2 a0_5).bind fun t187 => (some (a0_0, a0_1, a0_2, a0_3, a2, t187))) else (some (a0_0, a0_1, a0_2, a0_3, a2, false))))))
def impl_ParseShape.l0 : Nat → ByteArray → Int → Int → Int → Int → Int → Int → Bool → Option (Int × Int × Int × Int × Int × Bool × Bool)
  | 0, _, _, _, _, _, _, _, _ => none
  | k + 1, x0, x11, x191000, x191001, x191002, x191003, x191004, x191005 => if x11 < 5 then (if 0 ≤ x11 then (if x11 < (x0.size : Int) then ((impl_Shape_with.f x191000 x191001 x191002 x191003 x191004 x191005 x11 (wrap64 ((wrap64 (bt x0 x11)) - 48))).bind fun bt191 => (impl_ParseShape.l0 k x0 (wrap64 (x11 + 1)) bt191.1 bt191.2.1 bt191.2.2.1 bt191.2.2.2.1 bt191.2.2.2.2.1 bt191.2.2.2.2.2)) else (none)) else (none)) else ((impl_IsShape.f k x191000 x191001 x191002 x191003 x191004 ((x0.size : Int) == 6)).bind fun t197 => (if t197 = true then ((impl_Shape_text.f k x191000 x191001 x191002 x191003 x191004 ((x0.size : Int) == 6)).bind fun t198 => (if t198.toList = x0.toList then (some (x191000, x191001, x191002, x191003, x191004, ((x0.size : Int) == 6), true)) else (some (0, 0, 0, 0, 0, false, false)))) else (some (0, 0, 0, 0, 0, false, false))))
def impl_ParseShape.f (k : Nat) (a0 : ByteArray) : Option (Int × Int × Int × Int × Int × Bool × Bool) := (impl_within.f (a0.size : Int) 5 6).bind fun t189 => (if t189 = true then (impl_ParseShape.l0 k a0 0 0 0 0 0 0 false) else (some (0, 0, 0, 0, 0, false, false)))
theorem impl_ParseShape.mono_l : ∀ k, (∀ y0 y1 y2 y3 y4 y5 y6 y7, LeO (impl_ParseShape.l0 k y0 y1 y2 y3 y4 y5 y6 y7) (impl_ParseShape.l0 (k + 1) y0 y1 y2 y3 y4 y5 y6 y7))
  | 0 => fun _ _ _ _ _ _ _ _ r h => by simp [impl_ParseShape.l0] at h
  | k + 1 => by
    have ih0 := impl_ParseShape.mono_l k
    · intro y0 y1 y2 y3 y4 y5 y6 y7
      unfold impl_ParseShape.l0
      repeat' first
      | (with_reducible exact ih0 _ _ _ _ _ _ _ _)
      | (with_reducible exact impl_IsShape.mono _ _ _ _ _ _ _)
      | (with_reducible exact impl_Shape_text.mono _ _ _ _ _ _ _)
      | (with_reducible exact LeO.refl _)
      | (with_reducible exact LeO.none _)
      | (with_reducible refine LeO.ite ?_ ?_)
      | (with_reducible refine LeO.bind ?_ (fun _ => ?_))
      | exact ih0 _ _ _ _ _ _ _ _
      | exact impl_IsShape.mono _ _ _ _ _ _ _
      | exact impl_Shape_text.mono _ _ _ _ _ _ _
      | exact LeO.none _
      | refine LeO.ite ?_ ?_
      | refine LeO.bind ?_ (fun _ => ?_)
theorem impl_ParseShape.mono : ∀ a0 k, LeO (impl_ParseShape.f k a0) (impl_ParseShape.f (k + 1) a0) := by
  intro a0 k
  have ih0 := impl_ParseShape.mono_l k
  unfold impl_ParseShape.f
  repeat' first
      | (with_reducible exact ih0 _ _ _ _ _ _ _ _)
      | (with_reducible exact impl_IsShape.mono _ _ _ _ _ _ _)
      | (with_reducible exact impl_Shape_text.mono _ _ _ _ _ _ _)
      | (with_reducible exact LeO.refl _)
      | (with_reducible exact LeO.none _)
      | (with_reducible refine LeO.ite ?_ ?_)
      | (with_reducible refine LeO.bind ?_ (fun _ => ?_))
      | exact ih0 _ _ _ _ _ _ _ _
      | exact impl_IsShape.mono _ _ _ _ _ _ _
      | exact impl_Shape_text.mono _ _ _ _ _ _ _
      | exact LeO.none _
      | refine LeO.ite ?_ ?_
      | refine LeO.bind ?_ (fun _ => ?_)
noncomputable def impl_ParseShape.L0 (x0 : ByteArray) (x11 : Int) (x191000 : Int) (x191001 : Int) (x191002 : Int) (x191003 : Int) (x191004 : Int) (x191005 : Bool) : Option (Int × Int × Int × Int × Int × Bool × Bool) := lim fun k => impl_ParseShape.l0 k x0 x11 x191000 x191001 x191002 x191003 x191004 x191005
theorem impl_ParseShape.L0_lim (x0 : ByteArray) (x11 : Int) (x191000 : Int) (x191001 : Int) (x191002 : Int) (x191003 : Int) (x191004 : Int) (x191005 : Bool) : Lim (fun k => impl_ParseShape.l0 k x0 x11 x191000 x191001 x191002 x191003 x191004 x191005) (impl_ParseShape.L0 x0 x11 x191000 x191001 x191002 x191003 x191004 x191005) := ⟨fun k => (impl_ParseShape.mono_l k) x0 x11 x191000 x191001 x191002 x191003 x191004 x191005, rfl⟩
noncomputable def impl_ParseShape.F (a0 : ByteArray) : Option (Int × Int × Int × Int × Int × Bool × Bool) := lim fun k => impl_ParseShape.f k a0
theorem impl_ParseShape.F_lim (a0 : ByteArray) : Lim (fun k => impl_ParseShape.f k a0) (impl_ParseShape.F a0) := ⟨impl_ParseShape.mono a0, rfl⟩
theorem impl_ParseShape.L0_eq (x0 : ByteArray) (x11 : Int) (x191000 : Int) (x191001 : Int) (x191002 : Int) (x191003 : Int) (x191004 : Int) (x191005 : Bool) : impl_ParseShape.L0 x0 x11 x191000 x191001 x191002 x191003 x191004 x191005 = (if x11 < 5 then (if 0 ≤ x11 then (if x11 < (x0.size : Int) then ((impl_Shape_with.f x191000 x191001 x191002 x191003 x191004 x191005 x11 (wrap64 ((wrap64 (bt x0 x11)) - 48))).bind fun bt191 => (impl_ParseShape.L0 x0 (wrap64 (x11 + 1)) bt191.1 bt191.2.1 bt191.2.2.1 bt191.2.2.2.1 bt191.2.2.2.2.1 bt191.2.2.2.2.2)) else (none)) else (none)) else ((impl_IsShape.F x191000 x191001 x191002 x191003 x191004 ((x0.size : Int) == 6)).bind fun t197 => (if t197 = true then ((impl_Shape_text.F x191000 x191001 x191002 x191003 x191004 ((x0.size : Int) == 6)).bind fun t198 => (if t198.toList = x0.toList then (some (x191000, x191001, x191002, x191003, x191004, ((x0.size : Int) == 6), true)) else (some (0, 0, 0, 0, 0, false, false)))) else (some (0, 0, 0, 0, 0, false, false))))) := by
  refine Lim.succ_eq (impl_ParseShape.L0_lim x0 x11 x191000 x191001 x191002 x191003 x191004 x191005).mon ?_
  simp only [impl_ParseShape.l0]
  repeat' first
  | (with_reducible exact impl_ParseShape.L0_lim _ _ _ _ _ _ _ _)
  | (with_reducible exact impl_IsShape.F_lim _ _ _ _ _ _)
  | (with_reducible exact impl_Shape_text.F_lim _ _ _ _ _ _)
  | (with_reducible refine Lim.ite ?_ ?_)
  | (with_reducible refine Lim.bind ?_ (fun _ => ?_))
  | (with_reducible exact Lim.const _)
theorem impl_ParseShape.F_eq (a0 : ByteArray) : impl_ParseShape.F a0 = ((impl_within.f (a0.size : Int) 5 6).bind fun t189 => (if t189 = true then (impl_ParseShape.L0 a0 0 0 0 0 0 0 false) else (some (0, 0, 0, 0, 0, false, false)))) := by
  refine Lim.eq_ ?_
  simp only [impl_ParseShape.f]
  repeat' first
  | (with_reducible exact impl_ParseShape.L0_lim _ _ _ _ _ _ _ _)
  | (with_reducible exact impl_IsShape.F_lim _ _ _ _ _ _)
  | (with_reducible exact impl_Shape_text.F_lim _ _ _ _ _ _)
  | (with_reducible refine Lim.ite ?_ ?_)
  | (with_reducible refine Lim.bind ?_ (fun _ => ?_))
  | (with_reducible exact Lim.const _)
def impl_PlainShapes.l0 : Nat → List (S35) → List ByteArray → Int → Int → Option ((List (S35)))
  | 0, _, _, _, _ => none
  | k + 1, x1, x6, x7, x8 => if x8 < x7 then (if 0 ≤ x8 then (if x8 < (x6.length : Int) then ((impl_ParseShape.f k (rdOf ByteArray.empty x6 x8)).bind fun bt203 => (if x1.length < 2932031007402 then (impl_PlainShapes.l0 k (x1 ++ [(⟨bt203.1, bt203.2.1, bt203.2.2.1, bt203.2.2.2.1, bt203.2.2.2.2.1, bt203.2.2.2.2.2.1⟩ : S35)]) x6 x7 (wrap64 (x8 + 1))) else (none))) else (none)) else (none)) else (some x1)
def impl_PlainShapes.f (k : Nat)  : Option ((List (S35))) := (some (([(⟨#[48, 48, 48, 48, 48]⟩ : ByteArray), (⟨#[48, 48, 48, 48, 48, 115]⟩ : ByteArray), (⟨#[50, 50, 50, 50, 50]⟩ : ByteArray), (⟨#[49, 48, 48, 48, 48]⟩ : ByteArray), (⟨#[49, 48, 50, 50, 50]⟩ : ByteArray), (⟨#[48, 48, 50, 50, 50]⟩ : ByteArray)] : List ByteArray) : List ByteArray)).bind fun y199 => (impl_PlainShapes.l0 k ([] : List (S35)) y199 (y199.length : Int) 0)
theorem impl_PlainShapes.mono_l : ∀ k, (∀ y0 y1 y2 y3, LeO (impl_PlainShapes.l0 k y0 y1 y2 y3) (impl_PlainShapes.l0 (k + 1) y0 y1 y2 y3))
  | 0 => fun _ _ _ _ r h => by simp [impl_PlainShapes.l0] at h
  | k + 1 => by
    have ih0 := impl_PlainShapes.mono_l k
    · intro y0 y1 y2 y3
      unfold impl_PlainShapes.l0
      repeat' first
      | (with_reducible exact ih0 _ _ _ _)
      | (with_reducible exact impl_ParseShape.mono _ _)
      | (with_reducible exact LeO.refl _)
      | (with_reducible exact LeO.none _)
      | (with_reducible refine LeO.ite ?_ ?_)
      | (with_reducible refine LeO.bind ?_ (fun _ => ?_))
      | exact ih0 _ _ _ _
      | exact impl_ParseShape.mono _ _
      | exact LeO.none _
      | refine LeO.ite ?_ ?_
      | refine LeO.bind ?_ (fun _ => ?_)
theorem impl_PlainShapes.mono : ∀ k, LeO (impl_PlainShapes.f k ) (impl_PlainShapes.f (k + 1) ) := by
  intro  k
  have ih0 := impl_PlainShapes.mono_l k
  unfold impl_PlainShapes.f
  repeat' first
      | (with_reducible exact ih0 _ _ _ _)
      | (with_reducible exact impl_ParseShape.mono _ _)
      | (with_reducible exact LeO.refl _)
      | (with_reducible exact LeO.none _)
      | (with_reducible refine LeO.ite ?_ ?_)
      | (with_reducible refine LeO.bind ?_ (fun _ => ?_))
      | exact ih0 _ _ _ _
      | exact impl_ParseShape.mono _ _
      | exact LeO.none _
      | refine LeO.ite ?_ ?_
      | refine LeO.bind ?_ (fun _ => ?_)
noncomputable def impl_PlainShapes.L0 (x1 : List (S35)) (x6 : List ByteArray) (x7 : Int) (x8 : Int) : Option ((List (S35))) := lim fun k => impl_PlainShapes.l0 k x1 x6 x7 x8
theorem impl_PlainShapes.L0_lim (x1 : List (S35)) (x6 : List ByteArray) (x7 : Int) (x8 : Int) : Lim (fun k => impl_PlainShapes.l0 k x1 x6 x7 x8) (impl_PlainShapes.L0 x1 x6 x7 x8) := ⟨fun k => (impl_PlainShapes.mono_l k) x1 x6 x7 x8, rfl⟩
noncomputable def impl_PlainShapes.F  : Option ((List (S35))) := lim fun k => impl_PlainShapes.f k 
theorem impl_PlainShapes.F_lim  : Lim (fun k => impl_PlainShapes.f k ) (impl_PlainShapes.F ) := ⟨impl_PlainShapes.mono , rfl⟩
theorem impl_PlainShapes.L0_eq (x1 : List (S35)) (x6 : List ByteArray) (x7 : Int) (x8 : Int) : impl_PlainShapes.L0 x1 x6 x7 x8 = (if x8 < x7 then (if 0 ≤ x8 then (if x8 < (x6.length : Int) then ((impl_ParseShape.F (rdOf ByteArray.empty x6 x8)).bind fun bt203 => (if x1.length < 2932031007402 then (impl_PlainShapes.L0 (x1 ++ [(⟨bt203.1, bt203.2.1, bt203.2.2.1, bt203.2.2.2.1, bt203.2.2.2.2.1, bt203.2.2.2.2.2.1⟩ : S35)]) x6 x7 (wrap64 (x8 + 1))) else (none))) else (none)) else (none)) else (some x1)) := by
  refine Lim.succ_eq (impl_PlainShapes.L0_lim x1 x6 x7 x8).mon ?_
  simp only [impl_PlainShapes.l0]
  repeat' first
  | (with_reducible exact impl_PlainShapes.L0_lim _ _ _ _)
  | (with_reducible exact impl_ParseShape.F_lim _)
  | (with_reducible refine Lim.ite ?_ ?_)
  | (with_reducible refine Lim.bind ?_ (fun _ => ?_))
  | (with_reducible exact Lim.const _)
theorem impl_PlainShapes.F_eq  : impl_PlainShapes.F  = ((some (([(⟨#[48, 48, 48, 48, 48]⟩ : ByteArray), (⟨#[48, 48, 48, 48, 48, 115]⟩ : ByteArray), (⟨#[50, 50, 50, 50, 50]⟩ : ByteArray), (⟨#[49, 48, 48, 48, 48]⟩ : ByteArray), (⟨#[49, 48, 50, 50, 50]⟩ : ByteArray), (⟨#[48, 48, 50, 50, 50]⟩ : ByteArray)] : List ByteArray) : List ByteArray)).bind fun y199 => (impl_PlainShapes.L0 ([] : List (S35)) y199 (y199.length : Int) 0)) := by
  refine Lim.eq_ ?_
  simp only [impl_PlainShapes.f]
  repeat' first
  | (with_reducible exact impl_PlainShapes.L0_lim _ _ _ _)
  | (with_reducible exact impl_ParseShape.F_lim _)
  | (with_reducible refine Lim.ite ?_ ?_)
  | (with_reducible refine Lim.bind ?_ (fun _ => ?_))
  | (with_reducible exact Lim.const _)
def laws_eqShape.f (a0_0 : Int) (a0_1 : Int) (a0_2 : Int) (a0_3 : Int) (a0_4 : Int) (a0_5 : Bool) (a1_0 : Int) (a1_1 : Int) (a1_2 : Int) (a1_3 : Int) (a1_4 : Int) (a1_5 : Bool) : Option (Bool) := if a0_0 = a1_0 then (if a0_1 = a1_1 then (if a0_2 = a1_2 then (if a0_3 = a1_3 then (if a0_4 = a1_4 then (if (a0_5 != a1_5) = true then (some false) else (some true)) else (some false)) else (some false)) else (some false)) else (some false)) else (some false)
def laws_eqShapeS.l0 : Nat → List (S35) → List (S35) → Int → Option (Bool)
  | 0, _, _, _ => none
  | k + 1, x0, x1, x5 => if x5 < (x0.length : Int) then (if 0 ≤ x5 then (if x5 < (x1.length : Int) then ((laws_eqShape.f ((rd_T35 x0 x5).f0) ((rd_T35 x0 x5).f1) ((rd_T35 x0 x5).f2) ((rd_T35 x0 x5).f3) ((rd_T35 x0 x5).f4) ((rd_T35 x0 x5).f5) ((rd_T35 x1 x5).f0) ((rd_T35 x1 x5).f1) ((rd_T35 x1 x5).f2) ((rd_T35 x1 x5).f3) ((rd_T35 x1 x5).f4) ((rd_T35 x1 x5).f5)).bind fun t218 => (if t218 = true then (laws_eqShapeS.l0 k x0 x1 (wrap64 (x5 + 1))) else (some false))) else (none)) else (none)) else (some true)
def laws_eqShapeS.f (k : Nat) (l0 : List (S35)) (l1 : List (S35)) : Option (Bool) := if (l0.length : Int) = (l1.length : Int) then (laws_eqShapeS.l0 k l0 l1 0) else (some false)
theorem laws_eqShapeS.mono_l : ∀ k, (∀ y0 y1 y2, LeO (laws_eqShapeS.l0 k y0 y1 y2) (laws_eqShapeS.l0 (k + 1) y0 y1 y2))
  | 0 => fun _ _ _ r h => by simp [laws_eqShapeS.l0] at h
  | k + 1 => by
    have ih0 := laws_eqShapeS.mono_l k
    · intro y0 y1 y2
      unfold laws_eqShapeS.l0
      repeat' first
      | (with_reducible exact ih0 _ _ _)
      | (with_reducible exact LeO.refl _)
      | (with_reducible exact LeO.none _)
      | (with_reducible refine LeO.ite ?_ ?_)
      | (with_reducible refine LeO.bind ?_ (fun _ => ?_))
      | exact ih0 _ _ _
      | exact LeO.none _
      | refine LeO.ite ?_ ?_
      | refine LeO.bind ?_ (fun _ => ?_)
theorem laws_eqShapeS.mono : ∀ a0 a1 k, LeO (laws_eqShapeS.f k a0 a1) (laws_eqShapeS.f (k + 1) a0 a1) := by
  intro a0 a1 k
  have ih0 := laws_eqShapeS.mono_l k
  unfold laws_eqShapeS.f
  repeat' first
      | (with_reducible exact ih0 _ _ _)
      | (with_reducible exact LeO.refl _)
      | (with_reducible exact LeO.none _)
      | (with_reducible refine LeO.ite ?_ ?_)
      | (with_reducible refine LeO.bind ?_ (fun _ => ?_))
      | exact ih0 _ _ _
      | exact LeO.none _
      | refine LeO.ite ?_ ?_
      | refine LeO.bind ?_ (fun _ => ?_)
noncomputable def laws_eqShapeS.L0 (x0 : List (S35)) (x1 : List (S35)) (x5 : Int) : Option (Bool) := lim fun k => laws_eqShapeS.l0 k x0 x1 x5
theorem laws_eqShapeS.L0_lim (x0 : List (S35)) (x1 : List (S35)) (x5 : Int) : Lim (fun k => laws_eqShapeS.l0 k x0 x1 x5) (laws_eqShapeS.L0 x0 x1 x5) := ⟨fun k => (laws_eqShapeS.mono_l k) x0 x1 x5, rfl⟩
noncomputable def laws_eqShapeS.F (l0 : List (S35)) (l1 : List (S35)) : Option (Bool) := lim fun k => laws_eqShapeS.f k l0 l1
theorem laws_eqShapeS.F_lim (l0 : List (S35)) (l1 : List (S35)) : Lim (fun k => laws_eqShapeS.f k l0 l1) (laws_eqShapeS.F l0 l1) := ⟨laws_eqShapeS.mono l0 l1, rfl⟩
theorem laws_eqShapeS.L0_eq (x0 : List (S35)) (x1 : List (S35)) (x5 : Int) : laws_eqShapeS.L0 x0 x1 x5 = (if x5 < (x0.length : Int) then (if 0 ≤ x5 then (if x5 < (x1.length : Int) then ((laws_eqShape.f ((rd_T35 x0 x5).f0) ((rd_T35 x0 x5).f1) ((rd_T35 x0 x5).f2) ((rd_T35 x0 x5).f3) ((rd_T35 x0 x5).f4) ((rd_T35 x0 x5).f5) ((rd_T35 x1 x5).f0) ((rd_T35 x1 x5).f1) ((rd_T35 x1 x5).f2) ((rd_T35 x1 x5).f3) ((rd_T35 x1 x5).f4) ((rd_T35 x1 x5).f5)).bind fun t218 => (if t218 = true then (laws_eqShapeS.L0 x0 x1 (wrap64 (x5 + 1))) else (some false))) else (none)) else (none)) else (some true)) := by
  refine Lim.succ_eq (laws_eqShapeS.L0_lim x0 x1 x5).mon ?_
  simp only [laws_eqShapeS.l0]
  repeat' first
  | (with_reducible exact laws_eqShapeS.L0_lim _ _ _)
  | (with_reducible refine Lim.ite ?_ ?_)
  | (with_reducible refine Lim.bind ?_ (fun _ => ?_))
  | (with_reducible exact Lim.const _)
theorem laws_eqShapeS.F_eq (l0 : List (S35)) (l1 : List (S35)) : laws_eqShapeS.F l0 l1 = (if (l0.length : Int) = (l1.length : Int) then (laws_eqShapeS.L0 l0 l1 0) else (some false)) := by
  refine Lim.eq_ ?_
  simp only [laws_eqShapeS.f]
  repeat' first
  | (with_reducible exact laws_eqShapeS.L0_lim _ _ _)
  | (with_reducible refine Lim.ite ?_ ?_)
  | (with_reducible refine Lim.bind ?_ (fun _ => ?_))
  | (with_reducible exact Lim.const _)
def laws_markShapeS.l0 : Nat → List (S35) → Int → Int → Option (Int × (List (S35)))
  | 0, _, _, _ => none
  | k + 1, x0, x1, x5 => if x5 < (x0.length : Int) then (if 0 ≤ x5 then ((some (x0.set (x5 : Int).toNat (⟨x1, (rd_T35 x0 x5).f1, (rd_T35 x0 x5).f2, (rd_T35 x0 x5).f3, (rd_T35 x0 x5).f4, (rd_T35 x0 x5).f5⟩ : S35) : List (S35))).bind fun y219 => ((some (y219.set (x5 : Int).toNat (⟨(rd_T35 y219 x5).f0, wrap64 (x1 + 1), (rd_T35 y219 x5).f2, (rd_T35 y219 x5).f3, (rd_T35 y219 x5).f4, (rd_T35 y219 x5).f5⟩ : S35) : List (S35))).bind fun y220 => ((some (y220.set (x5 : Int).toNat (⟨(rd_T35 y220 x5).f0, (rd_T35 y220 x5).f1, wrap64 ((wrap64 (x1 + 1)) + 1), (rd_T35 y220 x5).f3, (rd_T35 y220 x5).f4, (rd_T35 y220 x5).f5⟩ : S35) : List (S35))).bind fun y221 => ((some (y221.set (x5 : Int).toNat (⟨(rd_T35 y221 x5).f0, (rd_T35 y221 x5).f1, (rd_T35 y221 x5).f2, wrap64 ((wrap64 ((wrap64 (x1 + 1)) + 1)) + 1), (rd_T35 y221 x5).f4, (rd_T35 y221 x5).f5⟩ : S35) : List (S35))).bind fun y222 => ((some (y222.set (x5 : Int).toNat (⟨(rd_T35 y222 x5).f0, (rd_T35 y222 x5).f1, (rd_T35 y222 x5).f2, (rd_T35 y222 x5).f3, wrap64 ((wrap64 ((wrap64 ((wrap64 (x1 + 1)) + 1)) + 1)) + 1), (rd_T35 y222 x5).f5⟩ : S35) : List (S35))).bind fun y223 => (laws_markShapeS.l0 k (y223.set (x5 : Int).toNat (⟨(rd_T35 y223 x5).f0, (rd_T35 y223 x5).f1, (rd_T35 y223 x5).f2, (rd_T35 y223 x5).f3, (rd_T35 y223 x5).f4, ((Int.tmod (wrap64 ((wrap64 ((wrap64 ((wrap64 ((wrap64 (x1 + 1)) + 1)) + 1)) + 1)) + 1)) 3) == 0)⟩ : S35)) (wrap64 ((wrap64 ((wrap64 ((wrap64 ((wrap64 ((wrap64 (x1 + 1)) + 1)) + 1)) + 1)) + 1)) + 1)) (wrap64 (x5 + 1)))))))) else (none)) else (some (x1, x0))
def laws_markShapeS.f (k : Nat) (l0 : List (S35)) (a1 : Int) : Option (Int × (List (S35))) := laws_markShapeS.l0 k l0 a1 0
theorem laws_markShapeS.mono_l : ∀ k, (∀ y0 y1 y2, LeO (laws_markShapeS.l0 k y0 y1 y2) (laws_markShapeS.l0 (k + 1) y0 y1 y2))
  | 0 => fun _ _ _ r h => by simp [laws_markShapeS.l0] at h
  | k + 1 => by
    have ih0 := laws_markShapeS.mono_l k
    · intro y0 y1 y2
      unfold laws_markShapeS.l0
      repeat' first
      | (with_reducible exact ih0 _ _ _)
      | (with_reducible exact LeO.refl _)
      | (with_reducible exact LeO.none _)
      | (with_reducible refine LeO.ite ?_ ?_)
      | (with_reducible refine LeO.bind ?_ (fun _ => ?_))
      | exact ih0 _ _ _
      | exact LeO.none _
      | refine LeO.ite ?_ ?_
      | refine LeO.bind ?_ (fun _ => ?_)
theorem laws_markShapeS.mono : ∀ a0 a1 k, LeO (laws_markShapeS.f k a0 a1) (laws_markShapeS.f (k + 1) a0 a1) := by
  intro a0 a1 k
  have ih0 := laws_markShapeS.mono_l k
  unfold laws_markShapeS.f
  repeat' first
      | (with_reducible exact ih0 _ _ _)
      | (with_reducible exact LeO.refl _)
      | (with_reducible exact LeO.none _)
      | (with_reducible refine LeO.ite ?_ ?_)
      | (with_reducible refine LeO.bind ?_ (fun _ => ?_))
      | exact ih0 _ _ _
      | exact LeO.none _
      | refine LeO.ite ?_ ?_
      | refine LeO.bind ?_ (fun _ => ?_)
noncomputable def laws_markShapeS.L0 (x0 : List (S35)) (x1 : Int) (x5 : Int) : Option (Int × (List (S35))) := lim fun k => laws_markShapeS.l0 k x0 x1 x5
theorem laws_markShapeS.L0_lim (x0 : List (S35)) (x1 : Int) (x5 : Int) : Lim (fun k => laws_markShapeS.l0 k x0 x1 x5) (laws_markShapeS.L0 x0 x1 x5) := ⟨fun k => (laws_markShapeS.mono_l k) x0 x1 x5, rfl⟩
noncomputable def laws_markShapeS.F (l0 : List (S35)) (a1 : Int) : Option (Int × (List (S35))) := lim fun k => laws_markShapeS.f k l0 a1
theorem laws_markShapeS.F_lim (l0 : List (S35)) (a1 : Int) : Lim (fun k => laws_markShapeS.f k l0 a1) (laws_markShapeS.F l0 a1) := ⟨laws_markShapeS.mono l0 a1, rfl⟩
theorem laws_markShapeS.L0_eq (x0 : List (S35)) (x1 : Int) (x5 : Int) : laws_markShapeS.L0 x0 x1 x5 = (if x5 < (x0.length : Int) then (if 0 ≤ x5 then ((some (x0.set (x5 : Int).toNat (⟨x1, (rd_T35 x0 x5).f1, (rd_T35 x0 x5).f2, (rd_T35 x0 x5).f3, (rd_T35 x0 x5).f4, (rd_T35 x0 x5).f5⟩ : S35) : List (S35))).bind fun y219 => ((some (y219.set (x5 : Int).toNat (⟨(rd_T35 y219 x5).f0, wrap64 (x1 + 1), (rd_T35 y219 x5).f2, (rd_T35 y219 x5).f3, (rd_T35 y219 x5).f4, (rd_T35 y219 x5).f5⟩ : S35) : List (S35))).bind fun y220 => ((some (y220.set (x5 : Int).toNat (⟨(rd_T35 y220 x5).f0, (rd_T35 y220 x5).f1, wrap64 ((wrap64 (x1 + 1)) + 1), (rd_T35 y220 x5).f3, (rd_T35 y220 x5).f4, (rd_T35 y220 x5).f5⟩ : S35) : List (S35))).bind fun y221 => ((some (y221.set (x5 : Int).toNat (⟨(rd_T35 y221 x5).f0, (rd_T35 y221 x5).f1, (rd_T35 y221 x5).f2, wrap64 ((wrap64 ((wrap64 (x1 + 1)) + 1)) + 1), (rd_T35 y221 x5).f4, (rd_T35 y221 x5).f5⟩ : S35) : List (S35))).bind fun y222 => ((some (y222.set (x5 : Int).toNat (⟨(rd_T35 y222 x5).f0, (rd_T35 y222 x5).f1, (rd_T35 y222 x5).f2, (rd_T35 y222 x5).f3, wrap64 ((wrap64 ((wrap64 ((wrap64 (x1 + 1)) + 1)) + 1)) + 1), (rd_T35 y222 x5).f5⟩ : S35) : List (S35))).bind fun y223 => (laws_markShapeS.L0 (y223.set (x5 : Int).toNat (⟨(rd_T35 y223 x5).f0, (rd_T35 y223 x5).f1, (rd_T35 y223 x5).f2, (rd_T35 y223 x5).f3, (rd_T35 y223 x5).f4, ((Int.tmod (wrap64 ((wrap64 ((wrap64 ((wrap64 ((wrap64 (x1 + 1)) + 1)) + 1)) + 1)) + 1)) 3) == 0)⟩ : S35)) (wrap64 ((wrap64 ((wrap64 ((wrap64 ((wrap64 ((wrap64 (x1 + 1)) + 1)) + 1)) + 1)) + 1)) + 1)) (wrap64 (x5 + 1)))))))) else (none)) else (some (x1, x0))) := by
  refine Lim.succ_eq (laws_markShapeS.L0_lim x0 x1 x5).mon ?_
  simp only [laws_markShapeS.l0]
  repeat' first
  | (with_reducible exact laws_markShapeS.L0_lim _ _ _)
  | (with_reducible refine Lim.ite ?_ ?_)
  | (with_reducible refine Lim.bind ?_ (fun _ => ?_))
  | (with_reducible exact Lim.const _)
theorem laws_markShapeS.F_eq (l0 : List (S35)) (a1 : Int) : laws_markShapeS.F l0 a1 = (laws_markShapeS.L0 l0 a1 0) := by
  refine Lim.eq_ ?_
  simp only [laws_markShapeS.f]
  repeat' first
  | (with_reducible exact laws_markShapeS.L0_lim _ _ _)
  | (with_reducible refine Lim.ite ?_ ?_)
  | (with_reducible refine Lim.bind ?_ (fun _ => ?_))
  | (with_reducible exact Lim.const _)
def laws_heldShapeS.l0 : Nat → List (S35) → Int → Int → Option (Int)
  | 0, _, _, _ => none
  | k + 1, x0, x1, x5 => if x5 < (x0.length : Int) then (if 0 ≤ x5 then (if ((rd_T35 x0 x5).f0) = x1 then (if ((rd_T35 x0 x5).f1) = (wrap64 (x1 + 1)) then (if ((rd_T35 x0 x5).f2) = (wrap64 ((wrap64 (x1 + 1)) + 1)) then (if ((rd_T35 x0 x5).f3) = (wrap64 ((wrap64 ((wrap64 (x1 + 1)) + 1)) + 1)) then (if ((rd_T35 x0 x5).f4) = (wrap64 ((wrap64 ((wrap64 ((wrap64 (x1 + 1)) + 1)) + 1)) + 1)) then (if (((rd_T35 x0 x5).f5) != ((Int.tmod (wrap64 ((wrap64 ((wrap64 ((wrap64 ((wrap64 (x1 + 1)) + 1)) + 1)) + 1)) + 1)) 3) == 0)) = true then (some (-1)) else (laws_heldShapeS.l0 k x0 (wrap64 ((wrap64 ((wrap64 ((wrap64 ((wrap64 ((wrap64 (x1 + 1)) + 1)) + 1)) + 1)) + 1)) + 1)) (wrap64 (x5 + 1)))) else (some (-1))) else (some (-1))) else (some (-1))) else (some (-1))) else (some (-1))) else (none)) else (some x1)
def laws_heldShapeS.f (k : Nat) (l0 : List (S35)) (a1 : Int) : Option (Int) := laws_heldShapeS.l0 k l0 a1 0
theorem laws_heldShapeS.mono_l : ∀ k, (∀ y0 y1 y2, LeO (laws_heldShapeS.l0 k y0 y1 y2) (laws_heldShapeS.l0 (k + 1) y0 y1 y2))
  | 0 => fun _ _ _ r h => by simp [laws_heldShapeS.l0] at h
  | k + 1 => by
    have ih0 := laws_heldShapeS.mono_l k
    · intro y0 y1 y2
      unfold laws_heldShapeS.l0
      repeat' first
      | (with_reducible exact ih0 _ _ _)
      | (with_reducible exact LeO.refl _)
      | (with_reducible exact LeO.none _)
      | (with_reducible refine LeO.ite ?_ ?_)
      | (with_reducible refine LeO.bind ?_ (fun _ => ?_))
      | exact ih0 _ _ _
      | exact LeO.none _
      | refine LeO.ite ?_ ?_
      | refine LeO.bind ?_ (fun _ => ?_)
theorem laws_heldShapeS.mono : ∀ a0 a1 k, LeO (laws_heldShapeS.f k a0 a1) (laws_heldShapeS.f (k + 1) a0 a1) := by
  intro a0 a1 k
  have ih0 := laws_heldShapeS.mono_l k
  unfold laws_heldShapeS.f
  repeat' first
      | (with_reducible exact ih0 _ _ _)
      | (with_reducible exact LeO.refl _)
      | (with_reducible exact LeO.none _)
      | (with_reducible refine LeO.ite ?_ ?_)
      | (with_reducible refine LeO.bind ?_ (fun _ => ?_))
      | exact ih0 _ _ _
      | exact LeO.none _
      | refine LeO.ite ?_ ?_
      | refine LeO.bind ?_ (fun _ => ?_)
noncomputable def laws_heldShapeS.L0 (x0 : List (S35)) (x1 : Int) (x5 : Int) : Option (Int) := lim fun k => laws_heldShapeS.l0 k x0 x1 x5
theorem laws_heldShapeS.L0_lim (x0 : List (S35)) (x1 : Int) (x5 : Int) : Lim (fun k => laws_heldShapeS.l0 k x0 x1 x5) (laws_heldShapeS.L0 x0 x1 x5) := ⟨fun k => (laws_heldShapeS.mono_l k) x0 x1 x5, rfl⟩
noncomputable def laws_heldShapeS.F (l0 : List (S35)) (a1 : Int) : Option (Int) := lim fun k => laws_heldShapeS.f k l0 a1
theorem laws_heldShapeS.F_lim (l0 : List (S35)) (a1 : Int) : Lim (fun k => laws_heldShapeS.f k l0 a1) (laws_heldShapeS.F l0 a1) := ⟨laws_heldShapeS.mono l0 a1, rfl⟩
theorem laws_heldShapeS.L0_eq (x0 : List (S35)) (x1 : Int) (x5 : Int) : laws_heldShapeS.L0 x0 x1 x5 = (if x5 < (x0.length : Int) then (if 0 ≤ x5 then (if ((rd_T35 x0 x5).f0) = x1 then (if ((rd_T35 x0 x5).f1) = (wrap64 (x1 + 1)) then (if ((rd_T35 x0 x5).f2) = (wrap64 ((wrap64 (x1 + 1)) + 1)) then (if ((rd_T35 x0 x5).f3) = (wrap64 ((wrap64 ((wrap64 (x1 + 1)) + 1)) + 1)) then (if ((rd_T35 x0 x5).f4) = (wrap64 ((wrap64 ((wrap64 ((wrap64 (x1 + 1)) + 1)) + 1)) + 1)) then (if (((rd_T35 x0 x5).f5) != ((Int.tmod (wrap64 ((wrap64 ((wrap64 ((wrap64 ((wrap64 (x1 + 1)) + 1)) + 1)) + 1)) + 1)) 3) == 0)) = true then (some (-1)) else (laws_heldShapeS.L0 x0 (wrap64 ((wrap64 ((wrap64 ((wrap64 ((wrap64 ((wrap64 (x1 + 1)) + 1)) + 1)) + 1)) + 1)) + 1)) (wrap64 (x5 + 1)))) else (some (-1))) else (some (-1))) else (some (-1))) else (some (-1))) else (some (-1))) else (none)) else (some x1)) := by
  refine Lim.succ_eq (laws_heldShapeS.L0_lim x0 x1 x5).mon ?_
  simp only [laws_heldShapeS.l0]
  repeat' first
  | (with_reducible exact laws_heldShapeS.L0_lim _ _ _)
  | (with_reducible refine Lim.ite ?_ ?_)
  | (with_reducible refine Lim.bind ?_ (fun _ => ?_))
  | (with_reducible exact Lim.const _)
theorem laws_heldShapeS.F_eq (l0 : List (S35)) (a1 : Int) : laws_heldShapeS.F l0 a1 = (laws_heldShapeS.L0 l0 a1 0) := by
  refine Lim.eq_ ?_
  simp only [laws_heldShapeS.f]
  repeat' first
  | (with_reducible exact laws_heldShapeS.L0_lim _ _ _)
  | (with_reducible refine Lim.ite ?_ ?_)
  | (with_reducible refine Lim.bind ?_ (fun _ => ?_))
  | (with_reducible exact Lim.const _)
def laws_FnExactPlainShapes.f (k : Nat)  : Option (Bool) := (spec_PlainShapes.f k).bind fun t231 => ((impl_PlainShapes.f k).bind fun t234 => ((laws_eqShapeS.f k t234 t231).bind fun t237 => (if t237 = true then ((laws_markShapeS.f k t234 1).bind fun bt238 => ((laws_heldShapeS.f k bt238.2 1).bind fun t240 => (if t240 < 0 then (some false) else (if t240 = bt238.1 then ((impl_PlainShapes.f k).bind fun t241 => ((laws_eqShapeS.f k t241 t231).bind fun t244 => (if t244 = true then ((laws_heldShapeS.f k bt238.2 1).bind fun t245 => (if t245 < 0 then (some false) else (if t245 = bt238.1 then (some true) else (some false)))) else (some false)))) else (some false))))) else (some false))))
theorem laws_FnExactPlainShapes.mono : ∀ k, LeO (laws_FnExactPlainShapes.f k ) (laws_FnExactPlainShapes.f (k + 1) ) := by
  intro  k
  unfold laws_FnExactPlainShapes.f
  repeat' first
      | (with_reducible exact impl_PlainShapes.mono _)
      | (with_reducible exact laws_eqShapeS.mono _ _ _)
      | (with_reducible exact laws_heldShapeS.mono _ _ _)
      | (with_reducible exact laws_markShapeS.mono _ _ _)
      | (with_reducible exact spec_PlainShapes.mono _)
      | (with_reducible exact LeO.refl _)
      | (with_reducible exact LeO.none _)
      | (with_reducible refine LeO.ite ?_ ?_)
      | (with_reducible refine LeO.bind ?_ (fun _ => ?_))
      | exact impl_PlainShapes.mono _
      | exact laws_eqShapeS.mono _ _ _
      | exact laws_heldShapeS.mono _ _ _
      | exact laws_markShapeS.mono _ _ _
      | exact spec_PlainShapes.mono _
      | exact LeO.none _
      | refine LeO.ite ?_ ?_
      | refine LeO.bind ?_ (fun _ => ?_)
noncomputable def laws_FnExactPlainShapes.F  : Option (Bool) := lim fun k => laws_FnExactPlainShapes.f k 
theorem laws_FnExactPlainShapes.F_lim  : Lim (fun k => laws_FnExactPlainShapes.f k ) (laws_FnExactPlainShapes.F ) := ⟨laws_FnExactPlainShapes.mono , rfl⟩
theorem laws_FnExactPlainShapes.F_eq  : laws_FnExactPlainShapes.F  = ((spec_PlainShapes.F).bind fun t231 => ((impl_PlainShapes.F).bind fun t234 => ((laws_eqShapeS.F t234 t231).bind fun t237 => (if t237 = true then ((laws_markShapeS.F t234 1).bind fun bt238 => ((laws_heldShapeS.F bt238.2 1).bind fun t240 => (if t240 < 0 then (some false) else (if t240 = bt238.1 then ((impl_PlainShapes.F).bind fun t241 => ((laws_eqShapeS.F t241 t231).bind fun t244 => (if t244 = true then ((laws_heldShapeS.F bt238.2 1).bind fun t245 => (if t245 < 0 then (some false) else (if t245 = bt238.1 then (some true) else (some false)))) else (some false)))) else (some false))))) else (some false))))) := by
  refine Lim.eq_ ?_
  simp only [laws_FnExactPlainShapes.f]
  repeat' first
  | (with_reducible exact impl_PlainShapes.F_lim)
  | (with_reducible exact laws_eqShapeS.F_lim _ _)
  | (with_reducible exact laws_heldShapeS.F_lim _ _)
  | (with_reducible exact laws_markShapeS.F_lim _ _)
  | (with_reducible exact spec_PlainShapes.F_lim)
  | (with_reducible refine Lim.ite ?_ ?_)
  | (with_reducible refine Lim.bind ?_ (fun _ => ?_))
  | (with_reducible exact Lim.const _)
def laws_FnExactPlainShapes.Pure : Prop := ∃ k, laws_FnExactPlainShapes.f k  = some true
end Go.Proofs.YtmffndjbpealmaaDoor.PFnExactPlainShapes
