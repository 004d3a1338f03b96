/- Written by a program of this claim's author, out of the loaded program as Lean prints it: the functions as Lean functions, and that the calls answer so. -/
import Derived.Test.YtcapebhnioblbaaGreatDoorPFnExactParseHandx0
namespace Go.Proofs.YtcapebhnioblbaaGreatDoor.PFnExactParseHand
open Go.RowKit Go.Proofs.YtcapebhnioblbaaGreatDoorW.PrintWords Go.Proofs.YtcapebhnioblbaaGreatDoorW.PrintLast Go.Proofs.YtcapebhnioblbaaGreatDoorW.PrintMore
attribute [local go_sem] max2_int min2_int max_two min_two max_three min_three max_four min_four   -- for this text's walks alone
set_option linter.unusedVariables false
set_option linter.unusedSimpArgs false

def spec_paGiven.f (a0 : ByteArray) : Option (Bool) := some (decide ((a0.size : Int) ≤ 200))
def spec_l1Split.l0 : Nat → ByteArray → Int → List ByteArray → Int → Int → Option (List ByteArray)
  | 0, _, _, _, _, _ => none
  | k + 1, x0, x1, x5, x6, x7 => if x7 < (x0.size : Int) then (if 0 ≤ x7 then (if (bt x0 x7) = x1 then (if 0 ≤ x6 then (if x6 ≤ x7 then (if x7 ≤ (x0.size : Int) then (if x5.length < 8796093022208 then (spec_l1Split.l0 k x0 x1 (x5 ++ [x0.extract (x6 : Int).toNat (x7 : Int).toNat]) (wrap64 (x7 + 1)) (wrap64 (x7 + 1))) else (none)) else (none)) else (none)) else (none)) else (spec_l1Split.l0 k x0 x1 x5 x6 (wrap64 (x7 + 1)))) else (none)) else (if 0 ≤ x6 then (if x6 ≤ (x0.size : Int) then (if x5.length < 8796093022208 then (some (x5 ++ [x0.extract (x6 : Int).toNat x0.size])) else (none)) else (none)) else (none))
def spec_l1Split.f (k : Nat) (a0 : ByteArray) (a1 : Int) : Option (List ByteArray) := spec_l1Split.l0 k a0 a1 ([] : List ByteArray) 0 0
theorem spec_l1Split.mono_l : ∀ k, (∀ y0 y1 y2 y3 y4, LeO (spec_l1Split.l0 k y0 y1 y2 y3 y4) (spec_l1Split.l0 (k + 1) y0 y1 y2 y3 y4))
  | 0 => fun _ _ _ _ _ r h => by simp [spec_l1Split.l0] at h
  | k + 1 => by
    have ih0 := spec_l1Split.mono_l k
    · intro y0 y1 y2 y3 y4
      unfold spec_l1Split.l0
      repeat' first
      | (with_reducible exact ih0 _ _ _ _ _)
      | (with_reducible exact LeO.refl _)
      | (with_reducible exact LeO.none _)
      | (with_reducible refine LeO.ite ?_ ?_)
      | (with_reducible refine LeO.bind ?_ (fun _ => ?_))
      | exact ih0 _ _ _ _ _
      | exact LeO.none _
      | refine LeO.ite ?_ ?_
      | refine LeO.bind ?_ (fun _ => ?_)
theorem spec_l1Split.mono : ∀ a0 a1 k, LeO (spec_l1Split.f k a0 a1) (spec_l1Split.f (k + 1) a0 a1) := by
  intro a0 a1 k
  have ih0 := spec_l1Split.mono_l k
  unfold spec_l1Split.f
  repeat' first
      | (with_reducible exact ih0 _ _ _ _ _)
      | (with_reducible exact LeO.refl _)
      | (with_reducible exact LeO.none _)
      | (with_reducible refine LeO.ite ?_ ?_)
      | (with_reducible refine LeO.bind ?_ (fun _ => ?_))
      | exact ih0 _ _ _ _ _
      | exact LeO.none _
      | refine LeO.ite ?_ ?_
      | refine LeO.bind ?_ (fun _ => ?_)
noncomputable def spec_l1Split.L0 (x0 : ByteArray) (x1 : Int) (x5 : List ByteArray) (x6 : Int) (x7 : Int) : Option (List ByteArray) := lim fun k => spec_l1Split.l0 k x0 x1 x5 x6 x7
theorem spec_l1Split.L0_lim (x0 : ByteArray) (x1 : Int) (x5 : List ByteArray) (x6 : Int) (x7 : Int) : Lim (fun k => spec_l1Split.l0 k x0 x1 x5 x6 x7) (spec_l1Split.L0 x0 x1 x5 x6 x7) := ⟨fun k => (spec_l1Split.mono_l k) x0 x1 x5 x6 x7, rfl⟩
noncomputable def spec_l1Split.F (a0 : ByteArray) (a1 : Int) : Option (List ByteArray) := lim fun k => spec_l1Split.f k a0 a1
theorem spec_l1Split.F_lim (a0 : ByteArray) (a1 : Int) : Lim (fun k => spec_l1Split.f k a0 a1) (spec_l1Split.F a0 a1) := ⟨spec_l1Split.mono a0 a1, rfl⟩
theorem spec_l1Split.L0_eq (x0 : ByteArray) (x1 : Int) (x5 : List ByteArray) (x6 : Int) (x7 : Int) : spec_l1Split.L0 x0 x1 x5 x6 x7 = (if x7 < (x0.size : Int) then (if 0 ≤ x7 then (if (bt x0 x7) = x1 then (if 0 ≤ x6 then (if x6 ≤ x7 then (if x7 ≤ (x0.size : Int) then (if x5.length < 8796093022208 then (spec_l1Split.L0 x0 x1 (x5 ++ [x0.extract (x6 : Int).toNat (x7 : Int).toNat]) (wrap64 (x7 + 1)) (wrap64 (x7 + 1))) else (none)) else (none)) else (none)) else (none)) else (spec_l1Split.L0 x0 x1 x5 x6 (wrap64 (x7 + 1)))) else (none)) else (if 0 ≤ x6 then (if x6 ≤ (x0.size : Int) then (if x5.length < 8796093022208 then (some (x5 ++ [x0.extract (x6 : Int).toNat x0.size])) else (none)) else (none)) else (none))) := by
  refine Lim.succ_eq (spec_l1Split.L0_lim x0 x1 x5 x6 x7).mon ?_
  simp only [spec_l1Split.l0]
  repeat' first
  | (with_reducible exact spec_l1Split.L0_lim _ _ _ _ _)
  | (with_reducible refine Lim.ite ?_ ?_)
  | (with_reducible refine Lim.bind ?_ (fun _ => ?_))
  | (with_reducible exact Lim.const _)
theorem spec_l1Split.F_eq (a0 : ByteArray) (a1 : Int) : spec_l1Split.F a0 a1 = (spec_l1Split.L0 a0 a1 ([] : List ByteArray) 0 0) := by
  refine Lim.eq_ ?_
  simp only [spec_l1Split.f]
  repeat' first
  | (with_reducible exact spec_l1Split.L0_lim _ _ _ _ _)
  | (with_reducible refine Lim.ite ?_ ?_)
  | (with_reducible refine Lim.bind ?_ (fun _ => ?_))
  | (with_reducible exact Lim.const _)
def spec_l1In.f (a0 : Int) (a1 : Int) (a2 : Int) : Option (Bool) := if a0 ≥ a1 then (some (decide (a0 ≤ a2))) else (some false)
def spec_l1All.l0 : Nat → Int → Int → List Int → Int → Int → Option (Bool)
  | 0, _, _, _, _, _ => none
  | k + 1, x1, x2, x9, x10, x11 => if x11 < x10 then (if 0 ≤ x11 then (if x11 < (x9.length : Int) then ((spec_l1In.f (rd x9 x11) x1 x2).bind fun t108 => (if t108 = true then (spec_l1All.l0 k x1 x2 x9 x10 (wrap64 (x11 + 1))) else (some false))) else (none)) else (none)) else (some true)
def spec_l1All.f (k : Nat) (l0 : List Int) (a1 : Int) (a2 : Int) : Option (Bool) := spec_l1All.l0 k a1 a2 l0 (l0.length : Int) 0
theorem spec_l1All.mono_l : ∀ k, (∀ y0 y1 y2 y3 y4, LeO (spec_l1All.l0 k y0 y1 y2 y3 y4) (spec_l1All.l0 (k + 1) y0 y1 y2 y3 y4))
  | 0 => fun _ _ _ _ _ r h => by simp [spec_l1All.l0] at h
  | k + 1 => by
    have ih0 := spec_l1All.mono_l k
    · intro y0 y1 y2 y3 y4
      unfold spec_l1All.l0
      repeat' first
      | (with_reducible exact ih0 _ _ _ _ _)
      | (with_reducible exact LeO.refl _)
      | (with_reducible exact LeO.none _)
      | (with_reducible refine LeO.ite ?_ ?_)
      | (with_reducible refine LeO.bind ?_ (fun _ => ?_))
      | exact ih0 _ _ _ _ _
      | exact LeO.none _
      | refine LeO.ite ?_ ?_
      | refine LeO.bind ?_ (fun _ => ?_)
theorem spec_l1All.mono : ∀ a0 a1 a2 k, LeO (spec_l1All.f k a0 a1 a2) (spec_l1All.f (k + 1) a0 a1 a2) := by
  intro a0 a1 a2 k
  have ih0 := spec_l1All.mono_l k
  unfold spec_l1All.f
  repeat' first
      | (with_reducible exact ih0 _ _ _ _ _)
      | (with_reducible exact LeO.refl _)
      | (with_reducible exact LeO.none _)
      | (with_reducible refine LeO.ite ?_ ?_)
      | (with_reducible refine LeO.bind ?_ (fun _ => ?_))
      | exact ih0 _ _ _ _ _
      | exact LeO.none _
      | refine LeO.ite ?_ ?_
      | refine LeO.bind ?_ (fun _ => ?_)
noncomputable def spec_l1All.L0 (x1 : Int) (x2 : Int) (x9 : List Int) (x10 : Int) (x11 : Int) : Option (Bool) := lim fun k => spec_l1All.l0 k x1 x2 x9 x10 x11
theorem spec_l1All.L0_lim (x1 : Int) (x2 : Int) (x9 : List Int) (x10 : Int) (x11 : Int) : Lim (fun k => spec_l1All.l0 k x1 x2 x9 x10 x11) (spec_l1All.L0 x1 x2 x9 x10 x11) := ⟨fun k => (spec_l1All.mono_l k) x1 x2 x9 x10 x11, rfl⟩
noncomputable def spec_l1All.F (l0 : List Int) (a1 : Int) (a2 : Int) : Option (Bool) := lim fun k => spec_l1All.f k l0 a1 a2
theorem spec_l1All.F_lim (l0 : List Int) (a1 : Int) (a2 : Int) : Lim (fun k => spec_l1All.f k l0 a1 a2) (spec_l1All.F l0 a1 a2) := ⟨spec_l1All.mono l0 a1 a2, rfl⟩
theorem spec_l1All.L0_eq (x1 : Int) (x2 : Int) (x9 : List Int) (x10 : Int) (x11 : Int) : spec_l1All.L0 x1 x2 x9 x10 x11 = (if x11 < x10 then (if 0 ≤ x11 then (if x11 < (x9.length : Int) then ((spec_l1In.f (rd x9 x11) x1 x2).bind fun t108 => (if t108 = true then (spec_l1All.L0 x1 x2 x9 x10 (wrap64 (x11 + 1))) else (some false))) else (none)) else (none)) else (some true)) := by
  refine Lim.succ_eq (spec_l1All.L0_lim x1 x2 x9 x10 x11).mon ?_
  simp only [spec_l1All.l0]
  repeat' first
  | (with_reducible exact spec_l1All.L0_lim _ _ _ _ _)
  | (with_reducible refine Lim.ite ?_ ?_)
  | (with_reducible refine Lim.bind ?_ (fun _ => ?_))
  | (with_reducible exact Lim.const _)
theorem spec_l1All.F_eq (l0 : List Int) (a1 : Int) (a2 : Int) : spec_l1All.F l0 a1 a2 = (spec_l1All.L0 a1 a2 l0 (l0.length : Int) 0) := by
  refine Lim.eq_ ?_
  simp only [spec_l1All.f]
  repeat' first
  | (with_reducible exact spec_l1All.L0_lim _ _ _ _ _)
  | (with_reducible refine Lim.ite ?_ ?_)
  | (with_reducible refine Lim.bind ?_ (fun _ => ?_))
  | (with_reducible exact Lim.const _)
def spec_shFingers.f (a0_0 : Int) (a0_1 : Int) (a0_2 : Int) (a0_3 : Int) (a0_4 : Int) (a0_5 : Bool) : Option (List Int) := some (([a0_1, a0_2, a0_3, a0_4] : List Int))
def spec_shWide.l0 : Nat → List Int → Int → Option (Bool)
  | 0, _, _ => none
  | k + 1, x3, x4 => if x4 < 4 then (if 0 ≤ (wrap64 (x4 - 1)) then (if (wrap64 (x4 - 1)) < (x3.length : Int) then (if (rd x3 (wrap64 (x4 - 1))) = 0 then (if 0 ≤ x4 then (if x4 < (x3.length : Int) then (if (rd x3 x4) = 0 then (some true) else (spec_shWide.l0 k x3 (wrap64 (x4 + 1)))) else (none)) else (none)) else (spec_shWide.l0 k x3 (wrap64 (x4 + 1)))) else (none)) else (none)) else (some false)
def spec_shWide.f (k : Nat) (a0_0 : Int) (a0_1 : Int) (a0_2 : Int) (a0_3 : Int) (a0_4 : Int) (a0_5 : Bool) : Option (Bool) := (spec_shFingers.f a0_0 a0_1 a0_2 a0_3 a0_4 a0_5).bind fun t114 => (spec_shWide.l0 k t114 1)
theorem spec_shWide.mono_l : ∀ k, (∀ y0 y1, LeO (spec_shWide.l0 k y0 y1) (spec_shWide.l0 (k + 1) y0 y1))
  | 0 => fun _ _ r h => by simp [spec_shWide.l0] at h
  | k + 1 => by
    have ih0 := spec_shWide.mono_l k
    · intro y0 y1
      unfold spec_shWide.l0
      repeat' first
      | (with_reducible exact ih0 _ _)
      | (with_reducible exact LeO.refl _)
      | (with_reducible exact LeO.none _)
      | (with_reducible refine LeO.ite ?_ ?_)
      | (with_reducible refine LeO.bind ?_ (fun _ => ?_))
      | exact ih0 _ _
      | exact LeO.none _
      | refine LeO.ite ?_ ?_
      | refine LeO.bind ?_ (fun _ => ?_)
theorem spec_shWide.mono : ∀ a0 a1 a2 a3 a4 a5 k, LeO (spec_shWide.f k a0 a1 a2 a3 a4 a5) (spec_shWide.f (k + 1) a0 a1 a2 a3 a4 a5) := by
  intro a0 a1 a2 a3 a4 a5 k
  have ih0 := spec_shWide.mono_l k
  unfold spec_shWide.f
  repeat' first
      | (with_reducible exact ih0 _ _)
      | (with_reducible exact LeO.refl _)
      | (with_reducible exact LeO.none _)
      | (with_reducible refine LeO.ite ?_ ?_)
      | (with_reducible refine LeO.bind ?_ (fun _ => ?_))
      | exact ih0 _ _
      | exact LeO.none _
      | refine LeO.ite ?_ ?_
      | refine LeO.bind ?_ (fun _ => ?_)
noncomputable def spec_shWide.L0 (x3 : List Int) (x4 : Int) : Option (Bool) := lim fun k => spec_shWide.l0 k x3 x4
theorem spec_shWide.L0_lim (x3 : List Int) (x4 : Int) : Lim (fun k => spec_shWide.l0 k x3 x4) (spec_shWide.L0 x3 x4) := ⟨fun k => (spec_shWide.mono_l k) x3 x4, rfl⟩
noncomputable def spec_shWide.F (a0_0 : Int) (a0_1 : Int) (a0_2 : Int) (a0_3 : Int) (a0_4 : Int) (a0_5 : Bool) : Option (Bool) := lim fun k => spec_shWide.f k a0_0 a0_1 a0_2 a0_3 a0_4 a0_5
theorem spec_shWide.F_lim (a0_0 : Int) (a0_1 : Int) (a0_2 : Int) (a0_3 : Int) (a0_4 : Int) (a0_5 : Bool) : Lim (fun k => spec_shWide.f k a0_0 a0_1 a0_2 a0_3 a0_4 a0_5) (spec_shWide.F a0_0 a0_1 a0_2 a0_3 a0_4 a0_5) := ⟨spec_shWide.mono a0_0 a0_1 a0_2 a0_3 a0_4 a0_5, rfl⟩
theorem spec_shWide.L0_eq (x3 : List Int) (x4 : Int) : spec_shWide.L0 x3 x4 = (if x4 < 4 then (if 0 ≤ (wrap64 (x4 - 1)) then (if (wrap64 (x4 - 1)) < (x3.length : Int) then (if (rd x3 (wrap64 (x4 - 1))) = 0 then (if 0 ≤ x4 then (if x4 < (x3.length : Int) then (if (rd x3 x4) = 0 then (some true) else (spec_shWide.L0 x3 (wrap64 (x4 + 1)))) else (none)) else (none)) else (spec_shWide.L0 x3 (wrap64 (x4 + 1)))) else (none)) else (none)) else (some false)) := by
  refine Lim.succ_eq (spec_shWide.L0_lim x3 x4).mon ?_
  simp only [spec_shWide.l0]
  repeat' first
  | (with_reducible exact spec_shWide.L0_lim _ _)
  | (with_reducible refine Lim.ite ?_ ?_)
  | (with_reducible refine Lim.bind ?_ (fun _ => ?_))
  | (with_reducible exact Lim.const _)
theorem spec_shWide.F_eq (a0_0 : Int) (a0_1 : Int) (a0_2 : Int) (a0_3 : Int) (a0_4 : Int) (a0_5 : Bool) : spec_shWide.F a0_0 a0_1 a0_2 a0_3 a0_4 a0_5 = ((spec_shFingers.f a0_0 a0_1 a0_2 a0_3 a0_4 a0_5).bind fun t114 => (spec_shWide.L0 t114 1)) := by
  refine Lim.eq_ ?_
  simp only [spec_shWide.f]
  repeat' first
  | (with_reducible exact spec_shWide.L0_lim _ _)
  | (with_reducible refine Lim.ite ?_ ?_)
  | (with_reducible refine Lim.bind ?_ (fun _ => ?_))
  | (with_reducible exact Lim.const _)
def spec_shGood.f (k : Nat) (a0_0 : Int) (a0_1 : Int) (a0_2 : Int) (a0_3 : Int) (a0_4 : Int) (a0_5 : Bool) : Option (Bool) := (spec_l1In.f a0_0 0 2).bind fun t120 => (if t120 = true then ((spec_shFingers.f a0_0 a0_1 a0_2 a0_3 a0_4 a0_5).bind fun t121 => ((spec_l1All.f k t121 0 2).bind fun t124 => (if t124 = true then (if a0_5 = true then ((spec_shWide.f k a0_0 a0_1 a0_2 a0_3 a0_4 a0_5).bind fun t125 => (some t125)) else (some true)) else (some false)))) else (some false))
theorem spec_shGood.mono : ∀ a0 a1 a2 a3 a4 a5 k, LeO (spec_shGood.f k a0 a1 a2 a3 a4 a5) (spec_shGood.f (k + 1) a0 a1 a2 a3 a4 a5) := by
  intro a0 a1 a2 a3 a4 a5 k
  unfold spec_shGood.f
  repeat' first
      | (with_reducible exact spec_l1All.mono _ _ _ _)
      | (with_reducible exact spec_shWide.mono _ _ _ _ _ _ _)
      | (with_reducible exact LeO.refl _)
      | (with_reducible exact LeO.none _)
      | (with_reducible refine LeO.ite ?_ ?_)
      | (with_reducible refine LeO.bind ?_ (fun _ => ?_))
      | exact spec_l1All.mono _ _ _ _
      | exact spec_shWide.mono _ _ _ _ _ _ _
      | exact LeO.none _
      | refine LeO.ite ?_ ?_
      | refine LeO.bind ?_ (fun _ => ?_)
noncomputable def spec_shGood.F (a0_0 : Int) (a0_1 : Int) (a0_2 : Int) (a0_3 : Int) (a0_4 : Int) (a0_5 : Bool) : Option (Bool) := lim fun k => spec_shGood.f k a0_0 a0_1 a0_2 a0_3 a0_4 a0_5
theorem spec_shGood.F_lim (a0_0 : Int) (a0_1 : Int) (a0_2 : Int) (a0_3 : Int) (a0_4 : Int) (a0_5 : Bool) : Lim (fun k => spec_shGood.f k a0_0 a0_1 a0_2 a0_3 a0_4 a0_5) (spec_shGood.F a0_0 a0_1 a0_2 a0_3 a0_4 a0_5) := ⟨spec_shGood.mono a0_0 a0_1 a0_2 a0_3 a0_4 a0_5, rfl⟩
theorem spec_shGood.F_eq (a0_0 : Int) (a0_1 : Int) (a0_2 : Int) (a0_3 : Int) (a0_4 : Int) (a0_5 : Bool) : spec_shGood.F a0_0 a0_1 a0_2 a0_3 a0_4 a0_5 = ((spec_l1In.f a0_0 0 2).bind fun t120 => (if t120 = true then ((spec_shFingers.f a0_0 a0_1 a0_2 a0_3 a0_4 a0_5).bind fun t121 => ((spec_l1All.F t121 0 2).bind fun t124 => (if t124 = true then (if a0_5 = true then ((spec_shWide.F a0_0 a0_1 a0_2 a0_3 a0_4 a0_5).bind fun t125 => (some t125)) else (some true)) else (some false)))) else (some false))) := by
  refine Lim.eq_ ?_
  simp only [spec_shGood.f]
  repeat' first
  | (with_reducible exact spec_l1All.F_lim _ _ _)
  | (with_reducible exact spec_shWide.F_lim _ _ _ _ _ _)
  | (with_reducible refine Lim.ite ?_ ?_)
  | (with_reducible refine Lim.bind ?_ (fun _ => ?_))
  | (with_reducible exact Lim.const _)
mutual
def spec_shParse.j0 : Nat → ByteArray → Bool → Option (Int × Int × Int × Int × Int × Bool × Bool)
  | 0, _, _ => none
  | k + 1, x0, x20 => if x20 = true then (some (0, 0, 0, 0, 0, false, false)) else (spec_shParse.l0 k x0 ([] : List Int) 0)
def spec_shParse.l0 : Nat → ByteArray → List Int → Int → Option (Int × Int × Int × Int × Int × Bool × Bool)
  | 0, _, _, _ => none
  | k + 1, x0, x4, x5 => if x5 < 5 then (if 0 ≤ x5 then (if x5 < (x0.size : Int) then (if x4.length < 17592186044416 then (spec_shParse.l0 k x0 (x4 ++ [wrap64 ((wrap64 (bt x0 x5)) - 48)]) (wrap64 (x5 + 1))) else (none)) else (none)) else (none)) else (if 0 < (x4.length : Int) then (if 1 < (x4.length : Int) then (if 2 < (x4.length : Int) then (if 3 < (x4.length : Int) then (if 4 < (x4.length : Int) then ((spec_shGood.f k (rd x4 0) (rd x4 1) (rd x4 2) (rd x4 3) (rd x4 4) ((x0.size : Int) == 6)).bind fun t137 => (if t137 = true then (some (rd x4 0, rd x4 1, rd x4 2, rd x4 3, rd x4 4, ((x0.size : Int) == 6), true)) else (some (0, 0, 0, 0, 0, false, false)))) else (none)) else (none)) else (none)) else (none)) else (none))
end
def spec_shParse.f (k : Nat) (a0 : ByteArray) : Option (Int × Int × Int × Int × Int × Bool × Bool) := (spec_l1In.f (a0.size : Int) 5 6).bind fun t127 => (if t127 = true then (if (a0.size : Int) = 6 then (if 5 < (a0.size : Int) then (spec_shParse.j0 k a0 ((bt a0 5) != 115)) else (none)) else (spec_shParse.j0 k a0 false)) else (spec_shParse.j0 k a0 true))
theorem spec_shParse.mono_l : ∀ k, (∀ y0 y1, LeO (spec_shParse.j0 k y0 y1) (spec_shParse.j0 (k + 1) y0 y1)) ∧ (∀ y0 y1 y2, LeO (spec_shParse.l0 k y0 y1 y2) (spec_shParse.l0 (k + 1) y0 y1 y2))
  | 0 => ⟨fun _ _ r h => by simp [spec_shParse.j0] at h, fun _ _ _ r h => by simp [spec_shParse.l0] at h⟩
  | k + 1 => by
    obtain ⟨ih0, ih1⟩ := spec_shParse.mono_l k
    refine ⟨?_, ?_⟩
    · intro y0 y1
      unfold spec_shParse.j0
      repeat' first
      | (with_reducible exact ih0 _ _)
      | (with_reducible exact ih1 _ _ _)
      | (with_reducible exact spec_shGood.mono _ _ _ _ _ _ _)
      | (with_reducible exact LeO.refl _)
      | (with_reducible exact LeO.none _)
      | (with_reducible refine LeO.ite ?_ ?_)
      | (with_reducible refine LeO.bind ?_ (fun _ => ?_))
      | exact ih0 _ _
      | exact ih1 _ _ _
      | exact spec_shGood.mono _ _ _ _ _ _ _
      | exact LeO.none _
      | refine LeO.ite ?_ ?_
      | refine LeO.bind ?_ (fun _ => ?_)
    · intro y0 y1 y2
      unfold spec_shParse.l0
      repeat' first
      | (with_reducible exact ih0 _ _)
      | (with_reducible exact ih1 _ _ _)
      | (with_reducible exact spec_shGood.mono _ _ _ _ _ _ _)
      | (with_reducible exact LeO.refl _)
      | (with_reducible exact LeO.none _)
      | (with_reducible refine LeO.ite ?_ ?_)
      | (with_reducible refine LeO.bind ?_ (fun _ => ?_))
      | exact ih0 _ _
      | exact ih1 _ _ _
      | exact spec_shGood.mono _ _ _ _ _ _ _
      | exact LeO.none _
      | refine LeO.ite ?_ ?_
      | refine LeO.bind ?_ (fun _ => ?_)
theorem spec_shParse.mono : ∀ a0 k, LeO (spec_shParse.f k a0) (spec_shParse.f (k + 1) a0) := by
  intro a0 k
  obtain ⟨ih0, ih1⟩ := spec_shParse.mono_l k
  unfold spec_shParse.f
  repeat' first
      | (with_reducible exact ih0 _ _)
      | (with_reducible exact ih1 _ _ _)
      | (with_reducible exact spec_shGood.mono _ _ _ _ _ _ _)
      | (with_reducible exact LeO.refl _)
      | (with_reducible exact LeO.none _)
      | (with_reducible refine LeO.ite ?_ ?_)
      | (with_reducible refine LeO.bind ?_ (fun _ => ?_))
      | exact ih0 _ _
      | exact ih1 _ _ _
      | exact spec_shGood.mono _ _ _ _ _ _ _
      | exact LeO.none _
      | refine LeO.ite ?_ ?_
      | refine LeO.bind ?_ (fun _ => ?_)
noncomputable def spec_shParse.J0 (x0 : ByteArray) (x20 : Bool) : Option (Int × Int × Int × Int × Int × Bool × Bool) := lim fun k => spec_shParse.j0 k x0 x20
theorem spec_shParse.J0_lim (x0 : ByteArray) (x20 : Bool) : Lim (fun k => spec_shParse.j0 k x0 x20) (spec_shParse.J0 x0 x20) := ⟨fun k => (spec_shParse.mono_l k).1 x0 x20, rfl⟩
noncomputable def spec_shParse.L0 (x0 : ByteArray) (x4 : List Int) (x5 : Int) : Option (Int × Int × Int × Int × Int × Bool × Bool) := lim fun k => spec_shParse.l0 k x0 x4 x5
theorem spec_shParse.L0_lim (x0 : ByteArray) (x4 : List Int) (x5 : Int) : Lim (fun k => spec_shParse.l0 k x0 x4 x5) (spec_shParse.L0 x0 x4 x5) := ⟨fun k => (spec_shParse.mono_l k).2 x0 x4 x5, rfl⟩
noncomputable def spec_shParse.F (a0 : ByteArray) : Option (Int × Int × Int × Int × Int × Bool × Bool) := lim fun k => spec_shParse.f k a0
theorem spec_shParse.F_lim (a0 : ByteArray) : Lim (fun k => spec_shParse.f k a0) (spec_shParse.F a0) := ⟨spec_shParse.mono a0, rfl⟩
theorem spec_shParse.J0_eq (x0 : ByteArray) (x20 : Bool) : spec_shParse.J0 x0 x20 = (if x20 = true then (some (0, 0, 0, 0, 0, false, false)) else (spec_shParse.L0 x0 ([] : List Int) 0)) := by
  refine Lim.succ_eq (spec_shParse.J0_lim x0 x20).mon ?_
  simp only [spec_shParse.j0]
  repeat' first
  | (with_reducible exact spec_shParse.J0_lim _ _)
  | (with_reducible exact spec_shParse.L0_lim _ _ _)
  | (with_reducible exact spec_shGood.F_lim _ _ _ _ _ _)
  | (with_reducible refine Lim.ite ?_ ?_)
  | (with_reducible refine Lim.bind ?_ (fun _ => ?_))
  | (with_reducible exact Lim.const _)
theorem spec_shParse.L0_eq (x0 : ByteArray) (x4 : List Int) (x5 : Int) : spec_shParse.L0 x0 x4 x5 = (if x5 < 5 then (if 0 ≤ x5 then (if x5 < (x0.size : Int) then (if x4.length < 17592186044416 then (spec_shParse.L0 x0 (x4 ++ [wrap64 ((wrap64 (bt x0 x5)) - 48)]) (wrap64 (x5 + 1))) else (none)) else (none)) else (none)) else (if 0 < (x4.length : Int) then (if 1 < (x4.length : Int) then (if 2 < (x4.length : Int) then (if 3 < (x4.length : Int) then (if 4 < (x4.length : Int) then ((spec_shGood.F (rd x4 0) (rd x4 1) (rd x4 2) (rd x4 3) (rd x4 4) ((x0.size : Int) == 6)).bind fun t137 => (if t137 = true then (some (rd x4 0, rd x4 1, rd x4 2, rd x4 3, rd x4 4, ((x0.size : Int) == 6), true)) else (some (0, 0, 0, 0, 0, false, false)))) else (none)) else (none)) else (none)) else (none)) else (none))) := by
  refine Lim.succ_eq (spec_shParse.L0_lim x0 x4 x5).mon ?_
  simp only [spec_shParse.l0]
  repeat' first
  | (with_reducible exact spec_shParse.J0_lim _ _)
  | (with_reducible exact spec_shParse.L0_lim _ _ _)
  | (with_reducible exact spec_shGood.F_lim _ _ _ _ _ _)
  | (with_reducible refine Lim.ite ?_ ?_)
  | (with_reducible refine Lim.bind ?_ (fun _ => ?_))
  | (with_reducible exact Lim.const _)
theorem spec_shParse.F_eq (a0 : ByteArray) : spec_shParse.F a0 = ((spec_l1In.f (a0.size : Int) 5 6).bind fun t127 => (if t127 = true then (if (a0.size : Int) = 6 then (if 5 < (a0.size : Int) then (spec_shParse.J0 a0 ((bt a0 5) != 115)) else (none)) else (spec_shParse.J0 a0 false)) else (spec_shParse.J0 a0 true))) := by
  refine Lim.eq_ ?_
  simp only [spec_shParse.f]
  repeat' first
  | (with_reducible exact spec_shParse.J0_lim _ _)
  | (with_reducible exact spec_shParse.L0_lim _ _ _)
  | (with_reducible exact spec_shGood.F_lim _ _ _ _ _ _)
  | (with_reducible refine Lim.ite ?_ ?_)
  | (with_reducible refine Lim.bind ?_ (fun _ => ?_))
  | (with_reducible exact Lim.const _)
def spec_orLetter.l0 : Nat → Int → Int → Option (Int)
  | 0, _, _ => none
  | k + 1, x0, x3 => if x3 < 6 then (if 0 ≤ x3 then (if (bt (⟨#[117, 100, 108, 114, 102, 98]⟩ : ByteArray) x3) = x0 then (some x3) else (spec_orLetter.l0 k x0 (wrap64 (x3 + 1)))) else (none)) else (some (-1))
def spec_orLetter.f (k : Nat) (a0 : Int) : Option (Int) := spec_orLetter.l0 k a0 0
theorem spec_orLetter.mono_l : ∀ k, (∀ y0 y1, LeO (spec_orLetter.l0 k y0 y1) (spec_orLetter.l0 (k + 1) y0 y1))
  | 0 => fun _ _ r h => by simp [spec_orLetter.l0] at h
  | k + 1 => by
    have ih0 := spec_orLetter.mono_l k
    · intro y0 y1
      unfold spec_orLetter.l0
      repeat' first
      | (with_reducible exact ih0 _ _)
      | (with_reducible exact LeO.refl _)
      | (with_reducible exact LeO.none _)
      | (with_reducible refine LeO.ite ?_ ?_)
      | (with_reducible refine LeO.bind ?_ (fun _ => ?_))
      | exact ih0 _ _
      | exact LeO.none _
      | refine LeO.ite ?_ ?_
      | refine LeO.bind ?_ (fun _ => ?_)
theorem spec_orLetter.mono : ∀ a0 k, LeO (spec_orLetter.f k a0) (spec_orLetter.f (k + 1) a0) := by
  intro a0 k
  have ih0 := spec_orLetter.mono_l k
  unfold spec_orLetter.f
  repeat' first
      | (with_reducible exact ih0 _ _)
      | (with_reducible exact LeO.refl _)
      | (with_reducible exact LeO.none _)
      | (with_reducible refine LeO.ite ?_ ?_)
      | (with_reducible refine LeO.bind ?_ (fun _ => ?_))
      | exact ih0 _ _
      | exact LeO.none _
      | refine LeO.ite ?_ ?_
      | refine LeO.bind ?_ (fun _ => ?_)
noncomputable def spec_orLetter.L0 (x0 : Int) (x3 : Int) : Option (Int) := lim fun k => spec_orLetter.l0 k x0 x3
theorem spec_orLetter.L0_lim (x0 : Int) (x3 : Int) : Lim (fun k => spec_orLetter.l0 k x0 x3) (spec_orLetter.L0 x0 x3) := ⟨fun k => (spec_orLetter.mono_l k) x0 x3, rfl⟩
noncomputable def spec_orLetter.F (a0 : Int) : Option (Int) := lim fun k => spec_orLetter.f k a0
theorem spec_orLetter.F_lim (a0 : Int) : Lim (fun k => spec_orLetter.f k a0) (spec_orLetter.F a0) := ⟨spec_orLetter.mono a0, rfl⟩
theorem spec_orLetter.L0_eq (x0 : Int) (x3 : Int) : spec_orLetter.L0 x0 x3 = (if x3 < 6 then (if 0 ≤ x3 then (if (bt (⟨#[117, 100, 108, 114, 102, 98]⟩ : ByteArray) x3) = x0 then (some x3) else (spec_orLetter.L0 x0 (wrap64 (x3 + 1)))) else (none)) else (some (-1))) := by
  refine Lim.succ_eq (spec_orLetter.L0_lim x0 x3).mon ?_
  simp only [spec_orLetter.l0]
  repeat' first
  | (with_reducible exact spec_orLetter.L0_lim _ _)
  | (with_reducible refine Lim.ite ?_ ?_)
  | (with_reducible refine Lim.bind ?_ (fun _ => ?_))
  | (with_reducible exact Lim.const _)
theorem spec_orLetter.F_eq (a0 : Int) : spec_orLetter.F a0 = (spec_orLetter.L0 a0 0) := by
  refine Lim.eq_ ?_
  simp only [spec_orLetter.f]
  repeat' first
  | (with_reducible exact spec_orLetter.L0_lim _ _)
  | (with_reducible refine Lim.ite ?_ ?_)
  | (with_reducible refine Lim.bind ?_ (fun _ => ?_))
  | (with_reducible exact Lim.const _)
def spec_orDir.f (a0 : Int) : Option (Bool) := (spec_l1In.f a0 0 5).bind fun t138 => (some t138)
def spec_orOpposite.f (a0 : Int) : Option (Int) := if (Int.tmod a0 2) = 0 then (some (wrap64 (a0 + 1))) else (some (wrap64 (a0 - 1)))
def spec_orGood.f (a0_0 : Int) (a0_1 : Int) : Option (Bool) := (spec_orDir.f a0_0).bind fun t140 => (if t140 = true then ((spec_orDir.f a0_1).bind fun t141 => (if t141 = true then (if a0_0 = a0_1 then (some false) else ((spec_orOpposite.f a0_1).bind fun t142 => (some (a0_0 != t142)))) else (some false))) else (some false))
def spec_orParse.f (k : Nat) (a0 : ByteArray) : Option (Int × Int × Bool) := if (a0.size : Int) = 2 then (if 0 < (a0.size : Int) then ((spec_orLetter.f k (bt a0 0)).bind fun t144 => (if 1 < (a0.size : Int) then ((spec_orLetter.f k (bt a0 1)).bind fun t145 => ((spec_orGood.f t144 t145).bind fun t147 => (if t147 = true then (some (t144, t145, true)) else (some (0, 0, false))))) else (none))) else (none)) else (some (0, 0, false))
theorem spec_orParse.mono : ∀ a0 k, LeO (spec_orParse.f k a0) (spec_orParse.f (k + 1) a0) := by
  intro a0 k
  unfold spec_orParse.f
  repeat' first
      | (with_reducible exact spec_orLetter.mono _ _)
      | (with_reducible exact LeO.refl _)
      | (with_reducible exact LeO.none _)
      | (with_reducible refine LeO.ite ?_ ?_)
      | (with_reducible refine LeO.bind ?_ (fun _ => ?_))
      | exact spec_orLetter.mono _ _
      | exact LeO.none _
      | refine LeO.ite ?_ ?_
      | refine LeO.bind ?_ (fun _ => ?_)
noncomputable def spec_orParse.F (a0 : ByteArray) : Option (Int × Int × Bool) := lim fun k => spec_orParse.f k a0
theorem spec_orParse.F_lim (a0 : ByteArray) : Lim (fun k => spec_orParse.f k a0) (spec_orParse.F a0) := ⟨spec_orParse.mono a0, rfl⟩
theorem spec_orParse.F_eq (a0 : ByteArray) : spec_orParse.F a0 = (if (a0.size : Int) = 2 then (if 0 < (a0.size : Int) then ((spec_orLetter.F (bt a0 0)).bind fun t144 => (if 1 < (a0.size : Int) then ((spec_orLetter.F (bt a0 1)).bind fun t145 => ((spec_orGood.f t144 t145).bind fun t147 => (if t147 = true then (some (t144, t145, true)) else (some (0, 0, false))))) else (none))) else (none)) else (some (0, 0, false))) := by
  refine Lim.eq_ ?_
  simp only [spec_orParse.f]
  repeat' first
  | (with_reducible exact spec_orLetter.F_lim _)
  | (with_reducible refine Lim.ite ?_ ?_)
  | (with_reducible refine Lim.bind ?_ (fun _ => ?_))
  | (with_reducible exact Lim.const _)
def spec_plGood.f (a0_0 : Int) (a0_1 : Int) (a0_2 : Bool) : Option (Bool) := (spec_l1In.f a0_0 0 9).bind fun t149 => (if t149 = true then ((spec_l1In.f a0_1 (-1) 1).bind fun t150 => (if t150 = true then (if a0_0 > 0 then (some true) else (some (!a0_2))) else (some false))) else (some false))
mutual
def spec_plAll.l0 : Nat → List (S27) → Int → Option ((List (S27)))
  | 0, _, _ => none
  | k + 1, x1, x2 => if x2 < 10 then (spec_plAll.l1 k x1 x2 (-1)) else (some x1)
def spec_plAll.l1 : Nat → List (S27) → Int → Int → Option ((List (S27)))
  | 0, _, _, _ => none
  | k + 1, x1, x2, x3 => if x3 ≤ 1 then ((some (([false, true] : List Bool) : List Bool)).bind fun y151 => (spec_plAll.l2 k x1 x2 x3 y151 (y151.length : Int) 0)) else (spec_plAll.l0 k x1 (wrap64 (x2 + 1)))
def spec_plAll.l2 : Nat → List (S27) → Int → Int → List Bool → Int → Int → Option ((List (S27)))
  | 0, _, _, _, _, _, _ => none
  | k + 1, x1, x2, x3, x15, x16, x17 => if x17 < x16 then (if 0 ≤ x17 then (if x17 < (x15.length : Int) then ((spec_plGood.f x2 x3 (rdOf false x15 x17)).bind fun t156 => (if t156 = true then (if x1.length < 5864062014805 then (spec_plAll.l2 k (x1 ++ [(⟨x2, x3, rdOf false x15 x17⟩ : S27)]) x2 x3 x15 x16 (wrap64 (x17 + 1))) else (none)) else (spec_plAll.l2 k x1 x2 x3 x15 x16 (wrap64 (x17 + 1))))) else (none)) else (none)) else (spec_plAll.l1 k x1 x2 (wrap64 (x3 + 1)))
end
def spec_plAll.f (k : Nat)  : Option ((List (S27))) := spec_plAll.l0 k ([] : List (S27)) 0
theorem spec_plAll.mono_l : ∀ k, (∀ y0 y1, LeO (spec_plAll.l0 k y0 y1) (spec_plAll.l0 (k + 1) y0 y1)) ∧ (∀ y0 y1 y2, LeO (spec_plAll.l1 k y0 y1 y2) (spec_plAll.l1 (k + 1) y0 y1 y2)) ∧ (∀ y0 y1 y2 y3 y4 y5, LeO (spec_plAll.l2 k y0 y1 y2 y3 y4 y5) (spec_plAll.l2 (k + 1) y0 y1 y2 y3 y4 y5))
  | 0 => ⟨fun _ _ r h => by simp [spec_plAll.l0] at h, fun _ _ _ r h => by simp [spec_plAll.l1] at h, fun _ _ _ _ _ _ r h => by simp [spec_plAll.l2] at h⟩
  | k + 1 => by
    obtain ⟨ih0, ih1, ih2⟩ := spec_plAll.mono_l k
    refine ⟨?_, ?_, ?_⟩
    · intro y0 y1
      unfold spec_plAll.l0
      repeat' first
      | (with_reducible exact ih0 _ _)
      | (with_reducible exact ih1 _ _ _)
      | (with_reducible exact ih2 _ _ _ _ _ _)
      | (with_reducible exact LeO.refl _)
      | (with_reducible exact LeO.none _)
      | (with_reducible refine LeO.ite ?_ ?_)
      | (with_reducible refine LeO.bind ?_ (fun _ => ?_))
      | exact ih0 _ _
      | exact ih1 _ _ _
      | exact ih2 _ _ _ _ _ _
      | exact LeO.none _
      | refine LeO.ite ?_ ?_
      | refine LeO.bind ?_ (fun _ => ?_)
    · intro y0 y1 y2
      unfold spec_plAll.l1
      repeat' first
      | (with_reducible exact ih0 _ _)
      | (with_reducible exact ih1 _ _ _)
      | (with_reducible exact ih2 _ _ _ _ _ _)
      | (with_reducible exact LeO.refl _)
      | (with_reducible exact LeO.none _)
      | (with_reducible refine LeO.ite ?_ ?_)
      | (with_reducible refine LeO.bind ?_ (fun _ => ?_))
      | exact ih0 _ _
      | exact ih1 _ _ _
      | exact ih2 _ _ _ _ _ _
      | exact LeO.none _
      | refine LeO.ite ?_ ?_
      | refine LeO.bind ?_ (fun _ => ?_)
    · intro y0 y1 y2 y3 y4 y5
      unfold spec_plAll.l2
      repeat' first
      | (with_reducible exact ih0 _ _)
      | (with_reducible exact ih1 _ _ _)
      | (with_reducible exact ih2 _ _ _ _ _ _)
      | (with_reducible exact LeO.refl _)
      | (with_reducible exact LeO.none _)
      | (with_reducible refine LeO.ite ?_ ?_)
      | (with_reducible refine LeO.bind ?_ (fun _ => ?_))
      | exact ih0 _ _
      | exact ih1 _ _ _
      | exact ih2 _ _ _ _ _ _
      | exact LeO.none _
      | refine LeO.ite ?_ ?_
      | refine LeO.bind ?_ (fun _ => ?_)
theorem spec_plAll.mono : ∀ k, LeO (spec_plAll.f k ) (spec_plAll.f (k + 1) ) := by
  intro  k
  obtain ⟨ih0, ih1, ih2⟩ := spec_plAll.mono_l k
  unfold spec_plAll.f
  repeat' first
      | (with_reducible exact ih0 _ _)
      | (with_reducible exact ih1 _ _ _)
      | (with_reducible exact ih2 _ _ _ _ _ _)
      | (with_reducible exact LeO.refl _)
      | (with_reducible exact LeO.none _)
      | (with_reducible refine LeO.ite ?_ ?_)
      | (with_reducible refine LeO.bind ?_ (fun _ => ?_))
      | exact ih0 _ _
      | exact ih1 _ _ _
      | exact ih2 _ _ _ _ _ _
      | exact LeO.none _
      | refine LeO.ite ?_ ?_
      | refine LeO.bind ?_ (fun _ => ?_)
noncomputable def spec_plAll.L0 (x1 : List (S27)) (x2 : Int) : Option ((List (S27))) := lim fun k => spec_plAll.l0 k x1 x2
theorem spec_plAll.L0_lim (x1 : List (S27)) (x2 : Int) : Lim (fun k => spec_plAll.l0 k x1 x2) (spec_plAll.L0 x1 x2) := ⟨fun k => (spec_plAll.mono_l k).1 x1 x2, rfl⟩
noncomputable def spec_plAll.L1 (x1 : List (S27)) (x2 : Int) (x3 : Int) : Option ((List (S27))) := lim fun k => spec_plAll.l1 k x1 x2 x3
theorem spec_plAll.L1_lim (x1 : List (S27)) (x2 : Int) (x3 : Int) : Lim (fun k => spec_plAll.l1 k x1 x2 x3) (spec_plAll.L1 x1 x2 x3) := ⟨fun k => (spec_plAll.mono_l k).2.1 x1 x2 x3, rfl⟩
noncomputable def spec_plAll.L2 (x1 : List (S27)) (x2 : Int) (x3 : Int) (x15 : List Bool) (x16 : Int) (x17 : Int) : Option ((List (S27))) := lim fun k => spec_plAll.l2 k x1 x2 x3 x15 x16 x17
theorem spec_plAll.L2_lim (x1 : List (S27)) (x2 : Int) (x3 : Int) (x15 : List Bool) (x16 : Int) (x17 : Int) : Lim (fun k => spec_plAll.l2 k x1 x2 x3 x15 x16 x17) (spec_plAll.L2 x1 x2 x3 x15 x16 x17) := ⟨fun k => (spec_plAll.mono_l k).2.2 x1 x2 x3 x15 x16 x17, rfl⟩
noncomputable def spec_plAll.F  : Option ((List (S27))) := lim fun k => spec_plAll.f k 
theorem spec_plAll.F_lim  : Lim (fun k => spec_plAll.f k ) (spec_plAll.F ) := ⟨spec_plAll.mono , rfl⟩
theorem spec_plAll.L0_eq (x1 : List (S27)) (x2 : Int) : spec_plAll.L0 x1 x2 = (if x2 < 10 then (spec_plAll.L1 x1 x2 (-1)) else (some x1)) := by
  refine Lim.succ_eq (spec_plAll.L0_lim x1 x2).mon ?_
  simp only [spec_plAll.l0]
  repeat' first
  | (with_reducible exact spec_plAll.L0_lim _ _)
  | (with_reducible exact spec_plAll.L1_lim _ _ _)
  | (with_reducible exact spec_plAll.L2_lim _ _ _ _ _ _)
  | (with_reducible refine Lim.ite ?_ ?_)
  | (with_reducible refine Lim.bind ?_ (fun _ => ?_))
  | (with_reducible exact Lim.const _)
theorem spec_plAll.L1_eq (x1 : List (S27)) (x2 : Int) (x3 : Int) : spec_plAll.L1 x1 x2 x3 = (if x3 ≤ 1 then ((some (([false, true] : List Bool) : List Bool)).bind fun y151 => (spec_plAll.L2 x1 x2 x3 y151 (y151.length : Int) 0)) else (spec_plAll.L0 x1 (wrap64 (x2 + 1)))) := by
  refine Lim.succ_eq (spec_plAll.L1_lim x1 x2 x3).mon ?_
  simp only [spec_plAll.l1]
  repeat' first
  | (with_reducible exact spec_plAll.L0_lim _ _)
  | (with_reducible exact spec_plAll.L1_lim _ _ _)
  | (with_reducible exact spec_plAll.L2_lim _ _ _ _ _ _)
  | (with_reducible refine Lim.ite ?_ ?_)
  | (with_reducible refine Lim.bind ?_ (fun _ => ?_))
  | (with_reducible exact Lim.const _)
theorem spec_plAll.L2_eq (x1 : List (S27)) (x2 : Int) (x3 : Int) (x15 : List Bool) (x16 : Int) (x17 : Int) : spec_plAll.L2 x1 x2 x3 x15 x16 x17 = (if x17 < x16 then (if 0 ≤ x17 then (if x17 < (x15.length : Int) then ((spec_plGood.f x2 x3 (rdOf false x15 x17)).bind fun t156 => (if t156 = true then (if x1.length < 5864062014805 then (spec_plAll.L2 (x1 ++ [(⟨x2, x3, rdOf false x15 x17⟩ : S27)]) x2 x3 x15 x16 (wrap64 (x17 + 1))) else (none)) else (spec_plAll.L2 x1 x2 x3 x15 x16 (wrap64 (x17 + 1))))) else (none)) else (none)) else (spec_plAll.L1 x1 x2 (wrap64 (x3 + 1)))) := by
  refine Lim.succ_eq (spec_plAll.L2_lim x1 x2 x3 x15 x16 x17).mon ?_
  simp only [spec_plAll.l2]
  repeat' first
  | (with_reducible exact spec_plAll.L0_lim _ _)
  | (with_reducible exact spec_plAll.L1_lim _ _ _)
  | (with_reducible exact spec_plAll.L2_lim _ _ _ _ _ _)
  | (with_reducible refine Lim.ite ?_ ?_)
  | (with_reducible refine Lim.bind ?_ (fun _ => ?_))
  | (with_reducible exact Lim.const _)
theorem spec_plAll.F_eq  : spec_plAll.F  = (spec_plAll.L0 ([] : List (S27)) 0) := by
  refine Lim.eq_ ?_
  simp only [spec_plAll.f]
  repeat' first
  | (with_reducible exact spec_plAll.L0_lim _ _)
  | (with_reducible exact spec_plAll.L1_lim _ _ _)
  | (with_reducible exact spec_plAll.L2_lim _ _ _ _ _ _)
  | (with_reducible refine Lim.ite ?_ ?_)
  | (with_reducible refine Lim.bind ?_ (fun _ => ?_))
  | (with_reducible exact Lim.const _)
def spec_plNames.f  : Option (List ByteArray) := some (([(⟨#[115, 112, 97, 99, 101]⟩ : ByteArray), (⟨#[104, 101, 97, 100]⟩ : ByteArray), (⟨#[101, 121, 101]⟩ : ByteArray), (⟨#[99, 104, 101, 101, 107]⟩ : ByteArray), (⟨#[109, 111, 117, 116, 104]⟩ : ByteArray), (⟨#[99, 104, 105, 110]⟩ : ByteArray), (⟨#[110, 101, 99, 107]⟩ : ByteArray), (⟨#[99, 104, 101, 115, 116]⟩ : ByteArray), (⟨#[119, 97, 105, 115, 116]⟩ : ByteArray), (⟨#[104, 105, 112]⟩ : ByteArray)] : List ByteArray))
def spec_plText.f (a0_0 : Int) (a0_1 : Int) (a0_2 : Bool) : Option (ByteArray) := (spec_plNames.f).bind fun t164 => (if 0 ≤ a0_0 then (if a0_0 < (t164.length : Int) then (if a0_1 = (-1) then (if (rdOf ByteArray.empty t164 a0_0).size + 1 ≤ 9223372036854775807 then (if a0_2 = true then (if ((rdOf ByteArray.empty t164 a0_0) ++ (⟨#[60]⟩ : ByteArray)).size + 1 ≤ 9223372036854775807 then (some (((rdOf ByteArray.empty t164 a0_0) ++ (⟨#[60]⟩ : ByteArray)) ++ (⟨#[42]⟩ : ByteArray))) else (none)) else (some ((rdOf ByteArray.empty t164 a0_0) ++ (⟨#[60]⟩ : ByteArray)))) else (none)) else (if a0_1 = 1 then (if (rdOf ByteArray.empty t164 a0_0).size + 1 ≤ 9223372036854775807 then (if a0_2 = true then (if ((rdOf ByteArray.empty t164 a0_0) ++ (⟨#[62]⟩ : ByteArray)).size + 1 ≤ 9223372036854775807 then (some (((rdOf ByteArray.empty t164 a0_0) ++ (⟨#[62]⟩ : ByteArray)) ++ (⟨#[42]⟩ : ByteArray))) else (none)) else (some ((rdOf ByteArray.empty t164 a0_0) ++ (⟨#[62]⟩ : ByteArray)))) else (none)) else (if a0_2 = true then (if (rdOf ByteArray.empty t164 a0_0).size + 1 ≤ 9223372036854775807 then (some ((rdOf ByteArray.empty t164 a0_0) ++ (⟨#[42]⟩ : ByteArray))) else (none)) else (some (rdOf ByteArray.empty t164 a0_0))))) else (none)) else (none))
def spec_plParse.l0 : Nat → ByteArray → List (S27) → Int → Int → Option (Int × Int × Bool × Bool)
  | 0, _, _, _, _ => none
  | k + 1, x0, x6, x7, x8 => if x8 < x7 then (if 0 ≤ x8 then (if x8 < (x6.length : Int) then ((spec_plText.f ((rd_T27 x6 x8).f0) ((rd_T27 x6 x8).f1) ((rd_T27 x6 x8).f2)).bind fun t174 => (if t174.toList = x0.toList then (some ((rd_T27 x6 x8).f0, (rd_T27 x6 x8).f1, (rd_T27 x6 x8).f2, true)) else (spec_plParse.l0 k x0 x6 x7 (wrap64 (x8 + 1))))) else (none)) else (none)) else (some (0, 0, false, false))
def spec_plParse.f (k : Nat) (a0 : ByteArray) : Option (Int × Int × Bool × Bool) := (spec_plAll.f k).bind fun t169 => (spec_plParse.l0 k a0 t169 (t169.length : Int) 0)
theorem spec_plParse.mono_l : ∀ k, (∀ y0 y1 y2 y3, LeO (spec_plParse.l0 k y0 y1 y2 y3) (spec_plParse.l0 (k + 1) y0 y1 y2 y3))
  | 0 => fun _ _ _ _ r h => by simp [spec_plParse.l0] at h
  | k + 1 => by
    have ih0 := spec_plParse.mono_l k
    · intro y0 y1 y2 y3
      unfold spec_plParse.l0
      repeat' first
      | (with_reducible exact ih0 _ _ _ _)
      | (with_reducible exact spec_plAll.mono _)
      | (with_reducible exact LeO.refl _)
      | (with_reducible exact LeO.none _)
      | (with_reducible refine LeO.ite ?_ ?_)
      | (with_reducible refine LeO.bind ?_ (fun _ => ?_))
      | exact ih0 _ _ _ _
      | exact spec_plAll.mono _
      | exact LeO.none _
      | refine LeO.ite ?_ ?_
      | refine LeO.bind ?_ (fun _ => ?_)
theorem spec_plParse.mono : ∀ a0 k, LeO (spec_plParse.f k a0) (spec_plParse.f (k + 1) a0) := by
  intro a0 k
  have ih0 := spec_plParse.mono_l k
  unfold spec_plParse.f
  repeat' first
      | (with_reducible exact ih0 _ _ _ _)
      | (with_reducible exact spec_plAll.mono _)
      | (with_reducible exact LeO.refl _)
      | (with_reducible exact LeO.none _)
      | (with_reducible refine LeO.ite ?_ ?_)
      | (with_reducible refine LeO.bind ?_ (fun _ => ?_))
      | exact ih0 _ _ _ _
      | exact spec_plAll.mono _
      | exact LeO.none _
      | refine LeO.ite ?_ ?_
      | refine LeO.bind ?_ (fun _ => ?_)
noncomputable def spec_plParse.L0 (x0 : ByteArray) (x6 : List (S27)) (x7 : Int) (x8 : Int) : Option (Int × Int × Bool × Bool) := lim fun k => spec_plParse.l0 k x0 x6 x7 x8
theorem spec_plParse.L0_lim (x0 : ByteArray) (x6 : List (S27)) (x7 : Int) (x8 : Int) : Lim (fun k => spec_plParse.l0 k x0 x6 x7 x8) (spec_plParse.L0 x0 x6 x7 x8) := ⟨fun k => (spec_plParse.mono_l k) x0 x6 x7 x8, rfl⟩
noncomputable def spec_plParse.F (a0 : ByteArray) : Option (Int × Int × Bool × Bool) := lim fun k => spec_plParse.f k a0
theorem spec_plParse.F_lim (a0 : ByteArray) : Lim (fun k => spec_plParse.f k a0) (spec_plParse.F a0) := ⟨spec_plParse.mono a0, rfl⟩
theorem spec_plParse.L0_eq (x0 : ByteArray) (x6 : List (S27)) (x7 : Int) (x8 : Int) : spec_plParse.L0 x0 x6 x7 x8 = (if x8 < x7 then (if 0 ≤ x8 then (if x8 < (x6.length : Int) then ((spec_plText.f ((rd_T27 x6 x8).f0) ((rd_T27 x6 x8).f1) ((rd_T27 x6 x8).f2)).bind fun t174 => (if t174.toList = x0.toList then (some ((rd_T27 x6 x8).f0, (rd_T27 x6 x8).f1, (rd_T27 x6 x8).f2, true)) else (spec_plParse.L0 x0 x6 x7 (wrap64 (x8 + 1))))) else (none)) else (none)) else (some (0, 0, false, false))) := by
  refine Lim.succ_eq (spec_plParse.L0_lim x0 x6 x7 x8).mon ?_
  simp only [spec_plParse.l0]
  repeat' first
  | (with_reducible exact spec_plParse.L0_lim _ _ _ _)
  | (with_reducible exact spec_plAll.F_lim)
  | (with_reducible refine Lim.ite ?_ ?_)
  | (with_reducible refine Lim.bind ?_ (fun _ => ?_))
  | (with_reducible exact Lim.const _)
theorem spec_plParse.F_eq (a0 : ByteArray) : spec_plParse.F a0 = ((spec_plAll.F).bind fun t169 => (spec_plParse.L0 a0 t169 (t169.length : Int) 0)) := by
  refine Lim.eq_ ?_
  simp only [spec_plParse.f]
  repeat' first
  | (with_reducible exact spec_plParse.L0_lim _ _ _ _)
  | (with_reducible exact spec_plAll.F_lim)
  | (with_reducible refine Lim.ite ?_ ?_)
  | (with_reducible refine Lim.bind ?_ (fun _ => ?_))
  | (with_reducible exact Lim.const _)
mutual
def spec_l1Read.j0 : Nat → ByteArray → Bool → Option (Int)
  | 0, _, _ => none
  | k + 1, x0, x18 => if x18 = true then (some (-1)) else (spec_l1Read.l0 k x0 0 0)
def spec_l1Read.l0 : Nat → ByteArray → Int → Int → Option (Int)
  | 0, _, _, _ => none
  | k + 1, x0, x3, x4 => if x4 < (x0.size : Int) then (if 0 ≤ x4 then (if (bt x0 x4) < 48 then (some (-1)) else (if (bt x0 x4) > 57 then (some (-1)) else (spec_l1Read.l0 k x0 (wrap64 ((wrap64 (10 * x3)) + (((bt x0 x4) - 48) % 256))) (wrap64 (x4 + 1))))) else (none)) else (some x3)
end
def spec_l1Read.f (k : Nat) (a0 : ByteArray) : Option (Int) := (spec_l1In.f (a0.size : Int) 1 6).bind fun t175 => (if t175 = true then (if 0 < (a0.size : Int) then (if (bt a0 0) = 48 then (spec_l1Read.j0 k a0 (decide ((a0.size : Int) > 1))) else (spec_l1Read.j0 k a0 false)) else (none)) else (spec_l1Read.j0 k a0 true))
theorem spec_l1Read.mono_l : ∀ k, (∀ y0 y1, LeO (spec_l1Read.j0 k y0 y1) (spec_l1Read.j0 (k + 1) y0 y1)) ∧ (∀ y0 y1 y2, LeO (spec_l1Read.l0 k y0 y1 y2) (spec_l1Read.l0 (k + 1) y0 y1 y2))
  | 0 => ⟨fun _ _ r h => by simp [spec_l1Read.j0] at h, fun _ _ _ r h => by simp [spec_l1Read.l0] at h⟩
  | k + 1 => by
    obtain ⟨ih0, ih1⟩ := spec_l1Read.mono_l k
    refine ⟨?_, ?_⟩
    · intro y0 y1
      unfold spec_l1Read.j0
      repeat' first
      | (with_reducible exact ih0 _ _)
      | (with_reducible exact ih1 _ _ _)
      | (with_reducible exact LeO.refl _)
      | (with_reducible exact LeO.none _)
      | (with_reducible refine LeO.ite ?_ ?_)
      | (with_reducible refine LeO.bind ?_ (fun _ => ?_))
      | exact ih0 _ _
      | exact ih1 _ _ _
      | exact LeO.none _
      | refine LeO.ite ?_ ?_
      | refine LeO.bind ?_ (fun _ => ?_)
    · intro y0 y1 y2
      unfold spec_l1Read.l0
      repeat' first
      | (with_reducible exact ih0 _ _)
      | (with_reducible exact ih1 _ _ _)
      | (with_reducible exact LeO.refl _)
      | (with_reducible exact LeO.none _)
      | (with_reducible refine LeO.ite ?_ ?_)
      | (with_reducible refine LeO.bind ?_ (fun _ => ?_))
      | exact ih0 _ _
      | exact ih1 _ _ _
      | exact LeO.none _
      | refine LeO.ite ?_ ?_
      | refine LeO.bind ?_ (fun _ => ?_)
theorem spec_l1Read.mono : ∀ a0 k, LeO (spec_l1Read.f k a0) (spec_l1Read.f (k + 1) a0) := by
  intro a0 k
  obtain ⟨ih0, ih1⟩ := spec_l1Read.mono_l k
  unfold spec_l1Read.f
  repeat' first
      | (with_reducible exact ih0 _ _)
      | (with_reducible exact ih1 _ _ _)
      | (with_reducible exact LeO.refl _)
      | (with_reducible exact LeO.none _)
      | (with_reducible refine LeO.ite ?_ ?_)
      | (with_reducible refine LeO.bind ?_ (fun _ => ?_))
      | exact ih0 _ _
      | exact ih1 _ _ _
      | exact LeO.none _
      | refine LeO.ite ?_ ?_
      | refine LeO.bind ?_ (fun _ => ?_)
noncomputable def spec_l1Read.J0 (x0 : ByteArray) (x18 : Bool) : Option (Int) := lim fun k => spec_l1Read.j0 k x0 x18
theorem spec_l1Read.J0_lim (x0 : ByteArray) (x18 : Bool) : Lim (fun k => spec_l1Read.j0 k x0 x18) (spec_l1Read.J0 x0 x18) := ⟨fun k => (spec_l1Read.mono_l k).1 x0 x18, rfl⟩
noncomputable def spec_l1Read.L0 (x0 : ByteArray) (x3 : Int) (x4 : Int) : Option (Int) := lim fun k => spec_l1Read.l0 k x0 x3 x4
theorem spec_l1Read.L0_lim (x0 : ByteArray) (x3 : Int) (x4 : Int) : Lim (fun k => spec_l1Read.l0 k x0 x3 x4) (spec_l1Read.L0 x0 x3 x4) := ⟨fun k => (spec_l1Read.mono_l k).2 x0 x3 x4, rfl⟩
noncomputable def spec_l1Read.F (a0 : ByteArray) : Option (Int) := lim fun k => spec_l1Read.f k a0
theorem spec_l1Read.F_lim (a0 : ByteArray) : Lim (fun k => spec_l1Read.f k a0) (spec_l1Read.F a0) := ⟨spec_l1Read.mono a0, rfl⟩
theorem spec_l1Read.J0_eq (x0 : ByteArray) (x18 : Bool) : spec_l1Read.J0 x0 x18 = (if x18 = true then (some (-1)) else (spec_l1Read.L0 x0 0 0)) := by
  refine Lim.succ_eq (spec_l1Read.J0_lim x0 x18).mon ?_
  simp only [spec_l1Read.j0]
  repeat' first
  | (with_reducible exact spec_l1Read.J0_lim _ _)
  | (with_reducible exact spec_l1Read.L0_lim _ _ _)
  | (with_reducible refine Lim.ite ?_ ?_)
  | (with_reducible refine Lim.bind ?_ (fun _ => ?_))
  | (with_reducible exact Lim.const _)
theorem spec_l1Read.L0_eq (x0 : ByteArray) (x3 : Int) (x4 : Int) : spec_l1Read.L0 x0 x3 x4 = (if x4 < (x0.size : Int) then (if 0 ≤ x4 then (if (bt x0 x4) < 48 then (some (-1)) else (if (bt x0 x4) > 57 then (some (-1)) else (spec_l1Read.L0 x0 (wrap64 ((wrap64 (10 * x3)) + (((bt x0 x4) - 48) % 256))) (wrap64 (x4 + 1))))) else (none)) else (some x3)) := by
  refine Lim.succ_eq (spec_l1Read.L0_lim x0 x3 x4).mon ?_
  simp only [spec_l1Read.l0]
  repeat' first
  | (with_reducible exact spec_l1Read.J0_lim _ _)
  | (with_reducible exact spec_l1Read.L0_lim _ _ _)
  | (with_reducible refine Lim.ite ?_ ?_)
  | (with_reducible refine Lim.bind ?_ (fun _ => ?_))
  | (with_reducible exact Lim.const _)
theorem spec_l1Read.F_eq (a0 : ByteArray) : spec_l1Read.F a0 = ((spec_l1In.f (a0.size : Int) 1 6).bind fun t175 => (if t175 = true then (if 0 < (a0.size : Int) then (if (bt a0 0) = 48 then (spec_l1Read.J0 a0 (decide ((a0.size : Int) > 1))) else (spec_l1Read.J0 a0 false)) else (none)) else (spec_l1Read.J0 a0 true))) := by
  refine Lim.eq_ ?_
  simp only [spec_l1Read.f]
  repeat' first
  | (with_reducible exact spec_l1Read.J0_lim _ _)
  | (with_reducible exact spec_l1Read.L0_lim _ _ _)
  | (with_reducible refine Lim.ite ?_ ?_)
  | (with_reducible refine Lim.bind ?_ (fun _ => ?_))
  | (with_reducible exact Lim.const _)
def spec_mvLetters.f  : Option (ByteArray) := some (⟨#[117, 100, 108, 114, 102, 98]⟩ : ByteArray)
def spec_mvIndex.l0 : Nat → Int → Int → Option (Int)
  | 0, _, _ => none
  | k + 1, x0, x3 => (spec_mvLetters.f).bind fun t176 => (if x3 < (t176.size : Int) then ((spec_mvLetters.f).bind fun t177 => (if 0 ≤ x3 then (if x3 < (t177.size : Int) then (if (bt t177 x3) = x0 then (some x3) else (spec_mvIndex.l0 k x0 (wrap64 (x3 + 1)))) else (none)) else (none))) else (some (-1)))
def spec_mvIndex.f (k : Nat) (a0 : Int) : Option (Int) := spec_mvIndex.l0 k a0 0
theorem spec_mvIndex.mono_l : ∀ k, (∀ y0 y1, LeO (spec_mvIndex.l0 k y0 y1) (spec_mvIndex.l0 (k + 1) y0 y1))
  | 0 => fun _ _ r h => by simp [spec_mvIndex.l0] at h
  | k + 1 => by
    have ih0 := spec_mvIndex.mono_l k
    · intro y0 y1
      unfold spec_mvIndex.l0
      repeat' first
      | (with_reducible exact ih0 _ _)
      | (with_reducible exact LeO.refl _)
      | (with_reducible exact LeO.none _)
      | (with_reducible refine LeO.ite ?_ ?_)
      | (with_reducible refine LeO.bind ?_ (fun _ => ?_))
      | exact ih0 _ _
      | exact LeO.none _
      | refine LeO.ite ?_ ?_
      | refine LeO.bind ?_ (fun _ => ?_)
theorem spec_mvIndex.mono : ∀ a0 k, LeO (spec_mvIndex.f k a0) (spec_mvIndex.f (k + 1) a0) := by
  intro a0 k
  have ih0 := spec_mvIndex.mono_l k
  unfold spec_mvIndex.f
  repeat' first
      | (with_reducible exact ih0 _ _)
      | (with_reducible exact LeO.refl _)
      | (with_reducible exact LeO.none _)
      | (with_reducible refine LeO.ite ?_ ?_)
      | (with_reducible refine LeO.bind ?_ (fun _ => ?_))
      | exact ih0 _ _
      | exact LeO.none _
      | refine LeO.ite ?_ ?_
      | refine LeO.bind ?_ (fun _ => ?_)
noncomputable def spec_mvIndex.L0 (x0 : Int) (x3 : Int) : Option (Int) := lim fun k => spec_mvIndex.l0 k x0 x3
theorem spec_mvIndex.L0_lim (x0 : Int) (x3 : Int) : Lim (fun k => spec_mvIndex.l0 k x0 x3) (spec_mvIndex.L0 x0 x3) := ⟨fun k => (spec_mvIndex.mono_l k) x0 x3, rfl⟩
noncomputable def spec_mvIndex.F (a0 : Int) : Option (Int) := lim fun k => spec_mvIndex.f k a0
theorem spec_mvIndex.F_lim (a0 : Int) : Lim (fun k => spec_mvIndex.f k a0) (spec_mvIndex.F a0) := ⟨spec_mvIndex.mono a0, rfl⟩
theorem spec_mvIndex.L0_eq (x0 : Int) (x3 : Int) : spec_mvIndex.L0 x0 x3 = ((spec_mvLetters.f).bind fun t176 => (if x3 < (t176.size : Int) then ((spec_mvLetters.f).bind fun t177 => (if 0 ≤ x3 then (if x3 < (t177.size : Int) then (if (bt t177 x3) = x0 then (some x3) else (spec_mvIndex.L0 x0 (wrap64 (x3 + 1)))) else (none)) else (none))) else (some (-1)))) := by
  refine Lim.succ_eq (spec_mvIndex.L0_lim x0 x3).mon ?_
  simp only [spec_mvIndex.l0]
  repeat' first
  | (with_reducible exact spec_mvIndex.L0_lim _ _)
  | (with_reducible refine Lim.ite ?_ ?_)
  | (with_reducible refine Lim.bind ?_ (fun _ => ?_))
  | (with_reducible exact Lim.const _)
theorem spec_mvIndex.F_eq (a0 : Int) : spec_mvIndex.F a0 = (spec_mvIndex.L0 a0 0) := by
  refine Lim.eq_ ?_
  simp only [spec_mvIndex.f]
  repeat' first
  | (with_reducible exact spec_mvIndex.L0_lim _ _)
  | (with_reducible refine Lim.ite ?_ ?_)
  | (with_reducible refine Lim.bind ?_ (fun _ => ?_))
  | (with_reducible exact Lim.const _)
def spec_mvSteps.l0 : Nat → ByteArray → Int → Option (Bool)
  | 0, _, _ => none
  | k + 1, x0, x3 => if x3 < (x0.size : Int) then (if 0 ≤ x3 then ((spec_mvIndex.f k (bt x0 x3)).bind fun t178 => (if t178 < 0 then (some false) else (spec_mvSteps.l0 k x0 (wrap64 (x3 + 1))))) else (none)) else (some true)
def spec_mvSteps.f (k : Nat) (a0 : ByteArray) : Option (Bool) := spec_mvSteps.l0 k a0 0
theorem spec_mvSteps.mono_l : ∀ k, (∀ y0 y1, LeO (spec_mvSteps.l0 k y0 y1) (spec_mvSteps.l0 (k + 1) y0 y1))
  | 0 => fun _ _ r h => by simp [spec_mvSteps.l0] at h
  | k + 1 => by
    have ih0 := spec_mvSteps.mono_l k
    · intro y0 y1
      unfold spec_mvSteps.l0
      repeat' first
      | (with_reducible exact ih0 _ _)
      | (with_reducible exact spec_mvIndex.mono _ _)
      | (with_reducible exact LeO.refl _)
      | (with_reducible exact LeO.none _)
      | (with_reducible refine LeO.ite ?_ ?_)
      | (with_reducible refine LeO.bind ?_ (fun _ => ?_))
      | exact ih0 _ _
      | exact spec_mvIndex.mono _ _
      | exact LeO.none _
      | refine LeO.ite ?_ ?_
      | refine LeO.bind ?_ (fun _ => ?_)
theorem spec_mvSteps.mono : ∀ a0 k, LeO (spec_mvSteps.f k a0) (spec_mvSteps.f (k + 1) a0) := by
  intro a0 k
  have ih0 := spec_mvSteps.mono_l k
  unfold spec_mvSteps.f
  repeat' first
      | (with_reducible exact ih0 _ _)
      | (with_reducible exact spec_mvIndex.mono _ _)
      | (with_reducible exact LeO.refl _)
      | (with_reducible exact LeO.none _)
      | (with_reducible refine LeO.ite ?_ ?_)
      | (with_reducible refine LeO.bind ?_ (fun _ => ?_))
      | exact ih0 _ _
      | exact spec_mvIndex.mono _ _
      | exact LeO.none _
      | refine LeO.ite ?_ ?_
      | refine LeO.bind ?_ (fun _ => ?_)
noncomputable def spec_mvSteps.L0 (x0 : ByteArray) (x3 : Int) : Option (Bool) := lim fun k => spec_mvSteps.l0 k x0 x3
theorem spec_mvSteps.L0_lim (x0 : ByteArray) (x3 : Int) : Lim (fun k => spec_mvSteps.l0 k x0 x3) (spec_mvSteps.L0 x0 x3) := ⟨fun k => (spec_mvSteps.mono_l k) x0 x3, rfl⟩
noncomputable def spec_mvSteps.F (a0 : ByteArray) : Option (Bool) := lim fun k => spec_mvSteps.f k a0
theorem spec_mvSteps.F_lim (a0 : ByteArray) : Lim (fun k => spec_mvSteps.f k a0) (spec_mvSteps.F a0) := ⟨spec_mvSteps.mono a0, rfl⟩
theorem spec_mvSteps.L0_eq (x0 : ByteArray) (x3 : Int) : spec_mvSteps.L0 x0 x3 = (if x3 < (x0.size : Int) then (if 0 ≤ x3 then ((spec_mvIndex.F (bt x0 x3)).bind fun t178 => (if t178 < 0 then (some false) else (spec_mvSteps.L0 x0 (wrap64 (x3 + 1))))) else (none)) else (some true)) := by
  refine Lim.succ_eq (spec_mvSteps.L0_lim x0 x3).mon ?_
  simp only [spec_mvSteps.l0]
  repeat' first
  | (with_reducible exact spec_mvSteps.L0_lim _ _)
  | (with_reducible exact spec_mvIndex.F_lim _)
  | (with_reducible refine Lim.ite ?_ ?_)
  | (with_reducible refine Lim.bind ?_ (fun _ => ?_))
  | (with_reducible exact Lim.const _)
theorem spec_mvSteps.F_eq (a0 : ByteArray) : spec_mvSteps.F a0 = (spec_mvSteps.L0 a0 0) := by
  refine Lim.eq_ ?_
  simp only [spec_mvSteps.f]
  repeat' first
  | (with_reducible exact spec_mvSteps.L0_lim _ _)
  | (with_reducible exact spec_mvIndex.F_lim _)
  | (with_reducible refine Lim.ite ?_ ?_)
  | (with_reducible refine Lim.bind ?_ (fun _ => ?_))
  | (with_reducible exact Lim.const _)
def spec_mvGood.f (k : Nat) (a0_0 : ByteArray) (a0_1 : Int) : Option (Bool) := if (a0_0.size : Int) ≤ 6 then ((spec_mvSteps.f k a0_0).bind fun t180 => (if t180 = true then ((spec_l1In.f a0_1 1 3).bind fun t181 => (if t181 = true then (if a0_0.toList = ([] : List UInt8) then (some (a0_1 == 1)) else (some true)) else (some false))) else (some false))) else (some false)
theorem spec_mvGood.mono : ∀ a0 a1 k, LeO (spec_mvGood.f k a0 a1) (spec_mvGood.f (k + 1) a0 a1) := by
  intro a0 a1 k
  unfold spec_mvGood.f
  repeat' first
      | (with_reducible exact spec_mvSteps.mono _ _)
      | (with_reducible exact LeO.refl _)
      | (with_reducible exact LeO.none _)
      | (with_reducible refine LeO.ite ?_ ?_)
      | (with_reducible refine LeO.bind ?_ (fun _ => ?_))
      | exact spec_mvSteps.mono _ _
      | exact LeO.none _
      | refine LeO.ite ?_ ?_
      | refine LeO.bind ?_ (fun _ => ?_)
noncomputable def spec_mvGood.F (a0_0 : ByteArray) (a0_1 : Int) : Option (Bool) := lim fun k => spec_mvGood.f k a0_0 a0_1
theorem spec_mvGood.F_lim (a0_0 : ByteArray) (a0_1 : Int) : Lim (fun k => spec_mvGood.f k a0_0 a0_1) (spec_mvGood.F a0_0 a0_1) := ⟨spec_mvGood.mono a0_0 a0_1, rfl⟩
theorem spec_mvGood.F_eq (a0_0 : ByteArray) (a0_1 : Int) : spec_mvGood.F a0_0 a0_1 = (if (a0_0.size : Int) ≤ 6 then ((spec_mvSteps.F a0_0).bind fun t180 => (if t180 = true then ((spec_l1In.f a0_1 1 3).bind fun t181 => (if t181 = true then (if a0_0.toList = ([] : List UInt8) then (some (a0_1 == 1)) else (some true)) else (some false))) else (some false))) else (some false)) := by
  refine Lim.eq_ ?_
  simp only [spec_mvGood.f]
  repeat' first
  | (with_reducible exact spec_mvSteps.F_lim _)
  | (with_reducible refine Lim.ite ?_ ?_)
  | (with_reducible refine Lim.bind ?_ (fun _ => ?_))
  | (with_reducible exact Lim.const _)
def spec_l1Num.f : Nat → Int → Option (ByteArray)
  | 0, _ => none
  | k + 1, a0 => if a0 < 10 then (some (strOfNums (([(wrap64 (48 + a0)) % 256] : List Int)))) else ((spec_l1Num.f k (wrap64 (Int.tdiv a0 10))).bind fun t185 => ((some (([(wrap64 (48 + (Int.tmod a0 10))) % 256] : List Int) : List Int)).bind fun y186 => (if t185.size + (strOfNums y186).size ≤ 9223372036854775807 then (some (t185 ++ (strOfNums y186))) else (none))))
theorem spec_l1Num.mono_l : ∀ k, (∀ y0, LeO (spec_l1Num.f k y0) (spec_l1Num.f (k + 1) y0))
  | 0 => fun _ r h => by simp [spec_l1Num.f] at h
  | k + 1 => by
    have ih0 := spec_l1Num.mono_l k
    · intro y0
      unfold spec_l1Num.f
      repeat' first
      | (with_reducible exact ih0 _)
      | (with_reducible exact LeO.refl _)
      | (with_reducible exact LeO.none _)
      | (with_reducible refine LeO.ite ?_ ?_)
      | (with_reducible refine LeO.bind ?_ (fun _ => ?_))
      | exact ih0 _
      | exact LeO.none _
      | refine LeO.ite ?_ ?_
      | refine LeO.bind ?_ (fun _ => ?_)
theorem spec_l1Num.mono : ∀ a0 k, LeO (spec_l1Num.f k a0) (spec_l1Num.f (k + 1) a0) := by
  intro a0 k
  have ih0 := spec_l1Num.mono_l k
  exact ih0 a0
noncomputable def spec_l1Num.F (a0 : Int) : Option (ByteArray) := lim fun k => spec_l1Num.f k a0
theorem spec_l1Num.F_lim (a0 : Int) : Lim (fun k => spec_l1Num.f k a0) (spec_l1Num.F a0) := ⟨spec_l1Num.mono a0, rfl⟩
theorem spec_l1Num.F_eq (a0 : Int) : spec_l1Num.F a0 = (if a0 < 10 then (some (strOfNums (([(wrap64 (48 + a0)) % 256] : List Int)))) else ((spec_l1Num.F (wrap64 (Int.tdiv a0 10))).bind fun t185 => ((some (([(wrap64 (48 + (Int.tmod a0 10))) % 256] : List Int) : List Int)).bind fun y186 => (if t185.size + (strOfNums y186).size ≤ 9223372036854775807 then (some (t185 ++ (strOfNums y186))) else (none))))) := by
  refine Lim.succ_eq (spec_l1Num.F_lim a0).mon ?_
  simp only [spec_l1Num.f]
  repeat' first
  | (with_reducible exact spec_l1Num.F_lim _)
  | (with_reducible refine Lim.ite ?_ ?_)
  | (with_reducible refine Lim.bind ?_ (fun _ => ?_))
  | (with_reducible exact Lim.const _)
def spec_mvText.f (k : Nat) (a0_0 : ByteArray) (a0_1 : Int) : Option (ByteArray) := if a0_0.toList = ([] : List UInt8) then (some (⟨#[45]⟩ : ByteArray)) else (if a0_1 > 1 then (if a0_0.size + 1 ≤ 9223372036854775807 then ((spec_l1Num.f k a0_1).bind fun t190 => (if (a0_0 ++ (⟨#[42]⟩ : ByteArray)).size + t190.size ≤ 9223372036854775807 then (some ((a0_0 ++ (⟨#[42]⟩ : ByteArray)) ++ t190)) else (none))) else (none)) else (some a0_0))
theorem spec_mvText.mono : ∀ a0 a1 k, LeO (spec_mvText.f k a0 a1) (spec_mvText.f (k + 1) a0 a1) := by
  intro a0 a1 k
  unfold spec_mvText.f
  repeat' first
      | (with_reducible exact spec_l1Num.mono _ _)
      | (with_reducible exact LeO.refl _)
      | (with_reducible exact LeO.none _)
      | (with_reducible refine LeO.ite ?_ ?_)
      | (with_reducible refine LeO.bind ?_ (fun _ => ?_))
      | exact spec_l1Num.mono _ _
      | exact LeO.none _
      | refine LeO.ite ?_ ?_
      | refine LeO.bind ?_ (fun _ => ?_)
noncomputable def spec_mvText.F (a0_0 : ByteArray) (a0_1 : Int) : Option (ByteArray) := lim fun k => spec_mvText.f k a0_0 a0_1
theorem spec_mvText.F_lim (a0_0 : ByteArray) (a0_1 : Int) : Lim (fun k => spec_mvText.f k a0_0 a0_1) (spec_mvText.F a0_0 a0_1) := ⟨spec_mvText.mono a0_0 a0_1, rfl⟩
theorem spec_mvText.F_eq (a0_0 : ByteArray) (a0_1 : Int) : spec_mvText.F a0_0 a0_1 = (if a0_0.toList = ([] : List UInt8) then (some (⟨#[45]⟩ : ByteArray)) else (if a0_1 > 1 then (if a0_0.size + 1 ≤ 9223372036854775807 then ((spec_l1Num.F a0_1).bind fun t190 => (if (a0_0 ++ (⟨#[42]⟩ : ByteArray)).size + t190.size ≤ 9223372036854775807 then (some ((a0_0 ++ (⟨#[42]⟩ : ByteArray)) ++ t190)) else (none))) else (none)) else (some a0_0))) := by
  refine Lim.eq_ ?_
  simp only [spec_mvText.f]
  repeat' first
  | (with_reducible exact spec_l1Num.F_lim _)
  | (with_reducible refine Lim.ite ?_ ?_)
  | (with_reducible refine Lim.bind ?_ (fun _ => ?_))
  | (with_reducible exact Lim.const _)
mutual
def spec_mvParse.j0 : Nat → ByteArray → List ByteArray → ByteArray → Int → Option (ByteArray × Int × Bool)
  | 0, _, _, _, _ => none
  | k + 1, x0, x4, x197000, x197001 => if (x4.length : Int) = 2 then (if 1 < (x4.length : Int) then ((spec_l1Read.f k (rdOf ByteArray.empty x4 1)).bind fun t198 => (spec_mvParse.j1 k x0 x4 x197000 t198)) else (none)) else (spec_mvParse.j1 k x0 x4 x197000 x197001)
def spec_mvParse.j1 : Nat → ByteArray → List ByteArray → ByteArray → Int → Option (ByteArray × Int × Bool)
  | 0, _, _, _, _ => none
  | k + 1, x0, x4, x197000, x197001 => if (x4.length : Int) > 2 then (some ((⟨#[]⟩ : ByteArray), 0, false)) else ((spec_mvGood.f k x197000 x197001).bind fun t199 => (if t199 = true then ((spec_mvText.f k x197000 x197001).bind fun t200 => (if t200.toList = x0.toList then (some (x197000, x197001, true)) else (some ((⟨#[]⟩ : ByteArray), 0, false)))) else (some ((⟨#[]⟩ : ByteArray), 0, false))))
end
def spec_mvParse.f (k : Nat) (a0 : ByteArray) : Option (ByteArray × Int × Bool) := (spec_l1Split.f k a0 42).bind fun t192 => (if 0 < (t192.length : Int) then (if a0.toList = ([45] : List UInt8) then (spec_mvParse.j0 k a0 t192 (⟨#[]⟩ : ByteArray) 1) else (spec_mvParse.j0 k a0 t192 (rdOf ByteArray.empty t192 0) 1)) else (none))
theorem spec_mvParse.mono_l : ∀ k, (∀ y0 y1 y2 y3, LeO (spec_mvParse.j0 k y0 y1 y2 y3) (spec_mvParse.j0 (k + 1) y0 y1 y2 y3)) ∧ (∀ y0 y1 y2 y3, LeO (spec_mvParse.j1 k y0 y1 y2 y3) (spec_mvParse.j1 (k + 1) y0 y1 y2 y3))
  | 0 => ⟨fun _ _ _ _ r h => by simp [spec_mvParse.j0] at h, fun _ _ _ _ r h => by simp [spec_mvParse.j1] at h⟩
  | k + 1 => by
    obtain ⟨ih0, ih1⟩ := spec_mvParse.mono_l k
    refine ⟨?_, ?_⟩
    · intro y0 y1 y2 y3
      unfold spec_mvParse.j0
      repeat' first
      | (with_reducible exact ih0 _ _ _ _)
      | (with_reducible exact ih1 _ _ _ _)
      | (with_reducible exact spec_l1Read.mono _ _)
      | (with_reducible exact spec_l1Split.mono _ _ _)
      | (with_reducible exact spec_mvGood.mono _ _ _)
      | (with_reducible exact spec_mvText.mono _ _ _)
      | (with_reducible exact LeO.refl _)
      | (with_reducible exact LeO.none _)
      | (with_reducible refine LeO.ite ?_ ?_)
      | (with_reducible refine LeO.bind ?_ (fun _ => ?_))
      | exact ih0 _ _ _ _
      | exact ih1 _ _ _ _
      | exact spec_l1Read.mono _ _
      | exact spec_l1Split.mono _ _ _
      | exact spec_mvGood.mono _ _ _
      | exact spec_mvText.mono _ _ _
      | exact LeO.none _
      | refine LeO.ite ?_ ?_
      | refine LeO.bind ?_ (fun _ => ?_)
    · intro y0 y1 y2 y3
      unfold spec_mvParse.j1
      repeat' first
      | (with_reducible exact ih0 _ _ _ _)
      | (with_reducible exact ih1 _ _ _ _)
      | (with_reducible exact spec_l1Read.mono _ _)
      | (with_reducible exact spec_l1Split.mono _ _ _)
      | (with_reducible exact spec_mvGood.mono _ _ _)
      | (with_reducible exact spec_mvText.mono _ _ _)
      | (with_reducible exact LeO.refl _)
      | (with_reducible exact LeO.none _)
      | (with_reducible refine LeO.ite ?_ ?_)
      | (with_reducible refine LeO.bind ?_ (fun _ => ?_))
      | exact ih0 _ _ _ _
      | exact ih1 _ _ _ _
      | exact spec_l1Read.mono _ _
      | exact spec_l1Split.mono _ _ _
      | exact spec_mvGood.mono _ _ _
      | exact spec_mvText.mono _ _ _
      | exact LeO.none _
      | refine LeO.ite ?_ ?_
      | refine LeO.bind ?_ (fun _ => ?_)
theorem spec_mvParse.mono : ∀ a0 k, LeO (spec_mvParse.f k a0) (spec_mvParse.f (k + 1) a0) := by
  intro a0 k
  obtain ⟨ih0, ih1⟩ := spec_mvParse.mono_l k
  unfold spec_mvParse.f
  repeat' first
      | (with_reducible exact ih0 _ _ _ _)
      | (with_reducible exact ih1 _ _ _ _)
      | (with_reducible exact spec_l1Read.mono _ _)
      | (with_reducible exact spec_l1Split.mono _ _ _)
      | (with_reducible exact spec_mvGood.mono _ _ _)
      | (with_reducible exact spec_mvText.mono _ _ _)
      | (with_reducible exact LeO.refl _)
      | (with_reducible exact LeO.none _)
      | (with_reducible refine LeO.ite ?_ ?_)
      | (with_reducible refine LeO.bind ?_ (fun _ => ?_))
      | exact ih0 _ _ _ _
      | exact ih1 _ _ _ _
      | exact spec_l1Read.mono _ _
      | exact spec_l1Split.mono _ _ _
      | exact spec_mvGood.mono _ _ _
      | exact spec_mvText.mono _ _ _
      | exact LeO.none _
      | refine LeO.ite ?_ ?_
      | refine LeO.bind ?_ (fun _ => ?_)
noncomputable def spec_mvParse.J0 (x0 : ByteArray) (x4 : List ByteArray) (x197000 : ByteArray) (x197001 : Int) : Option (ByteArray × Int × Bool) := lim fun k => spec_mvParse.j0 k x0 x4 x197000 x197001
theorem spec_mvParse.J0_lim (x0 : ByteArray) (x4 : List ByteArray) (x197000 : ByteArray) (x197001 : Int) : Lim (fun k => spec_mvParse.j0 k x0 x4 x197000 x197001) (spec_mvParse.J0 x0 x4 x197000 x197001) := ⟨fun k => (spec_mvParse.mono_l k).1 x0 x4 x197000 x197001, rfl⟩
noncomputable def spec_mvParse.J1 (x0 : ByteArray) (x4 : List ByteArray) (x197000 : ByteArray) (x197001 : Int) : Option (ByteArray × Int × Bool) := lim fun k => spec_mvParse.j1 k x0 x4 x197000 x197001
theorem spec_mvParse.J1_lim (x0 : ByteArray) (x4 : List ByteArray) (x197000 : ByteArray) (x197001 : Int) : Lim (fun k => spec_mvParse.j1 k x0 x4 x197000 x197001) (spec_mvParse.J1 x0 x4 x197000 x197001) := ⟨fun k => (spec_mvParse.mono_l k).2 x0 x4 x197000 x197001, rfl⟩
noncomputable def spec_mvParse.F (a0 : ByteArray) : Option (ByteArray × Int × Bool) := lim fun k => spec_mvParse.f k a0
theorem spec_mvParse.F_lim (a0 : ByteArray) : Lim (fun k => spec_mvParse.f k a0) (spec_mvParse.F a0) := ⟨spec_mvParse.mono a0, rfl⟩
theorem spec_mvParse.J0_eq (x0 : ByteArray) (x4 : List ByteArray) (x197000 : ByteArray) (x197001 : Int) : spec_mvParse.J0 x0 x4 x197000 x197001 = (if (x4.length : Int) = 2 then (if 1 < (x4.length : Int) then ((spec_l1Read.F (rdOf ByteArray.empty x4 1)).bind fun t198 => (spec_mvParse.J1 x0 x4 x197000 t198)) else (none)) else (spec_mvParse.J1 x0 x4 x197000 x197001)) := by
  refine Lim.succ_eq (spec_mvParse.J0_lim x0 x4 x197000 x197001).mon ?_
  simp only [spec_mvParse.j0]
  repeat' first
  | (with_reducible exact spec_mvParse.J0_lim _ _ _ _)
  | (with_reducible exact spec_mvParse.J1_lim _ _ _ _)
  | (with_reducible exact spec_l1Read.F_lim _)
  | (with_reducible exact spec_l1Split.F_lim _ _)
  | (with_reducible exact spec_mvGood.F_lim _ _)
  | (with_reducible exact spec_mvText.F_lim _ _)
  | (with_reducible refine Lim.ite ?_ ?_)
  | (with_reducible refine Lim.bind ?_ (fun _ => ?_))
  | (with_reducible exact Lim.const _)
theorem spec_mvParse.J1_eq (x0 : ByteArray) (x4 : List ByteArray) (x197000 : ByteArray) (x197001 : Int) : spec_mvParse.J1 x0 x4 x197000 x197001 = (if (x4.length : Int) > 2 then (some ((⟨#[]⟩ : ByteArray), 0, false)) else ((spec_mvGood.F x197000 x197001).bind fun t199 => (if t199 = true then ((spec_mvText.F x197000 x197001).bind fun t200 => (if t200.toList = x0.toList then (some (x197000, x197001, true)) else (some ((⟨#[]⟩ : ByteArray), 0, false)))) else (some ((⟨#[]⟩ : ByteArray), 0, false))))) := by
  refine Lim.succ_eq (spec_mvParse.J1_lim x0 x4 x197000 x197001).mon ?_
  simp only [spec_mvParse.j1]
  repeat' first
  | (with_reducible exact spec_mvParse.J0_lim _ _ _ _)
  | (with_reducible exact spec_mvParse.J1_lim _ _ _ _)
  | (with_reducible exact spec_l1Read.F_lim _)
  | (with_reducible exact spec_l1Split.F_lim _ _)
  | (with_reducible exact spec_mvGood.F_lim _ _)
  | (with_reducible exact spec_mvText.F_lim _ _)
  | (with_reducible refine Lim.ite ?_ ?_)
  | (with_reducible refine Lim.bind ?_ (fun _ => ?_))
  | (with_reducible exact Lim.const _)
theorem spec_mvParse.F_eq (a0 : ByteArray) : spec_mvParse.F a0 = ((spec_l1Split.F a0 42).bind fun t192 => (if 0 < (t192.length : Int) then (if a0.toList = ([45] : List UInt8) then (spec_mvParse.J0 a0 t192 (⟨#[]⟩ : ByteArray) 1) else (spec_mvParse.J0 a0 t192 (rdOf ByteArray.empty t192 0) 1)) else (none))) := by
  refine Lim.eq_ ?_
  simp only [spec_mvParse.f]
  repeat' first
  | (with_reducible exact spec_mvParse.J0_lim _ _ _ _)
  | (with_reducible exact spec_mvParse.J1_lim _ _ _ _)
  | (with_reducible exact spec_l1Read.F_lim _)
  | (with_reducible exact spec_l1Split.F_lim _ _)
  | (with_reducible exact spec_mvGood.F_lim _ _)
  | (with_reducible exact spec_mvText.F_lim _ _)
  | (with_reducible refine Lim.ite ?_ ?_)
  | (with_reducible refine Lim.bind ?_ (fun _ => ?_))
  | (with_reducible exact Lim.const _)
def spec_paHand.f (k : Nat) (a0 : ByteArray) : Option (Int × Int × Int × Int × Int × Bool × Int × Int × Int × Int × Bool × ByteArray × Int × Int × Int) := (spec_l1Split.f k a0 47).bind fun t202 => (if (t202.length : Int) = 4 then (if 0 < (t202.length : Int) then ((spec_shParse.f k (rdOf ByteArray.empty t202 0)).bind fun bt207 => (if bt207.2.2.2.2.2.2 = true then (if 1 < (t202.length : Int) then ((spec_orParse.f k (rdOf ByteArray.empty t202 1)).bind fun bt217 => (if bt217.2.2 = true then (if 2 < (t202.length : Int) then ((spec_plParse.f k (rdOf ByteArray.empty t202 2)).bind fun bt223 => (if bt223.2.2.2 = true then (if 3 < (t202.length : Int) then ((spec_mvParse.f k (rdOf ByteArray.empty t202 3)).bind fun bt230 => (if bt230.2.2 = true then (some (bt207.1, bt207.2.1, bt207.2.2.1, bt207.2.2.2.1, bt207.2.2.2.2.1, bt207.2.2.2.2.2.1, bt217.1, bt217.2.1, bt223.1, bt223.2.1, bt223.2.2.1, bt230.1, bt230.2.1, 0, 0)) else (some (0, 0, 0, 0, 0, false, 0, 0, 0, 0, false, (⟨#[]⟩ : ByteArray), 0, 6, wrap64 ((wrap64 ((wrap64 ((wrap64 (((rdOf ByteArray.empty t202 0).size : Int) + 1)))) + (wrap64 (((rdOf ByteArray.empty t202 1).size : Int) + 1)))) + (wrap64 (((rdOf ByteArray.empty t202 2).size : Int) + 1))))))) else (none)) else (some (0, 0, 0, 0, 0, false, 0, 0, 0, 0, false, (⟨#[]⟩ : ByteArray), 0, 5, wrap64 ((wrap64 ((wrap64 (((rdOf ByteArray.empty t202 0).size : Int) + 1)))) + (wrap64 (((rdOf ByteArray.empty t202 1).size : Int) + 1))))))) else (none)) else (some (0, 0, 0, 0, 0, false, 0, 0, 0, 0, false, (⟨#[]⟩ : ByteArray), 0, 4, wrap64 ((wrap64 (((rdOf ByteArray.empty t202 0).size : Int) + 1))))))) else (none)) else (some (0, 0, 0, 0, 0, false, 0, 0, 0, 0, false, (⟨#[]⟩ : ByteArray), 0, 3, 0)))) else (none)) else (some (0, 0, 0, 0, 0, false, 0, 0, 0, 0, false, (⟨#[]⟩ : ByteArray), 0, 2, 0)))
theorem spec_paHand.mono : ∀ a0 k, LeO (spec_paHand.f k a0) (spec_paHand.f (k + 1) a0) := by
  intro a0 k
  unfold spec_paHand.f
  repeat' first
      | (with_reducible exact spec_l1Split.mono _ _ _)
      | (with_reducible exact spec_mvParse.mono _ _)
      | (with_reducible exact spec_orParse.mono _ _)
      | (with_reducible exact spec_plParse.mono _ _)
      | (with_reducible exact spec_shParse.mono _ _)
      | (with_reducible exact LeO.refl _)
      | (with_reducible exact LeO.none _)
      | (with_reducible refine LeO.ite ?_ ?_)
      | (with_reducible refine LeO.bind ?_ (fun _ => ?_))
      | exact spec_l1Split.mono _ _ _
      | exact spec_mvParse.mono _ _
      | exact spec_orParse.mono _ _
      | exact spec_plParse.mono _ _
      | exact spec_shParse.mono _ _
      | exact LeO.none _
      | refine LeO.ite ?_ ?_
      | refine LeO.bind ?_ (fun _ => ?_)
noncomputable def spec_paHand.F (a0 : ByteArray) : Option (Int × Int × Int × Int × Int × Bool × Int × Int × Int × Int × Bool × ByteArray × Int × Int × Int) := lim fun k => spec_paHand.f k a0
theorem spec_paHand.F_lim (a0 : ByteArray) : Lim (fun k => spec_paHand.f k a0) (spec_paHand.F a0) := ⟨spec_paHand.mono a0, rfl⟩
theorem spec_paHand.F_eq (a0 : ByteArray) : spec_paHand.F a0 = ((spec_l1Split.F a0 47).bind fun t202 => (if (t202.length : Int) = 4 then (if 0 < (t202.length : Int) then ((spec_shParse.F (rdOf ByteArray.empty t202 0)).bind fun bt207 => (if bt207.2.2.2.2.2.2 = true then (if 1 < (t202.length : Int) then ((spec_orParse.F (rdOf ByteArray.empty t202 1)).bind fun bt217 => (if bt217.2.2 = true then (if 2 < (t202.length : Int) then ((spec_plParse.F (rdOf ByteArray.empty t202 2)).bind fun bt223 => (if bt223.2.2.2 = true then (if 3 < (t202.length : Int) then ((spec_mvParse.F (rdOf ByteArray.empty t202 3)).bind fun bt230 => (if bt230.2.2 = true then (some (bt207.1, bt207.2.1, bt207.2.2.1, bt207.2.2.2.1, bt207.2.2.2.2.1, bt207.2.2.2.2.2.1, bt217.1, bt217.2.1, bt223.1, bt223.2.1, bt223.2.2.1, bt230.1, bt230.2.1, 0, 0)) else (some (0, 0, 0, 0, 0, false, 0, 0, 0, 0, false, (⟨#[]⟩ : ByteArray), 0, 6, wrap64 ((wrap64 ((wrap64 ((wrap64 (((rdOf ByteArray.empty t202 0).size : Int) + 1)))) + (wrap64 (((rdOf ByteArray.empty t202 1).size : Int) + 1)))) + (wrap64 (((rdOf ByteArray.empty t202 2).size : Int) + 1))))))) else (none)) else (some (0, 0, 0, 0, 0, false, 0, 0, 0, 0, false, (⟨#[]⟩ : ByteArray), 0, 5, wrap64 ((wrap64 ((wrap64 (((rdOf ByteArray.empty t202 0).size : Int) + 1)))) + (wrap64 (((rdOf ByteArray.empty t202 1).size : Int) + 1))))))) else (none)) else (some (0, 0, 0, 0, 0, false, 0, 0, 0, 0, false, (⟨#[]⟩ : ByteArray), 0, 4, wrap64 ((wrap64 (((rdOf ByteArray.empty t202 0).size : Int) + 1))))))) else (none)) else (some (0, 0, 0, 0, 0, false, 0, 0, 0, 0, false, (⟨#[]⟩ : ByteArray), 0, 3, 0)))) else (none)) else (some (0, 0, 0, 0, 0, false, 0, 0, 0, 0, false, (⟨#[]⟩ : ByteArray), 0, 2, 0)))) := by
  refine Lim.eq_ ?_
  simp only [spec_paHand.f]
  repeat' first
  | (with_reducible exact spec_l1Split.F_lim _ _)
  | (with_reducible exact spec_mvParse.F_lim _)
  | (with_reducible exact spec_orParse.F_lim _)
  | (with_reducible exact spec_plParse.F_lim _)
  | (with_reducible exact spec_shParse.F_lim _)
  | (with_reducible refine Lim.ite ?_ ?_)
  | (with_reducible refine Lim.bind ?_ (fun _ => ?_))
  | (with_reducible exact Lim.const _)
def spec_ParseHand.f (k : Nat) (a0 : ByteArray) : Option (Int × Int × Int × Int × Int × Bool × Int × Int × Int × Int × Bool × ByteArray × Int × Bool) := (spec_paGiven.f a0).bind fun t235 => (if t235 = true then ((spec_paHand.f k a0).bind fun bt236 => (some (bt236.1, bt236.2.1, bt236.2.2.1, bt236.2.2.2.1, bt236.2.2.2.2.1, bt236.2.2.2.2.2.1, bt236.2.2.2.2.2.2.1, bt236.2.2.2.2.2.2.2.1, bt236.2.2.2.2.2.2.2.2.1, bt236.2.2.2.2.2.2.2.2.2.1, bt236.2.2.2.2.2.2.2.2.2.2.1, bt236.2.2.2.2.2.2.2.2.2.2.2.1, bt236.2.2.2.2.2.2.2.2.2.2.2.2.1, (bt236.2.2.2.2.2.2.2.2.2.2.2.2.2.1 == 0)))) else (some (0, 0, 0, 0, 0, false, 0, 0, 0, 0, false, (⟨#[]⟩ : ByteArray), 0, false)))
theorem spec_ParseHand.mono : ∀ a0 k, LeO (spec_ParseHand.f k a0) (spec_ParseHand.f (k + 1) a0) := by
  intro a0 k
  unfold spec_ParseHand.f
  repeat' first
      | (with_reducible exact spec_paHand.mono _ _)
      | (with_reducible exact LeO.refl _)
      | (with_reducible exact LeO.none _)
      | (with_reducible refine LeO.ite ?_ ?_)
      | (with_reducible refine LeO.bind ?_ (fun _ => ?_))
      | exact spec_paHand.mono _ _
      | exact LeO.none _
      | refine LeO.ite ?_ ?_
      | refine LeO.bind ?_ (fun _ => ?_)
noncomputable def spec_ParseHand.F (a0 : ByteArray) : Option (Int × Int × Int × Int × Int × Bool × Int × Int × Int × Int × Bool × ByteArray × Int × Bool) := lim fun k => spec_ParseHand.f k a0
theorem spec_ParseHand.F_lim (a0 : ByteArray) : Lim (fun k => spec_ParseHand.f k a0) (spec_ParseHand.F a0) := ⟨spec_ParseHand.mono a0, rfl⟩
theorem spec_ParseHand.F_eq (a0 : ByteArray) : spec_ParseHand.F a0 = ((spec_paGiven.f a0).bind fun t235 => (if t235 = true then ((spec_paHand.F a0).bind fun bt236 => (some (bt236.1, bt236.2.1, bt236.2.2.1, bt236.2.2.2.1, bt236.2.2.2.2.1, bt236.2.2.2.2.2.1, bt236.2.2.2.2.2.2.1, bt236.2.2.2.2.2.2.2.1, bt236.2.2.2.2.2.2.2.2.1, bt236.2.2.2.2.2.2.2.2.2.1, bt236.2.2.2.2.2.2.2.2.2.2.1, bt236.2.2.2.2.2.2.2.2.2.2.2.1, bt236.2.2.2.2.2.2.2.2.2.2.2.2.1, (bt236.2.2.2.2.2.2.2.2.2.2.2.2.2.1 == 0)))) else (some (0, 0, 0, 0, 0, false, 0, 0, 0, 0, false, (⟨#[]⟩ : ByteArray), 0, false)))) := by
  refine Lim.eq_ ?_
  simp only [spec_ParseHand.f]
  repeat' first
  | (with_reducible exact spec_paHand.F_lim _)
  | (with_reducible refine Lim.ite ?_ ?_)
  | (with_reducible refine Lim.bind ?_ (fun _ => ?_))
  | (with_reducible exact Lim.const _)
def stringslite_Index.f (a0 : ByteArray) (a1 : ByteArray) : Option (Int) := if a1.size = 1 then some (Lib.indexByte a0.data.toList (a1.data.toList.getD 0 0)) else none
def strings_Index.f (a0 : ByteArray) (a1 : ByteArray) : Option (Int) := (stringslite_Index.f a0 a1).bind fun t252 => (some t252)
def strings_Contains.f (a0 : ByteArray) (a1 : ByteArray) : Option (Bool) := (strings_Index.f a0 a1).bind fun t253 => (some (decide (t253 ≥ 0)))
def strings_Split.f (a0 : ByteArray) (a1 : ByteArray) : Option (List ByteArray) := if a0.size < 4294967281 ∧ 1 ≤ a1.size then some (Lib.splitB a1 0 (Lib.countB a0 a1) a0) else none
def impl_within.f (a0 : Int) (a1 : Int) (a2 : Int) : Option (Bool) := if a0 ≥ a1 then (some (decide (a0 ≤ a2))) else (some false)
def impl_Shape_maySpread.f (a0_0 : Int) (a0_1 : Int) (a0_2 : Int) (a0_3 : Int) (a0_4 : Int) (a0_5 : Bool) : Option (Bool) := if a0_2 = 0 then (if a0_1 = 0 then (some true) else (if a0_3 = 0 then (some true) else (some false))) else (if a0_3 = 0 then (some (a0_4 == 0)) else (some false))
def impl_Shape_with.f (a0_0 : Int) (a0_1 : Int) (a0_2 : Int) (a0_3 : Int) (a0_4 : Int) (a0_5 : Bool) (a1 : Int) (a2 : Int) : Option (Int × Int × Int × Int × Int × Bool) := if a1 = 0 then (if a0_5 = true then ((impl_Shape_maySpread.f a2 a0_1 a0_2 a0_3 a0_4 a0_5).bind fun t257 => (some (a2, a0_1, a0_2, a0_3, a0_4, t257))) else (some (a2, a0_1, a0_2, a0_3, a0_4, false))) else (if a1 = 1 then (if a0_5 = true then ((impl_Shape_maySpread.f a0_0 a2 a0_2 a0_3 a0_4 a0_5).bind fun t258 => (some (a0_0, a2, a0_2, a0_3, a0_4, t258))) else (some (a0_0, a2, a0_2, a0_3, a0_4, false))) else (if a1 = 2 then (if a0_5 = true then ((impl_Shape_maySpread.f a0_0 a0_1 a2 a0_3 a0_4 a0_5).bind fun t259 => (some (a0_0, a0_1, a2, a0_3, a0_4, t259))) else (some (a0_0, a0_1, a2, a0_3, a0_4, false))) else (if a1 = 3 then (if a0_5 = true then ((impl_Shape_maySpread.f a0_0 a0_1 a0_2 a2 a0_4 a0_5).bind fun t260 => (some (a0_0, a0_1, a0_2, a2, a0_4, t260))) else (some (a0_0, a0_1, a0_2, a2, a0_4, false))) else (if a0_5 = true then ((impl_Shape_maySpread.f a0_0 a0_1 a0_2 a0_3 a2 a0_5).bind fun t261 => (some (a0_0, a0_1, a0_2, a0_3, a2, t261))) else (some (a0_0, a0_1, a0_2, a0_3, a2, false))))))
def impl_allWithin_1.f (a0 : Int) (a1_0 : Int) (a2_0 : Int) : Option (Bool) := (impl_within.f a0 a1_0 a2_0).bind fun t262 => (some (!t262))
def slices_IndexFunc_int_impl_allWithin_1.l0 : Nat → List Int → Int → Int → Int → Int → Option (Int)
  | 0, _, _, _, _, _ => none
  | k + 1, x0, x7, x8, x39000, x40000 => if x8 < x7 then (if 0 ≤ x8 then (if x8 < (x0.length : Int) then ((impl_allWithin_1.f (rd x0 x8) x39000 x40000).bind fun t264 => (if t264 = true then (some x8) else (slices_IndexFunc_int_impl_allWithin_1.l0 k x0 x7 (wrap64 (x8 + 1)) x39000 x40000))) else (none)) else (none)) else (some (-1))
def slices_IndexFunc_int_impl_allWithin_1.f (k : Nat) (l0 : List Int) (a1_0 : Int) (a1_1 : Int) : Option (Int) := slices_IndexFunc_int_impl_allWithin_1.l0 k l0 (l0.length : Int) 0 a1_0 a1_1
theorem slices_IndexFunc_int_impl_allWithin_1.mono_l : ∀ k, (∀ y0 y1 y2 y3 y4, LeO (slices_IndexFunc_int_impl_allWithin_1.l0 k y0 y1 y2 y3 y4) (slices_IndexFunc_int_impl_allWithin_1.l0 (k + 1) y0 y1 y2 y3 y4))
  | 0 => fun _ _ _ _ _ r h => by simp [slices_IndexFunc_int_impl_allWithin_1.l0] at h
  | k + 1 => by
    have ih0 := slices_IndexFunc_int_impl_allWithin_1.mono_l k
    · intro y0 y1 y2 y3 y4
      unfold slices_IndexFunc_int_impl_allWithin_1.l0
      repeat' first
      | (with_reducible exact ih0 _ _ _ _ _)
      | (with_reducible exact LeO.refl _)
      | (with_reducible exact LeO.none _)
      | (with_reducible refine LeO.ite ?_ ?_)
      | (with_reducible refine LeO.bind ?_ (fun _ => ?_))
      | exact ih0 _ _ _ _ _
      | exact LeO.none _
      | refine LeO.ite ?_ ?_
      | refine LeO.bind ?_ (fun _ => ?_)
theorem slices_IndexFunc_int_impl_allWithin_1.mono : ∀ a0 a1 a2 k, LeO (slices_IndexFunc_int_impl_allWithin_1.f k a0 a1 a2) (slices_IndexFunc_int_impl_allWithin_1.f (k + 1) a0 a1 a2) := by
  intro a0 a1 a2 k
  have ih0 := slices_IndexFunc_int_impl_allWithin_1.mono_l k
  unfold slices_IndexFunc_int_impl_allWithin_1.f
  repeat' first
      | (with_reducible exact ih0 _ _ _ _ _)
      | (with_reducible exact LeO.refl _)
      | (with_reducible exact LeO.none _)
      | (with_reducible refine LeO.ite ?_ ?_)
      | (with_reducible refine LeO.bind ?_ (fun _ => ?_))
      | exact ih0 _ _ _ _ _
      | exact LeO.none _
      | refine LeO.ite ?_ ?_
      | refine LeO.bind ?_ (fun _ => ?_)
noncomputable def slices_IndexFunc_int_impl_allWithin_1.L0 (x0 : List Int) (x7 : Int) (x8 : Int) (x39000 : Int) (x40000 : Int) : Option (Int) := lim fun k => slices_IndexFunc_int_impl_allWithin_1.l0 k x0 x7 x8 x39000 x40000
theorem slices_IndexFunc_int_impl_allWithin_1.L0_lim (x0 : List Int) (x7 : Int) (x8 : Int) (x39000 : Int) (x40000 : Int) : Lim (fun k => slices_IndexFunc_int_impl_allWithin_1.l0 k x0 x7 x8 x39000 x40000) (slices_IndexFunc_int_impl_allWithin_1.L0 x0 x7 x8 x39000 x40000) := ⟨fun k => (slices_IndexFunc_int_impl_allWithin_1.mono_l k) x0 x7 x8 x39000 x40000, rfl⟩
noncomputable def slices_IndexFunc_int_impl_allWithin_1.F (l0 : List Int) (a1_0 : Int) (a1_1 : Int) : Option (Int) := lim fun k => slices_IndexFunc_int_impl_allWithin_1.f k l0 a1_0 a1_1
theorem slices_IndexFunc_int_impl_allWithin_1.F_lim (l0 : List Int) (a1_0 : Int) (a1_1 : Int) : Lim (fun k => slices_IndexFunc_int_impl_allWithin_1.f k l0 a1_0 a1_1) (slices_IndexFunc_int_impl_allWithin_1.F l0 a1_0 a1_1) := ⟨slices_IndexFunc_int_impl_allWithin_1.mono l0 a1_0 a1_1, rfl⟩
theorem slices_IndexFunc_int_impl_allWithin_1.L0_eq (x0 : List Int) (x7 : Int) (x8 : Int) (x39000 : Int) (x40000 : Int) : slices_IndexFunc_int_impl_allWithin_1.L0 x0 x7 x8 x39000 x40000 = (if x8 < x7 then (if 0 ≤ x8 then (if x8 < (x0.length : Int) then ((impl_allWithin_1.f (rd x0 x8) x39000 x40000).bind fun t264 => (if t264 = true then (some x8) else (slices_IndexFunc_int_impl_allWithin_1.L0 x0 x7 (wrap64 (x8 + 1)) x39000 x40000))) else (none)) else (none)) else (some (-1))) := by
  refine Lim.succ_eq (slices_IndexFunc_int_impl_allWithin_1.L0_lim x0 x7 x8 x39000 x40000).mon ?_
  simp only [slices_IndexFunc_int_impl_allWithin_1.l0]
  repeat' first
  | (with_reducible exact slices_IndexFunc_int_impl_allWithin_1.L0_lim _ _ _ _ _)
  | (with_reducible refine Lim.ite ?_ ?_)
  | (with_reducible refine Lim.bind ?_ (fun _ => ?_))
  | (with_reducible exact Lim.const _)
theorem slices_IndexFunc_int_impl_allWithin_1.F_eq (l0 : List Int) (a1_0 : Int) (a1_1 : Int) : slices_IndexFunc_int_impl_allWithin_1.F l0 a1_0 a1_1 = (slices_IndexFunc_int_impl_allWithin_1.L0 l0 (l0.length : Int) 0 a1_0 a1_1) := by
  refine Lim.eq_ ?_
  simp only [slices_IndexFunc_int_impl_allWithin_1.f]
  repeat' first
  | (with_reducible exact slices_IndexFunc_int_impl_allWithin_1.L0_lim _ _ _ _ _)
  | (with_reducible refine Lim.ite ?_ ?_)
  | (with_reducible refine Lim.bind ?_ (fun _ => ?_))
  | (with_reducible exact Lim.const _)
def slices_ContainsFunc_int_impl_allWithin_1.f (k : Nat) (l0 : List Int) (a1_0 : Int) (a1_1 : Int) : Option (Bool) := (slices_IndexFunc_int_impl_allWithin_1.f k l0 a1_0 a1_1).bind fun t265 => (some (decide (t265 ≥ 0)))
theorem slices_ContainsFunc_int_impl_allWithin_1.mono : ∀ a0 a1 a2 k, LeO (slices_ContainsFunc_int_impl_allWithin_1.f k a0 a1 a2) (slices_ContainsFunc_int_impl_allWithin_1.f (k + 1) a0 a1 a2) := by
  intro a0 a1 a2 k
  unfold slices_ContainsFunc_int_impl_allWithin_1.f
  repeat' first
      | (with_reducible exact slices_IndexFunc_int_impl_allWithin_1.mono _ _ _ _)
      | (with_reducible exact LeO.refl _)
      | (with_reducible exact LeO.none _)
      | (with_reducible refine LeO.ite ?_ ?_)
      | (with_reducible refine LeO.bind ?_ (fun _ => ?_))
      | exact slices_IndexFunc_int_impl_allWithin_1.mono _ _ _ _
      | exact LeO.none _
      | refine LeO.ite ?_ ?_
      | refine LeO.bind ?_ (fun _ => ?_)
noncomputable def slices_ContainsFunc_int_impl_allWithin_1.F (l0 : List Int) (a1_0 : Int) (a1_1 : Int) : Option (Bool) := lim fun k => slices_ContainsFunc_int_impl_allWithin_1.f k l0 a1_0 a1_1
theorem slices_ContainsFunc_int_impl_allWithin_1.F_lim (l0 : List Int) (a1_0 : Int) (a1_1 : Int) : Lim (fun k => slices_ContainsFunc_int_impl_allWithin_1.f k l0 a1_0 a1_1) (slices_ContainsFunc_int_impl_allWithin_1.F l0 a1_0 a1_1) := ⟨slices_ContainsFunc_int_impl_allWithin_1.mono l0 a1_0 a1_1, rfl⟩
theorem slices_ContainsFunc_int_impl_allWithin_1.F_eq (l0 : List Int) (a1_0 : Int) (a1_1 : Int) : slices_ContainsFunc_int_impl_allWithin_1.F l0 a1_0 a1_1 = ((slices_IndexFunc_int_impl_allWithin_1.F l0 a1_0 a1_1).bind fun t265 => (some (decide (t265 ≥ 0)))) := by
  refine Lim.eq_ ?_
  simp only [slices_ContainsFunc_int_impl_allWithin_1.f]
  repeat' first
  | (with_reducible exact slices_IndexFunc_int_impl_allWithin_1.F_lim _ _ _)
  | (with_reducible refine Lim.ite ?_ ?_)
  | (with_reducible refine Lim.bind ?_ (fun _ => ?_))
  | (with_reducible exact Lim.const _)
def impl_allWithin.f (k : Nat) (l0 : List Int) (a1 : Int) (a2 : Int) : Option (Bool) := (slices_ContainsFunc_int_impl_allWithin_1.f k l0 a1 a2).bind fun t268 => (some (!t268))
theorem impl_allWithin.mono : ∀ a0 a1 a2 k, LeO (impl_allWithin.f k a0 a1 a2) (impl_allWithin.f (k + 1) a0 a1 a2) := by
  intro a0 a1 a2 k
  unfold impl_allWithin.f
  repeat' first
      | (with_reducible exact slices_ContainsFunc_int_impl_allWithin_1.mono _ _ _ _)
      | (with_reducible exact LeO.refl _)
      | (with_reducible exact LeO.none _)
      | (with_reducible refine LeO.ite ?_ ?_)
      | (with_reducible refine LeO.bind ?_ (fun _ => ?_))
      | exact slices_ContainsFunc_int_impl_allWithin_1.mono _ _ _ _
      | exact LeO.none _
      | refine LeO.ite ?_ ?_
      | refine LeO.bind ?_ (fun _ => ?_)
noncomputable def impl_allWithin.F (l0 : List Int) (a1 : Int) (a2 : Int) : Option (Bool) := lim fun k => impl_allWithin.f k l0 a1 a2
theorem impl_allWithin.F_lim (l0 : List Int) (a1 : Int) (a2 : Int) : Lim (fun k => impl_allWithin.f k l0 a1 a2) (impl_allWithin.F l0 a1 a2) := ⟨impl_allWithin.mono l0 a1 a2, rfl⟩
theorem impl_allWithin.F_eq (l0 : List Int) (a1 : Int) (a2 : Int) : impl_allWithin.F l0 a1 a2 = ((slices_ContainsFunc_int_impl_allWithin_1.F l0 a1 a2).bind fun t268 => (some (!t268))) := by
  refine Lim.eq_ ?_
  simp only [impl_allWithin.f]
  repeat' first
  | (with_reducible exact slices_ContainsFunc_int_impl_allWithin_1.F_lim _ _ _)
  | (with_reducible refine Lim.ite ?_ ?_)
  | (with_reducible refine Lim.bind ?_ (fun _ => ?_))
  | (with_reducible exact Lim.const _)
def impl_Shape_bends.f (a0_0 : Int) (a0_1 : Int) (a0_2 : Int) (a0_3 : Int) (a0_4 : Int) (a0_5 : Bool) : Option (List Int) := some (([a0_1, a0_2, a0_3, a0_4] : List Int))
def impl_IsShape.f (k : Nat) (a0_0 : Int) (a0_1 : Int) (a0_2 : Int) (a0_3 : Int) (a0_4 : Int) (a0_5 : Bool) : Option (Bool) := (some (([a0_0] : List Int) : List Int)).bind fun y274 => ((impl_Shape_bends.f a0_0 a0_1 a0_2 a0_3 a0_4 a0_5).bind fun t277 => (if y274.length + t277.length < 17592186044416 then ((impl_allWithin.f k (y274 ++ t277) 0 2).bind fun t283 => (if t283 = true then (if a0_5 = true then ((impl_Shape_maySpread.f a0_0 a0_1 a0_2 a0_3 a0_4 a0_5).bind fun t284 => (some t284)) else (some true)) else (some false))) else (none)))
theorem impl_IsShape.mono : ∀ a0 a1 a2 a3 a4 a5 k, LeO (impl_IsShape.f k a0 a1 a2 a3 a4 a5) (impl_IsShape.f (k + 1) a0 a1 a2 a3 a4 a5) := by
  intro a0 a1 a2 a3 a4 a5 k
  unfold impl_IsShape.f
  repeat' first
      | (with_reducible exact impl_allWithin.mono _ _ _ _)
      | (with_reducible exact LeO.refl _)
      | (with_reducible exact LeO.none _)
      | (with_reducible refine LeO.ite ?_ ?_)
      | (with_reducible refine LeO.bind ?_ (fun _ => ?_))
      | exact impl_allWithin.mono _ _ _ _
      | exact LeO.none _
      | refine LeO.ite ?_ ?_
      | refine LeO.bind ?_ (fun _ => ?_)
noncomputable def impl_IsShape.F (a0_0 : Int) (a0_1 : Int) (a0_2 : Int) (a0_3 : Int) (a0_4 : Int) (a0_5 : Bool) : Option (Bool) := lim fun k => impl_IsShape.f k a0_0 a0_1 a0_2 a0_3 a0_4 a0_5
theorem impl_IsShape.F_lim (a0_0 : Int) (a0_1 : Int) (a0_2 : Int) (a0_3 : Int) (a0_4 : Int) (a0_5 : Bool) : Lim (fun k => impl_IsShape.f k a0_0 a0_1 a0_2 a0_3 a0_4 a0_5) (impl_IsShape.F a0_0 a0_1 a0_2 a0_3 a0_4 a0_5) := ⟨impl_IsShape.mono a0_0 a0_1 a0_2 a0_3 a0_4 a0_5, rfl⟩
theorem impl_IsShape.F_eq (a0_0 : Int) (a0_1 : Int) (a0_2 : Int) (a0_3 : Int) (a0_4 : Int) (a0_5 : Bool) : impl_IsShape.F a0_0 a0_1 a0_2 a0_3 a0_4 a0_5 = ((some (([a0_0] : List Int) : List Int)).bind fun y274 => ((impl_Shape_bends.f a0_0 a0_1 a0_2 a0_3 a0_4 a0_5).bind fun t277 => (if y274.length + t277.length < 17592186044416 then ((impl_allWithin.F (y274 ++ t277) 0 2).bind fun t283 => (if t283 = true then (if a0_5 = true then ((impl_Shape_maySpread.f a0_0 a0_1 a0_2 a0_3 a0_4 a0_5).bind fun t284 => (some t284)) else (some true)) else (some false))) else (none)))) := by
  refine Lim.eq_ ?_
  simp only [impl_IsShape.f]
  repeat' first
  | (with_reducible exact impl_allWithin.F_lim _ _ _)
  | (with_reducible refine Lim.ite ?_ ?_)
  | (with_reducible refine Lim.bind ?_ (fun _ => ?_))
  | (with_reducible exact Lim.const _)
def strconv_Itoa.f (a0 : Int) : Option (ByteArray) := if 0 ≤ a0 ∧ a0 < 100 then some ⟨(Lib.decDigits a0.toNat).toArray⟩ else none
def impl_Shape_text.l0 : Nat → ByteArray → List Int → Int → Int → Int → Int → Int → Int → Int → Bool → Option (ByteArray)
  | 0, _, _, _, _, _, _, _, _, _, _ => none
  | k + 1, x3, x10, x11, x12, x286000, x286001, x286002, x286003, x286004, x286005 => if x12 < x11 then (if 0 ≤ x12 then (if x12 < (x10.length : Int) then ((strconv_Itoa.f (rd x10 x12)).bind fun t291 => (if x3.size + t291.size ≤ 9223372036854775807 then (impl_Shape_text.l0 k (x3 ++ t291) x10 x11 (wrap64 (x12 + 1)) x286000 x286001 x286002 x286003 x286004 x286005) else (none))) else (none)) else (none)) else (if x286005 = true then (if x3.size + 1 ≤ 9223372036854775807 then (some (x3 ++ (⟨#[115]⟩ : ByteArray))) else (none)) else (some x3))
def impl_Shape_text.f (k : Nat) (a0_0 : Int) (a0_1 : Int) (a0_2 : Int) (a0_3 : Int) (a0_4 : Int) (a0_5 : Bool) : Option (ByteArray) := (strconv_Itoa.f a0_0).bind fun t286 => ((impl_Shape_bends.f a0_0 a0_1 a0_2 a0_3 a0_4 a0_5).bind fun t287 => (impl_Shape_text.l0 k t286 t287 (t287.length : Int) 0 a0_0 a0_1 a0_2 a0_3 a0_4 a0_5))
theorem impl_Shape_text.mono_l : ∀ k, (∀ y0 y1 y2 y3 y4 y5 y6 y7 y8 y9, LeO (impl_Shape_text.l0 k y0 y1 y2 y3 y4 y5 y6 y7 y8 y9) (impl_Shape_text.l0 (k + 1) y0 y1 y2 y3 y4 y5 y6 y7 y8 y9))
  | 0 => fun _ _ _ _ _ _ _ _ _ _ r h => by simp [impl_Shape_text.l0] at h
  | k + 1 => by
    have ih0 := impl_Shape_text.mono_l k
    · intro y0 y1 y2 y3 y4 y5 y6 y7 y8 y9
      unfold impl_Shape_text.l0
      repeat' first
      | (with_reducible exact ih0 _ _ _ _ _ _ _ _ _ _)
      | (with_reducible exact LeO.refl _)
      | (with_reducible exact LeO.none _)
      | (with_reducible refine LeO.ite ?_ ?_)
      | (with_reducible refine LeO.bind ?_ (fun _ => ?_))
      | exact ih0 _ _ _ _ _ _ _ _ _ _
      | exact LeO.none _
      | refine LeO.ite ?_ ?_
      | refine LeO.bind ?_ (fun _ => ?_)
theorem impl_Shape_text.mono : ∀ a0 a1 a2 a3 a4 a5 k, LeO (impl_Shape_text.f k a0 a1 a2 a3 a4 a5) (impl_Shape_text.f (k + 1) a0 a1 a2 a3 a4 a5) := by
  intro a0 a1 a2 a3 a4 a5 k
  have ih0 := impl_Shape_text.mono_l k
  unfold impl_Shape_text.f
  repeat' first
      | (with_reducible exact ih0 _ _ _ _ _ _ _ _ _ _)
      | (with_reducible exact LeO.refl _)
      | (with_reducible exact LeO.none _)
      | (with_reducible refine LeO.ite ?_ ?_)
      | (with_reducible refine LeO.bind ?_ (fun _ => ?_))
      | exact ih0 _ _ _ _ _ _ _ _ _ _
      | exact LeO.none _
      | refine LeO.ite ?_ ?_
      | refine LeO.bind ?_ (fun _ => ?_)
noncomputable def impl_Shape_text.L0 (x3 : ByteArray) (x10 : List Int) (x11 : Int) (x12 : Int) (x286000 : Int) (x286001 : Int) (x286002 : Int) (x286003 : Int) (x286004 : Int) (x286005 : Bool) : Option (ByteArray) := lim fun k => impl_Shape_text.l0 k x3 x10 x11 x12 x286000 x286001 x286002 x286003 x286004 x286005
theorem impl_Shape_text.L0_lim (x3 : ByteArray) (x10 : List Int) (x11 : Int) (x12 : Int) (x286000 : Int) (x286001 : Int) (x286002 : Int) (x286003 : Int) (x286004 : Int) (x286005 : Bool) : Lim (fun k => impl_Shape_text.l0 k x3 x10 x11 x12 x286000 x286001 x286002 x286003 x286004 x286005) (impl_Shape_text.L0 x3 x10 x11 x12 x286000 x286001 x286002 x286003 x286004 x286005) := ⟨fun k => (impl_Shape_text.mono_l k) x3 x10 x11 x12 x286000 x286001 x286002 x286003 x286004 x286005, rfl⟩
noncomputable def impl_Shape_text.F (a0_0 : Int) (a0_1 : Int) (a0_2 : Int) (a0_3 : Int) (a0_4 : Int) (a0_5 : Bool) : Option (ByteArray) := lim fun k => impl_Shape_text.f k a0_0 a0_1 a0_2 a0_3 a0_4 a0_5
theorem impl_Shape_text.F_lim (a0_0 : Int) (a0_1 : Int) (a0_2 : Int) (a0_3 : Int) (a0_4 : Int) (a0_5 : Bool) : Lim (fun k => impl_Shape_text.f k a0_0 a0_1 a0_2 a0_3 a0_4 a0_5) (impl_Shape_text.F a0_0 a0_1 a0_2 a0_3 a0_4 a0_5) := ⟨impl_Shape_text.mono a0_0 a0_1 a0_2 a0_3 a0_4 a0_5, rfl⟩
theorem impl_Shape_text.L0_eq (x3 : ByteArray) (x10 : List Int) (x11 : Int) (x12 : Int) (x286000 : Int) (x286001 : Int) (x286002 : Int) (x286003 : Int) (x286004 : Int) (x286005 : Bool) : impl_Shape_text.L0 x3 x10 x11 x12 x286000 x286001 x286002 x286003 x286004 x286005 = (if x12 < x11 then (if 0 ≤ x12 then (if x12 < (x10.length : Int) then ((strconv_Itoa.f (rd x10 x12)).bind fun t291 => (if x3.size + t291.size ≤ 9223372036854775807 then (impl_Shape_text.L0 (x3 ++ t291) x10 x11 (wrap64 (x12 + 1)) x286000 x286001 x286002 x286003 x286004 x286005) else (none))) else (none)) else (none)) else (if x286005 = true then (if x3.size + 1 ≤ 9223372036854775807 then (some (x3 ++ (⟨#[115]⟩ : ByteArray))) else (none)) else (some x3))) := by
  refine Lim.succ_eq (impl_Shape_text.L0_lim x3 x10 x11 x12 x286000 x286001 x286002 x286003 x286004 x286005).mon ?_
  simp only [impl_Shape_text.l0]
  repeat' first
  | (with_reducible exact impl_Shape_text.L0_lim _ _ _ _ _ _ _ _ _ _)
  | (with_reducible refine Lim.ite ?_ ?_)
  | (with_reducible refine Lim.bind ?_ (fun _ => ?_))
  | (with_reducible exact Lim.const _)
theorem impl_Shape_text.F_eq (a0_0 : Int) (a0_1 : Int) (a0_2 : Int) (a0_3 : Int) (a0_4 : Int) (a0_5 : Bool) : impl_Shape_text.F a0_0 a0_1 a0_2 a0_3 a0_4 a0_5 = ((strconv_Itoa.f a0_0).bind fun t286 => ((impl_Shape_bends.f a0_0 a0_1 a0_2 a0_3 a0_4 a0_5).bind fun t287 => (impl_Shape_text.L0 t286 t287 (t287.length : Int) 0 a0_0 a0_1 a0_2 a0_3 a0_4 a0_5))) := by
  refine Lim.eq_ ?_
  simp only [impl_Shape_text.f]
  repeat' first
  | (with_reducible exact impl_Shape_text.L0_lim _ _ _ _ _ _ _ _ _ _)
  | (with_reducible refine Lim.ite ?_ ?_)
  | (with_reducible refine Lim.bind ?_ (fun _ => ?_))
  | (with_reducible exact Lim.const _)
def impl_ParseShape.l0 : Nat → ByteArray → Int → Int → Int → Int → Int → Int → Bool → Option (Int × Int × Int × Int × Int × Bool × Bool)
  | 0, _, _, _, _, _, _, _, _ => none
  | k + 1, x0, x11, x295000, x295001, x295002, x295003, x295004, x295005 => if x11 < 5 then (if 0 ≤ x11 then (if x11 < (x0.size : Int) then ((impl_Shape_with.f x295000 x295001 x295002 x295003 x295004 x295005 x11 (wrap64 ((wrap64 (bt x0 x11)) - 48))).bind fun bt295 => (impl_ParseShape.l0 k x0 (wrap64 (x11 + 1)) bt295.1 bt295.2.1 bt295.2.2.1 bt295.2.2.2.1 bt295.2.2.2.2.1 bt295.2.2.2.2.2)) else (none)) else (none)) else ((impl_IsShape.f k x295000 x295001 x295002 x295003 x295004 ((x0.size : Int) == 6)).bind fun t301 => (if t301 = true then ((impl_Shape_text.f k x295000 x295001 x295002 x295003 x295004 ((x0.size : Int) == 6)).bind fun t302 => (if t302.toList = x0.toList then (some (x295000, x295001, x295002, x295003, x295004, ((x0.size : Int) == 6), true)) else (some (0, 0, 0, 0, 0, false, false)))) else (some (0, 0, 0, 0, 0, false, false))))
def impl_ParseShape.f (k : Nat) (a0 : ByteArray) : Option (Int × Int × Int × Int × Int × Bool × Bool) := (impl_within.f (a0.size : Int) 5 6).bind fun t293 => (if t293 = true then (impl_ParseShape.l0 k a0 0 0 0 0 0 0 false) else (some (0, 0, 0, 0, 0, false, false)))
theorem impl_ParseShape.mono_l : ∀ k, (∀ y0 y1 y2 y3 y4 y5 y6 y7, LeO (impl_ParseShape.l0 k y0 y1 y2 y3 y4 y5 y6 y7) (impl_ParseShape.l0 (k + 1) y0 y1 y2 y3 y4 y5 y6 y7))
  | 0 => fun _ _ _ _ _ _ _ _ r h => by simp [impl_ParseShape.l0] at h
  | k + 1 => by
    have ih0 := impl_ParseShape.mono_l k
    · intro y0 y1 y2 y3 y4 y5 y6 y7
      unfold impl_ParseShape.l0
      repeat' first
      | (with_reducible exact ih0 _ _ _ _ _ _ _ _)
      | (with_reducible exact impl_IsShape.mono _ _ _ _ _ _ _)
      | (with_reducible exact impl_Shape_text.mono _ _ _ _ _ _ _)
      | (with_reducible exact LeO.refl _)
      | (with_reducible exact LeO.none _)
      | (with_reducible refine LeO.ite ?_ ?_)
      | (with_reducible refine LeO.bind ?_ (fun _ => ?_))
      | exact ih0 _ _ _ _ _ _ _ _
      | exact impl_IsShape.mono _ _ _ _ _ _ _
      | exact impl_Shape_text.mono _ _ _ _ _ _ _
      | exact LeO.none _
      | refine LeO.ite ?_ ?_
      | refine LeO.bind ?_ (fun _ => ?_)
theorem impl_ParseShape.mono : ∀ a0 k, LeO (impl_ParseShape.f k a0) (impl_ParseShape.f (k + 1) a0) := by
  intro a0 k
  have ih0 := impl_ParseShape.mono_l k
  unfold impl_ParseShape.f
  repeat' first
      | (with_reducible exact ih0 _ _ _ _ _ _ _ _)
      | (with_reducible exact impl_IsShape.mono _ _ _ _ _ _ _)
      | (with_reducible exact impl_Shape_text.mono _ _ _ _ _ _ _)
      | (with_reducible exact LeO.refl _)
      | (with_reducible exact LeO.none _)
      | (with_reducible refine LeO.ite ?_ ?_)
      | (with_reducible refine LeO.bind ?_ (fun _ => ?_))
      | exact ih0 _ _ _ _ _ _ _ _
      | exact impl_IsShape.mono _ _ _ _ _ _ _
      | exact impl_Shape_text.mono _ _ _ _ _ _ _
      | exact LeO.none _
      | refine LeO.ite ?_ ?_
      | refine LeO.bind ?_ (fun _ => ?_)
noncomputable def impl_ParseShape.L0 (x0 : ByteArray) (x11 : Int) (x295000 : Int) (x295001 : Int) (x295002 : Int) (x295003 : Int) (x295004 : Int) (x295005 : Bool) : Option (Int × Int × Int × Int × Int × Bool × Bool) := lim fun k => impl_ParseShape.l0 k x0 x11 x295000 x295001 x295002 x295003 x295004 x295005
theorem impl_ParseShape.L0_lim (x0 : ByteArray) (x11 : Int) (x295000 : Int) (x295001 : Int) (x295002 : Int) (x295003 : Int) (x295004 : Int) (x295005 : Bool) : Lim (fun k => impl_ParseShape.l0 k x0 x11 x295000 x295001 x295002 x295003 x295004 x295005) (impl_ParseShape.L0 x0 x11 x295000 x295001 x295002 x295003 x295004 x295005) := ⟨fun k => (impl_ParseShape.mono_l k) x0 x11 x295000 x295001 x295002 x295003 x295004 x295005, rfl⟩
noncomputable def impl_ParseShape.F (a0 : ByteArray) : Option (Int × Int × Int × Int × Int × Bool × Bool) := lim fun k => impl_ParseShape.f k a0
theorem impl_ParseShape.F_lim (a0 : ByteArray) : Lim (fun k => impl_ParseShape.f k a0) (impl_ParseShape.F a0) := ⟨impl_ParseShape.mono a0, rfl⟩
theorem impl_ParseShape.L0_eq (x0 : ByteArray) (x11 : Int) (x295000 : Int) (x295001 : Int) (x295002 : Int) (x295003 : Int) (x295004 : Int) (x295005 : Bool) : impl_ParseShape.L0 x0 x11 x295000 x295001 x295002 x295003 x295004 x295005 = (if x11 < 5 then (if 0 ≤ x11 then (if x11 < (x0.size : Int) then ((impl_Shape_with.f x295000 x295001 x295002 x295003 x295004 x295005 x11 (wrap64 ((wrap64 (bt x0 x11)) - 48))).bind fun bt295 => (impl_ParseShape.L0 x0 (wrap64 (x11 + 1)) bt295.1 bt295.2.1 bt295.2.2.1 bt295.2.2.2.1 bt295.2.2.2.2.1 bt295.2.2.2.2.2)) else (none)) else (none)) else ((impl_IsShape.F x295000 x295001 x295002 x295003 x295004 ((x0.size : Int) == 6)).bind fun t301 => (if t301 = true then ((impl_Shape_text.F x295000 x295001 x295002 x295003 x295004 ((x0.size : Int) == 6)).bind fun t302 => (if t302.toList = x0.toList then (some (x295000, x295001, x295002, x295003, x295004, ((x0.size : Int) == 6), true)) else (some (0, 0, 0, 0, 0, false, false)))) else (some (0, 0, 0, 0, 0, false, false))))) := by
  refine Lim.succ_eq (impl_ParseShape.L0_lim x0 x11 x295000 x295001 x295002 x295003 x295004 x295005).mon ?_
  simp only [impl_ParseShape.l0]
  repeat' first
  | (with_reducible exact impl_ParseShape.L0_lim _ _ _ _ _ _ _ _)
  | (with_reducible exact impl_IsShape.F_lim _ _ _ _ _ _)
  | (with_reducible exact impl_Shape_text.F_lim _ _ _ _ _ _)
  | (with_reducible refine Lim.ite ?_ ?_)
  | (with_reducible refine Lim.bind ?_ (fun _ => ?_))
  | (with_reducible exact Lim.const _)
theorem impl_ParseShape.F_eq (a0 : ByteArray) : impl_ParseShape.F a0 = ((impl_within.f (a0.size : Int) 5 6).bind fun t293 => (if t293 = true then (impl_ParseShape.L0 a0 0 0 0 0 0 0 false) else (some (0, 0, 0, 0, 0, false, false)))) := by
  refine Lim.eq_ ?_
  simp only [impl_ParseShape.f]
  repeat' first
  | (with_reducible exact impl_ParseShape.L0_lim _ _ _ _ _ _ _ _)
  | (with_reducible exact impl_IsShape.F_lim _ _ _ _ _ _)
  | (with_reducible exact impl_Shape_text.F_lim _ _ _ _ _ _)
  | (with_reducible refine Lim.ite ?_ ?_)
  | (with_reducible refine Lim.bind ?_ (fun _ => ?_))
  | (with_reducible exact Lim.const _)
def stringslite_IndexByte.f (a0 : ByteArray) (a1 : Int) : Option (Int) := some (Lib.indexByte a0.data.toList a1.toNat.toUInt8)
def strings_IndexByte.f (a0 : ByteArray) (a1 : Int) : Option (Int) := (stringslite_IndexByte.f a0 a1).bind fun t303 => (some t303)
def impl_IsOrient.f (a0_0 : Int) (a0_1 : Int) : Option (Bool) := (impl_within.f a0_0 0 5).bind fun t305 => (if t305 = true then ((impl_within.f a0_1 0 5).bind fun t306 => (if t306 = true then (some ((wrap64 (Int.tdiv a0_0 2)) != (wrap64 (Int.tdiv a0_1 2)))) else (some false))) else (some false))
def impl_ParseOrient.f (a0 : ByteArray) : Option (Int × Int × Bool) := if (a0.size : Int) = 2 then (if 0 < (a0.size : Int) then ((strings_IndexByte.f (⟨#[117, 100, 108, 114, 102, 98]⟩ : ByteArray) (bt a0 0)).bind fun t308 => (if 1 < (a0.size : Int) then ((strings_IndexByte.f (⟨#[117, 100, 108, 114, 102, 98]⟩ : ByteArray) (bt a0 1)).bind fun t309 => ((impl_IsOrient.f t308 t309).bind fun t311 => (if t311 = true then (some (t308, t309, true)) else (some (0, 0, false))))) else (none))) else (none)) else (some (0, 0, false))
def impl_IsPlace.f (a0_0 : Int) (a0_1 : Int) (a0_2 : Bool) : Option (Bool) := (impl_within.f a0_0 0 9).bind fun t313 => (if t313 = true then ((impl_within.f a0_1 (-1) 1).bind fun t314 => (if t314 = true then (if a0_2 = true then (some (!(a0_0 == 0))) else (some (!false))) else (some false))) else (some false))
def impl_PlaceOfCode.f (a0 : Int) : Option (Int × Int × Bool × Bool) := (impl_within.f a0 0 59).bind fun t316 => (if t316 = true then ((impl_IsPlace.f (wrap64 (Int.tdiv a0 6)) (wrap64 ((wrap64 (Int.tdiv (Int.tmod a0 6) 2)) - 1)) ((Int.tmod a0 2) == 1)).bind fun t318 => (if t318 = true then (some (wrap64 (Int.tdiv a0 6), wrap64 ((wrap64 (Int.tdiv (Int.tmod a0 6) 2)) - 1), ((Int.tmod a0 2) == 1), true)) else (some (0, 0, false, false)))) else (some (0, 0, false, false)))
def impl_Place_text.nm (n : Nat) : ByteArray := [(⟨#[115, 112, 97, 99, 101]⟩ : ByteArray), ⟨#[104, 101, 97, 100]⟩, ⟨#[101, 121, 101]⟩, ⟨#[99, 104, 101, 101, 107]⟩, ⟨#[109, 111, 117, 116, 104]⟩, ⟨#[99, 104, 105, 110]⟩, ⟨#[110, 101, 99, 107]⟩, ⟨#[99, 104, 101, 115, 116]⟩, ⟨#[119, 97, 105, 115, 116]⟩, ⟨#[104, 105, 112]⟩].getD n ⟨#[]⟩
def impl_Place_text.f (a0_0 : Int) (a0_1 : Int) (a0_2 : Bool) : Option (ByteArray) := if 0 ≤ a0_0 ∧ a0_0 ≤ 9 then (if a0_1 = -1 then some (if a0_2 = true then (impl_Place_text.nm a0_0.toNat ++ ⟨#[60]⟩) ++ ⟨#[42]⟩ else impl_Place_text.nm a0_0.toNat ++ ⟨#[60]⟩) else if a0_1 = 0 then some (if a0_2 = true then (impl_Place_text.nm a0_0.toNat ++ ⟨#[]⟩) ++ ⟨#[42]⟩ else impl_Place_text.nm a0_0.toNat ++ ⟨#[]⟩) else if a0_1 = 1 then some (if a0_2 = true then (impl_Place_text.nm a0_0.toNat ++ ⟨#[62]⟩) ++ ⟨#[42]⟩ else impl_Place_text.nm a0_0.toNat ++ ⟨#[62]⟩) else none) else none
def impl_ParsePlace.l0 : Nat → ByteArray → Int → Option (Int × Int × Bool × Bool)
  | 0, _, _ => none
  | k + 1, x0, x7 => if x7 < 60 then ((impl_PlaceOfCode.f x7).bind fun bt320 => (if bt320.2.2.2 = true then ((impl_Place_text.f bt320.1 bt320.2.1 bt320.2.2.1).bind fun t325 => (if t325.toList = x0.toList then (some (bt320.1, bt320.2.1, bt320.2.2.1, true)) else (impl_ParsePlace.l0 k x0 (wrap64 (x7 + 1))))) else (impl_ParsePlace.l0 k x0 (wrap64 (x7 + 1))))) else (some (0, 0, false, false))
def impl_ParsePlace.f (k : Nat) (a0 : ByteArray) : Option (Int × Int × Bool × Bool) := impl_ParsePlace.l0 k a0 0
theorem impl_ParsePlace.mono_l : ∀ k, (∀ y0 y1, LeO (impl_ParsePlace.l0 k y0 y1) (impl_ParsePlace.l0 (k + 1) y0 y1))
  | 0 => fun _ _ r h => by simp [impl_ParsePlace.l0] at h
  | k + 1 => by
    have ih0 := impl_ParsePlace.mono_l k
    · intro y0 y1
      unfold impl_ParsePlace.l0
      repeat' first
      | (with_reducible exact ih0 _ _)
      | (with_reducible exact LeO.refl _)
      | (with_reducible exact LeO.none _)
      | (with_reducible refine LeO.ite ?_ ?_)
      | (with_reducible refine LeO.bind ?_ (fun _ => ?_))
      | exact ih0 _ _
      | exact LeO.none _
      | refine LeO.ite ?_ ?_
      | refine LeO.bind ?_ (fun _ => ?_)
theorem impl_ParsePlace.mono : ∀ a0 k, LeO (impl_ParsePlace.f k a0) (impl_ParsePlace.f (k + 1) a0) := by
  intro a0 k
  have ih0 := impl_ParsePlace.mono_l k
  unfold impl_ParsePlace.f
  repeat' first
      | (with_reducible exact ih0 _ _)
      | (with_reducible exact LeO.refl _)
      | (with_reducible exact LeO.none _)
      | (with_reducible refine LeO.ite ?_ ?_)
      | (with_reducible refine LeO.bind ?_ (fun _ => ?_))
      | exact ih0 _ _
      | exact LeO.none _
      | refine LeO.ite ?_ ?_
      | refine LeO.bind ?_ (fun _ => ?_)
noncomputable def impl_ParsePlace.L0 (x0 : ByteArray) (x7 : Int) : Option (Int × Int × Bool × Bool) := lim fun k => impl_ParsePlace.l0 k x0 x7
theorem impl_ParsePlace.L0_lim (x0 : ByteArray) (x7 : Int) : Lim (fun k => impl_ParsePlace.l0 k x0 x7) (impl_ParsePlace.L0 x0 x7) := ⟨fun k => (impl_ParsePlace.mono_l k) x0 x7, rfl⟩
noncomputable def impl_ParsePlace.F (a0 : ByteArray) : Option (Int × Int × Bool × Bool) := lim fun k => impl_ParsePlace.f k a0
theorem impl_ParsePlace.F_lim (a0 : ByteArray) : Lim (fun k => impl_ParsePlace.f k a0) (impl_ParsePlace.F a0) := ⟨impl_ParsePlace.mono a0, rfl⟩
theorem impl_ParsePlace.L0_eq (x0 : ByteArray) (x7 : Int) : impl_ParsePlace.L0 x0 x7 = (if x7 < 60 then ((impl_PlaceOfCode.f x7).bind fun bt320 => (if bt320.2.2.2 = true then ((impl_Place_text.f bt320.1 bt320.2.1 bt320.2.2.1).bind fun t325 => (if t325.toList = x0.toList then (some (bt320.1, bt320.2.1, bt320.2.2.1, true)) else (impl_ParsePlace.L0 x0 (wrap64 (x7 + 1))))) else (impl_ParsePlace.L0 x0 (wrap64 (x7 + 1))))) else (some (0, 0, false, false))) := by
  refine Lim.succ_eq (impl_ParsePlace.L0_lim x0 x7).mon ?_
  simp only [impl_ParsePlace.l0]
  repeat' first
  | (with_reducible exact impl_ParsePlace.L0_lim _ _)
  | (with_reducible refine Lim.ite ?_ ?_)
  | (with_reducible refine Lim.bind ?_ (fun _ => ?_))
  | (with_reducible exact Lim.const _)
theorem impl_ParsePlace.F_eq (a0 : ByteArray) : impl_ParsePlace.F a0 = (impl_ParsePlace.L0 a0 0) := by
  refine Lim.eq_ ?_
  simp only [impl_ParsePlace.f]
  repeat' first
  | (with_reducible exact impl_ParsePlace.L0_lim _ _)
  | (with_reducible refine Lim.ite ?_ ?_)
  | (with_reducible refine Lim.bind ?_ (fun _ => ?_))
  | (with_reducible exact Lim.const _)
def stringslite_Cut.f (a0 : ByteArray) (a1 : ByteArray) : Option (ByteArray × ByteArray × Bool) := (stringslite_Index.f a0 a1).bind fun t326 => (if t326 ≥ 0 then (if 0 ≤ t326 then (if t326 ≤ (a0.size : Int) then (if 0 ≤ (wrap64 (t326 + (a1.size : Int))) then (if (wrap64 (t326 + (a1.size : Int))) ≤ (a0.size : Int) then (some (a0.extract 0 (t326 : Int).toNat, a0.extract ((wrap64 (t326 + (a1.size : Int))) : Int).toNat a0.size, true)) else (none)) else (none)) else (none)) else (none)) else (some (a0, (⟨#[]⟩ : ByteArray), false)))
def strings_Cut.f (a0 : ByteArray) (a1 : ByteArray) : Option (ByteArray × ByteArray × Bool) := (stringslite_Cut.f a0 a1).bind fun bt327 => (some (bt327.1, bt327.2.1, bt327.2.2))
def impl_decimal.f (a0 : ByteArray) : Option (Int × Bool) := if a0.size ≤ 281474976710656 then some (match Lib.atoiAll a0.data.toList with | .ok v => if Lib.itoa v = a0.data.toList then (v, true) else (0, false) | _ => (0, false)) else none
def impl_hasOnly.l0 : Nat → ByteArray → ByteArray → Int → Int → Option (Bool)
  | 0, _, _, _, _ => none
  | k + 1, x0, x1, x7, x8 => if x8 < x7 then (if 0 ≤ x8 then (if x8 < (x0.size : Int) then ((strings_IndexByte.f x1 (bt x0 x8)).bind fun t330 => (if t330 < 0 then (some false) else (impl_hasOnly.l0 k x0 x1 x7 (wrap64 (x8 + 1))))) else (none)) else (none)) else (some true)
def impl_hasOnly.f (k : Nat) (a0 : ByteArray) (a1 : ByteArray) : Option (Bool) := impl_hasOnly.l0 k a0 a1 (a0.size : Int) 0
theorem impl_hasOnly.mono_l : ∀ k, (∀ y0 y1 y2 y3, LeO (impl_hasOnly.l0 k y0 y1 y2 y3) (impl_hasOnly.l0 (k + 1) y0 y1 y2 y3))
  | 0 => fun _ _ _ _ r h => by simp [impl_hasOnly.l0] at h
  | k + 1 => by
    have ih0 := impl_hasOnly.mono_l k
    · intro y0 y1 y2 y3
      unfold impl_hasOnly.l0
      repeat' first
      | (with_reducible exact ih0 _ _ _ _)
      | (with_reducible exact LeO.refl _)
      | (with_reducible exact LeO.none _)
      | (with_reducible refine LeO.ite ?_ ?_)
      | (with_reducible refine LeO.bind ?_ (fun _ => ?_))
      | exact ih0 _ _ _ _
      | exact LeO.none _
      | refine LeO.ite ?_ ?_
      | refine LeO.bind ?_ (fun _ => ?_)
theorem impl_hasOnly.mono : ∀ a0 a1 k, LeO (impl_hasOnly.f k a0 a1) (impl_hasOnly.f (k + 1) a0 a1) := by
  intro a0 a1 k
  have ih0 := impl_hasOnly.mono_l k
  unfold impl_hasOnly.f
  repeat' first
      | (with_reducible exact ih0 _ _ _ _)
      | (with_reducible exact LeO.refl _)
      | (with_reducible exact LeO.none _)
      | (with_reducible refine LeO.ite ?_ ?_)
      | (with_reducible refine LeO.bind ?_ (fun _ => ?_))
      | exact ih0 _ _ _ _
      | exact LeO.none _
      | refine LeO.ite ?_ ?_
      | refine LeO.bind ?_ (fun _ => ?_)
noncomputable def impl_hasOnly.L0 (x0 : ByteArray) (x1 : ByteArray) (x7 : Int) (x8 : Int) : Option (Bool) := lim fun k => impl_hasOnly.l0 k x0 x1 x7 x8
theorem impl_hasOnly.L0_lim (x0 : ByteArray) (x1 : ByteArray) (x7 : Int) (x8 : Int) : Lim (fun k => impl_hasOnly.l0 k x0 x1 x7 x8) (impl_hasOnly.L0 x0 x1 x7 x8) := ⟨fun k => (impl_hasOnly.mono_l k) x0 x1 x7 x8, rfl⟩
noncomputable def impl_hasOnly.F (a0 : ByteArray) (a1 : ByteArray) : Option (Bool) := lim fun k => impl_hasOnly.f k a0 a1
theorem impl_hasOnly.F_lim (a0 : ByteArray) (a1 : ByteArray) : Lim (fun k => impl_hasOnly.f k a0 a1) (impl_hasOnly.F a0 a1) := ⟨impl_hasOnly.mono a0 a1, rfl⟩
theorem impl_hasOnly.L0_eq (x0 : ByteArray) (x1 : ByteArray) (x7 : Int) (x8 : Int) : impl_hasOnly.L0 x0 x1 x7 x8 = (if x8 < x7 then (if 0 ≤ x8 then (if x8 < (x0.size : Int) then ((strings_IndexByte.f x1 (bt x0 x8)).bind fun t330 => (if t330 < 0 then (some false) else (impl_hasOnly.L0 x0 x1 x7 (wrap64 (x8 + 1))))) else (none)) else (none)) else (some true)) := by
  refine Lim.succ_eq (impl_hasOnly.L0_lim x0 x1 x7 x8).mon ?_
  simp only [impl_hasOnly.l0]
  repeat' first
  | (with_reducible exact impl_hasOnly.L0_lim _ _ _ _)
  | (with_reducible refine Lim.ite ?_ ?_)
  | (with_reducible refine Lim.bind ?_ (fun _ => ?_))
  | (with_reducible exact Lim.const _)
theorem impl_hasOnly.F_eq (a0 : ByteArray) (a1 : ByteArray) : impl_hasOnly.F a0 a1 = (impl_hasOnly.L0 a0 a1 (a0.size : Int) 0) := by
  refine Lim.eq_ ?_
  simp only [impl_hasOnly.f]
  repeat' first
  | (with_reducible exact impl_hasOnly.L0_lim _ _ _ _)
  | (with_reducible refine Lim.ite ?_ ?_)
  | (with_reducible refine Lim.bind ?_ (fun _ => ?_))
  | (with_reducible exact Lim.const _)
def impl_IsMove.f (k : Nat) (a0_0 : ByteArray) (a0_1 : Int) : Option (Bool) := if (a0_0.size : Int) ≤ 6 then ((impl_hasOnly.f k a0_0 (⟨#[117, 100, 108, 114, 102, 98]⟩ : ByteArray)).bind fun t332 => (if t332 = true then ((impl_within.f a0_1 1 3).bind fun t333 => (if t333 = true then (if a0_0.toList = ([] : List UInt8) then (some (a0_1 == 1)) else (some true)) else (some false))) else (some false))) else (some false)
theorem impl_IsMove.mono : ∀ a0 a1 k, LeO (impl_IsMove.f k a0 a1) (impl_IsMove.f (k + 1) a0 a1) := by
  intro a0 a1 k
  unfold impl_IsMove.f
  repeat' first
      | (with_reducible exact impl_hasOnly.mono _ _ _)
      | (with_reducible exact LeO.refl _)
      | (with_reducible exact LeO.none _)
      | (with_reducible refine LeO.ite ?_ ?_)
      | (with_reducible refine LeO.bind ?_ (fun _ => ?_))
      | exact impl_hasOnly.mono _ _ _
      | exact LeO.none _
      | refine LeO.ite ?_ ?_
      | refine LeO.bind ?_ (fun _ => ?_)
noncomputable def impl_IsMove.F (a0_0 : ByteArray) (a0_1 : Int) : Option (Bool) := lim fun k => impl_IsMove.f k a0_0 a0_1
theorem impl_IsMove.F_lim (a0_0 : ByteArray) (a0_1 : Int) : Lim (fun k => impl_IsMove.f k a0_0 a0_1) (impl_IsMove.F a0_0 a0_1) := ⟨impl_IsMove.mono a0_0 a0_1, rfl⟩
theorem impl_IsMove.F_eq (a0_0 : ByteArray) (a0_1 : Int) : impl_IsMove.F a0_0 a0_1 = (if (a0_0.size : Int) ≤ 6 then ((impl_hasOnly.F a0_0 (⟨#[117, 100, 108, 114, 102, 98]⟩ : ByteArray)).bind fun t332 => (if t332 = true then ((impl_within.f a0_1 1 3).bind fun t333 => (if t333 = true then (if a0_0.toList = ([] : List UInt8) then (some (a0_1 == 1)) else (some true)) else (some false))) else (some false))) else (some false)) := by
  refine Lim.eq_ ?_
  simp only [impl_IsMove.f]
  repeat' first
  | (with_reducible exact impl_hasOnly.F_lim _ _)
  | (with_reducible refine Lim.ite ?_ ?_)
  | (with_reducible refine Lim.bind ?_ (fun _ => ?_))
  | (with_reducible exact Lim.const _)
def impl_Move_text.f (a0_0 : ByteArray) (a0_1 : Int) : Option (ByteArray) := if a0_0.toList = ([] : List UInt8) then (some (⟨#[45]⟩ : ByteArray)) else (if a0_1 = 1 then (some a0_0) else (if a0_0.size + 1 ≤ 9223372036854775807 then ((strconv_Itoa.f a0_1).bind fun t335 => (if (a0_0 ++ (⟨#[42]⟩ : ByteArray)).size + t335.size ≤ 9223372036854775807 then (some ((a0_0 ++ (⟨#[42]⟩ : ByteArray)) ++ t335)) else (none))) else (none)))
mutual
def impl_ParseMove.j0 : Nat → ByteArray → ByteArray → Int → Option (ByteArray × Int × Bool)
  | 0, _, _, _ => none
  | k + 1, x0, x341000, x341001 => if x0.toList = ([45] : List UInt8) then (impl_ParseMove.j1 k x0 (⟨#[]⟩ : ByteArray) x341001) else (impl_ParseMove.j1 k x0 x341000 x341001)
def impl_ParseMove.j1 : Nat → ByteArray → ByteArray → Int → Option (ByteArray × Int × Bool)
  | 0, _, _, _ => none
  | k + 1, x0, x341000, x341001 => (impl_IsMove.f k x341000 x341001).bind fun t343 => (if t343 = true then ((impl_Move_text.f x341000 x341001).bind fun t344 => (if t344.toList = x0.toList then (some (x341000, x341001, true)) else (some ((⟨#[]⟩ : ByteArray), 0, false)))) else (some ((⟨#[]⟩ : ByteArray), 0, false)))
end
def impl_ParseMove.f (k : Nat) (a0 : ByteArray) : Option (ByteArray × Int × Bool) := (strings_Cut.f a0 (⟨#[42]⟩ : ByteArray)).bind fun bt337 => (if bt337.2.2 = true then ((impl_decimal.f bt337.2.1).bind fun bt341 => (impl_ParseMove.j0 k a0 bt337.1 bt341.1)) else (impl_ParseMove.j0 k a0 bt337.1 1))
theorem impl_ParseMove.mono_l : ∀ k, (∀ y0 y1 y2, LeO (impl_ParseMove.j0 k y0 y1 y2) (impl_ParseMove.j0 (k + 1) y0 y1 y2)) ∧ (∀ y0 y1 y2, LeO (impl_ParseMove.j1 k y0 y1 y2) (impl_ParseMove.j1 (k + 1) y0 y1 y2))
  | 0 => ⟨fun _ _ _ r h => by simp [impl_ParseMove.j0] at h, fun _ _ _ r h => by simp [impl_ParseMove.j1] at h⟩
  | k + 1 => by
    obtain ⟨ih0, ih1⟩ := impl_ParseMove.mono_l k
    refine ⟨?_, ?_⟩
    · intro y0 y1 y2
      unfold impl_ParseMove.j0
      repeat' first
      | (with_reducible exact ih0 _ _ _)
      | (with_reducible exact ih1 _ _ _)
      | (with_reducible exact impl_IsMove.mono _ _ _)
      | (with_reducible exact LeO.refl _)
      | (with_reducible exact LeO.none _)
      | (with_reducible refine LeO.ite ?_ ?_)
      | (with_reducible refine LeO.bind ?_ (fun _ => ?_))
      | exact ih0 _ _ _
      | exact ih1 _ _ _
      | exact impl_IsMove.mono _ _ _
      | exact LeO.none _
      | refine LeO.ite ?_ ?_
      | refine LeO.bind ?_ (fun _ => ?_)
    · intro y0 y1 y2
      unfold impl_ParseMove.j1
      repeat' first
      | (with_reducible exact ih0 _ _ _)
      | (with_reducible exact ih1 _ _ _)
      | (with_reducible exact impl_IsMove.mono _ _ _)
      | (with_reducible exact LeO.refl _)
      | (with_reducible exact LeO.none _)
      | (with_reducible refine LeO.ite ?_ ?_)
      | (with_reducible refine LeO.bind ?_ (fun _ => ?_))
      | exact ih0 _ _ _
      | exact ih1 _ _ _
      | exact impl_IsMove.mono _ _ _
      | exact LeO.none _
      | refine LeO.ite ?_ ?_
      | refine LeO.bind ?_ (fun _ => ?_)
theorem impl_ParseMove.mono : ∀ a0 k, LeO (impl_ParseMove.f k a0) (impl_ParseMove.f (k + 1) a0) := by
  intro a0 k
  obtain ⟨ih0, ih1⟩ := impl_ParseMove.mono_l k
  unfold impl_ParseMove.f
  repeat' first
      | (with_reducible exact ih0 _ _ _)
      | (with_reducible exact ih1 _ _ _)
      | (with_reducible exact impl_IsMove.mono _ _ _)
      | (with_reducible exact LeO.refl _)
      | (with_reducible exact LeO.none _)
      | (with_reducible refine LeO.ite ?_ ?_)
      | (with_reducible refine LeO.bind ?_ (fun _ => ?_))
      | exact ih0 _ _ _
      | exact ih1 _ _ _
      | exact impl_IsMove.mono _ _ _
      | exact LeO.none _
      | refine LeO.ite ?_ ?_
      | refine LeO.bind ?_ (fun _ => ?_)
noncomputable def impl_ParseMove.J0 (x0 : ByteArray) (x341000 : ByteArray) (x341001 : Int) : Option (ByteArray × Int × Bool) := lim fun k => impl_ParseMove.j0 k x0 x341000 x341001
theorem impl_ParseMove.J0_lim (x0 : ByteArray) (x341000 : ByteArray) (x341001 : Int) : Lim (fun k => impl_ParseMove.j0 k x0 x341000 x341001) (impl_ParseMove.J0 x0 x341000 x341001) := ⟨fun k => (impl_ParseMove.mono_l k).1 x0 x341000 x341001, rfl⟩
noncomputable def impl_ParseMove.J1 (x0 : ByteArray) (x341000 : ByteArray) (x341001 : Int) : Option (ByteArray × Int × Bool) := lim fun k => impl_ParseMove.j1 k x0 x341000 x341001
theorem impl_ParseMove.J1_lim (x0 : ByteArray) (x341000 : ByteArray) (x341001 : Int) : Lim (fun k => impl_ParseMove.j1 k x0 x341000 x341001) (impl_ParseMove.J1 x0 x341000 x341001) := ⟨fun k => (impl_ParseMove.mono_l k).2 x0 x341000 x341001, rfl⟩
noncomputable def impl_ParseMove.F (a0 : ByteArray) : Option (ByteArray × Int × Bool) := lim fun k => impl_ParseMove.f k a0
theorem impl_ParseMove.F_lim (a0 : ByteArray) : Lim (fun k => impl_ParseMove.f k a0) (impl_ParseMove.F a0) := ⟨impl_ParseMove.mono a0, rfl⟩
theorem impl_ParseMove.J0_eq (x0 : ByteArray) (x341000 : ByteArray) (x341001 : Int) : impl_ParseMove.J0 x0 x341000 x341001 = (if x0.toList = ([45] : List UInt8) then (impl_ParseMove.J1 x0 (⟨#[]⟩ : ByteArray) x341001) else (impl_ParseMove.J1 x0 x341000 x341001)) := by
  refine Lim.succ_eq (impl_ParseMove.J0_lim x0 x341000 x341001).mon ?_
  simp only [impl_ParseMove.j0]
  repeat' first
  | (with_reducible exact impl_ParseMove.J0_lim _ _ _)
  | (with_reducible exact impl_ParseMove.J1_lim _ _ _)
  | (with_reducible exact impl_IsMove.F_lim _ _)
  | (with_reducible refine Lim.ite ?_ ?_)
  | (with_reducible refine Lim.bind ?_ (fun _ => ?_))
  | (with_reducible exact Lim.const _)
theorem impl_ParseMove.J1_eq (x0 : ByteArray) (x341000 : ByteArray) (x341001 : Int) : impl_ParseMove.J1 x0 x341000 x341001 = ((impl_IsMove.F x341000 x341001).bind fun t343 => (if t343 = true then ((impl_Move_text.f x341000 x341001).bind fun t344 => (if t344.toList = x0.toList then (some (x341000, x341001, true)) else (some ((⟨#[]⟩ : ByteArray), 0, false)))) else (some ((⟨#[]⟩ : ByteArray), 0, false)))) := by
  refine Lim.succ_eq (impl_ParseMove.J1_lim x0 x341000 x341001).mon ?_
  simp only [impl_ParseMove.j1]
  repeat' first
  | (with_reducible exact impl_ParseMove.J0_lim _ _ _)
  | (with_reducible exact impl_ParseMove.J1_lim _ _ _)
  | (with_reducible exact impl_IsMove.F_lim _ _)
  | (with_reducible refine Lim.ite ?_ ?_)
  | (with_reducible refine Lim.bind ?_ (fun _ => ?_))
  | (with_reducible exact Lim.const _)
theorem impl_ParseMove.F_eq (a0 : ByteArray) : impl_ParseMove.F a0 = ((strings_Cut.f a0 (⟨#[42]⟩ : ByteArray)).bind fun bt337 => (if bt337.2.2 = true then ((impl_decimal.f bt337.2.1).bind fun bt341 => (impl_ParseMove.J0 a0 bt337.1 bt341.1)) else (impl_ParseMove.J0 a0 bt337.1 1))) := by
  refine Lim.eq_ ?_
  simp only [impl_ParseMove.f]
  repeat' first
  | (with_reducible exact impl_ParseMove.J0_lim _ _ _)
  | (with_reducible exact impl_ParseMove.J1_lim _ _ _)
  | (with_reducible exact impl_IsMove.F_lim _ _)
  | (with_reducible refine Lim.ite ?_ ?_)
  | (with_reducible refine Lim.bind ?_ (fun _ => ?_))
  | (with_reducible exact Lim.const _)
def impl_readHand.l0 : Nat → List ByteArray → Int → Int → Int → Int → Int → Int → Int → Bool → Int → Int → Int → Int → Bool → ByteArray → Int → Bool → Bool → Bool → Bool → Option (Int × Int × Int × Int × Int × Bool × Int × Int × Int × Int × Bool × ByteArray × Int × Int × Int)
  | 0, _, _, _, _, _, _, _, _, _, _, _, _, _, _, _, _, _, _, _, _ => none
  | k + 1, x5, x8, x54, x350000, x350001, x350002, x350003, x350004, x350005, x350006, x350007, x350008, x350009, x350010, x350011, x350012, x351000, x351001, x351002, x351003 => if x54 < 4 then (if 0 ≤ x54 then (if ar4_ x351000 x351001 x351002 x351003 x54 = true then (if x54 < (x5.length : Int) then (impl_readHand.l0 k x5 (wrap64 (x8 + (wrap64 (((rdOf ByteArray.empty x5 x54).size : Int) + 1)))) (wrap64 (x54 + 1)) x350000 x350001 x350002 x350003 x350004 x350005 x350006 x350007 x350008 x350009 x350010 x350011 x350012 x351000 x351001 x351002 x351003) else (none)) else (some (0, 0, 0, 0, 0, false, 0, 0, 0, 0, false, (⟨#[]⟩ : ByteArray), 0, wrap64 (3 + x54), x8))) else (none)) else (some (x350000, x350001, x350002, x350003, x350004, x350005, x350006, x350007, x350008, x350009, x350010, x350011, x350012, 0, 0))
def impl_readHand.f (k : Nat) (a0 : ByteArray) : Option (Int × Int × Int × Int × Int × Bool × Int × Int × Int × Int × Bool × ByteArray × Int × Int × Int) := (strings_Split.f a0 (⟨#[47]⟩ : ByteArray)).bind fun t346 => (if (t346.length : Int) = 4 then (if 0 < (t346.length : Int) then ((impl_ParseShape.f k (rdOf ByteArray.empty t346 0)).bind fun bt352 => (if 1 < (t346.length : Int) then ((impl_ParseOrient.f (rdOf ByteArray.empty t346 1)).bind fun bt360 => (if 2 < (t346.length : Int) then ((impl_ParsePlace.f k (rdOf ByteArray.empty t346 2)).bind fun bt364 => (if 3 < (t346.length : Int) then ((impl_ParseMove.f k (rdOf ByteArray.empty t346 3)).bind fun bt369 => (impl_readHand.l0 k t346 0 0 bt352.1 bt352.2.1 bt352.2.2.1 bt352.2.2.2.1 bt352.2.2.2.2.1 bt352.2.2.2.2.2.1 bt360.1 bt360.2.1 bt364.1 bt364.2.1 bt364.2.2.1 bt369.1 bt369.2.1 bt352.2.2.2.2.2.2 bt360.2.2 bt364.2.2.2 bt369.2.2)) else (none))) else (none))) else (none))) else (none)) else (some (0, 0, 0, 0, 0, false, 0, 0, 0, 0, false, (⟨#[]⟩ : ByteArray), 0, 2, 0)))
theorem impl_readHand.mono_l : ∀ k, (∀ y0 y1 y2 y3 y4 y5 y6 y7 y8 y9 y10 y11 y12 y13 y14 y15 y16 y17 y18 y19, LeO (impl_readHand.l0 k y0 y1 y2 y3 y4 y5 y6 y7 y8 y9 y10 y11 y12 y13 y14 y15 y16 y17 y18 y19) (impl_readHand.l0 (k + 1) y0 y1 y2 y3 y4 y5 y6 y7 y8 y9 y10 y11 y12 y13 y14 y15 y16 y17 y18 y19))
  | 0 => fun _ _ _ _ _ _ _ _ _ _ _ _ _ _ _ _ _ _ _ _ r h => by simp [impl_readHand.l0] at h
  | k + 1 => by
    have ih0 := impl_readHand.mono_l k
    · intro y0 y1 y2 y3 y4 y5 y6 y7 y8 y9 y10 y11 y12 y13 y14 y15 y16 y17 y18 y19
      unfold impl_readHand.l0
      repeat' first
      | (with_reducible exact ih0 _ _ _ _ _ _ _ _ _ _ _ _ _ _ _ _ _ _ _ _)
      | (with_reducible exact impl_ParseMove.mono _ _)
      | (with_reducible exact impl_ParsePlace.mono _ _)
      | (with_reducible exact impl_ParseShape.mono _ _)
      | (with_reducible exact LeO.refl _)
      | (with_reducible exact LeO.none _)
      | (with_reducible refine LeO.ite ?_ ?_)
      | (with_reducible refine LeO.bind ?_ (fun _ => ?_))
      | exact ih0 _ _ _ _ _ _ _ _ _ _ _ _ _ _ _ _ _ _ _ _
      | exact impl_ParseMove.mono _ _
      | exact impl_ParsePlace.mono _ _
      | exact impl_ParseShape.mono _ _
      | exact LeO.none _
      | refine LeO.ite ?_ ?_
      | refine LeO.bind ?_ (fun _ => ?_)
theorem impl_readHand.mono : ∀ a0 k, LeO (impl_readHand.f k a0) (impl_readHand.f (k + 1) a0) := by
  intro a0 k
  have ih0 := impl_readHand.mono_l k
  unfold impl_readHand.f
  repeat' first
      | (with_reducible exact ih0 _ _ _ _ _ _ _ _ _ _ _ _ _ _ _ _ _ _ _ _)
      | (with_reducible exact impl_ParseMove.mono _ _)
      | (with_reducible exact impl_ParsePlace.mono _ _)
      | (with_reducible exact impl_ParseShape.mono _ _)
      | (with_reducible exact LeO.refl _)
      | (with_reducible exact LeO.none _)
      | (with_reducible refine LeO.ite ?_ ?_)
      | (with_reducible refine LeO.bind ?_ (fun _ => ?_))
      | exact ih0 _ _ _ _ _ _ _ _ _ _ _ _ _ _ _ _ _ _ _ _
      | exact impl_ParseMove.mono _ _
      | exact impl_ParsePlace.mono _ _
      | exact impl_ParseShape.mono _ _
      | exact LeO.none _
      | refine LeO.ite ?_ ?_
      | refine LeO.bind ?_ (fun _ => ?_)
noncomputable def impl_readHand.L0 (x5 : List ByteArray) (x8 : Int) (x54 : Int) (x350000 : Int) (x350001 : Int) (x350002 : Int) (x350003 : Int) (x350004 : Int) (x350005 : Bool) (x350006 : Int) (x350007 : Int) (x350008 : Int) (x350009 : Int) (x350010 : Bool) (x350011 : ByteArray) (x350012 : Int) (x351000 : Bool) (x351001 : Bool) (x351002 : Bool) (x351003 : Bool) : Option (Int × Int × Int × Int × Int × Bool × Int × Int × Int × Int × Bool × ByteArray × Int × Int × Int) := lim fun k => impl_readHand.l0 k x5 x8 x54 x350000 x350001 x350002 x350003 x350004 x350005 x350006 x350007 x350008 x350009 x350010 x350011 x350012 x351000 x351001 x351002 x351003
theorem impl_readHand.L0_lim (x5 : List ByteArray) (x8 : Int) (x54 : Int) (x350000 : Int) (x350001 : Int) (x350002 : Int) (x350003 : Int) (x350004 : Int) (x350005 : Bool) (x350006 : Int) (x350007 : Int) (x350008 : Int) (x350009 : Int) (x350010 : Bool) (x350011 : ByteArray) (x350012 : Int) (x351000 : Bool) (x351001 : Bool) (x351002 : Bool) (x351003 : Bool) : Lim (fun k => impl_readHand.l0 k x5 x8 x54 x350000 x350001 x350002 x350003 x350004 x350005 x350006 x350007 x350008 x350009 x350010 x350011 x350012 x351000 x351001 x351002 x351003) (impl_readHand.L0 x5 x8 x54 x350000 x350001 x350002 x350003 x350004 x350005 x350006 x350007 x350008 x350009 x350010 x350011 x350012 x351000 x351001 x351002 x351003) := ⟨fun k => (impl_readHand.mono_l k) x5 x8 x54 x350000 x350001 x350002 x350003 x350004 x350005 x350006 x350007 x350008 x350009 x350010 x350011 x350012 x351000 x351001 x351002 x351003, rfl⟩
noncomputable def impl_readHand.F (a0 : ByteArray) : Option (Int × Int × Int × Int × Int × Bool × Int × Int × Int × Int × Bool × ByteArray × Int × Int × Int) := lim fun k => impl_readHand.f k a0
theorem impl_readHand.F_lim (a0 : ByteArray) : Lim (fun k => impl_readHand.f k a0) (impl_readHand.F a0) := ⟨impl_readHand.mono a0, rfl⟩
theorem impl_readHand.L0_eq (x5 : List ByteArray) (x8 : Int) (x54 : Int) (x350000 : Int) (x350001 : Int) (x350002 : Int) (x350003 : Int) (x350004 : Int) (x350005 : Bool) (x350006 : Int) (x350007 : Int) (x350008 : Int) (x350009 : Int) (x350010 : Bool) (x350011 : ByteArray) (x350012 : Int) (x351000 : Bool) (x351001 : Bool) (x351002 : Bool) (x351003 : Bool) : impl_readHand.L0 x5 x8 x54 x350000 x350001 x350002 x350003 x350004 x350005 x350006 x350007 x350008 x350009 x350010 x350011 x350012 x351000 x351001 x351002 x351003 = (if x54 < 4 then (if 0 ≤ x54 then (if ar4_ x351000 x351001 x351002 x351003 x54 = true then (if x54 < (x5.length : Int) then (impl_readHand.L0 x5 (wrap64 (x8 + (wrap64 (((rdOf ByteArray.empty x5 x54).size : Int) + 1)))) (wrap64 (x54 + 1)) x350000 x350001 x350002 x350003 x350004 x350005 x350006 x350007 x350008 x350009 x350010 x350011 x350012 x351000 x351001 x351002 x351003) else (none)) else (some (0, 0, 0, 0, 0, false, 0, 0, 0, 0, false, (⟨#[]⟩ : ByteArray), 0, wrap64 (3 + x54), x8))) else (none)) else (some (x350000, x350001, x350002, x350003, x350004, x350005, x350006, x350007, x350008, x350009, x350010, x350011, x350012, 0, 0))) := by
  refine Lim.succ_eq (impl_readHand.L0_lim x5 x8 x54 x350000 x350001 x350002 x350003 x350004 x350005 x350006 x350007 x350008 x350009 x350010 x350011 x350012 x351000 x351001 x351002 x351003).mon ?_
  simp only [impl_readHand.l0]
  repeat' first
  | (with_reducible exact impl_readHand.L0_lim _ _ _ _ _ _ _ _ _ _ _ _ _ _ _ _ _ _ _ _)
  | (with_reducible exact impl_ParseMove.F_lim _)
  | (with_reducible exact impl_ParsePlace.F_lim _)
  | (with_reducible exact impl_ParseShape.F_lim _)
  | (with_reducible refine Lim.ite ?_ ?_)
  | (with_reducible refine Lim.bind ?_ (fun _ => ?_))
  | (with_reducible exact Lim.const _)
theorem impl_readHand.F_eq (a0 : ByteArray) : impl_readHand.F a0 = ((strings_Split.f a0 (⟨#[47]⟩ : ByteArray)).bind fun t346 => (if (t346.length : Int) = 4 then (if 0 < (t346.length : Int) then ((impl_ParseShape.F (rdOf ByteArray.empty t346 0)).bind fun bt352 => (if 1 < (t346.length : Int) then ((impl_ParseOrient.f (rdOf ByteArray.empty t346 1)).bind fun bt360 => (if 2 < (t346.length : Int) then ((impl_ParsePlace.F (rdOf ByteArray.empty t346 2)).bind fun bt364 => (if 3 < (t346.length : Int) then ((impl_ParseMove.F (rdOf ByteArray.empty t346 3)).bind fun bt369 => (impl_readHand.L0 t346 0 0 bt352.1 bt352.2.1 bt352.2.2.1 bt352.2.2.2.1 bt352.2.2.2.2.1 bt352.2.2.2.2.2.1 bt360.1 bt360.2.1 bt364.1 bt364.2.1 bt364.2.2.1 bt369.1 bt369.2.1 bt352.2.2.2.2.2.2 bt360.2.2 bt364.2.2.2 bt369.2.2)) else (none))) else (none))) else (none))) else (none)) else (some (0, 0, 0, 0, 0, false, 0, 0, 0, 0, false, (⟨#[]⟩ : ByteArray), 0, 2, 0)))) := by
  refine Lim.eq_ ?_
  simp only [impl_readHand.f]
  repeat' first
  | (with_reducible exact impl_readHand.L0_lim _ _ _ _ _ _ _ _ _ _ _ _ _ _ _ _ _ _ _ _)
  | (with_reducible exact impl_ParseMove.F_lim _)
  | (with_reducible exact impl_ParsePlace.F_lim _)
  | (with_reducible exact impl_ParseShape.F_lim _)
  | (with_reducible refine Lim.ite ?_ ?_)
  | (with_reducible refine Lim.bind ?_ (fun _ => ?_))
  | (with_reducible exact Lim.const _)
def impl_ParseHand.j0 : Nat → ByteArray → Bool → Option (Int × Int × Int × Int × Int × Bool × Int × Int × Int × Int × Bool × ByteArray × Int × Bool)
  | 0, _, _ => none
  | k + 1, x0, x13 => if x13 = true then (some (0, 0, 0, 0, 0, false, 0, 0, 0, 0, false, (⟨#[]⟩ : ByteArray), 0, false)) else ((impl_readHand.f k x0).bind fun bt375 => (if bt375.2.2.2.2.2.2.2.2.2.2.2.2.2.1 = 0 then (some (bt375.1, bt375.2.1, bt375.2.2.1, bt375.2.2.2.1, bt375.2.2.2.2.1, bt375.2.2.2.2.2.1, bt375.2.2.2.2.2.2.1, bt375.2.2.2.2.2.2.2.1, bt375.2.2.2.2.2.2.2.2.1, bt375.2.2.2.2.2.2.2.2.2.1, bt375.2.2.2.2.2.2.2.2.2.2.1, bt375.2.2.2.2.2.2.2.2.2.2.2.1, bt375.2.2.2.2.2.2.2.2.2.2.2.2.1, true)) else (some (0, 0, 0, 0, 0, false, 0, 0, 0, 0, false, (⟨#[]⟩ : ByteArray), 0, false))))
def impl_ParseHand.f (k : Nat) (a0 : ByteArray) : Option (Int × Int × Int × Int × Int × Bool × Int × Int × Int × Int × Bool × ByteArray × Int × Bool) := if (a0.size : Int) > 200 then (impl_ParseHand.j0 k a0 true) else ((strings_Contains.f a0 (⟨#[43]⟩ : ByteArray)).bind fun t374 => (impl_ParseHand.j0 k a0 t374))
theorem impl_ParseHand.mono_l : ∀ k, (∀ y0 y1, LeO (impl_ParseHand.j0 k y0 y1) (impl_ParseHand.j0 (k + 1) y0 y1))
  | 0 => fun _ _ r h => by simp [impl_ParseHand.j0] at h
  | k + 1 => by
    have ih0 := impl_ParseHand.mono_l k
    · intro y0 y1
      unfold impl_ParseHand.j0
      repeat' first
      | (with_reducible exact ih0 _ _)
      | (with_reducible exact impl_readHand.mono _ _)
      | (with_reducible exact LeO.refl _)
      | (with_reducible exact LeO.none _)
      | (with_reducible refine LeO.ite ?_ ?_)
      | (with_reducible refine LeO.bind ?_ (fun _ => ?_))
      | exact ih0 _ _
      | exact impl_readHand.mono _ _
      | exact LeO.none _
      | refine LeO.ite ?_ ?_
      | refine LeO.bind ?_ (fun _ => ?_)
theorem impl_ParseHand.mono : ∀ a0 k, LeO (impl_ParseHand.f k a0) (impl_ParseHand.f (k + 1) a0) := by
  intro a0 k
  have ih0 := impl_ParseHand.mono_l k
  unfold impl_ParseHand.f
  repeat' first
      | (with_reducible exact ih0 _ _)
      | (with_reducible exact impl_readHand.mono _ _)
      | (with_reducible exact LeO.refl _)
      | (with_reducible exact LeO.none _)
      | (with_reducible refine LeO.ite ?_ ?_)
      | (with_reducible refine LeO.bind ?_ (fun _ => ?_))
      | exact ih0 _ _
      | exact impl_readHand.mono _ _
      | exact LeO.none _
      | refine LeO.ite ?_ ?_
      | refine LeO.bind ?_ (fun _ => ?_)
noncomputable def impl_ParseHand.J0 (x0 : ByteArray) (x13 : Bool) : Option (Int × Int × Int × Int × Int × Bool × Int × Int × Int × Int × Bool × ByteArray × Int × Bool) := lim fun k => impl_ParseHand.j0 k x0 x13
theorem impl_ParseHand.J0_lim (x0 : ByteArray) (x13 : Bool) : Lim (fun k => impl_ParseHand.j0 k x0 x13) (impl_ParseHand.J0 x0 x13) := ⟨fun k => (impl_ParseHand.mono_l k) x0 x13, rfl⟩
noncomputable def impl_ParseHand.F (a0 : ByteArray) : Option (Int × Int × Int × Int × Int × Bool × Int × Int × Int × Int × Bool × ByteArray × Int × Bool) := lim fun k => impl_ParseHand.f k a0
theorem impl_ParseHand.F_lim (a0 : ByteArray) : Lim (fun k => impl_ParseHand.f k a0) (impl_ParseHand.F a0) := ⟨impl_ParseHand.mono a0, rfl⟩
theorem impl_ParseHand.J0_eq (x0 : ByteArray) (x13 : Bool) : impl_ParseHand.J0 x0 x13 = (if x13 = true then (some (0, 0, 0, 0, 0, false, 0, 0, 0, 0, false, (⟨#[]⟩ : ByteArray), 0, false)) else ((impl_readHand.F x0).bind fun bt375 => (if bt375.2.2.2.2.2.2.2.2.2.2.2.2.2.1 = 0 then (some (bt375.1, bt375.2.1, bt375.2.2.1, bt375.2.2.2.1, bt375.2.2.2.2.1, bt375.2.2.2.2.2.1, bt375.2.2.2.2.2.2.1, bt375.2.2.2.2.2.2.2.1, bt375.2.2.2.2.2.2.2.2.1, bt375.2.2.2.2.2.2.2.2.2.1, bt375.2.2.2.2.2.2.2.2.2.2.1, bt375.2.2.2.2.2.2.2.2.2.2.2.1, bt375.2.2.2.2.2.2.2.2.2.2.2.2.1, true)) else (some (0, 0, 0, 0, 0, false, 0, 0, 0, 0, false, (⟨#[]⟩ : ByteArray), 0, false))))) := by
  refine Lim.succ_eq (impl_ParseHand.J0_lim x0 x13).mon ?_
  simp only [impl_ParseHand.j0]
  repeat' first
  | (with_reducible exact impl_ParseHand.J0_lim _ _)
  | (with_reducible exact impl_readHand.F_lim _)
  | (with_reducible refine Lim.ite ?_ ?_)
  | (with_reducible refine Lim.bind ?_ (fun _ => ?_))
  | (with_reducible exact Lim.const _)
theorem impl_ParseHand.F_eq (a0 : ByteArray) : impl_ParseHand.F a0 = (if (a0.size : Int) > 200 then (impl_ParseHand.J0 a0 true) else ((strings_Contains.f a0 (⟨#[43]⟩ : ByteArray)).bind fun t374 => (impl_ParseHand.J0 a0 t374))) := by
  refine Lim.eq_ ?_
  simp only [impl_ParseHand.f]
  repeat' first
  | (with_reducible exact impl_ParseHand.J0_lim _ _)
  | (with_reducible exact impl_readHand.F_lim _)
  | (with_reducible refine Lim.ite ?_ ?_)
  | (with_reducible refine Lim.bind ?_ (fun _ => ?_))
  | (with_reducible exact Lim.const _)
def laws_eqShape.f (a0_0 : Int) (a0_1 : Int) (a0_2 : Int) (a0_3 : Int) (a0_4 : Int) (a0_5 : Bool) (a1_0 : Int) (a1_1 : Int) (a1_2 : Int) (a1_3 : Int) (a1_4 : Int) (a1_5 : Bool) : Option (Bool) := if a0_0 = a1_0 then (if a0_1 = a1_1 then (if a0_2 = a1_2 then (if a0_3 = a1_3 then (if a0_4 = a1_4 then (if (a0_5 != a1_5) = true then (some false) else (some true)) else (some false)) else (some false)) else (some false)) else (some false)) else (some false)
def laws_eqOrient.f (a0_0 : Int) (a0_1 : Int) (a1_0 : Int) (a1_1 : Int) : Option (Bool) := if a0_0 = a1_0 then (if a0_1 = a1_1 then (some true) else (some false)) else (some false)
def laws_eqPlace.f (a0_0 : Int) (a0_1 : Int) (a0_2 : Bool) (a1_0 : Int) (a1_1 : Int) (a1_2 : Bool) : Option (Bool) := if a0_0 = a1_0 then (if a0_1 = a1_1 then (if (a0_2 != a1_2) = true then (some false) else (some true)) else (some false)) else (some false)
def laws_eqMove.f (a0_0 : ByteArray) (a0_1 : Int) (a1_0 : ByteArray) (a1_1 : Int) : Option (Bool) := if a0_0.toList = a1_0.toList then (if a0_1 = a1_1 then (some true) else (some false)) else (some false)
def laws_eqHand.f (a0_0 : Int) (a0_1 : Int) (a0_2 : Int) (a0_3 : Int) (a0_4 : Int) (a0_5 : Bool) (a0_6 : Int) (a0_7 : Int) (a0_8 : Int) (a0_9 : Int) (a0_10 : Bool) (a0_11 : ByteArray) (a0_12 : Int) (a1_0 : Int) (a1_1 : Int) (a1_2 : Int) (a1_3 : Int) (a1_4 : Int) (a1_5 : Bool) (a1_6 : Int) (a1_7 : Int) (a1_8 : Int) (a1_9 : Int) (a1_10 : Bool) (a1_11 : ByteArray) (a1_12 : Int) : Option (Bool) := (laws_eqShape.f a0_0 a0_1 a0_2 a0_3 a0_4 a0_5 a1_0 a1_1 a1_2 a1_3 a1_4 a1_5).bind fun t401 => (if t401 = true then ((laws_eqOrient.f a0_6 a0_7 a1_6 a1_7).bind fun t402 => (if t402 = true then ((laws_eqPlace.f a0_8 a0_9 a0_10 a1_8 a1_9 a1_10).bind fun t403 => (if t403 = true then ((laws_eqMove.f a0_11 a0_12 a1_11 a1_12).bind fun t404 => (if t404 = true then (some true) else (some false))) else (some false))) else (some false))) else (some false))
def laws_FnExactParseHand.f (k : Nat) (a0 : ByteArray) : Option (Bool) := if (a0.size : Int) > 1048576 then (some true) else ((spec_ParseHand.f k a0).bind fun bt405 => ((impl_ParseHand.f k a0).bind fun bt420 => ((laws_eqHand.f bt420.1 bt420.2.1 bt420.2.2.1 bt420.2.2.2.1 bt420.2.2.2.2.1 bt420.2.2.2.2.2.1 bt420.2.2.2.2.2.2.1 bt420.2.2.2.2.2.2.2.1 bt420.2.2.2.2.2.2.2.2.1 bt420.2.2.2.2.2.2.2.2.2.1 bt420.2.2.2.2.2.2.2.2.2.2.1 bt420.2.2.2.2.2.2.2.2.2.2.2.1 bt420.2.2.2.2.2.2.2.2.2.2.2.2.1 bt405.1 bt405.2.1 bt405.2.2.1 bt405.2.2.2.1 bt405.2.2.2.2.1 bt405.2.2.2.2.2.1 bt405.2.2.2.2.2.2.1 bt405.2.2.2.2.2.2.2.1 bt405.2.2.2.2.2.2.2.2.1 bt405.2.2.2.2.2.2.2.2.2.1 bt405.2.2.2.2.2.2.2.2.2.2.1 bt405.2.2.2.2.2.2.2.2.2.2.2.1 bt405.2.2.2.2.2.2.2.2.2.2.2.2.1).bind fun t435 => (if t435 = true then (if (bt420.2.2.2.2.2.2.2.2.2.2.2.2.2 != bt405.2.2.2.2.2.2.2.2.2.2.2.2.2) = true then (some false) else (some true)) else (some false)))))
theorem laws_FnExactParseHand.mono : ∀ a0 k, LeO (laws_FnExactParseHand.f k a0) (laws_FnExactParseHand.f (k + 1) a0) := by
  intro a0 k
  unfold laws_FnExactParseHand.f
  repeat' first
      | (with_reducible exact impl_ParseHand.mono _ _)
      | (with_reducible exact spec_ParseHand.mono _ _)
      | (with_reducible exact LeO.refl _)
      | (with_reducible exact LeO.none _)
      | (with_reducible refine LeO.ite ?_ ?_)
      | (with_reducible refine LeO.bind ?_ (fun _ => ?_))
      | exact impl_ParseHand.mono _ _
      | exact spec_ParseHand.mono _ _
      | exact LeO.none _
      | refine LeO.ite ?_ ?_
      | refine LeO.bind ?_ (fun _ => ?_)
noncomputable def laws_FnExactParseHand.F (a0 : ByteArray) : Option (Bool) := lim fun k => laws_FnExactParseHand.f k a0
theorem laws_FnExactParseHand.F_lim (a0 : ByteArray) : Lim (fun k => laws_FnExactParseHand.f k a0) (laws_FnExactParseHand.F a0) := ⟨laws_FnExactParseHand.mono a0, rfl⟩
theorem laws_FnExactParseHand.F_eq (a0 : ByteArray) : laws_FnExactParseHand.F a0 = (if (a0.size : Int) > 1048576 then (some true) else ((spec_ParseHand.F a0).bind fun bt405 => ((impl_ParseHand.F a0).bind fun bt420 => ((laws_eqHand.f bt420.1 bt420.2.1 bt420.2.2.1 bt420.2.2.2.1 bt420.2.2.2.2.1 bt420.2.2.2.2.2.1 bt420.2.2.2.2.2.2.1 bt420.2.2.2.2.2.2.2.1 bt420.2.2.2.2.2.2.2.2.1 bt420.2.2.2.2.2.2.2.2.2.1 bt420.2.2.2.2.2.2.2.2.2.2.1 bt420.2.2.2.2.2.2.2.2.2.2.2.1 bt420.2.2.2.2.2.2.2.2.2.2.2.2.1 bt405.1 bt405.2.1 bt405.2.2.1 bt405.2.2.2.1 bt405.2.2.2.2.1 bt405.2.2.2.2.2.1 bt405.2.2.2.2.2.2.1 bt405.2.2.2.2.2.2.2.1 bt405.2.2.2.2.2.2.2.2.1 bt405.2.2.2.2.2.2.2.2.2.1 bt405.2.2.2.2.2.2.2.2.2.2.1 bt405.2.2.2.2.2.2.2.2.2.2.2.1 bt405.2.2.2.2.2.2.2.2.2.2.2.2.1).bind fun t435 => (if t435 = true then (if (bt420.2.2.2.2.2.2.2.2.2.2.2.2.2 != bt405.2.2.2.2.2.2.2.2.2.2.2.2.2) = true then (some false) else (some true)) else (some false)))))) := by
  refine Lim.eq_ ?_
  simp only [laws_FnExactParseHand.f]
  repeat' first
  | (with_reducible exact impl_ParseHand.F_lim _)
  | (with_reducible exact spec_ParseHand.F_lim _)
  | (with_reducible refine Lim.ite ?_ ?_)
  | (with_reducible refine Lim.bind ?_ (fun _ => ?_))
  | (with_reducible exact Lim.const _)
def laws_FnExactParseHand.Pure : Prop := ∀ (a0 : ByteArray), (a0.size ≤ 9223372036854775807) → ∃ k, laws_FnExactParseHand.f k a0 = some true
end Go.Proofs.YtcapebhnioblbaaGreatDoor.PFnExactParseHand
