/- Written by a program of this claim's author, out of the loaded program as Lean prints it: the functions as Lean functions, and that the calls answer so. -/
import Derived.Test.YtmlpogmedglncaaPFnPlacesx0
namespace Go.Proofs.Ytmlpogmedglncaa.PFnPlaces
open Go.RowKit Go.Proofs.YtmlpogmedglncaaW.PrintWords Go.Proofs.YtmlpogmedglncaaW.PrintLast Go.Proofs.YtmlpogmedglncaaW.PrintMore
attribute [local go_sem] max2_int min2_int max_two min_two max_three min_three max_four min_four   -- for this text's walks alone
set_option linter.unusedVariables false
set_option linter.unusedSimpArgs false

def spec_l1Cur_next.f (s0_0 : List Int) (s0_1 : Int) (s0_2 : Int) : Option (Int × Int × Int) := if s0_1 < (s0_0.length : Int) then (if 0 ≤ s0_1 then (if (wrap64 (s0_1 + 1)) ≤ (s0_0.length : Int) then (some (wrap64 (rd s0_0 s0_1), wrap64 (s0_1 + 1), IntKind.u64.wrap ((IntKind.u64.wrap ((IntKind.u64.wrap (s0_2 * 6364136223846793005)) + (IntKind.u64.wrap (wrap64 (rd s0_0 s0_1))))) + 1442695040888963407))) else (some (wrap64 (Go.bits .and .u64 ((IntKind.u64.wrap ((IntKind.u64.wrap ((IntKind.u64.wrap (s0_2 * 6364136223846793005)) + (IntKind.u64.wrap (wrap64 (rd s0_0 s0_1))))) + 1442695040888963407)) / 1099511627776) 255), wrap64 (s0_1 + 1), IntKind.u64.wrap ((IntKind.u64.wrap ((IntKind.u64.wrap (s0_2 * 6364136223846793005)) + (IntKind.u64.wrap (wrap64 (rd s0_0 s0_1))))) + 1442695040888963407)))) else (none)) else (if (wrap64 (s0_1 + 1)) ≤ (s0_0.length : Int) then (some (0, wrap64 (s0_1 + 1), IntKind.u64.wrap ((IntKind.u64.wrap ((IntKind.u64.wrap (s0_2 * 6364136223846793005)))) + 1442695040888963407))) else (some (wrap64 (Go.bits .and .u64 ((IntKind.u64.wrap ((IntKind.u64.wrap ((IntKind.u64.wrap (s0_2 * 6364136223846793005)))) + 1442695040888963407)) / 1099511627776) 255), wrap64 (s0_1 + 1), IntKind.u64.wrap ((IntKind.u64.wrap ((IntKind.u64.wrap (s0_2 * 6364136223846793005)))) + 1442695040888963407))))
def spec_l1Cur_pick.f (s0_0 : List Int) (s0_1 : Int) (s0_2 : Int) (a1 : Int) : Option (Int × Int × Int) := if a1 ≤ 1 then (some (0, s0_1, s0_2)) else ((spec_l1Cur_next.f s0_0 s0_1 s0_2).bind fun bt102 => (if a1 > 200 then ((spec_l1Cur_next.f s0_0 bt102.2.1 bt102.2.2).bind fun bt105 => (if a1 = 0 then (none) else (some (Int.tmod (wrap64 ((wrap64 (bt102.1 * 256)) + bt105.1)) a1, bt105.2.1, bt105.2.2)))) else (if a1 = 0 then (none) else (some (Int.tmod bt102.1 a1, bt102.2.1, bt102.2.2)))))
def spec_l1Cur_among.f (s0_0 : List Int) (s0_1 : Int) (s0_2 : Int) (l1 : List Int) : Option (Int × Int × Int) := (spec_l1Cur_pick.f s0_0 s0_1 s0_2 (l1.length : Int)).bind fun bt108 => (if 0 ≤ bt108.1 then (if bt108.1 < (l1.length : Int) then (some (rd l1 bt108.1, bt108.2.1, bt108.2.2)) else (none)) else (none))
def spec_l1In.f (a0 : Int) (a1 : Int) (a2 : Int) : Option (Bool) := if a0 ≥ a1 then (some (decide (a0 ≤ a2))) else (some false)
def spec_plGood.f (a0_0 : Int) (a0_1 : Int) (a0_2 : Bool) : Option (Bool) := (spec_l1In.f a0_0 0 9).bind fun t113 => (if t113 = true then ((spec_l1In.f a0_1 (-1) 1).bind fun t114 => (if t114 = true then (if a0_0 > 0 then (some true) else (some (!a0_2))) else (some false))) else (some false))
mutual
def spec_plAll.l0 : Nat → List (S24) → Int → Option ((List (S24)))
  | 0, _, _ => none
  | k + 1, x1, x2 => if x2 < 10 then (spec_plAll.l1 k x1 x2 (-1)) else (some x1)
def spec_plAll.l1 : Nat → List (S24) → Int → Int → Option ((List (S24)))
  | 0, _, _, _ => none
  | k + 1, x1, x2, x3 => if x3 ≤ 1 then ((some (([false, true] : List Bool) : List Bool)).bind fun y115 => (spec_plAll.l2 k x1 x2 x3 y115 (y115.length : Int) 0)) else (spec_plAll.l0 k x1 (wrap64 (x2 + 1)))
def spec_plAll.l2 : Nat → List (S24) → Int → Int → List Bool → Int → Int → Option ((List (S24)))
  | 0, _, _, _, _, _, _ => none
  | k + 1, x1, x2, x3, x15, x16, x17 => if x17 < x16 then (if 0 ≤ x17 then (if x17 < (x15.length : Int) then ((spec_plGood.f x2 x3 (rdOf false x15 x17)).bind fun t120 => (if t120 = true then (if x1.length < 5864062014805 then (spec_plAll.l2 k (x1 ++ [(⟨x2, x3, rdOf false x15 x17⟩ : S24)]) x2 x3 x15 x16 (wrap64 (x17 + 1))) else (none)) else (spec_plAll.l2 k x1 x2 x3 x15 x16 (wrap64 (x17 + 1))))) else (none)) else (none)) else (spec_plAll.l1 k x1 x2 (wrap64 (x3 + 1)))
end
def spec_plAll.f (k : Nat)  : Option ((List (S24))) := spec_plAll.l0 k ([] : List (S24)) 0
theorem spec_plAll.mono_l : ∀ k, (∀ y0 y1, LeO (spec_plAll.l0 k y0 y1) (spec_plAll.l0 (k + 1) y0 y1)) ∧ (∀ y0 y1 y2, LeO (spec_plAll.l1 k y0 y1 y2) (spec_plAll.l1 (k + 1) y0 y1 y2)) ∧ (∀ y0 y1 y2 y3 y4 y5, LeO (spec_plAll.l2 k y0 y1 y2 y3 y4 y5) (spec_plAll.l2 (k + 1) y0 y1 y2 y3 y4 y5))
  | 0 => ⟨fun _ _ r h => by simp [spec_plAll.l0] at h, fun _ _ _ r h => by simp [spec_plAll.l1] at h, fun _ _ _ _ _ _ r h => by simp [spec_plAll.l2] at h⟩
  | k + 1 => by
    obtain ⟨ih0, ih1, ih2⟩ := spec_plAll.mono_l k
    refine ⟨?_, ?_, ?_⟩
    · intro y0 y1
      unfold spec_plAll.l0
      repeat' first
      | (with_reducible exact ih0 _ _)
      | (with_reducible exact ih1 _ _ _)
      | (with_reducible exact ih2 _ _ _ _ _ _)
      | (with_reducible exact LeO.refl _)
      | (with_reducible exact LeO.none _)
      | (with_reducible refine LeO.ite ?_ ?_)
      | (with_reducible refine LeO.bind ?_ (fun _ => ?_))
      | exact ih0 _ _
      | exact ih1 _ _ _
      | exact ih2 _ _ _ _ _ _
      | exact LeO.none _
      | refine LeO.ite ?_ ?_
      | refine LeO.bind ?_ (fun _ => ?_)
    · intro y0 y1 y2
      unfold spec_plAll.l1
      repeat' first
      | (with_reducible exact ih0 _ _)
      | (with_reducible exact ih1 _ _ _)
      | (with_reducible exact ih2 _ _ _ _ _ _)
      | (with_reducible exact LeO.refl _)
      | (with_reducible exact LeO.none _)
      | (with_reducible refine LeO.ite ?_ ?_)
      | (with_reducible refine LeO.bind ?_ (fun _ => ?_))
      | exact ih0 _ _
      | exact ih1 _ _ _
      | exact ih2 _ _ _ _ _ _
      | exact LeO.none _
      | refine LeO.ite ?_ ?_
      | refine LeO.bind ?_ (fun _ => ?_)
    · intro y0 y1 y2 y3 y4 y5
      unfold spec_plAll.l2
      repeat' first
      | (with_reducible exact ih0 _ _)
      | (with_reducible exact ih1 _ _ _)
      | (with_reducible exact ih2 _ _ _ _ _ _)
      | (with_reducible exact LeO.refl _)
      | (with_reducible exact LeO.none _)
      | (with_reducible refine LeO.ite ?_ ?_)
      | (with_reducible refine LeO.bind ?_ (fun _ => ?_))
      | exact ih0 _ _
      | exact ih1 _ _ _
      | exact ih2 _ _ _ _ _ _
      | exact LeO.none _
      | refine LeO.ite ?_ ?_
      | refine LeO.bind ?_ (fun _ => ?_)
theorem spec_plAll.mono : ∀ k, LeO (spec_plAll.f k ) (spec_plAll.f (k + 1) ) := by
  intro  k
  obtain ⟨ih0, ih1, ih2⟩ := spec_plAll.mono_l k
  unfold spec_plAll.f
  repeat' first
      | (with_reducible exact ih0 _ _)
      | (with_reducible exact ih1 _ _ _)
      | (with_reducible exact ih2 _ _ _ _ _ _)
      | (with_reducible exact LeO.refl _)
      | (with_reducible exact LeO.none _)
      | (with_reducible refine LeO.ite ?_ ?_)
      | (with_reducible refine LeO.bind ?_ (fun _ => ?_))
      | exact ih0 _ _
      | exact ih1 _ _ _
      | exact ih2 _ _ _ _ _ _
      | exact LeO.none _
      | refine LeO.ite ?_ ?_
      | refine LeO.bind ?_ (fun _ => ?_)
noncomputable def spec_plAll.L0 (x1 : List (S24)) (x2 : Int) : Option ((List (S24))) := lim fun k => spec_plAll.l0 k x1 x2
theorem spec_plAll.L0_lim (x1 : List (S24)) (x2 : Int) : Lim (fun k => spec_plAll.l0 k x1 x2) (spec_plAll.L0 x1 x2) := ⟨fun k => (spec_plAll.mono_l k).1 x1 x2, rfl⟩
noncomputable def spec_plAll.L1 (x1 : List (S24)) (x2 : Int) (x3 : Int) : Option ((List (S24))) := lim fun k => spec_plAll.l1 k x1 x2 x3
theorem spec_plAll.L1_lim (x1 : List (S24)) (x2 : Int) (x3 : Int) : Lim (fun k => spec_plAll.l1 k x1 x2 x3) (spec_plAll.L1 x1 x2 x3) := ⟨fun k => (spec_plAll.mono_l k).2.1 x1 x2 x3, rfl⟩
noncomputable def spec_plAll.L2 (x1 : List (S24)) (x2 : Int) (x3 : Int) (x15 : List Bool) (x16 : Int) (x17 : Int) : Option ((List (S24))) := lim fun k => spec_plAll.l2 k x1 x2 x3 x15 x16 x17
theorem spec_plAll.L2_lim (x1 : List (S24)) (x2 : Int) (x3 : Int) (x15 : List Bool) (x16 : Int) (x17 : Int) : Lim (fun k => spec_plAll.l2 k x1 x2 x3 x15 x16 x17) (spec_plAll.L2 x1 x2 x3 x15 x16 x17) := ⟨fun k => (spec_plAll.mono_l k).2.2 x1 x2 x3 x15 x16 x17, rfl⟩
noncomputable def spec_plAll.F  : Option ((List (S24))) := lim fun k => spec_plAll.f k 
theorem spec_plAll.F_lim  : Lim (fun k => spec_plAll.f k ) (spec_plAll.F ) := ⟨spec_plAll.mono , rfl⟩
theorem spec_plAll.L0_eq (x1 : List (S24)) (x2 : Int) : spec_plAll.L0 x1 x2 = (if x2 < 10 then (spec_plAll.L1 x1 x2 (-1)) else (some x1)) := by
  refine Lim.succ_eq (spec_plAll.L0_lim x1 x2).mon ?_
  simp only [spec_plAll.l0]
  repeat' first
  | (with_reducible exact spec_plAll.L0_lim _ _)
  | (with_reducible exact spec_plAll.L1_lim _ _ _)
  | (with_reducible exact spec_plAll.L2_lim _ _ _ _ _ _)
  | (with_reducible refine Lim.ite ?_ ?_)
  | (with_reducible refine Lim.bind ?_ (fun _ => ?_))
  | (with_reducible exact Lim.const _)
theorem spec_plAll.L1_eq (x1 : List (S24)) (x2 : Int) (x3 : Int) : spec_plAll.L1 x1 x2 x3 = (if x3 ≤ 1 then ((some (([false, true] : List Bool) : List Bool)).bind fun y115 => (spec_plAll.L2 x1 x2 x3 y115 (y115.length : Int) 0)) else (spec_plAll.L0 x1 (wrap64 (x2 + 1)))) := by
  refine Lim.succ_eq (spec_plAll.L1_lim x1 x2 x3).mon ?_
  simp only [spec_plAll.l1]
  repeat' first
  | (with_reducible exact spec_plAll.L0_lim _ _)
  | (with_reducible exact spec_plAll.L1_lim _ _ _)
  | (with_reducible exact spec_plAll.L2_lim _ _ _ _ _ _)
  | (with_reducible refine Lim.ite ?_ ?_)
  | (with_reducible refine Lim.bind ?_ (fun _ => ?_))
  | (with_reducible exact Lim.const _)
theorem spec_plAll.L2_eq (x1 : List (S24)) (x2 : Int) (x3 : Int) (x15 : List Bool) (x16 : Int) (x17 : Int) : spec_plAll.L2 x1 x2 x3 x15 x16 x17 = (if x17 < x16 then (if 0 ≤ x17 then (if x17 < (x15.length : Int) then ((spec_plGood.f x2 x3 (rdOf false x15 x17)).bind fun t120 => (if t120 = true then (if x1.length < 5864062014805 then (spec_plAll.L2 (x1 ++ [(⟨x2, x3, rdOf false x15 x17⟩ : S24)]) x2 x3 x15 x16 (wrap64 (x17 + 1))) else (none)) else (spec_plAll.L2 x1 x2 x3 x15 x16 (wrap64 (x17 + 1))))) else (none)) else (none)) else (spec_plAll.L1 x1 x2 (wrap64 (x3 + 1)))) := by
  refine Lim.succ_eq (spec_plAll.L2_lim x1 x2 x3 x15 x16 x17).mon ?_
  simp only [spec_plAll.l2]
  repeat' first
  | (with_reducible exact spec_plAll.L0_lim _ _)
  | (with_reducible exact spec_plAll.L1_lim _ _ _)
  | (with_reducible exact spec_plAll.L2_lim _ _ _ _ _ _)
  | (with_reducible refine Lim.ite ?_ ?_)
  | (with_reducible refine Lim.bind ?_ (fun _ => ?_))
  | (with_reducible exact Lim.const _)
theorem spec_plAll.F_eq  : spec_plAll.F  = (spec_plAll.L0 ([] : List (S24)) 0) := by
  refine Lim.eq_ ?_
  simp only [spec_plAll.f]
  repeat' first
  | (with_reducible exact spec_plAll.L0_lim _ _)
  | (with_reducible exact spec_plAll.L1_lim _ _ _)
  | (with_reducible exact spec_plAll.L2_lim _ _ _ _ _ _)
  | (with_reducible refine Lim.ite ?_ ?_)
  | (with_reducible refine Lim.bind ?_ (fun _ => ?_))
  | (with_reducible exact Lim.const _)
def spec_l1Cur_place.f (k : Nat) (s0_0 : List Int) (s0_1 : Int) (s0_2 : Int) : Option (Int × Int × Bool × Int × Int) := (spec_plAll.f k).bind fun t125 => ((spec_l1Cur_pick.f s0_0 s0_1 s0_2 (t125.length : Int)).bind fun bt128 => (if 0 ≤ bt128.1 then (if bt128.1 < (t125.length : Int) then (some ((rd_T24 t125 bt128.1).f0, (rd_T24 t125 bt128.1).f1, (rd_T24 t125 bt128.1).f2, bt128.2.1, bt128.2.2)) else (none)) else (none)))
theorem spec_l1Cur_place.mono : ∀ a0 a1 a2 k, LeO (spec_l1Cur_place.f k a0 a1 a2) (spec_l1Cur_place.f (k + 1) a0 a1 a2) := by
  intro a0 a1 a2 k
  unfold spec_l1Cur_place.f
  repeat' first
      | (with_reducible exact spec_plAll.mono _)
      | (with_reducible exact LeO.refl _)
      | (with_reducible exact LeO.none _)
      | (with_reducible refine LeO.ite ?_ ?_)
      | (with_reducible refine LeO.bind ?_ (fun _ => ?_))
      | exact spec_plAll.mono _
      | exact LeO.none _
      | refine LeO.ite ?_ ?_
      | refine LeO.bind ?_ (fun _ => ?_)
noncomputable def spec_l1Cur_place.F (s0_0 : List Int) (s0_1 : Int) (s0_2 : Int) : Option (Int × Int × Bool × Int × Int) := lim fun k => spec_l1Cur_place.f k s0_0 s0_1 s0_2
theorem spec_l1Cur_place.F_lim (s0_0 : List Int) (s0_1 : Int) (s0_2 : Int) : Lim (fun k => spec_l1Cur_place.f k s0_0 s0_1 s0_2) (spec_l1Cur_place.F s0_0 s0_1 s0_2) := ⟨spec_l1Cur_place.mono s0_0 s0_1 s0_2, rfl⟩
theorem spec_l1Cur_place.F_eq (s0_0 : List Int) (s0_1 : Int) (s0_2 : Int) : spec_l1Cur_place.F s0_0 s0_1 s0_2 = ((spec_plAll.F).bind fun t125 => ((spec_l1Cur_pick.f s0_0 s0_1 s0_2 (t125.length : Int)).bind fun bt128 => (if 0 ≤ bt128.1 then (if bt128.1 < (t125.length : Int) then (some ((rd_T24 t125 bt128.1).f0, (rd_T24 t125 bt128.1).f1, (rd_T24 t125 bt128.1).f2, bt128.2.1, bt128.2.2)) else (none)) else (none)))) := by
  refine Lim.eq_ ?_
  simp only [spec_l1Cur_place.f]
  repeat' first
  | (with_reducible exact spec_plAll.F_lim)
  | (with_reducible refine Lim.ite ?_ ?_)
  | (with_reducible refine Lim.bind ?_ (fun _ => ?_))
  | (with_reducible exact Lim.const _)
def spec_l1Cur_anyPlace.f (k : Nat) (s0_0 : List Int) (s0_1 : Int) (s0_2 : Int) : Option (Int × Int × Bool × Int × Int) := (spec_l1Cur_place.f k s0_0 s0_1 s0_2).bind fun bt133 => ((spec_l1Cur_pick.f s0_0 bt133.2.2.2.1 bt133.2.2.2.2 30).bind fun bt139 => (if bt139.1 = 0 then ((spec_l1Cur_among.f s0_0 bt139.2.1 bt139.2.2 (([(-1), 10, (-9223372036854775808)] : List Int))).bind fun bt145 => (some (bt145.1, bt133.2.1, bt133.2.2.1, bt145.2.1, bt145.2.2))) else (if bt139.1 = 1 then ((spec_l1Cur_among.f s0_0 bt139.2.1 bt139.2.2 (([(-2), 2, 9223372036854775807] : List Int))).bind fun bt151 => (some (bt133.1, bt151.1, bt133.2.2.1, bt151.2.1, bt151.2.2))) else (if bt139.1 = 2 then (some (0, 0, true, bt139.2.1, bt139.2.2)) else (some (bt133.1, bt133.2.1, bt133.2.2.1, bt139.2.1, bt139.2.2))))))
theorem spec_l1Cur_anyPlace.mono : ∀ a0 a1 a2 k, LeO (spec_l1Cur_anyPlace.f k a0 a1 a2) (spec_l1Cur_anyPlace.f (k + 1) a0 a1 a2) := by
  intro a0 a1 a2 k
  unfold spec_l1Cur_anyPlace.f
  repeat' first
      | (with_reducible exact spec_l1Cur_place.mono _ _ _ _)
      | (with_reducible exact LeO.refl _)
      | (with_reducible exact LeO.none _)
      | (with_reducible refine LeO.ite ?_ ?_)
      | (with_reducible refine LeO.bind ?_ (fun _ => ?_))
      | exact spec_l1Cur_place.mono _ _ _ _
      | exact LeO.none _
      | refine LeO.ite ?_ ?_
      | refine LeO.bind ?_ (fun _ => ?_)
noncomputable def spec_l1Cur_anyPlace.F (s0_0 : List Int) (s0_1 : Int) (s0_2 : Int) : Option (Int × Int × Bool × Int × Int) := lim fun k => spec_l1Cur_anyPlace.f k s0_0 s0_1 s0_2
theorem spec_l1Cur_anyPlace.F_lim (s0_0 : List Int) (s0_1 : Int) (s0_2 : Int) : Lim (fun k => spec_l1Cur_anyPlace.f k s0_0 s0_1 s0_2) (spec_l1Cur_anyPlace.F s0_0 s0_1 s0_2) := ⟨spec_l1Cur_anyPlace.mono s0_0 s0_1 s0_2, rfl⟩
theorem spec_l1Cur_anyPlace.F_eq (s0_0 : List Int) (s0_1 : Int) (s0_2 : Int) : spec_l1Cur_anyPlace.F s0_0 s0_1 s0_2 = ((spec_l1Cur_place.F s0_0 s0_1 s0_2).bind fun bt133 => ((spec_l1Cur_pick.f s0_0 bt133.2.2.2.1 bt133.2.2.2.2 30).bind fun bt139 => (if bt139.1 = 0 then ((spec_l1Cur_among.f s0_0 bt139.2.1 bt139.2.2 (([(-1), 10, (-9223372036854775808)] : List Int))).bind fun bt145 => (some (bt145.1, bt133.2.1, bt133.2.2.1, bt145.2.1, bt145.2.2))) else (if bt139.1 = 1 then ((spec_l1Cur_among.f s0_0 bt139.2.1 bt139.2.2 (([(-2), 2, 9223372036854775807] : List Int))).bind fun bt151 => (some (bt133.1, bt151.1, bt133.2.2.1, bt151.2.1, bt151.2.2))) else (if bt139.1 = 2 then (some (0, 0, true, bt139.2.1, bt139.2.2)) else (some (bt133.1, bt133.2.1, bt133.2.2.1, bt139.2.1, bt139.2.2))))))) := by
  refine Lim.eq_ ?_
  simp only [spec_l1Cur_anyPlace.f]
  repeat' first
  | (with_reducible exact spec_l1Cur_place.F_lim _ _ _)
  | (with_reducible refine Lim.ite ?_ ?_)
  | (with_reducible refine Lim.bind ?_ (fun _ => ?_))
  | (with_reducible exact Lim.const _)
def spec_DrawIsPlace.f (k : Nat) (l0 : List Int) : Option (Int × Int × Bool) := (spec_l1Cur_anyPlace.f k l0 0 0).bind fun bt156 => (some (bt156.1, bt156.2.1, bt156.2.2.1))
theorem spec_DrawIsPlace.mono : ∀ a0 k, LeO (spec_DrawIsPlace.f k a0) (spec_DrawIsPlace.f (k + 1) a0) := by
  intro a0 k
  unfold spec_DrawIsPlace.f
  repeat' first
      | (with_reducible exact spec_l1Cur_anyPlace.mono _ _ _ _)
      | (with_reducible exact LeO.refl _)
      | (with_reducible exact LeO.none _)
      | (with_reducible refine LeO.ite ?_ ?_)
      | (with_reducible refine LeO.bind ?_ (fun _ => ?_))
      | exact spec_l1Cur_anyPlace.mono _ _ _ _
      | exact LeO.none _
      | refine LeO.ite ?_ ?_
      | refine LeO.bind ?_ (fun _ => ?_)
noncomputable def spec_DrawIsPlace.F (l0 : List Int) : Option (Int × Int × Bool) := lim fun k => spec_DrawIsPlace.f k l0
theorem spec_DrawIsPlace.F_lim (l0 : List Int) : Lim (fun k => spec_DrawIsPlace.f k l0) (spec_DrawIsPlace.F l0) := ⟨spec_DrawIsPlace.mono l0, rfl⟩
theorem spec_DrawIsPlace.F_eq (l0 : List Int) : spec_DrawIsPlace.F l0 = ((spec_l1Cur_anyPlace.F l0 0 0).bind fun bt156 => (some (bt156.1, bt156.2.1, bt156.2.2.1))) := by
  refine Lim.eq_ ?_
  simp only [spec_DrawIsPlace.f]
  repeat' first
  | (with_reducible exact spec_l1Cur_anyPlace.F_lim _ _ _)
  | (with_reducible refine Lim.ite ?_ ?_)
  | (with_reducible refine Lim.bind ?_ (fun _ => ?_))
  | (with_reducible exact Lim.const _)
def impl_within.f (a0 : Int) (a1 : Int) (a2 : Int) : Option (Bool) := if a0 ≥ a1 then (some (decide (a0 ≤ a2))) else (some false)
def impl_IsPlace.f (a0_0 : Int) (a0_1 : Int) (a0_2 : Bool) : Option (Bool) := (impl_within.f a0_0 0 9).bind fun t162 => (if t162 = true then ((impl_within.f a0_1 (-1) 1).bind fun t163 => (if t163 = true then (if a0_2 = true then (some (!(a0_0 == 0))) else (some (!false))) else (some false))) else (some false))
def impl_Place_code.f (a0_0 : Int) (a0_1 : Int) (a0_2 : Bool) : Option (Int) := if a0_2 = true then (some (wrap64 ((wrap64 ((wrap64 (6 * a0_0)) + (wrap64 (2 * (wrap64 (a0_1 + 1)))))) + 1))) else (some (wrap64 ((wrap64 (6 * a0_0)) + (wrap64 (2 * (wrap64 (a0_1 + 1)))))))
def impl_PlaceCode.f (a0_0 : Int) (a0_1 : Int) (a0_2 : Bool) : Option (Int × Bool) := (impl_IsPlace.f a0_0 a0_1 a0_2).bind fun t166 => (if t166 = true then ((impl_Place_code.f a0_0 a0_1 a0_2).bind fun t167 => (some (t167, true))) else (some (0, false)))
def spec_plCode.f (a0_0 : Int) (a0_1 : Int) (a0_2 : Bool) : Option (Int) := if a0_2 = true then (some (wrap64 ((wrap64 ((wrap64 (6 * a0_0)) + (wrap64 (2 * (wrap64 (a0_1 + 1)))))) + 1))) else (some (wrap64 ((wrap64 (6 * a0_0)) + (wrap64 (2 * (wrap64 (a0_1 + 1)))))))
def spec_PlaceCode.f (a0_0 : Int) (a0_1 : Int) (a0_2 : Bool) : Option (Int × Bool) := (spec_plGood.f a0_0 a0_1 a0_2).bind fun t170 => (if t170 = true then ((spec_plCode.f a0_0 a0_1 a0_2).bind fun t171 => (some (t171, true))) else (some (0, false)))
def impl_MirrorPlace.f (a0_0 : Int) (a0_1 : Int) (a0_2 : Bool) : Option (Int × Int × Bool × Bool) := (impl_IsPlace.f a0_0 a0_1 a0_2).bind fun t174 => (if t174 = true then (some (a0_0, wrap64 (-a0_1), a0_2, true)) else (some (0, 0, false, false)))
def spec_plMirror.f (a0_0 : Int) (a0_1 : Int) (a0_2 : Bool) : Option (Int × Int × Bool) := some (a0_0, wrap64 (-a0_1), a0_2)
def spec_MirrorPlace.f (a0_0 : Int) (a0_1 : Int) (a0_2 : Bool) : Option (Int × Int × Bool × Bool) := (spec_plGood.f a0_0 a0_1 a0_2).bind fun t179 => (if t179 = true then ((spec_plMirror.f a0_0 a0_1 a0_2).bind fun bt180 => (some (bt180.1, bt180.2.1, bt180.2.2, true))) else (some (0, 0, false, false)))
def impl_Place_text.nm (n : Nat) : ByteArray := [(⟨#[115, 112, 97, 99, 101]⟩ : ByteArray), ⟨#[104, 101, 97, 100]⟩, ⟨#[101, 121, 101]⟩, ⟨#[99, 104, 101, 101, 107]⟩, ⟨#[109, 111, 117, 116, 104]⟩, ⟨#[99, 104, 105, 110]⟩, ⟨#[110, 101, 99, 107]⟩, ⟨#[99, 104, 101, 115, 116]⟩, ⟨#[119, 97, 105, 115, 116]⟩, ⟨#[104, 105, 112]⟩].getD n ⟨#[]⟩
def impl_Place_text.f (a0_0 : Int) (a0_1 : Int) (a0_2 : Bool) : Option (ByteArray) := if 0 ≤ a0_0 ∧ a0_0 ≤ 9 then (if a0_1 = -1 then some (if a0_2 = true then (impl_Place_text.nm a0_0.toNat ++ ⟨#[60]⟩) ++ ⟨#[42]⟩ else impl_Place_text.nm a0_0.toNat ++ ⟨#[60]⟩) else if a0_1 = 0 then some (if a0_2 = true then (impl_Place_text.nm a0_0.toNat ++ ⟨#[]⟩) ++ ⟨#[42]⟩ else impl_Place_text.nm a0_0.toNat ++ ⟨#[]⟩) else if a0_1 = 1 then some (if a0_2 = true then (impl_Place_text.nm a0_0.toNat ++ ⟨#[62]⟩) ++ ⟨#[42]⟩ else impl_Place_text.nm a0_0.toNat ++ ⟨#[62]⟩) else none) else none
def impl_PlaceText.f (a0_0 : Int) (a0_1 : Int) (a0_2 : Bool) : Option (ByteArray × Bool) := (impl_IsPlace.f a0_0 a0_1 a0_2).bind fun t184 => (if t184 = true then ((impl_Place_text.f a0_0 a0_1 a0_2).bind fun t185 => (some (t185, true))) else (some ((⟨#[]⟩ : ByteArray), false)))
def spec_plNames.f  : Option (List ByteArray) := some (([(⟨#[115, 112, 97, 99, 101]⟩ : ByteArray), (⟨#[104, 101, 97, 100]⟩ : ByteArray), (⟨#[101, 121, 101]⟩ : ByteArray), (⟨#[99, 104, 101, 101, 107]⟩ : ByteArray), (⟨#[109, 111, 117, 116, 104]⟩ : ByteArray), (⟨#[99, 104, 105, 110]⟩ : ByteArray), (⟨#[110, 101, 99, 107]⟩ : ByteArray), (⟨#[99, 104, 101, 115, 116]⟩ : ByteArray), (⟨#[119, 97, 105, 115, 116]⟩ : ByteArray), (⟨#[104, 105, 112]⟩ : ByteArray)] : List ByteArray))
def spec_plText.f (a0_0 : Int) (a0_1 : Int) (a0_2 : Bool) : Option (ByteArray) := (spec_plNames.f).bind fun t190 => (if 0 ≤ a0_0 then (if a0_0 < (t190.length : Int) then (if a0_1 = (-1) then (if (rdOf ByteArray.empty t190 a0_0).size + 1 ≤ 9223372036854775807 then (if a0_2 = true then (if ((rdOf ByteArray.empty t190 a0_0) ++ (⟨#[60]⟩ : ByteArray)).size + 1 ≤ 9223372036854775807 then (some (((rdOf ByteArray.empty t190 a0_0) ++ (⟨#[60]⟩ : ByteArray)) ++ (⟨#[42]⟩ : ByteArray))) else (none)) else (some ((rdOf ByteArray.empty t190 a0_0) ++ (⟨#[60]⟩ : ByteArray)))) else (none)) else (if a0_1 = 1 then (if (rdOf ByteArray.empty t190 a0_0).size + 1 ≤ 9223372036854775807 then (if a0_2 = true then (if ((rdOf ByteArray.empty t190 a0_0) ++ (⟨#[62]⟩ : ByteArray)).size + 1 ≤ 9223372036854775807 then (some (((rdOf ByteArray.empty t190 a0_0) ++ (⟨#[62]⟩ : ByteArray)) ++ (⟨#[42]⟩ : ByteArray))) else (none)) else (some ((rdOf ByteArray.empty t190 a0_0) ++ (⟨#[62]⟩ : ByteArray)))) else (none)) else (if a0_2 = true then (if (rdOf ByteArray.empty t190 a0_0).size + 1 ≤ 9223372036854775807 then (some ((rdOf ByteArray.empty t190 a0_0) ++ (⟨#[42]⟩ : ByteArray))) else (none)) else (some (rdOf ByteArray.empty t190 a0_0))))) else (none)) else (none))
def spec_PlaceText.f (a0_0 : Int) (a0_1 : Int) (a0_2 : Bool) : Option (ByteArray × Bool) := (spec_plGood.f a0_0 a0_1 a0_2).bind fun t195 => (if t195 = true then ((spec_plText.f a0_0 a0_1 a0_2).bind fun t196 => (some (t196, true))) else (some ((⟨#[]⟩ : ByteArray), false)))
def spec_DrawPlaceOfCode.f (l0 : List Int) : Option (Int) := (spec_l1Cur_pick.f l0 0 0 60).bind fun bt198 => ((spec_l1Cur_pick.f l0 bt198.2.1 bt198.2.2 60).bind fun bt201 => ((spec_l1Cur_pick.f l0 bt201.2.1 bt201.2.2 60).bind fun bt204 => ((spec_l1Cur_among.f l0 bt204.2.1 bt204.2.2 (([60, (-1), 3, 5] : List Int))).bind fun bt210 => ((spec_l1Cur_among.f l0 bt210.2.1 bt210.2.2 (([bt198.1, bt201.1, bt204.1, 0, 1, 59, bt210.1] : List Int))).bind fun bt216 => (some bt216.1)))))
def impl_PlaceOfCode.f (a0 : Int) : Option (Int × Int × Bool × Bool) := (impl_within.f a0 0 59).bind fun t220 => (if t220 = true then ((impl_IsPlace.f (wrap64 (Int.tdiv a0 6)) (wrap64 ((wrap64 (Int.tdiv (Int.tmod a0 6) 2)) - 1)) ((Int.tmod a0 2) == 1)).bind fun t222 => (if t222 = true then (some (wrap64 (Int.tdiv a0 6), wrap64 ((wrap64 (Int.tdiv (Int.tmod a0 6) 2)) - 1), ((Int.tmod a0 2) == 1), true)) else (some (0, 0, false, false)))) else (some (0, 0, false, false)))
def spec_PlaceOfCode.l0 : Nat → Int → List (S24) → Int → Int → Option (Int × Int × Bool × Bool)
  | 0, _, _, _, _ => none
  | k + 1, x0, x6, x7, x8 => if x8 < x7 then (if 0 ≤ x8 then (if x8 < (x6.length : Int) then ((spec_plCode.f ((rd_T24 x6 x8).f0) ((rd_T24 x6 x8).f1) ((rd_T24 x6 x8).f2)).bind fun t229 => (if t229 = x0 then (some ((rd_T24 x6 x8).f0, (rd_T24 x6 x8).f1, (rd_T24 x6 x8).f2, true)) else (spec_PlaceOfCode.l0 k x0 x6 x7 (wrap64 (x8 + 1))))) else (none)) else (none)) else (some (0, 0, false, false))
def spec_PlaceOfCode.f (k : Nat) (a0 : Int) : Option (Int × Int × Bool × Bool) := (spec_plAll.f k).bind fun t224 => (spec_PlaceOfCode.l0 k a0 t224 (t224.length : Int) 0)
theorem spec_PlaceOfCode.mono_l : ∀ k, (∀ y0 y1 y2 y3, LeO (spec_PlaceOfCode.l0 k y0 y1 y2 y3) (spec_PlaceOfCode.l0 (k + 1) y0 y1 y2 y3))
  | 0 => fun _ _ _ _ r h => by simp [spec_PlaceOfCode.l0] at h
  | k + 1 => by
    have ih0 := spec_PlaceOfCode.mono_l k
    · intro y0 y1 y2 y3
      unfold spec_PlaceOfCode.l0
      repeat' first
      | (with_reducible exact ih0 _ _ _ _)
      | (with_reducible exact spec_plAll.mono _)
      | (with_reducible exact LeO.refl _)
      | (with_reducible exact LeO.none _)
      | (with_reducible refine LeO.ite ?_ ?_)
      | (with_reducible refine LeO.bind ?_ (fun _ => ?_))
      | exact ih0 _ _ _ _
      | exact spec_plAll.mono _
      | exact LeO.none _
      | refine LeO.ite ?_ ?_
      | refine LeO.bind ?_ (fun _ => ?_)
theorem spec_PlaceOfCode.mono : ∀ a0 k, LeO (spec_PlaceOfCode.f k a0) (spec_PlaceOfCode.f (k + 1) a0) := by
  intro a0 k
  have ih0 := spec_PlaceOfCode.mono_l k
  unfold spec_PlaceOfCode.f
  repeat' first
      | (with_reducible exact ih0 _ _ _ _)
      | (with_reducible exact spec_plAll.mono _)
      | (with_reducible exact LeO.refl _)
      | (with_reducible exact LeO.none _)
      | (with_reducible refine LeO.ite ?_ ?_)
      | (with_reducible refine LeO.bind ?_ (fun _ => ?_))
      | exact ih0 _ _ _ _
      | exact spec_plAll.mono _
      | exact LeO.none _
      | refine LeO.ite ?_ ?_
      | refine LeO.bind ?_ (fun _ => ?_)
noncomputable def spec_PlaceOfCode.L0 (x0 : Int) (x6 : List (S24)) (x7 : Int) (x8 : Int) : Option (Int × Int × Bool × Bool) := lim fun k => spec_PlaceOfCode.l0 k x0 x6 x7 x8
theorem spec_PlaceOfCode.L0_lim (x0 : Int) (x6 : List (S24)) (x7 : Int) (x8 : Int) : Lim (fun k => spec_PlaceOfCode.l0 k x0 x6 x7 x8) (spec_PlaceOfCode.L0 x0 x6 x7 x8) := ⟨fun k => (spec_PlaceOfCode.mono_l k) x0 x6 x7 x8, rfl⟩
noncomputable def spec_PlaceOfCode.F (a0 : Int) : Option (Int × Int × Bool × Bool) := lim fun k => spec_PlaceOfCode.f k a0
theorem spec_PlaceOfCode.F_lim (a0 : Int) : Lim (fun k => spec_PlaceOfCode.f k a0) (spec_PlaceOfCode.F a0) := ⟨spec_PlaceOfCode.mono a0, rfl⟩
theorem spec_PlaceOfCode.L0_eq (x0 : Int) (x6 : List (S24)) (x7 : Int) (x8 : Int) : spec_PlaceOfCode.L0 x0 x6 x7 x8 = (if x8 < x7 then (if 0 ≤ x8 then (if x8 < (x6.length : Int) then ((spec_plCode.f ((rd_T24 x6 x8).f0) ((rd_T24 x6 x8).f1) ((rd_T24 x6 x8).f2)).bind fun t229 => (if t229 = x0 then (some ((rd_T24 x6 x8).f0, (rd_T24 x6 x8).f1, (rd_T24 x6 x8).f2, true)) else (spec_PlaceOfCode.L0 x0 x6 x7 (wrap64 (x8 + 1))))) else (none)) else (none)) else (some (0, 0, false, false))) := by
  refine Lim.succ_eq (spec_PlaceOfCode.L0_lim x0 x6 x7 x8).mon ?_
  simp only [spec_PlaceOfCode.l0]
  repeat' first
  | (with_reducible exact spec_PlaceOfCode.L0_lim _ _ _ _)
  | (with_reducible exact spec_plAll.F_lim)
  | (with_reducible refine Lim.ite ?_ ?_)
  | (with_reducible refine Lim.bind ?_ (fun _ => ?_))
  | (with_reducible exact Lim.const _)
theorem spec_PlaceOfCode.F_eq (a0 : Int) : spec_PlaceOfCode.F a0 = ((spec_plAll.F).bind fun t224 => (spec_PlaceOfCode.L0 a0 t224 (t224.length : Int) 0)) := by
  refine Lim.eq_ ?_
  simp only [spec_PlaceOfCode.f]
  repeat' first
  | (with_reducible exact spec_PlaceOfCode.L0_lim _ _ _ _)
  | (with_reducible exact spec_plAll.F_lim)
  | (with_reducible refine Lim.ite ?_ ?_)
  | (with_reducible refine Lim.bind ?_ (fun _ => ?_))
  | (with_reducible exact Lim.const _)
mutual
def spec_l1Cur_spoilt.l0 : Nat → ByteArray → ByteArray → Int → List Int → Int → Int → Option (ByteArray × Int × Int)
  | 0, _, _, _, _, _, _ => none
  | k + 1, x1, x2, x7, x1000, x1001, x1002 => if x7 > 0 then (spec_l1Cur_spoilt.j1 k x1 x2 x7 (decide ((x1.size : Int) > 0)) x1000 x1001 x1002) else (spec_l1Cur_spoilt.j1 k x1 x2 x7 false x1000 x1001 x1002)
def spec_l1Cur_spoilt.j1 : Nat → ByteArray → ByteArray → Int → Bool → List Int → Int → Int → Option (ByteArray × Int × Int)
  | 0, _, _, _, _, _, _, _ => none
  | k + 1, x1, x2, x7, x19, x1000, x1001, x1002 => if x19 = true then ((spec_l1Cur_pick.f x1000 x1001 x1002 (x1.size : Int)).bind fun bt233 => ((spec_l1Cur_pick.f x1000 bt233.2.1 bt233.2.2 (x2.size : Int)).bind fun bt236 => (if 0 ≤ bt236.1 then (if bt236.1 < (x2.size : Int) then ((some (([bt x2 bt236.1] : List Int) : List Int)).bind fun y239 => ((spec_l1Cur_pick.f x1000 bt236.2.1 bt236.2.2 3).bind fun bt242 => (if bt242.1 = 0 then (if 0 ≤ bt233.1 then (if bt233.1 ≤ (x1.size : Int) then (if (x1.extract 0 (bt233.1 : Int).toNat).size + (strOfNums y239).size ≤ 9223372036854775807 then (if ((x1.extract 0 (bt233.1 : Int).toNat) ++ (strOfNums y239)).size + (x1.extract (bt233.1 : Int).toNat x1.size).size ≤ 9223372036854775807 then (spec_l1Cur_spoilt.l0 k (((x1.extract 0 (bt233.1 : Int).toNat) ++ (strOfNums y239)) ++ (x1.extract (bt233.1 : Int).toNat x1.size)) x2 (wrap64 (x7 - 1)) x1000 bt242.2.1 bt242.2.2) else (none)) else (none)) else (none)) else (none)) else (if bt242.1 = 1 then (if 0 ≤ bt233.1 then (if bt233.1 ≤ (x1.size : Int) then (if (x1.extract 0 (bt233.1 : Int).toNat).size + (strOfNums y239).size ≤ 9223372036854775807 then (if 0 ≤ (wrap64 (bt233.1 + 1)) then (if (wrap64 (bt233.1 + 1)) ≤ (x1.size : Int) then (if ((x1.extract 0 (bt233.1 : Int).toNat) ++ (strOfNums y239)).size + (x1.extract ((wrap64 (bt233.1 + 1)) : Int).toNat x1.size).size ≤ 9223372036854775807 then (spec_l1Cur_spoilt.l0 k (((x1.extract 0 (bt233.1 : Int).toNat) ++ (strOfNums y239)) ++ (x1.extract ((wrap64 (bt233.1 + 1)) : Int).toNat x1.size)) x2 (wrap64 (x7 - 1)) x1000 bt242.2.1 bt242.2.2) else (none)) else (none)) else (none)) else (none)) else (none)) else (none)) else (if 0 ≤ bt233.1 then (if bt233.1 ≤ (x1.size : Int) then (if 0 ≤ (wrap64 (bt233.1 + 1)) then (if (wrap64 (bt233.1 + 1)) ≤ (x1.size : Int) then (if (x1.extract 0 (bt233.1 : Int).toNat).size + (x1.extract ((wrap64 (bt233.1 + 1)) : Int).toNat x1.size).size ≤ 9223372036854775807 then (spec_l1Cur_spoilt.l0 k ((x1.extract 0 (bt233.1 : Int).toNat) ++ (x1.extract ((wrap64 (bt233.1 + 1)) : Int).toNat x1.size)) x2 (wrap64 (x7 - 1)) x1000 bt242.2.1 bt242.2.2) else (none)) else (none)) else (none)) else (none)) else (none)))))) else (none)) else (none)))) else (some (x1, x1001, x1002))
end
def spec_l1Cur_spoilt.f (k : Nat) (s0_0 : List Int) (s0_1 : Int) (s0_2 : Int) (a1 : ByteArray) (a2 : ByteArray) : Option (ByteArray × Int × Int) := (spec_l1Cur_pick.f s0_0 s0_1 s0_2 2).bind fun bt230 => (spec_l1Cur_spoilt.l0 k a1 a2 (wrap64 (1 + bt230.1)) s0_0 bt230.2.1 bt230.2.2)
theorem spec_l1Cur_spoilt.mono_l : ∀ k, (∀ y0 y1 y2 y3 y4 y5, LeO (spec_l1Cur_spoilt.l0 k y0 y1 y2 y3 y4 y5) (spec_l1Cur_spoilt.l0 (k + 1) y0 y1 y2 y3 y4 y5)) ∧ (∀ y0 y1 y2 y3 y4 y5 y6, LeO (spec_l1Cur_spoilt.j1 k y0 y1 y2 y3 y4 y5 y6) (spec_l1Cur_spoilt.j1 (k + 1) y0 y1 y2 y3 y4 y5 y6))
  | 0 => ⟨fun _ _ _ _ _ _ r h => by simp [spec_l1Cur_spoilt.l0] at h, fun _ _ _ _ _ _ _ r h => by simp [spec_l1Cur_spoilt.j1] at h⟩
  | k + 1 => by
    obtain ⟨ih0, ih1⟩ := spec_l1Cur_spoilt.mono_l k
    refine ⟨?_, ?_⟩
    · intro y0 y1 y2 y3 y4 y5
      unfold spec_l1Cur_spoilt.l0
      repeat' first
      | (with_reducible exact ih0 _ _ _ _ _ _)
      | (with_reducible exact ih1 _ _ _ _ _ _ _)
      | (with_reducible exact LeO.refl _)
      | (with_reducible exact LeO.none _)
      | (with_reducible refine LeO.ite ?_ ?_)
      | (with_reducible refine LeO.bind ?_ (fun _ => ?_))
      | exact ih0 _ _ _ _ _ _
      | exact ih1 _ _ _ _ _ _ _
      | exact LeO.none _
      | refine LeO.ite ?_ ?_
      | refine LeO.bind ?_ (fun _ => ?_)
    · intro y0 y1 y2 y3 y4 y5 y6
      unfold spec_l1Cur_spoilt.j1
      repeat' first
      | (with_reducible exact ih0 _ _ _ _ _ _)
      | (with_reducible exact ih1 _ _ _ _ _ _ _)
      | (with_reducible exact LeO.refl _)
      | (with_reducible exact LeO.none _)
      | (with_reducible refine LeO.ite ?_ ?_)
      | (with_reducible refine LeO.bind ?_ (fun _ => ?_))
      | exact ih0 _ _ _ _ _ _
      | exact ih1 _ _ _ _ _ _ _
      | exact LeO.none _
      | refine LeO.ite ?_ ?_
      | refine LeO.bind ?_ (fun _ => ?_)
theorem spec_l1Cur_spoilt.mono : ∀ a0 a1 a2 a3 a4 k, LeO (spec_l1Cur_spoilt.f k a0 a1 a2 a3 a4) (spec_l1Cur_spoilt.f (k + 1) a0 a1 a2 a3 a4) := by
  intro a0 a1 a2 a3 a4 k
  obtain ⟨ih0, ih1⟩ := spec_l1Cur_spoilt.mono_l k
  unfold spec_l1Cur_spoilt.f
  repeat' first
      | (with_reducible exact ih0 _ _ _ _ _ _)
      | (with_reducible exact ih1 _ _ _ _ _ _ _)
      | (with_reducible exact LeO.refl _)
      | (with_reducible exact LeO.none _)
      | (with_reducible refine LeO.ite ?_ ?_)
      | (with_reducible refine LeO.bind ?_ (fun _ => ?_))
      | exact ih0 _ _ _ _ _ _
      | exact ih1 _ _ _ _ _ _ _
      | exact LeO.none _
      | refine LeO.ite ?_ ?_
      | refine LeO.bind ?_ (fun _ => ?_)
noncomputable def spec_l1Cur_spoilt.L0 (x1 : ByteArray) (x2 : ByteArray) (x7 : Int) (x1000 : List Int) (x1001 : Int) (x1002 : Int) : Option (ByteArray × Int × Int) := lim fun k => spec_l1Cur_spoilt.l0 k x1 x2 x7 x1000 x1001 x1002
theorem spec_l1Cur_spoilt.L0_lim (x1 : ByteArray) (x2 : ByteArray) (x7 : Int) (x1000 : List Int) (x1001 : Int) (x1002 : Int) : Lim (fun k => spec_l1Cur_spoilt.l0 k x1 x2 x7 x1000 x1001 x1002) (spec_l1Cur_spoilt.L0 x1 x2 x7 x1000 x1001 x1002) := ⟨fun k => (spec_l1Cur_spoilt.mono_l k).1 x1 x2 x7 x1000 x1001 x1002, rfl⟩
noncomputable def spec_l1Cur_spoilt.J1 (x1 : ByteArray) (x2 : ByteArray) (x7 : Int) (x19 : Bool) (x1000 : List Int) (x1001 : Int) (x1002 : Int) : Option (ByteArray × Int × Int) := lim fun k => spec_l1Cur_spoilt.j1 k x1 x2 x7 x19 x1000 x1001 x1002
theorem spec_l1Cur_spoilt.J1_lim (x1 : ByteArray) (x2 : ByteArray) (x7 : Int) (x19 : Bool) (x1000 : List Int) (x1001 : Int) (x1002 : Int) : Lim (fun k => spec_l1Cur_spoilt.j1 k x1 x2 x7 x19 x1000 x1001 x1002) (spec_l1Cur_spoilt.J1 x1 x2 x7 x19 x1000 x1001 x1002) := ⟨fun k => (spec_l1Cur_spoilt.mono_l k).2 x1 x2 x7 x19 x1000 x1001 x1002, rfl⟩
noncomputable def spec_l1Cur_spoilt.F (s0_0 : List Int) (s0_1 : Int) (s0_2 : Int) (a1 : ByteArray) (a2 : ByteArray) : Option (ByteArray × Int × Int) := lim fun k => spec_l1Cur_spoilt.f k s0_0 s0_1 s0_2 a1 a2
theorem spec_l1Cur_spoilt.F_lim (s0_0 : List Int) (s0_1 : Int) (s0_2 : Int) (a1 : ByteArray) (a2 : ByteArray) : Lim (fun k => spec_l1Cur_spoilt.f k s0_0 s0_1 s0_2 a1 a2) (spec_l1Cur_spoilt.F s0_0 s0_1 s0_2 a1 a2) := ⟨spec_l1Cur_spoilt.mono s0_0 s0_1 s0_2 a1 a2, rfl⟩
theorem spec_l1Cur_spoilt.L0_eq (x1 : ByteArray) (x2 : ByteArray) (x7 : Int) (x1000 : List Int) (x1001 : Int) (x1002 : Int) : spec_l1Cur_spoilt.L0 x1 x2 x7 x1000 x1001 x1002 = (if x7 > 0 then (spec_l1Cur_spoilt.J1 x1 x2 x7 (decide ((x1.size : Int) > 0)) x1000 x1001 x1002) else (spec_l1Cur_spoilt.J1 x1 x2 x7 false x1000 x1001 x1002)) := by
  refine Lim.succ_eq (spec_l1Cur_spoilt.L0_lim x1 x2 x7 x1000 x1001 x1002).mon ?_
  simp only [spec_l1Cur_spoilt.l0]
  repeat' first
  | (with_reducible exact spec_l1Cur_spoilt.L0_lim _ _ _ _ _ _)
  | (with_reducible exact spec_l1Cur_spoilt.J1_lim _ _ _ _ _ _ _)
  | (with_reducible refine Lim.ite ?_ ?_)
  | (with_reducible refine Lim.bind ?_ (fun _ => ?_))
  | (with_reducible exact Lim.const _)
theorem spec_l1Cur_spoilt.J1_eq (x1 : ByteArray) (x2 : ByteArray) (x7 : Int) (x19 : Bool) (x1000 : List Int) (x1001 : Int) (x1002 : Int) : spec_l1Cur_spoilt.J1 x1 x2 x7 x19 x1000 x1001 x1002 = (if x19 = true then ((spec_l1Cur_pick.f x1000 x1001 x1002 (x1.size : Int)).bind fun bt233 => ((spec_l1Cur_pick.f x1000 bt233.2.1 bt233.2.2 (x2.size : Int)).bind fun bt236 => (if 0 ≤ bt236.1 then (if bt236.1 < (x2.size : Int) then ((some (([bt x2 bt236.1] : List Int) : List Int)).bind fun y239 => ((spec_l1Cur_pick.f x1000 bt236.2.1 bt236.2.2 3).bind fun bt242 => (if bt242.1 = 0 then (if 0 ≤ bt233.1 then (if bt233.1 ≤ (x1.size : Int) then (if (x1.extract 0 (bt233.1 : Int).toNat).size + (strOfNums y239).size ≤ 9223372036854775807 then (if ((x1.extract 0 (bt233.1 : Int).toNat) ++ (strOfNums y239)).size + (x1.extract (bt233.1 : Int).toNat x1.size).size ≤ 9223372036854775807 then (spec_l1Cur_spoilt.L0 (((x1.extract 0 (bt233.1 : Int).toNat) ++ (strOfNums y239)) ++ (x1.extract (bt233.1 : Int).toNat x1.size)) x2 (wrap64 (x7 - 1)) x1000 bt242.2.1 bt242.2.2) else (none)) else (none)) else (none)) else (none)) else (if bt242.1 = 1 then (if 0 ≤ bt233.1 then (if bt233.1 ≤ (x1.size : Int) then (if (x1.extract 0 (bt233.1 : Int).toNat).size + (strOfNums y239).size ≤ 9223372036854775807 then (if 0 ≤ (wrap64 (bt233.1 + 1)) then (if (wrap64 (bt233.1 + 1)) ≤ (x1.size : Int) then (if ((x1.extract 0 (bt233.1 : Int).toNat) ++ (strOfNums y239)).size + (x1.extract ((wrap64 (bt233.1 + 1)) : Int).toNat x1.size).size ≤ 9223372036854775807 then (spec_l1Cur_spoilt.L0 (((x1.extract 0 (bt233.1 : Int).toNat) ++ (strOfNums y239)) ++ (x1.extract ((wrap64 (bt233.1 + 1)) : Int).toNat x1.size)) x2 (wrap64 (x7 - 1)) x1000 bt242.2.1 bt242.2.2) else (none)) else (none)) else (none)) else (none)) else (none)) else (none)) else (if 0 ≤ bt233.1 then (if bt233.1 ≤ (x1.size : Int) then (if 0 ≤ (wrap64 (bt233.1 + 1)) then (if (wrap64 (bt233.1 + 1)) ≤ (x1.size : Int) then (if (x1.extract 0 (bt233.1 : Int).toNat).size + (x1.extract ((wrap64 (bt233.1 + 1)) : Int).toNat x1.size).size ≤ 9223372036854775807 then (spec_l1Cur_spoilt.L0 ((x1.extract 0 (bt233.1 : Int).toNat) ++ (x1.extract ((wrap64 (bt233.1 + 1)) : Int).toNat x1.size)) x2 (wrap64 (x7 - 1)) x1000 bt242.2.1 bt242.2.2) else (none)) else (none)) else (none)) else (none)) else (none)))))) else (none)) else (none)))) else (some (x1, x1001, x1002))) := by
  refine Lim.succ_eq (spec_l1Cur_spoilt.J1_lim x1 x2 x7 x19 x1000 x1001 x1002).mon ?_
  simp only [spec_l1Cur_spoilt.j1]
  repeat' first
  | (with_reducible exact spec_l1Cur_spoilt.L0_lim _ _ _ _ _ _)
  | (with_reducible exact spec_l1Cur_spoilt.J1_lim _ _ _ _ _ _ _)
  | (with_reducible refine Lim.ite ?_ ?_)
  | (with_reducible refine Lim.bind ?_ (fun _ => ?_))
  | (with_reducible exact Lim.const _)
theorem spec_l1Cur_spoilt.F_eq (s0_0 : List Int) (s0_1 : Int) (s0_2 : Int) (a1 : ByteArray) (a2 : ByteArray) : spec_l1Cur_spoilt.F s0_0 s0_1 s0_2 a1 a2 = ((spec_l1Cur_pick.f s0_0 s0_1 s0_2 2).bind fun bt230 => (spec_l1Cur_spoilt.L0 a1 a2 (wrap64 (1 + bt230.1)) s0_0 bt230.2.1 bt230.2.2)) := by
  refine Lim.eq_ ?_
  simp only [spec_l1Cur_spoilt.f]
  repeat' first
  | (with_reducible exact spec_l1Cur_spoilt.L0_lim _ _ _ _ _ _)
  | (with_reducible exact spec_l1Cur_spoilt.J1_lim _ _ _ _ _ _ _)
  | (with_reducible refine Lim.ite ?_ ?_)
  | (with_reducible refine Lim.bind ?_ (fun _ => ?_))
  | (with_reducible exact Lim.const _)
def spec_l1Cur_of.f (s0_0 : List Int) (s0_1 : Int) (s0_2 : Int) (l1 : List ByteArray) : Option (ByteArray × Int × Int) := (spec_l1Cur_pick.f s0_0 s0_1 s0_2 (l1.length : Int)).bind fun bt245 => (if 0 ≤ bt245.1 then (if bt245.1 < (l1.length : Int) then (some (rdOf ByteArray.empty l1 bt245.1, bt245.2.1, bt245.2.2)) else (none)) else (none))
def spec_DrawParsePlace.f (k : Nat) (l0 : List Int) : Option (ByteArray) := (spec_l1Cur_place.f k l0 0 0).bind fun bt250 => ((spec_plText.f bt250.1 bt250.2.1 bt250.2.2.1).bind fun t255 => ((spec_l1Cur_pick.f l0 bt250.2.2.2.1 bt250.2.2.2.2 4).bind fun bt256 => (if bt256.1 = 0 then ((spec_l1Cur_spoilt.f k l0 bt256.2.1 bt256.2.2 t255 (⟨#[60, 62, 42, 97, 99, 101, 104, 105, 110]⟩ : ByteArray)).bind fun bt259 => (some bt259.1)) else (if bt256.1 = 1 then ((spec_l1Cur_of.f l0 bt256.2.1 bt256.2.2 (([(⟨#[]⟩ : ByteArray), (⟨#[115, 112, 97, 99, 101, 42]⟩ : ByteArray), (⟨#[99, 104, 105, 110, 42, 60]⟩ : ByteArray), (⟨#[104, 101, 97, 100, 60, 62]⟩ : ByteArray), (⟨#[104, 97, 110, 100]⟩ : ByteArray), (⟨#[60]⟩ : ByteArray), (⟨#[99, 104, 105, 110, 60, 60]⟩ : ByteArray)] : List ByteArray))).bind fun bt265 => (some bt265.1)) else (some t255)))))
theorem spec_DrawParsePlace.mono : ∀ a0 k, LeO (spec_DrawParsePlace.f k a0) (spec_DrawParsePlace.f (k + 1) a0) := by
  intro a0 k
  unfold spec_DrawParsePlace.f
  repeat' first
      | (with_reducible exact spec_l1Cur_place.mono _ _ _ _)
      | (with_reducible exact spec_l1Cur_spoilt.mono _ _ _ _ _ _)
      | (with_reducible exact LeO.refl _)
      | (with_reducible exact LeO.none _)
      | (with_reducible refine LeO.ite ?_ ?_)
      | (with_reducible refine LeO.bind ?_ (fun _ => ?_))
      | exact spec_l1Cur_place.mono _ _ _ _
      | exact spec_l1Cur_spoilt.mono _ _ _ _ _ _
      | exact LeO.none _
      | refine LeO.ite ?_ ?_
      | refine LeO.bind ?_ (fun _ => ?_)
noncomputable def spec_DrawParsePlace.F (l0 : List Int) : Option (ByteArray) := lim fun k => spec_DrawParsePlace.f k l0
theorem spec_DrawParsePlace.F_lim (l0 : List Int) : Lim (fun k => spec_DrawParsePlace.f k l0) (spec_DrawParsePlace.F l0) := ⟨spec_DrawParsePlace.mono l0, rfl⟩
theorem spec_DrawParsePlace.F_eq (l0 : List Int) : spec_DrawParsePlace.F l0 = ((spec_l1Cur_place.F l0 0 0).bind fun bt250 => ((spec_plText.f bt250.1 bt250.2.1 bt250.2.2.1).bind fun t255 => ((spec_l1Cur_pick.f l0 bt250.2.2.2.1 bt250.2.2.2.2 4).bind fun bt256 => (if bt256.1 = 0 then ((spec_l1Cur_spoilt.F l0 bt256.2.1 bt256.2.2 t255 (⟨#[60, 62, 42, 97, 99, 101, 104, 105, 110]⟩ : ByteArray)).bind fun bt259 => (some bt259.1)) else (if bt256.1 = 1 then ((spec_l1Cur_of.f l0 bt256.2.1 bt256.2.2 (([(⟨#[]⟩ : ByteArray), (⟨#[115, 112, 97, 99, 101, 42]⟩ : ByteArray), (⟨#[99, 104, 105, 110, 42, 60]⟩ : ByteArray), (⟨#[104, 101, 97, 100, 60, 62]⟩ : ByteArray), (⟨#[104, 97, 110, 100]⟩ : ByteArray), (⟨#[60]⟩ : ByteArray), (⟨#[99, 104, 105, 110, 60, 60]⟩ : ByteArray)] : List ByteArray))).bind fun bt265 => (some bt265.1)) else (some t255)))))) := by
  refine Lim.eq_ ?_
  simp only [spec_DrawParsePlace.f]
  repeat' first
  | (with_reducible exact spec_l1Cur_place.F_lim _ _ _)
  | (with_reducible exact spec_l1Cur_spoilt.F_lim _ _ _ _ _)
  | (with_reducible refine Lim.ite ?_ ?_)
  | (with_reducible refine Lim.bind ?_ (fun _ => ?_))
  | (with_reducible exact Lim.const _)
def impl_ParsePlace.l0 : Nat → ByteArray → Int → Option (Int × Int × Bool × Bool)
  | 0, _, _ => none
  | k + 1, x0, x7 => if x7 < 60 then ((impl_PlaceOfCode.f x7).bind fun bt269 => (if bt269.2.2.2 = true then ((impl_Place_text.f bt269.1 bt269.2.1 bt269.2.2.1).bind fun t274 => (if t274.toList = x0.toList then (some (bt269.1, bt269.2.1, bt269.2.2.1, true)) else (impl_ParsePlace.l0 k x0 (wrap64 (x7 + 1))))) else (impl_ParsePlace.l0 k x0 (wrap64 (x7 + 1))))) else (some (0, 0, false, false))
def impl_ParsePlace.f (k : Nat) (a0 : ByteArray) : Option (Int × Int × Bool × Bool) := impl_ParsePlace.l0 k a0 0
theorem impl_ParsePlace.mono_l : ∀ k, (∀ y0 y1, LeO (impl_ParsePlace.l0 k y0 y1) (impl_ParsePlace.l0 (k + 1) y0 y1))
  | 0 => fun _ _ r h => by simp [impl_ParsePlace.l0] at h
  | k + 1 => by
    have ih0 := impl_ParsePlace.mono_l k
    · intro y0 y1
      unfold impl_ParsePlace.l0
      repeat' first
      | (with_reducible exact ih0 _ _)
      | (with_reducible exact LeO.refl _)
      | (with_reducible exact LeO.none _)
      | (with_reducible refine LeO.ite ?_ ?_)
      | (with_reducible refine LeO.bind ?_ (fun _ => ?_))
      | exact ih0 _ _
      | exact LeO.none _
      | refine LeO.ite ?_ ?_
      | refine LeO.bind ?_ (fun _ => ?_)
theorem impl_ParsePlace.mono : ∀ a0 k, LeO (impl_ParsePlace.f k a0) (impl_ParsePlace.f (k + 1) a0) := by
  intro a0 k
  have ih0 := impl_ParsePlace.mono_l k
  unfold impl_ParsePlace.f
  repeat' first
      | (with_reducible exact ih0 _ _)
      | (with_reducible exact LeO.refl _)
      | (with_reducible exact LeO.none _)
      | (with_reducible refine LeO.ite ?_ ?_)
      | (with_reducible refine LeO.bind ?_ (fun _ => ?_))
      | exact ih0 _ _
      | exact LeO.none _
      | refine LeO.ite ?_ ?_
      | refine LeO.bind ?_ (fun _ => ?_)
noncomputable def impl_ParsePlace.L0 (x0 : ByteArray) (x7 : Int) : Option (Int × Int × Bool × Bool) := lim fun k => impl_ParsePlace.l0 k x0 x7
theorem impl_ParsePlace.L0_lim (x0 : ByteArray) (x7 : Int) : Lim (fun k => impl_ParsePlace.l0 k x0 x7) (impl_ParsePlace.L0 x0 x7) := ⟨fun k => (impl_ParsePlace.mono_l k) x0 x7, rfl⟩
noncomputable def impl_ParsePlace.F (a0 : ByteArray) : Option (Int × Int × Bool × Bool) := lim fun k => impl_ParsePlace.f k a0
theorem impl_ParsePlace.F_lim (a0 : ByteArray) : Lim (fun k => impl_ParsePlace.f k a0) (impl_ParsePlace.F a0) := ⟨impl_ParsePlace.mono a0, rfl⟩
theorem impl_ParsePlace.L0_eq (x0 : ByteArray) (x7 : Int) : impl_ParsePlace.L0 x0 x7 = (if x7 < 60 then ((impl_PlaceOfCode.f x7).bind fun bt269 => (if bt269.2.2.2 = true then ((impl_Place_text.f bt269.1 bt269.2.1 bt269.2.2.1).bind fun t274 => (if t274.toList = x0.toList then (some (bt269.1, bt269.2.1, bt269.2.2.1, true)) else (impl_ParsePlace.L0 x0 (wrap64 (x7 + 1))))) else (impl_ParsePlace.L0 x0 (wrap64 (x7 + 1))))) else (some (0, 0, false, false))) := by
  refine Lim.succ_eq (impl_ParsePlace.L0_lim x0 x7).mon ?_
  simp only [impl_ParsePlace.l0]
  repeat' first
  | (with_reducible exact impl_ParsePlace.L0_lim _ _)
  | (with_reducible refine Lim.ite ?_ ?_)
  | (with_reducible refine Lim.bind ?_ (fun _ => ?_))
  | (with_reducible exact Lim.const _)
theorem impl_ParsePlace.F_eq (a0 : ByteArray) : impl_ParsePlace.F a0 = (impl_ParsePlace.L0 a0 0) := by
  refine Lim.eq_ ?_
  simp only [impl_ParsePlace.f]
  repeat' first
  | (with_reducible exact impl_ParsePlace.L0_lim _ _)
  | (with_reducible refine Lim.ite ?_ ?_)
  | (with_reducible refine Lim.bind ?_ (fun _ => ?_))
  | (with_reducible exact Lim.const _)
def spec_plParse.l0 : Nat → ByteArray → List (S24) → Int → Int → Option (Int × Int × Bool × Bool)
  | 0, _, _, _, _ => none
  | k + 1, x0, x6, x7, x8 => if x8 < x7 then (if 0 ≤ x8 then (if x8 < (x6.length : Int) then ((spec_plText.f ((rd_T24 x6 x8).f0) ((rd_T24 x6 x8).f1) ((rd_T24 x6 x8).f2)).bind fun t281 => (if t281.toList = x0.toList then (some ((rd_T24 x6 x8).f0, (rd_T24 x6 x8).f1, (rd_T24 x6 x8).f2, true)) else (spec_plParse.l0 k x0 x6 x7 (wrap64 (x8 + 1))))) else (none)) else (none)) else (some (0, 0, false, false))
def spec_plParse.f (k : Nat) (a0 : ByteArray) : Option (Int × Int × Bool × Bool) := (spec_plAll.f k).bind fun t276 => (spec_plParse.l0 k a0 t276 (t276.length : Int) 0)
theorem spec_plParse.mono_l : ∀ k, (∀ y0 y1 y2 y3, LeO (spec_plParse.l0 k y0 y1 y2 y3) (spec_plParse.l0 (k + 1) y0 y1 y2 y3))
  | 0 => fun _ _ _ _ r h => by simp [spec_plParse.l0] at h
  | k + 1 => by
    have ih0 := spec_plParse.mono_l k
    · intro y0 y1 y2 y3
      unfold spec_plParse.l0
      repeat' first
      | (with_reducible exact ih0 _ _ _ _)
      | (with_reducible exact spec_plAll.mono _)
      | (with_reducible exact LeO.refl _)
      | (with_reducible exact LeO.none _)
      | (with_reducible refine LeO.ite ?_ ?_)
      | (with_reducible refine LeO.bind ?_ (fun _ => ?_))
      | exact ih0 _ _ _ _
      | exact spec_plAll.mono _
      | exact LeO.none _
      | refine LeO.ite ?_ ?_
      | refine LeO.bind ?_ (fun _ => ?_)
theorem spec_plParse.mono : ∀ a0 k, LeO (spec_plParse.f k a0) (spec_plParse.f (k + 1) a0) := by
  intro a0 k
  have ih0 := spec_plParse.mono_l k
  unfold spec_plParse.f
  repeat' first
      | (with_reducible exact ih0 _ _ _ _)
      | (with_reducible exact spec_plAll.mono _)
      | (with_reducible exact LeO.refl _)
      | (with_reducible exact LeO.none _)
      | (with_reducible refine LeO.ite ?_ ?_)
      | (with_reducible refine LeO.bind ?_ (fun _ => ?_))
      | exact ih0 _ _ _ _
      | exact spec_plAll.mono _
      | exact LeO.none _
      | refine LeO.ite ?_ ?_
      | refine LeO.bind ?_ (fun _ => ?_)
noncomputable def spec_plParse.L0 (x0 : ByteArray) (x6 : List (S24)) (x7 : Int) (x8 : Int) : Option (Int × Int × Bool × Bool) := lim fun k => spec_plParse.l0 k x0 x6 x7 x8
theorem spec_plParse.L0_lim (x0 : ByteArray) (x6 : List (S24)) (x7 : Int) (x8 : Int) : Lim (fun k => spec_plParse.l0 k x0 x6 x7 x8) (spec_plParse.L0 x0 x6 x7 x8) := ⟨fun k => (spec_plParse.mono_l k) x0 x6 x7 x8, rfl⟩
noncomputable def spec_plParse.F (a0 : ByteArray) : Option (Int × Int × Bool × Bool) := lim fun k => spec_plParse.f k a0
theorem spec_plParse.F_lim (a0 : ByteArray) : Lim (fun k => spec_plParse.f k a0) (spec_plParse.F a0) := ⟨spec_plParse.mono a0, rfl⟩
theorem spec_plParse.L0_eq (x0 : ByteArray) (x6 : List (S24)) (x7 : Int) (x8 : Int) : spec_plParse.L0 x0 x6 x7 x8 = (if x8 < x7 then (if 0 ≤ x8 then (if x8 < (x6.length : Int) then ((spec_plText.f ((rd_T24 x6 x8).f0) ((rd_T24 x6 x8).f1) ((rd_T24 x6 x8).f2)).bind fun t281 => (if t281.toList = x0.toList then (some ((rd_T24 x6 x8).f0, (rd_T24 x6 x8).f1, (rd_T24 x6 x8).f2, true)) else (spec_plParse.L0 x0 x6 x7 (wrap64 (x8 + 1))))) else (none)) else (none)) else (some (0, 0, false, false))) := by
  refine Lim.succ_eq (spec_plParse.L0_lim x0 x6 x7 x8).mon ?_
  simp only [spec_plParse.l0]
  repeat' first
  | (with_reducible exact spec_plParse.L0_lim _ _ _ _)
  | (with_reducible exact spec_plAll.F_lim)
  | (with_reducible refine Lim.ite ?_ ?_)
  | (with_reducible refine Lim.bind ?_ (fun _ => ?_))
  | (with_reducible exact Lim.const _)
theorem spec_plParse.F_eq (a0 : ByteArray) : spec_plParse.F a0 = ((spec_plAll.F).bind fun t276 => (spec_plParse.L0 a0 t276 (t276.length : Int) 0)) := by
  refine Lim.eq_ ?_
  simp only [spec_plParse.f]
  repeat' first
  | (with_reducible exact spec_plParse.L0_lim _ _ _ _)
  | (with_reducible exact spec_plAll.F_lim)
  | (with_reducible refine Lim.ite ?_ ?_)
  | (with_reducible refine Lim.bind ?_ (fun _ => ?_))
  | (with_reducible exact Lim.const _)
def spec_ParsePlace.f (k : Nat) (a0 : ByteArray) : Option (Int × Int × Bool × Bool) := (spec_plParse.f k a0).bind fun bt283 => (some (bt283.1, bt283.2.1, bt283.2.2.1, bt283.2.2.2))
theorem spec_ParsePlace.mono : ∀ a0 k, LeO (spec_ParsePlace.f k a0) (spec_ParsePlace.f (k + 1) a0) := by
  intro a0 k
  unfold spec_ParsePlace.f
  repeat' first
      | (with_reducible exact spec_plParse.mono _ _)
      | (with_reducible exact LeO.refl _)
      | (with_reducible exact LeO.none _)
      | (with_reducible refine LeO.ite ?_ ?_)
      | (with_reducible refine LeO.bind ?_ (fun _ => ?_))
      | exact spec_plParse.mono _ _
      | exact LeO.none _
      | refine LeO.ite ?_ ?_
      | refine LeO.bind ?_ (fun _ => ?_)
noncomputable def spec_ParsePlace.F (a0 : ByteArray) : Option (Int × Int × Bool × Bool) := lim fun k => spec_ParsePlace.f k a0
theorem spec_ParsePlace.F_lim (a0 : ByteArray) : Lim (fun k => spec_ParsePlace.f k a0) (spec_ParsePlace.F a0) := ⟨spec_ParsePlace.mono a0, rfl⟩
theorem spec_ParsePlace.F_eq (a0 : ByteArray) : spec_ParsePlace.F a0 = ((spec_plParse.F a0).bind fun bt283 => (some (bt283.1, bt283.2.1, bt283.2.2.1, bt283.2.2.2))) := by
  refine Lim.eq_ ?_
  simp only [spec_ParsePlace.f]
  repeat' first
  | (with_reducible exact spec_plParse.F_lim _)
  | (with_reducible refine Lim.ite ?_ ?_)
  | (with_reducible refine Lim.bind ?_ (fun _ => ?_))
  | (with_reducible exact Lim.const _)
def laws_FnPlaces.j0 : Nat → Int → Bool → ByteArray → Bool → Int → Int → Bool → Int → Int → Bool → Option (Bool)
  | 0, _, _, _, _, _, _, _, _, _, _ => none
  | k + 1, x6, x7, x14, x159, x291000, x291001, x291002, x300000, x300001, x300002 => if x159 = true then (some false) else (if x7 = true then ((impl_PlaceOfCode.f x6).bind fun bt332 => ((impl_ParsePlace.f k x14).bind fun bt337 => ((impl_MirrorPlace.f x300000 x300001 x300002).bind fun bt342 => (if bt332.2.2.2 = true then (if (bt332.1 == x291000 && (bt332.2.1 == x291001 && (bt332.2.2.1 == x291002))) = true then (if bt337.2.2.2 = true then (if (bt337.1 == x291000 && (bt337.2.1 == x291001 && (bt337.2.2.1 == x291002))) = true then (if bt342.2.2.2 = true then (some (bt342.1 == x291000 && (bt342.2.1 == x291001 && (bt342.2.2.1 == x291002)))) else (some false)) else (some false)) else (some false)) else (some false)) else (some false))))) else (some true))
def laws_FnPlaces.f (k : Nat) (l0 : List Int) (l1 : List Int) : Option (Bool) := if (wrap64 ((l0.length : Int) + (l1.length : Int))) > 1048576 then (some true) else ((spec_DrawIsPlace.f k l0).bind fun bt287 => ((impl_PlaceCode.f bt287.1 bt287.2.1 bt287.2.2).bind fun bt291 => ((spec_PlaceCode.f bt287.1 bt287.2.1 bt287.2.2).bind fun bt293 => ((impl_MirrorPlace.f bt287.1 bt287.2.1 bt287.2.2).bind fun bt295 => ((spec_MirrorPlace.f bt287.1 bt287.2.1 bt287.2.2).bind fun bt300 => ((impl_PlaceText.f bt287.1 bt287.2.1 bt287.2.2).bind fun bt305 => ((spec_PlaceText.f bt287.1 bt287.2.1 bt287.2.2).bind fun bt307 => ((spec_DrawPlaceOfCode.f l1).bind fun t309 => ((impl_PlaceOfCode.f t309).bind fun bt310 => ((spec_PlaceOfCode.f k t309).bind fun bt315 => ((spec_DrawParsePlace.f k l1).bind fun t320 => ((impl_ParsePlace.f k t320).bind fun bt321 => ((spec_ParsePlace.f k t320).bind fun bt326 => (if (bt291.2 != bt293.2) = true then (laws_FnPlaces.j0 k bt291.1 bt291.2 bt305.1 true bt287.1 bt287.2.1 bt287.2.2 bt295.1 bt295.2.1 bt295.2.2.1) else (if bt291.1 = bt293.1 then (if (bt295.2.2.2 != bt300.2.2.2) = true then (laws_FnPlaces.j0 k bt291.1 bt291.2 bt305.1 true bt287.1 bt287.2.1 bt287.2.2 bt295.1 bt295.2.1 bt295.2.2.1) else (if (!(bt295.1 == bt300.1) || (!(bt295.2.1 == bt300.2.1) || (!(bt295.2.2.1 == bt300.2.2.1)))) = true then (laws_FnPlaces.j0 k bt291.1 bt291.2 bt305.1 true bt287.1 bt287.2.1 bt287.2.2 bt295.1 bt295.2.1 bt295.2.2.1) else (if (bt305.2 != bt307.2) = true then (laws_FnPlaces.j0 k bt291.1 bt291.2 bt305.1 true bt287.1 bt287.2.1 bt287.2.2 bt295.1 bt295.2.1 bt295.2.2.1) else (if bt305.1.toList = bt307.1.toList then (if (bt310.2.2.2 != bt315.2.2.2) = true then (laws_FnPlaces.j0 k bt291.1 bt291.2 bt305.1 true bt287.1 bt287.2.1 bt287.2.2 bt295.1 bt295.2.1 bt295.2.2.1) else (if (!(bt310.1 == bt315.1) || (!(bt310.2.1 == bt315.2.1) || (!(bt310.2.2.1 == bt315.2.2.1)))) = true then (laws_FnPlaces.j0 k bt291.1 bt291.2 bt305.1 true bt287.1 bt287.2.1 bt287.2.2 bt295.1 bt295.2.1 bt295.2.2.1) else (if (bt321.2.2.2 != bt326.2.2.2) = true then (laws_FnPlaces.j0 k bt291.1 bt291.2 bt305.1 true bt287.1 bt287.2.1 bt287.2.2 bt295.1 bt295.2.1 bt295.2.2.1) else (if (!(bt321.1 == bt326.1) || (!(bt321.2.1 == bt326.2.1) || (!(bt321.2.2.1 == bt326.2.2.1)))) = true then (laws_FnPlaces.j0 k bt291.1 bt291.2 bt305.1 true bt287.1 bt287.2.1 bt287.2.2 bt295.1 bt295.2.1 bt295.2.2.1) else ((impl_IsPlace.f bt287.1 bt287.2.1 bt287.2.2).bind fun t331 => (if (bt291.2 != t331) = true then (laws_FnPlaces.j0 k bt291.1 bt291.2 bt305.1 true bt287.1 bt287.2.1 bt287.2.2 bt295.1 bt295.2.1 bt295.2.2.1) else (if (bt295.2.2.2 != bt291.2) = true then (laws_FnPlaces.j0 k bt291.1 bt291.2 bt305.1 true bt287.1 bt287.2.1 bt287.2.2 bt295.1 bt295.2.1 bt295.2.2.1) else (laws_FnPlaces.j0 k bt291.1 bt291.2 bt305.1 (bt305.2 != bt291.2) bt287.1 bt287.2.1 bt287.2.2 bt295.1 bt295.2.1 bt295.2.2.1)))))))) else (laws_FnPlaces.j0 k bt291.1 bt291.2 bt305.1 true bt287.1 bt287.2.1 bt287.2.2 bt295.1 bt295.2.1 bt295.2.2.1))))) else (laws_FnPlaces.j0 k bt291.1 bt291.2 bt305.1 true bt287.1 bt287.2.1 bt287.2.2 bt295.1 bt295.2.1 bt295.2.2.1))))))))))))))))
theorem laws_FnPlaces.mono_l : ∀ k, (∀ y0 y1 y2 y3 y4 y5 y6 y7 y8 y9, LeO (laws_FnPlaces.j0 k y0 y1 y2 y3 y4 y5 y6 y7 y8 y9) (laws_FnPlaces.j0 (k + 1) y0 y1 y2 y3 y4 y5 y6 y7 y8 y9))
  | 0 => fun _ _ _ _ _ _ _ _ _ _ r h => by simp [laws_FnPlaces.j0] at h
  | k + 1 => by
    have ih0 := laws_FnPlaces.mono_l k
    · intro y0 y1 y2 y3 y4 y5 y6 y7 y8 y9
      unfold laws_FnPlaces.j0
      repeat' first
      | (with_reducible exact ih0 _ _ _ _ _ _ _ _ _ _)
      | (with_reducible exact impl_ParsePlace.mono _ _)
      | (with_reducible exact spec_DrawIsPlace.mono _ _)
      | (with_reducible exact spec_DrawParsePlace.mono _ _)
      | (with_reducible exact spec_ParsePlace.mono _ _)
      | (with_reducible exact spec_PlaceOfCode.mono _ _)
      | (with_reducible exact LeO.refl _)
      | (with_reducible exact LeO.none _)
      | (with_reducible refine LeO.ite ?_ ?_)
      | (with_reducible refine LeO.bind ?_ (fun _ => ?_))
      | exact ih0 _ _ _ _ _ _ _ _ _ _
      | exact impl_ParsePlace.mono _ _
      | exact spec_DrawIsPlace.mono _ _
      | exact spec_DrawParsePlace.mono _ _
      | exact spec_ParsePlace.mono _ _
      | exact spec_PlaceOfCode.mono _ _
      | exact LeO.none _
      | refine LeO.ite ?_ ?_
      | refine LeO.bind ?_ (fun _ => ?_)
theorem laws_FnPlaces.mono : ∀ a0 a1 k, LeO (laws_FnPlaces.f k a0 a1) (laws_FnPlaces.f (k + 1) a0 a1) := by
  intro a0 a1 k
  have ih0 := laws_FnPlaces.mono_l k
  unfold laws_FnPlaces.f
  repeat' first
      | (with_reducible exact ih0 _ _ _ _ _ _ _ _ _ _)
      | (with_reducible exact impl_ParsePlace.mono _ _)
      | (with_reducible exact spec_DrawIsPlace.mono _ _)
      | (with_reducible exact spec_DrawParsePlace.mono _ _)
      | (with_reducible exact spec_ParsePlace.mono _ _)
      | (with_reducible exact spec_PlaceOfCode.mono _ _)
      | (with_reducible exact LeO.refl _)
      | (with_reducible exact LeO.none _)
      | (with_reducible refine LeO.ite ?_ ?_)
      | (with_reducible refine LeO.bind ?_ (fun _ => ?_))
      | exact ih0 _ _ _ _ _ _ _ _ _ _
      | exact impl_ParsePlace.mono _ _
      | exact spec_DrawIsPlace.mono _ _
      | exact spec_DrawParsePlace.mono _ _
      | exact spec_ParsePlace.mono _ _
      | exact spec_PlaceOfCode.mono _ _
      | exact LeO.none _
      | refine LeO.ite ?_ ?_
      | refine LeO.bind ?_ (fun _ => ?_)
noncomputable def laws_FnPlaces.J0 (x6 : Int) (x7 : Bool) (x14 : ByteArray) (x159 : Bool) (x291000 : Int) (x291001 : Int) (x291002 : Bool) (x300000 : Int) (x300001 : Int) (x300002 : Bool) : Option (Bool) := lim fun k => laws_FnPlaces.j0 k x6 x7 x14 x159 x291000 x291001 x291002 x300000 x300001 x300002
theorem laws_FnPlaces.J0_lim (x6 : Int) (x7 : Bool) (x14 : ByteArray) (x159 : Bool) (x291000 : Int) (x291001 : Int) (x291002 : Bool) (x300000 : Int) (x300001 : Int) (x300002 : Bool) : Lim (fun k => laws_FnPlaces.j0 k x6 x7 x14 x159 x291000 x291001 x291002 x300000 x300001 x300002) (laws_FnPlaces.J0 x6 x7 x14 x159 x291000 x291001 x291002 x300000 x300001 x300002) := ⟨fun k => (laws_FnPlaces.mono_l k) x6 x7 x14 x159 x291000 x291001 x291002 x300000 x300001 x300002, rfl⟩
noncomputable def laws_FnPlaces.F (l0 : List Int) (l1 : List Int) : Option (Bool) := lim fun k => laws_FnPlaces.f k l0 l1
theorem laws_FnPlaces.F_lim (l0 : List Int) (l1 : List Int) : Lim (fun k => laws_FnPlaces.f k l0 l1) (laws_FnPlaces.F l0 l1) := ⟨laws_FnPlaces.mono l0 l1, rfl⟩
theorem laws_FnPlaces.J0_eq (x6 : Int) (x7 : Bool) (x14 : ByteArray) (x159 : Bool) (x291000 : Int) (x291001 : Int) (x291002 : Bool) (x300000 : Int) (x300001 : Int) (x300002 : Bool) : laws_FnPlaces.J0 x6 x7 x14 x159 x291000 x291001 x291002 x300000 x300001 x300002 = (if x159 = true then (some false) else (if x7 = true then ((impl_PlaceOfCode.f x6).bind fun bt332 => ((impl_ParsePlace.F x14).bind fun bt337 => ((impl_MirrorPlace.f x300000 x300001 x300002).bind fun bt342 => (if bt332.2.2.2 = true then (if (bt332.1 == x291000 && (bt332.2.1 == x291001 && (bt332.2.2.1 == x291002))) = true then (if bt337.2.2.2 = true then (if (bt337.1 == x291000 && (bt337.2.1 == x291001 && (bt337.2.2.1 == x291002))) = true then (if bt342.2.2.2 = true then (some (bt342.1 == x291000 && (bt342.2.1 == x291001 && (bt342.2.2.1 == x291002)))) else (some false)) else (some false)) else (some false)) else (some false)) else (some false))))) else (some true))) := by
  refine Lim.succ_eq (laws_FnPlaces.J0_lim x6 x7 x14 x159 x291000 x291001 x291002 x300000 x300001 x300002).mon ?_
  simp only [laws_FnPlaces.j0]
  repeat' first
  | (with_reducible exact laws_FnPlaces.J0_lim _ _ _ _ _ _ _ _ _ _)
  | (with_reducible exact impl_ParsePlace.F_lim _)
  | (with_reducible exact spec_DrawIsPlace.F_lim _)
  | (with_reducible exact spec_DrawParsePlace.F_lim _)
  | (with_reducible exact spec_ParsePlace.F_lim _)
  | (with_reducible exact spec_PlaceOfCode.F_lim _)
  | (with_reducible refine Lim.ite ?_ ?_)
  | (with_reducible refine Lim.bind ?_ (fun _ => ?_))
  | (with_reducible exact Lim.const _)
theorem laws_FnPlaces.F_eq (l0 : List Int) (l1 : List Int) : laws_FnPlaces.F l0 l1 = (if (wrap64 ((l0.length : Int) + (l1.length : Int))) > 1048576 then (some true) else ((spec_DrawIsPlace.F l0).bind fun bt287 => ((impl_PlaceCode.f bt287.1 bt287.2.1 bt287.2.2).bind fun bt291 => ((spec_PlaceCode.f bt287.1 bt287.2.1 bt287.2.2).bind fun bt293 => ((impl_MirrorPlace.f bt287.1 bt287.2.1 bt287.2.2).bind fun bt295 => ((spec_MirrorPlace.f bt287.1 bt287.2.1 bt287.2.2).bind fun bt300 => ((impl_PlaceText.f bt287.1 bt287.2.1 bt287.2.2).bind fun bt305 => ((spec_PlaceText.f bt287.1 bt287.2.1 bt287.2.2).bind fun bt307 => ((spec_DrawPlaceOfCode.f l1).bind fun t309 => ((impl_PlaceOfCode.f t309).bind fun bt310 => ((spec_PlaceOfCode.F t309).bind fun bt315 => ((spec_DrawParsePlace.F l1).bind fun t320 => ((impl_ParsePlace.F t320).bind fun bt321 => ((spec_ParsePlace.F t320).bind fun bt326 => (if (bt291.2 != bt293.2) = true then (laws_FnPlaces.J0 bt291.1 bt291.2 bt305.1 true bt287.1 bt287.2.1 bt287.2.2 bt295.1 bt295.2.1 bt295.2.2.1) else (if bt291.1 = bt293.1 then (if (bt295.2.2.2 != bt300.2.2.2) = true then (laws_FnPlaces.J0 bt291.1 bt291.2 bt305.1 true bt287.1 bt287.2.1 bt287.2.2 bt295.1 bt295.2.1 bt295.2.2.1) else (if (!(bt295.1 == bt300.1) || (!(bt295.2.1 == bt300.2.1) || (!(bt295.2.2.1 == bt300.2.2.1)))) = true then (laws_FnPlaces.J0 bt291.1 bt291.2 bt305.1 true bt287.1 bt287.2.1 bt287.2.2 bt295.1 bt295.2.1 bt295.2.2.1) else (if (bt305.2 != bt307.2) = true then (laws_FnPlaces.J0 bt291.1 bt291.2 bt305.1 true bt287.1 bt287.2.1 bt287.2.2 bt295.1 bt295.2.1 bt295.2.2.1) else (if bt305.1.toList = bt307.1.toList then (if (bt310.2.2.2 != bt315.2.2.2) = true then (laws_FnPlaces.J0 bt291.1 bt291.2 bt305.1 true bt287.1 bt287.2.1 bt287.2.2 bt295.1 bt295.2.1 bt295.2.2.1) else (if (!(bt310.1 == bt315.1) || (!(bt310.2.1 == bt315.2.1) || (!(bt310.2.2.1 == bt315.2.2.1)))) = true then (laws_FnPlaces.J0 bt291.1 bt291.2 bt305.1 true bt287.1 bt287.2.1 bt287.2.2 bt295.1 bt295.2.1 bt295.2.2.1) else (if (bt321.2.2.2 != bt326.2.2.2) = true then (laws_FnPlaces.J0 bt291.1 bt291.2 bt305.1 true bt287.1 bt287.2.1 bt287.2.2 bt295.1 bt295.2.1 bt295.2.2.1) else (if (!(bt321.1 == bt326.1) || (!(bt321.2.1 == bt326.2.1) || (!(bt321.2.2.1 == bt326.2.2.1)))) = true then (laws_FnPlaces.J0 bt291.1 bt291.2 bt305.1 true bt287.1 bt287.2.1 bt287.2.2 bt295.1 bt295.2.1 bt295.2.2.1) else ((impl_IsPlace.f bt287.1 bt287.2.1 bt287.2.2).bind fun t331 => (if (bt291.2 != t331) = true then (laws_FnPlaces.J0 bt291.1 bt291.2 bt305.1 true bt287.1 bt287.2.1 bt287.2.2 bt295.1 bt295.2.1 bt295.2.2.1) else (if (bt295.2.2.2 != bt291.2) = true then (laws_FnPlaces.J0 bt291.1 bt291.2 bt305.1 true bt287.1 bt287.2.1 bt287.2.2 bt295.1 bt295.2.1 bt295.2.2.1) else (laws_FnPlaces.J0 bt291.1 bt291.2 bt305.1 (bt305.2 != bt291.2) bt287.1 bt287.2.1 bt287.2.2 bt295.1 bt295.2.1 bt295.2.2.1)))))))) else (laws_FnPlaces.J0 bt291.1 bt291.2 bt305.1 true bt287.1 bt287.2.1 bt287.2.2 bt295.1 bt295.2.1 bt295.2.2.1))))) else (laws_FnPlaces.J0 bt291.1 bt291.2 bt305.1 true bt287.1 bt287.2.1 bt287.2.2 bt295.1 bt295.2.1 bt295.2.2.1))))))))))))))))) := by
  refine Lim.eq_ ?_
  simp only [laws_FnPlaces.f]
  repeat' first
  | (with_reducible exact laws_FnPlaces.J0_lim _ _ _ _ _ _ _ _ _ _)
  | (with_reducible exact impl_ParsePlace.F_lim _)
  | (with_reducible exact spec_DrawIsPlace.F_lim _)
  | (with_reducible exact spec_DrawParsePlace.F_lim _)
  | (with_reducible exact spec_ParsePlace.F_lim _)
  | (with_reducible exact spec_PlaceOfCode.F_lim _)
  | (with_reducible refine Lim.ite ?_ ?_)
  | (with_reducible refine Lim.bind ?_ (fun _ => ?_))
  | (with_reducible exact Lim.const _)
def laws_FnPlaces.Pure : Prop := ∀ (l0 : List Int) (l1 : List Int), l0.length ≤ maxLen → l0.length * 1 ≤ 140737488351232 → (∀ x ∈ l0, (Lit.int .u8 x).wf = true) → l1.length ≤ maxLen → l1.length * 1 ≤ 140737488351232 → (∀ x ∈ l1, (Lit.int .u8 x).wf = true) → ∃ k, laws_FnPlaces.f k l0 l1 = some true
end Go.Proofs.Ytmlpogmedglncaa.PFnPlaces
