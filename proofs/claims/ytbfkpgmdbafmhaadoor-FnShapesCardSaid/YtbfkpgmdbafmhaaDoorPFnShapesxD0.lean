/- Written by a program of this claim's author, out of the loaded program as Lean prints it: the functions as Lean functions, and that the calls answer so. -/
import Derived.Test.YtbfkpgmdbafmhaaDoorPFnShapesx0
namespace Go.Proofs.YtbfkpgmdbafmhaaDoor.PFnShapes
open Go.RowKit Go.Proofs.YtbfkpgmdbafmhaaDoorW.PrintWords Go.Proofs.YtbfkpgmdbafmhaaDoorW.PrintLast Go.Proofs.YtbfkpgmdbafmhaaDoorW.PrintMore
attribute [local go_sem] max2_int min2_int max_two min_two max_three min_three max_four min_four   -- for this text's walks alone
set_option linter.unusedVariables false
set_option linter.unusedSimpArgs false

def laws_big.f (l0 : List Int) (l1 : List Int) : Option (Bool) := if (l0.length : Int) > 1048576 then (some true) else (some (decide ((l1.length : Int) > (wrap64 (1048576 - (l0.length : Int))))))
def spec_shFingers.f (a0_0 : Int) (a0_1 : Int) (a0_2 : Int) (a0_3 : Int) (a0_4 : Int) (a0_5 : Bool) : Option (List Int) := some (([a0_1, a0_2, a0_3, a0_4] : List Int))
def spec_shWide.l0 : Nat → List Int → Int → Option (Bool)
  | 0, _, _ => none
  | k + 1, a, b => if b < 4 then (if 0 ≤ (wrap64 (b - 1)) then (if (wrap64 (b - 1)) < (a.length : Int) then (if (rd a (wrap64 (b - 1))) = 0 then (if 0 ≤ b then (if b < (a.length : Int) then (if (rd a b) = 0 then (some true) else (spec_shWide.l0 k a (wrap64 (b + 1)))) else (none)) else (none)) else (spec_shWide.l0 k a (wrap64 (b + 1)))) else (none)) else (none)) else (some false)
def spec_shWide.f (k : Nat) (a0_0 : Int) (a0_1 : Int) (a0_2 : Int) (a0_3 : Int) (a0_4 : Int) (a0_5 : Bool) : Option (Bool) := (spec_shFingers.f a0_0 a0_1 a0_2 a0_3 a0_4 a0_5).bind fun t106 => (spec_shWide.l0 k t106 1)
theorem spec_shWide.mono_l : ∀ k, (∀ a b, LeO (spec_shWide.l0 k a b) (spec_shWide.l0 (k + 1) a b))
  | 0 => fun _ _ => LeO.none _
  | k + 1 => by
    have ih0 := spec_shWide.mono_l k
    · intros; unfold spec_shWide.l0; exact mo_
theorem spec_shWide.mono : ∀ a0 a1 a2 a3 a4 a5 k, LeO (spec_shWide.f k a0 a1 a2 a3 a4 a5) (spec_shWide.f (k + 1) a0 a1 a2 a3 a4 a5) := by
  intro a0 a1 a2 a3 a4 a5 k
  have ih0 := spec_shWide.mono_l k
  unfold spec_shWide.f
  exact mo_
noncomputable def spec_shWide.L0 := fun a b => lim fun k => spec_shWide.l0 k a b
theorem spec_shWide.L0_lim a b : Lim (fun k => spec_shWide.l0 k a b) (spec_shWide.L0 a b) := ⟨fun k => (spec_shWide.mono_l k) a b, rfl⟩
noncomputable def spec_shWide.F := fun a b c d e f => lim fun k => spec_shWide.f k a b c d e f
theorem spec_shWide.F_lim a b c d e f : Lim (fun k => spec_shWide.f k a b c d e f) (spec_shWide.F a b c d e f) := ⟨spec_shWide.mono a b c d e f, rfl⟩
theorem spec_shWide.L0_eq a b : spec_shWide.L0 a b = (if b < 4 then (if 0 ≤ (wrap64 (b - 1)) then (if (wrap64 (b - 1)) < (a.length : Int) then (if (rd a (wrap64 (b - 1))) = 0 then (if 0 ≤ b then (if b < (a.length : Int) then (if (rd a b) = 0 then (some true) else (spec_shWide.L0 a (wrap64 (b + 1)))) else (none)) else (none)) else (spec_shWide.L0 a (wrap64 (b + 1)))) else (none)) else (none)) else (some false)) := by
  refine Lim.succ_eq (spec_shWide.L0_lim ..).mon ?_
  simp only [spec_shWide.l0]
  have m0 := @spec_shWide.L0_lim
  exact li_
theorem spec_shWide.F_eq a0_0 a0_1 a0_2 a0_3 a0_4 a0_5 : spec_shWide.F a0_0 a0_1 a0_2 a0_3 a0_4 a0_5 = ((spec_shFingers.f a0_0 a0_1 a0_2 a0_3 a0_4 a0_5).bind fun t106 => (spec_shWide.L0 t106 1)) := by
  refine Lim.eq_ ?_
  simp only [spec_shWide.f]
  have m0 := @spec_shWide.L0_lim
  exact li_
def spec_shMade.f (k : Nat) (a0 : Int) (l1 : List Int) (a2 : Bool) : Option (Int × Int × Int × Int × Int × Bool) := if 0 < (l1.length : Int) then (if 1 < (l1.length : Int) then (if 2 < (l1.length : Int) then (if 3 < (l1.length : Int) then (if a2 = true then ((spec_shWide.f k a0 (rd l1 0) (rd l1 1) (rd l1 2) (rd l1 3) false).bind fun t117 => (some (a0, rd l1 0, rd l1 1, rd l1 2, rd l1 3, t117))) else (some (a0, rd l1 0, rd l1 1, rd l1 2, rd l1 3, false))) else (none)) else (none)) else (none)) else (none)
theorem spec_shMade.mono : ∀ a0 a1 a2 k, LeO (spec_shMade.f k a0 a1 a2) (spec_shMade.f (k + 1) a0 a1 a2) := by
  intro a0 a1 a2 k
  unfold spec_shMade.f
  have m0 := @spec_shWide.mono
  exact mo_
noncomputable def spec_shMade.F := fun a b c => lim fun k => spec_shMade.f k a b c
theorem spec_shMade.F_lim a b c : Lim (fun k => spec_shMade.f k a b c) (spec_shMade.F a b c) := ⟨spec_shMade.mono a b c, rfl⟩
theorem spec_shMade.F_eq a0 l1 a2 : spec_shMade.F a0 l1 a2 = (if 0 < (l1.length : Int) then (if 1 < (l1.length : Int) then (if 2 < (l1.length : Int) then (if 3 < (l1.length : Int) then (if a2 = true then ((spec_shWide.F a0 (rd l1 0) (rd l1 1) (rd l1 2) (rd l1 3) false).bind fun t117 => (some (a0, rd l1 0, rd l1 1, rd l1 2, rd l1 3, t117))) else (some (a0, rd l1 0, rd l1 1, rd l1 2, rd l1 3, false))) else (none)) else (none)) else (none)) else (none)) := by
  refine Lim.eq_ ?_
  simp only [spec_shMade.f]
  have m0 := @spec_shWide.F_lim
  exact li_
def spec_l1Cur_next.f (s0_0 : List Int) (s0_1 : Int) (s0_2 : Int) : Option (Int × Int × Int) := if s0_1 < (s0_0.length : Int) then (if 0 ≤ s0_1 then (if (wrap64 (s0_1 + 1)) ≤ (s0_0.length : Int) then (some (wrap64 (rd s0_0 s0_1), wrap64 (s0_1 + 1), IntKind.u64.wrap ((IntKind.u64.wrap ((IntKind.u64.wrap (s0_2 * 6364136223846793005)) + (IntKind.u64.wrap (wrap64 (rd s0_0 s0_1))))) + 1442695040888963407))) else (some (wrap64 (Go.bits .and .u64 ((IntKind.u64.wrap ((IntKind.u64.wrap ((IntKind.u64.wrap (s0_2 * 6364136223846793005)) + (IntKind.u64.wrap (wrap64 (rd s0_0 s0_1))))) + 1442695040888963407)) / 1099511627776) 255), wrap64 (s0_1 + 1), IntKind.u64.wrap ((IntKind.u64.wrap ((IntKind.u64.wrap (s0_2 * 6364136223846793005)) + (IntKind.u64.wrap (wrap64 (rd s0_0 s0_1))))) + 1442695040888963407)))) else (none)) else (if (wrap64 (s0_1 + 1)) ≤ (s0_0.length : Int) then (some (0, wrap64 (s0_1 + 1), IntKind.u64.wrap ((IntKind.u64.wrap ((IntKind.u64.wrap (s0_2 * 6364136223846793005)))) + 1442695040888963407))) else (some (wrap64 (Go.bits .and .u64 ((IntKind.u64.wrap ((IntKind.u64.wrap ((IntKind.u64.wrap (s0_2 * 6364136223846793005)))) + 1442695040888963407)) / 1099511627776) 255), wrap64 (s0_1 + 1), IntKind.u64.wrap ((IntKind.u64.wrap ((IntKind.u64.wrap (s0_2 * 6364136223846793005)))) + 1442695040888963407))))
def spec_l1Cur_pick.f (s0_0 : List Int) (s0_1 : Int) (s0_2 : Int) (a1 : Int) : Option (Int × Int × Int) := if a1 ≤ 1 then (some (0, s0_1, s0_2)) else ((spec_l1Cur_next.f s0_0 s0_1 s0_2).bind fun bt119 => (if a1 > 200 then ((spec_l1Cur_next.f s0_0 bt119.2.1 bt119.2.2).bind fun bt122 => (if a1 = 0 then (none) else (some (Int.tmod (wrap64 ((wrap64 (bt119.1 * 256)) + bt122.1)) a1, bt122.2.1, bt122.2.2)))) else (if a1 = 0 then (none) else (some (Int.tmod bt119.1 a1, bt119.2.1, bt119.2.2)))))
def spec_l1Cur_of.f (s0_0 : List Int) (s0_1 : Int) (s0_2 : Int) (l1 : List ByteArray) : Option (ByteArray × Int × Int) := (spec_l1Cur_pick.f s0_0 s0_1 s0_2 (l1.length : Int)).bind fun bt125 => (if 0 ≤ bt125.1 then (if bt125.1 < (l1.length : Int) then (some (rdOf ByteArray.empty l1 bt125.1, bt125.2.1, bt125.2.2)) else (none)) else (none))
def spec_l1In.f (a0 : Int) (a1 : Int) (a2 : Int) : Option (Bool) := if a0 ≥ a1 then (some (decide (a0 ≤ a2))) else (some false)
def spec_l1All.l0 : Nat → Int → Int → List Int → Int → Int → Option (Bool)
  | 0, _, _, _, _, _ => none
  | k + 1, a, b, c, d, e => if e < d then (if 0 ≤ e then (if e < (c.length : Int) then ((spec_l1In.f (rd c e) a b).bind fun t130 => (if t130 = true then (spec_l1All.l0 k a b c d (wrap64 (e + 1))) else (some false))) else (none)) else (none)) else (some true)
def spec_l1All.f (k : Nat) (l0 : List Int) (a1 : Int) (a2 : Int) : Option (Bool) := spec_l1All.l0 k a1 a2 l0 (l0.length : Int) 0
theorem spec_l1All.mono_l : ∀ k, (∀ a b c d e, LeO (spec_l1All.l0 k a b c d e) (spec_l1All.l0 (k + 1) a b c d e))
  | 0 => fun _ _ _ _ _ => LeO.none _
  | k + 1 => by
    have ih0 := spec_l1All.mono_l k
    · intros; unfold spec_l1All.l0; exact mo_
theorem spec_l1All.mono : ∀ a0 a1 a2 k, LeO (spec_l1All.f k a0 a1 a2) (spec_l1All.f (k + 1) a0 a1 a2) := by
  intro a0 a1 a2 k
  have ih0 := spec_l1All.mono_l k
  unfold spec_l1All.f
  exact mo_
noncomputable def spec_l1All.L0 := fun a b c d e => lim fun k => spec_l1All.l0 k a b c d e
theorem spec_l1All.L0_lim a b c d e : Lim (fun k => spec_l1All.l0 k a b c d e) (spec_l1All.L0 a b c d e) := ⟨fun k => (spec_l1All.mono_l k) a b c d e, rfl⟩
noncomputable def spec_l1All.F := fun a b c => lim fun k => spec_l1All.f k a b c
theorem spec_l1All.F_lim a b c : Lim (fun k => spec_l1All.f k a b c) (spec_l1All.F a b c) := ⟨spec_l1All.mono a b c, rfl⟩
theorem spec_l1All.L0_eq a b c d e : spec_l1All.L0 a b c d e = (if e < d then (if 0 ≤ e then (if e < (c.length : Int) then ((spec_l1In.f (rd c e) a b).bind fun t130 => (if t130 = true then (spec_l1All.L0 a b c d (wrap64 (e + 1))) else (some false))) else (none)) else (none)) else (some true)) := by
  refine Lim.succ_eq (spec_l1All.L0_lim ..).mon ?_
  simp only [spec_l1All.l0]
  have m0 := @spec_l1All.L0_lim
  exact li_
theorem spec_l1All.F_eq l0 a1 a2 : spec_l1All.F l0 a1 a2 = (spec_l1All.L0 a1 a2 l0 (l0.length : Int) 0) := by
  refine Lim.eq_ ?_
  simp only [spec_l1All.f]
  have m0 := @spec_l1All.L0_lim
  exact li_
def spec_shGood.f (k : Nat) (a0_0 : Int) (a0_1 : Int) (a0_2 : Int) (a0_3 : Int) (a0_4 : Int) (a0_5 : Bool) : Option (Bool) := (spec_l1In.f a0_0 0 2).bind fun t132 => (if t132 = true then ((spec_shFingers.f a0_0 a0_1 a0_2 a0_3 a0_4 a0_5).bind fun t133 => ((spec_l1All.f k t133 0 2).bind fun t136 => (if t136 = true then (if a0_5 = true then ((spec_shWide.f k a0_0 a0_1 a0_2 a0_3 a0_4 a0_5).bind fun t137 => (some t137)) else (some true)) else (some false)))) else (some false))
theorem spec_shGood.mono : ∀ a0 a1 a2 a3 a4 a5 k, LeO (spec_shGood.f k a0 a1 a2 a3 a4 a5) (spec_shGood.f (k + 1) a0 a1 a2 a3 a4 a5) := by
  intro a0 a1 a2 a3 a4 a5 k
  unfold spec_shGood.f
  have m0 := @spec_l1All.mono
  have m1 := @spec_shWide.mono
  exact mo_
noncomputable def spec_shGood.F := fun a b c d e f => lim fun k => spec_shGood.f k a b c d e f
theorem spec_shGood.F_lim a b c d e f : Lim (fun k => spec_shGood.f k a b c d e f) (spec_shGood.F a b c d e f) := ⟨spec_shGood.mono a b c d e f, rfl⟩
theorem spec_shGood.F_eq a0_0 a0_1 a0_2 a0_3 a0_4 a0_5 : spec_shGood.F a0_0 a0_1 a0_2 a0_3 a0_4 a0_5 = ((spec_l1In.f a0_0 0 2).bind fun t132 => (if t132 = true then ((spec_shFingers.f a0_0 a0_1 a0_2 a0_3 a0_4 a0_5).bind fun t133 => ((spec_l1All.F t133 0 2).bind fun t136 => (if t136 = true then (if a0_5 = true then ((spec_shWide.F a0_0 a0_1 a0_2 a0_3 a0_4 a0_5).bind fun t137 => (some t137)) else (some true)) else (some false)))) else (some false))) := by
  refine Lim.eq_ ?_
  simp only [spec_shGood.f]
  have m0 := @spec_l1All.F_lim
  have m1 := @spec_shWide.F_lim
  exact li_
mutual
def spec_shParse.j0 : Nat → ByteArray → Bool → Option (Int × Int × Int × Int × Int × Bool × Bool)
  | 0, _, _ => none
  | k + 1, a, b => if b = true then (some (0, 0, 0, 0, 0, false, false)) else (spec_shParse.l0 k a ([] : List Int) 0)
def spec_shParse.l0 : Nat → ByteArray → List Int → Int → Option (Int × Int × Int × Int × Int × Bool × Bool)
  | 0, _, _, _ => none
  | k + 1, a, b, c => if c < 5 then (if 0 ≤ c then (if c < (a.size : Int) then (if b.length < 17592186044416 then (spec_shParse.l0 k a (b ++ [wrap64 ((wrap64 (bt a c)) - 48)]) (wrap64 (c + 1))) else (none)) else (none)) else (none)) else (if 0 < (b.length : Int) then (if 1 < (b.length : Int) then (if 2 < (b.length : Int) then (if 3 < (b.length : Int) then (if 4 < (b.length : Int) then ((spec_shGood.f k (rd b 0) (rd b 1) (rd b 2) (rd b 3) (rd b 4) ((a.size : Int) == 6)).bind fun t149 => (if t149 = true then (some (rd b 0, rd b 1, rd b 2, rd b 3, rd b 4, ((a.size : Int) == 6), true)) else (some (0, 0, 0, 0, 0, false, false)))) else (none)) else (none)) else (none)) else (none)) else (none))
end
def spec_shParse.f (k : Nat) (a0 : ByteArray) : Option (Int × Int × Int × Int × Int × Bool × Bool) := (spec_l1In.f (a0.size : Int) 5 6).bind fun t139 => (if t139 = true then (if (a0.size : Int) = 6 then (if 5 < (a0.size : Int) then (spec_shParse.j0 k a0 ((bt a0 5) != 115)) else (none)) else (spec_shParse.j0 k a0 false)) else (spec_shParse.j0 k a0 true))
theorem spec_shParse.mono_l : ∀ k, (∀ a b, LeO (spec_shParse.j0 k a b) (spec_shParse.j0 (k + 1) a b)) ∧ (∀ a b c, LeO (spec_shParse.l0 k a b c) (spec_shParse.l0 (k + 1) a b c))
  | 0 => ⟨fun _ _ => LeO.none _, fun _ _ _ => LeO.none _⟩
  | k + 1 => by
    obtain ⟨ih0, ih1⟩ := spec_shParse.mono_l k
    have m0 := @spec_shGood.mono
    refine ⟨?_, ?_⟩
    · intros; unfold spec_shParse.j0; exact mo_
    · intros; unfold spec_shParse.l0; exact mo_
theorem spec_shParse.mono : ∀ a0 k, LeO (spec_shParse.f k a0) (spec_shParse.f (k + 1) a0) := by
  intro a0 k
  obtain ⟨ih0, ih1⟩ := spec_shParse.mono_l k
  unfold spec_shParse.f
  have m0 := @spec_shGood.mono
  exact mo_
noncomputable def spec_shParse.J0 := fun a b => lim fun k => spec_shParse.j0 k a b
theorem spec_shParse.J0_lim a b : Lim (fun k => spec_shParse.j0 k a b) (spec_shParse.J0 a b) := ⟨fun k => (spec_shParse.mono_l k).1 a b, rfl⟩
noncomputable def spec_shParse.L0 := fun a b c => lim fun k => spec_shParse.l0 k a b c
theorem spec_shParse.L0_lim a b c : Lim (fun k => spec_shParse.l0 k a b c) (spec_shParse.L0 a b c) := ⟨fun k => (spec_shParse.mono_l k).2 a b c, rfl⟩
noncomputable def spec_shParse.F := fun a => lim fun k => spec_shParse.f k a
theorem spec_shParse.F_lim a : Lim (fun k => spec_shParse.f k a) (spec_shParse.F a) := ⟨spec_shParse.mono a, rfl⟩
theorem spec_shParse.J0_eq a b : spec_shParse.J0 a b = (if b = true then (some (0, 0, 0, 0, 0, false, false)) else (spec_shParse.L0 a ([] : List Int) 0)) := by
  refine Lim.succ_eq (spec_shParse.J0_lim ..).mon ?_
  simp only [spec_shParse.j0]
  have m0 := @spec_shParse.L0_lim
  exact li_
theorem spec_shParse.L0_eq a b c : spec_shParse.L0 a b c = (if c < 5 then (if 0 ≤ c then (if c < (a.size : Int) then (if b.length < 17592186044416 then (spec_shParse.L0 a (b ++ [wrap64 ((wrap64 (bt a c)) - 48)]) (wrap64 (c + 1))) else (none)) else (none)) else (none)) else (if 0 < (b.length : Int) then (if 1 < (b.length : Int) then (if 2 < (b.length : Int) then (if 3 < (b.length : Int) then (if 4 < (b.length : Int) then ((spec_shGood.F (rd b 0) (rd b 1) (rd b 2) (rd b 3) (rd b 4) ((a.size : Int) == 6)).bind fun t149 => (if t149 = true then (some (rd b 0, rd b 1, rd b 2, rd b 3, rd b 4, ((a.size : Int) == 6), true)) else (some (0, 0, 0, 0, 0, false, false)))) else (none)) else (none)) else (none)) else (none)) else (none))) := by
  refine Lim.succ_eq (spec_shParse.L0_lim ..).mon ?_
  simp only [spec_shParse.l0]
  have m0 := @spec_shParse.L0_lim
  have m1 := @spec_shGood.F_lim
  exact li_
theorem spec_shParse.F_eq a0 : spec_shParse.F a0 = ((spec_l1In.f (a0.size : Int) 5 6).bind fun t139 => (if t139 = true then (if (a0.size : Int) = 6 then (if 5 < (a0.size : Int) then (spec_shParse.J0 a0 ((bt a0 5) != 115)) else (none)) else (spec_shParse.J0 a0 false)) else (spec_shParse.J0 a0 true))) := by
  refine Lim.eq_ ?_
  simp only [spec_shParse.f]
  have m0 := @spec_shParse.J0_lim
  exact li_
def spec_l1Cur_one.f (s0_0 : List Int) (s0_1 : Int) (s0_2 : Int) (a1 : Int) : Option (Bool × Int × Int) := (spec_l1Cur_pick.f s0_0 s0_1 s0_2 a1).bind fun bt150 => (some ((bt150.1 == 0), bt150.2.1, bt150.2.2))
def spec_l1Cur_shape.f (k : Nat) (s0_0 : List Int) (s0_1 : Int) (s0_2 : Int) : Option (Int × Int × Int × Int × Int × Bool × Int × Int) := (spec_l1Cur_one.f s0_0 s0_1 s0_2 2).bind fun bt154 => (if bt154.1 = true then ((spec_l1Cur_of.f s0_0 bt154.2.1 bt154.2.2 (([(⟨#[48, 48, 48, 48, 48]⟩ : ByteArray), (⟨#[48, 48, 48, 48, 48, 115]⟩ : ByteArray), (⟨#[50, 50, 50, 50, 50]⟩ : ByteArray), (⟨#[48, 48, 50, 50, 50]⟩ : ByteArray), (⟨#[49, 48, 48, 50, 50]⟩ : ByteArray), (⟨#[50, 48, 48, 48, 48]⟩ : ByteArray), (⟨#[49, 48, 50, 50, 50]⟩ : ByteArray), (⟨#[48, 48, 48, 50, 50, 115]⟩ : ByteArray), (⟨#[49, 49, 49, 49, 49]⟩ : ByteArray)] : List ByteArray))).bind fun bt160 => ((spec_shParse.f k bt160.1).bind fun bt163 => (some (bt163.1, bt163.2.1, bt163.2.2.1, bt163.2.2.2.1, bt163.2.2.2.2.1, bt163.2.2.2.2.2.1, bt160.2.1, bt160.2.2)))) else ((spec_l1Cur_pick.f s0_0 bt154.2.1 bt154.2.2 3).bind fun bt171 => ((spec_l1Cur_pick.f s0_0 bt171.2.1 bt171.2.2 3).bind fun bt174 => ((spec_l1Cur_pick.f s0_0 bt174.2.1 bt174.2.2 3).bind fun bt177 => ((spec_l1Cur_pick.f s0_0 bt177.2.1 bt177.2.2 3).bind fun bt180 => ((spec_l1Cur_pick.f s0_0 bt180.2.1 bt180.2.2 3).bind fun bt183 => ((spec_l1Cur_one.f s0_0 bt183.2.1 bt183.2.2 2).bind fun bt189 => ((spec_shMade.f k bt171.1 (([bt174.1, bt177.1, bt180.1, bt183.1] : List Int)) bt189.1).bind fun bt192 => (some (bt192.1, bt192.2.1, bt192.2.2.1, bt192.2.2.2.1, bt192.2.2.2.2.1, bt192.2.2.2.2.2, bt189.2.1, bt189.2.2))))))))))
theorem spec_l1Cur_shape.mono : ∀ a0 a1 a2 k, LeO (spec_l1Cur_shape.f k a0 a1 a2) (spec_l1Cur_shape.f (k + 1) a0 a1 a2) := by
  intro a0 a1 a2 k
  unfold spec_l1Cur_shape.f
  have m0 := @spec_shMade.mono
  have m1 := @spec_shParse.mono
  exact mo_
noncomputable def spec_l1Cur_shape.F := fun a b c => lim fun k => spec_l1Cur_shape.f k a b c
theorem spec_l1Cur_shape.F_lim a b c : Lim (fun k => spec_l1Cur_shape.f k a b c) (spec_l1Cur_shape.F a b c) := ⟨spec_l1Cur_shape.mono a b c, rfl⟩
theorem spec_l1Cur_shape.F_eq s0_0 s0_1 s0_2 : spec_l1Cur_shape.F s0_0 s0_1 s0_2 = ((spec_l1Cur_one.f s0_0 s0_1 s0_2 2).bind fun bt154 => (if bt154.1 = true then ((spec_l1Cur_of.f s0_0 bt154.2.1 bt154.2.2 (([(⟨#[48, 48, 48, 48, 48]⟩ : ByteArray), (⟨#[48, 48, 48, 48, 48, 115]⟩ : ByteArray), (⟨#[50, 50, 50, 50, 50]⟩ : ByteArray), (⟨#[48, 48, 50, 50, 50]⟩ : ByteArray), (⟨#[49, 48, 48, 50, 50]⟩ : ByteArray), (⟨#[50, 48, 48, 48, 48]⟩ : ByteArray), (⟨#[49, 48, 50, 50, 50]⟩ : ByteArray), (⟨#[48, 48, 48, 50, 50, 115]⟩ : ByteArray), (⟨#[49, 49, 49, 49, 49]⟩ : ByteArray)] : List ByteArray))).bind fun bt160 => ((spec_shParse.F bt160.1).bind fun bt163 => (some (bt163.1, bt163.2.1, bt163.2.2.1, bt163.2.2.2.1, bt163.2.2.2.2.1, bt163.2.2.2.2.2.1, bt160.2.1, bt160.2.2)))) else ((spec_l1Cur_pick.f s0_0 bt154.2.1 bt154.2.2 3).bind fun bt171 => ((spec_l1Cur_pick.f s0_0 bt171.2.1 bt171.2.2 3).bind fun bt174 => ((spec_l1Cur_pick.f s0_0 bt174.2.1 bt174.2.2 3).bind fun bt177 => ((spec_l1Cur_pick.f s0_0 bt177.2.1 bt177.2.2 3).bind fun bt180 => ((spec_l1Cur_pick.f s0_0 bt180.2.1 bt180.2.2 3).bind fun bt183 => ((spec_l1Cur_one.f s0_0 bt183.2.1 bt183.2.2 2).bind fun bt189 => ((spec_shMade.F bt171.1 (([bt174.1, bt177.1, bt180.1, bt183.1] : List Int)) bt189.1).bind fun bt192 => (some (bt192.1, bt192.2.1, bt192.2.2.1, bt192.2.2.2.1, bt192.2.2.2.2.1, bt192.2.2.2.2.2, bt189.2.1, bt189.2.2))))))))))) := by
  refine Lim.eq_ ?_
  simp only [spec_l1Cur_shape.f]
  have m0 := @spec_shMade.F_lim
  have m1 := @spec_shParse.F_lim
  exact li_
def spec_l1Cur_among.f (s0_0 : List Int) (s0_1 : Int) (s0_2 : Int) (l1 : List Int) : Option (Int × Int × Int) := (spec_l1Cur_pick.f s0_0 s0_1 s0_2 (l1.length : Int)).bind fun bt198 => (if 0 ≤ bt198.1 then (if bt198.1 < (l1.length : Int) then (some (rd l1 bt198.1, bt198.2.1, bt198.2.2)) else (none)) else (none))
def spec_l1Cur_anyShape.f (k : Nat) (s0_0 : List Int) (s0_1 : Int) (s0_2 : Int) : Option (Int × Int × Int × Int × Int × Bool × Int × Int) := (spec_l1Cur_shape.f k s0_0 s0_1 s0_2).bind fun bt203 => ((spec_l1Cur_pick.f s0_0 bt203.2.2.2.2.2.2.1 bt203.2.2.2.2.2.2.2 40).bind fun bt212 => (if bt212.1 = 0 then ((spec_l1Cur_among.f s0_0 bt212.2.1 bt212.2.2 (([(-1), 3] : List Int))).bind fun bt218 => (some (bt218.1, bt203.2.1, bt203.2.2.1, bt203.2.2.2.1, bt203.2.2.2.2.1, bt203.2.2.2.2.2.1, bt218.2.1, bt218.2.2))) else (if bt212.1 = 1 then ((spec_l1Cur_among.f s0_0 bt212.2.1 bt212.2.2 (([(-1), 3, (-9223372036854775808)] : List Int))).bind fun bt224 => (some (bt203.1, bt203.2.1, bt203.2.2.1, bt224.1, bt203.2.2.2.2.1, bt203.2.2.2.2.2.1, bt224.2.1, bt224.2.2))) else (if bt212.1 = 2 then ((spec_l1Cur_among.f s0_0 bt212.2.1 bt212.2.2 (([(-1), 3] : List Int))).bind fun bt230 => (some (bt203.1, bt230.1, bt203.2.2.1, bt203.2.2.2.1, 2, bt203.2.2.2.2.2.1, bt230.2.1, bt230.2.2))) else (if bt212.1 = 3 then ((spec_l1Cur_pick.f s0_0 bt212.2.1 bt212.2.2 3).bind fun bt233 => ((spec_l1Cur_pick.f s0_0 bt233.2.1 bt233.2.2 2).bind fun bt236 => (some (0, bt233.1, wrap64 (1 + bt236.1), 0, 1, true, bt236.2.1, bt236.2.2)))) else (some (bt203.1, bt203.2.1, bt203.2.2.1, bt203.2.2.2.1, bt203.2.2.2.2.1, bt203.2.2.2.2.2.1, bt212.2.1, bt212.2.2)))))))
theorem spec_l1Cur_anyShape.mono : ∀ a0 a1 a2 k, LeO (spec_l1Cur_anyShape.f k a0 a1 a2) (spec_l1Cur_anyShape.f (k + 1) a0 a1 a2) := by
  intro a0 a1 a2 k
  unfold spec_l1Cur_anyShape.f
  have m0 := @spec_l1Cur_shape.mono
  exact mo_
noncomputable def spec_l1Cur_anyShape.F := fun a b c => lim fun k => spec_l1Cur_anyShape.f k a b c
theorem spec_l1Cur_anyShape.F_lim a b c : Lim (fun k => spec_l1Cur_anyShape.f k a b c) (spec_l1Cur_anyShape.F a b c) := ⟨spec_l1Cur_anyShape.mono a b c, rfl⟩
theorem spec_l1Cur_anyShape.F_eq s0_0 s0_1 s0_2 : spec_l1Cur_anyShape.F s0_0 s0_1 s0_2 = ((spec_l1Cur_shape.F s0_0 s0_1 s0_2).bind fun bt203 => ((spec_l1Cur_pick.f s0_0 bt203.2.2.2.2.2.2.1 bt203.2.2.2.2.2.2.2 40).bind fun bt212 => (if bt212.1 = 0 then ((spec_l1Cur_among.f s0_0 bt212.2.1 bt212.2.2 (([(-1), 3] : List Int))).bind fun bt218 => (some (bt218.1, bt203.2.1, bt203.2.2.1, bt203.2.2.2.1, bt203.2.2.2.2.1, bt203.2.2.2.2.2.1, bt218.2.1, bt218.2.2))) else (if bt212.1 = 1 then ((spec_l1Cur_among.f s0_0 bt212.2.1 bt212.2.2 (([(-1), 3, (-9223372036854775808)] : List Int))).bind fun bt224 => (some (bt203.1, bt203.2.1, bt203.2.2.1, bt224.1, bt203.2.2.2.2.1, bt203.2.2.2.2.2.1, bt224.2.1, bt224.2.2))) else (if bt212.1 = 2 then ((spec_l1Cur_among.f s0_0 bt212.2.1 bt212.2.2 (([(-1), 3] : List Int))).bind fun bt230 => (some (bt203.1, bt230.1, bt203.2.2.1, bt203.2.2.2.1, 2, bt203.2.2.2.2.2.1, bt230.2.1, bt230.2.2))) else (if bt212.1 = 3 then ((spec_l1Cur_pick.f s0_0 bt212.2.1 bt212.2.2 3).bind fun bt233 => ((spec_l1Cur_pick.f s0_0 bt233.2.1 bt233.2.2 2).bind fun bt236 => (some (0, bt233.1, wrap64 (1 + bt236.1), 0, 1, true, bt236.2.1, bt236.2.2)))) else (some (bt203.1, bt203.2.1, bt203.2.2.1, bt203.2.2.2.1, bt203.2.2.2.2.1, bt203.2.2.2.2.2.1, bt212.2.1, bt212.2.2)))))))) := by
  refine Lim.eq_ ?_
  simp only [spec_l1Cur_anyShape.f]
  have m0 := @spec_l1Cur_shape.F_lim
  exact li_
def spec_DrawShapeDistance.f (k : Nat) (l0 : List Int) : Option (Int × Int × Int × Int × Int × Bool × Int × Int × Int × Int × Int × Bool) := (spec_l1Cur_anyShape.f k l0 0 0).bind fun bt242 => ((spec_l1Cur_anyShape.f k l0 bt242.2.2.2.2.2.2.1 bt242.2.2.2.2.2.2.2).bind fun bt250 => (some (bt242.1, bt242.2.1, bt242.2.2.1, bt242.2.2.2.1, bt242.2.2.2.2.1, bt242.2.2.2.2.2.1, bt250.1, bt250.2.1, bt250.2.2.1, bt250.2.2.2.1, bt250.2.2.2.2.1, bt250.2.2.2.2.2.1)))
theorem spec_DrawShapeDistance.mono : ∀ a0 k, LeO (spec_DrawShapeDistance.f k a0) (spec_DrawShapeDistance.f (k + 1) a0) := by
  intro a0 k
  unfold spec_DrawShapeDistance.f
  have m0 := @spec_l1Cur_anyShape.mono
  exact mo_
noncomputable def spec_DrawShapeDistance.F := fun a => lim fun k => spec_DrawShapeDistance.f k a
theorem spec_DrawShapeDistance.F_lim a : Lim (fun k => spec_DrawShapeDistance.f k a) (spec_DrawShapeDistance.F a) := ⟨spec_DrawShapeDistance.mono a, rfl⟩
theorem spec_DrawShapeDistance.F_eq l0 : spec_DrawShapeDistance.F l0 = ((spec_l1Cur_anyShape.F l0 0 0).bind fun bt242 => ((spec_l1Cur_anyShape.F l0 bt242.2.2.2.2.2.2.1 bt242.2.2.2.2.2.2.2).bind fun bt250 => (some (bt242.1, bt242.2.1, bt242.2.2.1, bt242.2.2.2.1, bt242.2.2.2.2.1, bt242.2.2.2.2.2.1, bt250.1, bt250.2.1, bt250.2.2.1, bt250.2.2.2.1, bt250.2.2.2.2.1, bt250.2.2.2.2.2.1)))) := by
  refine Lim.eq_ ?_
  simp only [spec_DrawShapeDistance.f]
  have m0 := @spec_l1Cur_anyShape.F_lim
  exact li_
def spec_DrawShapeWay.f (k : Nat) (l0 : List Int) : Option (Int × Int × Int × Int × Int × Bool × Int × Int × Int × Int × Int × Bool) := (spec_DrawShapeDistance.f k l0).bind fun bt260 => (some (bt260.1, bt260.2.1, bt260.2.2.1, bt260.2.2.2.1, bt260.2.2.2.2.1, bt260.2.2.2.2.2.1, bt260.2.2.2.2.2.2.1, bt260.2.2.2.2.2.2.2.1, bt260.2.2.2.2.2.2.2.2.1, bt260.2.2.2.2.2.2.2.2.2.1, bt260.2.2.2.2.2.2.2.2.2.2.1, bt260.2.2.2.2.2.2.2.2.2.2.2))
theorem spec_DrawShapeWay.mono : ∀ a0 k, LeO (spec_DrawShapeWay.f k a0) (spec_DrawShapeWay.f (k + 1) a0) := by
  intro a0 k
  unfold spec_DrawShapeWay.f
  have m0 := @spec_DrawShapeDistance.mono
  exact mo_
noncomputable def spec_DrawShapeWay.F := fun a => lim fun k => spec_DrawShapeWay.f k a
theorem spec_DrawShapeWay.F_lim a : Lim (fun k => spec_DrawShapeWay.f k a) (spec_DrawShapeWay.F a) := ⟨spec_DrawShapeWay.mono a, rfl⟩
theorem spec_DrawShapeWay.F_eq l0 : spec_DrawShapeWay.F l0 = ((spec_DrawShapeDistance.F l0).bind fun bt260 => (some (bt260.1, bt260.2.1, bt260.2.2.1, bt260.2.2.2.1, bt260.2.2.2.2.1, bt260.2.2.2.2.2.1, bt260.2.2.2.2.2.2.1, bt260.2.2.2.2.2.2.2.1, bt260.2.2.2.2.2.2.2.2.1, bt260.2.2.2.2.2.2.2.2.2.1, bt260.2.2.2.2.2.2.2.2.2.2.1, bt260.2.2.2.2.2.2.2.2.2.2.2))) := by
  refine Lim.eq_ ?_
  simp only [spec_DrawShapeWay.f]
  have m0 := @spec_DrawShapeDistance.F_lim
  exact li_
def impl_Shape_bends.f (a0_0 : Int) (a0_1 : Int) (a0_2 : Int) (a0_3 : Int) (a0_4 : Int) (a0_5 : Bool) : Option (List Int) := some (([a0_1, a0_2, a0_3, a0_4] : List Int))
def impl_within.f (a0 : Int) (a1 : Int) (a2 : Int) : Option (Bool) := if a0 ≥ a1 then (some (decide (a0 ≤ a2))) else (some false)
def impl_allWithin_1.f (a0 : Int) (a1_0 : Int) (a2_0 : Int) : Option (Bool) := (impl_within.f a0 a1_0 a2_0).bind fun t276 => (some (!t276))
def slices_IndexFunc_int_impl_allWithin_1.l0 : Nat → List Int → Int → Int → Int → Int → Option (Int)
  | 0, _, _, _, _, _ => none
  | k + 1, a, b, c, d, e => if c < b then (if 0 ≤ c then (if c < (a.length : Int) then ((impl_allWithin_1.f (rd a c) d e).bind fun t278 => (if t278 = true then (some c) else (slices_IndexFunc_int_impl_allWithin_1.l0 k a b (wrap64 (c + 1)) d e))) else (none)) else (none)) else (some (-1))
def slices_IndexFunc_int_impl_allWithin_1.f (k : Nat) (l0 : List Int) (a1_0 : Int) (a1_1 : Int) : Option (Int) := slices_IndexFunc_int_impl_allWithin_1.l0 k l0 (l0.length : Int) 0 a1_0 a1_1
theorem slices_IndexFunc_int_impl_allWithin_1.mono_l : ∀ k, (∀ a b c d e, LeO (slices_IndexFunc_int_impl_allWithin_1.l0 k a b c d e) (slices_IndexFunc_int_impl_allWithin_1.l0 (k + 1) a b c d e))
  | 0 => fun _ _ _ _ _ => LeO.none _
  | k + 1 => by
    have ih0 := slices_IndexFunc_int_impl_allWithin_1.mono_l k
    · intros; unfold slices_IndexFunc_int_impl_allWithin_1.l0; exact mo_
theorem slices_IndexFunc_int_impl_allWithin_1.mono : ∀ a0 a1 a2 k, LeO (slices_IndexFunc_int_impl_allWithin_1.f k a0 a1 a2) (slices_IndexFunc_int_impl_allWithin_1.f (k + 1) a0 a1 a2) := by
  intro a0 a1 a2 k
  have ih0 := slices_IndexFunc_int_impl_allWithin_1.mono_l k
  unfold slices_IndexFunc_int_impl_allWithin_1.f
  exact mo_
noncomputable def slices_IndexFunc_int_impl_allWithin_1.L0 := fun a b c d e => lim fun k => slices_IndexFunc_int_impl_allWithin_1.l0 k a b c d e
theorem slices_IndexFunc_int_impl_allWithin_1.L0_lim a b c d e : Lim (fun k => slices_IndexFunc_int_impl_allWithin_1.l0 k a b c d e) (slices_IndexFunc_int_impl_allWithin_1.L0 a b c d e) := ⟨fun k => (slices_IndexFunc_int_impl_allWithin_1.mono_l k) a b c d e, rfl⟩
noncomputable def slices_IndexFunc_int_impl_allWithin_1.F := fun a b c => lim fun k => slices_IndexFunc_int_impl_allWithin_1.f k a b c
theorem slices_IndexFunc_int_impl_allWithin_1.F_lim a b c : Lim (fun k => slices_IndexFunc_int_impl_allWithin_1.f k a b c) (slices_IndexFunc_int_impl_allWithin_1.F a b c) := ⟨slices_IndexFunc_int_impl_allWithin_1.mono a b c, rfl⟩
theorem slices_IndexFunc_int_impl_allWithin_1.L0_eq a b c d e : slices_IndexFunc_int_impl_allWithin_1.L0 a b c d e = (if c < b then (if 0 ≤ c then (if c < (a.length : Int) then ((impl_allWithin_1.f (rd a c) d e).bind fun t278 => (if t278 = true then (some c) else (slices_IndexFunc_int_impl_allWithin_1.L0 a b (wrap64 (c + 1)) d e))) else (none)) else (none)) else (some (-1))) := by
  refine Lim.succ_eq (slices_IndexFunc_int_impl_allWithin_1.L0_lim ..).mon ?_
  simp only [slices_IndexFunc_int_impl_allWithin_1.l0]
  have m0 := @slices_IndexFunc_int_impl_allWithin_1.L0_lim
  exact li_
theorem slices_IndexFunc_int_impl_allWithin_1.F_eq l0 a1_0 a1_1 : slices_IndexFunc_int_impl_allWithin_1.F l0 a1_0 a1_1 = (slices_IndexFunc_int_impl_allWithin_1.L0 l0 (l0.length : Int) 0 a1_0 a1_1) := by
  refine Lim.eq_ ?_
  simp only [slices_IndexFunc_int_impl_allWithin_1.f]
  have m0 := @slices_IndexFunc_int_impl_allWithin_1.L0_lim
  exact li_
def slices_ContainsFunc_int_impl_allWithin_1.f (k : Nat) (l0 : List Int) (a1_0 : Int) (a1_1 : Int) : Option (Bool) := (slices_IndexFunc_int_impl_allWithin_1.f k l0 a1_0 a1_1).bind fun t279 => (some (decide (t279 ≥ 0)))
theorem slices_ContainsFunc_int_impl_allWithin_1.mono : ∀ a0 a1 a2 k, LeO (slices_ContainsFunc_int_impl_allWithin_1.f k a0 a1 a2) (slices_ContainsFunc_int_impl_allWithin_1.f (k + 1) a0 a1 a2) := by
  intro a0 a1 a2 k
  unfold slices_ContainsFunc_int_impl_allWithin_1.f
  have m0 := @slices_IndexFunc_int_impl_allWithin_1.mono
  exact mo_
noncomputable def slices_ContainsFunc_int_impl_allWithin_1.F := fun a b c => lim fun k => slices_ContainsFunc_int_impl_allWithin_1.f k a b c
theorem slices_ContainsFunc_int_impl_allWithin_1.F_lim a b c : Lim (fun k => slices_ContainsFunc_int_impl_allWithin_1.f k a b c) (slices_ContainsFunc_int_impl_allWithin_1.F a b c) := ⟨slices_ContainsFunc_int_impl_allWithin_1.mono a b c, rfl⟩
theorem slices_ContainsFunc_int_impl_allWithin_1.F_eq l0 a1_0 a1_1 : slices_ContainsFunc_int_impl_allWithin_1.F l0 a1_0 a1_1 = ((slices_IndexFunc_int_impl_allWithin_1.F l0 a1_0 a1_1).bind fun t279 => (some (decide (t279 ≥ 0)))) := by
  refine Lim.eq_ ?_
  simp only [slices_ContainsFunc_int_impl_allWithin_1.f]
  have m0 := @slices_IndexFunc_int_impl_allWithin_1.F_lim
  exact li_
def impl_allWithin.f (k : Nat) (l0 : List Int) (a1 : Int) (a2 : Int) : Option (Bool) := (slices_ContainsFunc_int_impl_allWithin_1.f k l0 a1 a2).bind fun t282 => (some (!t282))
theorem impl_allWithin.mono : ∀ a0 a1 a2 k, LeO (impl_allWithin.f k a0 a1 a2) (impl_allWithin.f (k + 1) a0 a1 a2) := by
  intro a0 a1 a2 k
  unfold impl_allWithin.f
  have m0 := @slices_ContainsFunc_int_impl_allWithin_1.mono
  exact mo_
noncomputable def impl_allWithin.F := fun a b c => lim fun k => impl_allWithin.f k a b c
theorem impl_allWithin.F_lim a b c : Lim (fun k => impl_allWithin.f k a b c) (impl_allWithin.F a b c) := ⟨impl_allWithin.mono a b c, rfl⟩
theorem impl_allWithin.F_eq l0 a1 a2 : impl_allWithin.F l0 a1 a2 = ((slices_ContainsFunc_int_impl_allWithin_1.F l0 a1 a2).bind fun t282 => (some (!t282))) := by
  refine Lim.eq_ ?_
  simp only [impl_allWithin.f]
  have m0 := @slices_ContainsFunc_int_impl_allWithin_1.F_lim
  exact li_
def impl_Shape_maySpread.f (a0_0 : Int) (a0_1 : Int) (a0_2 : Int) (a0_3 : Int) (a0_4 : Int) (a0_5 : Bool) : Option (Bool) := if a0_2 = 0 then (if a0_1 = 0 then (some true) else (if a0_3 = 0 then (some true) else (some false))) else (if a0_3 = 0 then (some (a0_4 == 0)) else (some false))
def impl_IsShape.f (k : Nat) (a0_0 : Int) (a0_1 : Int) (a0_2 : Int) (a0_3 : Int) (a0_4 : Int) (a0_5 : Bool) : Option (Bool) := (some (([a0_0] : List Int) : List Int)).bind fun y285 => ((impl_Shape_bends.f a0_0 a0_1 a0_2 a0_3 a0_4 a0_5).bind fun t288 => (if y285.length + t288.length < 17592186044416 then ((impl_allWithin.f k (y285 ++ t288) 0 2).bind fun t294 => (if t294 = true then (if a0_5 = true then ((impl_Shape_maySpread.f a0_0 a0_1 a0_2 a0_3 a0_4 a0_5).bind fun t295 => (some t295)) else (some true)) else (some false))) else (none)))
theorem impl_IsShape.mono : ∀ a0 a1 a2 a3 a4 a5 k, LeO (impl_IsShape.f k a0 a1 a2 a3 a4 a5) (impl_IsShape.f (k + 1) a0 a1 a2 a3 a4 a5) := by
  intro a0 a1 a2 a3 a4 a5 k
  unfold impl_IsShape.f
  have m0 := @impl_allWithin.mono
  exact mo_
noncomputable def impl_IsShape.F := fun a b c d e f => lim fun k => impl_IsShape.f k a b c d e f
theorem impl_IsShape.F_lim a b c d e f : Lim (fun k => impl_IsShape.f k a b c d e f) (impl_IsShape.F a b c d e f) := ⟨impl_IsShape.mono a b c d e f, rfl⟩
theorem impl_IsShape.F_eq a0_0 a0_1 a0_2 a0_3 a0_4 a0_5 : impl_IsShape.F a0_0 a0_1 a0_2 a0_3 a0_4 a0_5 = ((some (([a0_0] : List Int) : List Int)).bind fun y285 => ((impl_Shape_bends.f a0_0 a0_1 a0_2 a0_3 a0_4 a0_5).bind fun t288 => (if y285.length + t288.length < 17592186044416 then ((impl_allWithin.F (y285 ++ t288) 0 2).bind fun t294 => (if t294 = true then (if a0_5 = true then ((impl_Shape_maySpread.f a0_0 a0_1 a0_2 a0_3 a0_4 a0_5).bind fun t295 => (some t295)) else (some true)) else (some false))) else (none)))) := by
  refine Lim.eq_ ?_
  simp only [impl_IsShape.f]
  have m0 := @impl_allWithin.F_lim
  exact li_
def impl_Shape_with.f (a0_0 : Int) (a0_1 : Int) (a0_2 : Int) (a0_3 : Int) (a0_4 : Int) (a0_5 : Bool) (a1 : Int) (a2 : Int) : Option (Int × Int × Int × Int × Int × Bool) := if a1 = 0 then (if a0_5 = true then ((impl_Shape_maySpread.f a2 a0_1 a0_2 a0_3 a0_4 a0_5).bind fun t298 => (some (a2, a0_1, a0_2, a0_3, a0_4, t298))) else (some (a2, a0_1, a0_2, a0_3, a0_4, false))) else (if a1 = 1 then (if a0_5 = true then ((impl_Shape_maySpread.f a0_0 a2 a0_2 a0_3 a0_4 a0_5).bind fun t299 => (some (a0_0, a2, a0_2, a0_3, a0_4, t299))) else (some (a0_0, a2, a0_2, a0_3, a0_4, false))) else (if a1 = 2 then (if a0_5 = true then ((impl_Shape_maySpread.f a0_0 a0_1 a2 a0_3 a0_4 a0_5).bind fun t300 => (some (a0_0, a0_1, a2, a0_3, a0_4, t300))) else (some (a0_0, a0_1, a2, a0_3, a0_4, false))) else (if a1 = 3 then (if a0_5 = true then ((impl_Shape_maySpread.f a0_0 a0_1 a0_2 a2 a0_4 a0_5).bind fun t301 => (some (a0_0, a0_1, a0_2, a2, a0_4, t301))) else (some (a0_0, a0_1, a0_2, a2, a0_4, false))) else (if a0_5 = true then ((impl_Shape_maySpread.f a0_0 a0_1 a0_2 a0_3 a2 a0_5).bind fun t302 => (some (a0_0, a0_1, a0_2, a0_3, a2, t302))) else (some (a0_0, a0_1, a0_2, a0_3, a2, false))))))
def cmp_isNaN_int.f (a0 : Int) : Option (Bool) := some (a0 != a0)
def cmp_Compare_int.f (a0 : Int) (a1 : Int) : Option (Int) := (cmp_isNaN_int.f a0).bind fun t303 => ((cmp_isNaN_int.f a1).bind fun t304 => (if t303 = true then (if t304 = true then (some 0) else (some (-1))) else (if t304 = true then (some 1) else (if a0 < a1 then (some (-1)) else (if a0 > a1 then (some 1) else (some 0))))))
mutual
def impl_ShapeWay.j0 : Nat → Bool → Int → Int → Int → Int → Int → Bool → Int → Int → Int → Int → Int → Bool → Option ((List (S25)) × Bool)
  | 0, _, _, _, _, _, _, _, _, _, _, _, _, _ => none
  | k + 1, a, b, c, d, e, f, g, h, i, j, l, m, n => if a = true then (some (([] : List (S25)), false)) else ((some (([(⟨b, c, d, e, f, g⟩ : S25)] : List (S25)) : List (S25))).bind fun y309 => (if g = true then (impl_ShapeWay.j1 k y309 (!n) h i j l m n b c d e f g) else (impl_ShapeWay.j1 k y309 false h i j l m n b c d e f g)))
def impl_ShapeWay.j1 : Nat → List (S25) → Bool → Int → Int → Int → Int → Int → Bool → Int → Int → Int → Int → Int → Bool → Option ((List (S25)) × Bool)
  | 0, _, _, _, _, _, _, _, _, _, _, _, _, _, _ => none
  | k + 1, a, b, c, d, e, f, g, h, i, j, l, m, n, o => if b = true then (if a.length < 2932031007402 then (impl_ShapeWay.j2 k (a ++ [(⟨i, j, l, m, n, false⟩ : S25)]) c d e f g h i j l m n false) else (none)) else (impl_ShapeWay.j2 k a c d e f g h i j l m n o)
def impl_ShapeWay.j2 : Nat → List (S25) → Int → Int → Int → Int → Int → Bool → Int → Int → Int → Int → Int → Bool → Option ((List (S25)) × Bool)
  | 0, _, _, _, _, _, _, _, _, _, _, _, _, _ => none
  | k + 1, a, b, c, d, e, f, g, h, i, j, l, m, n => (impl_Shape_bends.f b c d e f g).bind fun t316 => (impl_ShapeWay.l0 k a t316 (t316.length : Int) 0 b c d e f g h i j l m n)
def impl_ShapeWay.l0 : Nat → List (S25) → List Int → Int → Int → Int → Int → Int → Int → Int → Bool → Int → Int → Int → Int → Int → Bool → Option ((List (S25)) × Bool)
  | 0, _, _, _, _, _, _, _, _, _, _, _, _, _, _, _, _ => none
  | k + 1, a, b, c, d, e, f, g, h, i, j, l, m, n, o, p, q => if d < c then (if 0 ≤ d then (if d < (b.length : Int) then (impl_ShapeWay.l1 k a d (rd b d) b c d e f g h i j l m n o p q) else (none)) else (none)) else (if l = e then (if (!(l == e) || (!(m == f) || (!(n == g) || (!(o == h) || (!(p == i) || (!(q == j))))))) = true then (if a.length < 2932031007402 then (some ((a ++ [(⟨e, f, g, h, i, j⟩ : S25)]), true)) else (none)) else (some (a, true))) else (if a.length < 2932031007402 then ((some (a ++ [(⟨e, m, n, o, p, q⟩ : S25)] : List (S25))).bind fun y345 => (if (!(m == f) || (!(n == g) || (!(o == h) || (!(p == i) || (!(q == j)))))) = true then (if y345.length < 2932031007402 then (some ((y345 ++ [(⟨e, f, g, h, i, j⟩ : S25)]), true)) else (none)) else (some (y345, true)))) else (none)))
def impl_ShapeWay.l1 : Nat → List (S25) → Int → Int → List Int → Int → Int → Int → Int → Int → Int → Int → Bool → Int → Int → Int → Int → Int → Bool → Option ((List (S25)) × Bool)
  | 0, _, _, _, _, _, _, _, _, _, _, _, _, _, _, _, _, _, _ => none
  | k + 1, a, b, c, d, e, f, g, h, i, j, l, m, n, o, p, q, u, v => (impl_Shape_bends.f n o p q u v).bind fun t320 => (if 0 ≤ b then (if b < (t320.length : Int) then (if (rd t320 b) = c then (impl_ShapeWay.l0 k a d e (wrap64 (f + 1)) g h i j l m n o p q u v) else ((impl_Shape_bends.f n o p q u v).bind fun t324 => (if b < (t324.length : Int) then ((impl_Shape_bends.f n o p q u v).bind fun t328 => (if b < (t328.length : Int) then ((cmp_Compare_int.f c (rd t328 b)).bind fun t332 => ((impl_Shape_with.f n o p q u v (wrap64 (b + 1)) (wrap64 ((rd t324 b) + t332))).bind fun bt333 => (if a.length < 2932031007402 then (impl_ShapeWay.l1 k (a ++ [(⟨bt333.1, bt333.2.1, bt333.2.2.1, bt333.2.2.2.1, bt333.2.2.2.2.1, bt333.2.2.2.2.2⟩ : S25)]) b c d e f g h i j l m bt333.1 bt333.2.1 bt333.2.2.1 bt333.2.2.2.1 bt333.2.2.2.2.1 bt333.2.2.2.2.2) else (none)))) else (none))) else (none)))) else (none)) else (none))
end
def impl_ShapeWay.f (k : Nat) (a0_0 : Int) (a0_1 : Int) (a0_2 : Int) (a0_3 : Int) (a0_4 : Int) (a0_5 : Bool) (a1_0 : Int) (a1_1 : Int) (a1_2 : Int) (a1_3 : Int) (a1_4 : Int) (a1_5 : Bool) : Option ((List (S25)) × Bool) := (impl_IsShape.f k a0_0 a0_1 a0_2 a0_3 a0_4 a0_5).bind fun t307 => (if t307 = true then ((impl_IsShape.f k a1_0 a1_1 a1_2 a1_3 a1_4 a1_5).bind fun t308 => (impl_ShapeWay.j0 k (!t308) a0_0 a0_1 a0_2 a0_3 a0_4 a0_5 a1_0 a1_1 a1_2 a1_3 a1_4 a1_5)) else (impl_ShapeWay.j0 k true a0_0 a0_1 a0_2 a0_3 a0_4 a0_5 a1_0 a1_1 a1_2 a1_3 a1_4 a1_5))
theorem impl_ShapeWay.mono_l : ∀ k, (∀ a b c d e f g h i j l m n, LeO (impl_ShapeWay.j0 k a b c d e f g h i j l m n) (impl_ShapeWay.j0 (k + 1) a b c d e f g h i j l m n)) ∧ (∀ a b c d e f g h i j l m n o, LeO (impl_ShapeWay.j1 k a b c d e f g h i j l m n o) (impl_ShapeWay.j1 (k + 1) a b c d e f g h i j l m n o)) ∧ (∀ a b c d e f g h i j l m n, LeO (impl_ShapeWay.j2 k a b c d e f g h i j l m n) (impl_ShapeWay.j2 (k + 1) a b c d e f g h i j l m n)) ∧ (∀ a b c d e f g h i j l m n o p q, LeO (impl_ShapeWay.l0 k a b c d e f g h i j l m n o p q) (impl_ShapeWay.l0 (k + 1) a b c d e f g h i j l m n o p q)) ∧ (∀ a b c d e f g h i j l m n o p q u v, LeO (impl_ShapeWay.l1 k a b c d e f g h i j l m n o p q u v) (impl_ShapeWay.l1 (k + 1) a b c d e f g h i j l m n o p q u v))
  | 0 => ⟨fun _ _ _ _ _ _ _ _ _ _ _ _ _ => LeO.none _, fun _ _ _ _ _ _ _ _ _ _ _ _ _ _ => LeO.none _, fun _ _ _ _ _ _ _ _ _ _ _ _ _ => LeO.none _, fun _ _ _ _ _ _ _ _ _ _ _ _ _ _ _ _ => LeO.none _, fun _ _ _ _ _ _ _ _ _ _ _ _ _ _ _ _ _ _ => LeO.none _⟩
  | k + 1 => by
    obtain ⟨ih0, ih1, ih2, ih3, ih4⟩ := impl_ShapeWay.mono_l k
    have m0 := @impl_IsShape.mono
    refine ⟨?_, ?_, ?_, ?_, ?_⟩
    · intros; unfold impl_ShapeWay.j0; exact mo_
    · intros; unfold impl_ShapeWay.j1; exact mo_
    · intros; unfold impl_ShapeWay.j2; exact mo_
    · intros; unfold impl_ShapeWay.l0; exact mo_
    · intros; unfold impl_ShapeWay.l1; exact mo_
theorem impl_ShapeWay.mono : ∀ a0 a1 a2 a3 a4 a5 a6 a7 a8 a9 a10 a11 k, LeO (impl_ShapeWay.f k a0 a1 a2 a3 a4 a5 a6 a7 a8 a9 a10 a11) (impl_ShapeWay.f (k + 1) a0 a1 a2 a3 a4 a5 a6 a7 a8 a9 a10 a11) := by
  intro a0 a1 a2 a3 a4 a5 a6 a7 a8 a9 a10 a11 k
  obtain ⟨ih0, ih1, ih2, ih3, ih4⟩ := impl_ShapeWay.mono_l k
  unfold impl_ShapeWay.f
  have m0 := @impl_IsShape.mono
  exact mo_
noncomputable def impl_ShapeWay.J0 := fun a b c d e f g h i j l m n => lim fun k => impl_ShapeWay.j0 k a b c d e f g h i j l m n
theorem impl_ShapeWay.J0_lim a b c d e f g h i j l m n : Lim (fun k => impl_ShapeWay.j0 k a b c d e f g h i j l m n) (impl_ShapeWay.J0 a b c d e f g h i j l m n) := ⟨fun k => (impl_ShapeWay.mono_l k).1 a b c d e f g h i j l m n, rfl⟩
noncomputable def impl_ShapeWay.J1 := fun a b c d e f g h i j l m n o => lim fun k => impl_ShapeWay.j1 k a b c d e f g h i j l m n o
theorem impl_ShapeWay.J1_lim a b c d e f g h i j l m n o : Lim (fun k => impl_ShapeWay.j1 k a b c d e f g h i j l m n o) (impl_ShapeWay.J1 a b c d e f g h i j l m n o) := ⟨fun k => (impl_ShapeWay.mono_l k).2.1 a b c d e f g h i j l m n o, rfl⟩
noncomputable def impl_ShapeWay.J2 := fun a b c d e f g h i j l m n => lim fun k => impl_ShapeWay.j2 k a b c d e f g h i j l m n
theorem impl_ShapeWay.J2_lim a b c d e f g h i j l m n : Lim (fun k => impl_ShapeWay.j2 k a b c d e f g h i j l m n) (impl_ShapeWay.J2 a b c d e f g h i j l m n) := ⟨fun k => (impl_ShapeWay.mono_l k).2.2.1 a b c d e f g h i j l m n, rfl⟩
noncomputable def impl_ShapeWay.L0 := fun a b c d e f g h i j l m n o p q => lim fun k => impl_ShapeWay.l0 k a b c d e f g h i j l m n o p q
theorem impl_ShapeWay.L0_lim a b c d e f g h i j l m n o p q : Lim (fun k => impl_ShapeWay.l0 k a b c d e f g h i j l m n o p q) (impl_ShapeWay.L0 a b c d e f g h i j l m n o p q) := ⟨fun k => (impl_ShapeWay.mono_l k).2.2.2.1 a b c d e f g h i j l m n o p q, rfl⟩
noncomputable def impl_ShapeWay.L1 := fun a b c d e f g h i j l m n o p q u v => lim fun k => impl_ShapeWay.l1 k a b c d e f g h i j l m n o p q u v
theorem impl_ShapeWay.L1_lim a b c d e f g h i j l m n o p q u v : Lim (fun k => impl_ShapeWay.l1 k a b c d e f g h i j l m n o p q u v) (impl_ShapeWay.L1 a b c d e f g h i j l m n o p q u v) := ⟨fun k => (impl_ShapeWay.mono_l k).2.2.2.2 a b c d e f g h i j l m n o p q u v, rfl⟩
noncomputable def impl_ShapeWay.F := fun a b c d e f g h i j l m => lim fun k => impl_ShapeWay.f k a b c d e f g h i j l m
theorem impl_ShapeWay.F_lim a b c d e f g h i j l m : Lim (fun k => impl_ShapeWay.f k a b c d e f g h i j l m) (impl_ShapeWay.F a b c d e f g h i j l m) := ⟨impl_ShapeWay.mono a b c d e f g h i j l m, rfl⟩
theorem impl_ShapeWay.J0_eq a b c d e f g h i j l m n : impl_ShapeWay.J0 a b c d e f g h i j l m n = (if a = true then (some (([] : List (S25)), false)) else ((some (([(⟨b, c, d, e, f, g⟩ : S25)] : List (S25)) : List (S25))).bind fun y309 => (if g = true then (impl_ShapeWay.J1 y309 (!n) h i j l m n b c d e f g) else (impl_ShapeWay.J1 y309 false h i j l m n b c d e f g)))) := by
  refine Lim.succ_eq (impl_ShapeWay.J0_lim ..).mon ?_
  simp only [impl_ShapeWay.j0]
  have m0 := @impl_ShapeWay.J1_lim
  exact li_
theorem impl_ShapeWay.J1_eq a b c d e f g h i j l m n o : impl_ShapeWay.J1 a b c d e f g h i j l m n o = (if b = true then (if a.length < 2932031007402 then (impl_ShapeWay.J2 (a ++ [(⟨i, j, l, m, n, false⟩ : S25)]) c d e f g h i j l m n false) else (none)) else (impl_ShapeWay.J2 a c d e f g h i j l m n o)) := by
  refine Lim.succ_eq (impl_ShapeWay.J1_lim ..).mon ?_
  simp only [impl_ShapeWay.j1]
  have m0 := @impl_ShapeWay.J2_lim
  exact li_
theorem impl_ShapeWay.J2_eq a b c d e f g h i j l m n : impl_ShapeWay.J2 a b c d e f g h i j l m n = ((impl_Shape_bends.f b c d e f g).bind fun t316 => (impl_ShapeWay.L0 a t316 (t316.length : Int) 0 b c d e f g h i j l m n)) := by
  refine Lim.succ_eq (impl_ShapeWay.J2_lim ..).mon ?_
  simp only [impl_ShapeWay.j2]
  have m0 := @impl_ShapeWay.L0_lim
  exact li_
theorem impl_ShapeWay.L0_eq a b c d e f g h i j l m n o p q : impl_ShapeWay.L0 a b c d e f g h i j l m n o p q = (if d < c then (if 0 ≤ d then (if d < (b.length : Int) then (impl_ShapeWay.L1 a d (rd b d) b c d e f g h i j l m n o p q) else (none)) else (none)) else (if l = e then (if (!(l == e) || (!(m == f) || (!(n == g) || (!(o == h) || (!(p == i) || (!(q == j))))))) = true then (if a.length < 2932031007402 then (some ((a ++ [(⟨e, f, g, h, i, j⟩ : S25)]), true)) else (none)) else (some (a, true))) else (if a.length < 2932031007402 then ((some (a ++ [(⟨e, m, n, o, p, q⟩ : S25)] : List (S25))).bind fun y345 => (if (!(m == f) || (!(n == g) || (!(o == h) || (!(p == i) || (!(q == j)))))) = true then (if y345.length < 2932031007402 then (some ((y345 ++ [(⟨e, f, g, h, i, j⟩ : S25)]), true)) else (none)) else (some (y345, true)))) else (none)))) := by
  refine Lim.succ_eq (impl_ShapeWay.L0_lim ..).mon ?_
  simp only [impl_ShapeWay.l0]
  have m0 := @impl_ShapeWay.L1_lim
  exact li_
theorem impl_ShapeWay.L1_eq a b c d e f g h i j l m n o p q u v : impl_ShapeWay.L1 a b c d e f g h i j l m n o p q u v = ((impl_Shape_bends.f n o p q u v).bind fun t320 => (if 0 ≤ b then (if b < (t320.length : Int) then (if (rd t320 b) = c then (impl_ShapeWay.L0 a d e (wrap64 (f + 1)) g h i j l m n o p q u v) else ((impl_Shape_bends.f n o p q u v).bind fun t324 => (if b < (t324.length : Int) then ((impl_Shape_bends.f n o p q u v).bind fun t328 => (if b < (t328.length : Int) then ((cmp_Compare_int.f c (rd t328 b)).bind fun t332 => ((impl_Shape_with.f n o p q u v (wrap64 (b + 1)) (wrap64 ((rd t324 b) + t332))).bind fun bt333 => (if a.length < 2932031007402 then (impl_ShapeWay.L1 (a ++ [(⟨bt333.1, bt333.2.1, bt333.2.2.1, bt333.2.2.2.1, bt333.2.2.2.2.1, bt333.2.2.2.2.2⟩ : S25)]) b c d e f g h i j l m bt333.1 bt333.2.1 bt333.2.2.1 bt333.2.2.2.1 bt333.2.2.2.2.1 bt333.2.2.2.2.2) else (none)))) else (none))) else (none)))) else (none)) else (none))) := by
  refine Lim.succ_eq (impl_ShapeWay.L1_lim ..).mon ?_
  simp only [impl_ShapeWay.l1]
  have m0 := @impl_ShapeWay.L0_lim
  have m1 := @impl_ShapeWay.L1_lim
  exact li_
theorem impl_ShapeWay.F_eq a0_0 a0_1 a0_2 a0_3 a0_4 a0_5 a1_0 a1_1 a1_2 a1_3 a1_4 a1_5 : impl_ShapeWay.F a0_0 a0_1 a0_2 a0_3 a0_4 a0_5 a1_0 a1_1 a1_2 a1_3 a1_4 a1_5 = ((impl_IsShape.F a0_0 a0_1 a0_2 a0_3 a0_4 a0_5).bind fun t307 => (if t307 = true then ((impl_IsShape.F a1_0 a1_1 a1_2 a1_3 a1_4 a1_5).bind fun t308 => (impl_ShapeWay.J0 (!t308) a0_0 a0_1 a0_2 a0_3 a0_4 a0_5 a1_0 a1_1 a1_2 a1_3 a1_4 a1_5)) else (impl_ShapeWay.J0 true a0_0 a0_1 a0_2 a0_3 a0_4 a0_5 a1_0 a1_1 a1_2 a1_3 a1_4 a1_5))) := by
  refine Lim.eq_ ?_
  simp only [impl_ShapeWay.f]
  have m0 := @impl_ShapeWay.J0_lim
  have m1 := @impl_IsShape.F_lim
  exact li_
def spec_shSet.f (k : Nat) (a0_0 : Int) (a0_1 : Int) (a0_2 : Int) (a0_3 : Int) (a0_4 : Int) (a0_5 : Bool) (a1 : Int) (a2 : Int) : Option (Int × Int × Int × Int × Int × Bool) := if a1 = 0 then ((spec_shFingers.f a0_0 a0_1 a0_2 a0_3 a0_4 a0_5).bind fun t353 => ((spec_shMade.f k a2 t353 a0_5).bind fun bt356 => (some (bt356.1, bt356.2.1, bt356.2.2.1, bt356.2.2.2.1, bt356.2.2.2.2.1, bt356.2.2.2.2.2)))) else ((spec_shFingers.f a0_0 a0_1 a0_2 a0_3 a0_4 a0_5).bind fun t362 => (if 0 ≤ (wrap64 (a1 - 1)) then (if (wrap64 (a1 - 1)) < (t362.length : Int) then ((spec_shMade.f k a0_0 (t362.set ((wrap64 (a1 - 1)) : Int).toNat a2) a0_5).bind fun bt366 => (some (bt366.1, bt366.2.1, bt366.2.2.1, bt366.2.2.2.1, bt366.2.2.2.2.1, bt366.2.2.2.2.2))) else (none)) else (none)))
theorem spec_shSet.mono : ∀ a0 a1 a2 a3 a4 a5 a6 a7 k, LeO (spec_shSet.f k a0 a1 a2 a3 a4 a5 a6 a7) (spec_shSet.f (k + 1) a0 a1 a2 a3 a4 a5 a6 a7) := by
  intro a0 a1 a2 a3 a4 a5 a6 a7 k
  unfold spec_shSet.f
  have m0 := @spec_shMade.mono
  exact mo_
noncomputable def spec_shSet.F := fun a b c d e f g h => lim fun k => spec_shSet.f k a b c d e f g h
theorem spec_shSet.F_lim a b c d e f g h : Lim (fun k => spec_shSet.f k a b c d e f g h) (spec_shSet.F a b c d e f g h) := ⟨spec_shSet.mono a b c d e f g h, rfl⟩
theorem spec_shSet.F_eq a0_0 a0_1 a0_2 a0_3 a0_4 a0_5 a1 a2 : spec_shSet.F a0_0 a0_1 a0_2 a0_3 a0_4 a0_5 a1 a2 = (if a1 = 0 then ((spec_shFingers.f a0_0 a0_1 a0_2 a0_3 a0_4 a0_5).bind fun t353 => ((spec_shMade.F a2 t353 a0_5).bind fun bt356 => (some (bt356.1, bt356.2.1, bt356.2.2.1, bt356.2.2.2.1, bt356.2.2.2.2.1, bt356.2.2.2.2.2)))) else ((spec_shFingers.f a0_0 a0_1 a0_2 a0_3 a0_4 a0_5).bind fun t362 => (if 0 ≤ (wrap64 (a1 - 1)) then (if (wrap64 (a1 - 1)) < (t362.length : Int) then ((spec_shMade.F a0_0 (t362.set ((wrap64 (a1 - 1)) : Int).toNat a2) a0_5).bind fun bt366 => (some (bt366.1, bt366.2.1, bt366.2.2.1, bt366.2.2.2.1, bt366.2.2.2.2.1, bt366.2.2.2.2.2))) else (none)) else (none)))) := by
  refine Lim.eq_ ?_
  simp only [spec_shSet.f]
  have m0 := @spec_shMade.F_lim
  exact li_
def spec_l1Sign.f (a0 : Int) : Option (Int) := if a0 > 0 then (some 1) else (if a0 < 0 then (some (-1)) else (some 0))
mutual
def spec_ShapeWay.j0 : Nat → Bool → Int → Int → Int → Int → Int → Bool → Int → Int → Int → Int → Int → Bool → Option ((List (S25)) × Bool)
  | 0, _, _, _, _, _, _, _, _, _, _, _, _, _ => none
  | k + 1, a, b, c, d, e, f, g, h, i, j, l, m, n => if a = true then (some (([] : List (S25)), false)) else ((some (([(⟨b, c, d, e, f, g⟩ : S25)] : List (S25)) : List (S25))).bind fun y376 => (if g = true then (spec_ShapeWay.j1 k y376 (!n) h i j l m n b c d e f g) else (spec_ShapeWay.j1 k y376 false h i j l m n b c d e f g)))
def spec_ShapeWay.j1 : Nat → List (S25) → Bool → Int → Int → Int → Int → Int → Bool → Int → Int → Int → Int → Int → Bool → Option ((List (S25)) × Bool)
  | 0, _, _, _, _, _, _, _, _, _, _, _, _, _, _ => none
  | k + 1, a, b, c, d, e, f, g, h, i, j, l, m, n, o => if b = true then (if a.length < 2932031007402 then (spec_ShapeWay.j2 k (a ++ [(⟨i, j, l, m, n, false⟩ : S25)]) c d e f g h i j l m n false) else (none)) else (spec_ShapeWay.j2 k a c d e f g h i j l m n o)
def spec_ShapeWay.j2 : Nat → List (S25) → Int → Int → Int → Int → Int → Bool → Int → Int → Int → Int → Int → Bool → Option ((List (S25)) × Bool)
  | 0, _, _, _, _, _, _, _, _, _, _, _, _, _ => none
  | k + 1, a, b, c, d, e, f, g, h, i, j, l, m, n => (spec_shFingers.f b c d e f g).bind fun t383 => (spec_ShapeWay.l0 k a t383 (t383.length : Int) 0 b c d e f g h i j l m n)
def spec_ShapeWay.l0 : Nat → List (S25) → List Int → Int → Int → Int → Int → Int → Int → Int → Bool → Int → Int → Int → Int → Int → Bool → Option ((List (S25)) × Bool)
  | 0, _, _, _, _, _, _, _, _, _, _, _, _, _, _, _, _ => none
  | k + 1, a, b, c, d, e, f, g, h, i, j, l, m, n, o, p, q => if d < c then (if 0 ≤ d then (if d < (b.length : Int) then (spec_ShapeWay.l1 k a d (rd b d) b c d e f g h i j l m n o p q) else (none)) else (none)) else (if l = e then (if (!(l == e) || (!(m == f) || (!(n == g) || (!(o == h) || (!(p == i) || (!(q == j))))))) = true then (if a.length < 2932031007402 then (some ((a ++ [(⟨e, f, g, h, i, j⟩ : S25)]), true)) else (none)) else (some (a, true))) else ((spec_shSet.f k l m n o p q 0 e).bind fun bt412 => (if a.length < 2932031007402 then ((some (a ++ [(⟨bt412.1, bt412.2.1, bt412.2.2.1, bt412.2.2.2.1, bt412.2.2.2.2.1, bt412.2.2.2.2.2⟩ : S25)] : List (S25))).bind fun y418 => (if (!(bt412.1 == e) || (!(bt412.2.1 == f) || (!(bt412.2.2.1 == g) || (!(bt412.2.2.2.1 == h) || (!(bt412.2.2.2.2.1 == i) || (!(bt412.2.2.2.2.2 == j))))))) = true then (if y418.length < 2932031007402 then (some ((y418 ++ [(⟨e, f, g, h, i, j⟩ : S25)]), true)) else (none)) else (some (y418, true)))) else (none))))
def spec_ShapeWay.l1 : Nat → List (S25) → Int → Int → List Int → Int → Int → Int → Int → Int → Int → Int → Bool → Int → Int → Int → Int → Int → Bool → Option ((List (S25)) × Bool)
  | 0, _, _, _, _, _, _, _, _, _, _, _, _, _, _, _, _, _, _ => none
  | k + 1, a, b, c, d, e, f, g, h, i, j, l, m, n, o, p, q, u, v => (spec_shFingers.f n o p q u v).bind fun t387 => (if 0 ≤ b then (if b < (t387.length : Int) then (if (rd t387 b) = c then (spec_ShapeWay.l0 k a d e (wrap64 (f + 1)) g h i j l m n o p q u v) else ((spec_shFingers.f n o p q u v).bind fun t391 => (if b < (t391.length : Int) then ((spec_shFingers.f n o p q u v).bind fun t395 => (if b < (t395.length : Int) then ((spec_l1Sign.f (wrap64 (c - (rd t395 b)))).bind fun t399 => ((spec_shSet.f k n o p q u v (wrap64 (b + 1)) (wrap64 ((rd t391 b) + t399))).bind fun bt400 => (if a.length < 2932031007402 then (spec_ShapeWay.l1 k (a ++ [(⟨bt400.1, bt400.2.1, bt400.2.2.1, bt400.2.2.2.1, bt400.2.2.2.2.1, bt400.2.2.2.2.2⟩ : S25)]) b c d e f g h i j l m bt400.1 bt400.2.1 bt400.2.2.1 bt400.2.2.2.1 bt400.2.2.2.2.1 bt400.2.2.2.2.2) else (none)))) else (none))) else (none)))) else (none)) else (none))
end
def spec_ShapeWay.f (k : Nat) (a0_0 : Int) (a0_1 : Int) (a0_2 : Int) (a0_3 : Int) (a0_4 : Int) (a0_5 : Bool) (a1_0 : Int) (a1_1 : Int) (a1_2 : Int) (a1_3 : Int) (a1_4 : Int) (a1_5 : Bool) : Option ((List (S25)) × Bool) := (spec_shGood.f k a0_0 a0_1 a0_2 a0_3 a0_4 a0_5).bind fun t374 => (if t374 = true then ((spec_shGood.f k a1_0 a1_1 a1_2 a1_3 a1_4 a1_5).bind fun t375 => (spec_ShapeWay.j0 k (!t375) a0_0 a0_1 a0_2 a0_3 a0_4 a0_5 a1_0 a1_1 a1_2 a1_3 a1_4 a1_5)) else (spec_ShapeWay.j0 k true a0_0 a0_1 a0_2 a0_3 a0_4 a0_5 a1_0 a1_1 a1_2 a1_3 a1_4 a1_5))
theorem spec_ShapeWay.mono_l : ∀ k, (∀ a b c d e f g h i j l m n, LeO (spec_ShapeWay.j0 k a b c d e f g h i j l m n) (spec_ShapeWay.j0 (k + 1) a b c d e f g h i j l m n)) ∧ (∀ a b c d e f g h i j l m n o, LeO (spec_ShapeWay.j1 k a b c d e f g h i j l m n o) (spec_ShapeWay.j1 (k + 1) a b c d e f g h i j l m n o)) ∧ (∀ a b c d e f g h i j l m n, LeO (spec_ShapeWay.j2 k a b c d e f g h i j l m n) (spec_ShapeWay.j2 (k + 1) a b c d e f g h i j l m n)) ∧ (∀ a b c d e f g h i j l m n o p q, LeO (spec_ShapeWay.l0 k a b c d e f g h i j l m n o p q) (spec_ShapeWay.l0 (k + 1) a b c d e f g h i j l m n o p q)) ∧ (∀ a b c d e f g h i j l m n o p q u v, LeO (spec_ShapeWay.l1 k a b c d e f g h i j l m n o p q u v) (spec_ShapeWay.l1 (k + 1) a b c d e f g h i j l m n o p q u v))
  | 0 => ⟨fun _ _ _ _ _ _ _ _ _ _ _ _ _ => LeO.none _, fun _ _ _ _ _ _ _ _ _ _ _ _ _ _ => LeO.none _, fun _ _ _ _ _ _ _ _ _ _ _ _ _ => LeO.none _, fun _ _ _ _ _ _ _ _ _ _ _ _ _ _ _ _ => LeO.none _, fun _ _ _ _ _ _ _ _ _ _ _ _ _ _ _ _ _ _ => LeO.none _⟩
  | k + 1 => by
    obtain ⟨ih0, ih1, ih2, ih3, ih4⟩ := spec_ShapeWay.mono_l k
    have m0 := @spec_shGood.mono
    have m1 := @spec_shSet.mono
    refine ⟨?_, ?_, ?_, ?_, ?_⟩
    · intros; unfold spec_ShapeWay.j0; exact mo_
    · intros; unfold spec_ShapeWay.j1; exact mo_
    · intros; unfold spec_ShapeWay.j2; exact mo_
    · intros; unfold spec_ShapeWay.l0; exact mo_
    · intros; unfold spec_ShapeWay.l1; exact mo_
theorem spec_ShapeWay.mono : ∀ a0 a1 a2 a3 a4 a5 a6 a7 a8 a9 a10 a11 k, LeO (spec_ShapeWay.f k a0 a1 a2 a3 a4 a5 a6 a7 a8 a9 a10 a11) (spec_ShapeWay.f (k + 1) a0 a1 a2 a3 a4 a5 a6 a7 a8 a9 a10 a11) := by
  intro a0 a1 a2 a3 a4 a5 a6 a7 a8 a9 a10 a11 k
  obtain ⟨ih0, ih1, ih2, ih3, ih4⟩ := spec_ShapeWay.mono_l k
  unfold spec_ShapeWay.f
  have m0 := @spec_shGood.mono
  have m1 := @spec_shSet.mono
  exact mo_
noncomputable def spec_ShapeWay.J0 := fun a b c d e f g h i j l m n => lim fun k => spec_ShapeWay.j0 k a b c d e f g h i j l m n
theorem spec_ShapeWay.J0_lim a b c d e f g h i j l m n : Lim (fun k => spec_ShapeWay.j0 k a b c d e f g h i j l m n) (spec_ShapeWay.J0 a b c d e f g h i j l m n) := ⟨fun k => (spec_ShapeWay.mono_l k).1 a b c d e f g h i j l m n, rfl⟩
noncomputable def spec_ShapeWay.J1 := fun a b c d e f g h i j l m n o => lim fun k => spec_ShapeWay.j1 k a b c d e f g h i j l m n o
theorem spec_ShapeWay.J1_lim a b c d e f g h i j l m n o : Lim (fun k => spec_ShapeWay.j1 k a b c d e f g h i j l m n o) (spec_ShapeWay.J1 a b c d e f g h i j l m n o) := ⟨fun k => (spec_ShapeWay.mono_l k).2.1 a b c d e f g h i j l m n o, rfl⟩
noncomputable def spec_ShapeWay.J2 := fun a b c d e f g h i j l m n => lim fun k => spec_ShapeWay.j2 k a b c d e f g h i j l m n
theorem spec_ShapeWay.J2_lim a b c d e f g h i j l m n : Lim (fun k => spec_ShapeWay.j2 k a b c d e f g h i j l m n) (spec_ShapeWay.J2 a b c d e f g h i j l m n) := ⟨fun k => (spec_ShapeWay.mono_l k).2.2.1 a b c d e f g h i j l m n, rfl⟩
noncomputable def spec_ShapeWay.L0 := fun a b c d e f g h i j l m n o p q => lim fun k => spec_ShapeWay.l0 k a b c d e f g h i j l m n o p q
theorem spec_ShapeWay.L0_lim a b c d e f g h i j l m n o p q : Lim (fun k => spec_ShapeWay.l0 k a b c d e f g h i j l m n o p q) (spec_ShapeWay.L0 a b c d e f g h i j l m n o p q) := ⟨fun k => (spec_ShapeWay.mono_l k).2.2.2.1 a b c d e f g h i j l m n o p q, rfl⟩
noncomputable def spec_ShapeWay.L1 := fun a b c d e f g h i j l m n o p q u v => lim fun k => spec_ShapeWay.l1 k a b c d e f g h i j l m n o p q u v
theorem spec_ShapeWay.L1_lim a b c d e f g h i j l m n o p q u v : Lim (fun k => spec_ShapeWay.l1 k a b c d e f g h i j l m n o p q u v) (spec_ShapeWay.L1 a b c d e f g h i j l m n o p q u v) := ⟨fun k => (spec_ShapeWay.mono_l k).2.2.2.2 a b c d e f g h i j l m n o p q u v, rfl⟩
noncomputable def spec_ShapeWay.F := fun a b c d e f g h i j l m => lim fun k => spec_ShapeWay.f k a b c d e f g h i j l m
theorem spec_ShapeWay.F_lim a b c d e f g h i j l m : Lim (fun k => spec_ShapeWay.f k a b c d e f g h i j l m) (spec_ShapeWay.F a b c d e f g h i j l m) := ⟨spec_ShapeWay.mono a b c d e f g h i j l m, rfl⟩
theorem spec_ShapeWay.J0_eq a b c d e f g h i j l m n : spec_ShapeWay.J0 a b c d e f g h i j l m n = (if a = true then (some (([] : List (S25)), false)) else ((some (([(⟨b, c, d, e, f, g⟩ : S25)] : List (S25)) : List (S25))).bind fun y376 => (if g = true then (spec_ShapeWay.J1 y376 (!n) h i j l m n b c d e f g) else (spec_ShapeWay.J1 y376 false h i j l m n b c d e f g)))) := by
  refine Lim.succ_eq (spec_ShapeWay.J0_lim ..).mon ?_
  simp only [spec_ShapeWay.j0]
  have m0 := @spec_ShapeWay.J1_lim
  exact li_
theorem spec_ShapeWay.J1_eq a b c d e f g h i j l m n o : spec_ShapeWay.J1 a b c d e f g h i j l m n o = (if b = true then (if a.length < 2932031007402 then (spec_ShapeWay.J2 (a ++ [(⟨i, j, l, m, n, false⟩ : S25)]) c d e f g h i j l m n false) else (none)) else (spec_ShapeWay.J2 a c d e f g h i j l m n o)) := by
  refine Lim.succ_eq (spec_ShapeWay.J1_lim ..).mon ?_
  simp only [spec_ShapeWay.j1]
  have m0 := @spec_ShapeWay.J2_lim
  exact li_
theorem spec_ShapeWay.J2_eq a b c d e f g h i j l m n : spec_ShapeWay.J2 a b c d e f g h i j l m n = ((spec_shFingers.f b c d e f g).bind fun t383 => (spec_ShapeWay.L0 a t383 (t383.length : Int) 0 b c d e f g h i j l m n)) := by
  refine Lim.succ_eq (spec_ShapeWay.J2_lim ..).mon ?_
  simp only [spec_ShapeWay.j2]
  have m0 := @spec_ShapeWay.L0_lim
  exact li_
theorem spec_ShapeWay.L0_eq a b c d e f g h i j l m n o p q : spec_ShapeWay.L0 a b c d e f g h i j l m n o p q = (if d < c then (if 0 ≤ d then (if d < (b.length : Int) then (spec_ShapeWay.L1 a d (rd b d) b c d e f g h i j l m n o p q) else (none)) else (none)) else (if l = e then (if (!(l == e) || (!(m == f) || (!(n == g) || (!(o == h) || (!(p == i) || (!(q == j))))))) = true then (if a.length < 2932031007402 then (some ((a ++ [(⟨e, f, g, h, i, j⟩ : S25)]), true)) else (none)) else (some (a, true))) else ((spec_shSet.F l m n o p q 0 e).bind fun bt412 => (if a.length < 2932031007402 then ((some (a ++ [(⟨bt412.1, bt412.2.1, bt412.2.2.1, bt412.2.2.2.1, bt412.2.2.2.2.1, bt412.2.2.2.2.2⟩ : S25)] : List (S25))).bind fun y418 => (if (!(bt412.1 == e) || (!(bt412.2.1 == f) || (!(bt412.2.2.1 == g) || (!(bt412.2.2.2.1 == h) || (!(bt412.2.2.2.2.1 == i) || (!(bt412.2.2.2.2.2 == j))))))) = true then (if y418.length < 2932031007402 then (some ((y418 ++ [(⟨e, f, g, h, i, j⟩ : S25)]), true)) else (none)) else (some (y418, true)))) else (none))))) := by
  refine Lim.succ_eq (spec_ShapeWay.L0_lim ..).mon ?_
  simp only [spec_ShapeWay.l0]
  have m0 := @spec_ShapeWay.L1_lim
  have m1 := @spec_shSet.F_lim
  exact li_
theorem spec_ShapeWay.L1_eq a b c d e f g h i j l m n o p q u v : spec_ShapeWay.L1 a b c d e f g h i j l m n o p q u v = ((spec_shFingers.f n o p q u v).bind fun t387 => (if 0 ≤ b then (if b < (t387.length : Int) then (if (rd t387 b) = c then (spec_ShapeWay.L0 a d e (wrap64 (f + 1)) g h i j l m n o p q u v) else ((spec_shFingers.f n o p q u v).bind fun t391 => (if b < (t391.length : Int) then ((spec_shFingers.f n o p q u v).bind fun t395 => (if b < (t395.length : Int) then ((spec_l1Sign.f (wrap64 (c - (rd t395 b)))).bind fun t399 => ((spec_shSet.F n o p q u v (wrap64 (b + 1)) (wrap64 ((rd t391 b) + t399))).bind fun bt400 => (if a.length < 2932031007402 then (spec_ShapeWay.L1 (a ++ [(⟨bt400.1, bt400.2.1, bt400.2.2.1, bt400.2.2.2.1, bt400.2.2.2.2.1, bt400.2.2.2.2.2⟩ : S25)]) b c d e f g h i j l m bt400.1 bt400.2.1 bt400.2.2.1 bt400.2.2.2.1 bt400.2.2.2.2.1 bt400.2.2.2.2.2) else (none)))) else (none))) else (none)))) else (none)) else (none))) := by
  refine Lim.succ_eq (spec_ShapeWay.L1_lim ..).mon ?_
  simp only [spec_ShapeWay.l1]
  have m0 := @spec_ShapeWay.L0_lim
  have m1 := @spec_ShapeWay.L1_lim
  have m2 := @spec_shSet.F_lim
  exact li_
theorem spec_ShapeWay.F_eq a0_0 a0_1 a0_2 a0_3 a0_4 a0_5 a1_0 a1_1 a1_2 a1_3 a1_4 a1_5 : spec_ShapeWay.F a0_0 a0_1 a0_2 a0_3 a0_4 a0_5 a1_0 a1_1 a1_2 a1_3 a1_4 a1_5 = ((spec_shGood.F a0_0 a0_1 a0_2 a0_3 a0_4 a0_5).bind fun t374 => (if t374 = true then ((spec_shGood.F a1_0 a1_1 a1_2 a1_3 a1_4 a1_5).bind fun t375 => (spec_ShapeWay.J0 (!t375) a0_0 a0_1 a0_2 a0_3 a0_4 a0_5 a1_0 a1_1 a1_2 a1_3 a1_4 a1_5)) else (spec_ShapeWay.J0 true a0_0 a0_1 a0_2 a0_3 a0_4 a0_5 a1_0 a1_1 a1_2 a1_3 a1_4 a1_5))) := by
  refine Lim.eq_ ?_
  simp only [spec_ShapeWay.f]
  have m0 := @spec_ShapeWay.J0_lim
  have m1 := @spec_shGood.F_lim
  exact li_
def impl_distance.f (a0 : Int) (a1 : Int) : Option (Int) := some (mx (wrap64 (a0 - a1)) (wrap64 (a1 - a0)))
def impl_Shape_distance.l0 : Nat → Int → List Int → Int → Int → Int → Int → Int → Int → Int → Bool → Int → Int → Int → Int → Int → Bool → Option (Int)
  | 0, _, _, _, _, _, _, _, _, _, _, _, _, _, _, _, _ => none
  | k + 1, a, b, c, d, e, f, g, h, i, j, l, m, n, o, p, q => if d < c then (if 0 ≤ d then (if d < (b.length : Int) then ((impl_Shape_bends.f l m n o p q).bind fun t430 => (if d < (t430.length : Int) then ((impl_distance.f (rd b d) (rd t430 d)).bind fun t434 => (impl_Shape_distance.l0 k (wrap64 (a + t434)) b c (wrap64 (d + 1)) e f g h i j l m n o p q)) else (none))) else (none)) else (none)) else (if e = l then (if (j != q) = true then (some (wrap64 (a + 1))) else (some a)) else (if (j != q) = true then (some (wrap64 ((wrap64 (a + 1)) + 1))) else (some (wrap64 (a + 1)))))
def impl_Shape_distance.f (k : Nat) (a0_0 : Int) (a0_1 : Int) (a0_2 : Int) (a0_3 : Int) (a0_4 : Int) (a0_5 : Bool) (a1_0 : Int) (a1_1 : Int) (a1_2 : Int) (a1_3 : Int) (a1_4 : Int) (a1_5 : Bool) : Option (Int) := (impl_Shape_bends.f a0_0 a0_1 a0_2 a0_3 a0_4 a0_5).bind fun t426 => (impl_Shape_distance.l0 k 0 t426 (t426.length : Int) 0 a0_0 a0_1 a0_2 a0_3 a0_4 a0_5 a1_0 a1_1 a1_2 a1_3 a1_4 a1_5)
theorem impl_Shape_distance.mono_l : ∀ k, (∀ a b c d e f g h i j l m n o p q, LeO (impl_Shape_distance.l0 k a b c d e f g h i j l m n o p q) (impl_Shape_distance.l0 (k + 1) a b c d e f g h i j l m n o p q))
  | 0 => fun _ _ _ _ _ _ _ _ _ _ _ _ _ _ _ _ => LeO.none _
  | k + 1 => by
    have ih0 := impl_Shape_distance.mono_l k
    · intros; unfold impl_Shape_distance.l0; exact mo_
theorem impl_Shape_distance.mono : ∀ a0 a1 a2 a3 a4 a5 a6 a7 a8 a9 a10 a11 k, LeO (impl_Shape_distance.f k a0 a1 a2 a3 a4 a5 a6 a7 a8 a9 a10 a11) (impl_Shape_distance.f (k + 1) a0 a1 a2 a3 a4 a5 a6 a7 a8 a9 a10 a11) := by
  intro a0 a1 a2 a3 a4 a5 a6 a7 a8 a9 a10 a11 k
  have ih0 := impl_Shape_distance.mono_l k
  unfold impl_Shape_distance.f
  exact mo_
noncomputable def impl_Shape_distance.L0 := fun a b c d e f g h i j l m n o p q => lim fun k => impl_Shape_distance.l0 k a b c d e f g h i j l m n o p q
theorem impl_Shape_distance.L0_lim a b c d e f g h i j l m n o p q : Lim (fun k => impl_Shape_distance.l0 k a b c d e f g h i j l m n o p q) (impl_Shape_distance.L0 a b c d e f g h i j l m n o p q) := ⟨fun k => (impl_Shape_distance.mono_l k) a b c d e f g h i j l m n o p q, rfl⟩
noncomputable def impl_Shape_distance.F := fun a b c d e f g h i j l m => lim fun k => impl_Shape_distance.f k a b c d e f g h i j l m
theorem impl_Shape_distance.F_lim a b c d e f g h i j l m : Lim (fun k => impl_Shape_distance.f k a b c d e f g h i j l m) (impl_Shape_distance.F a b c d e f g h i j l m) := ⟨impl_Shape_distance.mono a b c d e f g h i j l m, rfl⟩
theorem impl_Shape_distance.L0_eq a b c d e f g h i j l m n o p q : impl_Shape_distance.L0 a b c d e f g h i j l m n o p q = (if d < c then (if 0 ≤ d then (if d < (b.length : Int) then ((impl_Shape_bends.f l m n o p q).bind fun t430 => (if d < (t430.length : Int) then ((impl_distance.f (rd b d) (rd t430 d)).bind fun t434 => (impl_Shape_distance.L0 (wrap64 (a + t434)) b c (wrap64 (d + 1)) e f g h i j l m n o p q)) else (none))) else (none)) else (none)) else (if e = l then (if (j != q) = true then (some (wrap64 (a + 1))) else (some a)) else (if (j != q) = true then (some (wrap64 ((wrap64 (a + 1)) + 1))) else (some (wrap64 (a + 1)))))) := by
  refine Lim.succ_eq (impl_Shape_distance.L0_lim ..).mon ?_
  simp only [impl_Shape_distance.l0]
  have m0 := @impl_Shape_distance.L0_lim
  exact li_
theorem impl_Shape_distance.F_eq a0_0 a0_1 a0_2 a0_3 a0_4 a0_5 a1_0 a1_1 a1_2 a1_3 a1_4 a1_5 : impl_Shape_distance.F a0_0 a0_1 a0_2 a0_3 a0_4 a0_5 a1_0 a1_1 a1_2 a1_3 a1_4 a1_5 = ((impl_Shape_bends.f a0_0 a0_1 a0_2 a0_3 a0_4 a0_5).bind fun t426 => (impl_Shape_distance.L0 0 t426 (t426.length : Int) 0 a0_0 a0_1 a0_2 a0_3 a0_4 a0_5 a1_0 a1_1 a1_2 a1_3 a1_4 a1_5)) := by
  refine Lim.eq_ ?_
  simp only [impl_Shape_distance.f]
  have m0 := @impl_Shape_distance.L0_lim
  exact li_
def impl_ShapeDistance.f (k : Nat) (a0_0 : Int) (a0_1 : Int) (a0_2 : Int) (a0_3 : Int) (a0_4 : Int) (a0_5 : Bool) (a1_0 : Int) (a1_1 : Int) (a1_2 : Int) (a1_3 : Int) (a1_4 : Int) (a1_5 : Bool) : Option (Int × Bool) := (impl_IsShape.f k a0_0 a0_1 a0_2 a0_3 a0_4 a0_5).bind fun t437 => (if t437 = true then ((impl_IsShape.f k a1_0 a1_1 a1_2 a1_3 a1_4 a1_5).bind fun t438 => (if t438 = true then ((impl_Shape_distance.f k a0_0 a0_1 a0_2 a0_3 a0_4 a0_5 a1_0 a1_1 a1_2 a1_3 a1_4 a1_5).bind fun t439 => (some (t439, true))) else (some (0, false)))) else (some (0, false)))
theorem impl_ShapeDistance.mono : ∀ a0 a1 a2 a3 a4 a5 a6 a7 a8 a9 a10 a11 k, LeO (impl_ShapeDistance.f k a0 a1 a2 a3 a4 a5 a6 a7 a8 a9 a10 a11) (impl_ShapeDistance.f (k + 1) a0 a1 a2 a3 a4 a5 a6 a7 a8 a9 a10 a11) := by
  intro a0 a1 a2 a3 a4 a5 a6 a7 a8 a9 a10 a11 k
  unfold impl_ShapeDistance.f
  have m0 := @impl_IsShape.mono
  have m1 := @impl_Shape_distance.mono
  exact mo_
noncomputable def impl_ShapeDistance.F := fun a b c d e f g h i j l m => lim fun k => impl_ShapeDistance.f k a b c d e f g h i j l m
theorem impl_ShapeDistance.F_lim a b c d e f g h i j l m : Lim (fun k => impl_ShapeDistance.f k a b c d e f g h i j l m) (impl_ShapeDistance.F a b c d e f g h i j l m) := ⟨impl_ShapeDistance.mono a b c d e f g h i j l m, rfl⟩
theorem impl_ShapeDistance.F_eq a0_0 a0_1 a0_2 a0_3 a0_4 a0_5 a1_0 a1_1 a1_2 a1_3 a1_4 a1_5 : impl_ShapeDistance.F a0_0 a0_1 a0_2 a0_3 a0_4 a0_5 a1_0 a1_1 a1_2 a1_3 a1_4 a1_5 = ((impl_IsShape.F a0_0 a0_1 a0_2 a0_3 a0_4 a0_5).bind fun t437 => (if t437 = true then ((impl_IsShape.F a1_0 a1_1 a1_2 a1_3 a1_4 a1_5).bind fun t438 => (if t438 = true then ((impl_Shape_distance.F a0_0 a0_1 a0_2 a0_3 a0_4 a0_5 a1_0 a1_1 a1_2 a1_3 a1_4 a1_5).bind fun t439 => (some (t439, true))) else (some (0, false)))) else (some (0, false)))) := by
  refine Lim.eq_ ?_
  simp only [impl_ShapeDistance.f]
  have m0 := @impl_IsShape.F_lim
  have m1 := @impl_Shape_distance.F_lim
  exact li_
def spec_l1Most.f (a0 : Int) (a1 : Int) : Option (Int) := if a0 > a1 then (some a0) else (some a1)
def spec_l1Abs.f (a0 : Int) : Option (Int) := (spec_l1Most.f a0 (wrap64 (-a0))).bind fun t440 => (some t440)
def spec_shFar.l0 : Nat → List Int → List Int → Int → Int → Int → Int → Int → Int → Int → Int → Bool → Int → Int → Int → Int → Int → Bool → Option (Int)
  | 0, _, _, _, _, _, _, _, _, _, _, _, _, _, _, _, _, _ => none
  | k + 1, a, b, c, d, e, f, g, h, i, j, l, m, n, o, p, q, u => if e < d then (if 0 ≤ e then (if e < (a.length : Int) then (if e < (b.length : Int) then ((spec_l1Abs.f (wrap64 ((rd a e) - (rd b e)))).bind fun t451 => (spec_shFar.l0 k a b (wrap64 (c + t451)) d (wrap64 (e + 1)) f g h i j l m n o p q u)) else (none)) else (none)) else (none)) else (if f = m then (if (l != u) = true then (some (wrap64 (c + 1))) else (some c)) else (if (l != u) = true then (some (wrap64 ((wrap64 (c + 1)) + 1))) else (some (wrap64 (c + 1)))))
def spec_shFar.f (k : Nat) (a0_0 : Int) (a0_1 : Int) (a0_2 : Int) (a0_3 : Int) (a0_4 : Int) (a0_5 : Bool) (a1_0 : Int) (a1_1 : Int) (a1_2 : Int) (a1_3 : Int) (a1_4 : Int) (a1_5 : Bool) : Option (Int) := (spec_shFingers.f a0_0 a0_1 a0_2 a0_3 a0_4 a0_5).bind fun t443 => ((spec_shFingers.f a1_0 a1_1 a1_2 a1_3 a1_4 a1_5).bind fun t446 => (spec_shFar.l0 k t443 t446 0 (t443.length : Int) 0 a0_0 a0_1 a0_2 a0_3 a0_4 a0_5 a1_0 a1_1 a1_2 a1_3 a1_4 a1_5))
theorem spec_shFar.mono_l : ∀ k, (∀ a b c d e f g h i j l m n o p q u, LeO (spec_shFar.l0 k a b c d e f g h i j l m n o p q u) (spec_shFar.l0 (k + 1) a b c d e f g h i j l m n o p q u))
  | 0 => fun _ _ _ _ _ _ _ _ _ _ _ _ _ _ _ _ _ => LeO.none _
  | k + 1 => by
    have ih0 := spec_shFar.mono_l k
    · intros; unfold spec_shFar.l0; exact mo_
theorem spec_shFar.mono : ∀ a0 a1 a2 a3 a4 a5 a6 a7 a8 a9 a10 a11 k, LeO (spec_shFar.f k a0 a1 a2 a3 a4 a5 a6 a7 a8 a9 a10 a11) (spec_shFar.f (k + 1) a0 a1 a2 a3 a4 a5 a6 a7 a8 a9 a10 a11) := by
  intro a0 a1 a2 a3 a4 a5 a6 a7 a8 a9 a10 a11 k
  have ih0 := spec_shFar.mono_l k
  unfold spec_shFar.f
  exact mo_
noncomputable def spec_shFar.L0 := fun a b c d e f g h i j l m n o p q u => lim fun k => spec_shFar.l0 k a b c d e f g h i j l m n o p q u
theorem spec_shFar.L0_lim a b c d e f g h i j l m n o p q u : Lim (fun k => spec_shFar.l0 k a b c d e f g h i j l m n o p q u) (spec_shFar.L0 a b c d e f g h i j l m n o p q u) := ⟨fun k => (spec_shFar.mono_l k) a b c d e f g h i j l m n o p q u, rfl⟩
noncomputable def spec_shFar.F := fun a b c d e f g h i j l m => lim fun k => spec_shFar.f k a b c d e f g h i j l m
theorem spec_shFar.F_lim a b c d e f g h i j l m : Lim (fun k => spec_shFar.f k a b c d e f g h i j l m) (spec_shFar.F a b c d e f g h i j l m) := ⟨spec_shFar.mono a b c d e f g h i j l m, rfl⟩
theorem spec_shFar.L0_eq a b c d e f g h i j l m n o p q u : spec_shFar.L0 a b c d e f g h i j l m n o p q u = (if e < d then (if 0 ≤ e then (if e < (a.length : Int) then (if e < (b.length : Int) then ((spec_l1Abs.f (wrap64 ((rd a e) - (rd b e)))).bind fun t451 => (spec_shFar.L0 a b (wrap64 (c + t451)) d (wrap64 (e + 1)) f g h i j l m n o p q u)) else (none)) else (none)) else (none)) else (if f = m then (if (l != u) = true then (some (wrap64 (c + 1))) else (some c)) else (if (l != u) = true then (some (wrap64 ((wrap64 (c + 1)) + 1))) else (some (wrap64 (c + 1)))))) := by
  refine Lim.succ_eq (spec_shFar.L0_lim ..).mon ?_
  simp only [spec_shFar.l0]
  have m0 := @spec_shFar.L0_lim
  exact li_
theorem spec_shFar.F_eq a0_0 a0_1 a0_2 a0_3 a0_4 a0_5 a1_0 a1_1 a1_2 a1_3 a1_4 a1_5 : spec_shFar.F a0_0 a0_1 a0_2 a0_3 a0_4 a0_5 a1_0 a1_1 a1_2 a1_3 a1_4 a1_5 = ((spec_shFingers.f a0_0 a0_1 a0_2 a0_3 a0_4 a0_5).bind fun t443 => ((spec_shFingers.f a1_0 a1_1 a1_2 a1_3 a1_4 a1_5).bind fun t446 => (spec_shFar.L0 t443 t446 0 (t443.length : Int) 0 a0_0 a0_1 a0_2 a0_3 a0_4 a0_5 a1_0 a1_1 a1_2 a1_3 a1_4 a1_5))) := by
  refine Lim.eq_ ?_
  simp only [spec_shFar.f]
  have m0 := @spec_shFar.L0_lim
  exact li_
def spec_ShapeDistance.f (k : Nat) (a0_0 : Int) (a0_1 : Int) (a0_2 : Int) (a0_3 : Int) (a0_4 : Int) (a0_5 : Bool) (a1_0 : Int) (a1_1 : Int) (a1_2 : Int) (a1_3 : Int) (a1_4 : Int) (a1_5 : Bool) : Option (Int × Bool) := (spec_shGood.f k a0_0 a0_1 a0_2 a0_3 a0_4 a0_5).bind fun t454 => (if t454 = true then ((spec_shGood.f k a1_0 a1_1 a1_2 a1_3 a1_4 a1_5).bind fun t455 => (if t455 = true then ((spec_shFar.f k a0_0 a0_1 a0_2 a0_3 a0_4 a0_5 a1_0 a1_1 a1_2 a1_3 a1_4 a1_5).bind fun t456 => (some (t456, true))) else (some (0, false)))) else (some (0, false)))
theorem spec_ShapeDistance.mono : ∀ a0 a1 a2 a3 a4 a5 a6 a7 a8 a9 a10 a11 k, LeO (spec_ShapeDistance.f k a0 a1 a2 a3 a4 a5 a6 a7 a8 a9 a10 a11) (spec_ShapeDistance.f (k + 1) a0 a1 a2 a3 a4 a5 a6 a7 a8 a9 a10 a11) := by
  intro a0 a1 a2 a3 a4 a5 a6 a7 a8 a9 a10 a11 k
  unfold spec_ShapeDistance.f
  have m0 := @spec_shFar.mono
  have m1 := @spec_shGood.mono
  exact mo_
noncomputable def spec_ShapeDistance.F := fun a b c d e f g h i j l m => lim fun k => spec_ShapeDistance.f k a b c d e f g h i j l m
theorem spec_ShapeDistance.F_lim a b c d e f g h i j l m : Lim (fun k => spec_ShapeDistance.f k a b c d e f g h i j l m) (spec_ShapeDistance.F a b c d e f g h i j l m) := ⟨spec_ShapeDistance.mono a b c d e f g h i j l m, rfl⟩
theorem spec_ShapeDistance.F_eq a0_0 a0_1 a0_2 a0_3 a0_4 a0_5 a1_0 a1_1 a1_2 a1_3 a1_4 a1_5 : spec_ShapeDistance.F a0_0 a0_1 a0_2 a0_3 a0_4 a0_5 a1_0 a1_1 a1_2 a1_3 a1_4 a1_5 = ((spec_shGood.F a0_0 a0_1 a0_2 a0_3 a0_4 a0_5).bind fun t454 => (if t454 = true then ((spec_shGood.F a1_0 a1_1 a1_2 a1_3 a1_4 a1_5).bind fun t455 => (if t455 = true then ((spec_shFar.F a0_0 a0_1 a0_2 a0_3 a0_4 a0_5 a1_0 a1_1 a1_2 a1_3 a1_4 a1_5).bind fun t456 => (some (t456, true))) else (some (0, false)))) else (some (0, false)))) := by
  refine Lim.eq_ ?_
  simp only [spec_ShapeDistance.f]
  have m0 := @spec_shFar.F_lim
  have m1 := @spec_shGood.F_lim
  exact li_
mutual
def impl_BetweenShapes.j0 : Nat → Bool → Int → Int → Int → Int → Int → Bool → Int → Int → Int → Int → Int → Bool → Option (Int × Int × Int × Int × Int × Bool × Bool)
  | 0, _, _, _, _, _, _, _, _, _, _, _, _, _ => none
  | k + 1, a, b, c, d, e, f, g, h, i, j, l, m, n => if a = true then (some (0, 0, 0, 0, 0, false, false)) else ((impl_Shape_bends.f b c d e f g).bind fun t463 => (impl_BetweenShapes.l0 k t463 (t463.length : Int) 0 h i j l m n b 0 0 0 0 false))
def impl_BetweenShapes.l0 : Nat → List Int → Int → Int → Int → Int → Int → Int → Int → Bool → Int → Int → Int → Int → Int → Bool → Option (Int × Int × Int × Int × Int × Bool × Bool)
  | 0, _, _, _, _, _, _, _, _, _, _, _, _, _, _, _ => none
  | k + 1, a, b, c, d, e, f, g, h, i, j, l, m, n, o, p => if c < b then (if 0 ≤ c then (if c < (a.length : Int) then ((impl_Shape_bends.f d e f g h i).bind fun t467 => (if c < (t467.length : Int) then ((impl_Shape_with.f j l m n o p (wrap64 (c + 1)) (wrap64 (Int.tdiv (wrap64 ((rd a c) + (rd t467 c))) 2))).bind fun bt471 => (impl_BetweenShapes.l0 k a b (wrap64 (c + 1)) d e f g h i bt471.1 bt471.2.1 bt471.2.2.1 bt471.2.2.2.1 bt471.2.2.2.2.1 bt471.2.2.2.2.2)) else (none))) else (none)) else (none)) else (some (j, l, m, n, o, p, true))
end
def impl_BetweenShapes.f (k : Nat) (a0_0 : Int) (a0_1 : Int) (a0_2 : Int) (a0_3 : Int) (a0_4 : Int) (a0_5 : Bool) (a1_0 : Int) (a1_1 : Int) (a1_2 : Int) (a1_3 : Int) (a1_4 : Int) (a1_5 : Bool) : Option (Int × Int × Int × Int × Int × Bool × Bool) := (impl_IsShape.f k a0_0 a0_1 a0_2 a0_3 a0_4 a0_5).bind fun t460 => (if t460 = true then ((impl_IsShape.f k a1_0 a1_1 a1_2 a1_3 a1_4 a1_5).bind fun t461 => (impl_BetweenShapes.j0 k (!t461) a0_0 a0_1 a0_2 a0_3 a0_4 a0_5 a1_0 a1_1 a1_2 a1_3 a1_4 a1_5)) else (impl_BetweenShapes.j0 k true a0_0 a0_1 a0_2 a0_3 a0_4 a0_5 a1_0 a1_1 a1_2 a1_3 a1_4 a1_5))
theorem impl_BetweenShapes.mono_l : ∀ k, (∀ a b c d e f g h i j l m n, LeO (impl_BetweenShapes.j0 k a b c d e f g h i j l m n) (impl_BetweenShapes.j0 (k + 1) a b c d e f g h i j l m n)) ∧ (∀ a b c d e f g h i j l m n o p, LeO (impl_BetweenShapes.l0 k a b c d e f g h i j l m n o p) (impl_BetweenShapes.l0 (k + 1) a b c d e f g h i j l m n o p))
  | 0 => ⟨fun _ _ _ _ _ _ _ _ _ _ _ _ _ => LeO.none _, fun _ _ _ _ _ _ _ _ _ _ _ _ _ _ _ => LeO.none _⟩
  | k + 1 => by
    obtain ⟨ih0, ih1⟩ := impl_BetweenShapes.mono_l k
    have m0 := @impl_IsShape.mono
    refine ⟨?_, ?_⟩
    · intros; unfold impl_BetweenShapes.j0; exact mo_
    · intros; unfold impl_BetweenShapes.l0; exact mo_
theorem impl_BetweenShapes.mono : ∀ a0 a1 a2 a3 a4 a5 a6 a7 a8 a9 a10 a11 k, LeO (impl_BetweenShapes.f k a0 a1 a2 a3 a4 a5 a6 a7 a8 a9 a10 a11) (impl_BetweenShapes.f (k + 1) a0 a1 a2 a3 a4 a5 a6 a7 a8 a9 a10 a11) := by
  intro a0 a1 a2 a3 a4 a5 a6 a7 a8 a9 a10 a11 k
  obtain ⟨ih0, ih1⟩ := impl_BetweenShapes.mono_l k
  unfold impl_BetweenShapes.f
  have m0 := @impl_IsShape.mono
  exact mo_
noncomputable def impl_BetweenShapes.J0 := fun a b c d e f g h i j l m n => lim fun k => impl_BetweenShapes.j0 k a b c d e f g h i j l m n
theorem impl_BetweenShapes.J0_lim a b c d e f g h i j l m n : Lim (fun k => impl_BetweenShapes.j0 k a b c d e f g h i j l m n) (impl_BetweenShapes.J0 a b c d e f g h i j l m n) := ⟨fun k => (impl_BetweenShapes.mono_l k).1 a b c d e f g h i j l m n, rfl⟩
noncomputable def impl_BetweenShapes.L0 := fun a b c d e f g h i j l m n o p => lim fun k => impl_BetweenShapes.l0 k a b c d e f g h i j l m n o p
theorem impl_BetweenShapes.L0_lim a b c d e f g h i j l m n o p : Lim (fun k => impl_BetweenShapes.l0 k a b c d e f g h i j l m n o p) (impl_BetweenShapes.L0 a b c d e f g h i j l m n o p) := ⟨fun k => (impl_BetweenShapes.mono_l k).2 a b c d e f g h i j l m n o p, rfl⟩
noncomputable def impl_BetweenShapes.F := fun a b c d e f g h i j l m => lim fun k => impl_BetweenShapes.f k a b c d e f g h i j l m
theorem impl_BetweenShapes.F_lim a b c d e f g h i j l m : Lim (fun k => impl_BetweenShapes.f k a b c d e f g h i j l m) (impl_BetweenShapes.F a b c d e f g h i j l m) := ⟨impl_BetweenShapes.mono a b c d e f g h i j l m, rfl⟩
theorem impl_BetweenShapes.J0_eq a b c d e f g h i j l m n : impl_BetweenShapes.J0 a b c d e f g h i j l m n = (if a = true then (some (0, 0, 0, 0, 0, false, false)) else ((impl_Shape_bends.f b c d e f g).bind fun t463 => (impl_BetweenShapes.L0 t463 (t463.length : Int) 0 h i j l m n b 0 0 0 0 false))) := by
  refine Lim.succ_eq (impl_BetweenShapes.J0_lim ..).mon ?_
  simp only [impl_BetweenShapes.j0]
  have m0 := @impl_BetweenShapes.L0_lim
  exact li_
theorem impl_BetweenShapes.L0_eq a b c d e f g h i j l m n o p : impl_BetweenShapes.L0 a b c d e f g h i j l m n o p = (if c < b then (if 0 ≤ c then (if c < (a.length : Int) then ((impl_Shape_bends.f d e f g h i).bind fun t467 => (if c < (t467.length : Int) then ((impl_Shape_with.f j l m n o p (wrap64 (c + 1)) (wrap64 (Int.tdiv (wrap64 ((rd a c) + (rd t467 c))) 2))).bind fun bt471 => (impl_BetweenShapes.L0 a b (wrap64 (c + 1)) d e f g h i bt471.1 bt471.2.1 bt471.2.2.1 bt471.2.2.2.1 bt471.2.2.2.2.1 bt471.2.2.2.2.2)) else (none))) else (none)) else (none)) else (some (j, l, m, n, o, p, true))) := by
  refine Lim.succ_eq (impl_BetweenShapes.L0_lim ..).mon ?_
  simp only [impl_BetweenShapes.l0]
  have m0 := @impl_BetweenShapes.L0_lim
  exact li_
theorem impl_BetweenShapes.F_eq a0_0 a0_1 a0_2 a0_3 a0_4 a0_5 a1_0 a1_1 a1_2 a1_3 a1_4 a1_5 : impl_BetweenShapes.F a0_0 a0_1 a0_2 a0_3 a0_4 a0_5 a1_0 a1_1 a1_2 a1_3 a1_4 a1_5 = ((impl_IsShape.F a0_0 a0_1 a0_2 a0_3 a0_4 a0_5).bind fun t460 => (if t460 = true then ((impl_IsShape.F a1_0 a1_1 a1_2 a1_3 a1_4 a1_5).bind fun t461 => (impl_BetweenShapes.J0 (!t461) a0_0 a0_1 a0_2 a0_3 a0_4 a0_5 a1_0 a1_1 a1_2 a1_3 a1_4 a1_5)) else (impl_BetweenShapes.J0 true a0_0 a0_1 a0_2 a0_3 a0_4 a0_5 a1_0 a1_1 a1_2 a1_3 a1_4 a1_5))) := by
  refine Lim.eq_ ?_
  simp only [impl_BetweenShapes.f]
  have m0 := @impl_BetweenShapes.J0_lim
  have m1 := @impl_IsShape.F_lim
  exact li_
mutual
def spec_BetweenShapes.j0 : Nat → Bool → Int → Int → Int → Int → Int → Bool → Int → Int → Int → Int → Int → Bool → Option (Int × Int × Int × Int × Int × Bool × Bool)
  | 0, _, _, _, _, _, _, _, _, _, _, _, _, _ => none
  | k + 1, a, b, c, d, e, f, g, h, i, j, l, m, n => if a = true then (some (0, 0, 0, 0, 0, false, false)) else ((spec_shFingers.f b c d e f g).bind fun t482 => (spec_BetweenShapes.l0 k ([] : List Int) t482 (t482.length : Int) 0 b c d e f g h i j l m n))
def spec_BetweenShapes.l0 : Nat → List Int → List Int → Int → Int → Int → Int → Int → Int → Int → Bool → Int → Int → Int → Int → Int → Bool → Option (Int × Int × Int × Int × Int × Bool × Bool)
  | 0, _, _, _, _, _, _, _, _, _, _, _, _, _, _, _, _ => none
  | k + 1, a, b, c, d, e, f, g, h, i, j, l, m, n, o, p, q => if d < c then (if 0 ≤ d then (if d < (b.length : Int) then ((spec_shFingers.f l m n o p q).bind fun t486 => (if d < (t486.length : Int) then (if a.length < 17592186044416 then (spec_BetweenShapes.l0 k (a ++ [wrap64 (Int.tdiv (wrap64 ((rd b d) + (rd t486 d))) 2)]) b c (wrap64 (d + 1)) e f g h i j l m n o p q) else (none)) else (none))) else (none)) else (none)) else ((spec_shMade.f k e a false).bind fun bt493 => (some (bt493.1, bt493.2.1, bt493.2.2.1, bt493.2.2.2.1, bt493.2.2.2.2.1, bt493.2.2.2.2.2, true)))
end
def spec_BetweenShapes.f (k : Nat) (a0_0 : Int) (a0_1 : Int) (a0_2 : Int) (a0_3 : Int) (a0_4 : Int) (a0_5 : Bool) (a1_0 : Int) (a1_1 : Int) (a1_2 : Int) (a1_3 : Int) (a1_4 : Int) (a1_5 : Bool) : Option (Int × Int × Int × Int × Int × Bool × Bool) := (spec_shGood.f k a0_0 a0_1 a0_2 a0_3 a0_4 a0_5).bind fun t480 => (if t480 = true then ((spec_shGood.f k a1_0 a1_1 a1_2 a1_3 a1_4 a1_5).bind fun t481 => (spec_BetweenShapes.j0 k (!t481) a0_0 a0_1 a0_2 a0_3 a0_4 a0_5 a1_0 a1_1 a1_2 a1_3 a1_4 a1_5)) else (spec_BetweenShapes.j0 k true a0_0 a0_1 a0_2 a0_3 a0_4 a0_5 a1_0 a1_1 a1_2 a1_3 a1_4 a1_5))
theorem spec_BetweenShapes.mono_l : ∀ k, (∀ a b c d e f g h i j l m n, LeO (spec_BetweenShapes.j0 k a b c d e f g h i j l m n) (spec_BetweenShapes.j0 (k + 1) a b c d e f g h i j l m n)) ∧ (∀ a b c d e f g h i j l m n o p q, LeO (spec_BetweenShapes.l0 k a b c d e f g h i j l m n o p q) (spec_BetweenShapes.l0 (k + 1) a b c d e f g h i j l m n o p q))
  | 0 => ⟨fun _ _ _ _ _ _ _ _ _ _ _ _ _ => LeO.none _, fun _ _ _ _ _ _ _ _ _ _ _ _ _ _ _ _ => LeO.none _⟩
  | k + 1 => by
    obtain ⟨ih0, ih1⟩ := spec_BetweenShapes.mono_l k
    have m0 := @spec_shGood.mono
    have m1 := @spec_shMade.mono
    refine ⟨?_, ?_⟩
    · intros; unfold spec_BetweenShapes.j0; exact mo_
    · intros; unfold spec_BetweenShapes.l0; exact mo_
theorem spec_BetweenShapes.mono : ∀ a0 a1 a2 a3 a4 a5 a6 a7 a8 a9 a10 a11 k, LeO (spec_BetweenShapes.f k a0 a1 a2 a3 a4 a5 a6 a7 a8 a9 a10 a11) (spec_BetweenShapes.f (k + 1) a0 a1 a2 a3 a4 a5 a6 a7 a8 a9 a10 a11) := by
  intro a0 a1 a2 a3 a4 a5 a6 a7 a8 a9 a10 a11 k
  obtain ⟨ih0, ih1⟩ := spec_BetweenShapes.mono_l k
  unfold spec_BetweenShapes.f
  have m0 := @spec_shGood.mono
  have m1 := @spec_shMade.mono
  exact mo_
noncomputable def spec_BetweenShapes.J0 := fun a b c d e f g h i j l m n => lim fun k => spec_BetweenShapes.j0 k a b c d e f g h i j l m n
theorem spec_BetweenShapes.J0_lim a b c d e f g h i j l m n : Lim (fun k => spec_BetweenShapes.j0 k a b c d e f g h i j l m n) (spec_BetweenShapes.J0 a b c d e f g h i j l m n) := ⟨fun k => (spec_BetweenShapes.mono_l k).1 a b c d e f g h i j l m n, rfl⟩
noncomputable def spec_BetweenShapes.L0 := fun a b c d e f g h i j l m n o p q => lim fun k => spec_BetweenShapes.l0 k a b c d e f g h i j l m n o p q
theorem spec_BetweenShapes.L0_lim a b c d e f g h i j l m n o p q : Lim (fun k => spec_BetweenShapes.l0 k a b c d e f g h i j l m n o p q) (spec_BetweenShapes.L0 a b c d e f g h i j l m n o p q) := ⟨fun k => (spec_BetweenShapes.mono_l k).2 a b c d e f g h i j l m n o p q, rfl⟩
noncomputable def spec_BetweenShapes.F := fun a b c d e f g h i j l m => lim fun k => spec_BetweenShapes.f k a b c d e f g h i j l m
theorem spec_BetweenShapes.F_lim a b c d e f g h i j l m : Lim (fun k => spec_BetweenShapes.f k a b c d e f g h i j l m) (spec_BetweenShapes.F a b c d e f g h i j l m) := ⟨spec_BetweenShapes.mono a b c d e f g h i j l m, rfl⟩
theorem spec_BetweenShapes.J0_eq a b c d e f g h i j l m n : spec_BetweenShapes.J0 a b c d e f g h i j l m n = (if a = true then (some (0, 0, 0, 0, 0, false, false)) else ((spec_shFingers.f b c d e f g).bind fun t482 => (spec_BetweenShapes.L0 ([] : List Int) t482 (t482.length : Int) 0 b c d e f g h i j l m n))) := by
  refine Lim.succ_eq (spec_BetweenShapes.J0_lim ..).mon ?_
  simp only [spec_BetweenShapes.j0]
  have m0 := @spec_BetweenShapes.L0_lim
  exact li_
theorem spec_BetweenShapes.L0_eq a b c d e f g h i j l m n o p q : spec_BetweenShapes.L0 a b c d e f g h i j l m n o p q = (if d < c then (if 0 ≤ d then (if d < (b.length : Int) then ((spec_shFingers.f l m n o p q).bind fun t486 => (if d < (t486.length : Int) then (if a.length < 17592186044416 then (spec_BetweenShapes.L0 (a ++ [wrap64 (Int.tdiv (wrap64 ((rd b d) + (rd t486 d))) 2)]) b c (wrap64 (d + 1)) e f g h i j l m n o p q) else (none)) else (none))) else (none)) else (none)) else ((spec_shMade.F e a false).bind fun bt493 => (some (bt493.1, bt493.2.1, bt493.2.2.1, bt493.2.2.2.1, bt493.2.2.2.2.1, bt493.2.2.2.2.2, true)))) := by
  refine Lim.succ_eq (spec_BetweenShapes.L0_lim ..).mon ?_
  simp only [spec_BetweenShapes.l0]
  have m0 := @spec_BetweenShapes.L0_lim
  have m1 := @spec_shMade.F_lim
  exact li_
theorem spec_BetweenShapes.F_eq a0_0 a0_1 a0_2 a0_3 a0_4 a0_5 a1_0 a1_1 a1_2 a1_3 a1_4 a1_5 : spec_BetweenShapes.F a0_0 a0_1 a0_2 a0_3 a0_4 a0_5 a1_0 a1_1 a1_2 a1_3 a1_4 a1_5 = ((spec_shGood.F a0_0 a0_1 a0_2 a0_3 a0_4 a0_5).bind fun t480 => (if t480 = true then ((spec_shGood.F a1_0 a1_1 a1_2 a1_3 a1_4 a1_5).bind fun t481 => (spec_BetweenShapes.J0 (!t481) a0_0 a0_1 a0_2 a0_3 a0_4 a0_5 a1_0 a1_1 a1_2 a1_3 a1_4 a1_5)) else (spec_BetweenShapes.J0 true a0_0 a0_1 a0_2 a0_3 a0_4 a0_5 a1_0 a1_1 a1_2 a1_3 a1_4 a1_5))) := by
  refine Lim.eq_ ?_
  simp only [spec_BetweenShapes.f]
  have m0 := @spec_BetweenShapes.J0_lim
  have m1 := @spec_shGood.F_lim
  exact li_
def laws_pSameShapes.l0 : Nat → List (S25) → List (S25) → Int → Int → Option (Bool)
  | 0, _, _, _, _ => none
  | k + 1, a, b, c, d => if d < c then (if 0 ≤ d then (if d < (a.length : Int) then (if d < (b.length : Int) then (if (!(((rd_T25 a d).f0) == ((rd_T25 b d).f0)) || (!(((rd_T25 a d).f1) == ((rd_T25 b d).f1)) || (!(((rd_T25 a d).f2) == ((rd_T25 b d).f2)) || (!(((rd_T25 a d).f3) == ((rd_T25 b d).f3)) || (!(((rd_T25 a d).f4) == ((rd_T25 b d).f4)) || (!(((rd_T25 a d).f5) == ((rd_T25 b d).f5)))))))) = true then (some false) else (laws_pSameShapes.l0 k a b c (wrap64 (d + 1)))) else (none)) else (none)) else (none)) else (some true)
def laws_pSameShapes.f (k : Nat) (l0 : List (S25)) (l1 : List (S25)) : Option (Bool) := if (l0.length : Int) = (l1.length : Int) then (laws_pSameShapes.l0 k l0 l1 (l0.length : Int) 0) else (some false)
theorem laws_pSameShapes.mono_l : ∀ k, (∀ a b c d, LeO (laws_pSameShapes.l0 k a b c d) (laws_pSameShapes.l0 (k + 1) a b c d))
  | 0 => fun _ _ _ _ => LeO.none _
  | k + 1 => by
    have ih0 := laws_pSameShapes.mono_l k
    · intros; unfold laws_pSameShapes.l0; exact mo_
theorem laws_pSameShapes.mono : ∀ a0 a1 k, LeO (laws_pSameShapes.f k a0 a1) (laws_pSameShapes.f (k + 1) a0 a1) := by
  intro a0 a1 k
  have ih0 := laws_pSameShapes.mono_l k
  unfold laws_pSameShapes.f
  exact mo_
noncomputable def laws_pSameShapes.L0 := fun a b c d => lim fun k => laws_pSameShapes.l0 k a b c d
theorem laws_pSameShapes.L0_lim a b c d : Lim (fun k => laws_pSameShapes.l0 k a b c d) (laws_pSameShapes.L0 a b c d) := ⟨fun k => (laws_pSameShapes.mono_l k) a b c d, rfl⟩
noncomputable def laws_pSameShapes.F := fun a b => lim fun k => laws_pSameShapes.f k a b
theorem laws_pSameShapes.F_lim a b : Lim (fun k => laws_pSameShapes.f k a b) (laws_pSameShapes.F a b) := ⟨laws_pSameShapes.mono a b, rfl⟩
theorem laws_pSameShapes.L0_eq a b c d : laws_pSameShapes.L0 a b c d = (if d < c then (if 0 ≤ d then (if d < (a.length : Int) then (if d < (b.length : Int) then (if (!(((rd_T25 a d).f0) == ((rd_T25 b d).f0)) || (!(((rd_T25 a d).f1) == ((rd_T25 b d).f1)) || (!(((rd_T25 a d).f2) == ((rd_T25 b d).f2)) || (!(((rd_T25 a d).f3) == ((rd_T25 b d).f3)) || (!(((rd_T25 a d).f4) == ((rd_T25 b d).f4)) || (!(((rd_T25 a d).f5) == ((rd_T25 b d).f5)))))))) = true then (some false) else (laws_pSameShapes.L0 a b c (wrap64 (d + 1)))) else (none)) else (none)) else (none)) else (some true)) := by
  refine Lim.succ_eq (laws_pSameShapes.L0_lim ..).mon ?_
  simp only [laws_pSameShapes.l0]
  have m0 := @laws_pSameShapes.L0_lim
  exact li_
theorem laws_pSameShapes.F_eq l0 l1 : laws_pSameShapes.F l0 l1 = (if (l0.length : Int) = (l1.length : Int) then (laws_pSameShapes.L0 l0 l1 (l0.length : Int) 0) else (some false)) := by
  refine Lim.eq_ ?_
  simp only [laws_pSameShapes.f]
  have m0 := @laws_pSameShapes.L0_lim
  exact li_
def spec_DrawIsShape.f (k : Nat) (l0 : List Int) : Option (Int × Int × Int × Int × Int × Bool) := (spec_l1Cur_anyShape.f k l0 0 0).bind fun bt503 => (some (bt503.1, bt503.2.1, bt503.2.2.1, bt503.2.2.2.1, bt503.2.2.2.2.1, bt503.2.2.2.2.2.1))
theorem spec_DrawIsShape.mono : ∀ a0 k, LeO (spec_DrawIsShape.f k a0) (spec_DrawIsShape.f (k + 1) a0) := by
  intro a0 k
  unfold spec_DrawIsShape.f
  have m0 := @spec_l1Cur_anyShape.mono
  exact mo_
noncomputable def spec_DrawIsShape.F := fun a => lim fun k => spec_DrawIsShape.f k a
theorem spec_DrawIsShape.F_lim a : Lim (fun k => spec_DrawIsShape.f k a) (spec_DrawIsShape.F a) := ⟨spec_DrawIsShape.mono a, rfl⟩
theorem spec_DrawIsShape.F_eq l0 : spec_DrawIsShape.F l0 = ((spec_l1Cur_anyShape.F l0 0 0).bind fun bt503 => (some (bt503.1, bt503.2.1, bt503.2.2.1, bt503.2.2.2.1, bt503.2.2.2.2.1, bt503.2.2.2.2.2.1))) := by
  refine Lim.eq_ ?_
  simp only [spec_DrawIsShape.f]
  have m0 := @spec_l1Cur_anyShape.F_lim
  exact li_
def spec_DrawShapeText.f (k : Nat) (l0 : List Int) : Option (Int × Int × Int × Int × Int × Bool) := (spec_DrawIsShape.f k l0).bind fun bt512 => (some (bt512.1, bt512.2.1, bt512.2.2.1, bt512.2.2.2.1, bt512.2.2.2.2.1, bt512.2.2.2.2.2))
theorem spec_DrawShapeText.mono : ∀ a0 k, LeO (spec_DrawShapeText.f k a0) (spec_DrawShapeText.f (k + 1) a0) := by
  intro a0 k
  unfold spec_DrawShapeText.f
  have m0 := @spec_DrawIsShape.mono
  exact mo_
noncomputable def spec_DrawShapeText.F := fun a => lim fun k => spec_DrawShapeText.f k a
theorem spec_DrawShapeText.F_lim a : Lim (fun k => spec_DrawShapeText.f k a) (spec_DrawShapeText.F a) := ⟨spec_DrawShapeText.mono a, rfl⟩
theorem spec_DrawShapeText.F_eq l0 : spec_DrawShapeText.F l0 = ((spec_DrawIsShape.F l0).bind fun bt512 => (some (bt512.1, bt512.2.1, bt512.2.2.1, bt512.2.2.2.1, bt512.2.2.2.2.1, bt512.2.2.2.2.2))) := by
  refine Lim.eq_ ?_
  simp only [spec_DrawShapeText.f]
  have m0 := @spec_DrawIsShape.F_lim
  exact li_
def strconv_Itoa.f (a0 : Int) : Option (ByteArray) := if 0 ≤ a0 ∧ a0 < 100 then some ⟨(Lib.decDigits a0.toNat).toArray⟩ else none
def impl_Shape_text.l0 : Nat → ByteArray → List Int → Int → Int → Int → Int → Int → Int → Int → Bool → Option (ByteArray)
  | 0, _, _, _, _, _, _, _, _, _, _ => none
  | k + 1, a, b, c, d, e, f, g, h, i, j => if d < c then (if 0 ≤ d then (if d < (b.length : Int) then ((strconv_Itoa.f (rd b d)).bind fun t524 => (if a.size + t524.size ≤ 9223372036854775807 then (impl_Shape_text.l0 k (a ++ t524) b c (wrap64 (d + 1)) e f g h i j) else (none))) else (none)) else (none)) else (if j = true then (if a.size + 1 ≤ 9223372036854775807 then (some (a ++ (⟨#[115]⟩ : ByteArray))) else (none)) else (some a))
def impl_Shape_text.f (k : Nat) (a0_0 : Int) (a0_1 : Int) (a0_2 : Int) (a0_3 : Int) (a0_4 : Int) (a0_5 : Bool) : Option (ByteArray) := (strconv_Itoa.f a0_0).bind fun t519 => ((impl_Shape_bends.f a0_0 a0_1 a0_2 a0_3 a0_4 a0_5).bind fun t520 => (impl_Shape_text.l0 k t519 t520 (t520.length : Int) 0 a0_0 a0_1 a0_2 a0_3 a0_4 a0_5))
theorem impl_Shape_text.mono_l : ∀ k, (∀ a b c d e f g h i j, LeO (impl_Shape_text.l0 k a b c d e f g h i j) (impl_Shape_text.l0 (k + 1) a b c d e f g h i j))
  | 0 => fun _ _ _ _ _ _ _ _ _ _ => LeO.none _
  | k + 1 => by
    have ih0 := impl_Shape_text.mono_l k
    · intros; unfold impl_Shape_text.l0; exact mo_
theorem impl_Shape_text.mono : ∀ a0 a1 a2 a3 a4 a5 k, LeO (impl_Shape_text.f k a0 a1 a2 a3 a4 a5) (impl_Shape_text.f (k + 1) a0 a1 a2 a3 a4 a5) := by
  intro a0 a1 a2 a3 a4 a5 k
  have ih0 := impl_Shape_text.mono_l k
  unfold impl_Shape_text.f
  exact mo_
noncomputable def impl_Shape_text.L0 := fun a b c d e f g h i j => lim fun k => impl_Shape_text.l0 k a b c d e f g h i j
theorem impl_Shape_text.L0_lim a b c d e f g h i j : Lim (fun k => impl_Shape_text.l0 k a b c d e f g h i j) (impl_Shape_text.L0 a b c d e f g h i j) := ⟨fun k => (impl_Shape_text.mono_l k) a b c d e f g h i j, rfl⟩
noncomputable def impl_Shape_text.F := fun a b c d e f => lim fun k => impl_Shape_text.f k a b c d e f
theorem impl_Shape_text.F_lim a b c d e f : Lim (fun k => impl_Shape_text.f k a b c d e f) (impl_Shape_text.F a b c d e f) := ⟨impl_Shape_text.mono a b c d e f, rfl⟩
theorem impl_Shape_text.L0_eq a b c d e f g h i j : impl_Shape_text.L0 a b c d e f g h i j = (if d < c then (if 0 ≤ d then (if d < (b.length : Int) then ((strconv_Itoa.f (rd b d)).bind fun t524 => (if a.size + t524.size ≤ 9223372036854775807 then (impl_Shape_text.L0 (a ++ t524) b c (wrap64 (d + 1)) e f g h i j) else (none))) else (none)) else (none)) else (if j = true then (if a.size + 1 ≤ 9223372036854775807 then (some (a ++ (⟨#[115]⟩ : ByteArray))) else (none)) else (some a))) := by
  refine Lim.succ_eq (impl_Shape_text.L0_lim ..).mon ?_
  simp only [impl_Shape_text.l0]
  have m0 := @impl_Shape_text.L0_lim
  exact li_
theorem impl_Shape_text.F_eq a0_0 a0_1 a0_2 a0_3 a0_4 a0_5 : impl_Shape_text.F a0_0 a0_1 a0_2 a0_3 a0_4 a0_5 = ((strconv_Itoa.f a0_0).bind fun t519 => ((impl_Shape_bends.f a0_0 a0_1 a0_2 a0_3 a0_4 a0_5).bind fun t520 => (impl_Shape_text.L0 t519 t520 (t520.length : Int) 0 a0_0 a0_1 a0_2 a0_3 a0_4 a0_5))) := by
  refine Lim.eq_ ?_
  simp only [impl_Shape_text.f]
  have m0 := @impl_Shape_text.L0_lim
  exact li_
def impl_ShapeText.f (k : Nat) (a0_0 : Int) (a0_1 : Int) (a0_2 : Int) (a0_3 : Int) (a0_4 : Int) (a0_5 : Bool) : Option (ByteArray × Bool) := (impl_IsShape.f k a0_0 a0_1 a0_2 a0_3 a0_4 a0_5).bind fun t526 => (if t526 = true then ((impl_Shape_text.f k a0_0 a0_1 a0_2 a0_3 a0_4 a0_5).bind fun t527 => (some (t527, true))) else (some ((⟨#[]⟩ : ByteArray), false)))
theorem impl_ShapeText.mono : ∀ a0 a1 a2 a3 a4 a5 k, LeO (impl_ShapeText.f k a0 a1 a2 a3 a4 a5) (impl_ShapeText.f (k + 1) a0 a1 a2 a3 a4 a5) := by
  intro a0 a1 a2 a3 a4 a5 k
  unfold impl_ShapeText.f
  have m0 := @impl_IsShape.mono
  have m1 := @impl_Shape_text.mono
  exact mo_
noncomputable def impl_ShapeText.F := fun a b c d e f => lim fun k => impl_ShapeText.f k a b c d e f
theorem impl_ShapeText.F_lim a b c d e f : Lim (fun k => impl_ShapeText.f k a b c d e f) (impl_ShapeText.F a b c d e f) := ⟨impl_ShapeText.mono a b c d e f, rfl⟩
theorem impl_ShapeText.F_eq a0_0 a0_1 a0_2 a0_3 a0_4 a0_5 : impl_ShapeText.F a0_0 a0_1 a0_2 a0_3 a0_4 a0_5 = ((impl_IsShape.F a0_0 a0_1 a0_2 a0_3 a0_4 a0_5).bind fun t526 => (if t526 = true then ((impl_Shape_text.F a0_0 a0_1 a0_2 a0_3 a0_4 a0_5).bind fun t527 => (some (t527, true))) else (some ((⟨#[]⟩ : ByteArray), false)))) := by
  refine Lim.eq_ ?_
  simp only [impl_ShapeText.f]
  have m0 := @impl_IsShape.F_lim
  have m1 := @impl_Shape_text.F_lim
  exact li_
def spec_l1Num.f : Nat → Int → Option (ByteArray)
  | 0, _ => none
  | k + 1, a0 => if a0 < 10 then (some (strOfNums (([(wrap64 (48 + a0)) % 256] : List Int)))) else ((spec_l1Num.f k (wrap64 (Int.tdiv a0 10))).bind fun t531 => ((some (([(wrap64 (48 + (Int.tmod a0 10))) % 256] : List Int) : List Int)).bind fun y532 => (if t531.size + (strOfNums y532).size ≤ 9223372036854775807 then (some (t531 ++ (strOfNums y532))) else (none))))
theorem spec_l1Num.mono_l : ∀ k, (∀ a, LeO (spec_l1Num.f k a) (spec_l1Num.f (k + 1) a))
  | 0 => fun _ => LeO.none _
  | k + 1 => by
    have ih0 := spec_l1Num.mono_l k
    · intros; unfold spec_l1Num.f; exact mo_
theorem spec_l1Num.mono : ∀ a0 k, LeO (spec_l1Num.f k a0) (spec_l1Num.f (k + 1) a0) := by
  intro a0 k
  have ih0 := spec_l1Num.mono_l k
  exact ih0 a0
noncomputable def spec_l1Num.F := fun a => lim fun k => spec_l1Num.f k a
theorem spec_l1Num.F_lim a : Lim (fun k => spec_l1Num.f k a) (spec_l1Num.F a) := ⟨spec_l1Num.mono a, rfl⟩
theorem spec_l1Num.F_eq a0 : spec_l1Num.F a0 = (if a0 < 10 then (some (strOfNums (([(wrap64 (48 + a0)) % 256] : List Int)))) else ((spec_l1Num.F (wrap64 (Int.tdiv a0 10))).bind fun t531 => ((some (([(wrap64 (48 + (Int.tmod a0 10))) % 256] : List Int) : List Int)).bind fun y532 => (if t531.size + (strOfNums y532).size ≤ 9223372036854775807 then (some (t531 ++ (strOfNums y532))) else (none))))) := by
  refine Lim.succ_eq (spec_l1Num.F_lim ..).mon ?_
  simp only [spec_l1Num.f]
  have m0 := @spec_l1Num.F_lim
  exact li_
def spec_shText.l0 : Nat → ByteArray → List Int → Int → Int → Int → Int → Int → Int → Int → Bool → Option (ByteArray)
  | 0, _, _, _, _, _, _, _, _, _, _ => none
  | k + 1, a, b, c, d, e, f, g, h, i, j => if d < c then (if 0 ≤ d then (if d < (b.length : Int) then ((spec_l1Num.f k (rd b d)).bind fun t541 => (if a.size + t541.size ≤ 9223372036854775807 then (spec_shText.l0 k (a ++ t541) b c (wrap64 (d + 1)) e f g h i j) else (none))) else (none)) else (none)) else (if j = true then (if a.size + 1 ≤ 9223372036854775807 then (some (a ++ (⟨#[115]⟩ : ByteArray))) else (none)) else (some a))
def spec_shText.f (k : Nat) (a0_0 : Int) (a0_1 : Int) (a0_2 : Int) (a0_3 : Int) (a0_4 : Int) (a0_5 : Bool) : Option (ByteArray) := (spec_l1Num.f k a0_0).bind fun t536 => ((spec_shFingers.f a0_0 a0_1 a0_2 a0_3 a0_4 a0_5).bind fun t537 => (spec_shText.l0 k t536 t537 (t537.length : Int) 0 a0_0 a0_1 a0_2 a0_3 a0_4 a0_5))
theorem spec_shText.mono_l : ∀ k, (∀ a b c d e f g h i j, LeO (spec_shText.l0 k a b c d e f g h i j) (spec_shText.l0 (k + 1) a b c d e f g h i j))
  | 0 => fun _ _ _ _ _ _ _ _ _ _ => LeO.none _
  | k + 1 => by
    have ih0 := spec_shText.mono_l k
    have m0 := @spec_l1Num.mono
    · intros; unfold spec_shText.l0; exact mo_
theorem spec_shText.mono : ∀ a0 a1 a2 a3 a4 a5 k, LeO (spec_shText.f k a0 a1 a2 a3 a4 a5) (spec_shText.f (k + 1) a0 a1 a2 a3 a4 a5) := by
  intro a0 a1 a2 a3 a4 a5 k
  have ih0 := spec_shText.mono_l k
  unfold spec_shText.f
  have m0 := @spec_l1Num.mono
  exact mo_
noncomputable def spec_shText.L0 := fun a b c d e f g h i j => lim fun k => spec_shText.l0 k a b c d e f g h i j
theorem spec_shText.L0_lim a b c d e f g h i j : Lim (fun k => spec_shText.l0 k a b c d e f g h i j) (spec_shText.L0 a b c d e f g h i j) := ⟨fun k => (spec_shText.mono_l k) a b c d e f g h i j, rfl⟩
noncomputable def spec_shText.F := fun a b c d e f => lim fun k => spec_shText.f k a b c d e f
theorem spec_shText.F_lim a b c d e f : Lim (fun k => spec_shText.f k a b c d e f) (spec_shText.F a b c d e f) := ⟨spec_shText.mono a b c d e f, rfl⟩
theorem spec_shText.L0_eq a b c d e f g h i j : spec_shText.L0 a b c d e f g h i j = (if d < c then (if 0 ≤ d then (if d < (b.length : Int) then ((spec_l1Num.F (rd b d)).bind fun t541 => (if a.size + t541.size ≤ 9223372036854775807 then (spec_shText.L0 (a ++ t541) b c (wrap64 (d + 1)) e f g h i j) else (none))) else (none)) else (none)) else (if j = true then (if a.size + 1 ≤ 9223372036854775807 then (some (a ++ (⟨#[115]⟩ : ByteArray))) else (none)) else (some a))) := by
  refine Lim.succ_eq (spec_shText.L0_lim ..).mon ?_
  simp only [spec_shText.l0]
  have m0 := @spec_shText.L0_lim
  have m1 := @spec_l1Num.F_lim
  exact li_
theorem spec_shText.F_eq a0_0 a0_1 a0_2 a0_3 a0_4 a0_5 : spec_shText.F a0_0 a0_1 a0_2 a0_3 a0_4 a0_5 = ((spec_l1Num.F a0_0).bind fun t536 => ((spec_shFingers.f a0_0 a0_1 a0_2 a0_3 a0_4 a0_5).bind fun t537 => (spec_shText.L0 t536 t537 (t537.length : Int) 0 a0_0 a0_1 a0_2 a0_3 a0_4 a0_5))) := by
  refine Lim.eq_ ?_
  simp only [spec_shText.f]
  have m0 := @spec_shText.L0_lim
  have m1 := @spec_l1Num.F_lim
  exact li_
def spec_ShapeText.f (k : Nat) (a0_0 : Int) (a0_1 : Int) (a0_2 : Int) (a0_3 : Int) (a0_4 : Int) (a0_5 : Bool) : Option (ByteArray × Bool) := (spec_shGood.f k a0_0 a0_1 a0_2 a0_3 a0_4 a0_5).bind fun t543 => (if t543 = true then ((spec_shText.f k a0_0 a0_1 a0_2 a0_3 a0_4 a0_5).bind fun t544 => (some (t544, true))) else (some ((⟨#[]⟩ : ByteArray), false)))
theorem spec_ShapeText.mono : ∀ a0 a1 a2 a3 a4 a5 k, LeO (spec_ShapeText.f k a0 a1 a2 a3 a4 a5) (spec_ShapeText.f (k + 1) a0 a1 a2 a3 a4 a5) := by
  intro a0 a1 a2 a3 a4 a5 k
  unfold spec_ShapeText.f
  have m0 := @spec_shGood.mono
  have m1 := @spec_shText.mono
  exact mo_
noncomputable def spec_ShapeText.F := fun a b c d e f => lim fun k => spec_ShapeText.f k a b c d e f
theorem spec_ShapeText.F_lim a b c d e f : Lim (fun k => spec_ShapeText.f k a b c d e f) (spec_ShapeText.F a b c d e f) := ⟨spec_ShapeText.mono a b c d e f, rfl⟩
theorem spec_ShapeText.F_eq a0_0 a0_1 a0_2 a0_3 a0_4 a0_5 : spec_ShapeText.F a0_0 a0_1 a0_2 a0_3 a0_4 a0_5 = ((spec_shGood.F a0_0 a0_1 a0_2 a0_3 a0_4 a0_5).bind fun t543 => (if t543 = true then ((spec_shText.F a0_0 a0_1 a0_2 a0_3 a0_4 a0_5).bind fun t544 => (some (t544, true))) else (some ((⟨#[]⟩ : ByteArray), false)))) := by
  refine Lim.eq_ ?_
  simp only [spec_ShapeText.f]
  have m0 := @spec_shGood.F_lim
  have m1 := @spec_shText.F_lim
  exact li_
mutual
def spec_l1Cur_spoilt.l0 : Nat → ByteArray → ByteArray → Int → List Int → Int → Int → Option (ByteArray × Int × Int)
  | 0, _, _, _, _, _, _ => none
  | k + 1, a, b, c, d, e, f => if c > 0 then (spec_l1Cur_spoilt.j1 k a b c (decide ((a.size : Int) > 0)) d e f) else (spec_l1Cur_spoilt.j1 k a b c false d e f)
def spec_l1Cur_spoilt.j1 : Nat → ByteArray → ByteArray → Int → Bool → List Int → Int → Int → Option (ByteArray × Int × Int)
  | 0, _, _, _, _, _, _, _ => none
  | k + 1, a, b, c, d, e, f, g => if d = true then ((spec_l1Cur_pick.f e f g (a.size : Int)).bind fun bt548 => ((spec_l1Cur_pick.f e bt548.2.1 bt548.2.2 (b.size : Int)).bind fun bt551 => (if 0 ≤ bt551.1 then (if bt551.1 < (b.size : Int) then ((some (([bt b bt551.1] : List Int) : List Int)).bind fun y554 => ((spec_l1Cur_pick.f e bt551.2.1 bt551.2.2 3).bind fun bt557 => (if bt557.1 = 0 then (if 0 ≤ bt548.1 then (if bt548.1 ≤ (a.size : Int) then (if (a.extract 0 (bt548.1 : Int).toNat).size + (strOfNums y554).size ≤ 9223372036854775807 then (if ((a.extract 0 (bt548.1 : Int).toNat) ++ (strOfNums y554)).size + (a.extract (bt548.1 : Int).toNat a.size).size ≤ 9223372036854775807 then (spec_l1Cur_spoilt.l0 k (((a.extract 0 (bt548.1 : Int).toNat) ++ (strOfNums y554)) ++ (a.extract (bt548.1 : Int).toNat a.size)) b (wrap64 (c - 1)) e bt557.2.1 bt557.2.2) else (none)) else (none)) else (none)) else (none)) else (if bt557.1 = 1 then (if 0 ≤ bt548.1 then (if bt548.1 ≤ (a.size : Int) then (if (a.extract 0 (bt548.1 : Int).toNat).size + (strOfNums y554).size ≤ 9223372036854775807 then (if 0 ≤ (wrap64 (bt548.1 + 1)) then (if (wrap64 (bt548.1 + 1)) ≤ (a.size : Int) then (if ((a.extract 0 (bt548.1 : Int).toNat) ++ (strOfNums y554)).size + (a.extract ((wrap64 (bt548.1 + 1)) : Int).toNat a.size).size ≤ 9223372036854775807 then (spec_l1Cur_spoilt.l0 k (((a.extract 0 (bt548.1 : Int).toNat) ++ (strOfNums y554)) ++ (a.extract ((wrap64 (bt548.1 + 1)) : Int).toNat a.size)) b (wrap64 (c - 1)) e bt557.2.1 bt557.2.2) else (none)) else (none)) else (none)) else (none)) else (none)) else (none)) else (if 0 ≤ bt548.1 then (if bt548.1 ≤ (a.size : Int) then (if 0 ≤ (wrap64 (bt548.1 + 1)) then (if (wrap64 (bt548.1 + 1)) ≤ (a.size : Int) then (if (a.extract 0 (bt548.1 : Int).toNat).size + (a.extract ((wrap64 (bt548.1 + 1)) : Int).toNat a.size).size ≤ 9223372036854775807 then (spec_l1Cur_spoilt.l0 k ((a.extract 0 (bt548.1 : Int).toNat) ++ (a.extract ((wrap64 (bt548.1 + 1)) : Int).toNat a.size)) b (wrap64 (c - 1)) e bt557.2.1 bt557.2.2) else (none)) else (none)) else (none)) else (none)) else (none)))))) else (none)) else (none)))) else (some (a, f, g))
end
def spec_l1Cur_spoilt.f (k : Nat) (s0_0 : List Int) (s0_1 : Int) (s0_2 : Int) (a1 : ByteArray) (a2 : ByteArray) : Option (ByteArray × Int × Int) := (spec_l1Cur_pick.f s0_0 s0_1 s0_2 2).bind fun bt545 => (spec_l1Cur_spoilt.l0 k a1 a2 (wrap64 (1 + bt545.1)) s0_0 bt545.2.1 bt545.2.2)
theorem spec_l1Cur_spoilt.mono_l : ∀ k, (∀ a b c d e f, LeO (spec_l1Cur_spoilt.l0 k a b c d e f) (spec_l1Cur_spoilt.l0 (k + 1) a b c d e f)) ∧ (∀ a b c d e f g, LeO (spec_l1Cur_spoilt.j1 k a b c d e f g) (spec_l1Cur_spoilt.j1 (k + 1) a b c d e f g))
  | 0 => ⟨fun _ _ _ _ _ _ => LeO.none _, fun _ _ _ _ _ _ _ => LeO.none _⟩
  | k + 1 => by
    obtain ⟨ih0, ih1⟩ := spec_l1Cur_spoilt.mono_l k
    refine ⟨?_, ?_⟩
    · intros; unfold spec_l1Cur_spoilt.l0; exact mo_
    · intros; unfold spec_l1Cur_spoilt.j1; exact mo_
theorem spec_l1Cur_spoilt.mono : ∀ a0 a1 a2 a3 a4 k, LeO (spec_l1Cur_spoilt.f k a0 a1 a2 a3 a4) (spec_l1Cur_spoilt.f (k + 1) a0 a1 a2 a3 a4) := by
  intro a0 a1 a2 a3 a4 k
  obtain ⟨ih0, ih1⟩ := spec_l1Cur_spoilt.mono_l k
  unfold spec_l1Cur_spoilt.f
  exact mo_
noncomputable def spec_l1Cur_spoilt.L0 := fun a b c d e f => lim fun k => spec_l1Cur_spoilt.l0 k a b c d e f
theorem spec_l1Cur_spoilt.L0_lim a b c d e f : Lim (fun k => spec_l1Cur_spoilt.l0 k a b c d e f) (spec_l1Cur_spoilt.L0 a b c d e f) := ⟨fun k => (spec_l1Cur_spoilt.mono_l k).1 a b c d e f, rfl⟩
noncomputable def spec_l1Cur_spoilt.J1 := fun a b c d e f g => lim fun k => spec_l1Cur_spoilt.j1 k a b c d e f g
theorem spec_l1Cur_spoilt.J1_lim a b c d e f g : Lim (fun k => spec_l1Cur_spoilt.j1 k a b c d e f g) (spec_l1Cur_spoilt.J1 a b c d e f g) := ⟨fun k => (spec_l1Cur_spoilt.mono_l k).2 a b c d e f g, rfl⟩
noncomputable def spec_l1Cur_spoilt.F := fun a b c d e => lim fun k => spec_l1Cur_spoilt.f k a b c d e
theorem spec_l1Cur_spoilt.F_lim a b c d e : Lim (fun k => spec_l1Cur_spoilt.f k a b c d e) (spec_l1Cur_spoilt.F a b c d e) := ⟨spec_l1Cur_spoilt.mono a b c d e, rfl⟩
theorem spec_l1Cur_spoilt.L0_eq a b c d e f : spec_l1Cur_spoilt.L0 a b c d e f = (if c > 0 then (spec_l1Cur_spoilt.J1 a b c (decide ((a.size : Int) > 0)) d e f) else (spec_l1Cur_spoilt.J1 a b c false d e f)) := by
  refine Lim.succ_eq (spec_l1Cur_spoilt.L0_lim ..).mon ?_
  simp only [spec_l1Cur_spoilt.l0]
  have m0 := @spec_l1Cur_spoilt.J1_lim
  exact li_
theorem spec_l1Cur_spoilt.J1_eq a b c d e f g : spec_l1Cur_spoilt.J1 a b c d e f g = (if d = true then ((spec_l1Cur_pick.f e f g (a.size : Int)).bind fun bt548 => ((spec_l1Cur_pick.f e bt548.2.1 bt548.2.2 (b.size : Int)).bind fun bt551 => (if 0 ≤ bt551.1 then (if bt551.1 < (b.size : Int) then ((some (([bt b bt551.1] : List Int) : List Int)).bind fun y554 => ((spec_l1Cur_pick.f e bt551.2.1 bt551.2.2 3).bind fun bt557 => (if bt557.1 = 0 then (if 0 ≤ bt548.1 then (if bt548.1 ≤ (a.size : Int) then (if (a.extract 0 (bt548.1 : Int).toNat).size + (strOfNums y554).size ≤ 9223372036854775807 then (if ((a.extract 0 (bt548.1 : Int).toNat) ++ (strOfNums y554)).size + (a.extract (bt548.1 : Int).toNat a.size).size ≤ 9223372036854775807 then (spec_l1Cur_spoilt.L0 (((a.extract 0 (bt548.1 : Int).toNat) ++ (strOfNums y554)) ++ (a.extract (bt548.1 : Int).toNat a.size)) b (wrap64 (c - 1)) e bt557.2.1 bt557.2.2) else (none)) else (none)) else (none)) else (none)) else (if bt557.1 = 1 then (if 0 ≤ bt548.1 then (if bt548.1 ≤ (a.size : Int) then (if (a.extract 0 (bt548.1 : Int).toNat).size + (strOfNums y554).size ≤ 9223372036854775807 then (if 0 ≤ (wrap64 (bt548.1 + 1)) then (if (wrap64 (bt548.1 + 1)) ≤ (a.size : Int) then (if ((a.extract 0 (bt548.1 : Int).toNat) ++ (strOfNums y554)).size + (a.extract ((wrap64 (bt548.1 + 1)) : Int).toNat a.size).size ≤ 9223372036854775807 then (spec_l1Cur_spoilt.L0 (((a.extract 0 (bt548.1 : Int).toNat) ++ (strOfNums y554)) ++ (a.extract ((wrap64 (bt548.1 + 1)) : Int).toNat a.size)) b (wrap64 (c - 1)) e bt557.2.1 bt557.2.2) else (none)) else (none)) else (none)) else (none)) else (none)) else (none)) else (if 0 ≤ bt548.1 then (if bt548.1 ≤ (a.size : Int) then (if 0 ≤ (wrap64 (bt548.1 + 1)) then (if (wrap64 (bt548.1 + 1)) ≤ (a.size : Int) then (if (a.extract 0 (bt548.1 : Int).toNat).size + (a.extract ((wrap64 (bt548.1 + 1)) : Int).toNat a.size).size ≤ 9223372036854775807 then (spec_l1Cur_spoilt.L0 ((a.extract 0 (bt548.1 : Int).toNat) ++ (a.extract ((wrap64 (bt548.1 + 1)) : Int).toNat a.size)) b (wrap64 (c - 1)) e bt557.2.1 bt557.2.2) else (none)) else (none)) else (none)) else (none)) else (none)))))) else (none)) else (none)))) else (some (a, f, g))) := by
  refine Lim.succ_eq (spec_l1Cur_spoilt.J1_lim ..).mon ?_
  simp only [spec_l1Cur_spoilt.j1]
  have m0 := @spec_l1Cur_spoilt.L0_lim
  exact li_
theorem spec_l1Cur_spoilt.F_eq s0_0 s0_1 s0_2 a1 a2 : spec_l1Cur_spoilt.F s0_0 s0_1 s0_2 a1 a2 = ((spec_l1Cur_pick.f s0_0 s0_1 s0_2 2).bind fun bt545 => (spec_l1Cur_spoilt.L0 a1 a2 (wrap64 (1 + bt545.1)) s0_0 bt545.2.1 bt545.2.2)) := by
  refine Lim.eq_ ?_
  simp only [spec_l1Cur_spoilt.f]
  have m0 := @spec_l1Cur_spoilt.L0_lim
  exact li_
def spec_DrawParseShape.j0 : Nat → ByteArray → Int → Bool → List Int → Int → Int → Option (ByteArray)
  | 0, _, _, _, _, _, _ => none
  | k + 1, a, b, c, d, e, f => if c = true then ((spec_l1Cur_spoilt.f k d e f a (⟨#[48, 49, 50, 51, 115]⟩ : ByteArray)).bind fun bt573 => (some bt573.1)) else (if b = 2 then ((spec_l1Cur_of.f d e f (([(⟨#[]⟩ : ByteArray), (⟨#[48, 48, 48, 48, 48]⟩ : ByteArray), (⟨#[48, 48, 48, 48, 48, 115]⟩ : ByteArray), (⟨#[48, 50, 48, 50, 48, 115]⟩ : ByteArray), (⟨#[48, 48, 48, 48]⟩ : ByteArray), (⟨#[48, 48, 48, 48, 48, 48]⟩ : ByteArray), (⟨#[51, 48, 48, 48, 48]⟩ : ByteArray), (⟨#[48, 48, 48, 48, 51]⟩ : ByteArray), (⟨#[48, 48, 48, 48, 48, 83]⟩ : ByteArray)] : List ByteArray))).bind fun bt579 => (some bt579.1)) else (some a))
def spec_DrawParseShape.f (k : Nat) (l0 : List Int) : Option (ByteArray) := (spec_l1Cur_shape.f k l0 0 0).bind fun bt561 => ((spec_shText.f k bt561.1 bt561.2.1 bt561.2.2.1 bt561.2.2.2.1 bt561.2.2.2.2.1 bt561.2.2.2.2.2.1).bind fun t569 => ((spec_l1Cur_pick.f l0 bt561.2.2.2.2.2.2.1 bt561.2.2.2.2.2.2.2 5).bind fun bt570 => (if bt570.1 = 0 then (spec_DrawParseShape.j0 k t569 bt570.1 (bt570.1 == 0) l0 bt570.2.1 bt570.2.2) else (spec_DrawParseShape.j0 k t569 bt570.1 (bt570.1 == 1) l0 bt570.2.1 bt570.2.2))))
theorem spec_DrawParseShape.mono_l : ∀ k, (∀ a b c d e f, LeO (spec_DrawParseShape.j0 k a b c d e f) (spec_DrawParseShape.j0 (k + 1) a b c d e f))
  | 0 => fun _ _ _ _ _ _ => LeO.none _
  | k + 1 => by
    have ih0 := spec_DrawParseShape.mono_l k
    have m0 := @spec_l1Cur_shape.mono
    have m1 := @spec_l1Cur_spoilt.mono
    have m2 := @spec_shText.mono
    · intros; unfold spec_DrawParseShape.j0; exact mo_
theorem spec_DrawParseShape.mono : ∀ a0 k, LeO (spec_DrawParseShape.f k a0) (spec_DrawParseShape.f (k + 1) a0) := by
  intro a0 k
  have ih0 := spec_DrawParseShape.mono_l k
  unfold spec_DrawParseShape.f
  have m0 := @spec_l1Cur_shape.mono
  have m1 := @spec_l1Cur_spoilt.mono
  have m2 := @spec_shText.mono
  exact mo_
noncomputable def spec_DrawParseShape.J0 := fun a b c d e f => lim fun k => spec_DrawParseShape.j0 k a b c d e f
theorem spec_DrawParseShape.J0_lim a b c d e f : Lim (fun k => spec_DrawParseShape.j0 k a b c d e f) (spec_DrawParseShape.J0 a b c d e f) := ⟨fun k => (spec_DrawParseShape.mono_l k) a b c d e f, rfl⟩
noncomputable def spec_DrawParseShape.F := fun a => lim fun k => spec_DrawParseShape.f k a
theorem spec_DrawParseShape.F_lim a : Lim (fun k => spec_DrawParseShape.f k a) (spec_DrawParseShape.F a) := ⟨spec_DrawParseShape.mono a, rfl⟩
theorem spec_DrawParseShape.J0_eq a b c d e f : spec_DrawParseShape.J0 a b c d e f = (if c = true then ((spec_l1Cur_spoilt.F d e f a (⟨#[48, 49, 50, 51, 115]⟩ : ByteArray)).bind fun bt573 => (some bt573.1)) else (if b = 2 then ((spec_l1Cur_of.f d e f (([(⟨#[]⟩ : ByteArray), (⟨#[48, 48, 48, 48, 48]⟩ : ByteArray), (⟨#[48, 48, 48, 48, 48, 115]⟩ : ByteArray), (⟨#[48, 50, 48, 50, 48, 115]⟩ : ByteArray), (⟨#[48, 48, 48, 48]⟩ : ByteArray), (⟨#[48, 48, 48, 48, 48, 48]⟩ : ByteArray), (⟨#[51, 48, 48, 48, 48]⟩ : ByteArray), (⟨#[48, 48, 48, 48, 51]⟩ : ByteArray), (⟨#[48, 48, 48, 48, 48, 83]⟩ : ByteArray)] : List ByteArray))).bind fun bt579 => (some bt579.1)) else (some a))) := by
  refine Lim.succ_eq (spec_DrawParseShape.J0_lim ..).mon ?_
  simp only [spec_DrawParseShape.j0]
  have m0 := @spec_l1Cur_spoilt.F_lim
  exact li_
theorem spec_DrawParseShape.F_eq l0 : spec_DrawParseShape.F l0 = ((spec_l1Cur_shape.F l0 0 0).bind fun bt561 => ((spec_shText.F bt561.1 bt561.2.1 bt561.2.2.1 bt561.2.2.2.1 bt561.2.2.2.2.1 bt561.2.2.2.2.2.1).bind fun t569 => ((spec_l1Cur_pick.f l0 bt561.2.2.2.2.2.2.1 bt561.2.2.2.2.2.2.2 5).bind fun bt570 => (if bt570.1 = 0 then (spec_DrawParseShape.J0 t569 bt570.1 (bt570.1 == 0) l0 bt570.2.1 bt570.2.2) else (spec_DrawParseShape.J0 t569 bt570.1 (bt570.1 == 1) l0 bt570.2.1 bt570.2.2))))) := by
  refine Lim.eq_ ?_
  simp only [spec_DrawParseShape.f]
  have m0 := @spec_DrawParseShape.J0_lim
  have m1 := @spec_l1Cur_shape.F_lim
  have m2 := @spec_shText.F_lim
  exact li_
def impl_ParseShape.l0 : Nat → ByteArray → Int → Int → Int → Int → Int → Int → Bool → Option (Int × Int × Int × Int × Int × Bool × Bool)
  | 0, _, _, _, _, _, _, _, _ => none
  | k + 1, a, b, c, d, e, f, g, h => if b < 5 then (if 0 ≤ b then (if b < (a.size : Int) then ((impl_Shape_with.f c d e f g h b (wrap64 ((wrap64 (bt a b)) - 48))).bind fun bt585 => (impl_ParseShape.l0 k a (wrap64 (b + 1)) bt585.1 bt585.2.1 bt585.2.2.1 bt585.2.2.2.1 bt585.2.2.2.2.1 bt585.2.2.2.2.2)) else (none)) else (none)) else ((impl_IsShape.f k c d e f g ((a.size : Int) == 6)).bind fun t591 => (if t591 = true then ((impl_Shape_text.f k c d e f g ((a.size : Int) == 6)).bind fun t592 => (if t592.toList = a.toList then (some (c, d, e, f, g, ((a.size : Int) == 6), true)) else (some (0, 0, 0, 0, 0, false, false)))) else (some (0, 0, 0, 0, 0, false, false))))
def impl_ParseShape.f (k : Nat) (a0 : ByteArray) : Option (Int × Int × Int × Int × Int × Bool × Bool) := (impl_within.f (a0.size : Int) 5 6).bind fun t583 => (if t583 = true then (impl_ParseShape.l0 k a0 0 0 0 0 0 0 false) else (some (0, 0, 0, 0, 0, false, false)))
theorem impl_ParseShape.mono_l : ∀ k, (∀ a b c d e f g h, LeO (impl_ParseShape.l0 k a b c d e f g h) (impl_ParseShape.l0 (k + 1) a b c d e f g h))
  | 0 => fun _ _ _ _ _ _ _ _ => LeO.none _
  | k + 1 => by
    have ih0 := impl_ParseShape.mono_l k
    have m0 := @impl_IsShape.mono
    have m1 := @impl_Shape_text.mono
    · intros; unfold impl_ParseShape.l0; exact mo_
theorem impl_ParseShape.mono : ∀ a0 k, LeO (impl_ParseShape.f k a0) (impl_ParseShape.f (k + 1) a0) := by
  intro a0 k
  have ih0 := impl_ParseShape.mono_l k
  unfold impl_ParseShape.f
  have m0 := @impl_IsShape.mono
  have m1 := @impl_Shape_text.mono
  exact mo_
noncomputable def impl_ParseShape.L0 := fun a b c d e f g h => lim fun k => impl_ParseShape.l0 k a b c d e f g h
theorem impl_ParseShape.L0_lim a b c d e f g h : Lim (fun k => impl_ParseShape.l0 k a b c d e f g h) (impl_ParseShape.L0 a b c d e f g h) := ⟨fun k => (impl_ParseShape.mono_l k) a b c d e f g h, rfl⟩
noncomputable def impl_ParseShape.F := fun a => lim fun k => impl_ParseShape.f k a
theorem impl_ParseShape.F_lim a : Lim (fun k => impl_ParseShape.f k a) (impl_ParseShape.F a) := ⟨impl_ParseShape.mono a, rfl⟩
theorem impl_ParseShape.L0_eq a b c d e f g h : impl_ParseShape.L0 a b c d e f g h = (if b < 5 then (if 0 ≤ b then (if b < (a.size : Int) then ((impl_Shape_with.f c d e f g h b (wrap64 ((wrap64 (bt a b)) - 48))).bind fun bt585 => (impl_ParseShape.L0 a (wrap64 (b + 1)) bt585.1 bt585.2.1 bt585.2.2.1 bt585.2.2.2.1 bt585.2.2.2.2.1 bt585.2.2.2.2.2)) else (none)) else (none)) else ((impl_IsShape.F c d e f g ((a.size : Int) == 6)).bind fun t591 => (if t591 = true then ((impl_Shape_text.F c d e f g ((a.size : Int) == 6)).bind fun t592 => (if t592.toList = a.toList then (some (c, d, e, f, g, ((a.size : Int) == 6), true)) else (some (0, 0, 0, 0, 0, false, false)))) else (some (0, 0, 0, 0, 0, false, false))))) := by
  refine Lim.succ_eq (impl_ParseShape.L0_lim ..).mon ?_
  simp only [impl_ParseShape.l0]
  have m0 := @impl_ParseShape.L0_lim
  have m1 := @impl_IsShape.F_lim
  have m2 := @impl_Shape_text.F_lim
  exact li_
theorem impl_ParseShape.F_eq a0 : impl_ParseShape.F a0 = ((impl_within.f (a0.size : Int) 5 6).bind fun t583 => (if t583 = true then (impl_ParseShape.L0 a0 0 0 0 0 0 0 false) else (some (0, 0, 0, 0, 0, false, false)))) := by
  refine Lim.eq_ ?_
  simp only [impl_ParseShape.f]
  have m0 := @impl_ParseShape.L0_lim
  exact li_
def spec_ParseShape.f (k : Nat) (a0 : ByteArray) : Option (Int × Int × Int × Int × Int × Bool × Bool) := (spec_shParse.f k a0).bind fun bt594 => (some (bt594.1, bt594.2.1, bt594.2.2.1, bt594.2.2.2.1, bt594.2.2.2.2.1, bt594.2.2.2.2.2.1, bt594.2.2.2.2.2.2))
theorem spec_ParseShape.mono : ∀ a0 k, LeO (spec_ParseShape.f k a0) (spec_ParseShape.f (k + 1) a0) := by
  intro a0 k
  unfold spec_ParseShape.f
  have m0 := @spec_shParse.mono
  exact mo_
noncomputable def spec_ParseShape.F := fun a => lim fun k => spec_ParseShape.f k a
theorem spec_ParseShape.F_lim a : Lim (fun k => spec_ParseShape.f k a) (spec_ParseShape.F a) := ⟨spec_ParseShape.mono a, rfl⟩
theorem spec_ParseShape.F_eq a0 : spec_ParseShape.F a0 = ((spec_shParse.F a0).bind fun bt594 => (some (bt594.1, bt594.2.1, bt594.2.2.1, bt594.2.2.2.1, bt594.2.2.2.2.1, bt594.2.2.2.2.2.1, bt594.2.2.2.2.2.2))) := by
  refine Lim.eq_ ?_
  simp only [spec_ParseShape.f]
  have m0 := @spec_shParse.F_lim
  exact li_
end Go.Proofs.YtbfkpgmdbafmhaaDoor.PFnShapes
