/- Written by a program of this claim's author, out of the loaded program as Lean prints it: the functions as Lean functions, and that the calls answer so. -/
import Derived.Test.YtfkdlfbjkdkffaaGreatDoorPFnPointsx0
namespace Go.Proofs.YtfkdlfbjkdkffaaGreatDoor.PFnPoints
open Go.RowKit Go.Proofs.YtfkdlfbjkdkffaaGreatDoorW.PrintWords Go.Proofs.YtfkdlfbjkdkffaaGreatDoorW.PrintLast Go.Proofs.YtfkdlfbjkdkffaaGreatDoorW.PrintMore
attribute [local go_sem] max2_int min2_int max_two min_two max_three min_three max_four min_four   -- for this text's walks alone
set_option linter.unusedVariables false
set_option linter.unusedSimpArgs false

def laws_big.f (l0 : List Int) (l1 : List Int) : Option (Bool) := if (l0.length : Int) > 1048576 then (some true) else (some (decide ((l1.length : Int) > (wrap64 (1048576 - (l0.length : Int))))))
def spec_l1Cur_next.f (s0_0 : List Int) (s0_1 : Int) (s0_2 : Int) : Option (Int × Int × Int) := if s0_1 < (s0_0.length : Int) then (if 0 ≤ s0_1 then (if (wrap64 (s0_1 + 1)) ≤ (s0_0.length : Int) then (some (wrap64 (rd s0_0 s0_1), wrap64 (s0_1 + 1), IntKind.u64.wrap ((IntKind.u64.wrap ((IntKind.u64.wrap (s0_2 * 6364136223846793005)) + (IntKind.u64.wrap (wrap64 (rd s0_0 s0_1))))) + 1442695040888963407))) else (some (wrap64 (Go.bits .and .u64 ((IntKind.u64.wrap ((IntKind.u64.wrap ((IntKind.u64.wrap (s0_2 * 6364136223846793005)) + (IntKind.u64.wrap (wrap64 (rd s0_0 s0_1))))) + 1442695040888963407)) / 1099511627776) 255), wrap64 (s0_1 + 1), IntKind.u64.wrap ((IntKind.u64.wrap ((IntKind.u64.wrap (s0_2 * 6364136223846793005)) + (IntKind.u64.wrap (wrap64 (rd s0_0 s0_1))))) + 1442695040888963407)))) else (none)) else (if (wrap64 (s0_1 + 1)) ≤ (s0_0.length : Int) then (some (0, wrap64 (s0_1 + 1), IntKind.u64.wrap ((IntKind.u64.wrap ((IntKind.u64.wrap (s0_2 * 6364136223846793005)))) + 1442695040888963407))) else (some (wrap64 (Go.bits .and .u64 ((IntKind.u64.wrap ((IntKind.u64.wrap ((IntKind.u64.wrap (s0_2 * 6364136223846793005)))) + 1442695040888963407)) / 1099511627776) 255), wrap64 (s0_1 + 1), IntKind.u64.wrap ((IntKind.u64.wrap ((IntKind.u64.wrap (s0_2 * 6364136223846793005)))) + 1442695040888963407))))
def spec_l1Cur_pick.f (s0_0 : List Int) (s0_1 : Int) (s0_2 : Int) (a1 : Int) : Option (Int × Int × Int) := if a1 ≤ 1 then (some (0, s0_1, s0_2)) else ((spec_l1Cur_next.f s0_0 s0_1 s0_2).bind fun bt102 => (if a1 > 200 then ((spec_l1Cur_next.f s0_0 bt102.2.1 bt102.2.2).bind fun bt105 => (if a1 = 0 then (none) else (some (Int.tmod (wrap64 ((wrap64 (bt102.1 * 256)) + bt105.1)) a1, bt105.2.1, bt105.2.2)))) else (if a1 = 0 then (none) else (some (Int.tmod bt102.1 a1, bt102.2.1, bt102.2.2)))))
def spec_loFind.l0 : Nat → ByteArray → List (S58) → Int → Int → Option (Int)
  | 0, _, _, _, _ => none
  | k + 1, a, b, c, d => if d < c then (if 0 ≤ d then (if d < (b.length : Int) then (if ((rd_T58 b d).f0).toList = a.toList then (some d) else (spec_loFind.l0 k a b c (wrap64 (d + 1)))) else (none)) else (none)) else (some (-1))
def spec_loFind.f (k : Nat) (l0 : List (S58)) (a1 : ByteArray) : Option (Int) := spec_loFind.l0 k a1 l0 (l0.length : Int) 0
theorem spec_loFind.mono_l : ∀ k, (∀ a b c d, LeO (spec_loFind.l0 k a b c d) (spec_loFind.l0 (k + 1) a b c d))
  | 0 => fun _ _ _ _ => LeO.none _
  | k + 1 => by
    have ih0 := spec_loFind.mono_l k
    · intros; unfold spec_loFind.l0; exact mo_
theorem spec_loFind.mono : ∀ a0 a1 k, LeO (spec_loFind.f k a0 a1) (spec_loFind.f (k + 1) a0 a1) := by
  intro a0 a1 k
  have ih0 := spec_loFind.mono_l k
  unfold spec_loFind.f
  exact mo_
noncomputable def spec_loFind.L0 := fun a b c d => lim fun k => spec_loFind.l0 k a b c d
theorem spec_loFind.L0_lim a b c d : Lim (fun k => spec_loFind.l0 k a b c d) (spec_loFind.L0 a b c d) := ⟨fun k => (spec_loFind.mono_l k) a b c d, rfl⟩
noncomputable def spec_loFind.F := fun a b => lim fun k => spec_loFind.f k a b
theorem spec_loFind.F_lim a b : Lim (fun k => spec_loFind.f k a b) (spec_loFind.F a b) := ⟨spec_loFind.mono a b, rfl⟩
theorem spec_loFind.L0_eq a b c d : spec_loFind.L0 a b c d = (if d < c then (if 0 ≤ d then (if d < (b.length : Int) then (if ((rd_T58 b d).f0).toList = a.toList then (some d) else (spec_loFind.L0 a b c (wrap64 (d + 1)))) else (none)) else (none)) else (some (-1))) := by
  refine Lim.succ_eq (spec_loFind.L0_lim ..).mon ?_
  simp only [spec_loFind.l0]
  have m0 := @spec_loFind.L0_lim
  exact li_
theorem spec_loFind.F_eq l0 a1 : spec_loFind.F l0 a1 = (spec_loFind.L0 a1 l0 (l0.length : Int) 0) := by
  refine Lim.eq_ ?_
  simp only [spec_loFind.f]
  have m0 := @spec_loFind.L0_lim
  exact li_
def spec_l1In.f (a0 : Int) (a1 : Int) (a2 : Int) : Option (Bool) := if a0 ≥ a1 then (some (decide (a0 ≤ a2))) else (some false)
def spec_loAngle.f (a0 : Int) : Option (Bool) := (spec_l1In.f a0 (-90) 90).bind fun t110 => (some t110)
def spec_naName.l0 : Nat → ByteArray → Int → Option (Bool)
  | 0, _, _ => none
  | k + 1, a, b => if b < (a.size : Int) then (if 0 ≤ b then (if (bt a b) < 97 then (some false) else (if (bt a b) > 122 then (some false) else (spec_naName.l0 k a (wrap64 (b + 1))))) else (none)) else ((spec_l1In.f (a.size : Int) 1 8).bind fun t111 => (some t111))
def spec_naName.f (k : Nat) (a0 : ByteArray) : Option (Bool) := spec_naName.l0 k a0 0
theorem spec_naName.mono_l : ∀ k, (∀ a b, LeO (spec_naName.l0 k a b) (spec_naName.l0 (k + 1) a b))
  | 0 => fun _ _ => LeO.none _
  | k + 1 => by
    have ih0 := spec_naName.mono_l k
    · intros; unfold spec_naName.l0; exact mo_
theorem spec_naName.mono : ∀ a0 k, LeO (spec_naName.f k a0) (spec_naName.f (k + 1) a0) := by
  intro a0 k
  have ih0 := spec_naName.mono_l k
  unfold spec_naName.f
  exact mo_
noncomputable def spec_naName.L0 := fun a b => lim fun k => spec_naName.l0 k a b
theorem spec_naName.L0_lim a b : Lim (fun k => spec_naName.l0 k a b) (spec_naName.L0 a b) := ⟨fun k => (spec_naName.mono_l k) a b, rfl⟩
noncomputable def spec_naName.F := fun a => lim fun k => spec_naName.f k a
theorem spec_naName.F_lim a : Lim (fun k => spec_naName.f k a) (spec_naName.F a) := ⟨spec_naName.mono a, rfl⟩
theorem spec_naName.L0_eq a b : spec_naName.L0 a b = (if b < (a.size : Int) then (if 0 ≤ b then (if (bt a b) < 97 then (some false) else (if (bt a b) > 122 then (some false) else (spec_naName.L0 a (wrap64 (b + 1))))) else (none)) else ((spec_l1In.f (a.size : Int) 1 8).bind fun t111 => (some t111))) := by
  refine Lim.succ_eq (spec_naName.L0_lim ..).mon ?_
  simp only [spec_naName.l0]
  have m0 := @spec_naName.L0_lim
  exact li_
theorem spec_naName.F_eq a0 : spec_naName.F a0 = (spec_naName.L0 a0 0) := by
  refine Lim.eq_ ?_
  simp only [spec_naName.f]
  have m0 := @spec_naName.L0_lim
  exact li_
def spec_loGood.l0 : Nat → List (S58) → List (S58) → Int → Int → Option (Bool)
  | 0, _, _, _, _ => none
  | k + 1, a, b, c, d => if d < c then (if 0 ≤ d then (if d < (b.length : Int) then ((spec_naName.f k ((rd_T58 b d).f0)).bind fun t114 => (if t114 = true then ((spec_loAngle.f ((rd_T58 b d).f1)).bind fun t115 => (if t115 = true then (if d > 0 then (if 0 ≤ (wrap64 (d - 1)) then (if (wrap64 (d - 1)) < (a.length : Int) then (if ((rd_T58 a (wrap64 (d - 1))).f1) ≥ ((rd_T58 b d).f1) then (some false) else (if d ≤ (a.length : Int) then ((spec_loFind.f k (a.take (d : Int).toNat) ((rd_T58 b d).f0)).bind fun t121 => (if t121 ≥ 0 then (some false) else (spec_loGood.l0 k a b c (wrap64 (d + 1))))) else (none))) else (none)) else (none)) else (if d ≤ (a.length : Int) then ((spec_loFind.f k (a.take (d : Int).toNat) ((rd_T58 b d).f0)).bind fun t126 => (if t126 ≥ 0 then (some false) else (spec_loGood.l0 k a b c (wrap64 (d + 1))))) else (none))) else (some false))) else (some false))) else (none)) else (none)) else (some (decide ((a.length : Int) ≤ 8)))
def spec_loGood.f (k : Nat) (l0 : List (S58)) : Option (Bool) := spec_loGood.l0 k l0 l0 (l0.length : Int) 0
theorem spec_loGood.mono_l : ∀ k, (∀ a b c d, LeO (spec_loGood.l0 k a b c d) (spec_loGood.l0 (k + 1) a b c d))
  | 0 => fun _ _ _ _ => LeO.none _
  | k + 1 => by
    have ih0 := spec_loGood.mono_l k
    have m0 := @spec_loFind.mono
    have m1 := @spec_naName.mono
    · intros; unfold spec_loGood.l0; exact mo_
theorem spec_loGood.mono : ∀ a0 k, LeO (spec_loGood.f k a0) (spec_loGood.f (k + 1) a0) := by
  intro a0 k
  have ih0 := spec_loGood.mono_l k
  unfold spec_loGood.f
  have m0 := @spec_loFind.mono
  have m1 := @spec_naName.mono
  exact mo_
noncomputable def spec_loGood.L0 := fun a b c d => lim fun k => spec_loGood.l0 k a b c d
theorem spec_loGood.L0_lim a b c d : Lim (fun k => spec_loGood.l0 k a b c d) (spec_loGood.L0 a b c d) := ⟨fun k => (spec_loGood.mono_l k) a b c d, rfl⟩
noncomputable def spec_loGood.F := fun a => lim fun k => spec_loGood.f k a
theorem spec_loGood.F_lim a : Lim (fun k => spec_loGood.f k a) (spec_loGood.F a) := ⟨spec_loGood.mono a, rfl⟩
theorem spec_loGood.L0_eq a b c d : spec_loGood.L0 a b c d = (if d < c then (if 0 ≤ d then (if d < (b.length : Int) then ((spec_naName.F ((rd_T58 b d).f0)).bind fun t114 => (if t114 = true then ((spec_loAngle.f ((rd_T58 b d).f1)).bind fun t115 => (if t115 = true then (if d > 0 then (if 0 ≤ (wrap64 (d - 1)) then (if (wrap64 (d - 1)) < (a.length : Int) then (if ((rd_T58 a (wrap64 (d - 1))).f1) ≥ ((rd_T58 b d).f1) then (some false) else (if d ≤ (a.length : Int) then ((spec_loFind.F (a.take (d : Int).toNat) ((rd_T58 b d).f0)).bind fun t121 => (if t121 ≥ 0 then (some false) else (spec_loGood.L0 a b c (wrap64 (d + 1))))) else (none))) else (none)) else (none)) else (if d ≤ (a.length : Int) then ((spec_loFind.F (a.take (d : Int).toNat) ((rd_T58 b d).f0)).bind fun t126 => (if t126 ≥ 0 then (some false) else (spec_loGood.L0 a b c (wrap64 (d + 1))))) else (none))) else (some false))) else (some false))) else (none)) else (none)) else (some (decide ((a.length : Int) ≤ 8)))) := by
  refine Lim.succ_eq (spec_loGood.L0_lim ..).mon ?_
  simp only [spec_loGood.l0]
  have m0 := @spec_loGood.L0_lim
  have m1 := @spec_loFind.F_lim
  have m2 := @spec_naName.F_lim
  exact li_
theorem spec_loGood.F_eq l0 : spec_loGood.F l0 = (spec_loGood.L0 l0 l0 (l0.length : Int) 0) := by
  refine Lim.eq_ ?_
  simp only [spec_loGood.f]
  have m0 := @spec_loGood.L0_lim
  exact li_
def spec_loIf.f (k : Nat) (l0 : List (S58)) : Option ((List (S58)) × Bool) := (spec_loGood.f k l0).bind fun t127 => (if t127 = true then (some (l0, true)) else (some (([] : List (S58)), false)))
theorem spec_loIf.mono : ∀ a0 k, LeO (spec_loIf.f k a0) (spec_loIf.f (k + 1) a0) := by
  intro a0 k
  unfold spec_loIf.f
  have m0 := @spec_loGood.mono
  exact mo_
noncomputable def spec_loIf.F := fun a => lim fun k => spec_loIf.f k a
theorem spec_loIf.F_lim a : Lim (fun k => spec_loIf.f k a) (spec_loIf.F a) := ⟨spec_loIf.mono a, rfl⟩
theorem spec_loIf.F_eq l0 : spec_loIf.F l0 = ((spec_loGood.F l0).bind fun t127 => (if t127 = true then (some (l0, true)) else (some (([] : List (S58)), false)))) := by
  refine Lim.eq_ ?_
  simp only [spec_loIf.f]
  have m0 := @spec_loGood.F_lim
  exact li_
def spec_loPut.l0 : Nat → List (S58) → Int → ByteArray → Int → Option ((List (S58)))
  | 0, _, _, _, _ => none
  | k + 1, a, b, c, d => if b < (a.length : Int) then (if 0 ≤ b then (if ((rd_T58 a b).f1) < d then (spec_loPut.l0 k a (wrap64 (b + 1)) c d) else ((some (([] : List (S58)) : List (S58))).bind fun y130 => (if b ≤ (a.length : Int) then ((some (a.take (b : Int).toNat : List (S58))).bind fun y133 => (if y130.length + y133.length < 5864062014805 then ((some (y130 ++ y133 : List (S58))).bind fun y137 => ((some (([(⟨c, d⟩ : S58)] : List (S58)) : List (S58))).bind fun y140 => (if y137.length + y140.length < 5864062014805 then ((some (y137 ++ y140 : List (S58))).bind fun y143 => ((some (a.drop (b : Int).toNat : List (S58))).bind fun y146 => (if y143.length + y146.length < 5864062014805 then (some (y143 ++ y146)) else (none)))) else (none)))) else (none))) else (none)))) else (none)) else ((some (([] : List (S58)) : List (S58))).bind fun y153 => (if 0 ≤ b then (if b ≤ (a.length : Int) then ((some (a.take (b : Int).toNat : List (S58))).bind fun y156 => (if y153.length + y156.length < 5864062014805 then ((some (y153 ++ y156 : List (S58))).bind fun y160 => ((some (([(⟨c, d⟩ : S58)] : List (S58)) : List (S58))).bind fun y163 => (if y160.length + y163.length < 5864062014805 then ((some (y160 ++ y163 : List (S58))).bind fun y166 => ((some (a.drop (b : Int).toNat : List (S58))).bind fun y169 => (if y166.length + y169.length < 5864062014805 then (some (y166 ++ y169)) else (none)))) else (none)))) else (none))) else (none)) else (none)))
def spec_loPut.f (k : Nat) (l0 : List (S58)) (a1_0 : ByteArray) (a1_1 : Int) : Option ((List (S58))) := spec_loPut.l0 k l0 0 a1_0 a1_1
theorem spec_loPut.mono_l : ∀ k, (∀ a b c d, LeO (spec_loPut.l0 k a b c d) (spec_loPut.l0 (k + 1) a b c d))
  | 0 => fun _ _ _ _ => LeO.none _
  | k + 1 => by
    have ih0 := spec_loPut.mono_l k
    · intros; unfold spec_loPut.l0; exact mo_
theorem spec_loPut.mono : ∀ a0 a1 a2 k, LeO (spec_loPut.f k a0 a1 a2) (spec_loPut.f (k + 1) a0 a1 a2) := by
  intro a0 a1 a2 k
  have ih0 := spec_loPut.mono_l k
  unfold spec_loPut.f
  exact mo_
noncomputable def spec_loPut.L0 := fun a b c d => lim fun k => spec_loPut.l0 k a b c d
theorem spec_loPut.L0_lim a b c d : Lim (fun k => spec_loPut.l0 k a b c d) (spec_loPut.L0 a b c d) := ⟨fun k => (spec_loPut.mono_l k) a b c d, rfl⟩
noncomputable def spec_loPut.F := fun a b c => lim fun k => spec_loPut.f k a b c
theorem spec_loPut.F_lim a b c : Lim (fun k => spec_loPut.f k a b c) (spec_loPut.F a b c) := ⟨spec_loPut.mono a b c, rfl⟩
theorem spec_loPut.L0_eq a b c d : spec_loPut.L0 a b c d = (if b < (a.length : Int) then (if 0 ≤ b then (if ((rd_T58 a b).f1) < d then (spec_loPut.L0 a (wrap64 (b + 1)) c d) else ((some (([] : List (S58)) : List (S58))).bind fun y130 => (if b ≤ (a.length : Int) then ((some (a.take (b : Int).toNat : List (S58))).bind fun y133 => (if y130.length + y133.length < 5864062014805 then ((some (y130 ++ y133 : List (S58))).bind fun y137 => ((some (([(⟨c, d⟩ : S58)] : List (S58)) : List (S58))).bind fun y140 => (if y137.length + y140.length < 5864062014805 then ((some (y137 ++ y140 : List (S58))).bind fun y143 => ((some (a.drop (b : Int).toNat : List (S58))).bind fun y146 => (if y143.length + y146.length < 5864062014805 then (some (y143 ++ y146)) else (none)))) else (none)))) else (none))) else (none)))) else (none)) else ((some (([] : List (S58)) : List (S58))).bind fun y153 => (if 0 ≤ b then (if b ≤ (a.length : Int) then ((some (a.take (b : Int).toNat : List (S58))).bind fun y156 => (if y153.length + y156.length < 5864062014805 then ((some (y153 ++ y156 : List (S58))).bind fun y160 => ((some (([(⟨c, d⟩ : S58)] : List (S58)) : List (S58))).bind fun y163 => (if y160.length + y163.length < 5864062014805 then ((some (y160 ++ y163 : List (S58))).bind fun y166 => ((some (a.drop (b : Int).toNat : List (S58))).bind fun y169 => (if y166.length + y169.length < 5864062014805 then (some (y166 ++ y169)) else (none)))) else (none)))) else (none))) else (none)) else (none)))) := by
  refine Lim.succ_eq (spec_loPut.L0_lim ..).mon ?_
  simp only [spec_loPut.l0]
  have m0 := @spec_loPut.L0_lim
  exact li_
theorem spec_loPut.F_eq l0 a1_0 a1_1 : spec_loPut.F l0 a1_0 a1_1 = (spec_loPut.L0 l0 0 a1_0 a1_1) := by
  refine Lim.eq_ ?_
  simp only [spec_loPut.f]
  have m0 := @spec_loPut.L0_lim
  exact li_
def spec_loWithout.l0 : Nat → ByteArray → List (S58) → List (S58) → Int → Int → Option ((List (S58)))
  | 0, _, _, _, _, _ => none
  | k + 1, a, b, c, d, e => if e < d then (if 0 ≤ e then (if e < (c.length : Int) then (if ((rd_T58 c e).f0).toList = a.toList then (spec_loWithout.l0 k a b c d (wrap64 (e + 1))) else (if b.length < 5864062014805 then (spec_loWithout.l0 k a (b ++ [(⟨(rd_T58 c e).f0, (rd_T58 c e).f1⟩ : S58)]) c d (wrap64 (e + 1))) else (none))) else (none)) else (none)) else (some b)
def spec_loWithout.f (k : Nat) (l0 : List (S58)) (a1 : ByteArray) : Option ((List (S58))) := spec_loWithout.l0 k a1 ([] : List (S58)) l0 (l0.length : Int) 0
theorem spec_loWithout.mono_l : ∀ k, (∀ a b c d e, LeO (spec_loWithout.l0 k a b c d e) (spec_loWithout.l0 (k + 1) a b c d e))
  | 0 => fun _ _ _ _ _ => LeO.none _
  | k + 1 => by
    have ih0 := spec_loWithout.mono_l k
    · intros; unfold spec_loWithout.l0; exact mo_
theorem spec_loWithout.mono : ∀ a0 a1 k, LeO (spec_loWithout.f k a0 a1) (spec_loWithout.f (k + 1) a0 a1) := by
  intro a0 a1 k
  have ih0 := spec_loWithout.mono_l k
  unfold spec_loWithout.f
  exact mo_
noncomputable def spec_loWithout.L0 := fun a b c d e => lim fun k => spec_loWithout.l0 k a b c d e
theorem spec_loWithout.L0_lim a b c d e : Lim (fun k => spec_loWithout.l0 k a b c d e) (spec_loWithout.L0 a b c d e) := ⟨fun k => (spec_loWithout.mono_l k) a b c d e, rfl⟩
noncomputable def spec_loWithout.F := fun a b => lim fun k => spec_loWithout.f k a b
theorem spec_loWithout.F_lim a b : Lim (fun k => spec_loWithout.f k a b) (spec_loWithout.F a b) := ⟨spec_loWithout.mono a b, rfl⟩
theorem spec_loWithout.L0_eq a b c d e : spec_loWithout.L0 a b c d e = (if e < d then (if 0 ≤ e then (if e < (c.length : Int) then (if ((rd_T58 c e).f0).toList = a.toList then (spec_loWithout.L0 a b c d (wrap64 (e + 1))) else (if b.length < 5864062014805 then (spec_loWithout.L0 a (b ++ [(⟨(rd_T58 c e).f0, (rd_T58 c e).f1⟩ : S58)]) c d (wrap64 (e + 1))) else (none))) else (none)) else (none)) else (some b)) := by
  refine Lim.succ_eq (spec_loWithout.L0_lim ..).mon ?_
  simp only [spec_loWithout.l0]
  have m0 := @spec_loWithout.L0_lim
  exact li_
theorem spec_loWithout.F_eq l0 a1 : spec_loWithout.F l0 a1 = (spec_loWithout.L0 a1 ([] : List (S58)) l0 (l0.length : Int) 0) := by
  refine Lim.eq_ ?_
  simp only [spec_loWithout.f]
  have m0 := @spec_loWithout.L0_lim
  exact li_
def spec_PutReferent.j0 : Nat → List (S58) → ByteArray → Int → Bool → Option ((List (S58)) × Bool)
  | 0, _, _, _, _ => none
  | k + 1, a, b, c, d => if d = true then (some (([] : List (S58)), false)) else ((spec_loWithout.f k a b).bind fun t184 => ((spec_loPut.f k t184 b c).bind fun t187 => ((spec_loIf.f k t187).bind fun bt190 => (some (bt190.1, bt190.2)))))
def spec_PutReferent.f (k : Nat) (l0 : List (S58)) (a1 : ByteArray) (a2 : Int) : Option ((List (S58)) × Bool) := (spec_loGood.f k l0).bind fun t181 => (if t181 = true then ((spec_naName.f k a1).bind fun t182 => (if t182 = true then ((spec_loAngle.f a2).bind fun t183 => (spec_PutReferent.j0 k l0 a1 a2 (!t183))) else (spec_PutReferent.j0 k l0 a1 a2 true))) else (spec_PutReferent.j0 k l0 a1 a2 true))
theorem spec_PutReferent.mono_l : ∀ k, (∀ a b c d, LeO (spec_PutReferent.j0 k a b c d) (spec_PutReferent.j0 (k + 1) a b c d))
  | 0 => fun _ _ _ _ => LeO.none _
  | k + 1 => by
    have ih0 := spec_PutReferent.mono_l k
    have m0 := @spec_loGood.mono
    have m1 := @spec_loIf.mono
    have m2 := @spec_loPut.mono
    have m3 := @spec_loWithout.mono
    have m4 := @spec_naName.mono
    · intros; unfold spec_PutReferent.j0; exact mo_
theorem spec_PutReferent.mono : ∀ a0 a1 a2 k, LeO (spec_PutReferent.f k a0 a1 a2) (spec_PutReferent.f (k + 1) a0 a1 a2) := by
  intro a0 a1 a2 k
  have ih0 := spec_PutReferent.mono_l k
  unfold spec_PutReferent.f
  have m0 := @spec_loGood.mono
  have m1 := @spec_loIf.mono
  have m2 := @spec_loPut.mono
  have m3 := @spec_loWithout.mono
  have m4 := @spec_naName.mono
  exact mo_
noncomputable def spec_PutReferent.J0 := fun a b c d => lim fun k => spec_PutReferent.j0 k a b c d
theorem spec_PutReferent.J0_lim a b c d : Lim (fun k => spec_PutReferent.j0 k a b c d) (spec_PutReferent.J0 a b c d) := ⟨fun k => (spec_PutReferent.mono_l k) a b c d, rfl⟩
noncomputable def spec_PutReferent.F := fun a b c => lim fun k => spec_PutReferent.f k a b c
theorem spec_PutReferent.F_lim a b c : Lim (fun k => spec_PutReferent.f k a b c) (spec_PutReferent.F a b c) := ⟨spec_PutReferent.mono a b c, rfl⟩
theorem spec_PutReferent.J0_eq a b c d : spec_PutReferent.J0 a b c d = (if d = true then (some (([] : List (S58)), false)) else ((spec_loWithout.F a b).bind fun t184 => ((spec_loPut.F t184 b c).bind fun t187 => ((spec_loIf.F t187).bind fun bt190 => (some (bt190.1, bt190.2)))))) := by
  refine Lim.succ_eq (spec_PutReferent.J0_lim ..).mon ?_
  simp only [spec_PutReferent.j0]
  have m0 := @spec_loIf.F_lim
  have m1 := @spec_loPut.F_lim
  have m2 := @spec_loWithout.F_lim
  exact li_
theorem spec_PutReferent.F_eq l0 a1 a2 : spec_PutReferent.F l0 a1 a2 = ((spec_loGood.F l0).bind fun t181 => (if t181 = true then ((spec_naName.F a1).bind fun t182 => (if t182 = true then ((spec_loAngle.f a2).bind fun t183 => (spec_PutReferent.J0 l0 a1 a2 (!t183))) else (spec_PutReferent.J0 l0 a1 a2 true))) else (spec_PutReferent.J0 l0 a1 a2 true))) := by
  refine Lim.eq_ ?_
  simp only [spec_PutReferent.f]
  have m0 := @spec_PutReferent.J0_lim
  have m1 := @spec_loGood.F_lim
  have m2 := @spec_naName.F_lim
  exact li_
def spec_l1Cur_of.f (s0_0 : List Int) (s0_1 : Int) (s0_2 : Int) (l1 : List ByteArray) : Option (ByteArray × Int × Int) := (spec_l1Cur_pick.f s0_0 s0_1 s0_2 (l1.length : Int)).bind fun bt194 => (if 0 ≤ bt194.1 then (if bt194.1 < (l1.length : Int) then (some (rdOf ByteArray.empty l1 bt194.1, bt194.2.1, bt194.2.2)) else (none)) else (none))
def spec_l1Cur_referent.f (s0_0 : List Int) (s0_1 : Int) (s0_2 : Int) : Option (ByteArray × Int × Int) := (spec_l1Cur_of.f s0_0 s0_1 s0_2 (([(⟨#[109, 97, 114, 121]⟩ : ByteArray), (⟨#[106, 111, 104, 110]⟩ : ByteArray), (⟨#[100, 111, 103]⟩ : ByteArray), (⟨#[99, 97, 116]⟩ : ByteArray), (⟨#[115, 105, 103, 110, 101, 114]⟩ : ByteArray)] : List ByteArray))).bind fun bt201 => (some (bt201.1, bt201.2.1, bt201.2.2))
def spec_l1Cur_among.f (s0_0 : List Int) (s0_1 : Int) (s0_2 : Int) (l1 : List Int) : Option (Int × Int × Int) := (spec_l1Cur_pick.f s0_0 s0_1 s0_2 (l1.length : Int)).bind fun bt204 => (if 0 ≤ bt204.1 then (if bt204.1 < (l1.length : Int) then (some (rd l1 bt204.1, bt204.2.1, bt204.2.2)) else (none)) else (none))
def spec_l1Cur_angleOf.f (s0_0 : List Int) (s0_1 : Int) (s0_2 : Int) : Option (Int × Int × Int) := (spec_l1Cur_pick.f s0_0 s0_1 s0_2 181).bind fun bt208 => ((spec_l1Cur_among.f s0_0 bt208.2.1 bt208.2.2 (([5, 91, (-91), (-9223372036854775808)] : List Int))).bind fun bt214 => ((spec_l1Cur_among.f s0_0 bt214.2.1 bt214.2.2 (([0, (-40), 30, 25, 10, wrap64 (bt208.1 - 90), 90, (-90), bt214.1] : List Int))).bind fun bt220 => (some (bt220.1, bt220.2.1, bt220.2.2))))
def spec_l1Cur_anyReferent.f (s0_0 : List Int) (s0_1 : Int) (s0_2 : Int) : Option (ByteArray × Int × Int) := (spec_l1Cur_of.f s0_0 s0_1 s0_2 (([(⟨#[115, 105, 103, 110, 101, 114]⟩ : ByteArray), (⟨#[]⟩ : ByteArray), (⟨#[77, 97, 114, 121]⟩ : ByteArray), (⟨#[110, 105, 110, 101, 99, 104, 97, 114, 115]⟩ : ByteArray), (⟨#[122, 122]⟩ : ByteArray)] : List ByteArray))).bind fun bt226 => ((spec_l1Cur_of.f s0_0 bt226.2.1 bt226.2.2 (([(⟨#[109, 97, 114, 121]⟩ : ByteArray), (⟨#[106, 111, 104, 110]⟩ : ByteArray), (⟨#[100, 111, 103]⟩ : ByteArray), (⟨#[109, 97, 114, 121]⟩ : ByteArray), bt226.1] : List ByteArray))).bind fun bt232 => (some (bt232.1, bt232.2.1, bt232.2.2)))
mutual
def spec_l1Cur_loci.l0 : Nat → List (S58) → Int → List Int → Int → Int → Option ((List (S58)) × Int × Int)
  | 0, _, _, _, _, _ => none
  | k + 1, a, b, c, d, e => if b > 0 then ((spec_l1Cur_referent.f c d e).bind fun bt238 => ((spec_l1Cur_angleOf.f c bt238.2.1 bt238.2.2).bind fun bt241 => ((spec_PutReferent.f k a bt238.1 bt241.1).bind fun bt244 => (if bt244.2 = true then (spec_l1Cur_loci.l0 k bt244.1 (wrap64 (b - 1)) c bt241.2.1 bt241.2.2) else (spec_l1Cur_loci.l0 k a (wrap64 (b - 1)) c bt241.2.1 bt241.2.2))))) else ((spec_l1Cur_pick.f c d e 24).bind fun bt248 => (if bt248.1 = 0 then ((spec_l1Cur_anyReferent.f c bt248.2.1 bt248.2.2).bind fun bt251 => ((spec_l1Cur_angleOf.f c bt251.2.1 bt251.2.2).bind fun bt254 => (if a.length < 5864062014805 then (some ((a ++ [(⟨bt251.1, bt254.1⟩ : S58)]), bt254.2.1, bt254.2.2)) else (none)))) else (if bt248.1 = 1 then ((spec_l1Cur_pick.f c bt248.2.1 bt248.2.2 2).bind fun bt260 => (spec_l1Cur_loci.l1 k ([] : List (S58)) (wrap64 (8 + bt260.1)) c bt260.2.1 bt260.2.2)) else (some (a, bt248.2.1, bt248.2.2)))))
def spec_l1Cur_loci.l1 : Nat → List (S58) → Int → List Int → Int → Int → Option ((List (S58)) × Int × Int)
  | 0, _, _, _, _, _ => none
  | k + 1, a, b, c, d, e => if (a.length : Int) < b then (if 0 ≤ (a.length : Int) then (if (a.length : Int) ≤ (wrap64 ((a.length : Int) + 1)) then (if (wrap64 ((a.length : Int) + 1)) ≤ 9 then (if 1 + ((⟨#[97, 98, 99, 100, 101, 102, 103, 104, 105]⟩ : ByteArray).extract ((a.length : Int) : Int).toNat ((wrap64 ((a.length : Int) + 1)) : Int).toNat).size ≤ 9223372036854775807 then (if a.length < 5864062014805 then (spec_l1Cur_loci.l1 k (a ++ [(⟨(⟨#[120]⟩ : ByteArray) ++ ((⟨#[97, 98, 99, 100, 101, 102, 103, 104, 105]⟩ : ByteArray).extract ((a.length : Int) : Int).toNat ((wrap64 ((a.length : Int) + 1)) : Int).toNat), wrap64 ((wrap64 (20 * (a.length : Int))) - 90)⟩ : S58)]) b c d e) else (none)) else (none)) else (none)) else (none)) else (none)) else (some (a, d, e))
end
def spec_l1Cur_loci.f (k : Nat) (s0_0 : List Int) (s0_1 : Int) (s0_2 : Int) : Option ((List (S58)) × Int × Int) := (spec_l1Cur_pick.f s0_0 s0_1 s0_2 6).bind fun bt235 => (spec_l1Cur_loci.l0 k ([] : List (S58)) bt235.1 s0_0 bt235.2.1 bt235.2.2)
theorem spec_l1Cur_loci.mono_l : ∀ k, (∀ a b c d e, LeO (spec_l1Cur_loci.l0 k a b c d e) (spec_l1Cur_loci.l0 (k + 1) a b c d e)) ∧ (∀ a b c d e, LeO (spec_l1Cur_loci.l1 k a b c d e) (spec_l1Cur_loci.l1 (k + 1) a b c d e))
  | 0 => ⟨fun _ _ _ _ _ => LeO.none _, fun _ _ _ _ _ => LeO.none _⟩
  | k + 1 => by
    obtain ⟨ih0, ih1⟩ := spec_l1Cur_loci.mono_l k
    have m0 := @spec_PutReferent.mono
    refine ⟨?_, ?_⟩
    · intros; unfold spec_l1Cur_loci.l0; exact mo_
    · intros; unfold spec_l1Cur_loci.l1; exact mo_
theorem spec_l1Cur_loci.mono : ∀ a0 a1 a2 k, LeO (spec_l1Cur_loci.f k a0 a1 a2) (spec_l1Cur_loci.f (k + 1) a0 a1 a2) := by
  intro a0 a1 a2 k
  obtain ⟨ih0, ih1⟩ := spec_l1Cur_loci.mono_l k
  unfold spec_l1Cur_loci.f
  have m0 := @spec_PutReferent.mono
  exact mo_
noncomputable def spec_l1Cur_loci.L0 := fun a b c d e => lim fun k => spec_l1Cur_loci.l0 k a b c d e
theorem spec_l1Cur_loci.L0_lim a b c d e : Lim (fun k => spec_l1Cur_loci.l0 k a b c d e) (spec_l1Cur_loci.L0 a b c d e) := ⟨fun k => (spec_l1Cur_loci.mono_l k).1 a b c d e, rfl⟩
noncomputable def spec_l1Cur_loci.L1 := fun a b c d e => lim fun k => spec_l1Cur_loci.l1 k a b c d e
theorem spec_l1Cur_loci.L1_lim a b c d e : Lim (fun k => spec_l1Cur_loci.l1 k a b c d e) (spec_l1Cur_loci.L1 a b c d e) := ⟨fun k => (spec_l1Cur_loci.mono_l k).2 a b c d e, rfl⟩
noncomputable def spec_l1Cur_loci.F := fun a b c => lim fun k => spec_l1Cur_loci.f k a b c
theorem spec_l1Cur_loci.F_lim a b c : Lim (fun k => spec_l1Cur_loci.f k a b c) (spec_l1Cur_loci.F a b c) := ⟨spec_l1Cur_loci.mono a b c, rfl⟩
theorem spec_l1Cur_loci.L0_eq a b c d e : spec_l1Cur_loci.L0 a b c d e = (if b > 0 then ((spec_l1Cur_referent.f c d e).bind fun bt238 => ((spec_l1Cur_angleOf.f c bt238.2.1 bt238.2.2).bind fun bt241 => ((spec_PutReferent.F a bt238.1 bt241.1).bind fun bt244 => (if bt244.2 = true then (spec_l1Cur_loci.L0 bt244.1 (wrap64 (b - 1)) c bt241.2.1 bt241.2.2) else (spec_l1Cur_loci.L0 a (wrap64 (b - 1)) c bt241.2.1 bt241.2.2))))) else ((spec_l1Cur_pick.f c d e 24).bind fun bt248 => (if bt248.1 = 0 then ((spec_l1Cur_anyReferent.f c bt248.2.1 bt248.2.2).bind fun bt251 => ((spec_l1Cur_angleOf.f c bt251.2.1 bt251.2.2).bind fun bt254 => (if a.length < 5864062014805 then (some ((a ++ [(⟨bt251.1, bt254.1⟩ : S58)]), bt254.2.1, bt254.2.2)) else (none)))) else (if bt248.1 = 1 then ((spec_l1Cur_pick.f c bt248.2.1 bt248.2.2 2).bind fun bt260 => (spec_l1Cur_loci.L1 ([] : List (S58)) (wrap64 (8 + bt260.1)) c bt260.2.1 bt260.2.2)) else (some (a, bt248.2.1, bt248.2.2)))))) := by
  refine Lim.succ_eq (spec_l1Cur_loci.L0_lim ..).mon ?_
  simp only [spec_l1Cur_loci.l0]
  have m0 := @spec_l1Cur_loci.L0_lim
  have m1 := @spec_l1Cur_loci.L1_lim
  have m2 := @spec_PutReferent.F_lim
  exact li_
theorem spec_l1Cur_loci.L1_eq a b c d e : spec_l1Cur_loci.L1 a b c d e = (if (a.length : Int) < b then (if 0 ≤ (a.length : Int) then (if (a.length : Int) ≤ (wrap64 ((a.length : Int) + 1)) then (if (wrap64 ((a.length : Int) + 1)) ≤ 9 then (if 1 + ((⟨#[97, 98, 99, 100, 101, 102, 103, 104, 105]⟩ : ByteArray).extract ((a.length : Int) : Int).toNat ((wrap64 ((a.length : Int) + 1)) : Int).toNat).size ≤ 9223372036854775807 then (if a.length < 5864062014805 then (spec_l1Cur_loci.L1 (a ++ [(⟨(⟨#[120]⟩ : ByteArray) ++ ((⟨#[97, 98, 99, 100, 101, 102, 103, 104, 105]⟩ : ByteArray).extract ((a.length : Int) : Int).toNat ((wrap64 ((a.length : Int) + 1)) : Int).toNat), wrap64 ((wrap64 (20 * (a.length : Int))) - 90)⟩ : S58)]) b c d e) else (none)) else (none)) else (none)) else (none)) else (none)) else (some (a, d, e))) := by
  refine Lim.succ_eq (spec_l1Cur_loci.L1_lim ..).mon ?_
  simp only [spec_l1Cur_loci.l1]
  have m0 := @spec_l1Cur_loci.L1_lim
  exact li_
theorem spec_l1Cur_loci.F_eq s0_0 s0_1 s0_2 : spec_l1Cur_loci.F s0_0 s0_1 s0_2 = ((spec_l1Cur_pick.f s0_0 s0_1 s0_2 6).bind fun bt235 => (spec_l1Cur_loci.L0 ([] : List (S58)) bt235.1 s0_0 bt235.2.1 bt235.2.2)) := by
  refine Lim.eq_ ?_
  simp only [spec_l1Cur_loci.f]
  have m0 := @spec_l1Cur_loci.L0_lim
  exact li_
def spec_DrawAreLoci.f (k : Nat) (l0 : List Int) : Option ((List (S58))) := (spec_l1Cur_loci.f k l0 0 0).bind fun bt267 => (some bt267.1)
theorem spec_DrawAreLoci.mono : ∀ a0 k, LeO (spec_DrawAreLoci.f k a0) (spec_DrawAreLoci.f (k + 1) a0) := by
  intro a0 k
  unfold spec_DrawAreLoci.f
  have m0 := @spec_l1Cur_loci.mono
  exact mo_
noncomputable def spec_DrawAreLoci.F := fun a => lim fun k => spec_DrawAreLoci.f k a
theorem spec_DrawAreLoci.F_lim a : Lim (fun k => spec_DrawAreLoci.f k a) (spec_DrawAreLoci.F a) := ⟨spec_DrawAreLoci.mono a, rfl⟩
theorem spec_DrawAreLoci.F_eq l0 : spec_DrawAreLoci.F l0 = ((spec_l1Cur_loci.F l0 0 0).bind fun bt267 => (some bt267.1)) := by
  refine Lim.eq_ ?_
  simp only [spec_DrawAreLoci.f]
  have m0 := @spec_l1Cur_loci.F_lim
  exact li_
def spec_DrawAmbiguousAngles.f (k : Nat) (l0 : List Int) : Option ((List (S58))) := (spec_DrawAreLoci.f k l0).bind fun t272 => (some t272)
theorem spec_DrawAmbiguousAngles.mono : ∀ a0 k, LeO (spec_DrawAmbiguousAngles.f k a0) (spec_DrawAmbiguousAngles.f (k + 1) a0) := by
  intro a0 k
  unfold spec_DrawAmbiguousAngles.f
  have m0 := @spec_DrawAreLoci.mono
  exact mo_
noncomputable def spec_DrawAmbiguousAngles.F := fun a => lim fun k => spec_DrawAmbiguousAngles.f k a
theorem spec_DrawAmbiguousAngles.F_lim a : Lim (fun k => spec_DrawAmbiguousAngles.f k a) (spec_DrawAmbiguousAngles.F a) := ⟨spec_DrawAmbiguousAngles.mono a, rfl⟩
theorem spec_DrawAmbiguousAngles.F_eq l0 : spec_DrawAmbiguousAngles.F l0 = ((spec_DrawAreLoci.F l0).bind fun t272 => (some t272)) := by
  refine Lim.eq_ ?_
  simp only [spec_DrawAmbiguousAngles.f]
  have m0 := @spec_DrawAreLoci.F_lim
  exact li_
def impl_locusOf_1.f (a0_0 : ByteArray) (a0_1 : Int) (a1_0 : ByteArray) : Option (Bool) := some (a0_0.toList == a1_0.toList)
def slices_IndexFunc_Locus_impl_locusOf_1.l0 : Nat → List (S58) → Int → Int → ByteArray → Option (Int)
  | 0, _, _, _, _ => none
  | k + 1, a, b, c, d => if c < b then (if 0 ≤ c then (if c < (a.length : Int) then ((impl_locusOf_1.f ((rd_T58 a c).f0) ((rd_T58 a c).f1) d).bind fun t277 => (if t277 = true then (some c) else (slices_IndexFunc_Locus_impl_locusOf_1.l0 k a b (wrap64 (c + 1)) d))) else (none)) else (none)) else (some (-1))
def slices_IndexFunc_Locus_impl_locusOf_1.f (k : Nat) (l0 : List (S58)) (a1_0 : ByteArray) : Option (Int) := slices_IndexFunc_Locus_impl_locusOf_1.l0 k l0 (l0.length : Int) 0 a1_0
theorem slices_IndexFunc_Locus_impl_locusOf_1.mono_l : ∀ k, (∀ a b c d, LeO (slices_IndexFunc_Locus_impl_locusOf_1.l0 k a b c d) (slices_IndexFunc_Locus_impl_locusOf_1.l0 (k + 1) a b c d))
  | 0 => fun _ _ _ _ => LeO.none _
  | k + 1 => by
    have ih0 := slices_IndexFunc_Locus_impl_locusOf_1.mono_l k
    · intros; unfold slices_IndexFunc_Locus_impl_locusOf_1.l0; exact mo_
theorem slices_IndexFunc_Locus_impl_locusOf_1.mono : ∀ a0 a1 k, LeO (slices_IndexFunc_Locus_impl_locusOf_1.f k a0 a1) (slices_IndexFunc_Locus_impl_locusOf_1.f (k + 1) a0 a1) := by
  intro a0 a1 k
  have ih0 := slices_IndexFunc_Locus_impl_locusOf_1.mono_l k
  unfold slices_IndexFunc_Locus_impl_locusOf_1.f
  exact mo_
noncomputable def slices_IndexFunc_Locus_impl_locusOf_1.L0 := fun a b c d => lim fun k => slices_IndexFunc_Locus_impl_locusOf_1.l0 k a b c d
theorem slices_IndexFunc_Locus_impl_locusOf_1.L0_lim a b c d : Lim (fun k => slices_IndexFunc_Locus_impl_locusOf_1.l0 k a b c d) (slices_IndexFunc_Locus_impl_locusOf_1.L0 a b c d) := ⟨fun k => (slices_IndexFunc_Locus_impl_locusOf_1.mono_l k) a b c d, rfl⟩
noncomputable def slices_IndexFunc_Locus_impl_locusOf_1.F := fun a b => lim fun k => slices_IndexFunc_Locus_impl_locusOf_1.f k a b
theorem slices_IndexFunc_Locus_impl_locusOf_1.F_lim a b : Lim (fun k => slices_IndexFunc_Locus_impl_locusOf_1.f k a b) (slices_IndexFunc_Locus_impl_locusOf_1.F a b) := ⟨slices_IndexFunc_Locus_impl_locusOf_1.mono a b, rfl⟩
theorem slices_IndexFunc_Locus_impl_locusOf_1.L0_eq a b c d : slices_IndexFunc_Locus_impl_locusOf_1.L0 a b c d = (if c < b then (if 0 ≤ c then (if c < (a.length : Int) then ((impl_locusOf_1.f ((rd_T58 a c).f0) ((rd_T58 a c).f1) d).bind fun t277 => (if t277 = true then (some c) else (slices_IndexFunc_Locus_impl_locusOf_1.L0 a b (wrap64 (c + 1)) d))) else (none)) else (none)) else (some (-1))) := by
  refine Lim.succ_eq (slices_IndexFunc_Locus_impl_locusOf_1.L0_lim ..).mon ?_
  simp only [slices_IndexFunc_Locus_impl_locusOf_1.l0]
  have m0 := @slices_IndexFunc_Locus_impl_locusOf_1.L0_lim
  exact li_
theorem slices_IndexFunc_Locus_impl_locusOf_1.F_eq l0 a1_0 : slices_IndexFunc_Locus_impl_locusOf_1.F l0 a1_0 = (slices_IndexFunc_Locus_impl_locusOf_1.L0 l0 (l0.length : Int) 0 a1_0) := by
  refine Lim.eq_ ?_
  simp only [slices_IndexFunc_Locus_impl_locusOf_1.f]
  have m0 := @slices_IndexFunc_Locus_impl_locusOf_1.L0_lim
  exact li_
def impl_locusOf.f (k : Nat) (l0 : List (S58)) (a1 : ByteArray) : Option (Int) := (slices_IndexFunc_Locus_impl_locusOf_1.f k l0 a1).bind fun t279 => (some t279)
theorem impl_locusOf.mono : ∀ a0 a1 k, LeO (impl_locusOf.f k a0 a1) (impl_locusOf.f (k + 1) a0 a1) := by
  intro a0 a1 k
  unfold impl_locusOf.f
  have m0 := @slices_IndexFunc_Locus_impl_locusOf_1.mono
  exact mo_
noncomputable def impl_locusOf.F := fun a b => lim fun k => impl_locusOf.f k a b
theorem impl_locusOf.F_lim a b : Lim (fun k => impl_locusOf.f k a b) (impl_locusOf.F a b) := ⟨impl_locusOf.mono a b, rfl⟩
theorem impl_locusOf.F_eq l0 a1 : impl_locusOf.F l0 a1 = ((slices_IndexFunc_Locus_impl_locusOf_1.F l0 a1).bind fun t279 => (some t279)) := by
  refine Lim.eq_ ?_
  simp only [impl_locusOf.f]
  have m0 := @slices_IndexFunc_Locus_impl_locusOf_1.F_lim
  exact li_
def impl_within.f (a0 : Int) (a1 : Int) (a2 : Int) : Option (Bool) := if a0 ≥ a1 then (some (decide (a0 ≤ a2))) else (some false)
def impl_isAngle.f (a0 : Int) : Option (Bool) := (impl_within.f a0 (-90) 90).bind fun t280 => (some t280)
def stringslite_IndexByte.f (a0 : ByteArray) (a1 : Int) : Option (Int) := some (Lib.indexByte a0.data.toList a1.toNat.toUInt8)
def strings_IndexByte.f (a0 : ByteArray) (a1 : Int) : Option (Int) := (stringslite_IndexByte.f a0 a1).bind fun t281 => (some t281)
def impl_hasOnly.l0 : Nat → ByteArray → ByteArray → Int → Int → Option (Bool)
  | 0, _, _, _, _ => none
  | k + 1, a, b, c, d => if d < c then (if 0 ≤ d then (if d < (a.size : Int) then ((strings_IndexByte.f b (bt a d)).bind fun t282 => (if t282 < 0 then (some false) else (impl_hasOnly.l0 k a b c (wrap64 (d + 1))))) else (none)) else (none)) else (some true)
def impl_hasOnly.f (k : Nat) (a0 : ByteArray) (a1 : ByteArray) : Option (Bool) := impl_hasOnly.l0 k a0 a1 (a0.size : Int) 0
theorem impl_hasOnly.mono_l : ∀ k, (∀ a b c d, LeO (impl_hasOnly.l0 k a b c d) (impl_hasOnly.l0 (k + 1) a b c d))
  | 0 => fun _ _ _ _ => LeO.none _
  | k + 1 => by
    have ih0 := impl_hasOnly.mono_l k
    · intros; unfold impl_hasOnly.l0; exact mo_
theorem impl_hasOnly.mono : ∀ a0 a1 k, LeO (impl_hasOnly.f k a0 a1) (impl_hasOnly.f (k + 1) a0 a1) := by
  intro a0 a1 k
  have ih0 := impl_hasOnly.mono_l k
  unfold impl_hasOnly.f
  exact mo_
noncomputable def impl_hasOnly.L0 := fun a b c d => lim fun k => impl_hasOnly.l0 k a b c d
theorem impl_hasOnly.L0_lim a b c d : Lim (fun k => impl_hasOnly.l0 k a b c d) (impl_hasOnly.L0 a b c d) := ⟨fun k => (impl_hasOnly.mono_l k) a b c d, rfl⟩
noncomputable def impl_hasOnly.F := fun a b => lim fun k => impl_hasOnly.f k a b
theorem impl_hasOnly.F_lim a b : Lim (fun k => impl_hasOnly.f k a b) (impl_hasOnly.F a b) := ⟨impl_hasOnly.mono a b, rfl⟩
theorem impl_hasOnly.L0_eq a b c d : impl_hasOnly.L0 a b c d = (if d < c then (if 0 ≤ d then (if d < (a.size : Int) then ((strings_IndexByte.f b (bt a d)).bind fun t282 => (if t282 < 0 then (some false) else (impl_hasOnly.L0 a b c (wrap64 (d + 1))))) else (none)) else (none)) else (some true)) := by
  refine Lim.succ_eq (impl_hasOnly.L0_lim ..).mon ?_
  simp only [impl_hasOnly.l0]
  have m0 := @impl_hasOnly.L0_lim
  exact li_
theorem impl_hasOnly.F_eq a0 a1 : impl_hasOnly.F a0 a1 = (impl_hasOnly.L0 a0 a1 (a0.size : Int) 0) := by
  refine Lim.eq_ ?_
  simp only [impl_hasOnly.f]
  have m0 := @impl_hasOnly.L0_lim
  exact li_
def impl_isWordOf.f (k : Nat) (a0 : ByteArray) (a1 : ByteArray) : Option (Bool) := (impl_within.f (a0.size : Int) 1 8).bind fun t283 => (if t283 = true then ((impl_hasOnly.f k a0 a1).bind fun t284 => (some t284)) else (some false))
theorem impl_isWordOf.mono : ∀ a0 a1 k, LeO (impl_isWordOf.f k a0 a1) (impl_isWordOf.f (k + 1) a0 a1) := by
  intro a0 a1 k
  unfold impl_isWordOf.f
  have m0 := @impl_hasOnly.mono
  exact mo_
noncomputable def impl_isWordOf.F := fun a b => lim fun k => impl_isWordOf.f k a b
theorem impl_isWordOf.F_lim a b : Lim (fun k => impl_isWordOf.f k a b) (impl_isWordOf.F a b) := ⟨impl_isWordOf.mono a b, rfl⟩
theorem impl_isWordOf.F_eq a0 a1 : impl_isWordOf.F a0 a1 = ((impl_within.f (a0.size : Int) 1 8).bind fun t283 => (if t283 = true then ((impl_hasOnly.F a0 a1).bind fun t284 => (some t284)) else (some false))) := by
  refine Lim.eq_ ?_
  simp only [impl_isWordOf.f]
  have m0 := @impl_hasOnly.F_lim
  exact li_
def impl_AreLoci.l0 : Nat → List (S58) → List (S58) → Int → Int → Option (Bool)
  | 0, _, _, _, _ => none
  | k + 1, a, b, c, d => if d < c then (if 0 ≤ d then (if d < (b.length : Int) then ((impl_isWordOf.f k ((rd_T58 b d).f0) (⟨#[97, 98, 99, 100, 101, 102, 103, 104, 105, 106, 107, 108, 109, 110, 111, 112, 113, 114, 115, 116, 117, 118, 119, 120, 121, 122]⟩ : ByteArray)).bind fun t287 => (if t287 = true then ((impl_isAngle.f ((rd_T58 b d).f1)).bind fun t288 => (if t288 = true then (if d > 0 then (if 0 ≤ (wrap64 (d - 1)) then (if (wrap64 (d - 1)) < (a.length : Int) then (if ((rd_T58 b d).f1) ≤ ((rd_T58 a (wrap64 (d - 1))).f1) then (some false) else (if d ≤ (a.length : Int) then ((impl_locusOf.f k (a.take (d : Int).toNat) ((rd_T58 b d).f0)).bind fun t294 => (if t294 ≥ 0 then (some false) else (impl_AreLoci.l0 k a b c (wrap64 (d + 1))))) else (none))) else (none)) else (none)) else (if d ≤ (a.length : Int) then ((impl_locusOf.f k (a.take (d : Int).toNat) ((rd_T58 b d).f0)).bind fun t299 => (if t299 ≥ 0 then (some false) else (impl_AreLoci.l0 k a b c (wrap64 (d + 1))))) else (none))) else (some false))) else (some false))) else (none)) else (none)) else (some (decide ((a.length : Int) ≤ 8)))
def impl_AreLoci.f (k : Nat) (l0 : List (S58)) : Option (Bool) := impl_AreLoci.l0 k l0 l0 (l0.length : Int) 0
theorem impl_AreLoci.mono_l : ∀ k, (∀ a b c d, LeO (impl_AreLoci.l0 k a b c d) (impl_AreLoci.l0 (k + 1) a b c d))
  | 0 => fun _ _ _ _ => LeO.none _
  | k + 1 => by
    have ih0 := impl_AreLoci.mono_l k
    have m0 := @impl_isWordOf.mono
    have m1 := @impl_locusOf.mono
    · intros; unfold impl_AreLoci.l0; exact mo_
theorem impl_AreLoci.mono : ∀ a0 k, LeO (impl_AreLoci.f k a0) (impl_AreLoci.f (k + 1) a0) := by
  intro a0 k
  have ih0 := impl_AreLoci.mono_l k
  unfold impl_AreLoci.f
  have m0 := @impl_isWordOf.mono
  have m1 := @impl_locusOf.mono
  exact mo_
noncomputable def impl_AreLoci.L0 := fun a b c d => lim fun k => impl_AreLoci.l0 k a b c d
theorem impl_AreLoci.L0_lim a b c d : Lim (fun k => impl_AreLoci.l0 k a b c d) (impl_AreLoci.L0 a b c d) := ⟨fun k => (impl_AreLoci.mono_l k) a b c d, rfl⟩
noncomputable def impl_AreLoci.F := fun a => lim fun k => impl_AreLoci.f k a
theorem impl_AreLoci.F_lim a : Lim (fun k => impl_AreLoci.f k a) (impl_AreLoci.F a) := ⟨impl_AreLoci.mono a, rfl⟩
theorem impl_AreLoci.L0_eq a b c d : impl_AreLoci.L0 a b c d = (if d < c then (if 0 ≤ d then (if d < (b.length : Int) then ((impl_isWordOf.F ((rd_T58 b d).f0) (⟨#[97, 98, 99, 100, 101, 102, 103, 104, 105, 106, 107, 108, 109, 110, 111, 112, 113, 114, 115, 116, 117, 118, 119, 120, 121, 122]⟩ : ByteArray)).bind fun t287 => (if t287 = true then ((impl_isAngle.f ((rd_T58 b d).f1)).bind fun t288 => (if t288 = true then (if d > 0 then (if 0 ≤ (wrap64 (d - 1)) then (if (wrap64 (d - 1)) < (a.length : Int) then (if ((rd_T58 b d).f1) ≤ ((rd_T58 a (wrap64 (d - 1))).f1) then (some false) else (if d ≤ (a.length : Int) then ((impl_locusOf.F (a.take (d : Int).toNat) ((rd_T58 b d).f0)).bind fun t294 => (if t294 ≥ 0 then (some false) else (impl_AreLoci.L0 a b c (wrap64 (d + 1))))) else (none))) else (none)) else (none)) else (if d ≤ (a.length : Int) then ((impl_locusOf.F (a.take (d : Int).toNat) ((rd_T58 b d).f0)).bind fun t299 => (if t299 ≥ 0 then (some false) else (impl_AreLoci.L0 a b c (wrap64 (d + 1))))) else (none))) else (some false))) else (some false))) else (none)) else (none)) else (some (decide ((a.length : Int) ≤ 8)))) := by
  refine Lim.succ_eq (impl_AreLoci.L0_lim ..).mon ?_
  simp only [impl_AreLoci.l0]
  have m0 := @impl_AreLoci.L0_lim
  have m1 := @impl_isWordOf.F_lim
  have m2 := @impl_locusOf.F_lim
  exact li_
theorem impl_AreLoci.F_eq l0 : impl_AreLoci.F l0 = (impl_AreLoci.L0 l0 l0 (l0.length : Int) 0) := by
  refine Lim.eq_ ?_
  simp only [impl_AreLoci.f]
  have m0 := @impl_AreLoci.L0_lim
  exact li_
def impl_distance.f (a0 : Int) (a1 : Int) : Option (Int) := some (mx (wrap64 (a0 - a1)) (wrap64 (a1 - a0)))
def impl_nearestLoci.l0 : Nat → Int → Int → List ByteArray → List (S58) → Int → Int → Option (Int × List ByteArray)
  | 0, _, _, _, _, _, _ => none
  | k + 1, a, b, c, d, e, f => if f < e then (if 0 ≤ f then (if f < (d.length : Int) then ((impl_distance.f ((rd_T58 d f).f1) a).bind fun t302 => (if t302 < b then (if t302 = t302 then (if ([] : List ByteArray).length < 8796093022208 then (impl_nearestLoci.l0 k a t302 (([] : List ByteArray) ++ [(rd_T58 d f).f0]) d e (wrap64 (f + 1))) else (none)) else (impl_nearestLoci.l0 k a t302 ([] : List ByteArray) d e (wrap64 (f + 1)))) else (if t302 = b then (if c.length < 8796093022208 then (impl_nearestLoci.l0 k a b (c ++ [(rd_T58 d f).f0]) d e (wrap64 (f + 1))) else (none)) else (impl_nearestLoci.l0 k a b c d e (wrap64 (f + 1)))))) else (none)) else (none)) else (some (b, c))
def impl_nearestLoci.f (k : Nat) (l0 : List (S58)) (a1 : Int) : Option (Int × List ByteArray) := impl_nearestLoci.l0 k a1 181 ([] : List ByteArray) l0 (l0.length : Int) 0
theorem impl_nearestLoci.mono_l : ∀ k, (∀ a b c d e f, LeO (impl_nearestLoci.l0 k a b c d e f) (impl_nearestLoci.l0 (k + 1) a b c d e f))
  | 0 => fun _ _ _ _ _ _ => LeO.none _
  | k + 1 => by
    have ih0 := impl_nearestLoci.mono_l k
    · intros; unfold impl_nearestLoci.l0; exact mo_
theorem impl_nearestLoci.mono : ∀ a0 a1 k, LeO (impl_nearestLoci.f k a0 a1) (impl_nearestLoci.f (k + 1) a0 a1) := by
  intro a0 a1 k
  have ih0 := impl_nearestLoci.mono_l k
  unfold impl_nearestLoci.f
  exact mo_
noncomputable def impl_nearestLoci.L0 := fun a b c d e f => lim fun k => impl_nearestLoci.l0 k a b c d e f
theorem impl_nearestLoci.L0_lim a b c d e f : Lim (fun k => impl_nearestLoci.l0 k a b c d e f) (impl_nearestLoci.L0 a b c d e f) := ⟨fun k => (impl_nearestLoci.mono_l k) a b c d e f, rfl⟩
noncomputable def impl_nearestLoci.F := fun a b => lim fun k => impl_nearestLoci.f k a b
theorem impl_nearestLoci.F_lim a b : Lim (fun k => impl_nearestLoci.f k a b) (impl_nearestLoci.F a b) := ⟨impl_nearestLoci.mono a b, rfl⟩
theorem impl_nearestLoci.L0_eq a b c d e f : impl_nearestLoci.L0 a b c d e f = (if f < e then (if 0 ≤ f then (if f < (d.length : Int) then ((impl_distance.f ((rd_T58 d f).f1) a).bind fun t302 => (if t302 < b then (if t302 = t302 then (if ([] : List ByteArray).length < 8796093022208 then (impl_nearestLoci.L0 a t302 (([] : List ByteArray) ++ [(rd_T58 d f).f0]) d e (wrap64 (f + 1))) else (none)) else (impl_nearestLoci.L0 a t302 ([] : List ByteArray) d e (wrap64 (f + 1)))) else (if t302 = b then (if c.length < 8796093022208 then (impl_nearestLoci.L0 a b (c ++ [(rd_T58 d f).f0]) d e (wrap64 (f + 1))) else (none)) else (impl_nearestLoci.L0 a b c d e (wrap64 (f + 1)))))) else (none)) else (none)) else (some (b, c))) := by
  refine Lim.succ_eq (impl_nearestLoci.L0_lim ..).mon ?_
  simp only [impl_nearestLoci.l0]
  have m0 := @impl_nearestLoci.L0_lim
  exact li_
theorem impl_nearestLoci.F_eq l0 a1 : impl_nearestLoci.F l0 a1 = (impl_nearestLoci.L0 a1 181 ([] : List ByteArray) l0 (l0.length : Int) 0) := by
  refine Lim.eq_ ?_
  simp only [impl_nearestLoci.f]
  have m0 := @impl_nearestLoci.L0_lim
  exact li_
def impl_AmbiguousAngles.l0 : Nat → List (S58) → List Int → Int → Option (List Int × Bool)
  | 0, _, _, _ => none
  | k + 1, a, b, c => if c ≤ 90 then ((impl_nearestLoci.f k a c).bind fun bt310 => (if bt310.1 ≤ 20 then (if (bt310.2.length : Int) = 2 then (if b.length < 17592186044416 then (impl_AmbiguousAngles.l0 k a (b ++ [c]) (wrap64 (c + 1))) else (none)) else (impl_AmbiguousAngles.l0 k a b (wrap64 (c + 1)))) else (impl_AmbiguousAngles.l0 k a b (wrap64 (c + 1))))) else (some (b, true))
def impl_AmbiguousAngles.f (k : Nat) (l0 : List (S58)) : Option (List Int × Bool) := (impl_AreLoci.f k l0).bind fun t309 => (if t309 = true then (impl_AmbiguousAngles.l0 k l0 ([] : List Int) (-90)) else (some (([] : List Int), false)))
theorem impl_AmbiguousAngles.mono_l : ∀ k, (∀ a b c, LeO (impl_AmbiguousAngles.l0 k a b c) (impl_AmbiguousAngles.l0 (k + 1) a b c))
  | 0 => fun _ _ _ => LeO.none _
  | k + 1 => by
    have ih0 := impl_AmbiguousAngles.mono_l k
    have m0 := @impl_AreLoci.mono
    have m1 := @impl_nearestLoci.mono
    · intros; unfold impl_AmbiguousAngles.l0; exact mo_
theorem impl_AmbiguousAngles.mono : ∀ a0 k, LeO (impl_AmbiguousAngles.f k a0) (impl_AmbiguousAngles.f (k + 1) a0) := by
  intro a0 k
  have ih0 := impl_AmbiguousAngles.mono_l k
  unfold impl_AmbiguousAngles.f
  have m0 := @impl_AreLoci.mono
  have m1 := @impl_nearestLoci.mono
  exact mo_
noncomputable def impl_AmbiguousAngles.L0 := fun a b c => lim fun k => impl_AmbiguousAngles.l0 k a b c
theorem impl_AmbiguousAngles.L0_lim a b c : Lim (fun k => impl_AmbiguousAngles.l0 k a b c) (impl_AmbiguousAngles.L0 a b c) := ⟨fun k => (impl_AmbiguousAngles.mono_l k) a b c, rfl⟩
noncomputable def impl_AmbiguousAngles.F := fun a => lim fun k => impl_AmbiguousAngles.f k a
theorem impl_AmbiguousAngles.F_lim a : Lim (fun k => impl_AmbiguousAngles.f k a) (impl_AmbiguousAngles.F a) := ⟨impl_AmbiguousAngles.mono a, rfl⟩
theorem impl_AmbiguousAngles.L0_eq a b c : impl_AmbiguousAngles.L0 a b c = (if c ≤ 90 then ((impl_nearestLoci.F a c).bind fun bt310 => (if bt310.1 ≤ 20 then (if (bt310.2.length : Int) = 2 then (if b.length < 17592186044416 then (impl_AmbiguousAngles.L0 a (b ++ [c]) (wrap64 (c + 1))) else (none)) else (impl_AmbiguousAngles.L0 a b (wrap64 (c + 1)))) else (impl_AmbiguousAngles.L0 a b (wrap64 (c + 1))))) else (some (b, true))) := by
  refine Lim.succ_eq (impl_AmbiguousAngles.L0_lim ..).mon ?_
  simp only [impl_AmbiguousAngles.l0]
  have m0 := @impl_AmbiguousAngles.L0_lim
  have m1 := @impl_nearestLoci.F_lim
  exact li_
theorem impl_AmbiguousAngles.F_eq l0 : impl_AmbiguousAngles.F l0 = ((impl_AreLoci.F l0).bind fun t309 => (if t309 = true then (impl_AmbiguousAngles.L0 l0 ([] : List Int) (-90)) else (some (([] : List Int), false)))) := by
  refine Lim.eq_ ?_
  simp only [impl_AmbiguousAngles.f]
  have m0 := @impl_AmbiguousAngles.L0_lim
  have m1 := @impl_AreLoci.F_lim
  exact li_
def spec_l1Most.f (a0 : Int) (a1 : Int) : Option (Int) := if a0 > a1 then (some a0) else (some a1)
def spec_l1Abs.f (a0 : Int) : Option (Int) := (spec_l1Most.f a0 (wrap64 (-a0))).bind fun t317 => (some t317)
def spec_loLeast.l0 : Nat → Int → Int → Int → List (S58) → Int → Int → Option (Int × Int)
  | 0, _, _, _, _, _, _ => none
  | k + 1, a, b, c, d, e, f => if f < e then (if 0 ≤ f then (if f < (d.length : Int) then ((spec_l1Abs.f (wrap64 (((rd_T58 d f).f1) - a))).bind fun t320 => (if t320 < b then (spec_loLeast.l0 k a t320 1 d e (wrap64 (f + 1))) else (if t320 = b then (spec_loLeast.l0 k a b (wrap64 (c + 1)) d e (wrap64 (f + 1))) else (spec_loLeast.l0 k a b c d e (wrap64 (f + 1)))))) else (none)) else (none)) else (some (b, c))
def spec_loLeast.f (k : Nat) (l0 : List (S58)) (a1 : Int) : Option (Int × Int) := spec_loLeast.l0 k a1 181 0 l0 (l0.length : Int) 0
theorem spec_loLeast.mono_l : ∀ k, (∀ a b c d e f, LeO (spec_loLeast.l0 k a b c d e f) (spec_loLeast.l0 (k + 1) a b c d e f))
  | 0 => fun _ _ _ _ _ _ => LeO.none _
  | k + 1 => by
    have ih0 := spec_loLeast.mono_l k
    · intros; unfold spec_loLeast.l0; exact mo_
theorem spec_loLeast.mono : ∀ a0 a1 k, LeO (spec_loLeast.f k a0 a1) (spec_loLeast.f (k + 1) a0 a1) := by
  intro a0 a1 k
  have ih0 := spec_loLeast.mono_l k
  unfold spec_loLeast.f
  exact mo_
noncomputable def spec_loLeast.L0 := fun a b c d e f => lim fun k => spec_loLeast.l0 k a b c d e f
theorem spec_loLeast.L0_lim a b c d e f : Lim (fun k => spec_loLeast.l0 k a b c d e f) (spec_loLeast.L0 a b c d e f) := ⟨fun k => (spec_loLeast.mono_l k) a b c d e f, rfl⟩
noncomputable def spec_loLeast.F := fun a b => lim fun k => spec_loLeast.f k a b
theorem spec_loLeast.F_lim a b : Lim (fun k => spec_loLeast.f k a b) (spec_loLeast.F a b) := ⟨spec_loLeast.mono a b, rfl⟩
theorem spec_loLeast.L0_eq a b c d e f : spec_loLeast.L0 a b c d e f = (if f < e then (if 0 ≤ f then (if f < (d.length : Int) then ((spec_l1Abs.f (wrap64 (((rd_T58 d f).f1) - a))).bind fun t320 => (if t320 < b then (spec_loLeast.L0 a t320 1 d e (wrap64 (f + 1))) else (if t320 = b then (spec_loLeast.L0 a b (wrap64 (c + 1)) d e (wrap64 (f + 1))) else (spec_loLeast.L0 a b c d e (wrap64 (f + 1)))))) else (none)) else (none)) else (some (b, c))) := by
  refine Lim.succ_eq (spec_loLeast.L0_lim ..).mon ?_
  simp only [spec_loLeast.l0]
  have m0 := @spec_loLeast.L0_lim
  exact li_
theorem spec_loLeast.F_eq l0 a1 : spec_loLeast.F l0 a1 = (spec_loLeast.L0 a1 181 0 l0 (l0.length : Int) 0) := by
  refine Lim.eq_ ?_
  simp only [spec_loLeast.f]
  have m0 := @spec_loLeast.L0_lim
  exact li_
def spec_AmbiguousAngles.l0 : Nat → List (S58) → List Int → Int → Option (List Int × Bool)
  | 0, _, _, _ => none
  | k + 1, a, b, c => if c ≤ 90 then ((spec_loLeast.f k a c).bind fun bt322 => (if bt322.1 ≤ 20 then (if bt322.2 = 2 then (if b.length < 17592186044416 then (spec_AmbiguousAngles.l0 k a (b ++ [c]) (wrap64 (c + 1))) else (none)) else (spec_AmbiguousAngles.l0 k a b (wrap64 (c + 1)))) else (spec_AmbiguousAngles.l0 k a b (wrap64 (c + 1))))) else (some (b, true))
def spec_AmbiguousAngles.f (k : Nat) (l0 : List (S58)) : Option (List Int × Bool) := (spec_loGood.f k l0).bind fun t321 => (if t321 = true then (spec_AmbiguousAngles.l0 k l0 ([] : List Int) (-90)) else (some (([] : List Int), false)))
theorem spec_AmbiguousAngles.mono_l : ∀ k, (∀ a b c, LeO (spec_AmbiguousAngles.l0 k a b c) (spec_AmbiguousAngles.l0 (k + 1) a b c))
  | 0 => fun _ _ _ => LeO.none _
  | k + 1 => by
    have ih0 := spec_AmbiguousAngles.mono_l k
    have m0 := @spec_loGood.mono
    have m1 := @spec_loLeast.mono
    · intros; unfold spec_AmbiguousAngles.l0; exact mo_
theorem spec_AmbiguousAngles.mono : ∀ a0 k, LeO (spec_AmbiguousAngles.f k a0) (spec_AmbiguousAngles.f (k + 1) a0) := by
  intro a0 k
  have ih0 := spec_AmbiguousAngles.mono_l k
  unfold spec_AmbiguousAngles.f
  have m0 := @spec_loGood.mono
  have m1 := @spec_loLeast.mono
  exact mo_
noncomputable def spec_AmbiguousAngles.L0 := fun a b c => lim fun k => spec_AmbiguousAngles.l0 k a b c
theorem spec_AmbiguousAngles.L0_lim a b c : Lim (fun k => spec_AmbiguousAngles.l0 k a b c) (spec_AmbiguousAngles.L0 a b c) := ⟨fun k => (spec_AmbiguousAngles.mono_l k) a b c, rfl⟩
noncomputable def spec_AmbiguousAngles.F := fun a => lim fun k => spec_AmbiguousAngles.f k a
theorem spec_AmbiguousAngles.F_lim a : Lim (fun k => spec_AmbiguousAngles.f k a) (spec_AmbiguousAngles.F a) := ⟨spec_AmbiguousAngles.mono a, rfl⟩
theorem spec_AmbiguousAngles.L0_eq a b c : spec_AmbiguousAngles.L0 a b c = (if c ≤ 90 then ((spec_loLeast.F a c).bind fun bt322 => (if bt322.1 ≤ 20 then (if bt322.2 = 2 then (if b.length < 17592186044416 then (spec_AmbiguousAngles.L0 a (b ++ [c]) (wrap64 (c + 1))) else (none)) else (spec_AmbiguousAngles.L0 a b (wrap64 (c + 1)))) else (spec_AmbiguousAngles.L0 a b (wrap64 (c + 1))))) else (some (b, true))) := by
  refine Lim.succ_eq (spec_AmbiguousAngles.L0_lim ..).mon ?_
  simp only [spec_AmbiguousAngles.l0]
  have m0 := @spec_AmbiguousAngles.L0_lim
  have m1 := @spec_loLeast.F_lim
  exact li_
theorem spec_AmbiguousAngles.F_eq l0 : spec_AmbiguousAngles.F l0 = ((spec_loGood.F l0).bind fun t321 => (if t321 = true then (spec_AmbiguousAngles.L0 l0 ([] : List Int) (-90)) else (some (([] : List Int), false)))) := by
  refine Lim.eq_ ?_
  simp only [spec_AmbiguousAngles.f]
  have m0 := @spec_AmbiguousAngles.L0_lim
  have m1 := @spec_loGood.F_lim
  exact li_
def impl_BestAngle.l0 : Nat → List (S58) → Int → Int → Int → Option (Int × Int × Bool)
  | 0, _, _, _, _ => none
  | k + 1, a, b, c, d => if d ≤ 90 then ((impl_nearestLoci.f k a d).bind fun bt328 => (if bt328.1 > c then (impl_BestAngle.l0 k a d bt328.1 (wrap64 (d + 1))) else (impl_BestAngle.l0 k a b c (wrap64 (d + 1))))) else (some (b, c, true))
def impl_BestAngle.f (k : Nat) (l0 : List (S58)) : Option (Int × Int × Bool) := (impl_AreLoci.f k l0).bind fun t327 => (if t327 = true then (impl_BestAngle.l0 k l0 0 (-1) (-90)) else (some (0, 0, false)))
theorem impl_BestAngle.mono_l : ∀ k, (∀ a b c d, LeO (impl_BestAngle.l0 k a b c d) (impl_BestAngle.l0 (k + 1) a b c d))
  | 0 => fun _ _ _ _ => LeO.none _
  | k + 1 => by
    have ih0 := impl_BestAngle.mono_l k
    have m0 := @impl_AreLoci.mono
    have m1 := @impl_nearestLoci.mono
    · intros; unfold impl_BestAngle.l0; exact mo_
theorem impl_BestAngle.mono : ∀ a0 k, LeO (impl_BestAngle.f k a0) (impl_BestAngle.f (k + 1) a0) := by
  intro a0 k
  have ih0 := impl_BestAngle.mono_l k
  unfold impl_BestAngle.f
  have m0 := @impl_AreLoci.mono
  have m1 := @impl_nearestLoci.mono
  exact mo_
noncomputable def impl_BestAngle.L0 := fun a b c d => lim fun k => impl_BestAngle.l0 k a b c d
theorem impl_BestAngle.L0_lim a b c d : Lim (fun k => impl_BestAngle.l0 k a b c d) (impl_BestAngle.L0 a b c d) := ⟨fun k => (impl_BestAngle.mono_l k) a b c d, rfl⟩
noncomputable def impl_BestAngle.F := fun a => lim fun k => impl_BestAngle.f k a
theorem impl_BestAngle.F_lim a : Lim (fun k => impl_BestAngle.f k a) (impl_BestAngle.F a) := ⟨impl_BestAngle.mono a, rfl⟩
theorem impl_BestAngle.L0_eq a b c d : impl_BestAngle.L0 a b c d = (if d ≤ 90 then ((impl_nearestLoci.F a d).bind fun bt328 => (if bt328.1 > c then (impl_BestAngle.L0 a d bt328.1 (wrap64 (d + 1))) else (impl_BestAngle.L0 a b c (wrap64 (d + 1))))) else (some (b, c, true))) := by
  refine Lim.succ_eq (impl_BestAngle.L0_lim ..).mon ?_
  simp only [impl_BestAngle.l0]
  have m0 := @impl_BestAngle.L0_lim
  have m1 := @impl_nearestLoci.F_lim
  exact li_
theorem impl_BestAngle.F_eq l0 : impl_BestAngle.F l0 = ((impl_AreLoci.F l0).bind fun t327 => (if t327 = true then (impl_BestAngle.L0 l0 0 (-1) (-90)) else (some (0, 0, false)))) := by
  refine Lim.eq_ ?_
  simp only [impl_BestAngle.f]
  have m0 := @impl_BestAngle.L0_lim
  have m1 := @impl_AreLoci.F_lim
  exact li_
def spec_BestAngle.l0 : Nat → List (S58) → Int → Int → Int → Option (Int × Int × Bool)
  | 0, _, _, _, _ => none
  | k + 1, a, b, c, d => if d ≤ 90 then ((spec_loLeast.f k a d).bind fun bt333 => (if bt333.1 > c then (spec_BestAngle.l0 k a d bt333.1 (wrap64 (d + 1))) else (spec_BestAngle.l0 k a b c (wrap64 (d + 1))))) else (some (b, c, true))
def spec_BestAngle.f (k : Nat) (l0 : List (S58)) : Option (Int × Int × Bool) := (spec_loGood.f k l0).bind fun t332 => (if t332 = true then (spec_BestAngle.l0 k l0 0 (-1) (-90)) else (some (0, 0, false)))
theorem spec_BestAngle.mono_l : ∀ k, (∀ a b c d, LeO (spec_BestAngle.l0 k a b c d) (spec_BestAngle.l0 (k + 1) a b c d))
  | 0 => fun _ _ _ _ => LeO.none _
  | k + 1 => by
    have ih0 := spec_BestAngle.mono_l k
    have m0 := @spec_loGood.mono
    have m1 := @spec_loLeast.mono
    · intros; unfold spec_BestAngle.l0; exact mo_
theorem spec_BestAngle.mono : ∀ a0 k, LeO (spec_BestAngle.f k a0) (spec_BestAngle.f (k + 1) a0) := by
  intro a0 k
  have ih0 := spec_BestAngle.mono_l k
  unfold spec_BestAngle.f
  have m0 := @spec_loGood.mono
  have m1 := @spec_loLeast.mono
  exact mo_
noncomputable def spec_BestAngle.L0 := fun a b c d => lim fun k => spec_BestAngle.l0 k a b c d
theorem spec_BestAngle.L0_lim a b c d : Lim (fun k => spec_BestAngle.l0 k a b c d) (spec_BestAngle.L0 a b c d) := ⟨fun k => (spec_BestAngle.mono_l k) a b c d, rfl⟩
noncomputable def spec_BestAngle.F := fun a => lim fun k => spec_BestAngle.f k a
theorem spec_BestAngle.F_lim a : Lim (fun k => spec_BestAngle.f k a) (spec_BestAngle.F a) := ⟨spec_BestAngle.mono a, rfl⟩
theorem spec_BestAngle.L0_eq a b c d : spec_BestAngle.L0 a b c d = (if d ≤ 90 then ((spec_loLeast.F a d).bind fun bt333 => (if bt333.1 > c then (spec_BestAngle.L0 a d bt333.1 (wrap64 (d + 1))) else (spec_BestAngle.L0 a b c (wrap64 (d + 1))))) else (some (b, c, true))) := by
  refine Lim.succ_eq (spec_BestAngle.L0_lim ..).mon ?_
  simp only [spec_BestAngle.l0]
  have m0 := @spec_BestAngle.L0_lim
  have m1 := @spec_loLeast.F_lim
  exact li_
theorem spec_BestAngle.F_eq l0 : spec_BestAngle.F l0 = ((spec_loGood.F l0).bind fun t332 => (if t332 = true then (spec_BestAngle.L0 l0 0 (-1) (-90)) else (some (0, 0, false)))) := by
  refine Lim.eq_ ?_
  simp only [spec_BestAngle.f]
  have m0 := @spec_BestAngle.L0_lim
  have m1 := @spec_loGood.F_lim
  exact li_
def slices_Clone_Locus.f (l0 : List (S58)) : Option ((List (S58))) := (some (([] : List (S58)) : List (S58))).bind fun y335 => (if y335.length + l0.length < 5864062014805 then (some (y335 ++ l0)) else (none))
def impl_SpreadLoci.l0 : Nat → List (S58) → Int → Int → Option ((List (S58)) × Bool)
  | 0, _, _, _ => none
  | k + 1, a, b, c => if c < b then (if 0 ≤ c then (if c < (a.length : Int) then ((some (a.set (c : Int).toNat (⟨(rd_T58 a c).f0, 0⟩ : S58) : List (S58))).bind fun y345 => (if (a.length : Int) > 1 then (if (wrap64 ((a.length : Int) - 1)) = 0 then (none) else (impl_SpreadLoci.l0 k (y345.set (c : Int).toNat (⟨(rd_T58 y345 c).f0, wrap64 ((-90) + (wrap64 (Int.tdiv (wrap64 (180 * c)) (wrap64 ((a.length : Int) - 1)))))⟩ : S58)) b (wrap64 (c + 1)))) else (impl_SpreadLoci.l0 k y345 b (wrap64 (c + 1))))) else (none)) else (none)) else (some (a, true))
def impl_SpreadLoci.f (k : Nat) (l0 : List (S58)) : Option ((List (S58)) × Bool) := (impl_AreLoci.f k l0).bind fun t341 => (if t341 = true then ((slices_Clone_Locus.f l0).bind fun t342 => (impl_SpreadLoci.l0 k t342 (t342.length : Int) 0)) else (some (([] : List (S58)), false)))
theorem impl_SpreadLoci.mono_l : ∀ k, (∀ a b c, LeO (impl_SpreadLoci.l0 k a b c) (impl_SpreadLoci.l0 (k + 1) a b c))
  | 0 => fun _ _ _ => LeO.none _
  | k + 1 => by
    have ih0 := impl_SpreadLoci.mono_l k
    have m0 := @impl_AreLoci.mono
    · intros; unfold impl_SpreadLoci.l0; exact mo_
theorem impl_SpreadLoci.mono : ∀ a0 k, LeO (impl_SpreadLoci.f k a0) (impl_SpreadLoci.f (k + 1) a0) := by
  intro a0 k
  have ih0 := impl_SpreadLoci.mono_l k
  unfold impl_SpreadLoci.f
  have m0 := @impl_AreLoci.mono
  exact mo_
noncomputable def impl_SpreadLoci.L0 := fun a b c => lim fun k => impl_SpreadLoci.l0 k a b c
theorem impl_SpreadLoci.L0_lim a b c : Lim (fun k => impl_SpreadLoci.l0 k a b c) (impl_SpreadLoci.L0 a b c) := ⟨fun k => (impl_SpreadLoci.mono_l k) a b c, rfl⟩
noncomputable def impl_SpreadLoci.F := fun a => lim fun k => impl_SpreadLoci.f k a
theorem impl_SpreadLoci.F_lim a : Lim (fun k => impl_SpreadLoci.f k a) (impl_SpreadLoci.F a) := ⟨impl_SpreadLoci.mono a, rfl⟩
theorem impl_SpreadLoci.L0_eq a b c : impl_SpreadLoci.L0 a b c = (if c < b then (if 0 ≤ c then (if c < (a.length : Int) then ((some (a.set (c : Int).toNat (⟨(rd_T58 a c).f0, 0⟩ : S58) : List (S58))).bind fun y345 => (if (a.length : Int) > 1 then (if (wrap64 ((a.length : Int) - 1)) = 0 then (none) else (impl_SpreadLoci.L0 (y345.set (c : Int).toNat (⟨(rd_T58 y345 c).f0, wrap64 ((-90) + (wrap64 (Int.tdiv (wrap64 (180 * c)) (wrap64 ((a.length : Int) - 1)))))⟩ : S58)) b (wrap64 (c + 1)))) else (impl_SpreadLoci.L0 y345 b (wrap64 (c + 1))))) else (none)) else (none)) else (some (a, true))) := by
  refine Lim.succ_eq (impl_SpreadLoci.L0_lim ..).mon ?_
  simp only [impl_SpreadLoci.l0]
  have m0 := @impl_SpreadLoci.L0_lim
  exact li_
theorem impl_SpreadLoci.F_eq l0 : impl_SpreadLoci.F l0 = ((impl_AreLoci.F l0).bind fun t341 => (if t341 = true then ((slices_Clone_Locus.f l0).bind fun t342 => (impl_SpreadLoci.L0 t342 (t342.length : Int) 0)) else (some (([] : List (S58)), false)))) := by
  refine Lim.eq_ ?_
  simp only [impl_SpreadLoci.f]
  have m0 := @impl_SpreadLoci.L0_lim
  have m1 := @impl_AreLoci.F_lim
  exact li_
def spec_SpreadLoci.l0 : Nat → List (S58) → List (S58) → List (S58) → Int → Int → Option ((List (S58)) × Bool)
  | 0, _, _, _, _, _ => none
  | k + 1, a, b, c, d, e => if e < d then (if 0 ≤ e then (if e < (c.length : Int) then (if (a.length : Int) > 1 then (if (wrap64 ((a.length : Int) - 1)) = 0 then (none) else (if b.length < 5864062014805 then (spec_SpreadLoci.l0 k a (b ++ [(⟨(rd_T58 c e).f0, wrap64 ((wrap64 (Int.tdiv (wrap64 (180 * e)) (wrap64 ((a.length : Int) - 1)))) - 90)⟩ : S58)]) c d (wrap64 (e + 1))) else (none))) else (if b.length < 5864062014805 then (spec_SpreadLoci.l0 k a (b ++ [(⟨(rd_T58 c e).f0, 0⟩ : S58)]) c d (wrap64 (e + 1))) else (none))) else (none)) else (none)) else (some (b, true))
def spec_SpreadLoci.f (k : Nat) (l0 : List (S58)) : Option ((List (S58)) × Bool) := (spec_loGood.f k l0).bind fun t347 => (if t347 = true then (spec_SpreadLoci.l0 k l0 ([] : List (S58)) l0 (l0.length : Int) 0) else (some (([] : List (S58)), false)))
theorem spec_SpreadLoci.mono_l : ∀ k, (∀ a b c d e, LeO (spec_SpreadLoci.l0 k a b c d e) (spec_SpreadLoci.l0 (k + 1) a b c d e))
  | 0 => fun _ _ _ _ _ => LeO.none _
  | k + 1 => by
    have ih0 := spec_SpreadLoci.mono_l k
    have m0 := @spec_loGood.mono
    · intros; unfold spec_SpreadLoci.l0; exact mo_
theorem spec_SpreadLoci.mono : ∀ a0 k, LeO (spec_SpreadLoci.f k a0) (spec_SpreadLoci.f (k + 1) a0) := by
  intro a0 k
  have ih0 := spec_SpreadLoci.mono_l k
  unfold spec_SpreadLoci.f
  have m0 := @spec_loGood.mono
  exact mo_
noncomputable def spec_SpreadLoci.L0 := fun a b c d e => lim fun k => spec_SpreadLoci.l0 k a b c d e
theorem spec_SpreadLoci.L0_lim a b c d e : Lim (fun k => spec_SpreadLoci.l0 k a b c d e) (spec_SpreadLoci.L0 a b c d e) := ⟨fun k => (spec_SpreadLoci.mono_l k) a b c d e, rfl⟩
noncomputable def spec_SpreadLoci.F := fun a => lim fun k => spec_SpreadLoci.f k a
theorem spec_SpreadLoci.F_lim a : Lim (fun k => spec_SpreadLoci.f k a) (spec_SpreadLoci.F a) := ⟨spec_SpreadLoci.mono a, rfl⟩
theorem spec_SpreadLoci.L0_eq a b c d e : spec_SpreadLoci.L0 a b c d e = (if e < d then (if 0 ≤ e then (if e < (c.length : Int) then (if (a.length : Int) > 1 then (if (wrap64 ((a.length : Int) - 1)) = 0 then (none) else (if b.length < 5864062014805 then (spec_SpreadLoci.L0 a (b ++ [(⟨(rd_T58 c e).f0, wrap64 ((wrap64 (Int.tdiv (wrap64 (180 * e)) (wrap64 ((a.length : Int) - 1)))) - 90)⟩ : S58)]) c d (wrap64 (e + 1))) else (none))) else (if b.length < 5864062014805 then (spec_SpreadLoci.L0 a (b ++ [(⟨(rd_T58 c e).f0, 0⟩ : S58)]) c d (wrap64 (e + 1))) else (none))) else (none)) else (none)) else (some (b, true))) := by
  refine Lim.succ_eq (spec_SpreadLoci.L0_lim ..).mon ?_
  simp only [spec_SpreadLoci.l0]
  have m0 := @spec_SpreadLoci.L0_lim
  exact li_
theorem spec_SpreadLoci.F_eq l0 : spec_SpreadLoci.F l0 = ((spec_loGood.F l0).bind fun t347 => (if t347 = true then (spec_SpreadLoci.L0 l0 ([] : List (S58)) l0 (l0.length : Int) 0) else (some (([] : List (S58)), false)))) := by
  refine Lim.eq_ ?_
  simp only [spec_SpreadLoci.f]
  have m0 := @spec_SpreadLoci.L0_lim
  have m1 := @spec_loGood.F_lim
  exact li_
def strconv_Itoa.f (a0 : Int) : Option (ByteArray) := if -9223372036854775808 ≤ a0 ∧ a0 ≤ 9223372036854775807 then some ⟨(Lib.itoa a0).toArray⟩ else none
def impl_lociText.l0 : Nat → ByteArray → List (S58) → Int → Int → Option (ByteArray)
  | 0, _, _, _, _ => none
  | k + 1, a, b, c, d => if d < c then (if 0 ≤ d then (if d < (b.length : Int) then (if ((rd_T58 b d).f0).size + 1 ≤ 9223372036854775807 then ((strconv_Itoa.f ((rd_T58 b d).f1)).bind fun t358 => (if (((rd_T58 b d).f0) ++ (⟨#[64]⟩ : ByteArray)).size + t358.size ≤ 9223372036854775807 then (if ((((rd_T58 b d).f0) ++ (⟨#[64]⟩ : ByteArray)) ++ t358).size + 1 ≤ 9223372036854775807 then (if a.size + (((((rd_T58 b d).f0) ++ (⟨#[64]⟩ : ByteArray)) ++ t358) ++ (⟨#[59]⟩ : ByteArray)).size ≤ 9223372036854775807 then (impl_lociText.l0 k (a ++ (((((rd_T58 b d).f0) ++ (⟨#[64]⟩ : ByteArray)) ++ t358) ++ (⟨#[59]⟩ : ByteArray))) b c (wrap64 (d + 1))) else (none)) else (none)) else (none))) else (none)) else (none)) else (none)) else (some a)
def impl_lociText.f (k : Nat) (l0 : List (S58)) : Option (ByteArray) := impl_lociText.l0 k (⟨#[]⟩ : ByteArray) l0 (l0.length : Int) 0
theorem impl_lociText.mono_l : ∀ k, (∀ a b c d, LeO (impl_lociText.l0 k a b c d) (impl_lociText.l0 (k + 1) a b c d))
  | 0 => fun _ _ _ _ => LeO.none _
  | k + 1 => by
    have ih0 := impl_lociText.mono_l k
    · intros; unfold impl_lociText.l0; exact mo_
theorem impl_lociText.mono : ∀ a0 k, LeO (impl_lociText.f k a0) (impl_lociText.f (k + 1) a0) := by
  intro a0 k
  have ih0 := impl_lociText.mono_l k
  unfold impl_lociText.f
  exact mo_
noncomputable def impl_lociText.L0 := fun a b c d => lim fun k => impl_lociText.l0 k a b c d
theorem impl_lociText.L0_lim a b c d : Lim (fun k => impl_lociText.l0 k a b c d) (impl_lociText.L0 a b c d) := ⟨fun k => (impl_lociText.mono_l k) a b c d, rfl⟩
noncomputable def impl_lociText.F := fun a => lim fun k => impl_lociText.f k a
theorem impl_lociText.F_lim a : Lim (fun k => impl_lociText.f k a) (impl_lociText.F a) := ⟨impl_lociText.mono a, rfl⟩
theorem impl_lociText.L0_eq a b c d : impl_lociText.L0 a b c d = (if d < c then (if 0 ≤ d then (if d < (b.length : Int) then (if ((rd_T58 b d).f0).size + 1 ≤ 9223372036854775807 then ((strconv_Itoa.f ((rd_T58 b d).f1)).bind fun t358 => (if (((rd_T58 b d).f0) ++ (⟨#[64]⟩ : ByteArray)).size + t358.size ≤ 9223372036854775807 then (if ((((rd_T58 b d).f0) ++ (⟨#[64]⟩ : ByteArray)) ++ t358).size + 1 ≤ 9223372036854775807 then (if a.size + (((((rd_T58 b d).f0) ++ (⟨#[64]⟩ : ByteArray)) ++ t358) ++ (⟨#[59]⟩ : ByteArray)).size ≤ 9223372036854775807 then (impl_lociText.L0 (a ++ (((((rd_T58 b d).f0) ++ (⟨#[64]⟩ : ByteArray)) ++ t358) ++ (⟨#[59]⟩ : ByteArray))) b c (wrap64 (d + 1))) else (none)) else (none)) else (none))) else (none)) else (none)) else (none)) else (some a)) := by
  refine Lim.succ_eq (impl_lociText.L0_lim ..).mon ?_
  simp only [impl_lociText.l0]
  have m0 := @impl_lociText.L0_lim
  exact li_
theorem impl_lociText.F_eq l0 : impl_lociText.F l0 = (impl_lociText.L0 (⟨#[]⟩ : ByteArray) l0 (l0.length : Int) 0) := by
  refine Lim.eq_ ?_
  simp only [impl_lociText.f]
  have m0 := @impl_lociText.L0_lim
  exact li_
def impl_LociText.f (k : Nat) (l0 : List (S58)) : Option (ByteArray × Bool) := (impl_AreLoci.f k l0).bind fun t359 => (if t359 = true then ((impl_lociText.f k l0).bind fun t360 => (some (t360, true))) else (some ((⟨#[]⟩ : ByteArray), false)))
theorem impl_LociText.mono : ∀ a0 k, LeO (impl_LociText.f k a0) (impl_LociText.f (k + 1) a0) := by
  intro a0 k
  unfold impl_LociText.f
  have m0 := @impl_AreLoci.mono
  have m1 := @impl_lociText.mono
  exact mo_
noncomputable def impl_LociText.F := fun a => lim fun k => impl_LociText.f k a
theorem impl_LociText.F_lim a : Lim (fun k => impl_LociText.f k a) (impl_LociText.F a) := ⟨impl_LociText.mono a, rfl⟩
theorem impl_LociText.F_eq l0 : impl_LociText.F l0 = ((impl_AreLoci.F l0).bind fun t359 => (if t359 = true then ((impl_lociText.F l0).bind fun t360 => (some (t360, true))) else (some ((⟨#[]⟩ : ByteArray), false)))) := by
  refine Lim.eq_ ?_
  simp only [impl_LociText.f]
  have m0 := @impl_AreLoci.F_lim
  have m1 := @impl_lociText.F_lim
  exact li_
def spec_l1Num.f : Nat → Int → Option (ByteArray)
  | 0, _ => none
  | k + 1, a0 => if a0 < 10 then (some (strOfNums (([(wrap64 (48 + a0)) % 256] : List Int)))) else ((spec_l1Num.f k (wrap64 (Int.tdiv a0 10))).bind fun t364 => ((some (([(wrap64 (48 + (Int.tmod a0 10))) % 256] : List Int) : List Int)).bind fun y365 => (if t364.size + (strOfNums y365).size ≤ 9223372036854775807 then (some (t364 ++ (strOfNums y365))) else (none))))
theorem spec_l1Num.mono_l : ∀ k, (∀ a, LeO (spec_l1Num.f k a) (spec_l1Num.f (k + 1) a))
  | 0 => fun _ => LeO.none _
  | k + 1 => by
    have ih0 := spec_l1Num.mono_l k
    · intros; unfold spec_l1Num.f; exact mo_
theorem spec_l1Num.mono : ∀ a0 k, LeO (spec_l1Num.f k a0) (spec_l1Num.f (k + 1) a0) := by
  intro a0 k
  have ih0 := spec_l1Num.mono_l k
  exact ih0 a0
noncomputable def spec_l1Num.F := fun a => lim fun k => spec_l1Num.f k a
theorem spec_l1Num.F_lim a : Lim (fun k => spec_l1Num.f k a) (spec_l1Num.F a) := ⟨spec_l1Num.mono a, rfl⟩
theorem spec_l1Num.F_eq a0 : spec_l1Num.F a0 = (if a0 < 10 then (some (strOfNums (([(wrap64 (48 + a0)) % 256] : List Int)))) else ((spec_l1Num.F (wrap64 (Int.tdiv a0 10))).bind fun t364 => ((some (([(wrap64 (48 + (Int.tmod a0 10))) % 256] : List Int) : List Int)).bind fun y365 => (if t364.size + (strOfNums y365).size ≤ 9223372036854775807 then (some (t364 ++ (strOfNums y365))) else (none))))) := by
  refine Lim.succ_eq (spec_l1Num.F_lim ..).mon ?_
  simp only [spec_l1Num.f]
  have m0 := @spec_l1Num.F_lim
  exact li_
def spec_l1Int.f (k : Nat) (a0 : Int) : Option (ByteArray) := if a0 < 0 then ((spec_l1Num.f k (wrap64 (-a0))).bind fun t368 => (if 1 + t368.size ≤ 9223372036854775807 then (some ((⟨#[45]⟩ : ByteArray) ++ t368)) else (none))) else ((spec_l1Num.f k a0).bind fun t369 => (some t369))
theorem spec_l1Int.mono : ∀ a0 k, LeO (spec_l1Int.f k a0) (spec_l1Int.f (k + 1) a0) := by
  intro a0 k
  unfold spec_l1Int.f
  have m0 := @spec_l1Num.mono
  exact mo_
noncomputable def spec_l1Int.F := fun a => lim fun k => spec_l1Int.f k a
theorem spec_l1Int.F_lim a : Lim (fun k => spec_l1Int.f k a) (spec_l1Int.F a) := ⟨spec_l1Int.mono a, rfl⟩
theorem spec_l1Int.F_eq a0 : spec_l1Int.F a0 = (if a0 < 0 then ((spec_l1Num.F (wrap64 (-a0))).bind fun t368 => (if 1 + t368.size ≤ 9223372036854775807 then (some ((⟨#[45]⟩ : ByteArray) ++ t368)) else (none))) else ((spec_l1Num.F a0).bind fun t369 => (some t369))) := by
  refine Lim.eq_ ?_
  simp only [spec_l1Int.f]
  have m0 := @spec_l1Num.F_lim
  exact li_
def spec_loText.l0 : Nat → ByteArray → List (S58) → Int → Int → Option (ByteArray)
  | 0, _, _, _, _ => none
  | k + 1, a, b, c, d => if d < c then (if 0 ≤ d then (if d < (b.length : Int) then (if ((rd_T58 b d).f0).size + 1 ≤ 9223372036854775807 then ((spec_l1Int.f k ((rd_T58 b d).f1)).bind fun t372 => (if (((rd_T58 b d).f0) ++ (⟨#[64]⟩ : ByteArray)).size + t372.size ≤ 9223372036854775807 then (if ((((rd_T58 b d).f0) ++ (⟨#[64]⟩ : ByteArray)) ++ t372).size + 1 ≤ 9223372036854775807 then (if a.size + (((((rd_T58 b d).f0) ++ (⟨#[64]⟩ : ByteArray)) ++ t372) ++ (⟨#[59]⟩ : ByteArray)).size ≤ 9223372036854775807 then (spec_loText.l0 k (a ++ (((((rd_T58 b d).f0) ++ (⟨#[64]⟩ : ByteArray)) ++ t372) ++ (⟨#[59]⟩ : ByteArray))) b c (wrap64 (d + 1))) else (none)) else (none)) else (none))) else (none)) else (none)) else (none)) else (some a)
def spec_loText.f (k : Nat) (l0 : List (S58)) : Option (ByteArray) := spec_loText.l0 k (⟨#[]⟩ : ByteArray) l0 (l0.length : Int) 0
theorem spec_loText.mono_l : ∀ k, (∀ a b c d, LeO (spec_loText.l0 k a b c d) (spec_loText.l0 (k + 1) a b c d))
  | 0 => fun _ _ _ _ => LeO.none _
  | k + 1 => by
    have ih0 := spec_loText.mono_l k
    have m0 := @spec_l1Int.mono
    · intros; unfold spec_loText.l0; exact mo_
theorem spec_loText.mono : ∀ a0 k, LeO (spec_loText.f k a0) (spec_loText.f (k + 1) a0) := by
  intro a0 k
  have ih0 := spec_loText.mono_l k
  unfold spec_loText.f
  have m0 := @spec_l1Int.mono
  exact mo_
noncomputable def spec_loText.L0 := fun a b c d => lim fun k => spec_loText.l0 k a b c d
theorem spec_loText.L0_lim a b c d : Lim (fun k => spec_loText.l0 k a b c d) (spec_loText.L0 a b c d) := ⟨fun k => (spec_loText.mono_l k) a b c d, rfl⟩
noncomputable def spec_loText.F := fun a => lim fun k => spec_loText.f k a
theorem spec_loText.F_lim a : Lim (fun k => spec_loText.f k a) (spec_loText.F a) := ⟨spec_loText.mono a, rfl⟩
theorem spec_loText.L0_eq a b c d : spec_loText.L0 a b c d = (if d < c then (if 0 ≤ d then (if d < (b.length : Int) then (if ((rd_T58 b d).f0).size + 1 ≤ 9223372036854775807 then ((spec_l1Int.F ((rd_T58 b d).f1)).bind fun t372 => (if (((rd_T58 b d).f0) ++ (⟨#[64]⟩ : ByteArray)).size + t372.size ≤ 9223372036854775807 then (if ((((rd_T58 b d).f0) ++ (⟨#[64]⟩ : ByteArray)) ++ t372).size + 1 ≤ 9223372036854775807 then (if a.size + (((((rd_T58 b d).f0) ++ (⟨#[64]⟩ : ByteArray)) ++ t372) ++ (⟨#[59]⟩ : ByteArray)).size ≤ 9223372036854775807 then (spec_loText.L0 (a ++ (((((rd_T58 b d).f0) ++ (⟨#[64]⟩ : ByteArray)) ++ t372) ++ (⟨#[59]⟩ : ByteArray))) b c (wrap64 (d + 1))) else (none)) else (none)) else (none))) else (none)) else (none)) else (none)) else (some a)) := by
  refine Lim.succ_eq (spec_loText.L0_lim ..).mon ?_
  simp only [spec_loText.l0]
  have m0 := @spec_loText.L0_lim
  have m1 := @spec_l1Int.F_lim
  exact li_
theorem spec_loText.F_eq l0 : spec_loText.F l0 = (spec_loText.L0 (⟨#[]⟩ : ByteArray) l0 (l0.length : Int) 0) := by
  refine Lim.eq_ ?_
  simp only [spec_loText.f]
  have m0 := @spec_loText.L0_lim
  exact li_
def spec_LociText.f (k : Nat) (l0 : List (S58)) : Option (ByteArray × Bool) := (spec_loGood.f k l0).bind fun t373 => (if t373 = true then ((spec_loText.f k l0).bind fun t374 => (some (t374, true))) else (some ((⟨#[]⟩ : ByteArray), false)))
theorem spec_LociText.mono : ∀ a0 k, LeO (spec_LociText.f k a0) (spec_LociText.f (k + 1) a0) := by
  intro a0 k
  unfold spec_LociText.f
  have m0 := @spec_loGood.mono
  have m1 := @spec_loText.mono
  exact mo_
noncomputable def spec_LociText.F := fun a => lim fun k => spec_LociText.f k a
theorem spec_LociText.F_lim a : Lim (fun k => spec_LociText.f k a) (spec_LociText.F a) := ⟨spec_LociText.mono a, rfl⟩
theorem spec_LociText.F_eq l0 : spec_LociText.F l0 = ((spec_loGood.F l0).bind fun t373 => (if t373 = true then ((spec_loText.F l0).bind fun t374 => (some (t374, true))) else (some ((⟨#[]⟩ : ByteArray), false)))) := by
  refine Lim.eq_ ?_
  simp only [spec_LociText.f]
  have m0 := @spec_loGood.F_lim
  have m1 := @spec_loText.F_lim
  exact li_
def laws_sameInts.l0 : Nat → List Int → List Int → Int → Int → Option (Bool)
  | 0, _, _, _, _ => none
  | k + 1, a, b, c, d => if d < c then (if 0 ≤ d then (if d < (a.length : Int) then (if d < (b.length : Int) then (if (rd a d) = (rd b d) then (laws_sameInts.l0 k a b c (wrap64 (d + 1))) else (some false)) else (none)) else (none)) else (none)) else (some true)
def laws_sameInts.f (k : Nat) (l0 : List Int) (l1 : List Int) : Option (Bool) := if (l0.length : Int) = (l1.length : Int) then (laws_sameInts.l0 k l0 l1 (l0.length : Int) 0) else (some false)
theorem laws_sameInts.mono_l : ∀ k, (∀ a b c d, LeO (laws_sameInts.l0 k a b c d) (laws_sameInts.l0 (k + 1) a b c d))
  | 0 => fun _ _ _ _ => LeO.none _
  | k + 1 => by
    have ih0 := laws_sameInts.mono_l k
    · intros; unfold laws_sameInts.l0; exact mo_
theorem laws_sameInts.mono : ∀ a0 a1 k, LeO (laws_sameInts.f k a0 a1) (laws_sameInts.f (k + 1) a0 a1) := by
  intro a0 a1 k
  have ih0 := laws_sameInts.mono_l k
  unfold laws_sameInts.f
  exact mo_
noncomputable def laws_sameInts.L0 := fun a b c d => lim fun k => laws_sameInts.l0 k a b c d
theorem laws_sameInts.L0_lim a b c d : Lim (fun k => laws_sameInts.l0 k a b c d) (laws_sameInts.L0 a b c d) := ⟨fun k => (laws_sameInts.mono_l k) a b c d, rfl⟩
noncomputable def laws_sameInts.F := fun a b => lim fun k => laws_sameInts.f k a b
theorem laws_sameInts.F_lim a b : Lim (fun k => laws_sameInts.f k a b) (laws_sameInts.F a b) := ⟨laws_sameInts.mono a b, rfl⟩
theorem laws_sameInts.L0_eq a b c d : laws_sameInts.L0 a b c d = (if d < c then (if 0 ≤ d then (if d < (a.length : Int) then (if d < (b.length : Int) then (if (rd a d) = (rd b d) then (laws_sameInts.L0 a b c (wrap64 (d + 1))) else (some false)) else (none)) else (none)) else (none)) else (some true)) := by
  refine Lim.succ_eq (laws_sameInts.L0_lim ..).mon ?_
  simp only [laws_sameInts.l0]
  have m0 := @laws_sameInts.L0_lim
  exact li_
theorem laws_sameInts.F_eq l0 l1 : laws_sameInts.F l0 l1 = (if (l0.length : Int) = (l1.length : Int) then (laws_sameInts.L0 l0 l1 (l0.length : Int) 0) else (some false)) := by
  refine Lim.eq_ ?_
  simp only [laws_sameInts.f]
  have m0 := @laws_sameInts.L0_lim
  exact li_
def laws_pSameLoci.l0 : Nat → List (S58) → List (S58) → Int → Int → Option (Bool)
  | 0, _, _, _, _ => none
  | k + 1, a, b, c, d => if d < c then (if 0 ≤ d then (if d < (a.length : Int) then (if d < (b.length : Int) then (if (!((((rd_T58 a d).f0).toList) == (((rd_T58 b d).f0).toList)) || (!(((rd_T58 a d).f1) == ((rd_T58 b d).f1)))) = true then (some false) else (laws_pSameLoci.l0 k a b c (wrap64 (d + 1)))) else (none)) else (none)) else (none)) else (some true)
def laws_pSameLoci.f (k : Nat) (l0 : List (S58)) (l1 : List (S58)) : Option (Bool) := if (l0.length : Int) = (l1.length : Int) then (laws_pSameLoci.l0 k l0 l1 (l0.length : Int) 0) else (some false)
theorem laws_pSameLoci.mono_l : ∀ k, (∀ a b c d, LeO (laws_pSameLoci.l0 k a b c d) (laws_pSameLoci.l0 (k + 1) a b c d))
  | 0 => fun _ _ _ _ => LeO.none _
  | k + 1 => by
    have ih0 := laws_pSameLoci.mono_l k
    · intros; unfold laws_pSameLoci.l0; exact mo_
theorem laws_pSameLoci.mono : ∀ a0 a1 k, LeO (laws_pSameLoci.f k a0 a1) (laws_pSameLoci.f (k + 1) a0 a1) := by
  intro a0 a1 k
  have ih0 := laws_pSameLoci.mono_l k
  unfold laws_pSameLoci.f
  exact mo_
noncomputable def laws_pSameLoci.L0 := fun a b c d => lim fun k => laws_pSameLoci.l0 k a b c d
theorem laws_pSameLoci.L0_lim a b c d : Lim (fun k => laws_pSameLoci.l0 k a b c d) (laws_pSameLoci.L0 a b c d) := ⟨fun k => (laws_pSameLoci.mono_l k) a b c d, rfl⟩
noncomputable def laws_pSameLoci.F := fun a b => lim fun k => laws_pSameLoci.f k a b
theorem laws_pSameLoci.F_lim a b : Lim (fun k => laws_pSameLoci.f k a b) (laws_pSameLoci.F a b) := ⟨laws_pSameLoci.mono a b, rfl⟩
theorem laws_pSameLoci.L0_eq a b c d : laws_pSameLoci.L0 a b c d = (if d < c then (if 0 ≤ d then (if d < (a.length : Int) then (if d < (b.length : Int) then (if (!((((rd_T58 a d).f0).toList) == (((rd_T58 b d).f0).toList)) || (!(((rd_T58 a d).f1) == ((rd_T58 b d).f1)))) = true then (some false) else (laws_pSameLoci.L0 a b c (wrap64 (d + 1)))) else (none)) else (none)) else (none)) else (some true)) := by
  refine Lim.succ_eq (laws_pSameLoci.L0_lim ..).mon ?_
  simp only [laws_pSameLoci.l0]
  have m0 := @laws_pSameLoci.L0_lim
  exact li_
theorem laws_pSameLoci.F_eq l0 l1 : laws_pSameLoci.F l0 l1 = (if (l0.length : Int) = (l1.length : Int) then (laws_pSameLoci.L0 l0 l1 (l0.length : Int) 0) else (some false)) := by
  refine Lim.eq_ ?_
  simp only [laws_pSameLoci.f]
  have m0 := @laws_pSameLoci.L0_lim
  exact li_
def impl_pointsAt.f (k : Nat) (l0 : List (S58)) (a1 : Int) : Option (ByteArray) := (impl_nearestLoci.f k l0 a1).bind fun bt379 => (if bt379.1 > 20 then (some (⟨#[]⟩ : ByteArray)) else (if (bt379.2.length : Int) = 1 then (if 0 < (bt379.2.length : Int) then (some (rdOf ByteArray.empty bt379.2 0)) else (none)) else (some (⟨#[]⟩ : ByteArray))))
theorem impl_pointsAt.mono : ∀ a0 a1 k, LeO (impl_pointsAt.f k a0 a1) (impl_pointsAt.f (k + 1) a0 a1) := by
  intro a0 a1 k
  unfold impl_pointsAt.f
  have m0 := @impl_nearestLoci.mono
  exact mo_
noncomputable def impl_pointsAt.F := fun a b => lim fun k => impl_pointsAt.f k a b
theorem impl_pointsAt.F_lim a b : Lim (fun k => impl_pointsAt.f k a b) (impl_pointsAt.F a b) := ⟨impl_pointsAt.mono a b, rfl⟩
theorem impl_pointsAt.F_eq l0 a1 : impl_pointsAt.F l0 a1 = ((impl_nearestLoci.F l0 a1).bind fun bt379 => (if bt379.1 > 20 then (some (⟨#[]⟩ : ByteArray)) else (if (bt379.2.length : Int) = 1 then (if 0 < (bt379.2.length : Int) then (some (rdOf ByteArray.empty bt379.2 0)) else (none)) else (some (⟨#[]⟩ : ByteArray))))) := by
  refine Lim.eq_ ?_
  simp only [impl_pointsAt.f]
  have m0 := @impl_nearestLoci.F_lim
  exact li_
def impl_PointsAt.f (k : Nat) (l0 : List (S58)) (a1 : Int) : Option (ByteArray × Bool) := (impl_AreLoci.f k l0).bind fun t384 => (if t384 = true then ((impl_isAngle.f a1).bind fun t385 => (if t385 = true then ((impl_pointsAt.f k l0 a1).bind fun t386 => (some (t386, (t386.toList != ([] : List UInt8))))) else (some ((⟨#[]⟩ : ByteArray), false)))) else (some ((⟨#[]⟩ : ByteArray), false)))
theorem impl_PointsAt.mono : ∀ a0 a1 k, LeO (impl_PointsAt.f k a0 a1) (impl_PointsAt.f (k + 1) a0 a1) := by
  intro a0 a1 k
  unfold impl_PointsAt.f
  have m0 := @impl_AreLoci.mono
  have m1 := @impl_pointsAt.mono
  exact mo_
noncomputable def impl_PointsAt.F := fun a b => lim fun k => impl_PointsAt.f k a b
theorem impl_PointsAt.F_lim a b : Lim (fun k => impl_PointsAt.f k a b) (impl_PointsAt.F a b) := ⟨impl_PointsAt.mono a b, rfl⟩
theorem impl_PointsAt.F_eq l0 a1 : impl_PointsAt.F l0 a1 = ((impl_AreLoci.F l0).bind fun t384 => (if t384 = true then ((impl_isAngle.f a1).bind fun t385 => (if t385 = true then ((impl_pointsAt.F l0 a1).bind fun t386 => (some (t386, (t386.toList != ([] : List UInt8))))) else (some ((⟨#[]⟩ : ByteArray), false)))) else (some ((⟨#[]⟩ : ByteArray), false)))) := by
  refine Lim.eq_ ?_
  simp only [impl_PointsAt.f]
  have m0 := @impl_AreLoci.F_lim
  have m1 := @impl_pointsAt.F_lim
  exact li_
def laws_pAbs.f (a0 : Int) : Option (Int) := if a0 < 0 then (some (wrap64 (-a0))) else (some a0)
def stringslite_Index.f (a0 : ByteArray) (a1 : ByteArray) : Option (Int) := if a1.size = 1 then some (Lib.indexByte a0.data.toList (a1.data.toList.getD 0 0)) else none
def stringslite_Cut.f (a0 : ByteArray) (a1 : ByteArray) : Option (ByteArray × ByteArray × Bool) := (stringslite_Index.f a0 a1).bind fun t387 => (if t387 ≥ 0 then (if 0 ≤ t387 then (if t387 ≤ (a0.size : Int) then (if 0 ≤ (wrap64 (t387 + (a1.size : Int))) then (if (wrap64 (t387 + (a1.size : Int))) ≤ (a0.size : Int) then (some (a0.extract 0 (t387 : Int).toNat, a0.extract ((wrap64 (t387 + (a1.size : Int))) : Int).toNat a0.size, true)) else (none)) else (none)) else (none)) else (none)) else (some (a0, (⟨#[]⟩ : ByteArray), false)))
def strings_Cut.f (a0 : ByteArray) (a1 : ByteArray) : Option (ByteArray × ByteArray × Bool) := (stringslite_Cut.f a0 a1).bind fun bt388 => (some (bt388.1, bt388.2.1, bt388.2.2))
def impl_decimal.f (a0 : ByteArray) : Option (Int × Bool) := if a0.size ≤ 281474976710656 then some (match Lib.atoiAll a0.data.toList with | .ok v => if Lib.itoa v = a0.data.toList then (v, true) else (0, false) | _ => (0, false)) else none
def stringslite_HasSuffix.f (a0 : ByteArray) (a1 : ByteArray) : Option (Bool) := if (a0.size : Int) ≥ (a1.size : Int) then (if 0 ≤ (wrap64 ((a0.size : Int) - (a1.size : Int))) then (if (wrap64 ((a0.size : Int) - (a1.size : Int))) ≤ (a0.size : Int) then (some ((a0.extract ((wrap64 ((a0.size : Int) - (a1.size : Int))) : Int).toNat a0.size).toList == a1.toList)) else (none)) else (none)) else (some false)
def stringslite_TrimSuffix.f (a0 : ByteArray) (a1 : ByteArray) : Option (ByteArray) := (stringslite_HasSuffix.f a0 a1).bind fun t391 => (if t391 = true then (if 0 ≤ (wrap64 ((a0.size : Int) - (a1.size : Int))) then (if (wrap64 ((a0.size : Int) - (a1.size : Int))) ≤ (a0.size : Int) then (some (a0.extract 0 ((wrap64 ((a0.size : Int) - (a1.size : Int))) : Int).toNat)) else (none)) else (none)) else (some a0))
def strings_TrimSuffix.f (a0 : ByteArray) (a1 : ByteArray) : Option (ByteArray) := (stringslite_TrimSuffix.f a0 a1).bind fun t392 => (some t392)
def strings_Index.f (a0 : ByteArray) (a1 : ByteArray) : Option (Int) := (stringslite_Index.f a0 a1).bind fun t393 => (some t393)
def impl_ParseLoci.pieces (s : ByteArray) (c : UInt8) (e : Nat) : List ByteArray := (cutsAt e c s.data.toList).map mk_
def impl_ParseLoci.one (out : List S58) (x : ByteArray) : Option (List S58) := if x.toList = [] then some out else (if 8 < out.length then some out else ((strings_TrimSuffix.f x ⟨#[59]⟩).bind fun y => (strings_Cut.f y ⟨#[64]⟩).bind fun c => (impl_decimal.f c.2.1).bind fun d => some (out ++ [⟨c.1, d.1⟩])))
def impl_ParseLoci.run : List ByteArray → List S58 → Option (List S58)
  | [], out => some out
  | x :: t, out => (impl_ParseLoci.one out x).bind fun o => impl_ParseLoci.run t o
def impl_ParseLoci.f (k : Nat) (a0 : ByteArray) : Option (List S58 × Bool) := if a0.size ≤ 1048576 then ((impl_ParseLoci.run (impl_ParseLoci.pieces a0 59 1) []).bind fun out => (impl_AreLoci.f k out).bind fun t => (if t = true then ((impl_lociText.f k out).bind fun s => (if s.toList = a0.toList then some (out, true) else some ([], false))) else some ([], false))) else none
noncomputable def impl_ParseLoci.G (a0 : ByteArray) : Option (List S58 × Bool) := if a0.size ≤ 1048576 then ((impl_ParseLoci.run (impl_ParseLoci.pieces a0 59 1) []).bind fun out => (impl_AreLoci.F out).bind fun t => (if t = true then ((impl_lociText.F out).bind fun s => (if s.toList = a0.toList then some (out, true) else some ([], false))) else some ([], false))) else none
theorem impl_ParseLoci.f_lim a : Lim (fun k => impl_ParseLoci.f k a) (impl_ParseLoci.G a) := Lim.ite (Lim.bind (Lim.const _) fun out => Lim.bind (impl_AreLoci.F_lim out) fun _ => Lim.ite (Lim.bind (impl_lociText.F_lim out) fun _ => Lim.ite (Lim.const _) (Lim.const _)) (Lim.const _)) (Lim.const _)
theorem impl_ParseLoci.mono (a0 : ByteArray) (k : Nat) : LeO (impl_ParseLoci.f k a0) (impl_ParseLoci.f (k + 1) a0) := (impl_ParseLoci.f_lim a0).mon k
noncomputable def impl_ParseLoci.F := fun a => lim fun k => impl_ParseLoci.f k a
theorem impl_ParseLoci.F_lim a : Lim (fun k => impl_ParseLoci.f k a) (impl_ParseLoci.F a) := ⟨impl_ParseLoci.mono a, rfl⟩
theorem impl_ParseLoci.F_eq a0 : impl_ParseLoci.F a0 = impl_ParseLoci.G a0 := (impl_ParseLoci.f_lim a0).eq
def spec_l1Cur_one.f (s0_0 : List Int) (s0_1 : Int) (s0_2 : Int) (a1 : Int) : Option (Bool × Int × Int) := (spec_l1Cur_pick.f s0_0 s0_1 s0_2 a1).bind fun bt394 => (some ((bt394.1 == 0), bt394.2.1, bt394.2.2))
mutual
def spec_DrawRunPoints.j0 : Nat → ByteArray → Int → List Int → Int → Int → Option ((List (S58)) × ByteArray)
  | 0, _, _, _, _, _ => none
  | k + 1, a, b, c, d, e => spec_DrawRunPoints.l0 k a b 0 c d e
def spec_DrawRunPoints.l0 : Nat → ByteArray → Int → Int → List Int → Int → Int → Option ((List (S58)) × ByteArray)
  | 0, _, _, _, _, _, _ => none
  | k + 1, a, b, c, d, e, f => if c < b then (if c > 0 then (if a.size + 1 ≤ 9223372036854775807 then ((spec_l1Cur_pick.f d e f 181).bind fun bt407 => ((spec_l1Cur_among.f d bt407.2.1 bt407.2.2 (([0, (-40), 30, 25, 90, (-90), wrap64 (bt407.1 - 90)] : List Int))).bind fun bt413 => ((spec_l1Int.f k bt413.1).bind fun t416 => (if (a ++ (⟨#[32]⟩ : ByteArray)).size + t416.size ≤ 9223372036854775807 then (spec_DrawRunPoints.l0 k ((a ++ (⟨#[32]⟩ : ByteArray)) ++ t416) b (wrap64 (c + 1)) d bt413.2.1 bt413.2.2) else (none))))) else (none)) else ((spec_l1Cur_pick.f d e f 181).bind fun bt417 => ((spec_l1Cur_among.f d bt417.2.1 bt417.2.2 (([0, (-40), 30, 25, 90, (-90), wrap64 (bt417.1 - 90)] : List Int))).bind fun bt423 => ((spec_l1Int.f k bt423.1).bind fun t426 => (if a.size + t426.size ≤ 9223372036854775807 then (spec_DrawRunPoints.l0 k (a ++ t426) b (wrap64 (c + 1)) d bt423.2.1 bt423.2.2) else (none)))))) else ((spec_l1Cur_one.f d e f 10).bind fun bt427 => (if bt427.1 = true then ((spec_l1Cur_of.f d bt427.2.1 bt427.2.2 (([(⟨#[57, 49]⟩ : ByteArray), (⟨#[45, 57, 49]⟩ : ByteArray), (⟨#[45, 48]⟩ : ByteArray), (⟨#[48, 53]⟩ : ByteArray), (⟨#[32, 53]⟩ : ByteArray), (⟨#[53, 32]⟩ : ByteArray), (⟨#[53, 32, 32, 53]⟩ : ByteArray), (⟨#[120]⟩ : ByteArray), (⟨#[43, 53]⟩ : ByteArray)] : List ByteArray))).bind fun bt433 => ((spec_l1Cur_loci.f k d bt433.2.1 bt433.2.2).bind fun bt436 => (some (bt436.1, bt433.1)))) else ((spec_l1Cur_loci.f k d bt427.2.1 bt427.2.2).bind fun bt441 => (some (bt441.1, a)))))
end
def spec_DrawRunPoints.f (k : Nat) (l0 : List Int) : Option ((List (S58)) × ByteArray) := (spec_l1Cur_pick.f l0 0 0 5).bind fun bt398 => ((spec_l1Cur_one.f l0 bt398.2.1 bt398.2.2 12).bind fun bt401 => (if bt401.1 = true then ((spec_l1Cur_pick.f l0 bt401.2.1 bt401.2.2 2).bind fun bt404 => (spec_DrawRunPoints.j0 k (⟨#[]⟩ : ByteArray) (wrap64 (10 + bt404.1)) l0 bt404.2.1 bt404.2.2)) else (spec_DrawRunPoints.j0 k (⟨#[]⟩ : ByteArray) bt398.1 l0 bt401.2.1 bt401.2.2)))
theorem spec_DrawRunPoints.mono_l : ∀ k, (∀ a b c d e, LeO (spec_DrawRunPoints.j0 k a b c d e) (spec_DrawRunPoints.j0 (k + 1) a b c d e)) ∧ (∀ a b c d e f, LeO (spec_DrawRunPoints.l0 k a b c d e f) (spec_DrawRunPoints.l0 (k + 1) a b c d e f))
  | 0 => ⟨fun _ _ _ _ _ => LeO.none _, fun _ _ _ _ _ _ => LeO.none _⟩
  | k + 1 => by
    obtain ⟨ih0, ih1⟩ := spec_DrawRunPoints.mono_l k
    have m0 := @spec_l1Cur_loci.mono
    have m1 := @spec_l1Int.mono
    refine ⟨?_, ?_⟩
    · intros; unfold spec_DrawRunPoints.j0; exact mo_
    · intros; unfold spec_DrawRunPoints.l0; exact mo_
theorem spec_DrawRunPoints.mono : ∀ a0 k, LeO (spec_DrawRunPoints.f k a0) (spec_DrawRunPoints.f (k + 1) a0) := by
  intro a0 k
  obtain ⟨ih0, ih1⟩ := spec_DrawRunPoints.mono_l k
  unfold spec_DrawRunPoints.f
  have m0 := @spec_l1Cur_loci.mono
  have m1 := @spec_l1Int.mono
  exact mo_
noncomputable def spec_DrawRunPoints.J0 := fun a b c d e => lim fun k => spec_DrawRunPoints.j0 k a b c d e
theorem spec_DrawRunPoints.J0_lim a b c d e : Lim (fun k => spec_DrawRunPoints.j0 k a b c d e) (spec_DrawRunPoints.J0 a b c d e) := ⟨fun k => (spec_DrawRunPoints.mono_l k).1 a b c d e, rfl⟩
noncomputable def spec_DrawRunPoints.L0 := fun a b c d e f => lim fun k => spec_DrawRunPoints.l0 k a b c d e f
theorem spec_DrawRunPoints.L0_lim a b c d e f : Lim (fun k => spec_DrawRunPoints.l0 k a b c d e f) (spec_DrawRunPoints.L0 a b c d e f) := ⟨fun k => (spec_DrawRunPoints.mono_l k).2 a b c d e f, rfl⟩
noncomputable def spec_DrawRunPoints.F := fun a => lim fun k => spec_DrawRunPoints.f k a
theorem spec_DrawRunPoints.F_lim a : Lim (fun k => spec_DrawRunPoints.f k a) (spec_DrawRunPoints.F a) := ⟨spec_DrawRunPoints.mono a, rfl⟩
theorem spec_DrawRunPoints.J0_eq a b c d e : spec_DrawRunPoints.J0 a b c d e = (spec_DrawRunPoints.L0 a b 0 c d e) := by
  refine Lim.succ_eq (spec_DrawRunPoints.J0_lim ..).mon ?_
  simp only [spec_DrawRunPoints.j0]
  have m0 := @spec_DrawRunPoints.L0_lim
  exact li_
theorem spec_DrawRunPoints.L0_eq a b c d e f : spec_DrawRunPoints.L0 a b c d e f = (if c < b then (if c > 0 then (if a.size + 1 ≤ 9223372036854775807 then ((spec_l1Cur_pick.f d e f 181).bind fun bt407 => ((spec_l1Cur_among.f d bt407.2.1 bt407.2.2 (([0, (-40), 30, 25, 90, (-90), wrap64 (bt407.1 - 90)] : List Int))).bind fun bt413 => ((spec_l1Int.F bt413.1).bind fun t416 => (if (a ++ (⟨#[32]⟩ : ByteArray)).size + t416.size ≤ 9223372036854775807 then (spec_DrawRunPoints.L0 ((a ++ (⟨#[32]⟩ : ByteArray)) ++ t416) b (wrap64 (c + 1)) d bt413.2.1 bt413.2.2) else (none))))) else (none)) else ((spec_l1Cur_pick.f d e f 181).bind fun bt417 => ((spec_l1Cur_among.f d bt417.2.1 bt417.2.2 (([0, (-40), 30, 25, 90, (-90), wrap64 (bt417.1 - 90)] : List Int))).bind fun bt423 => ((spec_l1Int.F bt423.1).bind fun t426 => (if a.size + t426.size ≤ 9223372036854775807 then (spec_DrawRunPoints.L0 (a ++ t426) b (wrap64 (c + 1)) d bt423.2.1 bt423.2.2) else (none)))))) else ((spec_l1Cur_one.f d e f 10).bind fun bt427 => (if bt427.1 = true then ((spec_l1Cur_of.f d bt427.2.1 bt427.2.2 (([(⟨#[57, 49]⟩ : ByteArray), (⟨#[45, 57, 49]⟩ : ByteArray), (⟨#[45, 48]⟩ : ByteArray), (⟨#[48, 53]⟩ : ByteArray), (⟨#[32, 53]⟩ : ByteArray), (⟨#[53, 32]⟩ : ByteArray), (⟨#[53, 32, 32, 53]⟩ : ByteArray), (⟨#[120]⟩ : ByteArray), (⟨#[43, 53]⟩ : ByteArray)] : List ByteArray))).bind fun bt433 => ((spec_l1Cur_loci.F d bt433.2.1 bt433.2.2).bind fun bt436 => (some (bt436.1, bt433.1)))) else ((spec_l1Cur_loci.F d bt427.2.1 bt427.2.2).bind fun bt441 => (some (bt441.1, a)))))) := by
  refine Lim.succ_eq (spec_DrawRunPoints.L0_lim ..).mon ?_
  simp only [spec_DrawRunPoints.l0]
  have m0 := @spec_DrawRunPoints.L0_lim
  have m1 := @spec_l1Cur_loci.F_lim
  have m2 := @spec_l1Int.F_lim
  exact li_
theorem spec_DrawRunPoints.F_eq l0 : spec_DrawRunPoints.F l0 = ((spec_l1Cur_pick.f l0 0 0 5).bind fun bt398 => ((spec_l1Cur_one.f l0 bt398.2.1 bt398.2.2 12).bind fun bt401 => (if bt401.1 = true then ((spec_l1Cur_pick.f l0 bt401.2.1 bt401.2.2 2).bind fun bt404 => (spec_DrawRunPoints.J0 (⟨#[]⟩ : ByteArray) (wrap64 (10 + bt404.1)) l0 bt404.2.1 bt404.2.2)) else (spec_DrawRunPoints.J0 (⟨#[]⟩ : ByteArray) bt398.1 l0 bt401.2.1 bt401.2.2)))) := by
  refine Lim.eq_ ?_
  simp only [spec_DrawRunPoints.f]
  have m0 := @spec_DrawRunPoints.J0_lim
  exact li_
def impl_RunPoints.pieces (s : ByteArray) (c : UInt8) (e : Nat) : List ByteArray := (cutsAt e c s.data.toList).map mk_
def impl_RunPoints.run (k : Nat) (l0 : List S58) : List ByteArray → List ByteArray → Option (List ByteArray × Bool)
  | [], out => some (out, true)
  | x :: t, out => (impl_decimal.f x).bind fun d => (if d.2 = true then ((impl_isAngle.f d.1).bind fun b => (if b = true then (if out.length = 10 then some ([], false) else ((impl_pointsAt.f k l0 d.1).bind fun who => impl_RunPoints.run k l0 t (out ++ [if who.toList = [] then ⟨#[63]⟩ else who]))) else some ([], false))) else some ([], false))
def impl_RunPoints.f (k : Nat) (l0 : List S58) (a1 : ByteArray) : Option (List ByteArray × Bool) := if a1.size ≤ 1048576 then ((impl_AreLoci.f k l0).bind fun t => (if t = true then (if a1.toList = [] then some ([], true) else impl_RunPoints.run k l0 (impl_RunPoints.pieces a1 32 0) []) else some ([], false))) else none
noncomputable def impl_RunPoints.R (l0 : List S58) : List ByteArray → List ByteArray → Option (List ByteArray × Bool)
  | [], out => some (out, true)
  | x :: t, out => (impl_decimal.f x).bind fun d => (if d.2 = true then ((impl_isAngle.f d.1).bind fun b => (if b = true then (if out.length = 10 then some ([], false) else ((impl_pointsAt.F l0 d.1).bind fun who => impl_RunPoints.R l0 t (out ++ [if who.toList = [] then ⟨#[63]⟩ else who]))) else some ([], false))) else some ([], false))
theorem impl_RunPoints.run_lim l0 : ∀ ps out, Lim (fun k => impl_RunPoints.run k l0 ps out) (impl_RunPoints.R l0 ps out)
  | [], _ => Lim.const _
  | _ :: t, out => Lim.bind (Lim.const _) fun d => Lim.ite (Lim.bind (Lim.const _) fun _ => Lim.ite (Lim.ite (Lim.const _) (Lim.bind (impl_pointsAt.F_lim l0 d.1) fun _ => impl_RunPoints.run_lim l0 t _)) (Lim.const _)) (Lim.const _)
noncomputable def impl_RunPoints.G (l0 : List S58) (a1 : ByteArray) : Option (List ByteArray × Bool) := if a1.size ≤ 1048576 then ((impl_AreLoci.F l0).bind fun t => (if t = true then (if a1.toList = [] then some ([], true) else impl_RunPoints.R l0 (impl_RunPoints.pieces a1 32 0) []) else some ([], false))) else none
theorem impl_RunPoints.f_lim a b : Lim (fun k => impl_RunPoints.f k a b) (impl_RunPoints.G a b) := Lim.ite (Lim.bind (impl_AreLoci.F_lim a) fun _ => Lim.ite (Lim.ite (Lim.const _) (impl_RunPoints.run_lim a _ _)) (Lim.const _)) (Lim.const _)
theorem impl_RunPoints.mono (a0 : List S58) (a1 : ByteArray) (k : Nat) : LeO (impl_RunPoints.f k a0 a1) (impl_RunPoints.f (k + 1) a0 a1) := (impl_RunPoints.f_lim a0 a1).mon k
noncomputable def impl_RunPoints.F := fun a b => lim fun k => impl_RunPoints.f k a b
theorem impl_RunPoints.F_lim a b : Lim (fun k => impl_RunPoints.f k a b) (impl_RunPoints.F a b) := ⟨impl_RunPoints.mono a b, rfl⟩
theorem impl_RunPoints.F_eq l0 a1 : impl_RunPoints.F l0 a1 = impl_RunPoints.G l0 a1 := (impl_RunPoints.f_lim l0 a1).eq
def spec_l1Split.l0 : Nat → ByteArray → Int → List ByteArray → Int → Int → Option (List ByteArray)
  | 0, _, _, _, _, _ => none
  | k + 1, a, b, c, d, e => if e < (a.size : Int) then (if 0 ≤ e then (if (bt a e) = b then (if 0 ≤ d then (if d ≤ e then (if e ≤ (a.size : Int) then (if c.length < 8796093022208 then (spec_l1Split.l0 k a b (c ++ [a.extract (d : Int).toNat (e : Int).toNat]) (wrap64 (e + 1)) (wrap64 (e + 1))) else (none)) else (none)) else (none)) else (none)) else (spec_l1Split.l0 k a b c d (wrap64 (e + 1)))) else (none)) else (if 0 ≤ d then (if d ≤ (a.size : Int) then (if c.length < 8796093022208 then (some (c ++ [a.extract (d : Int).toNat a.size])) else (none)) else (none)) else (none))
def spec_l1Split.f (k : Nat) (a0 : ByteArray) (a1 : Int) : Option (List ByteArray) := spec_l1Split.l0 k a0 a1 ([] : List ByteArray) 0 0
theorem spec_l1Split.mono_l : ∀ k, (∀ a b c d e, LeO (spec_l1Split.l0 k a b c d e) (spec_l1Split.l0 (k + 1) a b c d e))
  | 0 => fun _ _ _ _ _ => LeO.none _
  | k + 1 => by
    have ih0 := spec_l1Split.mono_l k
    · intros; unfold spec_l1Split.l0; exact mo_
theorem spec_l1Split.mono : ∀ a0 a1 k, LeO (spec_l1Split.f k a0 a1) (spec_l1Split.f (k + 1) a0 a1) := by
  intro a0 a1 k
  have ih0 := spec_l1Split.mono_l k
  unfold spec_l1Split.f
  exact mo_
noncomputable def spec_l1Split.L0 := fun a b c d e => lim fun k => spec_l1Split.l0 k a b c d e
theorem spec_l1Split.L0_lim a b c d e : Lim (fun k => spec_l1Split.l0 k a b c d e) (spec_l1Split.L0 a b c d e) := ⟨fun k => (spec_l1Split.mono_l k) a b c d e, rfl⟩
noncomputable def spec_l1Split.F := fun a b => lim fun k => spec_l1Split.f k a b
theorem spec_l1Split.F_lim a b : Lim (fun k => spec_l1Split.f k a b) (spec_l1Split.F a b) := ⟨spec_l1Split.mono a b, rfl⟩
theorem spec_l1Split.L0_eq a b c d e : spec_l1Split.L0 a b c d e = (if e < (a.size : Int) then (if 0 ≤ e then (if (bt a e) = b then (if 0 ≤ d then (if d ≤ e then (if e ≤ (a.size : Int) then (if c.length < 8796093022208 then (spec_l1Split.L0 a b (c ++ [a.extract (d : Int).toNat (e : Int).toNat]) (wrap64 (e + 1)) (wrap64 (e + 1))) else (none)) else (none)) else (none)) else (none)) else (spec_l1Split.L0 a b c d (wrap64 (e + 1)))) else (none)) else (if 0 ≤ d then (if d ≤ (a.size : Int) then (if c.length < 8796093022208 then (some (c ++ [a.extract (d : Int).toNat a.size])) else (none)) else (none)) else (none))) := by
  refine Lim.succ_eq (spec_l1Split.L0_lim ..).mon ?_
  simp only [spec_l1Split.l0]
  have m0 := @spec_l1Split.L0_lim
  exact li_
theorem spec_l1Split.F_eq a0 a1 : spec_l1Split.F a0 a1 = (spec_l1Split.L0 a0 a1 ([] : List ByteArray) 0 0) := by
  refine Lim.eq_ ?_
  simp only [spec_l1Split.f]
  have m0 := @spec_l1Split.L0_lim
  exact li_
mutual
def spec_l1Read.j0 : Nat → ByteArray → Bool → Option (Int)
  | 0, _, _ => none
  | k + 1, a, b => if b = true then (some (-1)) else (spec_l1Read.l0 k a 0 0)
def spec_l1Read.l0 : Nat → ByteArray → Int → Int → Option (Int)
  | 0, _, _, _ => none
  | k + 1, a, b, c => if c < (a.size : Int) then (if 0 ≤ c then (if (bt a c) < 48 then (some (-1)) else (if (bt a c) > 57 then (some (-1)) else (spec_l1Read.l0 k a (wrap64 ((wrap64 (10 * b)) + (((bt a c) - 48) % 256))) (wrap64 (c + 1))))) else (none)) else (some b)
end
def spec_l1Read.f (k : Nat) (a0 : ByteArray) : Option (Int) := (spec_l1In.f (a0.size : Int) 1 6).bind fun t452 => (if t452 = true then (if 0 < (a0.size : Int) then (if (bt a0 0) = 48 then (spec_l1Read.j0 k a0 (decide ((a0.size : Int) > 1))) else (spec_l1Read.j0 k a0 false)) else (none)) else (spec_l1Read.j0 k a0 true))
theorem spec_l1Read.mono_l : ∀ k, (∀ a b, LeO (spec_l1Read.j0 k a b) (spec_l1Read.j0 (k + 1) a b)) ∧ (∀ a b c, LeO (spec_l1Read.l0 k a b c) (spec_l1Read.l0 (k + 1) a b c))
  | 0 => ⟨fun _ _ => LeO.none _, fun _ _ _ => LeO.none _⟩
  | k + 1 => by
    obtain ⟨ih0, ih1⟩ := spec_l1Read.mono_l k
    refine ⟨?_, ?_⟩
    · intros; unfold spec_l1Read.j0; exact mo_
    · intros; unfold spec_l1Read.l0; exact mo_
theorem spec_l1Read.mono : ∀ a0 k, LeO (spec_l1Read.f k a0) (spec_l1Read.f (k + 1) a0) := by
  intro a0 k
  obtain ⟨ih0, ih1⟩ := spec_l1Read.mono_l k
  unfold spec_l1Read.f
  exact mo_
noncomputable def spec_l1Read.J0 := fun a b => lim fun k => spec_l1Read.j0 k a b
theorem spec_l1Read.J0_lim a b : Lim (fun k => spec_l1Read.j0 k a b) (spec_l1Read.J0 a b) := ⟨fun k => (spec_l1Read.mono_l k).1 a b, rfl⟩
noncomputable def spec_l1Read.L0 := fun a b c => lim fun k => spec_l1Read.l0 k a b c
theorem spec_l1Read.L0_lim a b c : Lim (fun k => spec_l1Read.l0 k a b c) (spec_l1Read.L0 a b c) := ⟨fun k => (spec_l1Read.mono_l k).2 a b c, rfl⟩
noncomputable def spec_l1Read.F := fun a => lim fun k => spec_l1Read.f k a
theorem spec_l1Read.F_lim a : Lim (fun k => spec_l1Read.f k a) (spec_l1Read.F a) := ⟨spec_l1Read.mono a, rfl⟩
theorem spec_l1Read.J0_eq a b : spec_l1Read.J0 a b = (if b = true then (some (-1)) else (spec_l1Read.L0 a 0 0)) := by
  refine Lim.succ_eq (spec_l1Read.J0_lim ..).mon ?_
  simp only [spec_l1Read.j0]
  have m0 := @spec_l1Read.L0_lim
  exact li_
theorem spec_l1Read.L0_eq a b c : spec_l1Read.L0 a b c = (if c < (a.size : Int) then (if 0 ≤ c then (if (bt a c) < 48 then (some (-1)) else (if (bt a c) > 57 then (some (-1)) else (spec_l1Read.L0 a (wrap64 ((wrap64 (10 * b)) + (((bt a c) - 48) % 256))) (wrap64 (c + 1))))) else (none)) else (some b)) := by
  refine Lim.succ_eq (spec_l1Read.L0_lim ..).mon ?_
  simp only [spec_l1Read.l0]
  have m0 := @spec_l1Read.L0_lim
  exact li_
theorem spec_l1Read.F_eq a0 : spec_l1Read.F a0 = ((spec_l1In.f (a0.size : Int) 1 6).bind fun t452 => (if t452 = true then (if 0 < (a0.size : Int) then (if (bt a0 0) = 48 then (spec_l1Read.J0 a0 (decide ((a0.size : Int) > 1))) else (spec_l1Read.J0 a0 false)) else (none)) else (spec_l1Read.J0 a0 true))) := by
  refine Lim.eq_ ?_
  simp only [spec_l1Read.f]
  have m0 := @spec_l1Read.J0_lim
  exact li_
def spec_loRead.j0 : Nat → ByteArray → Int → Bool → Option (Int)
  | 0, _, _, _ => none
  | k + 1, a, b, c => if c = true then (if 1 ≤ (a.size : Int) then ((spec_l1Read.f k (a.extract 1 a.size)).bind fun t454 => ((spec_l1Int.f k (wrap64 (-t454))).bind fun t455 => (if t455.toList = a.toList then (some (wrap64 (-t454))) else (some 1000)))) else (none)) else ((spec_l1Int.f k b).bind fun t456 => (if t456.toList = a.toList then (some b) else (some 1000)))
def spec_loRead.f (k : Nat) (a0 : ByteArray) : Option (Int) := (spec_l1Read.f k a0).bind fun t453 => (if (a0.size : Int) > 1 then (if 0 < (a0.size : Int) then (spec_loRead.j0 k a0 t453 ((bt a0 0) == 45)) else (none)) else (spec_loRead.j0 k a0 t453 false))
theorem spec_loRead.mono_l : ∀ k, (∀ a b c, LeO (spec_loRead.j0 k a b c) (spec_loRead.j0 (k + 1) a b c))
  | 0 => fun _ _ _ => LeO.none _
  | k + 1 => by
    have ih0 := spec_loRead.mono_l k
    have m0 := @spec_l1Int.mono
    have m1 := @spec_l1Read.mono
    · intros; unfold spec_loRead.j0; exact mo_
theorem spec_loRead.mono : ∀ a0 k, LeO (spec_loRead.f k a0) (spec_loRead.f (k + 1) a0) := by
  intro a0 k
  have ih0 := spec_loRead.mono_l k
  unfold spec_loRead.f
  have m0 := @spec_l1Int.mono
  have m1 := @spec_l1Read.mono
  exact mo_
noncomputable def spec_loRead.J0 := fun a b c => lim fun k => spec_loRead.j0 k a b c
theorem spec_loRead.J0_lim a b c : Lim (fun k => spec_loRead.j0 k a b c) (spec_loRead.J0 a b c) := ⟨fun k => (spec_loRead.mono_l k) a b c, rfl⟩
noncomputable def spec_loRead.F := fun a => lim fun k => spec_loRead.f k a
theorem spec_loRead.F_lim a : Lim (fun k => spec_loRead.f k a) (spec_loRead.F a) := ⟨spec_loRead.mono a, rfl⟩
theorem spec_loRead.J0_eq a b c : spec_loRead.J0 a b c = (if c = true then (if 1 ≤ (a.size : Int) then ((spec_l1Read.F (a.extract 1 a.size)).bind fun t454 => ((spec_l1Int.F (wrap64 (-t454))).bind fun t455 => (if t455.toList = a.toList then (some (wrap64 (-t454))) else (some 1000)))) else (none)) else ((spec_l1Int.F b).bind fun t456 => (if t456.toList = a.toList then (some b) else (some 1000)))) := by
  refine Lim.succ_eq (spec_loRead.J0_lim ..).mon ?_
  simp only [spec_loRead.j0]
  have m0 := @spec_l1Int.F_lim
  have m1 := @spec_l1Read.F_lim
  exact li_
theorem spec_loRead.F_eq a0 : spec_loRead.F a0 = ((spec_l1Read.F a0).bind fun t453 => (if (a0.size : Int) > 1 then (if 0 < (a0.size : Int) then (spec_loRead.J0 a0 t453 ((bt a0 0) == 45)) else (none)) else (spec_loRead.J0 a0 t453 false))) := by
  refine Lim.eq_ ?_
  simp only [spec_loRead.f]
  have m0 := @spec_loRead.J0_lim
  have m1 := @spec_l1Read.F_lim
  exact li_
mutual
def spec_loMeans.j0 : Nat → List (S58) → Int → Int → Bool → Option (ByteArray × Bool)
  | 0, _, _, _, _ => none
  | k + 1, a, b, c, d => if d = true then (some ((⟨#[]⟩ : ByteArray), false)) else (spec_loMeans.l0 k b c a (a.length : Int) 0)
def spec_loMeans.l0 : Nat → Int → Int → List (S58) → Int → Int → Option (ByteArray × Bool)
  | 0, _, _, _, _, _ => none
  | k + 1, a, b, c, d, e => if e < d then (if 0 ≤ e then (if e < (c.length : Int) then ((spec_l1Abs.f (wrap64 (((rd_T58 c e).f1) - a))).bind fun t461 => (if t461 = b then (some ((rd_T58 c e).f0, true)) else (spec_loMeans.l0 k a b c d (wrap64 (e + 1))))) else (none)) else (none)) else (some ((⟨#[]⟩ : ByteArray), false))
end
def spec_loMeans.f (k : Nat) (l0 : List (S58)) (a1 : Int) : Option (ByteArray × Bool) := (spec_loLeast.f k l0 a1).bind fun bt457 => (if bt457.1 > 20 then (spec_loMeans.j0 k l0 a1 bt457.1 true) else (spec_loMeans.j0 k l0 a1 bt457.1 (bt457.2 != 1)))
theorem spec_loMeans.mono_l : ∀ k, (∀ a b c d, LeO (spec_loMeans.j0 k a b c d) (spec_loMeans.j0 (k + 1) a b c d)) ∧ (∀ a b c d e, LeO (spec_loMeans.l0 k a b c d e) (spec_loMeans.l0 (k + 1) a b c d e))
  | 0 => ⟨fun _ _ _ _ => LeO.none _, fun _ _ _ _ _ => LeO.none _⟩
  | k + 1 => by
    obtain ⟨ih0, ih1⟩ := spec_loMeans.mono_l k
    have m0 := @spec_loLeast.mono
    refine ⟨?_, ?_⟩
    · intros; unfold spec_loMeans.j0; exact mo_
    · intros; unfold spec_loMeans.l0; exact mo_
theorem spec_loMeans.mono : ∀ a0 a1 k, LeO (spec_loMeans.f k a0 a1) (spec_loMeans.f (k + 1) a0 a1) := by
  intro a0 a1 k
  obtain ⟨ih0, ih1⟩ := spec_loMeans.mono_l k
  unfold spec_loMeans.f
  have m0 := @spec_loLeast.mono
  exact mo_
noncomputable def spec_loMeans.J0 := fun a b c d => lim fun k => spec_loMeans.j0 k a b c d
theorem spec_loMeans.J0_lim a b c d : Lim (fun k => spec_loMeans.j0 k a b c d) (spec_loMeans.J0 a b c d) := ⟨fun k => (spec_loMeans.mono_l k).1 a b c d, rfl⟩
noncomputable def spec_loMeans.L0 := fun a b c d e => lim fun k => spec_loMeans.l0 k a b c d e
theorem spec_loMeans.L0_lim a b c d e : Lim (fun k => spec_loMeans.l0 k a b c d e) (spec_loMeans.L0 a b c d e) := ⟨fun k => (spec_loMeans.mono_l k).2 a b c d e, rfl⟩
noncomputable def spec_loMeans.F := fun a b => lim fun k => spec_loMeans.f k a b
theorem spec_loMeans.F_lim a b : Lim (fun k => spec_loMeans.f k a b) (spec_loMeans.F a b) := ⟨spec_loMeans.mono a b, rfl⟩
theorem spec_loMeans.J0_eq a b c d : spec_loMeans.J0 a b c d = (if d = true then (some ((⟨#[]⟩ : ByteArray), false)) else (spec_loMeans.L0 b c a (a.length : Int) 0)) := by
  refine Lim.succ_eq (spec_loMeans.J0_lim ..).mon ?_
  simp only [spec_loMeans.j0]
  have m0 := @spec_loMeans.L0_lim
  exact li_
theorem spec_loMeans.L0_eq a b c d e : spec_loMeans.L0 a b c d e = (if e < d then (if 0 ≤ e then (if e < (c.length : Int) then ((spec_l1Abs.f (wrap64 (((rd_T58 c e).f1) - a))).bind fun t461 => (if t461 = b then (some ((rd_T58 c e).f0, true)) else (spec_loMeans.L0 a b c d (wrap64 (e + 1))))) else (none)) else (none)) else (some ((⟨#[]⟩ : ByteArray), false))) := by
  refine Lim.succ_eq (spec_loMeans.L0_lim ..).mon ?_
  simp only [spec_loMeans.l0]
  have m0 := @spec_loMeans.L0_lim
  exact li_
theorem spec_loMeans.F_eq l0 a1 : spec_loMeans.F l0 a1 = ((spec_loLeast.F l0 a1).bind fun bt457 => (if bt457.1 > 20 then (spec_loMeans.J0 l0 a1 bt457.1 true) else (spec_loMeans.J0 l0 a1 bt457.1 (bt457.2 != 1)))) := by
  refine Lim.eq_ ?_
  simp only [spec_loMeans.f]
  have m0 := @spec_loMeans.J0_lim
  have m1 := @spec_loLeast.F_lim
  exact li_
def spec_RunPoints.l0 : Nat → List (S58) → List ByteArray → List ByteArray → Int → Int → Option (List ByteArray × Bool)
  | 0, _, _, _, _, _ => none
  | k + 1, a, b, c, d, e => if e < d then (if 0 ≤ e then (if e < (c.length : Int) then ((spec_loRead.f k (rdOf ByteArray.empty c e)).bind fun t467 => ((spec_loAngle.f t467).bind fun t468 => (if t468 = true then ((spec_loMeans.f k a t467).bind fun bt469 => (if bt469.2 = true then (if b.length < 8796093022208 then (spec_RunPoints.l0 k a (b ++ [bt469.1]) c d (wrap64 (e + 1))) else (none)) else (if b.length < 8796093022208 then (spec_RunPoints.l0 k a (b ++ [(⟨#[63]⟩ : ByteArray)]) c d (wrap64 (e + 1))) else (none)))) else (some (([] : List ByteArray), false))))) else (none)) else (none)) else (some (b, true))
def spec_RunPoints.f (k : Nat) (l0 : List (S58)) (a1 : ByteArray) : Option (List ByteArray × Bool) := (spec_loGood.f k l0).bind fun t462 => (if t462 = true then (if a1.toList = ([] : List UInt8) then (some (([] : List ByteArray), true)) else ((spec_l1Split.f k a1 32).bind fun t463 => (if (t463.length : Int) > 10 then (some (([] : List ByteArray), false)) else (spec_RunPoints.l0 k l0 ([] : List ByteArray) t463 (t463.length : Int) 0)))) else (some (([] : List ByteArray), false)))
theorem spec_RunPoints.mono_l : ∀ k, (∀ a b c d e, LeO (spec_RunPoints.l0 k a b c d e) (spec_RunPoints.l0 (k + 1) a b c d e))
  | 0 => fun _ _ _ _ _ => LeO.none _
  | k + 1 => by
    have ih0 := spec_RunPoints.mono_l k
    have m0 := @spec_l1Split.mono
    have m1 := @spec_loGood.mono
    have m2 := @spec_loMeans.mono
    have m3 := @spec_loRead.mono
    · intros; unfold spec_RunPoints.l0; exact mo_
theorem spec_RunPoints.mono : ∀ a0 a1 k, LeO (spec_RunPoints.f k a0 a1) (spec_RunPoints.f (k + 1) a0 a1) := by
  intro a0 a1 k
  have ih0 := spec_RunPoints.mono_l k
  unfold spec_RunPoints.f
  have m0 := @spec_l1Split.mono
  have m1 := @spec_loGood.mono
  have m2 := @spec_loMeans.mono
  have m3 := @spec_loRead.mono
  exact mo_
noncomputable def spec_RunPoints.L0 := fun a b c d e => lim fun k => spec_RunPoints.l0 k a b c d e
theorem spec_RunPoints.L0_lim a b c d e : Lim (fun k => spec_RunPoints.l0 k a b c d e) (spec_RunPoints.L0 a b c d e) := ⟨fun k => (spec_RunPoints.mono_l k) a b c d e, rfl⟩
noncomputable def spec_RunPoints.F := fun a b => lim fun k => spec_RunPoints.f k a b
theorem spec_RunPoints.F_lim a b : Lim (fun k => spec_RunPoints.f k a b) (spec_RunPoints.F a b) := ⟨spec_RunPoints.mono a b, rfl⟩
theorem spec_RunPoints.L0_eq a b c d e : spec_RunPoints.L0 a b c d e = (if e < d then (if 0 ≤ e then (if e < (c.length : Int) then ((spec_loRead.F (rdOf ByteArray.empty c e)).bind fun t467 => ((spec_loAngle.f t467).bind fun t468 => (if t468 = true then ((spec_loMeans.F a t467).bind fun bt469 => (if bt469.2 = true then (if b.length < 8796093022208 then (spec_RunPoints.L0 a (b ++ [bt469.1]) c d (wrap64 (e + 1))) else (none)) else (if b.length < 8796093022208 then (spec_RunPoints.L0 a (b ++ [(⟨#[63]⟩ : ByteArray)]) c d (wrap64 (e + 1))) else (none)))) else (some (([] : List ByteArray), false))))) else (none)) else (none)) else (some (b, true))) := by
  refine Lim.succ_eq (spec_RunPoints.L0_lim ..).mon ?_
  simp only [spec_RunPoints.l0]
  have m0 := @spec_RunPoints.L0_lim
  have m1 := @spec_loMeans.F_lim
  have m2 := @spec_loRead.F_lim
  exact li_
theorem spec_RunPoints.F_eq l0 a1 : spec_RunPoints.F l0 a1 = ((spec_loGood.F l0).bind fun t462 => (if t462 = true then (if a1.toList = ([] : List UInt8) then (some (([] : List ByteArray), true)) else ((spec_l1Split.F a1 32).bind fun t463 => (if (t463.length : Int) > 10 then (some (([] : List ByteArray), false)) else (spec_RunPoints.L0 l0 ([] : List ByteArray) t463 (t463.length : Int) 0)))) else (some (([] : List ByteArray), false)))) := by
  refine Lim.eq_ ?_
  simp only [spec_RunPoints.f]
  have m0 := @spec_RunPoints.L0_lim
  have m1 := @spec_l1Split.F_lim
  have m2 := @spec_loGood.F_lim
  exact li_
mutual
def spec_l1Cur_spoilt.l0 : Nat → ByteArray → ByteArray → Int → List Int → Int → Int → Option (ByteArray × Int × Int)
  | 0, _, _, _, _, _, _ => none
  | k + 1, a, b, c, d, e, f => if c > 0 then (spec_l1Cur_spoilt.j1 k a b c (decide ((a.size : Int) > 0)) d e f) else (spec_l1Cur_spoilt.j1 k a b c false d e f)
def spec_l1Cur_spoilt.j1 : Nat → ByteArray → ByteArray → Int → Bool → List Int → Int → Int → Option (ByteArray × Int × Int)
  | 0, _, _, _, _, _, _, _ => none
  | k + 1, a, b, c, d, e, f, g => if d = true then ((spec_l1Cur_pick.f e f g (a.size : Int)).bind fun bt480 => ((spec_l1Cur_pick.f e bt480.2.1 bt480.2.2 (b.size : Int)).bind fun bt483 => (if 0 ≤ bt483.1 then (if bt483.1 < (b.size : Int) then ((some (([bt b bt483.1] : List Int) : List Int)).bind fun y486 => ((spec_l1Cur_pick.f e bt483.2.1 bt483.2.2 3).bind fun bt489 => (if bt489.1 = 0 then (if 0 ≤ bt480.1 then (if bt480.1 ≤ (a.size : Int) then (if (a.extract 0 (bt480.1 : Int).toNat).size + (strOfNums y486).size ≤ 9223372036854775807 then (if ((a.extract 0 (bt480.1 : Int).toNat) ++ (strOfNums y486)).size + (a.extract (bt480.1 : Int).toNat a.size).size ≤ 9223372036854775807 then (spec_l1Cur_spoilt.l0 k (((a.extract 0 (bt480.1 : Int).toNat) ++ (strOfNums y486)) ++ (a.extract (bt480.1 : Int).toNat a.size)) b (wrap64 (c - 1)) e bt489.2.1 bt489.2.2) else (none)) else (none)) else (none)) else (none)) else (if bt489.1 = 1 then (if 0 ≤ bt480.1 then (if bt480.1 ≤ (a.size : Int) then (if (a.extract 0 (bt480.1 : Int).toNat).size + (strOfNums y486).size ≤ 9223372036854775807 then (if 0 ≤ (wrap64 (bt480.1 + 1)) then (if (wrap64 (bt480.1 + 1)) ≤ (a.size : Int) then (if ((a.extract 0 (bt480.1 : Int).toNat) ++ (strOfNums y486)).size + (a.extract ((wrap64 (bt480.1 + 1)) : Int).toNat a.size).size ≤ 9223372036854775807 then (spec_l1Cur_spoilt.l0 k (((a.extract 0 (bt480.1 : Int).toNat) ++ (strOfNums y486)) ++ (a.extract ((wrap64 (bt480.1 + 1)) : Int).toNat a.size)) b (wrap64 (c - 1)) e bt489.2.1 bt489.2.2) else (none)) else (none)) else (none)) else (none)) else (none)) else (none)) else (if 0 ≤ bt480.1 then (if bt480.1 ≤ (a.size : Int) then (if 0 ≤ (wrap64 (bt480.1 + 1)) then (if (wrap64 (bt480.1 + 1)) ≤ (a.size : Int) then (if (a.extract 0 (bt480.1 : Int).toNat).size + (a.extract ((wrap64 (bt480.1 + 1)) : Int).toNat a.size).size ≤ 9223372036854775807 then (spec_l1Cur_spoilt.l0 k ((a.extract 0 (bt480.1 : Int).toNat) ++ (a.extract ((wrap64 (bt480.1 + 1)) : Int).toNat a.size)) b (wrap64 (c - 1)) e bt489.2.1 bt489.2.2) else (none)) else (none)) else (none)) else (none)) else (none)))))) else (none)) else (none)))) else (some (a, f, g))
end
def spec_l1Cur_spoilt.f (k : Nat) (s0_0 : List Int) (s0_1 : Int) (s0_2 : Int) (a1 : ByteArray) (a2 : ByteArray) : Option (ByteArray × Int × Int) := (spec_l1Cur_pick.f s0_0 s0_1 s0_2 2).bind fun bt477 => (spec_l1Cur_spoilt.l0 k a1 a2 (wrap64 (1 + bt477.1)) s0_0 bt477.2.1 bt477.2.2)
theorem spec_l1Cur_spoilt.mono_l : ∀ k, (∀ a b c d e f, LeO (spec_l1Cur_spoilt.l0 k a b c d e f) (spec_l1Cur_spoilt.l0 (k + 1) a b c d e f)) ∧ (∀ a b c d e f g, LeO (spec_l1Cur_spoilt.j1 k a b c d e f g) (spec_l1Cur_spoilt.j1 (k + 1) a b c d e f g))
  | 0 => ⟨fun _ _ _ _ _ _ => LeO.none _, fun _ _ _ _ _ _ _ => LeO.none _⟩
  | k + 1 => by
    obtain ⟨ih0, ih1⟩ := spec_l1Cur_spoilt.mono_l k
    refine ⟨?_, ?_⟩
    · intros; unfold spec_l1Cur_spoilt.l0; exact mo_
    · intros; unfold spec_l1Cur_spoilt.j1; exact mo_
theorem spec_l1Cur_spoilt.mono : ∀ a0 a1 a2 a3 a4 k, LeO (spec_l1Cur_spoilt.f k a0 a1 a2 a3 a4) (spec_l1Cur_spoilt.f (k + 1) a0 a1 a2 a3 a4) := by
  intro a0 a1 a2 a3 a4 k
  obtain ⟨ih0, ih1⟩ := spec_l1Cur_spoilt.mono_l k
  unfold spec_l1Cur_spoilt.f
  exact mo_
noncomputable def spec_l1Cur_spoilt.L0 := fun a b c d e f => lim fun k => spec_l1Cur_spoilt.l0 k a b c d e f
theorem spec_l1Cur_spoilt.L0_lim a b c d e f : Lim (fun k => spec_l1Cur_spoilt.l0 k a b c d e f) (spec_l1Cur_spoilt.L0 a b c d e f) := ⟨fun k => (spec_l1Cur_spoilt.mono_l k).1 a b c d e f, rfl⟩
noncomputable def spec_l1Cur_spoilt.J1 := fun a b c d e f g => lim fun k => spec_l1Cur_spoilt.j1 k a b c d e f g
theorem spec_l1Cur_spoilt.J1_lim a b c d e f g : Lim (fun k => spec_l1Cur_spoilt.j1 k a b c d e f g) (spec_l1Cur_spoilt.J1 a b c d e f g) := ⟨fun k => (spec_l1Cur_spoilt.mono_l k).2 a b c d e f g, rfl⟩
noncomputable def spec_l1Cur_spoilt.F := fun a b c d e => lim fun k => spec_l1Cur_spoilt.f k a b c d e
theorem spec_l1Cur_spoilt.F_lim a b c d e : Lim (fun k => spec_l1Cur_spoilt.f k a b c d e) (spec_l1Cur_spoilt.F a b c d e) := ⟨spec_l1Cur_spoilt.mono a b c d e, rfl⟩
theorem spec_l1Cur_spoilt.L0_eq a b c d e f : spec_l1Cur_spoilt.L0 a b c d e f = (if c > 0 then (spec_l1Cur_spoilt.J1 a b c (decide ((a.size : Int) > 0)) d e f) else (spec_l1Cur_spoilt.J1 a b c false d e f)) := by
  refine Lim.succ_eq (spec_l1Cur_spoilt.L0_lim ..).mon ?_
  simp only [spec_l1Cur_spoilt.l0]
  have m0 := @spec_l1Cur_spoilt.J1_lim
  exact li_
theorem spec_l1Cur_spoilt.J1_eq a b c d e f g : spec_l1Cur_spoilt.J1 a b c d e f g = (if d = true then ((spec_l1Cur_pick.f e f g (a.size : Int)).bind fun bt480 => ((spec_l1Cur_pick.f e bt480.2.1 bt480.2.2 (b.size : Int)).bind fun bt483 => (if 0 ≤ bt483.1 then (if bt483.1 < (b.size : Int) then ((some (([bt b bt483.1] : List Int) : List Int)).bind fun y486 => ((spec_l1Cur_pick.f e bt483.2.1 bt483.2.2 3).bind fun bt489 => (if bt489.1 = 0 then (if 0 ≤ bt480.1 then (if bt480.1 ≤ (a.size : Int) then (if (a.extract 0 (bt480.1 : Int).toNat).size + (strOfNums y486).size ≤ 9223372036854775807 then (if ((a.extract 0 (bt480.1 : Int).toNat) ++ (strOfNums y486)).size + (a.extract (bt480.1 : Int).toNat a.size).size ≤ 9223372036854775807 then (spec_l1Cur_spoilt.L0 (((a.extract 0 (bt480.1 : Int).toNat) ++ (strOfNums y486)) ++ (a.extract (bt480.1 : Int).toNat a.size)) b (wrap64 (c - 1)) e bt489.2.1 bt489.2.2) else (none)) else (none)) else (none)) else (none)) else (if bt489.1 = 1 then (if 0 ≤ bt480.1 then (if bt480.1 ≤ (a.size : Int) then (if (a.extract 0 (bt480.1 : Int).toNat).size + (strOfNums y486).size ≤ 9223372036854775807 then (if 0 ≤ (wrap64 (bt480.1 + 1)) then (if (wrap64 (bt480.1 + 1)) ≤ (a.size : Int) then (if ((a.extract 0 (bt480.1 : Int).toNat) ++ (strOfNums y486)).size + (a.extract ((wrap64 (bt480.1 + 1)) : Int).toNat a.size).size ≤ 9223372036854775807 then (spec_l1Cur_spoilt.L0 (((a.extract 0 (bt480.1 : Int).toNat) ++ (strOfNums y486)) ++ (a.extract ((wrap64 (bt480.1 + 1)) : Int).toNat a.size)) b (wrap64 (c - 1)) e bt489.2.1 bt489.2.2) else (none)) else (none)) else (none)) else (none)) else (none)) else (none)) else (if 0 ≤ bt480.1 then (if bt480.1 ≤ (a.size : Int) then (if 0 ≤ (wrap64 (bt480.1 + 1)) then (if (wrap64 (bt480.1 + 1)) ≤ (a.size : Int) then (if (a.extract 0 (bt480.1 : Int).toNat).size + (a.extract ((wrap64 (bt480.1 + 1)) : Int).toNat a.size).size ≤ 9223372036854775807 then (spec_l1Cur_spoilt.L0 ((a.extract 0 (bt480.1 : Int).toNat) ++ (a.extract ((wrap64 (bt480.1 + 1)) : Int).toNat a.size)) b (wrap64 (c - 1)) e bt489.2.1 bt489.2.2) else (none)) else (none)) else (none)) else (none)) else (none)))))) else (none)) else (none)))) else (some (a, f, g))) := by
  refine Lim.succ_eq (spec_l1Cur_spoilt.J1_lim ..).mon ?_
  simp only [spec_l1Cur_spoilt.j1]
  have m0 := @spec_l1Cur_spoilt.L0_lim
  exact li_
theorem spec_l1Cur_spoilt.F_eq s0_0 s0_1 s0_2 a1 a2 : spec_l1Cur_spoilt.F s0_0 s0_1 s0_2 a1 a2 = ((spec_l1Cur_pick.f s0_0 s0_1 s0_2 2).bind fun bt477 => (spec_l1Cur_spoilt.L0 a1 a2 (wrap64 (1 + bt477.1)) s0_0 bt477.2.1 bt477.2.2)) := by
  refine Lim.eq_ ?_
  simp only [spec_l1Cur_spoilt.f]
  have m0 := @spec_l1Cur_spoilt.L0_lim
  exact li_
mutual
def spec_DrawParseLoci.j0 : Nat → ByteArray → List Int → Int → Int → Option (ByteArray)
  | 0, _, _, _, _ => none
  | k + 1, a, b, c, d => (spec_l1Cur_pick.f b c d 5).bind fun bt500 => (if bt500.1 = 0 then (spec_DrawParseLoci.j1 k a bt500.1 (bt500.1 == 0) b bt500.2.1 bt500.2.2) else (spec_DrawParseLoci.j1 k a bt500.1 (bt500.1 == 1) b bt500.2.1 bt500.2.2))
def spec_DrawParseLoci.j1 : Nat → ByteArray → Int → Bool → List Int → Int → Int → Option (ByteArray)
  | 0, _, _, _, _, _, _ => none
  | k + 1, a, b, c, d, e, f => if c = true then ((spec_l1Cur_spoilt.f k d e f a (⟨#[64, 59, 45, 48, 49, 97]⟩ : ByteArray)).bind fun bt503 => (some bt503.1)) else (if b = 2 then ((spec_l1Cur_of.f d e f (([(⟨#[]⟩ : ByteArray), (⟨#[59]⟩ : ByteArray), (⟨#[109, 97, 114, 121, 64, 45, 52, 48]⟩ : ByteArray), (⟨#[109, 97, 114, 121, 64, 57, 49, 59]⟩ : ByteArray), (⟨#[109, 97, 114, 121, 64, 45, 48, 59]⟩ : ByteArray), (⟨#[106, 111, 104, 110, 64, 51, 48, 59, 109, 97, 114, 121, 64, 45, 52, 48, 59]⟩ : ByteArray), (⟨#[109, 97, 114, 121, 64, 49, 59, 109, 97, 114, 121, 64, 50, 59]⟩ : ByteArray), (⟨#[109, 97, 114, 121, 64, 48, 49, 59]⟩ : ByteArray)] : List ByteArray))).bind fun bt509 => (some bt509.1)) else (some a))
end
def spec_DrawParseLoci.f (k : Nat) (l0 : List Int) : Option (ByteArray) := (spec_l1Cur_loci.f k l0 0 0).bind fun bt493 => ((spec_loGood.f k bt493.1).bind fun t498 => (if t498 = true then ((spec_loText.f k bt493.1).bind fun t499 => (spec_DrawParseLoci.j0 k t499 l0 bt493.2.1 bt493.2.2)) else (spec_DrawParseLoci.j0 k (⟨#[109, 97, 114, 121, 64, 45, 52, 48, 59, 106, 111, 104, 110, 64, 51, 48, 59]⟩ : ByteArray) l0 bt493.2.1 bt493.2.2)))
theorem spec_DrawParseLoci.mono_l : ∀ k, (∀ a b c d, LeO (spec_DrawParseLoci.j0 k a b c d) (spec_DrawParseLoci.j0 (k + 1) a b c d)) ∧ (∀ a b c d e f, LeO (spec_DrawParseLoci.j1 k a b c d e f) (spec_DrawParseLoci.j1 (k + 1) a b c d e f))
  | 0 => ⟨fun _ _ _ _ => LeO.none _, fun _ _ _ _ _ _ => LeO.none _⟩
  | k + 1 => by
    obtain ⟨ih0, ih1⟩ := spec_DrawParseLoci.mono_l k
    have m0 := @spec_l1Cur_loci.mono
    have m1 := @spec_l1Cur_spoilt.mono
    have m2 := @spec_loGood.mono
    have m3 := @spec_loText.mono
    refine ⟨?_, ?_⟩
    · intros; unfold spec_DrawParseLoci.j0; exact mo_
    · intros; unfold spec_DrawParseLoci.j1; exact mo_
theorem spec_DrawParseLoci.mono : ∀ a0 k, LeO (spec_DrawParseLoci.f k a0) (spec_DrawParseLoci.f (k + 1) a0) := by
  intro a0 k
  obtain ⟨ih0, ih1⟩ := spec_DrawParseLoci.mono_l k
  unfold spec_DrawParseLoci.f
  have m0 := @spec_l1Cur_loci.mono
  have m1 := @spec_l1Cur_spoilt.mono
  have m2 := @spec_loGood.mono
  have m3 := @spec_loText.mono
  exact mo_
noncomputable def spec_DrawParseLoci.J0 := fun a b c d => lim fun k => spec_DrawParseLoci.j0 k a b c d
theorem spec_DrawParseLoci.J0_lim a b c d : Lim (fun k => spec_DrawParseLoci.j0 k a b c d) (spec_DrawParseLoci.J0 a b c d) := ⟨fun k => (spec_DrawParseLoci.mono_l k).1 a b c d, rfl⟩
noncomputable def spec_DrawParseLoci.J1 := fun a b c d e f => lim fun k => spec_DrawParseLoci.j1 k a b c d e f
theorem spec_DrawParseLoci.J1_lim a b c d e f : Lim (fun k => spec_DrawParseLoci.j1 k a b c d e f) (spec_DrawParseLoci.J1 a b c d e f) := ⟨fun k => (spec_DrawParseLoci.mono_l k).2 a b c d e f, rfl⟩
noncomputable def spec_DrawParseLoci.F := fun a => lim fun k => spec_DrawParseLoci.f k a
theorem spec_DrawParseLoci.F_lim a : Lim (fun k => spec_DrawParseLoci.f k a) (spec_DrawParseLoci.F a) := ⟨spec_DrawParseLoci.mono a, rfl⟩
theorem spec_DrawParseLoci.J0_eq a b c d : spec_DrawParseLoci.J0 a b c d = ((spec_l1Cur_pick.f b c d 5).bind fun bt500 => (if bt500.1 = 0 then (spec_DrawParseLoci.J1 a bt500.1 (bt500.1 == 0) b bt500.2.1 bt500.2.2) else (spec_DrawParseLoci.J1 a bt500.1 (bt500.1 == 1) b bt500.2.1 bt500.2.2))) := by
  refine Lim.succ_eq (spec_DrawParseLoci.J0_lim ..).mon ?_
  simp only [spec_DrawParseLoci.j0]
  have m0 := @spec_DrawParseLoci.J1_lim
  exact li_
theorem spec_DrawParseLoci.J1_eq a b c d e f : spec_DrawParseLoci.J1 a b c d e f = (if c = true then ((spec_l1Cur_spoilt.F d e f a (⟨#[64, 59, 45, 48, 49, 97]⟩ : ByteArray)).bind fun bt503 => (some bt503.1)) else (if b = 2 then ((spec_l1Cur_of.f d e f (([(⟨#[]⟩ : ByteArray), (⟨#[59]⟩ : ByteArray), (⟨#[109, 97, 114, 121, 64, 45, 52, 48]⟩ : ByteArray), (⟨#[109, 97, 114, 121, 64, 57, 49, 59]⟩ : ByteArray), (⟨#[109, 97, 114, 121, 64, 45, 48, 59]⟩ : ByteArray), (⟨#[106, 111, 104, 110, 64, 51, 48, 59, 109, 97, 114, 121, 64, 45, 52, 48, 59]⟩ : ByteArray), (⟨#[109, 97, 114, 121, 64, 49, 59, 109, 97, 114, 121, 64, 50, 59]⟩ : ByteArray), (⟨#[109, 97, 114, 121, 64, 48, 49, 59]⟩ : ByteArray)] : List ByteArray))).bind fun bt509 => (some bt509.1)) else (some a))) := by
  refine Lim.succ_eq (spec_DrawParseLoci.J1_lim ..).mon ?_
  simp only [spec_DrawParseLoci.j1]
  have m0 := @spec_l1Cur_spoilt.F_lim
  exact li_
theorem spec_DrawParseLoci.F_eq l0 : spec_DrawParseLoci.F l0 = ((spec_l1Cur_loci.F l0 0 0).bind fun bt493 => ((spec_loGood.F bt493.1).bind fun t498 => (if t498 = true then ((spec_loText.F bt493.1).bind fun t499 => (spec_DrawParseLoci.J0 t499 l0 bt493.2.1 bt493.2.2)) else (spec_DrawParseLoci.J0 (⟨#[109, 97, 114, 121, 64, 45, 52, 48, 59, 106, 111, 104, 110, 64, 51, 48, 59]⟩ : ByteArray) l0 bt493.2.1 bt493.2.2)))) := by
  refine Lim.eq_ ?_
  simp only [spec_DrawParseLoci.f]
  have m0 := @spec_DrawParseLoci.J0_lim
  have m1 := @spec_l1Cur_loci.F_lim
  have m2 := @spec_loGood.F_lim
  have m3 := @spec_loText.F_lim
  exact li_
def spec_ParseLoci.l0 : Nat → ByteArray → List (S58) → List ByteArray → Int → Int → Option ((List (S58)) × Bool)
  | 0, _, _, _, _, _ => none
  | k + 1, a, b, c, d, e => if e < d then (if 0 ≤ e then (if e < (c.length : Int) then ((spec_l1Split.f k (rdOf ByteArray.empty c e) 64).bind fun t519 => (if (t519.length : Int) = 2 then (if 0 < (t519.length : Int) then (if 1 < (t519.length : Int) then ((spec_loRead.f k (rdOf ByteArray.empty t519 1)).bind fun t524 => (if b.length < 5864062014805 then (spec_ParseLoci.l0 k a (b ++ [(⟨rdOf ByteArray.empty t519 0, t524⟩ : S58)]) c d (wrap64 (e + 1))) else (none))) else (none)) else (none)) else (some (([] : List (S58)), false)))) else (none)) else (none)) else ((spec_loGood.f k b).bind fun t528 => (if t528 = true then ((spec_loText.f k b).bind fun t529 => (if t529.toList = a.toList then (some (b, true)) else (some (([] : List (S58)), false)))) else (some (([] : List (S58)), false))))
def spec_ParseLoci.f (k : Nat) (a0 : ByteArray) : Option ((List (S58)) × Bool) := (spec_l1Split.f k a0 59).bind fun t512 => (if (t512.length : Int) > 9 then (some (([] : List (S58)), false)) else (if 0 ≤ (wrap64 ((t512.length : Int) - 1)) then (if (wrap64 ((t512.length : Int) - 1)) ≤ (t512.length : Int) then ((some (t512.take ((wrap64 ((t512.length : Int) - 1)) : Int).toNat : List ByteArray)).bind fun y515 => (spec_ParseLoci.l0 k a0 ([] : List (S58)) y515 (y515.length : Int) 0)) else (none)) else (none)))
theorem spec_ParseLoci.mono_l : ∀ k, (∀ a b c d e, LeO (spec_ParseLoci.l0 k a b c d e) (spec_ParseLoci.l0 (k + 1) a b c d e))
  | 0 => fun _ _ _ _ _ => LeO.none _
  | k + 1 => by
    have ih0 := spec_ParseLoci.mono_l k
    have m0 := @spec_l1Split.mono
    have m1 := @spec_loGood.mono
    have m2 := @spec_loRead.mono
    have m3 := @spec_loText.mono
    · intros; unfold spec_ParseLoci.l0; exact mo_
theorem spec_ParseLoci.mono : ∀ a0 k, LeO (spec_ParseLoci.f k a0) (spec_ParseLoci.f (k + 1) a0) := by
  intro a0 k
  have ih0 := spec_ParseLoci.mono_l k
  unfold spec_ParseLoci.f
  have m0 := @spec_l1Split.mono
  have m1 := @spec_loGood.mono
  have m2 := @spec_loRead.mono
  have m3 := @spec_loText.mono
  exact mo_
noncomputable def spec_ParseLoci.L0 := fun a b c d e => lim fun k => spec_ParseLoci.l0 k a b c d e
theorem spec_ParseLoci.L0_lim a b c d e : Lim (fun k => spec_ParseLoci.l0 k a b c d e) (spec_ParseLoci.L0 a b c d e) := ⟨fun k => (spec_ParseLoci.mono_l k) a b c d e, rfl⟩
noncomputable def spec_ParseLoci.F := fun a => lim fun k => spec_ParseLoci.f k a
theorem spec_ParseLoci.F_lim a : Lim (fun k => spec_ParseLoci.f k a) (spec_ParseLoci.F a) := ⟨spec_ParseLoci.mono a, rfl⟩
theorem spec_ParseLoci.L0_eq a b c d e : spec_ParseLoci.L0 a b c d e = (if e < d then (if 0 ≤ e then (if e < (c.length : Int) then ((spec_l1Split.F (rdOf ByteArray.empty c e) 64).bind fun t519 => (if (t519.length : Int) = 2 then (if 0 < (t519.length : Int) then (if 1 < (t519.length : Int) then ((spec_loRead.F (rdOf ByteArray.empty t519 1)).bind fun t524 => (if b.length < 5864062014805 then (spec_ParseLoci.L0 a (b ++ [(⟨rdOf ByteArray.empty t519 0, t524⟩ : S58)]) c d (wrap64 (e + 1))) else (none))) else (none)) else (none)) else (some (([] : List (S58)), false)))) else (none)) else (none)) else ((spec_loGood.F b).bind fun t528 => (if t528 = true then ((spec_loText.F b).bind fun t529 => (if t529.toList = a.toList then (some (b, true)) else (some (([] : List (S58)), false)))) else (some (([] : List (S58)), false))))) := by
  refine Lim.succ_eq (spec_ParseLoci.L0_lim ..).mon ?_
  simp only [spec_ParseLoci.l0]
  have m0 := @spec_ParseLoci.L0_lim
  have m1 := @spec_l1Split.F_lim
  have m2 := @spec_loGood.F_lim
  have m3 := @spec_loRead.F_lim
  have m4 := @spec_loText.F_lim
  exact li_
theorem spec_ParseLoci.F_eq a0 : spec_ParseLoci.F a0 = ((spec_l1Split.F a0 59).bind fun t512 => (if (t512.length : Int) > 9 then (some (([] : List (S58)), false)) else (if 0 ≤ (wrap64 ((t512.length : Int) - 1)) then (if (wrap64 ((t512.length : Int) - 1)) ≤ (t512.length : Int) then ((some (t512.take ((wrap64 ((t512.length : Int) - 1)) : Int).toNat : List ByteArray)).bind fun y515 => (spec_ParseLoci.L0 a0 ([] : List (S58)) y515 (y515.length : Int) 0)) else (none)) else (none)))) := by
  refine Lim.eq_ ?_
  simp only [spec_ParseLoci.f]
  have m0 := @spec_ParseLoci.L0_lim
  have m1 := @spec_l1Split.F_lim
  exact li_
def laws_pSameTexts.l0 : Nat → List ByteArray → List ByteArray → Int → Int → Option (Bool)
  | 0, _, _, _, _ => none
  | k + 1, a, b, c, d => if d < c then (if 0 ≤ d then (if d < (a.length : Int) then (if d < (b.length : Int) then (if (rdOf ByteArray.empty a d).toList = (rdOf ByteArray.empty b d).toList then (laws_pSameTexts.l0 k a b c (wrap64 (d + 1))) else (some false)) else (none)) else (none)) else (none)) else (some true)
def laws_pSameTexts.f (k : Nat) (l0 : List ByteArray) (l1 : List ByteArray) : Option (Bool) := if (l0.length : Int) = (l1.length : Int) then (laws_pSameTexts.l0 k l0 l1 (l0.length : Int) 0) else (some false)
theorem laws_pSameTexts.mono_l : ∀ k, (∀ a b c d, LeO (laws_pSameTexts.l0 k a b c d) (laws_pSameTexts.l0 (k + 1) a b c d))
  | 0 => fun _ _ _ _ => LeO.none _
  | k + 1 => by
    have ih0 := laws_pSameTexts.mono_l k
    · intros; unfold laws_pSameTexts.l0; exact mo_
theorem laws_pSameTexts.mono : ∀ a0 a1 k, LeO (laws_pSameTexts.f k a0 a1) (laws_pSameTexts.f (k + 1) a0 a1) := by
  intro a0 a1 k
  have ih0 := laws_pSameTexts.mono_l k
  unfold laws_pSameTexts.f
  exact mo_
noncomputable def laws_pSameTexts.L0 := fun a b c d => lim fun k => laws_pSameTexts.l0 k a b c d
theorem laws_pSameTexts.L0_lim a b c d : Lim (fun k => laws_pSameTexts.l0 k a b c d) (laws_pSameTexts.L0 a b c d) := ⟨fun k => (laws_pSameTexts.mono_l k) a b c d, rfl⟩
noncomputable def laws_pSameTexts.F := fun a b => lim fun k => laws_pSameTexts.f k a b
theorem laws_pSameTexts.F_lim a b : Lim (fun k => laws_pSameTexts.f k a b) (laws_pSameTexts.F a b) := ⟨laws_pSameTexts.mono a b, rfl⟩
theorem laws_pSameTexts.L0_eq a b c d : laws_pSameTexts.L0 a b c d = (if d < c then (if 0 ≤ d then (if d < (a.length : Int) then (if d < (b.length : Int) then (if (rdOf ByteArray.empty a d).toList = (rdOf ByteArray.empty b d).toList then (laws_pSameTexts.L0 a b c (wrap64 (d + 1))) else (some false)) else (none)) else (none)) else (none)) else (some true)) := by
  refine Lim.succ_eq (laws_pSameTexts.L0_lim ..).mon ?_
  simp only [laws_pSameTexts.l0]
  have m0 := @laws_pSameTexts.L0_lim
  exact li_
theorem laws_pSameTexts.F_eq l0 l1 : laws_pSameTexts.F l0 l1 = (if (l0.length : Int) = (l1.length : Int) then (laws_pSameTexts.L0 l0 l1 (l0.length : Int) 0) else (some false)) := by
  refine Lim.eq_ ?_
  simp only [laws_pSameTexts.f]
  have m0 := @laws_pSameTexts.L0_lim
  exact li_
mutual
def laws_FnPoints.j0 : Nat → List Int → List (S58) → Bool → List Int → Int → Int → List (S58) → List (S58) → ByteArray → Bool → Option (Bool)
  | 0, _, _, _, _, _, _, _, _, _, _ => none
  | k + 1, a, b, c, d, e, f, g, h, i, j => if j = true then (some false) else (if c = true then (laws_FnPoints.l0 k a b e f g h i d (d.length : Int) 0) else (laws_FnPoints.j5 k a))
def laws_FnPoints.j5 : Nat → List Int → Option (Bool)
  | 0, _ => none
  | k + 1, a => (spec_DrawRunPoints.f k a).bind fun bt580 => ((impl_RunPoints.f k bt580.1 bt580.2).bind fun bt584 => ((spec_RunPoints.f k bt580.1 bt580.2).bind fun bt588 => ((spec_DrawParseLoci.f k a).bind fun t592 => ((impl_ParseLoci.f k t592).bind fun bt593 => ((spec_ParseLoci.f k t592).bind fun bt597 => (if (bt584.2 != bt588.2) = true then (laws_FnPoints.j6 k bt580.1 bt588.1 true) else ((laws_pSameTexts.f k bt584.1 bt588.1).bind fun t601 => (if t601 = true then (if (bt593.2 != bt597.2) = true then (laws_FnPoints.j6 k bt580.1 bt588.1 true) else ((laws_pSameLoci.f k bt593.1 bt597.1).bind fun t602 => (laws_FnPoints.j6 k bt580.1 bt588.1 (!t602)))) else (laws_FnPoints.j6 k bt580.1 bt588.1 true)))))))))
def laws_FnPoints.j6 : Nat → List (S58) → List ByteArray → Bool → Option (Bool)
  | 0, _, _, _ => none
  | k + 1, a, b, c => if c = true then (some false) else (laws_FnPoints.l3 k a b (b.length : Int) 0)
def laws_FnPoints.l3 : Nat → List (S58) → List ByteArray → Int → Int → Option (Bool)
  | 0, _, _, _, _ => none
  | k + 1, a, b, c, d => if d < c then (if 0 ≤ d then (if d < (b.length : Int) then (laws_FnPoints.l4 k a (rdOf ByteArray.empty b d) ((rdOf ByteArray.empty b d).toList == ([63] : List UInt8)) b c d a (a.length : Int) 0) else (none)) else (none)) else (some true)
def laws_FnPoints.l4 : Nat → List (S58) → ByteArray → Bool → List ByteArray → Int → Int → List (S58) → Int → Int → Option (Bool)
  | 0, _, _, _, _, _, _, _, _, _ => none
  | k + 1, a, b, c, d, e, f, g, h, i => if i < h then (if 0 ≤ i then (if i < (g.length : Int) then (if c = true then (laws_FnPoints.l4 k a b true d e f g h (wrap64 (i + 1))) else (laws_FnPoints.l4 k a b (((rd_T58 g i).f0).toList == b.toList) d e f g h (wrap64 (i + 1)))) else (none)) else (none)) else (if c = true then (laws_FnPoints.l3 k a d e (wrap64 (f + 1))) else (some false))
def laws_FnPoints.l0 : Nat → List Int → List (S58) → Int → Int → List (S58) → List (S58) → ByteArray → List Int → Int → Int → Option (Bool)
  | 0, _, _, _, _, _, _, _, _, _, _ => none
  | k + 1, a, b, c, d, e, f, g, h, i, j => if j < i then (if 0 ≤ j then (if j < (h.length : Int) then ((impl_PointsAt.f k b (rd h j)).bind fun bt566 => (if bt566.2 = true then (some false) else (laws_FnPoints.l0 k a b c d e f g h i (wrap64 (j + 1))))) else (none)) else (none)) else (laws_FnPoints.l1 k a b c d e f g b (b.length : Int) 0)
def laws_FnPoints.l1 : Nat → List Int → List (S58) → Int → Int → List (S58) → List (S58) → ByteArray → List (S58) → Int → Int → Option (Bool)
  | 0, _, _, _, _, _, _, _, _, _, _ => none
  | k + 1, a, b, c, d, e, f, g, h, i, j => if j < i then (if 0 ≤ j then (if j < (h.length : Int) then ((laws_pAbs.f (wrap64 (((rd_T58 h j).f1) - c))).bind fun t570 => (if t570 < d then (some false) else (laws_FnPoints.l1 k a b c d e f g h i (wrap64 (j + 1))))) else (none)) else (none)) else ((impl_ParseLoci.f k g).bind fun bt571 => ((impl_AreLoci.f k e).bind fun t575 => (if t575 = true then (if (f.length : Int) = (b.length : Int) then (if bt571.2 = true then ((laws_pSameLoci.f k bt571.1 b).bind fun t576 => (laws_FnPoints.j3 k a b f (!t576))) else (laws_FnPoints.j3 k a b f true)) else (laws_FnPoints.j3 k a b f true)) else (laws_FnPoints.j3 k a b f true))))
def laws_FnPoints.j3 : Nat → List Int → List (S58) → List (S58) → Bool → Option (Bool)
  | 0, _, _, _, _ => none
  | k + 1, a, b, c, d => if d = true then (some false) else (laws_FnPoints.l2 k a b c (c.length : Int) 0)
def laws_FnPoints.l2 : Nat → List Int → List (S58) → List (S58) → Int → Int → Option (Bool)
  | 0, _, _, _, _, _ => none
  | k + 1, a, b, c, d, e => if e < d then (if 0 ≤ e then (if e < (c.length : Int) then (if e < (b.length : Int) then (if ((rd_T58 c e).f0).toList = ((rd_T58 b e).f0).toList then (laws_FnPoints.l2 k a b c d (wrap64 (e + 1))) else (some false)) else (none)) else (none)) else (none)) else (laws_FnPoints.j5 k a)
end
def laws_FnPoints.f (k : Nat) (l0 : List Int) (l1 : List Int) : Option (Bool) := (laws_big.f l0 l1).bind fun t532 => (if t532 = true then (some true) else ((spec_DrawAmbiguousAngles.f k l0).bind fun t533 => ((impl_AmbiguousAngles.f k t533).bind fun bt536 => ((spec_AmbiguousAngles.f k t533).bind fun bt540 => ((impl_BestAngle.f k t533).bind fun bt544 => ((spec_BestAngle.f k t533).bind fun bt547 => ((impl_SpreadLoci.f k t533).bind fun bt550 => ((spec_SpreadLoci.f k t533).bind fun bt554 => ((impl_LociText.f k t533).bind fun bt558 => ((spec_LociText.f k t533).bind fun bt560 => (if (bt536.2 != bt540.2) = true then (laws_FnPoints.j0 k l1 t533 bt536.2 bt540.1 bt547.1 bt547.2.1 bt550.1 bt554.1 bt558.1 true) else ((laws_sameInts.f k bt536.1 bt540.1).bind fun t562 => (if t562 = true then (if (bt544.2.2 != bt547.2.2) = true then (laws_FnPoints.j0 k l1 t533 bt536.2 bt540.1 bt547.1 bt547.2.1 bt550.1 bt554.1 bt558.1 true) else (if bt544.1 = bt547.1 then (if bt544.2.1 = bt547.2.1 then (if (bt550.2 != bt554.2) = true then (laws_FnPoints.j0 k l1 t533 bt536.2 bt540.1 bt547.1 bt547.2.1 bt550.1 bt554.1 bt558.1 true) else ((laws_pSameLoci.f k bt550.1 bt554.1).bind fun t563 => (if t563 = true then (if (bt558.2 != bt560.2) = true then (laws_FnPoints.j0 k l1 t533 bt536.2 bt540.1 bt547.1 bt547.2.1 bt550.1 bt554.1 bt558.1 true) else (if bt558.1.toList = bt560.1.toList then ((impl_AreLoci.f k t533).bind fun t564 => (if (bt536.2 != t564) = true then (laws_FnPoints.j0 k l1 t533 bt536.2 bt540.1 bt547.1 bt547.2.1 bt550.1 bt554.1 bt558.1 true) else (if (bt544.2.2 != bt536.2) = true then (laws_FnPoints.j0 k l1 t533 bt536.2 bt540.1 bt547.1 bt547.2.1 bt550.1 bt554.1 bt558.1 true) else (if (bt550.2 != bt536.2) = true then (laws_FnPoints.j0 k l1 t533 bt536.2 bt540.1 bt547.1 bt547.2.1 bt550.1 bt554.1 bt558.1 true) else (laws_FnPoints.j0 k l1 t533 bt536.2 bt540.1 bt547.1 bt547.2.1 bt550.1 bt554.1 bt558.1 (bt558.2 != bt536.2)))))) else (laws_FnPoints.j0 k l1 t533 bt536.2 bt540.1 bt547.1 bt547.2.1 bt550.1 bt554.1 bt558.1 true))) else (laws_FnPoints.j0 k l1 t533 bt536.2 bt540.1 bt547.1 bt547.2.1 bt550.1 bt554.1 bt558.1 true)))) else (laws_FnPoints.j0 k l1 t533 bt536.2 bt540.1 bt547.1 bt547.2.1 bt550.1 bt554.1 bt558.1 true)) else (laws_FnPoints.j0 k l1 t533 bt536.2 bt540.1 bt547.1 bt547.2.1 bt550.1 bt554.1 bt558.1 true))) else (laws_FnPoints.j0 k l1 t533 bt536.2 bt540.1 bt547.1 bt547.2.1 bt550.1 bt554.1 bt558.1 true))))))))))))))
theorem laws_FnPoints.mono_l : ∀ k, (∀ a b c d e f g h i j, LeO (laws_FnPoints.j0 k a b c d e f g h i j) (laws_FnPoints.j0 (k + 1) a b c d e f g h i j)) ∧ (∀ a, LeO (laws_FnPoints.j5 k a) (laws_FnPoints.j5 (k + 1) a)) ∧ (∀ a b c, LeO (laws_FnPoints.j6 k a b c) (laws_FnPoints.j6 (k + 1) a b c)) ∧ (∀ a b c d, LeO (laws_FnPoints.l3 k a b c d) (laws_FnPoints.l3 (k + 1) a b c d)) ∧ (∀ a b c d e f g h i, LeO (laws_FnPoints.l4 k a b c d e f g h i) (laws_FnPoints.l4 (k + 1) a b c d e f g h i)) ∧ (∀ a b c d e f g h i j, LeO (laws_FnPoints.l0 k a b c d e f g h i j) (laws_FnPoints.l0 (k + 1) a b c d e f g h i j)) ∧ (∀ a b c d e f g h i j, LeO (laws_FnPoints.l1 k a b c d e f g h i j) (laws_FnPoints.l1 (k + 1) a b c d e f g h i j)) ∧ (∀ a b c d, LeO (laws_FnPoints.j3 k a b c d) (laws_FnPoints.j3 (k + 1) a b c d)) ∧ (∀ a b c d e, LeO (laws_FnPoints.l2 k a b c d e) (laws_FnPoints.l2 (k + 1) a b c d e))
  | 0 => ⟨fun _ _ _ _ _ _ _ _ _ _ => LeO.none _, fun _ => LeO.none _, fun _ _ _ => LeO.none _, fun _ _ _ _ => LeO.none _, fun _ _ _ _ _ _ _ _ _ => LeO.none _, fun _ _ _ _ _ _ _ _ _ _ => LeO.none _, fun _ _ _ _ _ _ _ _ _ _ => LeO.none _, fun _ _ _ _ => LeO.none _, fun _ _ _ _ _ => LeO.none _⟩
  | k + 1 => by
    obtain ⟨ih0, ih1, ih2, ih3, ih4, ih5, ih6, ih7, ih8⟩ := laws_FnPoints.mono_l k
    have m0 := @impl_AmbiguousAngles.mono
    have m1 := @impl_AreLoci.mono
    have m2 := @impl_BestAngle.mono
    have m3 := @impl_LociText.mono
    have m4 := @impl_ParseLoci.mono
    have m5 := @impl_PointsAt.mono
    have m6 := @impl_RunPoints.mono
    have m7 := @impl_SpreadLoci.mono
    have m8 := @laws_pSameLoci.mono
    have m9 := @laws_pSameTexts.mono
    have m10 := @laws_sameInts.mono
    have m11 := @spec_AmbiguousAngles.mono
    have m12 := @spec_BestAngle.mono
    have m13 := @spec_DrawAmbiguousAngles.mono
    have m14 := @spec_DrawParseLoci.mono
    have m15 := @spec_DrawRunPoints.mono
    have m16 := @spec_LociText.mono
    have m17 := @spec_ParseLoci.mono
    have m18 := @spec_RunPoints.mono
    have m19 := @spec_SpreadLoci.mono
    refine ⟨?_, ?_, ?_, ?_, ?_, ?_, ?_, ?_, ?_⟩
    · intros; unfold laws_FnPoints.j0; exact mo_
    · intros; unfold laws_FnPoints.j5; exact mo_
    · intros; unfold laws_FnPoints.j6; exact mo_
    · intros; unfold laws_FnPoints.l3; exact mo_
    · intros; unfold laws_FnPoints.l4; exact mo_
    · intros; unfold laws_FnPoints.l0; exact mo_
    · intros; unfold laws_FnPoints.l1; exact mo_
    · intros; unfold laws_FnPoints.j3; exact mo_
    · intros; unfold laws_FnPoints.l2; exact mo_
theorem laws_FnPoints.mono : ∀ a0 a1 k, LeO (laws_FnPoints.f k a0 a1) (laws_FnPoints.f (k + 1) a0 a1) := by
  intro a0 a1 k
  obtain ⟨ih0, ih1, ih2, ih3, ih4, ih5, ih6, ih7, ih8⟩ := laws_FnPoints.mono_l k
  unfold laws_FnPoints.f
  have m0 := @impl_AmbiguousAngles.mono
  have m1 := @impl_AreLoci.mono
  have m2 := @impl_BestAngle.mono
  have m3 := @impl_LociText.mono
  have m4 := @impl_ParseLoci.mono
  have m5 := @impl_PointsAt.mono
  have m6 := @impl_RunPoints.mono
  have m7 := @impl_SpreadLoci.mono
  have m8 := @laws_pSameLoci.mono
  have m9 := @laws_pSameTexts.mono
  have m10 := @laws_sameInts.mono
  have m11 := @spec_AmbiguousAngles.mono
  have m12 := @spec_BestAngle.mono
  have m13 := @spec_DrawAmbiguousAngles.mono
  have m14 := @spec_DrawParseLoci.mono
  have m15 := @spec_DrawRunPoints.mono
  have m16 := @spec_LociText.mono
  have m17 := @spec_ParseLoci.mono
  have m18 := @spec_RunPoints.mono
  have m19 := @spec_SpreadLoci.mono
  exact mo_
noncomputable def laws_FnPoints.J0 := fun a b c d e f g h i j => lim fun k => laws_FnPoints.j0 k a b c d e f g h i j
theorem laws_FnPoints.J0_lim a b c d e f g h i j : Lim (fun k => laws_FnPoints.j0 k a b c d e f g h i j) (laws_FnPoints.J0 a b c d e f g h i j) := ⟨fun k => (laws_FnPoints.mono_l k).1 a b c d e f g h i j, rfl⟩
noncomputable def laws_FnPoints.J5 := fun a => lim fun k => laws_FnPoints.j5 k a
theorem laws_FnPoints.J5_lim a : Lim (fun k => laws_FnPoints.j5 k a) (laws_FnPoints.J5 a) := ⟨fun k => (laws_FnPoints.mono_l k).2.1 a, rfl⟩
noncomputable def laws_FnPoints.J6 := fun a b c => lim fun k => laws_FnPoints.j6 k a b c
theorem laws_FnPoints.J6_lim a b c : Lim (fun k => laws_FnPoints.j6 k a b c) (laws_FnPoints.J6 a b c) := ⟨fun k => (laws_FnPoints.mono_l k).2.2.1 a b c, rfl⟩
noncomputable def laws_FnPoints.L3 := fun a b c d => lim fun k => laws_FnPoints.l3 k a b c d
theorem laws_FnPoints.L3_lim a b c d : Lim (fun k => laws_FnPoints.l3 k a b c d) (laws_FnPoints.L3 a b c d) := ⟨fun k => (laws_FnPoints.mono_l k).2.2.2.1 a b c d, rfl⟩
noncomputable def laws_FnPoints.L4 := fun a b c d e f g h i => lim fun k => laws_FnPoints.l4 k a b c d e f g h i
theorem laws_FnPoints.L4_lim a b c d e f g h i : Lim (fun k => laws_FnPoints.l4 k a b c d e f g h i) (laws_FnPoints.L4 a b c d e f g h i) := ⟨fun k => (laws_FnPoints.mono_l k).2.2.2.2.1 a b c d e f g h i, rfl⟩
noncomputable def laws_FnPoints.L0 := fun a b c d e f g h i j => lim fun k => laws_FnPoints.l0 k a b c d e f g h i j
theorem laws_FnPoints.L0_lim a b c d e f g h i j : Lim (fun k => laws_FnPoints.l0 k a b c d e f g h i j) (laws_FnPoints.L0 a b c d e f g h i j) := ⟨fun k => (laws_FnPoints.mono_l k).2.2.2.2.2.1 a b c d e f g h i j, rfl⟩
noncomputable def laws_FnPoints.L1 := fun a b c d e f g h i j => lim fun k => laws_FnPoints.l1 k a b c d e f g h i j
theorem laws_FnPoints.L1_lim a b c d e f g h i j : Lim (fun k => laws_FnPoints.l1 k a b c d e f g h i j) (laws_FnPoints.L1 a b c d e f g h i j) := ⟨fun k => (laws_FnPoints.mono_l k).2.2.2.2.2.2.1 a b c d e f g h i j, rfl⟩
noncomputable def laws_FnPoints.J3 := fun a b c d => lim fun k => laws_FnPoints.j3 k a b c d
theorem laws_FnPoints.J3_lim a b c d : Lim (fun k => laws_FnPoints.j3 k a b c d) (laws_FnPoints.J3 a b c d) := ⟨fun k => (laws_FnPoints.mono_l k).2.2.2.2.2.2.2.1 a b c d, rfl⟩
noncomputable def laws_FnPoints.L2 := fun a b c d e => lim fun k => laws_FnPoints.l2 k a b c d e
theorem laws_FnPoints.L2_lim a b c d e : Lim (fun k => laws_FnPoints.l2 k a b c d e) (laws_FnPoints.L2 a b c d e) := ⟨fun k => (laws_FnPoints.mono_l k).2.2.2.2.2.2.2.2 a b c d e, rfl⟩
noncomputable def laws_FnPoints.F := fun a b => lim fun k => laws_FnPoints.f k a b
theorem laws_FnPoints.F_lim a b : Lim (fun k => laws_FnPoints.f k a b) (laws_FnPoints.F a b) := ⟨laws_FnPoints.mono a b, rfl⟩
theorem laws_FnPoints.J0_eq a b c d e f g h i j : laws_FnPoints.J0 a b c d e f g h i j = (if j = true then (some false) else (if c = true then (laws_FnPoints.L0 a b e f g h i d (d.length : Int) 0) else (laws_FnPoints.J5 a))) := by
  refine Lim.succ_eq (laws_FnPoints.J0_lim ..).mon ?_
  simp only [laws_FnPoints.j0]
  have m0 := @laws_FnPoints.J5_lim
  have m1 := @laws_FnPoints.L0_lim
  exact li_
theorem laws_FnPoints.J5_eq a : laws_FnPoints.J5 a = ((spec_DrawRunPoints.F a).bind fun bt580 => ((impl_RunPoints.F bt580.1 bt580.2).bind fun bt584 => ((spec_RunPoints.F bt580.1 bt580.2).bind fun bt588 => ((spec_DrawParseLoci.F a).bind fun t592 => ((impl_ParseLoci.F t592).bind fun bt593 => ((spec_ParseLoci.F t592).bind fun bt597 => (if (bt584.2 != bt588.2) = true then (laws_FnPoints.J6 bt580.1 bt588.1 true) else ((laws_pSameTexts.F bt584.1 bt588.1).bind fun t601 => (if t601 = true then (if (bt593.2 != bt597.2) = true then (laws_FnPoints.J6 bt580.1 bt588.1 true) else ((laws_pSameLoci.F bt593.1 bt597.1).bind fun t602 => (laws_FnPoints.J6 bt580.1 bt588.1 (!t602)))) else (laws_FnPoints.J6 bt580.1 bt588.1 true)))))))))) := by
  refine Lim.succ_eq (laws_FnPoints.J5_lim ..).mon ?_
  simp only [laws_FnPoints.j5]
  have m0 := @laws_FnPoints.J6_lim
  have m1 := @impl_ParseLoci.F_lim
  have m2 := @impl_RunPoints.F_lim
  have m3 := @laws_pSameLoci.F_lim
  have m4 := @laws_pSameTexts.F_lim
  have m5 := @spec_DrawParseLoci.F_lim
  have m6 := @spec_DrawRunPoints.F_lim
  have m7 := @spec_ParseLoci.F_lim
  have m8 := @spec_RunPoints.F_lim
  exact li_
theorem laws_FnPoints.J6_eq a b c : laws_FnPoints.J6 a b c = (if c = true then (some false) else (laws_FnPoints.L3 a b (b.length : Int) 0)) := by
  refine Lim.succ_eq (laws_FnPoints.J6_lim ..).mon ?_
  simp only [laws_FnPoints.j6]
  have m0 := @laws_FnPoints.L3_lim
  exact li_
theorem laws_FnPoints.L3_eq a b c d : laws_FnPoints.L3 a b c d = (if d < c then (if 0 ≤ d then (if d < (b.length : Int) then (laws_FnPoints.L4 a (rdOf ByteArray.empty b d) ((rdOf ByteArray.empty b d).toList == ([63] : List UInt8)) b c d a (a.length : Int) 0) else (none)) else (none)) else (some true)) := by
  refine Lim.succ_eq (laws_FnPoints.L3_lim ..).mon ?_
  simp only [laws_FnPoints.l3]
  have m0 := @laws_FnPoints.L4_lim
  exact li_
theorem laws_FnPoints.L4_eq a b c d e f g h i : laws_FnPoints.L4 a b c d e f g h i = (if i < h then (if 0 ≤ i then (if i < (g.length : Int) then (if c = true then (laws_FnPoints.L4 a b true d e f g h (wrap64 (i + 1))) else (laws_FnPoints.L4 a b (((rd_T58 g i).f0).toList == b.toList) d e f g h (wrap64 (i + 1)))) else (none)) else (none)) else (if c = true then (laws_FnPoints.L3 a d e (wrap64 (f + 1))) else (some false))) := by
  refine Lim.succ_eq (laws_FnPoints.L4_lim ..).mon ?_
  simp only [laws_FnPoints.l4]
  have m0 := @laws_FnPoints.L3_lim
  have m1 := @laws_FnPoints.L4_lim
  exact li_
theorem laws_FnPoints.L0_eq a b c d e f g h i j : laws_FnPoints.L0 a b c d e f g h i j = (if j < i then (if 0 ≤ j then (if j < (h.length : Int) then ((impl_PointsAt.F b (rd h j)).bind fun bt566 => (if bt566.2 = true then (some false) else (laws_FnPoints.L0 a b c d e f g h i (wrap64 (j + 1))))) else (none)) else (none)) else (laws_FnPoints.L1 a b c d e f g b (b.length : Int) 0)) := by
  refine Lim.succ_eq (laws_FnPoints.L0_lim ..).mon ?_
  simp only [laws_FnPoints.l0]
  have m0 := @laws_FnPoints.L0_lim
  have m1 := @laws_FnPoints.L1_lim
  have m2 := @impl_PointsAt.F_lim
  exact li_
theorem laws_FnPoints.L1_eq a b c d e f g h i j : laws_FnPoints.L1 a b c d e f g h i j = (if j < i then (if 0 ≤ j then (if j < (h.length : Int) then ((laws_pAbs.f (wrap64 (((rd_T58 h j).f1) - c))).bind fun t570 => (if t570 < d then (some false) else (laws_FnPoints.L1 a b c d e f g h i (wrap64 (j + 1))))) else (none)) else (none)) else ((impl_ParseLoci.F g).bind fun bt571 => ((impl_AreLoci.F e).bind fun t575 => (if t575 = true then (if (f.length : Int) = (b.length : Int) then (if bt571.2 = true then ((laws_pSameLoci.F bt571.1 b).bind fun t576 => (laws_FnPoints.J3 a b f (!t576))) else (laws_FnPoints.J3 a b f true)) else (laws_FnPoints.J3 a b f true)) else (laws_FnPoints.J3 a b f true))))) := by
  refine Lim.succ_eq (laws_FnPoints.L1_lim ..).mon ?_
  simp only [laws_FnPoints.l1]
  have m0 := @laws_FnPoints.L1_lim
  have m1 := @laws_FnPoints.J3_lim
  have m2 := @impl_AreLoci.F_lim
  have m3 := @impl_ParseLoci.F_lim
  have m4 := @laws_pSameLoci.F_lim
  exact li_
theorem laws_FnPoints.J3_eq a b c d : laws_FnPoints.J3 a b c d = (if d = true then (some false) else (laws_FnPoints.L2 a b c (c.length : Int) 0)) := by
  refine Lim.succ_eq (laws_FnPoints.J3_lim ..).mon ?_
  simp only [laws_FnPoints.j3]
  have m0 := @laws_FnPoints.L2_lim
  exact li_
theorem laws_FnPoints.L2_eq a b c d e : laws_FnPoints.L2 a b c d e = (if e < d then (if 0 ≤ e then (if e < (c.length : Int) then (if e < (b.length : Int) then (if ((rd_T58 c e).f0).toList = ((rd_T58 b e).f0).toList then (laws_FnPoints.L2 a b c d (wrap64 (e + 1))) else (some false)) else (none)) else (none)) else (none)) else (laws_FnPoints.J5 a)) := by
  refine Lim.succ_eq (laws_FnPoints.L2_lim ..).mon ?_
  simp only [laws_FnPoints.l2]
  have m0 := @laws_FnPoints.J5_lim
  have m1 := @laws_FnPoints.L2_lim
  exact li_
theorem laws_FnPoints.F_eq l0 l1 : laws_FnPoints.F l0 l1 = ((laws_big.f l0 l1).bind fun t532 => (if t532 = true then (some true) else ((spec_DrawAmbiguousAngles.F l0).bind fun t533 => ((impl_AmbiguousAngles.F t533).bind fun bt536 => ((spec_AmbiguousAngles.F t533).bind fun bt540 => ((impl_BestAngle.F t533).bind fun bt544 => ((spec_BestAngle.F t533).bind fun bt547 => ((impl_SpreadLoci.F t533).bind fun bt550 => ((spec_SpreadLoci.F t533).bind fun bt554 => ((impl_LociText.F t533).bind fun bt558 => ((spec_LociText.F t533).bind fun bt560 => (if (bt536.2 != bt540.2) = true then (laws_FnPoints.J0 l1 t533 bt536.2 bt540.1 bt547.1 bt547.2.1 bt550.1 bt554.1 bt558.1 true) else ((laws_sameInts.F bt536.1 bt540.1).bind fun t562 => (if t562 = true then (if (bt544.2.2 != bt547.2.2) = true then (laws_FnPoints.J0 l1 t533 bt536.2 bt540.1 bt547.1 bt547.2.1 bt550.1 bt554.1 bt558.1 true) else (if bt544.1 = bt547.1 then (if bt544.2.1 = bt547.2.1 then (if (bt550.2 != bt554.2) = true then (laws_FnPoints.J0 l1 t533 bt536.2 bt540.1 bt547.1 bt547.2.1 bt550.1 bt554.1 bt558.1 true) else ((laws_pSameLoci.F bt550.1 bt554.1).bind fun t563 => (if t563 = true then (if (bt558.2 != bt560.2) = true then (laws_FnPoints.J0 l1 t533 bt536.2 bt540.1 bt547.1 bt547.2.1 bt550.1 bt554.1 bt558.1 true) else (if bt558.1.toList = bt560.1.toList then ((impl_AreLoci.F t533).bind fun t564 => (if (bt536.2 != t564) = true then (laws_FnPoints.J0 l1 t533 bt536.2 bt540.1 bt547.1 bt547.2.1 bt550.1 bt554.1 bt558.1 true) else (if (bt544.2.2 != bt536.2) = true then (laws_FnPoints.J0 l1 t533 bt536.2 bt540.1 bt547.1 bt547.2.1 bt550.1 bt554.1 bt558.1 true) else (if (bt550.2 != bt536.2) = true then (laws_FnPoints.J0 l1 t533 bt536.2 bt540.1 bt547.1 bt547.2.1 bt550.1 bt554.1 bt558.1 true) else (laws_FnPoints.J0 l1 t533 bt536.2 bt540.1 bt547.1 bt547.2.1 bt550.1 bt554.1 bt558.1 (bt558.2 != bt536.2)))))) else (laws_FnPoints.J0 l1 t533 bt536.2 bt540.1 bt547.1 bt547.2.1 bt550.1 bt554.1 bt558.1 true))) else (laws_FnPoints.J0 l1 t533 bt536.2 bt540.1 bt547.1 bt547.2.1 bt550.1 bt554.1 bt558.1 true)))) else (laws_FnPoints.J0 l1 t533 bt536.2 bt540.1 bt547.1 bt547.2.1 bt550.1 bt554.1 bt558.1 true)) else (laws_FnPoints.J0 l1 t533 bt536.2 bt540.1 bt547.1 bt547.2.1 bt550.1 bt554.1 bt558.1 true))) else (laws_FnPoints.J0 l1 t533 bt536.2 bt540.1 bt547.1 bt547.2.1 bt550.1 bt554.1 bt558.1 true))))))))))))))) := by
  refine Lim.eq_ ?_
  simp only [laws_FnPoints.f]
  have m0 := @laws_FnPoints.J0_lim
  have m1 := @impl_AmbiguousAngles.F_lim
  have m2 := @impl_AreLoci.F_lim
  have m3 := @impl_BestAngle.F_lim
  have m4 := @impl_LociText.F_lim
  have m5 := @impl_SpreadLoci.F_lim
  have m6 := @laws_pSameLoci.F_lim
  have m7 := @laws_sameInts.F_lim
  have m8 := @spec_AmbiguousAngles.F_lim
  have m9 := @spec_BestAngle.F_lim
  have m10 := @spec_DrawAmbiguousAngles.F_lim
  have m11 := @spec_LociText.F_lim
  have m12 := @spec_SpreadLoci.F_lim
  exact li_
def laws_FnPoints.Pure : Prop := ∀ (l0 : List Int) (l1 : List Int), (l0.length ≤ 9223372036854775807 ∧ ∀ y_ ∈ l0, (Lit.int .u8 y_).wf = true) → (l1.length ≤ 9223372036854775807 ∧ ∀ y_ ∈ l1, (Lit.int .u8 y_).wf = true) → ∃ k, laws_FnPoints.f k l0 l1 = some true
end Go.Proofs.YtfkdlfbjkdkffaaGreatDoor.PFnPoints
