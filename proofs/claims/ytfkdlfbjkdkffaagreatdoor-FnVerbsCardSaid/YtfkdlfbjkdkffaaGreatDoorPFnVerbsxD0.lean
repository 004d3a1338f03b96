/- Written by a program of this claim's author, out of the loaded program as Lean prints it: the functions as Lean functions, and that the calls answer so. -/
import Derived.Test.YtfkdlfbjkdkffaaGreatDoorPFnVerbsx0
namespace Go.Proofs.YtfkdlfbjkdkffaaGreatDoor.PFnVerbs
open Go.RowKit Go.Proofs.YtfkdlfbjkdkffaaGreatDoorW.PrintWords Go.Proofs.YtfkdlfbjkdkffaaGreatDoorW.PrintLast Go.Proofs.YtfkdlfbjkdkffaaGreatDoorW.PrintMore
attribute [local go_sem] max2_int min2_int max_two min_two max_three min_three max_four min_four   -- for this text's walks alone
set_option linter.unusedVariables false
set_option linter.unusedSimpArgs false

def spec_l1Cur_next.f (s0_0 : List Int) (s0_1 : Int) (s0_2 : Int) : Option (Int × Int × Int) := if s0_1 < (s0_0.length : Int) then (if 0 ≤ s0_1 then (if (wrap64 (s0_1 + 1)) ≤ (s0_0.length : Int) then (some (wrap64 (rd s0_0 s0_1), wrap64 (s0_1 + 1), IntKind.u64.wrap ((IntKind.u64.wrap ((IntKind.u64.wrap (s0_2 * 6364136223846793005)) + (IntKind.u64.wrap (wrap64 (rd s0_0 s0_1))))) + 1442695040888963407))) else (some (wrap64 (Go.bits .and .u64 ((IntKind.u64.wrap ((IntKind.u64.wrap ((IntKind.u64.wrap (s0_2 * 6364136223846793005)) + (IntKind.u64.wrap (wrap64 (rd s0_0 s0_1))))) + 1442695040888963407)) / 1099511627776) 255), wrap64 (s0_1 + 1), IntKind.u64.wrap ((IntKind.u64.wrap ((IntKind.u64.wrap (s0_2 * 6364136223846793005)) + (IntKind.u64.wrap (wrap64 (rd s0_0 s0_1))))) + 1442695040888963407)))) else (none)) else (if (wrap64 (s0_1 + 1)) ≤ (s0_0.length : Int) then (some (0, wrap64 (s0_1 + 1), IntKind.u64.wrap ((IntKind.u64.wrap ((IntKind.u64.wrap (s0_2 * 6364136223846793005)))) + 1442695040888963407))) else (some (wrap64 (Go.bits .and .u64 ((IntKind.u64.wrap ((IntKind.u64.wrap ((IntKind.u64.wrap (s0_2 * 6364136223846793005)))) + 1442695040888963407)) / 1099511627776) 255), wrap64 (s0_1 + 1), IntKind.u64.wrap ((IntKind.u64.wrap ((IntKind.u64.wrap (s0_2 * 6364136223846793005)))) + 1442695040888963407))))
def spec_l1Cur_pick.f (s0_0 : List Int) (s0_1 : Int) (s0_2 : Int) (a1 : Int) : Option (Int × Int × Int) := if a1 ≤ 1 then (some (0, s0_1, s0_2)) else ((spec_l1Cur_next.f s0_0 s0_1 s0_2).bind fun bt102 => (if a1 > 200 then ((spec_l1Cur_next.f s0_0 bt102.2.1 bt102.2.2).bind fun bt105 => (if a1 = 0 then (none) else (some (Int.tmod (wrap64 ((wrap64 (bt102.1 * 256)) + bt105.1)) a1, bt105.2.1, bt105.2.2)))) else (if a1 = 0 then (none) else (some (Int.tmod bt102.1 a1, bt102.2.1, bt102.2.2)))))
def spec_loFind.l0 : Nat → ByteArray → List (S58) → Int → Int → Option (Int)
  | 0, _, _, _, _ => none
  | k + 1, a, b, c, d => if d < c then (if 0 ≤ d then (if d < (b.length : Int) then (if ((rd_T58 b d).f0).toList = a.toList then (some d) else (spec_loFind.l0 k a b c (wrap64 (d + 1)))) else (none)) else (none)) else (some (-1))
def spec_loFind.f (k : Nat) (l0 : List (S58)) (a1 : ByteArray) : Option (Int) := spec_loFind.l0 k a1 l0 (l0.length : Int) 0
theorem spec_loFind.mono_l : ∀ k, (∀ a b c d, LeO (spec_loFind.l0 k a b c d) (spec_loFind.l0 (k + 1) a b c d))
  | 0 => fun _ _ _ _ => LeO.none _
  | k + 1 => by
    have ih0 := spec_loFind.mono_l k
    · intros; unfold spec_loFind.l0; exact mo_
theorem spec_loFind.mono : ∀ a0 a1 k, LeO (spec_loFind.f k a0 a1) (spec_loFind.f (k + 1) a0 a1) := by
  intro a0 a1 k
  have ih0 := spec_loFind.mono_l k
  unfold spec_loFind.f
  exact mo_
noncomputable def spec_loFind.L0 := fun a b c d => lim fun k => spec_loFind.l0 k a b c d
theorem spec_loFind.L0_lim a b c d : Lim (fun k => spec_loFind.l0 k a b c d) (spec_loFind.L0 a b c d) := ⟨fun k => (spec_loFind.mono_l k) a b c d, rfl⟩
noncomputable def spec_loFind.F := fun a b => lim fun k => spec_loFind.f k a b
theorem spec_loFind.F_lim a b : Lim (fun k => spec_loFind.f k a b) (spec_loFind.F a b) := ⟨spec_loFind.mono a b, rfl⟩
theorem spec_loFind.L0_eq a b c d : spec_loFind.L0 a b c d = (if d < c then (if 0 ≤ d then (if d < (b.length : Int) then (if ((rd_T58 b d).f0).toList = a.toList then (some d) else (spec_loFind.L0 a b c (wrap64 (d + 1)))) else (none)) else (none)) else (some (-1))) := by
  refine Lim.succ_eq (spec_loFind.L0_lim ..).mon ?_
  simp only [spec_loFind.l0]
  have m0 := @spec_loFind.L0_lim
  exact li_
theorem spec_loFind.F_eq l0 a1 : spec_loFind.F l0 a1 = (spec_loFind.L0 a1 l0 (l0.length : Int) 0) := by
  refine Lim.eq_ ?_
  simp only [spec_loFind.f]
  have m0 := @spec_loFind.L0_lim
  exact li_
def spec_l1In.f (a0 : Int) (a1 : Int) (a2 : Int) : Option (Bool) := if a0 ≥ a1 then (some (decide (a0 ≤ a2))) else (some false)
def spec_loAngle.f (a0 : Int) : Option (Bool) := (spec_l1In.f a0 (-90) 90).bind fun t110 => (some t110)
def spec_naName.l0 : Nat → ByteArray → Int → Option (Bool)
  | 0, _, _ => none
  | k + 1, a, b => if b < (a.size : Int) then (if 0 ≤ b then (if (bt a b) < 97 then (some false) else (if (bt a b) > 122 then (some false) else (spec_naName.l0 k a (wrap64 (b + 1))))) else (none)) else ((spec_l1In.f (a.size : Int) 1 8).bind fun t111 => (some t111))
def spec_naName.f (k : Nat) (a0 : ByteArray) : Option (Bool) := spec_naName.l0 k a0 0
theorem spec_naName.mono_l : ∀ k, (∀ a b, LeO (spec_naName.l0 k a b) (spec_naName.l0 (k + 1) a b))
  | 0 => fun _ _ => LeO.none _
  | k + 1 => by
    have ih0 := spec_naName.mono_l k
    · intros; unfold spec_naName.l0; exact mo_
theorem spec_naName.mono : ∀ a0 k, LeO (spec_naName.f k a0) (spec_naName.f (k + 1) a0) := by
  intro a0 k
  have ih0 := spec_naName.mono_l k
  unfold spec_naName.f
  exact mo_
noncomputable def spec_naName.L0 := fun a b => lim fun k => spec_naName.l0 k a b
theorem spec_naName.L0_lim a b : Lim (fun k => spec_naName.l0 k a b) (spec_naName.L0 a b) := ⟨fun k => (spec_naName.mono_l k) a b, rfl⟩
noncomputable def spec_naName.F := fun a => lim fun k => spec_naName.f k a
theorem spec_naName.F_lim a : Lim (fun k => spec_naName.f k a) (spec_naName.F a) := ⟨spec_naName.mono a, rfl⟩
theorem spec_naName.L0_eq a b : spec_naName.L0 a b = (if b < (a.size : Int) then (if 0 ≤ b then (if (bt a b) < 97 then (some false) else (if (bt a b) > 122 then (some false) else (spec_naName.L0 a (wrap64 (b + 1))))) else (none)) else ((spec_l1In.f (a.size : Int) 1 8).bind fun t111 => (some t111))) := by
  refine Lim.succ_eq (spec_naName.L0_lim ..).mon ?_
  simp only [spec_naName.l0]
  have m0 := @spec_naName.L0_lim
  exact li_
theorem spec_naName.F_eq a0 : spec_naName.F a0 = (spec_naName.L0 a0 0) := by
  refine Lim.eq_ ?_
  simp only [spec_naName.f]
  have m0 := @spec_naName.L0_lim
  exact li_
def spec_loGood.l0 : Nat → List (S58) → List (S58) → Int → Int → Option (Bool)
  | 0, _, _, _, _ => none
  | k + 1, a, b, c, d => if d < c then (if 0 ≤ d then (if d < (b.length : Int) then ((spec_naName.f k ((rd_T58 b d).f0)).bind fun t114 => (if t114 = true then ((spec_loAngle.f ((rd_T58 b d).f1)).bind fun t115 => (if t115 = true then (if d > 0 then (if 0 ≤ (wrap64 (d - 1)) then (if (wrap64 (d - 1)) < (a.length : Int) then (if ((rd_T58 a (wrap64 (d - 1))).f1) ≥ ((rd_T58 b d).f1) then (some false) else (if d ≤ (a.length : Int) then ((spec_loFind.f k (a.take (d : Int).toNat) ((rd_T58 b d).f0)).bind fun t121 => (if t121 ≥ 0 then (some false) else (spec_loGood.l0 k a b c (wrap64 (d + 1))))) else (none))) else (none)) else (none)) else (if d ≤ (a.length : Int) then ((spec_loFind.f k (a.take (d : Int).toNat) ((rd_T58 b d).f0)).bind fun t126 => (if t126 ≥ 0 then (some false) else (spec_loGood.l0 k a b c (wrap64 (d + 1))))) else (none))) else (some false))) else (some false))) else (none)) else (none)) else (some (decide ((a.length : Int) ≤ 8)))
def spec_loGood.f (k : Nat) (l0 : List (S58)) : Option (Bool) := spec_loGood.l0 k l0 l0 (l0.length : Int) 0
theorem spec_loGood.mono_l : ∀ k, (∀ a b c d, LeO (spec_loGood.l0 k a b c d) (spec_loGood.l0 (k + 1) a b c d))
  | 0 => fun _ _ _ _ => LeO.none _
  | k + 1 => by
    have ih0 := spec_loGood.mono_l k
    have m0 := @spec_loFind.mono
    have m1 := @spec_naName.mono
    · intros; unfold spec_loGood.l0; exact mo_
theorem spec_loGood.mono : ∀ a0 k, LeO (spec_loGood.f k a0) (spec_loGood.f (k + 1) a0) := by
  intro a0 k
  have ih0 := spec_loGood.mono_l k
  unfold spec_loGood.f
  have m0 := @spec_loFind.mono
  have m1 := @spec_naName.mono
  exact mo_
noncomputable def spec_loGood.L0 := fun a b c d => lim fun k => spec_loGood.l0 k a b c d
theorem spec_loGood.L0_lim a b c d : Lim (fun k => spec_loGood.l0 k a b c d) (spec_loGood.L0 a b c d) := ⟨fun k => (spec_loGood.mono_l k) a b c d, rfl⟩
noncomputable def spec_loGood.F := fun a => lim fun k => spec_loGood.f k a
theorem spec_loGood.F_lim a : Lim (fun k => spec_loGood.f k a) (spec_loGood.F a) := ⟨spec_loGood.mono a, rfl⟩
theorem spec_loGood.L0_eq a b c d : spec_loGood.L0 a b c d = (if d < c then (if 0 ≤ d then (if d < (b.length : Int) then ((spec_naName.F ((rd_T58 b d).f0)).bind fun t114 => (if t114 = true then ((spec_loAngle.f ((rd_T58 b d).f1)).bind fun t115 => (if t115 = true then (if d > 0 then (if 0 ≤ (wrap64 (d - 1)) then (if (wrap64 (d - 1)) < (a.length : Int) then (if ((rd_T58 a (wrap64 (d - 1))).f1) ≥ ((rd_T58 b d).f1) then (some false) else (if d ≤ (a.length : Int) then ((spec_loFind.F (a.take (d : Int).toNat) ((rd_T58 b d).f0)).bind fun t121 => (if t121 ≥ 0 then (some false) else (spec_loGood.L0 a b c (wrap64 (d + 1))))) else (none))) else (none)) else (none)) else (if d ≤ (a.length : Int) then ((spec_loFind.F (a.take (d : Int).toNat) ((rd_T58 b d).f0)).bind fun t126 => (if t126 ≥ 0 then (some false) else (spec_loGood.L0 a b c (wrap64 (d + 1))))) else (none))) else (some false))) else (some false))) else (none)) else (none)) else (some (decide ((a.length : Int) ≤ 8)))) := by
  refine Lim.succ_eq (spec_loGood.L0_lim ..).mon ?_
  simp only [spec_loGood.l0]
  have m0 := @spec_loGood.L0_lim
  have m1 := @spec_loFind.F_lim
  have m2 := @spec_naName.F_lim
  exact li_
theorem spec_loGood.F_eq l0 : spec_loGood.F l0 = (spec_loGood.L0 l0 l0 (l0.length : Int) 0) := by
  refine Lim.eq_ ?_
  simp only [spec_loGood.f]
  have m0 := @spec_loGood.L0_lim
  exact li_
def spec_loIf.f (k : Nat) (l0 : List (S58)) : Option ((List (S58)) × Bool) := (spec_loGood.f k l0).bind fun t127 => (if t127 = true then (some (l0, true)) else (some (([] : List (S58)), false)))
theorem spec_loIf.mono : ∀ a0 k, LeO (spec_loIf.f k a0) (spec_loIf.f (k + 1) a0) := by
  intro a0 k
  unfold spec_loIf.f
  have m0 := @spec_loGood.mono
  exact mo_
noncomputable def spec_loIf.F := fun a => lim fun k => spec_loIf.f k a
theorem spec_loIf.F_lim a : Lim (fun k => spec_loIf.f k a) (spec_loIf.F a) := ⟨spec_loIf.mono a, rfl⟩
theorem spec_loIf.F_eq l0 : spec_loIf.F l0 = ((spec_loGood.F l0).bind fun t127 => (if t127 = true then (some (l0, true)) else (some (([] : List (S58)), false)))) := by
  refine Lim.eq_ ?_
  simp only [spec_loIf.f]
  have m0 := @spec_loGood.F_lim
  exact li_
def spec_loPut.l0 : Nat → List (S58) → Int → ByteArray → Int → Option ((List (S58)))
  | 0, _, _, _, _ => none
  | k + 1, a, b, c, d => if b < (a.length : Int) then (if 0 ≤ b then (if ((rd_T58 a b).f1) < d then (spec_loPut.l0 k a (wrap64 (b + 1)) c d) else ((some (([] : List (S58)) : List (S58))).bind fun y130 => (if b ≤ (a.length : Int) then ((some (a.take (b : Int).toNat : List (S58))).bind fun y133 => (if y130.length + y133.length < 5864062014805 then ((some (y130 ++ y133 : List (S58))).bind fun y137 => ((some (([(⟨c, d⟩ : S58)] : List (S58)) : List (S58))).bind fun y140 => (if y137.length + y140.length < 5864062014805 then ((some (y137 ++ y140 : List (S58))).bind fun y143 => ((some (a.drop (b : Int).toNat : List (S58))).bind fun y146 => (if y143.length + y146.length < 5864062014805 then (some (y143 ++ y146)) else (none)))) else (none)))) else (none))) else (none)))) else (none)) else ((some (([] : List (S58)) : List (S58))).bind fun y153 => (if 0 ≤ b then (if b ≤ (a.length : Int) then ((some (a.take (b : Int).toNat : List (S58))).bind fun y156 => (if y153.length + y156.length < 5864062014805 then ((some (y153 ++ y156 : List (S58))).bind fun y160 => ((some (([(⟨c, d⟩ : S58)] : List (S58)) : List (S58))).bind fun y163 => (if y160.length + y163.length < 5864062014805 then ((some (y160 ++ y163 : List (S58))).bind fun y166 => ((some (a.drop (b : Int).toNat : List (S58))).bind fun y169 => (if y166.length + y169.length < 5864062014805 then (some (y166 ++ y169)) else (none)))) else (none)))) else (none))) else (none)) else (none)))
def spec_loPut.f (k : Nat) (l0 : List (S58)) (a1_0 : ByteArray) (a1_1 : Int) : Option ((List (S58))) := spec_loPut.l0 k l0 0 a1_0 a1_1
theorem spec_loPut.mono_l : ∀ k, (∀ a b c d, LeO (spec_loPut.l0 k a b c d) (spec_loPut.l0 (k + 1) a b c d))
  | 0 => fun _ _ _ _ => LeO.none _
  | k + 1 => by
    have ih0 := spec_loPut.mono_l k
    · intros; unfold spec_loPut.l0; exact mo_
theorem spec_loPut.mono : ∀ a0 a1 a2 k, LeO (spec_loPut.f k a0 a1 a2) (spec_loPut.f (k + 1) a0 a1 a2) := by
  intro a0 a1 a2 k
  have ih0 := spec_loPut.mono_l k
  unfold spec_loPut.f
  exact mo_
noncomputable def spec_loPut.L0 := fun a b c d => lim fun k => spec_loPut.l0 k a b c d
theorem spec_loPut.L0_lim a b c d : Lim (fun k => spec_loPut.l0 k a b c d) (spec_loPut.L0 a b c d) := ⟨fun k => (spec_loPut.mono_l k) a b c d, rfl⟩
noncomputable def spec_loPut.F := fun a b c => lim fun k => spec_loPut.f k a b c
theorem spec_loPut.F_lim a b c : Lim (fun k => spec_loPut.f k a b c) (spec_loPut.F a b c) := ⟨spec_loPut.mono a b c, rfl⟩
theorem spec_loPut.L0_eq a b c d : spec_loPut.L0 a b c d = (if b < (a.length : Int) then (if 0 ≤ b then (if ((rd_T58 a b).f1) < d then (spec_loPut.L0 a (wrap64 (b + 1)) c d) else ((some (([] : List (S58)) : List (S58))).bind fun y130 => (if b ≤ (a.length : Int) then ((some (a.take (b : Int).toNat : List (S58))).bind fun y133 => (if y130.length + y133.length < 5864062014805 then ((some (y130 ++ y133 : List (S58))).bind fun y137 => ((some (([(⟨c, d⟩ : S58)] : List (S58)) : List (S58))).bind fun y140 => (if y137.length + y140.length < 5864062014805 then ((some (y137 ++ y140 : List (S58))).bind fun y143 => ((some (a.drop (b : Int).toNat : List (S58))).bind fun y146 => (if y143.length + y146.length < 5864062014805 then (some (y143 ++ y146)) else (none)))) else (none)))) else (none))) else (none)))) else (none)) else ((some (([] : List (S58)) : List (S58))).bind fun y153 => (if 0 ≤ b then (if b ≤ (a.length : Int) then ((some (a.take (b : Int).toNat : List (S58))).bind fun y156 => (if y153.length + y156.length < 5864062014805 then ((some (y153 ++ y156 : List (S58))).bind fun y160 => ((some (([(⟨c, d⟩ : S58)] : List (S58)) : List (S58))).bind fun y163 => (if y160.length + y163.length < 5864062014805 then ((some (y160 ++ y163 : List (S58))).bind fun y166 => ((some (a.drop (b : Int).toNat : List (S58))).bind fun y169 => (if y166.length + y169.length < 5864062014805 then (some (y166 ++ y169)) else (none)))) else (none)))) else (none))) else (none)) else (none)))) := by
  refine Lim.succ_eq (spec_loPut.L0_lim ..).mon ?_
  simp only [spec_loPut.l0]
  have m0 := @spec_loPut.L0_lim
  exact li_
theorem spec_loPut.F_eq l0 a1_0 a1_1 : spec_loPut.F l0 a1_0 a1_1 = (spec_loPut.L0 l0 0 a1_0 a1_1) := by
  refine Lim.eq_ ?_
  simp only [spec_loPut.f]
  have m0 := @spec_loPut.L0_lim
  exact li_
def spec_loWithout.l0 : Nat → ByteArray → List (S58) → List (S58) → Int → Int → Option ((List (S58)))
  | 0, _, _, _, _, _ => none
  | k + 1, a, b, c, d, e => if e < d then (if 0 ≤ e then (if e < (c.length : Int) then (if ((rd_T58 c e).f0).toList = a.toList then (spec_loWithout.l0 k a b c d (wrap64 (e + 1))) else (if b.length < 5864062014805 then (spec_loWithout.l0 k a (b ++ [(⟨(rd_T58 c e).f0, (rd_T58 c e).f1⟩ : S58)]) c d (wrap64 (e + 1))) else (none))) else (none)) else (none)) else (some b)
def spec_loWithout.f (k : Nat) (l0 : List (S58)) (a1 : ByteArray) : Option ((List (S58))) := spec_loWithout.l0 k a1 ([] : List (S58)) l0 (l0.length : Int) 0
theorem spec_loWithout.mono_l : ∀ k, (∀ a b c d e, LeO (spec_loWithout.l0 k a b c d e) (spec_loWithout.l0 (k + 1) a b c d e))
  | 0 => fun _ _ _ _ _ => LeO.none _
  | k + 1 => by
    have ih0 := spec_loWithout.mono_l k
    · intros; unfold spec_loWithout.l0; exact mo_
theorem spec_loWithout.mono : ∀ a0 a1 k, LeO (spec_loWithout.f k a0 a1) (spec_loWithout.f (k + 1) a0 a1) := by
  intro a0 a1 k
  have ih0 := spec_loWithout.mono_l k
  unfold spec_loWithout.f
  exact mo_
noncomputable def spec_loWithout.L0 := fun a b c d e => lim fun k => spec_loWithout.l0 k a b c d e
theorem spec_loWithout.L0_lim a b c d e : Lim (fun k => spec_loWithout.l0 k a b c d e) (spec_loWithout.L0 a b c d e) := ⟨fun k => (spec_loWithout.mono_l k) a b c d e, rfl⟩
noncomputable def spec_loWithout.F := fun a b => lim fun k => spec_loWithout.f k a b
theorem spec_loWithout.F_lim a b : Lim (fun k => spec_loWithout.f k a b) (spec_loWithout.F a b) := ⟨spec_loWithout.mono a b, rfl⟩
theorem spec_loWithout.L0_eq a b c d e : spec_loWithout.L0 a b c d e = (if e < d then (if 0 ≤ e then (if e < (c.length : Int) then (if ((rd_T58 c e).f0).toList = a.toList then (spec_loWithout.L0 a b c d (wrap64 (e + 1))) else (if b.length < 5864062014805 then (spec_loWithout.L0 a (b ++ [(⟨(rd_T58 c e).f0, (rd_T58 c e).f1⟩ : S58)]) c d (wrap64 (e + 1))) else (none))) else (none)) else (none)) else (some b)) := by
  refine Lim.succ_eq (spec_loWithout.L0_lim ..).mon ?_
  simp only [spec_loWithout.l0]
  have m0 := @spec_loWithout.L0_lim
  exact li_
theorem spec_loWithout.F_eq l0 a1 : spec_loWithout.F l0 a1 = (spec_loWithout.L0 a1 ([] : List (S58)) l0 (l0.length : Int) 0) := by
  refine Lim.eq_ ?_
  simp only [spec_loWithout.f]
  have m0 := @spec_loWithout.L0_lim
  exact li_
def spec_PutReferent.j0 : Nat → List (S58) → ByteArray → Int → Bool → Option ((List (S58)) × Bool)
  | 0, _, _, _, _ => none
  | k + 1, a, b, c, d => if d = true then (some (([] : List (S58)), false)) else ((spec_loWithout.f k a b).bind fun t184 => ((spec_loPut.f k t184 b c).bind fun t187 => ((spec_loIf.f k t187).bind fun bt190 => (some (bt190.1, bt190.2)))))
def spec_PutReferent.f (k : Nat) (l0 : List (S58)) (a1 : ByteArray) (a2 : Int) : Option ((List (S58)) × Bool) := (spec_loGood.f k l0).bind fun t181 => (if t181 = true then ((spec_naName.f k a1).bind fun t182 => (if t182 = true then ((spec_loAngle.f a2).bind fun t183 => (spec_PutReferent.j0 k l0 a1 a2 (!t183))) else (spec_PutReferent.j0 k l0 a1 a2 true))) else (spec_PutReferent.j0 k l0 a1 a2 true))
theorem spec_PutReferent.mono_l : ∀ k, (∀ a b c d, LeO (spec_PutReferent.j0 k a b c d) (spec_PutReferent.j0 (k + 1) a b c d))
  | 0 => fun _ _ _ _ => LeO.none _
  | k + 1 => by
    have ih0 := spec_PutReferent.mono_l k
    have m0 := @spec_loGood.mono
    have m1 := @spec_loIf.mono
    have m2 := @spec_loPut.mono
    have m3 := @spec_loWithout.mono
    have m4 := @spec_naName.mono
    · intros; unfold spec_PutReferent.j0; exact mo_
theorem spec_PutReferent.mono : ∀ a0 a1 a2 k, LeO (spec_PutReferent.f k a0 a1 a2) (spec_PutReferent.f (k + 1) a0 a1 a2) := by
  intro a0 a1 a2 k
  have ih0 := spec_PutReferent.mono_l k
  unfold spec_PutReferent.f
  have m0 := @spec_loGood.mono
  have m1 := @spec_loIf.mono
  have m2 := @spec_loPut.mono
  have m3 := @spec_loWithout.mono
  have m4 := @spec_naName.mono
  exact mo_
noncomputable def spec_PutReferent.J0 := fun a b c d => lim fun k => spec_PutReferent.j0 k a b c d
theorem spec_PutReferent.J0_lim a b c d : Lim (fun k => spec_PutReferent.j0 k a b c d) (spec_PutReferent.J0 a b c d) := ⟨fun k => (spec_PutReferent.mono_l k) a b c d, rfl⟩
noncomputable def spec_PutReferent.F := fun a b c => lim fun k => spec_PutReferent.f k a b c
theorem spec_PutReferent.F_lim a b c : Lim (fun k => spec_PutReferent.f k a b c) (spec_PutReferent.F a b c) := ⟨spec_PutReferent.mono a b c, rfl⟩
theorem spec_PutReferent.J0_eq a b c d : spec_PutReferent.J0 a b c d = (if d = true then (some (([] : List (S58)), false)) else ((spec_loWithout.F a b).bind fun t184 => ((spec_loPut.F t184 b c).bind fun t187 => ((spec_loIf.F t187).bind fun bt190 => (some (bt190.1, bt190.2)))))) := by
  refine Lim.succ_eq (spec_PutReferent.J0_lim ..).mon ?_
  simp only [spec_PutReferent.j0]
  have m0 := @spec_loIf.F_lim
  have m1 := @spec_loPut.F_lim
  have m2 := @spec_loWithout.F_lim
  exact li_
theorem spec_PutReferent.F_eq l0 a1 a2 : spec_PutReferent.F l0 a1 a2 = ((spec_loGood.F l0).bind fun t181 => (if t181 = true then ((spec_naName.F a1).bind fun t182 => (if t182 = true then ((spec_loAngle.f a2).bind fun t183 => (spec_PutReferent.J0 l0 a1 a2 (!t183))) else (spec_PutReferent.J0 l0 a1 a2 true))) else (spec_PutReferent.J0 l0 a1 a2 true))) := by
  refine Lim.eq_ ?_
  simp only [spec_PutReferent.f]
  have m0 := @spec_PutReferent.J0_lim
  have m1 := @spec_loGood.F_lim
  have m2 := @spec_naName.F_lim
  exact li_
def spec_l1Cur_of.f (s0_0 : List Int) (s0_1 : Int) (s0_2 : Int) (l1 : List ByteArray) : Option (ByteArray × Int × Int) := (spec_l1Cur_pick.f s0_0 s0_1 s0_2 (l1.length : Int)).bind fun bt194 => (if 0 ≤ bt194.1 then (if bt194.1 < (l1.length : Int) then (some (rdOf ByteArray.empty l1 bt194.1, bt194.2.1, bt194.2.2)) else (none)) else (none))
def spec_l1Cur_referent.f (s0_0 : List Int) (s0_1 : Int) (s0_2 : Int) : Option (ByteArray × Int × Int) := (spec_l1Cur_of.f s0_0 s0_1 s0_2 (([(⟨#[109, 97, 114, 121]⟩ : ByteArray), (⟨#[106, 111, 104, 110]⟩ : ByteArray), (⟨#[100, 111, 103]⟩ : ByteArray), (⟨#[99, 97, 116]⟩ : ByteArray), (⟨#[115, 105, 103, 110, 101, 114]⟩ : ByteArray)] : List ByteArray))).bind fun bt201 => (some (bt201.1, bt201.2.1, bt201.2.2))
def spec_l1Cur_among.f (s0_0 : List Int) (s0_1 : Int) (s0_2 : Int) (l1 : List Int) : Option (Int × Int × Int) := (spec_l1Cur_pick.f s0_0 s0_1 s0_2 (l1.length : Int)).bind fun bt204 => (if 0 ≤ bt204.1 then (if bt204.1 < (l1.length : Int) then (some (rd l1 bt204.1, bt204.2.1, bt204.2.2)) else (none)) else (none))
def spec_l1Cur_angleOf.f (s0_0 : List Int) (s0_1 : Int) (s0_2 : Int) : Option (Int × Int × Int) := (spec_l1Cur_pick.f s0_0 s0_1 s0_2 181).bind fun bt208 => ((spec_l1Cur_among.f s0_0 bt208.2.1 bt208.2.2 (([5, 91, (-91), (-9223372036854775808)] : List Int))).bind fun bt214 => ((spec_l1Cur_among.f s0_0 bt214.2.1 bt214.2.2 (([0, (-40), 30, 25, 10, wrap64 (bt208.1 - 90), 90, (-90), bt214.1] : List Int))).bind fun bt220 => (some (bt220.1, bt220.2.1, bt220.2.2))))
def spec_l1Cur_anyReferent.f (s0_0 : List Int) (s0_1 : Int) (s0_2 : Int) : Option (ByteArray × Int × Int) := (spec_l1Cur_of.f s0_0 s0_1 s0_2 (([(⟨#[115, 105, 103, 110, 101, 114]⟩ : ByteArray), (⟨#[]⟩ : ByteArray), (⟨#[77, 97, 114, 121]⟩ : ByteArray), (⟨#[110, 105, 110, 101, 99, 104, 97, 114, 115]⟩ : ByteArray), (⟨#[122, 122]⟩ : ByteArray)] : List ByteArray))).bind fun bt226 => ((spec_l1Cur_of.f s0_0 bt226.2.1 bt226.2.2 (([(⟨#[109, 97, 114, 121]⟩ : ByteArray), (⟨#[106, 111, 104, 110]⟩ : ByteArray), (⟨#[100, 111, 103]⟩ : ByteArray), (⟨#[109, 97, 114, 121]⟩ : ByteArray), bt226.1] : List ByteArray))).bind fun bt232 => (some (bt232.1, bt232.2.1, bt232.2.2)))
mutual
def spec_l1Cur_loci.l0 : Nat → List (S58) → Int → List Int → Int → Int → Option ((List (S58)) × Int × Int)
  | 0, _, _, _, _, _ => none
  | k + 1, a, b, c, d, e => if b > 0 then ((spec_l1Cur_referent.f c d e).bind fun bt238 => ((spec_l1Cur_angleOf.f c bt238.2.1 bt238.2.2).bind fun bt241 => ((spec_PutReferent.f k a bt238.1 bt241.1).bind fun bt244 => (if bt244.2 = true then (spec_l1Cur_loci.l0 k bt244.1 (wrap64 (b - 1)) c bt241.2.1 bt241.2.2) else (spec_l1Cur_loci.l0 k a (wrap64 (b - 1)) c bt241.2.1 bt241.2.2))))) else ((spec_l1Cur_pick.f c d e 24).bind fun bt248 => (if bt248.1 = 0 then ((spec_l1Cur_anyReferent.f c bt248.2.1 bt248.2.2).bind fun bt251 => ((spec_l1Cur_angleOf.f c bt251.2.1 bt251.2.2).bind fun bt254 => (if a.length < 5864062014805 then (some ((a ++ [(⟨bt251.1, bt254.1⟩ : S58)]), bt254.2.1, bt254.2.2)) else (none)))) else (if bt248.1 = 1 then ((spec_l1Cur_pick.f c bt248.2.1 bt248.2.2 2).bind fun bt260 => (spec_l1Cur_loci.l1 k ([] : List (S58)) (wrap64 (8 + bt260.1)) c bt260.2.1 bt260.2.2)) else (some (a, bt248.2.1, bt248.2.2)))))
def spec_l1Cur_loci.l1 : Nat → List (S58) → Int → List Int → Int → Int → Option ((List (S58)) × Int × Int)
  | 0, _, _, _, _, _ => none
  | k + 1, a, b, c, d, e => if (a.length : Int) < b then (if 0 ≤ (a.length : Int) then (if (a.length : Int) ≤ (wrap64 ((a.length : Int) + 1)) then (if (wrap64 ((a.length : Int) + 1)) ≤ 9 then (if 1 + ((⟨#[97, 98, 99, 100, 101, 102, 103, 104, 105]⟩ : ByteArray).extract ((a.length : Int) : Int).toNat ((wrap64 ((a.length : Int) + 1)) : Int).toNat).size ≤ 9223372036854775807 then (if a.length < 5864062014805 then (spec_l1Cur_loci.l1 k (a ++ [(⟨(⟨#[120]⟩ : ByteArray) ++ ((⟨#[97, 98, 99, 100, 101, 102, 103, 104, 105]⟩ : ByteArray).extract ((a.length : Int) : Int).toNat ((wrap64 ((a.length : Int) + 1)) : Int).toNat), wrap64 ((wrap64 (20 * (a.length : Int))) - 90)⟩ : S58)]) b c d e) else (none)) else (none)) else (none)) else (none)) else (none)) else (some (a, d, e))
end
def spec_l1Cur_loci.f (k : Nat) (s0_0 : List Int) (s0_1 : Int) (s0_2 : Int) : Option ((List (S58)) × Int × Int) := (spec_l1Cur_pick.f s0_0 s0_1 s0_2 6).bind fun bt235 => (spec_l1Cur_loci.l0 k ([] : List (S58)) bt235.1 s0_0 bt235.2.1 bt235.2.2)
theorem spec_l1Cur_loci.mono_l : ∀ k, (∀ a b c d e, LeO (spec_l1Cur_loci.l0 k a b c d e) (spec_l1Cur_loci.l0 (k + 1) a b c d e)) ∧ (∀ a b c d e, LeO (spec_l1Cur_loci.l1 k a b c d e) (spec_l1Cur_loci.l1 (k + 1) a b c d e))
  | 0 => ⟨fun _ _ _ _ _ => LeO.none _, fun _ _ _ _ _ => LeO.none _⟩
  | k + 1 => by
    obtain ⟨ih0, ih1⟩ := spec_l1Cur_loci.mono_l k
    have m0 := @spec_PutReferent.mono
    refine ⟨?_, ?_⟩
    · intros; unfold spec_l1Cur_loci.l0; exact mo_
    · intros; unfold spec_l1Cur_loci.l1; exact mo_
theorem spec_l1Cur_loci.mono : ∀ a0 a1 a2 k, LeO (spec_l1Cur_loci.f k a0 a1 a2) (spec_l1Cur_loci.f (k + 1) a0 a1 a2) := by
  intro a0 a1 a2 k
  obtain ⟨ih0, ih1⟩ := spec_l1Cur_loci.mono_l k
  unfold spec_l1Cur_loci.f
  have m0 := @spec_PutReferent.mono
  exact mo_
noncomputable def spec_l1Cur_loci.L0 := fun a b c d e => lim fun k => spec_l1Cur_loci.l0 k a b c d e
theorem spec_l1Cur_loci.L0_lim a b c d e : Lim (fun k => spec_l1Cur_loci.l0 k a b c d e) (spec_l1Cur_loci.L0 a b c d e) := ⟨fun k => (spec_l1Cur_loci.mono_l k).1 a b c d e, rfl⟩
noncomputable def spec_l1Cur_loci.L1 := fun a b c d e => lim fun k => spec_l1Cur_loci.l1 k a b c d e
theorem spec_l1Cur_loci.L1_lim a b c d e : Lim (fun k => spec_l1Cur_loci.l1 k a b c d e) (spec_l1Cur_loci.L1 a b c d e) := ⟨fun k => (spec_l1Cur_loci.mono_l k).2 a b c d e, rfl⟩
noncomputable def spec_l1Cur_loci.F := fun a b c => lim fun k => spec_l1Cur_loci.f k a b c
theorem spec_l1Cur_loci.F_lim a b c : Lim (fun k => spec_l1Cur_loci.f k a b c) (spec_l1Cur_loci.F a b c) := ⟨spec_l1Cur_loci.mono a b c, rfl⟩
theorem spec_l1Cur_loci.L0_eq a b c d e : spec_l1Cur_loci.L0 a b c d e = (if b > 0 then ((spec_l1Cur_referent.f c d e).bind fun bt238 => ((spec_l1Cur_angleOf.f c bt238.2.1 bt238.2.2).bind fun bt241 => ((spec_PutReferent.F a bt238.1 bt241.1).bind fun bt244 => (if bt244.2 = true then (spec_l1Cur_loci.L0 bt244.1 (wrap64 (b - 1)) c bt241.2.1 bt241.2.2) else (spec_l1Cur_loci.L0 a (wrap64 (b - 1)) c bt241.2.1 bt241.2.2))))) else ((spec_l1Cur_pick.f c d e 24).bind fun bt248 => (if bt248.1 = 0 then ((spec_l1Cur_anyReferent.f c bt248.2.1 bt248.2.2).bind fun bt251 => ((spec_l1Cur_angleOf.f c bt251.2.1 bt251.2.2).bind fun bt254 => (if a.length < 5864062014805 then (some ((a ++ [(⟨bt251.1, bt254.1⟩ : S58)]), bt254.2.1, bt254.2.2)) else (none)))) else (if bt248.1 = 1 then ((spec_l1Cur_pick.f c bt248.2.1 bt248.2.2 2).bind fun bt260 => (spec_l1Cur_loci.L1 ([] : List (S58)) (wrap64 (8 + bt260.1)) c bt260.2.1 bt260.2.2)) else (some (a, bt248.2.1, bt248.2.2)))))) := by
  refine Lim.succ_eq (spec_l1Cur_loci.L0_lim ..).mon ?_
  simp only [spec_l1Cur_loci.l0]
  have m0 := @spec_l1Cur_loci.L0_lim
  have m1 := @spec_l1Cur_loci.L1_lim
  have m2 := @spec_PutReferent.F_lim
  exact li_
theorem spec_l1Cur_loci.L1_eq a b c d e : spec_l1Cur_loci.L1 a b c d e = (if (a.length : Int) < b then (if 0 ≤ (a.length : Int) then (if (a.length : Int) ≤ (wrap64 ((a.length : Int) + 1)) then (if (wrap64 ((a.length : Int) + 1)) ≤ 9 then (if 1 + ((⟨#[97, 98, 99, 100, 101, 102, 103, 104, 105]⟩ : ByteArray).extract ((a.length : Int) : Int).toNat ((wrap64 ((a.length : Int) + 1)) : Int).toNat).size ≤ 9223372036854775807 then (if a.length < 5864062014805 then (spec_l1Cur_loci.L1 (a ++ [(⟨(⟨#[120]⟩ : ByteArray) ++ ((⟨#[97, 98, 99, 100, 101, 102, 103, 104, 105]⟩ : ByteArray).extract ((a.length : Int) : Int).toNat ((wrap64 ((a.length : Int) + 1)) : Int).toNat), wrap64 ((wrap64 (20 * (a.length : Int))) - 90)⟩ : S58)]) b c d e) else (none)) else (none)) else (none)) else (none)) else (none)) else (some (a, d, e))) := by
  refine Lim.succ_eq (spec_l1Cur_loci.L1_lim ..).mon ?_
  simp only [spec_l1Cur_loci.l1]
  have m0 := @spec_l1Cur_loci.L1_lim
  exact li_
theorem spec_l1Cur_loci.F_eq s0_0 s0_1 s0_2 : spec_l1Cur_loci.F s0_0 s0_1 s0_2 = ((spec_l1Cur_pick.f s0_0 s0_1 s0_2 6).bind fun bt235 => (spec_l1Cur_loci.L0 ([] : List (S58)) bt235.1 s0_0 bt235.2.1 bt235.2.2)) := by
  refine Lim.eq_ ?_
  simp only [spec_l1Cur_loci.f]
  have m0 := @spec_l1Cur_loci.L0_lim
  exact li_
def spec_l1Cur_one.f (s0_0 : List Int) (s0_1 : Int) (s0_2 : Int) (a1 : Int) : Option (Bool × Int × Int) := (spec_l1Cur_pick.f s0_0 s0_1 s0_2 a1).bind fun bt266 => (some ((bt266.1 == 0), bt266.2.1, bt266.2.2))
def spec_l1Cur_whoIn.j0 : Nat → List (S58) → Int → Bool → List Int → Int → Int → Option (ByteArray × Int × Int)
  | 0, _, _, _, _, _, _ => none
  | k + 1, a, b, c, d, e, f => if c = true then ((spec_l1Cur_pick.f d e f b).bind fun bt272 => (if 0 ≤ bt272.1 then (if bt272.1 < (a.length : Int) then (some ((rd_T58 a bt272.1).f0, bt272.2.1, bt272.2.2)) else (none)) else (none))) else ((spec_l1Cur_of.f d e f (([(⟨#[109, 97, 114, 121]⟩ : ByteArray), (⟨#[110, 111, 98, 111, 100, 121]⟩ : ByteArray), (⟨#[]⟩ : ByteArray)] : List ByteArray))).bind fun bt279 => (some (bt279.1, bt279.2.1, bt279.2.2)))
def spec_l1Cur_whoIn.f (k : Nat) (s0_0 : List Int) (s0_1 : Int) (s0_2 : Int) (l1 : List (S58)) : Option (ByteArray × Int × Int) := if (l1.length : Int) > 0 then ((spec_l1Cur_one.f s0_0 s0_1 s0_2 8).bind fun bt269 => (spec_l1Cur_whoIn.j0 k l1 (l1.length : Int) (!bt269.1) s0_0 bt269.2.1 bt269.2.2)) else (spec_l1Cur_whoIn.j0 k l1 (l1.length : Int) false s0_0 s0_1 s0_2)
theorem spec_l1Cur_whoIn.mono_l : ∀ k, (∀ a b c d e f, LeO (spec_l1Cur_whoIn.j0 k a b c d e f) (spec_l1Cur_whoIn.j0 (k + 1) a b c d e f))
  | 0 => fun _ _ _ _ _ _ => LeO.none _
  | k + 1 => by
    have ih0 := spec_l1Cur_whoIn.mono_l k
    · intros; unfold spec_l1Cur_whoIn.j0; exact mo_
theorem spec_l1Cur_whoIn.mono : ∀ a0 a1 a2 a3 k, LeO (spec_l1Cur_whoIn.f k a0 a1 a2 a3) (spec_l1Cur_whoIn.f (k + 1) a0 a1 a2 a3) := by
  intro a0 a1 a2 a3 k
  have ih0 := spec_l1Cur_whoIn.mono_l k
  unfold spec_l1Cur_whoIn.f
  exact mo_
noncomputable def spec_l1Cur_whoIn.J0 := fun a b c d e f => lim fun k => spec_l1Cur_whoIn.j0 k a b c d e f
theorem spec_l1Cur_whoIn.J0_lim a b c d e f : Lim (fun k => spec_l1Cur_whoIn.j0 k a b c d e f) (spec_l1Cur_whoIn.J0 a b c d e f) := ⟨fun k => (spec_l1Cur_whoIn.mono_l k) a b c d e f, rfl⟩
noncomputable def spec_l1Cur_whoIn.F := fun a b c d => lim fun k => spec_l1Cur_whoIn.f k a b c d
theorem spec_l1Cur_whoIn.F_lim a b c d : Lim (fun k => spec_l1Cur_whoIn.f k a b c d) (spec_l1Cur_whoIn.F a b c d) := ⟨spec_l1Cur_whoIn.mono a b c d, rfl⟩
theorem spec_l1Cur_whoIn.J0_eq a b c d e f : spec_l1Cur_whoIn.J0 a b c d e f = (if c = true then ((spec_l1Cur_pick.f d e f b).bind fun bt272 => (if 0 ≤ bt272.1 then (if bt272.1 < (a.length : Int) then (some ((rd_T58 a bt272.1).f0, bt272.2.1, bt272.2.2)) else (none)) else (none))) else ((spec_l1Cur_of.f d e f (([(⟨#[109, 97, 114, 121]⟩ : ByteArray), (⟨#[110, 111, 98, 111, 100, 121]⟩ : ByteArray), (⟨#[]⟩ : ByteArray)] : List ByteArray))).bind fun bt279 => (some (bt279.1, bt279.2.1, bt279.2.2)))) := by
  refine Lim.succ_eq (spec_l1Cur_whoIn.J0_lim ..).mon ?_
  simp only [spec_l1Cur_whoIn.j0]
  exact li_
theorem spec_l1Cur_whoIn.F_eq s0_0 s0_1 s0_2 l1 : spec_l1Cur_whoIn.F s0_0 s0_1 s0_2 l1 = (if (l1.length : Int) > 0 then ((spec_l1Cur_one.f s0_0 s0_1 s0_2 8).bind fun bt269 => (spec_l1Cur_whoIn.J0 l1 (l1.length : Int) (!bt269.1) s0_0 bt269.2.1 bt269.2.2)) else (spec_l1Cur_whoIn.J0 l1 (l1.length : Int) false s0_0 s0_1 s0_2)) := by
  refine Lim.eq_ ?_
  simp only [spec_l1Cur_whoIn.f]
  have m0 := @spec_l1Cur_whoIn.J0_lim
  exact li_
def spec_DrawVerbFor.f (k : Nat) (l0 : List Int) : Option ((List (S58)) × ByteArray × ByteArray × ByteArray) := (spec_l1Cur_loci.f k l0 0 0).bind fun bt283 => ((spec_l1Cur_of.f l0 bt283.2.1 bt283.2.2 (([(⟨#[71, 73, 86, 69]⟩ : ByteArray), (⟨#[71, 73, 86, 69]⟩ : ByteArray), (⟨#[65, 83, 75]⟩ : ByteArray), (⟨#[]⟩ : ByteArray)] : List ByteArray))).bind fun bt291 => ((spec_l1Cur_whoIn.f k l0 bt291.2.1 bt291.2.2 bt283.1).bind fun bt294 => ((spec_l1Cur_whoIn.f k l0 bt294.2.1 bt294.2.2 bt283.1).bind fun bt297 => (some (bt283.1, bt291.1, bt294.1, bt297.1)))))
theorem spec_DrawVerbFor.mono : ∀ a0 k, LeO (spec_DrawVerbFor.f k a0) (spec_DrawVerbFor.f (k + 1) a0) := by
  intro a0 k
  unfold spec_DrawVerbFor.f
  have m0 := @spec_l1Cur_loci.mono
  have m1 := @spec_l1Cur_whoIn.mono
  exact mo_
noncomputable def spec_DrawVerbFor.F := fun a => lim fun k => spec_DrawVerbFor.f k a
theorem spec_DrawVerbFor.F_lim a : Lim (fun k => spec_DrawVerbFor.f k a) (spec_DrawVerbFor.F a) := ⟨spec_DrawVerbFor.mono a, rfl⟩
theorem spec_DrawVerbFor.F_eq l0 : spec_DrawVerbFor.F l0 = ((spec_l1Cur_loci.F l0 0 0).bind fun bt283 => ((spec_l1Cur_of.f l0 bt283.2.1 bt283.2.2 (([(⟨#[71, 73, 86, 69]⟩ : ByteArray), (⟨#[71, 73, 86, 69]⟩ : ByteArray), (⟨#[65, 83, 75]⟩ : ByteArray), (⟨#[]⟩ : ByteArray)] : List ByteArray))).bind fun bt291 => ((spec_l1Cur_whoIn.F l0 bt291.2.1 bt291.2.2 bt283.1).bind fun bt294 => ((spec_l1Cur_whoIn.F l0 bt294.2.1 bt294.2.2 bt283.1).bind fun bt297 => (some (bt283.1, bt291.1, bt294.1, bt297.1)))))) := by
  refine Lim.eq_ ?_
  simp only [spec_DrawVerbFor.f]
  have m0 := @spec_l1Cur_loci.F_lim
  have m1 := @spec_l1Cur_whoIn.F_lim
  exact li_
def impl_within.f (a0 : Int) (a1 : Int) (a2 : Int) : Option (Bool) := if a0 ≥ a1 then (some (decide (a0 ≤ a2))) else (some false)
def stringslite_IndexByte.f (a0 : ByteArray) (a1 : Int) : Option (Int) := some (Lib.indexByte a0.data.toList a1.toNat.toUInt8)
def strings_IndexByte.f (a0 : ByteArray) (a1 : Int) : Option (Int) := (stringslite_IndexByte.f a0 a1).bind fun t300 => (some t300)
def impl_hasOnly.l0 : Nat → ByteArray → ByteArray → Int → Int → Option (Bool)
  | 0, _, _, _, _ => none
  | k + 1, a, b, c, d => if d < c then (if 0 ≤ d then (if d < (a.size : Int) then ((strings_IndexByte.f b (bt a d)).bind fun t301 => (if t301 < 0 then (some false) else (impl_hasOnly.l0 k a b c (wrap64 (d + 1))))) else (none)) else (none)) else (some true)
def impl_hasOnly.f (k : Nat) (a0 : ByteArray) (a1 : ByteArray) : Option (Bool) := impl_hasOnly.l0 k a0 a1 (a0.size : Int) 0
theorem impl_hasOnly.mono_l : ∀ k, (∀ a b c d, LeO (impl_hasOnly.l0 k a b c d) (impl_hasOnly.l0 (k + 1) a b c d))
  | 0 => fun _ _ _ _ => LeO.none _
  | k + 1 => by
    have ih0 := impl_hasOnly.mono_l k
    · intros; unfold impl_hasOnly.l0; exact mo_
theorem impl_hasOnly.mono : ∀ a0 a1 k, LeO (impl_hasOnly.f k a0 a1) (impl_hasOnly.f (k + 1) a0 a1) := by
  intro a0 a1 k
  have ih0 := impl_hasOnly.mono_l k
  unfold impl_hasOnly.f
  exact mo_
noncomputable def impl_hasOnly.L0 := fun a b c d => lim fun k => impl_hasOnly.l0 k a b c d
theorem impl_hasOnly.L0_lim a b c d : Lim (fun k => impl_hasOnly.l0 k a b c d) (impl_hasOnly.L0 a b c d) := ⟨fun k => (impl_hasOnly.mono_l k) a b c d, rfl⟩
noncomputable def impl_hasOnly.F := fun a b => lim fun k => impl_hasOnly.f k a b
theorem impl_hasOnly.F_lim a b : Lim (fun k => impl_hasOnly.f k a b) (impl_hasOnly.F a b) := ⟨impl_hasOnly.mono a b, rfl⟩
theorem impl_hasOnly.L0_eq a b c d : impl_hasOnly.L0 a b c d = (if d < c then (if 0 ≤ d then (if d < (a.size : Int) then ((strings_IndexByte.f b (bt a d)).bind fun t301 => (if t301 < 0 then (some false) else (impl_hasOnly.L0 a b c (wrap64 (d + 1))))) else (none)) else (none)) else (some true)) := by
  refine Lim.succ_eq (impl_hasOnly.L0_lim ..).mon ?_
  simp only [impl_hasOnly.l0]
  have m0 := @impl_hasOnly.L0_lim
  exact li_
theorem impl_hasOnly.F_eq a0 a1 : impl_hasOnly.F a0 a1 = (impl_hasOnly.L0 a0 a1 (a0.size : Int) 0) := by
  refine Lim.eq_ ?_
  simp only [impl_hasOnly.f]
  have m0 := @impl_hasOnly.L0_lim
  exact li_
def impl_isWordOf.f (k : Nat) (a0 : ByteArray) (a1 : ByteArray) : Option (Bool) := (impl_within.f (a0.size : Int) 1 8).bind fun t302 => (if t302 = true then ((impl_hasOnly.f k a0 a1).bind fun t303 => (some t303)) else (some false))
theorem impl_isWordOf.mono : ∀ a0 a1 k, LeO (impl_isWordOf.f k a0 a1) (impl_isWordOf.f (k + 1) a0 a1) := by
  intro a0 a1 k
  unfold impl_isWordOf.f
  have m0 := @impl_hasOnly.mono
  exact mo_
noncomputable def impl_isWordOf.F := fun a b => lim fun k => impl_isWordOf.f k a b
theorem impl_isWordOf.F_lim a b : Lim (fun k => impl_isWordOf.f k a b) (impl_isWordOf.F a b) := ⟨impl_isWordOf.mono a b, rfl⟩
theorem impl_isWordOf.F_eq a0 a1 : impl_isWordOf.F a0 a1 = ((impl_within.f (a0.size : Int) 1 8).bind fun t302 => (if t302 = true then ((impl_hasOnly.F a0 a1).bind fun t303 => (some t303)) else (some false))) := by
  refine Lim.eq_ ?_
  simp only [impl_isWordOf.f]
  have m0 := @impl_hasOnly.F_lim
  exact li_
def impl_IsGloss.f (k : Nat) (a0 : ByteArray) : Option (Bool) := (impl_isWordOf.f k a0 (⟨#[65, 66, 67, 68, 69, 70, 71, 72, 73, 74, 75, 76, 77, 78, 79, 80, 81, 82, 83, 84, 85, 86, 87, 88, 89, 90]⟩ : ByteArray)).bind fun t304 => (some t304)
theorem impl_IsGloss.mono : ∀ a0 k, LeO (impl_IsGloss.f k a0) (impl_IsGloss.f (k + 1) a0) := by
  intro a0 k
  unfold impl_IsGloss.f
  have m0 := @impl_isWordOf.mono
  exact mo_
noncomputable def impl_IsGloss.F := fun a => lim fun k => impl_IsGloss.f k a
theorem impl_IsGloss.F_lim a : Lim (fun k => impl_IsGloss.f k a) (impl_IsGloss.F a) := ⟨impl_IsGloss.mono a, rfl⟩
theorem impl_IsGloss.F_eq a0 : impl_IsGloss.F a0 = ((impl_isWordOf.F a0 (⟨#[65, 66, 67, 68, 69, 70, 71, 72, 73, 74, 75, 76, 77, 78, 79, 80, 81, 82, 83, 84, 85, 86, 87, 88, 89, 90]⟩ : ByteArray)).bind fun t304 => (some t304)) := by
  refine Lim.eq_ ?_
  simp only [impl_IsGloss.f]
  have m0 := @impl_isWordOf.F_lim
  exact li_
def impl_locusOf_1.f (a0_0 : ByteArray) (a0_1 : Int) (a1_0 : ByteArray) : Option (Bool) := some (a0_0.toList == a1_0.toList)
def slices_IndexFunc_Locus_impl_locusOf_1.l0 : Nat → List (S58) → Int → Int → ByteArray → Option (Int)
  | 0, _, _, _, _ => none
  | k + 1, a, b, c, d => if c < b then (if 0 ≤ c then (if c < (a.length : Int) then ((impl_locusOf_1.f ((rd_T58 a c).f0) ((rd_T58 a c).f1) d).bind fun t307 => (if t307 = true then (some c) else (slices_IndexFunc_Locus_impl_locusOf_1.l0 k a b (wrap64 (c + 1)) d))) else (none)) else (none)) else (some (-1))
def slices_IndexFunc_Locus_impl_locusOf_1.f (k : Nat) (l0 : List (S58)) (a1_0 : ByteArray) : Option (Int) := slices_IndexFunc_Locus_impl_locusOf_1.l0 k l0 (l0.length : Int) 0 a1_0
theorem slices_IndexFunc_Locus_impl_locusOf_1.mono_l : ∀ k, (∀ a b c d, LeO (slices_IndexFunc_Locus_impl_locusOf_1.l0 k a b c d) (slices_IndexFunc_Locus_impl_locusOf_1.l0 (k + 1) a b c d))
  | 0 => fun _ _ _ _ => LeO.none _
  | k + 1 => by
    have ih0 := slices_IndexFunc_Locus_impl_locusOf_1.mono_l k
    · intros; unfold slices_IndexFunc_Locus_impl_locusOf_1.l0; exact mo_
theorem slices_IndexFunc_Locus_impl_locusOf_1.mono : ∀ a0 a1 k, LeO (slices_IndexFunc_Locus_impl_locusOf_1.f k a0 a1) (slices_IndexFunc_Locus_impl_locusOf_1.f (k + 1) a0 a1) := by
  intro a0 a1 k
  have ih0 := slices_IndexFunc_Locus_impl_locusOf_1.mono_l k
  unfold slices_IndexFunc_Locus_impl_locusOf_1.f
  exact mo_
noncomputable def slices_IndexFunc_Locus_impl_locusOf_1.L0 := fun a b c d => lim fun k => slices_IndexFunc_Locus_impl_locusOf_1.l0 k a b c d
theorem slices_IndexFunc_Locus_impl_locusOf_1.L0_lim a b c d : Lim (fun k => slices_IndexFunc_Locus_impl_locusOf_1.l0 k a b c d) (slices_IndexFunc_Locus_impl_locusOf_1.L0 a b c d) := ⟨fun k => (slices_IndexFunc_Locus_impl_locusOf_1.mono_l k) a b c d, rfl⟩
noncomputable def slices_IndexFunc_Locus_impl_locusOf_1.F := fun a b => lim fun k => slices_IndexFunc_Locus_impl_locusOf_1.f k a b
theorem slices_IndexFunc_Locus_impl_locusOf_1.F_lim a b : Lim (fun k => slices_IndexFunc_Locus_impl_locusOf_1.f k a b) (slices_IndexFunc_Locus_impl_locusOf_1.F a b) := ⟨slices_IndexFunc_Locus_impl_locusOf_1.mono a b, rfl⟩
theorem slices_IndexFunc_Locus_impl_locusOf_1.L0_eq a b c d : slices_IndexFunc_Locus_impl_locusOf_1.L0 a b c d = (if c < b then (if 0 ≤ c then (if c < (a.length : Int) then ((impl_locusOf_1.f ((rd_T58 a c).f0) ((rd_T58 a c).f1) d).bind fun t307 => (if t307 = true then (some c) else (slices_IndexFunc_Locus_impl_locusOf_1.L0 a b (wrap64 (c + 1)) d))) else (none)) else (none)) else (some (-1))) := by
  refine Lim.succ_eq (slices_IndexFunc_Locus_impl_locusOf_1.L0_lim ..).mon ?_
  simp only [slices_IndexFunc_Locus_impl_locusOf_1.l0]
  have m0 := @slices_IndexFunc_Locus_impl_locusOf_1.L0_lim
  exact li_
theorem slices_IndexFunc_Locus_impl_locusOf_1.F_eq l0 a1_0 : slices_IndexFunc_Locus_impl_locusOf_1.F l0 a1_0 = (slices_IndexFunc_Locus_impl_locusOf_1.L0 l0 (l0.length : Int) 0 a1_0) := by
  refine Lim.eq_ ?_
  simp only [slices_IndexFunc_Locus_impl_locusOf_1.f]
  have m0 := @slices_IndexFunc_Locus_impl_locusOf_1.L0_lim
  exact li_
def impl_locusOf.f (k : Nat) (l0 : List (S58)) (a1 : ByteArray) : Option (Int) := (slices_IndexFunc_Locus_impl_locusOf_1.f k l0 a1).bind fun t309 => (some t309)
theorem impl_locusOf.mono : ∀ a0 a1 k, LeO (impl_locusOf.f k a0 a1) (impl_locusOf.f (k + 1) a0 a1) := by
  intro a0 a1 k
  unfold impl_locusOf.f
  have m0 := @slices_IndexFunc_Locus_impl_locusOf_1.mono
  exact mo_
noncomputable def impl_locusOf.F := fun a b => lim fun k => impl_locusOf.f k a b
theorem impl_locusOf.F_lim a b : Lim (fun k => impl_locusOf.f k a b) (impl_locusOf.F a b) := ⟨impl_locusOf.mono a b, rfl⟩
theorem impl_locusOf.F_eq l0 a1 : impl_locusOf.F l0 a1 = ((slices_IndexFunc_Locus_impl_locusOf_1.F l0 a1).bind fun t309 => (some t309)) := by
  refine Lim.eq_ ?_
  simp only [impl_locusOf.f]
  have m0 := @slices_IndexFunc_Locus_impl_locusOf_1.F_lim
  exact li_
def impl_isAngle.f (a0 : Int) : Option (Bool) := (impl_within.f a0 (-90) 90).bind fun t310 => (some t310)
def impl_AreLoci.l0 : Nat → List (S58) → List (S58) → Int → Int → Option (Bool)
  | 0, _, _, _, _ => none
  | k + 1, a, b, c, d => if d < c then (if 0 ≤ d then (if d < (b.length : Int) then ((impl_isWordOf.f k ((rd_T58 b d).f0) (⟨#[97, 98, 99, 100, 101, 102, 103, 104, 105, 106, 107, 108, 109, 110, 111, 112, 113, 114, 115, 116, 117, 118, 119, 120, 121, 122]⟩ : ByteArray)).bind fun t313 => (if t313 = true then ((impl_isAngle.f ((rd_T58 b d).f1)).bind fun t314 => (if t314 = true then (if d > 0 then (if 0 ≤ (wrap64 (d - 1)) then (if (wrap64 (d - 1)) < (a.length : Int) then (if ((rd_T58 b d).f1) ≤ ((rd_T58 a (wrap64 (d - 1))).f1) then (some false) else (if d ≤ (a.length : Int) then ((impl_locusOf.f k (a.take (d : Int).toNat) ((rd_T58 b d).f0)).bind fun t320 => (if t320 ≥ 0 then (some false) else (impl_AreLoci.l0 k a b c (wrap64 (d + 1))))) else (none))) else (none)) else (none)) else (if d ≤ (a.length : Int) then ((impl_locusOf.f k (a.take (d : Int).toNat) ((rd_T58 b d).f0)).bind fun t325 => (if t325 ≥ 0 then (some false) else (impl_AreLoci.l0 k a b c (wrap64 (d + 1))))) else (none))) else (some false))) else (some false))) else (none)) else (none)) else (some (decide ((a.length : Int) ≤ 8)))
def impl_AreLoci.f (k : Nat) (l0 : List (S58)) : Option (Bool) := impl_AreLoci.l0 k l0 l0 (l0.length : Int) 0
theorem impl_AreLoci.mono_l : ∀ k, (∀ a b c d, LeO (impl_AreLoci.l0 k a b c d) (impl_AreLoci.l0 (k + 1) a b c d))
  | 0 => fun _ _ _ _ => LeO.none _
  | k + 1 => by
    have ih0 := impl_AreLoci.mono_l k
    have m0 := @impl_isWordOf.mono
    have m1 := @impl_locusOf.mono
    · intros; unfold impl_AreLoci.l0; exact mo_
theorem impl_AreLoci.mono : ∀ a0 k, LeO (impl_AreLoci.f k a0) (impl_AreLoci.f (k + 1) a0) := by
  intro a0 k
  have ih0 := impl_AreLoci.mono_l k
  unfold impl_AreLoci.f
  have m0 := @impl_isWordOf.mono
  have m1 := @impl_locusOf.mono
  exact mo_
noncomputable def impl_AreLoci.L0 := fun a b c d => lim fun k => impl_AreLoci.l0 k a b c d
theorem impl_AreLoci.L0_lim a b c d : Lim (fun k => impl_AreLoci.l0 k a b c d) (impl_AreLoci.L0 a b c d) := ⟨fun k => (impl_AreLoci.mono_l k) a b c d, rfl⟩
noncomputable def impl_AreLoci.F := fun a => lim fun k => impl_AreLoci.f k a
theorem impl_AreLoci.F_lim a : Lim (fun k => impl_AreLoci.f k a) (impl_AreLoci.F a) := ⟨impl_AreLoci.mono a, rfl⟩
theorem impl_AreLoci.L0_eq a b c d : impl_AreLoci.L0 a b c d = (if d < c then (if 0 ≤ d then (if d < (b.length : Int) then ((impl_isWordOf.F ((rd_T58 b d).f0) (⟨#[97, 98, 99, 100, 101, 102, 103, 104, 105, 106, 107, 108, 109, 110, 111, 112, 113, 114, 115, 116, 117, 118, 119, 120, 121, 122]⟩ : ByteArray)).bind fun t313 => (if t313 = true then ((impl_isAngle.f ((rd_T58 b d).f1)).bind fun t314 => (if t314 = true then (if d > 0 then (if 0 ≤ (wrap64 (d - 1)) then (if (wrap64 (d - 1)) < (a.length : Int) then (if ((rd_T58 b d).f1) ≤ ((rd_T58 a (wrap64 (d - 1))).f1) then (some false) else (if d ≤ (a.length : Int) then ((impl_locusOf.F (a.take (d : Int).toNat) ((rd_T58 b d).f0)).bind fun t320 => (if t320 ≥ 0 then (some false) else (impl_AreLoci.L0 a b c (wrap64 (d + 1))))) else (none))) else (none)) else (none)) else (if d ≤ (a.length : Int) then ((impl_locusOf.F (a.take (d : Int).toNat) ((rd_T58 b d).f0)).bind fun t325 => (if t325 ≥ 0 then (some false) else (impl_AreLoci.L0 a b c (wrap64 (d + 1))))) else (none))) else (some false))) else (some false))) else (none)) else (none)) else (some (decide ((a.length : Int) ≤ 8)))) := by
  refine Lim.succ_eq (impl_AreLoci.L0_lim ..).mon ?_
  simp only [impl_AreLoci.l0]
  have m0 := @impl_AreLoci.L0_lim
  have m1 := @impl_isWordOf.F_lim
  have m2 := @impl_locusOf.F_lim
  exact li_
theorem impl_AreLoci.F_eq l0 : impl_AreLoci.F l0 = (impl_AreLoci.L0 l0 l0 (l0.length : Int) 0) := by
  refine Lim.eq_ ?_
  simp only [impl_AreLoci.f]
  have m0 := @impl_AreLoci.L0_lim
  exact li_
def impl_areReferents_1.f (k : Nat) (a0 : ByteArray) (l1_0 : List (S58)) : Option (Bool) := (impl_locusOf.f k l1_0 a0).bind fun t326 => (some (decide (t326 ≥ 0)))
theorem impl_areReferents_1.mono : ∀ a0 a1 k, LeO (impl_areReferents_1.f k a0 a1) (impl_areReferents_1.f (k + 1) a0 a1) := by
  intro a0 a1 k
  unfold impl_areReferents_1.f
  have m0 := @impl_locusOf.mono
  exact mo_
noncomputable def impl_areReferents_1.F := fun a b => lim fun k => impl_areReferents_1.f k a b
theorem impl_areReferents_1.F_lim a b : Lim (fun k => impl_areReferents_1.f k a b) (impl_areReferents_1.F a b) := ⟨impl_areReferents_1.mono a b, rfl⟩
theorem impl_areReferents_1.F_eq a0 l1_0 : impl_areReferents_1.F a0 l1_0 = ((impl_locusOf.F l1_0 a0).bind fun t326 => (some (decide (t326 ≥ 0)))) := by
  refine Lim.eq_ ?_
  simp only [impl_areReferents_1.f]
  have m0 := @impl_locusOf.F_lim
  exact li_
def impl_allOf_string_1_impl_areReferents_1.f (k : Nat) (a0 : ByteArray) (l1_0 : List (S58)) : Option (Bool) := (impl_areReferents_1.f k a0 l1_0).bind fun t327 => (some (!t327))
theorem impl_allOf_string_1_impl_areReferents_1.mono : ∀ a0 a1 k, LeO (impl_allOf_string_1_impl_areReferents_1.f k a0 a1) (impl_allOf_string_1_impl_areReferents_1.f (k + 1) a0 a1) := by
  intro a0 a1 k
  unfold impl_allOf_string_1_impl_areReferents_1.f
  have m0 := @impl_areReferents_1.mono
  exact mo_
noncomputable def impl_allOf_string_1_impl_areReferents_1.F := fun a b => lim fun k => impl_allOf_string_1_impl_areReferents_1.f k a b
theorem impl_allOf_string_1_impl_areReferents_1.F_lim a b : Lim (fun k => impl_allOf_string_1_impl_areReferents_1.f k a b) (impl_allOf_string_1_impl_areReferents_1.F a b) := ⟨impl_allOf_string_1_impl_areReferents_1.mono a b, rfl⟩
theorem impl_allOf_string_1_impl_areReferents_1.F_eq a0 l1_0 : impl_allOf_string_1_impl_areReferents_1.F a0 l1_0 = ((impl_areReferents_1.F a0 l1_0).bind fun t327 => (some (!t327))) := by
  refine Lim.eq_ ?_
  simp only [impl_allOf_string_1_impl_areReferents_1.f]
  have m0 := @impl_areReferents_1.F_lim
  exact li_
def slices_IndexFunc_string_impl_allOf_string_1_impl_areReferents_1.l0 : Nat → List ByteArray → Int → Int → List (S58) → Option (Int)
  | 0, _, _, _, _ => none
  | k + 1, a, b, c, d => if c < b then (if 0 ≤ c then (if c < (a.length : Int) then ((impl_allOf_string_1_impl_areReferents_1.f k (rdOf ByteArray.empty a c) d).bind fun t329 => (if t329 = true then (some c) else (slices_IndexFunc_string_impl_allOf_string_1_impl_areReferents_1.l0 k a b (wrap64 (c + 1)) d))) else (none)) else (none)) else (some (-1))
def slices_IndexFunc_string_impl_allOf_string_1_impl_areReferents_1.f (k : Nat) (l0 : List ByteArray) (l1_0 : List (S58)) : Option (Int) := slices_IndexFunc_string_impl_allOf_string_1_impl_areReferents_1.l0 k l0 (l0.length : Int) 0 l1_0
theorem slices_IndexFunc_string_impl_allOf_string_1_impl_areReferents_1.mono_l : ∀ k, (∀ a b c d, LeO (slices_IndexFunc_string_impl_allOf_string_1_impl_areReferents_1.l0 k a b c d) (slices_IndexFunc_string_impl_allOf_string_1_impl_areReferents_1.l0 (k + 1) a b c d))
  | 0 => fun _ _ _ _ => LeO.none _
  | k + 1 => by
    have ih0 := slices_IndexFunc_string_impl_allOf_string_1_impl_areReferents_1.mono_l k
    have m0 := @impl_allOf_string_1_impl_areReferents_1.mono
    · intros; unfold slices_IndexFunc_string_impl_allOf_string_1_impl_areReferents_1.l0; exact mo_
theorem slices_IndexFunc_string_impl_allOf_string_1_impl_areReferents_1.mono : ∀ a0 a1 k, LeO (slices_IndexFunc_string_impl_allOf_string_1_impl_areReferents_1.f k a0 a1) (slices_IndexFunc_string_impl_allOf_string_1_impl_areReferents_1.f (k + 1) a0 a1) := by
  intro a0 a1 k
  have ih0 := slices_IndexFunc_string_impl_allOf_string_1_impl_areReferents_1.mono_l k
  unfold slices_IndexFunc_string_impl_allOf_string_1_impl_areReferents_1.f
  have m0 := @impl_allOf_string_1_impl_areReferents_1.mono
  exact mo_
noncomputable def slices_IndexFunc_string_impl_allOf_string_1_impl_areReferents_1.L0 := fun a b c d => lim fun k => slices_IndexFunc_string_impl_allOf_string_1_impl_areReferents_1.l0 k a b c d
theorem slices_IndexFunc_string_impl_allOf_string_1_impl_areReferents_1.L0_lim a b c d : Lim (fun k => slices_IndexFunc_string_impl_allOf_string_1_impl_areReferents_1.l0 k a b c d) (slices_IndexFunc_string_impl_allOf_string_1_impl_areReferents_1.L0 a b c d) := ⟨fun k => (slices_IndexFunc_string_impl_allOf_string_1_impl_areReferents_1.mono_l k) a b c d, rfl⟩
noncomputable def slices_IndexFunc_string_impl_allOf_string_1_impl_areReferents_1.F := fun a b => lim fun k => slices_IndexFunc_string_impl_allOf_string_1_impl_areReferents_1.f k a b
theorem slices_IndexFunc_string_impl_allOf_string_1_impl_areReferents_1.F_lim a b : Lim (fun k => slices_IndexFunc_string_impl_allOf_string_1_impl_areReferents_1.f k a b) (slices_IndexFunc_string_impl_allOf_string_1_impl_areReferents_1.F a b) := ⟨slices_IndexFunc_string_impl_allOf_string_1_impl_areReferents_1.mono a b, rfl⟩
theorem slices_IndexFunc_string_impl_allOf_string_1_impl_areReferents_1.L0_eq a b c d : slices_IndexFunc_string_impl_allOf_string_1_impl_areReferents_1.L0 a b c d = (if c < b then (if 0 ≤ c then (if c < (a.length : Int) then ((impl_allOf_string_1_impl_areReferents_1.F (rdOf ByteArray.empty a c) d).bind fun t329 => (if t329 = true then (some c) else (slices_IndexFunc_string_impl_allOf_string_1_impl_areReferents_1.L0 a b (wrap64 (c + 1)) d))) else (none)) else (none)) else (some (-1))) := by
  refine Lim.succ_eq (slices_IndexFunc_string_impl_allOf_string_1_impl_areReferents_1.L0_lim ..).mon ?_
  simp only [slices_IndexFunc_string_impl_allOf_string_1_impl_areReferents_1.l0]
  have m0 := @slices_IndexFunc_string_impl_allOf_string_1_impl_areReferents_1.L0_lim
  have m1 := @impl_allOf_string_1_impl_areReferents_1.F_lim
  exact li_
theorem slices_IndexFunc_string_impl_allOf_string_1_impl_areReferents_1.F_eq l0 l1_0 : slices_IndexFunc_string_impl_allOf_string_1_impl_areReferents_1.F l0 l1_0 = (slices_IndexFunc_string_impl_allOf_string_1_impl_areReferents_1.L0 l0 (l0.length : Int) 0 l1_0) := by
  refine Lim.eq_ ?_
  simp only [slices_IndexFunc_string_impl_allOf_string_1_impl_areReferents_1.f]
  have m0 := @slices_IndexFunc_string_impl_allOf_string_1_impl_areReferents_1.L0_lim
  exact li_
def slices_ContainsFunc_string_impl_allOf_string_1_impl_areReferents_1.f (k : Nat) (l0 : List ByteArray) (l1_0 : List (S58)) : Option (Bool) := (slices_IndexFunc_string_impl_allOf_string_1_impl_areReferents_1.f k l0 l1_0).bind fun t330 => (some (decide (t330 ≥ 0)))
theorem slices_ContainsFunc_string_impl_allOf_string_1_impl_areReferents_1.mono : ∀ a0 a1 k, LeO (slices_ContainsFunc_string_impl_allOf_string_1_impl_areReferents_1.f k a0 a1) (slices_ContainsFunc_string_impl_allOf_string_1_impl_areReferents_1.f (k + 1) a0 a1) := by
  intro a0 a1 k
  unfold slices_ContainsFunc_string_impl_allOf_string_1_impl_areReferents_1.f
  have m0 := @slices_IndexFunc_string_impl_allOf_string_1_impl_areReferents_1.mono
  exact mo_
noncomputable def slices_ContainsFunc_string_impl_allOf_string_1_impl_areReferents_1.F := fun a b => lim fun k => slices_ContainsFunc_string_impl_allOf_string_1_impl_areReferents_1.f k a b
theorem slices_ContainsFunc_string_impl_allOf_string_1_impl_areReferents_1.F_lim a b : Lim (fun k => slices_ContainsFunc_string_impl_allOf_string_1_impl_areReferents_1.f k a b) (slices_ContainsFunc_string_impl_allOf_string_1_impl_areReferents_1.F a b) := ⟨slices_ContainsFunc_string_impl_allOf_string_1_impl_areReferents_1.mono a b, rfl⟩
theorem slices_ContainsFunc_string_impl_allOf_string_1_impl_areReferents_1.F_eq l0 l1_0 : slices_ContainsFunc_string_impl_allOf_string_1_impl_areReferents_1.F l0 l1_0 = ((slices_IndexFunc_string_impl_allOf_string_1_impl_areReferents_1.F l0 l1_0).bind fun t330 => (some (decide (t330 ≥ 0)))) := by
  refine Lim.eq_ ?_
  simp only [slices_ContainsFunc_string_impl_allOf_string_1_impl_areReferents_1.f]
  have m0 := @slices_IndexFunc_string_impl_allOf_string_1_impl_areReferents_1.F_lim
  exact li_
def impl_allOf_string_impl_areReferents_1.f (k : Nat) (l0 : List ByteArray) (l1_0 : List (S58)) : Option (Bool) := (slices_ContainsFunc_string_impl_allOf_string_1_impl_areReferents_1.f k l0 l1_0).bind fun t332 => (some (!t332))
theorem impl_allOf_string_impl_areReferents_1.mono : ∀ a0 a1 k, LeO (impl_allOf_string_impl_areReferents_1.f k a0 a1) (impl_allOf_string_impl_areReferents_1.f (k + 1) a0 a1) := by
  intro a0 a1 k
  unfold impl_allOf_string_impl_areReferents_1.f
  have m0 := @slices_ContainsFunc_string_impl_allOf_string_1_impl_areReferents_1.mono
  exact mo_
noncomputable def impl_allOf_string_impl_areReferents_1.F := fun a b => lim fun k => impl_allOf_string_impl_areReferents_1.f k a b
theorem impl_allOf_string_impl_areReferents_1.F_lim a b : Lim (fun k => impl_allOf_string_impl_areReferents_1.f k a b) (impl_allOf_string_impl_areReferents_1.F a b) := ⟨impl_allOf_string_impl_areReferents_1.mono a b, rfl⟩
theorem impl_allOf_string_impl_areReferents_1.F_eq l0 l1_0 : impl_allOf_string_impl_areReferents_1.F l0 l1_0 = ((slices_ContainsFunc_string_impl_allOf_string_1_impl_areReferents_1.F l0 l1_0).bind fun t332 => (some (!t332))) := by
  refine Lim.eq_ ?_
  simp only [impl_allOf_string_impl_areReferents_1.f]
  have m0 := @slices_ContainsFunc_string_impl_allOf_string_1_impl_areReferents_1.F_lim
  exact li_
def impl_areReferents.f (k : Nat) (l0 : List (S58)) (l1 : List ByteArray) : Option (Bool) := (impl_AreLoci.f k l0).bind fun t334 => (if t334 = true then ((impl_allOf_string_impl_areReferents_1.f k l1 l0).bind fun t335 => (some t335)) else (some false))
theorem impl_areReferents.mono : ∀ a0 a1 k, LeO (impl_areReferents.f k a0 a1) (impl_areReferents.f (k + 1) a0 a1) := by
  intro a0 a1 k
  unfold impl_areReferents.f
  have m0 := @impl_AreLoci.mono
  have m1 := @impl_allOf_string_impl_areReferents_1.mono
  exact mo_
noncomputable def impl_areReferents.F := fun a b => lim fun k => impl_areReferents.f k a b
theorem impl_areReferents.F_lim a b : Lim (fun k => impl_areReferents.f k a b) (impl_areReferents.F a b) := ⟨impl_areReferents.mono a b, rfl⟩
theorem impl_areReferents.F_eq l0 l1 : impl_areReferents.F l0 l1 = ((impl_AreLoci.F l0).bind fun t334 => (if t334 = true then ((impl_allOf_string_impl_areReferents_1.F l1 l0).bind fun t335 => (some t335)) else (some false))) := by
  refine Lim.eq_ ?_
  simp only [impl_areReferents.f]
  have m0 := @impl_AreLoci.F_lim
  have m1 := @impl_allOf_string_impl_areReferents_1.F_lim
  exact li_
def impl_VerbFor.j0 : Nat → List (S58) → ByteArray → ByteArray → ByteArray → Bool → Option (ByteArray × Int × Int × Bool)
  | 0, _, _, _, _, _ => none
  | k + 1, a, b, c, d, e => if e = true then (some ((⟨#[]⟩ : ByteArray), 0, 0, false)) else ((impl_locusOf.f k a c).bind fun t342 => (if 0 ≤ t342 then (if t342 < (a.length : Int) then ((impl_locusOf.f k a d).bind fun t344 => (if 0 ≤ t344 then (if t344 < (a.length : Int) then (some (b, (rd_T58 a t342).f1, (rd_T58 a t344).f1, true)) else (none)) else (none))) else (none)) else (none)))
def impl_VerbFor.f (k : Nat) (l0 : List (S58)) (a1 : ByteArray) (a2 : ByteArray) (a3 : ByteArray) : Option (ByteArray × Int × Int × Bool) := (impl_IsGloss.f k a1).bind fun t337 => (if t337 = true then ((impl_areReferents.f k l0 (([a2, a3] : List ByteArray))).bind fun t341 => (if t341 = true then (impl_VerbFor.j0 k l0 a1 a2 a3 (a2.toList == a3.toList)) else (impl_VerbFor.j0 k l0 a1 a2 a3 true))) else (impl_VerbFor.j0 k l0 a1 a2 a3 true))
theorem impl_VerbFor.mono_l : ∀ k, (∀ a b c d e, LeO (impl_VerbFor.j0 k a b c d e) (impl_VerbFor.j0 (k + 1) a b c d e))
  | 0 => fun _ _ _ _ _ => LeO.none _
  | k + 1 => by
    have ih0 := impl_VerbFor.mono_l k
    have m0 := @impl_IsGloss.mono
    have m1 := @impl_areReferents.mono
    have m2 := @impl_locusOf.mono
    · intros; unfold impl_VerbFor.j0; exact mo_
theorem impl_VerbFor.mono : ∀ a0 a1 a2 a3 k, LeO (impl_VerbFor.f k a0 a1 a2 a3) (impl_VerbFor.f (k + 1) a0 a1 a2 a3) := by
  intro a0 a1 a2 a3 k
  have ih0 := impl_VerbFor.mono_l k
  unfold impl_VerbFor.f
  have m0 := @impl_IsGloss.mono
  have m1 := @impl_areReferents.mono
  have m2 := @impl_locusOf.mono
  exact mo_
noncomputable def impl_VerbFor.J0 := fun a b c d e => lim fun k => impl_VerbFor.j0 k a b c d e
theorem impl_VerbFor.J0_lim a b c d e : Lim (fun k => impl_VerbFor.j0 k a b c d e) (impl_VerbFor.J0 a b c d e) := ⟨fun k => (impl_VerbFor.mono_l k) a b c d e, rfl⟩
noncomputable def impl_VerbFor.F := fun a b c d => lim fun k => impl_VerbFor.f k a b c d
theorem impl_VerbFor.F_lim a b c d : Lim (fun k => impl_VerbFor.f k a b c d) (impl_VerbFor.F a b c d) := ⟨impl_VerbFor.mono a b c d, rfl⟩
theorem impl_VerbFor.J0_eq a b c d e : impl_VerbFor.J0 a b c d e = (if e = true then (some ((⟨#[]⟩ : ByteArray), 0, 0, false)) else ((impl_locusOf.F a c).bind fun t342 => (if 0 ≤ t342 then (if t342 < (a.length : Int) then ((impl_locusOf.F a d).bind fun t344 => (if 0 ≤ t344 then (if t344 < (a.length : Int) then (some (b, (rd_T58 a t342).f1, (rd_T58 a t344).f1, true)) else (none)) else (none))) else (none)) else (none)))) := by
  refine Lim.succ_eq (impl_VerbFor.J0_lim ..).mon ?_
  simp only [impl_VerbFor.j0]
  have m0 := @impl_locusOf.F_lim
  exact li_
theorem impl_VerbFor.F_eq l0 a1 a2 a3 : impl_VerbFor.F l0 a1 a2 a3 = ((impl_IsGloss.F a1).bind fun t337 => (if t337 = true then ((impl_areReferents.F l0 (([a2, a3] : List ByteArray))).bind fun t341 => (if t341 = true then (impl_VerbFor.J0 l0 a1 a2 a3 (a2.toList == a3.toList)) else (impl_VerbFor.J0 l0 a1 a2 a3 true))) else (impl_VerbFor.J0 l0 a1 a2 a3 true))) := by
  refine Lim.eq_ ?_
  simp only [impl_VerbFor.f]
  have m0 := @impl_VerbFor.J0_lim
  have m1 := @impl_IsGloss.F_lim
  have m2 := @impl_areReferents.F_lim
  exact li_
def spec_fsWord.l0 : Nat → ByteArray → Int → Option (Bool)
  | 0, _, _ => none
  | k + 1, a, b => if b < (a.size : Int) then (if 0 ≤ b then (if (bt a b) < 65 then (some false) else (if (bt a b) > 90 then (some false) else (spec_fsWord.l0 k a (wrap64 (b + 1))))) else (none)) else ((spec_l1In.f (a.size : Int) 1 8).bind fun t346 => (some t346))
def spec_fsWord.f (k : Nat) (a0 : ByteArray) : Option (Bool) := spec_fsWord.l0 k a0 0
theorem spec_fsWord.mono_l : ∀ k, (∀ a b, LeO (spec_fsWord.l0 k a b) (spec_fsWord.l0 (k + 1) a b))
  | 0 => fun _ _ => LeO.none _
  | k + 1 => by
    have ih0 := spec_fsWord.mono_l k
    · intros; unfold spec_fsWord.l0; exact mo_
theorem spec_fsWord.mono : ∀ a0 k, LeO (spec_fsWord.f k a0) (spec_fsWord.f (k + 1) a0) := by
  intro a0 k
  have ih0 := spec_fsWord.mono_l k
  unfold spec_fsWord.f
  exact mo_
noncomputable def spec_fsWord.L0 := fun a b => lim fun k => spec_fsWord.l0 k a b
theorem spec_fsWord.L0_lim a b : Lim (fun k => spec_fsWord.l0 k a b) (spec_fsWord.L0 a b) := ⟨fun k => (spec_fsWord.mono_l k) a b, rfl⟩
noncomputable def spec_fsWord.F := fun a => lim fun k => spec_fsWord.f k a
theorem spec_fsWord.F_lim a : Lim (fun k => spec_fsWord.f k a) (spec_fsWord.F a) := ⟨spec_fsWord.mono a, rfl⟩
theorem spec_fsWord.L0_eq a b : spec_fsWord.L0 a b = (if b < (a.size : Int) then (if 0 ≤ b then (if (bt a b) < 65 then (some false) else (if (bt a b) > 90 then (some false) else (spec_fsWord.L0 a (wrap64 (b + 1))))) else (none)) else ((spec_l1In.f (a.size : Int) 1 8).bind fun t346 => (some t346))) := by
  refine Lim.succ_eq (spec_fsWord.L0_lim ..).mon ?_
  simp only [spec_fsWord.l0]
  have m0 := @spec_fsWord.L0_lim
  exact li_
theorem spec_fsWord.F_eq a0 : spec_fsWord.F a0 = (spec_fsWord.L0 a0 0) := by
  refine Lim.eq_ ?_
  simp only [spec_fsWord.f]
  have m0 := @spec_fsWord.L0_lim
  exact li_
def spec_VerbFor.f (k : Nat) (l0 : List (S58)) (a1 : ByteArray) (a2 : ByteArray) (a3 : ByteArray) : Option (ByteArray × Int × Int × Bool) := (spec_loFind.f k l0 a2).bind fun t348 => ((spec_loFind.f k l0 a3).bind fun t349 => ((spec_loGood.f k l0).bind fun t350 => (if t350 = true then ((spec_fsWord.f k a1).bind fun t351 => (if t351 = true then (if t348 < 0 then (some ((⟨#[]⟩ : ByteArray), 0, 0, false)) else (if t349 < 0 then (some ((⟨#[]⟩ : ByteArray), 0, 0, false)) else (if t348 = t349 then (some ((⟨#[]⟩ : ByteArray), 0, 0, false)) else (if 0 ≤ t348 then (if t348 < (l0.length : Int) then (if 0 ≤ t349 then (if t349 < (l0.length : Int) then (some (a1, (rd_T58 l0 t348).f1, (rd_T58 l0 t349).f1, true)) else (none)) else (none)) else (none)) else (none))))) else (some ((⟨#[]⟩ : ByteArray), 0, 0, false)))) else (some ((⟨#[]⟩ : ByteArray), 0, 0, false)))))
theorem spec_VerbFor.mono : ∀ a0 a1 a2 a3 k, LeO (spec_VerbFor.f k a0 a1 a2 a3) (spec_VerbFor.f (k + 1) a0 a1 a2 a3) := by
  intro a0 a1 a2 a3 k
  unfold spec_VerbFor.f
  have m0 := @spec_fsWord.mono
  have m1 := @spec_loFind.mono
  have m2 := @spec_loGood.mono
  exact mo_
noncomputable def spec_VerbFor.F := fun a b c d => lim fun k => spec_VerbFor.f k a b c d
theorem spec_VerbFor.F_lim a b c d : Lim (fun k => spec_VerbFor.f k a b c d) (spec_VerbFor.F a b c d) := ⟨spec_VerbFor.mono a b c d, rfl⟩
theorem spec_VerbFor.F_eq l0 a1 a2 a3 : spec_VerbFor.F l0 a1 a2 a3 = ((spec_loFind.F l0 a2).bind fun t348 => ((spec_loFind.F l0 a3).bind fun t349 => ((spec_loGood.F l0).bind fun t350 => (if t350 = true then ((spec_fsWord.F a1).bind fun t351 => (if t351 = true then (if t348 < 0 then (some ((⟨#[]⟩ : ByteArray), 0, 0, false)) else (if t349 < 0 then (some ((⟨#[]⟩ : ByteArray), 0, 0, false)) else (if t348 = t349 then (some ((⟨#[]⟩ : ByteArray), 0, 0, false)) else (if 0 ≤ t348 then (if t348 < (l0.length : Int) then (if 0 ≤ t349 then (if t349 < (l0.length : Int) then (some (a1, (rd_T58 l0 t348).f1, (rd_T58 l0 t349).f1, true)) else (none)) else (none)) else (none)) else (none))))) else (some ((⟨#[]⟩ : ByteArray), 0, 0, false)))) else (some ((⟨#[]⟩ : ByteArray), 0, 0, false)))))) := by
  refine Lim.eq_ ?_
  simp only [spec_VerbFor.f]
  have m0 := @spec_fsWord.F_lim
  have m1 := @spec_loFind.F_lim
  have m2 := @spec_loGood.F_lim
  exact li_
def spec_l1Most.f (a0 : Int) (a1 : Int) : Option (Int) := if a0 > a1 then (some a0) else (some a1)
def spec_l1Least.f (a0 : Int) (a1 : Int) : Option (Int) := if a0 < a1 then (some a0) else (some a1)
mutual
def spec_l1Cur_verb.j0 : Nat → List (S58) → Int → Bool → List Int → Int → Int → ByteArray → Int → Int → Option (ByteArray × Int × Int × Int × Int)
  | 0, _, _, _, _, _, _, _, _, _ => none
  | k + 1, a, b, c, d, e, f, g, h, i => if c = true then ((spec_l1Cur_pick.f d e f b).bind fun bt378 => (if 0 ≤ bt378.1 then (if bt378.1 < (a.length : Int) then ((spec_l1Cur_among.f d bt378.2.1 bt378.2.2 (([0, 5, (-5), 20, 21] : List Int))).bind fun bt385 => ((spec_l1Least.f 90 (wrap64 (((rd_T58 a bt378.1).f1) + bt385.1))).bind fun t388 => ((spec_l1Most.f (-90) t388).bind fun t389 => ((spec_l1Cur_pick.f d bt385.2.1 bt385.2.2 b).bind fun bt390 => (if 0 ≤ bt390.1 then (if bt390.1 < (a.length : Int) then ((spec_l1Cur_among.f d bt390.2.1 bt390.2.2 (([0, 5, (-5)] : List Int))).bind fun bt397 => ((spec_l1Least.f 90 (wrap64 (((rd_T58 a bt390.1).f1) + bt397.1))).bind fun t400 => ((spec_l1Most.f (-90) t400).bind fun t401 => (spec_l1Cur_verb.j1 k d bt397.2.1 bt397.2.2 g t389 t401)))) else (none)) else (none)))))) else (none)) else (none))) else (spec_l1Cur_verb.j1 k d e f g h i)
def spec_l1Cur_verb.j1 : Nat → List Int → Int → Int → ByteArray → Int → Int → Option (ByteArray × Int × Int × Int × Int)
  | 0, _, _, _, _, _, _ => none
  | k + 1, a, b, c, d, e, f => (spec_l1Cur_pick.f a b c 40).bind fun bt402 => (if bt402.1 = 0 then ((spec_l1Cur_of.f a bt402.2.1 bt402.2.2 (([(⟨#[]⟩ : ByteArray), (⟨#[103, 105, 118, 101]⟩ : ByteArray), (⟨#[78, 73, 78, 69, 76, 69, 84, 84, 82]⟩ : ByteArray)] : List ByteArray))).bind fun bt408 => (some (bt408.1, e, f, bt408.2.1, bt408.2.2))) else (if bt402.1 = 1 then ((spec_l1Cur_among.f a bt402.2.1 bt402.2.2 (([(-91), 91, f, (-9223372036854775808)] : List Int))).bind fun bt414 => (some (d, bt414.1, f, bt414.2.1, bt414.2.2))) else (if bt402.1 = 2 then ((spec_l1Cur_among.f a bt402.2.1 bt402.2.2 (([(-91), 91] : List Int))).bind fun bt420 => (some (d, e, bt420.1, bt420.2.1, bt420.2.2))) else (some (d, e, f, bt402.2.1, bt402.2.2)))))
end
def spec_l1Cur_verb.f (k : Nat) (s0_0 : List Int) (s0_1 : Int) (s0_2 : Int) (l1 : List (S58)) : Option (ByteArray × Int × Int × Int × Int) := (spec_l1Cur_of.f s0_0 s0_1 s0_2 (([(⟨#[71, 73, 86, 69]⟩ : ByteArray), (⟨#[71, 73, 86, 69]⟩ : ByteArray), (⟨#[65, 83, 75]⟩ : ByteArray), (⟨#[83, 72, 79, 87]⟩ : ByteArray), (⟨#[84, 69, 76, 76]⟩ : ByteArray)] : List ByteArray))).bind fun bt358 => ((spec_l1Cur_among.f s0_0 bt358.2.1 bt358.2.2 (([(-90), (-40), 0, 30, 90] : List Int))).bind fun bt364 => ((spec_l1Cur_among.f s0_0 bt364.2.1 bt364.2.2 (([(-80), (-35), 5, 40, 85] : List Int))).bind fun bt370 => (if (l1.length : Int) > 1 then ((spec_loGood.f k l1).bind fun t374 => (if t374 = true then ((spec_l1Cur_one.f s0_0 bt370.2.1 bt370.2.2 4).bind fun bt375 => (spec_l1Cur_verb.j0 k l1 (l1.length : Int) (!bt375.1) s0_0 bt375.2.1 bt375.2.2 bt358.1 bt364.1 bt370.1)) else (spec_l1Cur_verb.j0 k l1 (l1.length : Int) false s0_0 bt370.2.1 bt370.2.2 bt358.1 bt364.1 bt370.1))) else (spec_l1Cur_verb.j0 k l1 (l1.length : Int) false s0_0 bt370.2.1 bt370.2.2 bt358.1 bt364.1 bt370.1))))
theorem spec_l1Cur_verb.mono_l : ∀ k, (∀ a b c d e f g h i, LeO (spec_l1Cur_verb.j0 k a b c d e f g h i) (spec_l1Cur_verb.j0 (k + 1) a b c d e f g h i)) ∧ (∀ a b c d e f, LeO (spec_l1Cur_verb.j1 k a b c d e f) (spec_l1Cur_verb.j1 (k + 1) a b c d e f))
  | 0 => ⟨fun _ _ _ _ _ _ _ _ _ => LeO.none _, fun _ _ _ _ _ _ => LeO.none _⟩
  | k + 1 => by
    obtain ⟨ih0, ih1⟩ := spec_l1Cur_verb.mono_l k
    have m0 := @spec_loGood.mono
    refine ⟨?_, ?_⟩
    · intros; unfold spec_l1Cur_verb.j0; exact mo_
    · intros; unfold spec_l1Cur_verb.j1; exact mo_
theorem spec_l1Cur_verb.mono : ∀ a0 a1 a2 a3 k, LeO (spec_l1Cur_verb.f k a0 a1 a2 a3) (spec_l1Cur_verb.f (k + 1) a0 a1 a2 a3) := by
  intro a0 a1 a2 a3 k
  obtain ⟨ih0, ih1⟩ := spec_l1Cur_verb.mono_l k
  unfold spec_l1Cur_verb.f
  have m0 := @spec_loGood.mono
  exact mo_
noncomputable def spec_l1Cur_verb.J0 := fun a b c d e f g h i => lim fun k => spec_l1Cur_verb.j0 k a b c d e f g h i
theorem spec_l1Cur_verb.J0_lim a b c d e f g h i : Lim (fun k => spec_l1Cur_verb.j0 k a b c d e f g h i) (spec_l1Cur_verb.J0 a b c d e f g h i) := ⟨fun k => (spec_l1Cur_verb.mono_l k).1 a b c d e f g h i, rfl⟩
noncomputable def spec_l1Cur_verb.J1 := fun a b c d e f => lim fun k => spec_l1Cur_verb.j1 k a b c d e f
theorem spec_l1Cur_verb.J1_lim a b c d e f : Lim (fun k => spec_l1Cur_verb.j1 k a b c d e f) (spec_l1Cur_verb.J1 a b c d e f) := ⟨fun k => (spec_l1Cur_verb.mono_l k).2 a b c d e f, rfl⟩
noncomputable def spec_l1Cur_verb.F := fun a b c d => lim fun k => spec_l1Cur_verb.f k a b c d
theorem spec_l1Cur_verb.F_lim a b c d : Lim (fun k => spec_l1Cur_verb.f k a b c d) (spec_l1Cur_verb.F a b c d) := ⟨spec_l1Cur_verb.mono a b c d, rfl⟩
theorem spec_l1Cur_verb.J0_eq a b c d e f g h i : spec_l1Cur_verb.J0 a b c d e f g h i = (if c = true then ((spec_l1Cur_pick.f d e f b).bind fun bt378 => (if 0 ≤ bt378.1 then (if bt378.1 < (a.length : Int) then ((spec_l1Cur_among.f d bt378.2.1 bt378.2.2 (([0, 5, (-5), 20, 21] : List Int))).bind fun bt385 => ((spec_l1Least.f 90 (wrap64 (((rd_T58 a bt378.1).f1) + bt385.1))).bind fun t388 => ((spec_l1Most.f (-90) t388).bind fun t389 => ((spec_l1Cur_pick.f d bt385.2.1 bt385.2.2 b).bind fun bt390 => (if 0 ≤ bt390.1 then (if bt390.1 < (a.length : Int) then ((spec_l1Cur_among.f d bt390.2.1 bt390.2.2 (([0, 5, (-5)] : List Int))).bind fun bt397 => ((spec_l1Least.f 90 (wrap64 (((rd_T58 a bt390.1).f1) + bt397.1))).bind fun t400 => ((spec_l1Most.f (-90) t400).bind fun t401 => (spec_l1Cur_verb.J1 d bt397.2.1 bt397.2.2 g t389 t401)))) else (none)) else (none)))))) else (none)) else (none))) else (spec_l1Cur_verb.J1 d e f g h i)) := by
  refine Lim.succ_eq (spec_l1Cur_verb.J0_lim ..).mon ?_
  simp only [spec_l1Cur_verb.j0]
  have m0 := @spec_l1Cur_verb.J1_lim
  exact li_
theorem spec_l1Cur_verb.J1_eq a b c d e f : spec_l1Cur_verb.J1 a b c d e f = ((spec_l1Cur_pick.f a b c 40).bind fun bt402 => (if bt402.1 = 0 then ((spec_l1Cur_of.f a bt402.2.1 bt402.2.2 (([(⟨#[]⟩ : ByteArray), (⟨#[103, 105, 118, 101]⟩ : ByteArray), (⟨#[78, 73, 78, 69, 76, 69, 84, 84, 82]⟩ : ByteArray)] : List ByteArray))).bind fun bt408 => (some (bt408.1, e, f, bt408.2.1, bt408.2.2))) else (if bt402.1 = 1 then ((spec_l1Cur_among.f a bt402.2.1 bt402.2.2 (([(-91), 91, f, (-9223372036854775808)] : List Int))).bind fun bt414 => (some (d, bt414.1, f, bt414.2.1, bt414.2.2))) else (if bt402.1 = 2 then ((spec_l1Cur_among.f a bt402.2.1 bt402.2.2 (([(-91), 91] : List Int))).bind fun bt420 => (some (d, e, bt420.1, bt420.2.1, bt420.2.2))) else (some (d, e, f, bt402.2.1, bt402.2.2)))))) := by
  refine Lim.succ_eq (spec_l1Cur_verb.J1_lim ..).mon ?_
  simp only [spec_l1Cur_verb.j1]
  exact li_
theorem spec_l1Cur_verb.F_eq s0_0 s0_1 s0_2 l1 : spec_l1Cur_verb.F s0_0 s0_1 s0_2 l1 = ((spec_l1Cur_of.f s0_0 s0_1 s0_2 (([(⟨#[71, 73, 86, 69]⟩ : ByteArray), (⟨#[71, 73, 86, 69]⟩ : ByteArray), (⟨#[65, 83, 75]⟩ : ByteArray), (⟨#[83, 72, 79, 87]⟩ : ByteArray), (⟨#[84, 69, 76, 76]⟩ : ByteArray)] : List ByteArray))).bind fun bt358 => ((spec_l1Cur_among.f s0_0 bt358.2.1 bt358.2.2 (([(-90), (-40), 0, 30, 90] : List Int))).bind fun bt364 => ((spec_l1Cur_among.f s0_0 bt364.2.1 bt364.2.2 (([(-80), (-35), 5, 40, 85] : List Int))).bind fun bt370 => (if (l1.length : Int) > 1 then ((spec_loGood.F l1).bind fun t374 => (if t374 = true then ((spec_l1Cur_one.f s0_0 bt370.2.1 bt370.2.2 4).bind fun bt375 => (spec_l1Cur_verb.J0 l1 (l1.length : Int) (!bt375.1) s0_0 bt375.2.1 bt375.2.2 bt358.1 bt364.1 bt370.1)) else (spec_l1Cur_verb.J0 l1 (l1.length : Int) false s0_0 bt370.2.1 bt370.2.2 bt358.1 bt364.1 bt370.1))) else (spec_l1Cur_verb.J0 l1 (l1.length : Int) false s0_0 bt370.2.1 bt370.2.2 bt358.1 bt364.1 bt370.1))))) := by
  refine Lim.eq_ ?_
  simp only [spec_l1Cur_verb.f]
  have m0 := @spec_l1Cur_verb.J0_lim
  have m1 := @spec_loGood.F_lim
  exact li_
def spec_DrawMeaningOf.f (k : Nat) (l0 : List Int) : Option ((List (S58)) × ByteArray × Int × Int) := (spec_l1Cur_loci.f k l0 0 0).bind fun bt425 => ((spec_l1Cur_verb.f k l0 bt425.2.1 bt425.2.2 bt425.1).bind fun bt430 => (some (bt425.1, bt430.1, bt430.2.1, bt430.2.2.1)))
theorem spec_DrawMeaningOf.mono : ∀ a0 k, LeO (spec_DrawMeaningOf.f k a0) (spec_DrawMeaningOf.f (k + 1) a0) := by
  intro a0 k
  unfold spec_DrawMeaningOf.f
  have m0 := @spec_l1Cur_loci.mono
  have m1 := @spec_l1Cur_verb.mono
  exact mo_
noncomputable def spec_DrawMeaningOf.F := fun a => lim fun k => spec_DrawMeaningOf.f k a
theorem spec_DrawMeaningOf.F_lim a : Lim (fun k => spec_DrawMeaningOf.f k a) (spec_DrawMeaningOf.F a) := ⟨spec_DrawMeaningOf.mono a, rfl⟩
theorem spec_DrawMeaningOf.F_eq l0 : spec_DrawMeaningOf.F l0 = ((spec_l1Cur_loci.F l0 0 0).bind fun bt425 => ((spec_l1Cur_verb.F l0 bt425.2.1 bt425.2.2 bt425.1).bind fun bt430 => (some (bt425.1, bt430.1, bt430.2.1, bt430.2.2.1)))) := by
  refine Lim.eq_ ?_
  simp only [spec_DrawMeaningOf.f]
  have m0 := @spec_l1Cur_loci.F_lim
  have m1 := @spec_l1Cur_verb.F_lim
  exact li_
def impl_IsVerb.f (k : Nat) (a0_0 : ByteArray) (a0_1 : Int) (a0_2 : Int) : Option (Bool) := (impl_IsGloss.f k a0_0).bind fun t436 => (if t436 = true then ((impl_isAngle.f a0_1).bind fun t437 => (if t437 = true then ((impl_isAngle.f a0_2).bind fun t438 => (if t438 = true then (some (a0_1 != a0_2)) else (some false))) else (some false))) else (some false))
theorem impl_IsVerb.mono : ∀ a0 a1 a2 k, LeO (impl_IsVerb.f k a0 a1 a2) (impl_IsVerb.f (k + 1) a0 a1 a2) := by
  intro a0 a1 a2 k
  unfold impl_IsVerb.f
  have m0 := @impl_IsGloss.mono
  exact mo_
noncomputable def impl_IsVerb.F := fun a b c => lim fun k => impl_IsVerb.f k a b c
theorem impl_IsVerb.F_lim a b c : Lim (fun k => impl_IsVerb.f k a b c) (impl_IsVerb.F a b c) := ⟨impl_IsVerb.mono a b c, rfl⟩
theorem impl_IsVerb.F_eq a0_0 a0_1 a0_2 : impl_IsVerb.F a0_0 a0_1 a0_2 = ((impl_IsGloss.F a0_0).bind fun t436 => (if t436 = true then ((impl_isAngle.f a0_1).bind fun t437 => (if t437 = true then ((impl_isAngle.f a0_2).bind fun t438 => (if t438 = true then (some (a0_1 != a0_2)) else (some false))) else (some false))) else (some false))) := by
  refine Lim.eq_ ?_
  simp only [impl_IsVerb.f]
  have m0 := @impl_IsGloss.F_lim
  exact li_
def impl_distance.f (a0 : Int) (a1 : Int) : Option (Int) := some (mx (wrap64 (a0 - a1)) (wrap64 (a1 - a0)))
def impl_nearestLoci.l0 : Nat → Int → Int → List ByteArray → List (S58) → Int → Int → Option (Int × List ByteArray)
  | 0, _, _, _, _, _, _ => none
  | k + 1, a, b, c, d, e, f => if f < e then (if 0 ≤ f then (if f < (d.length : Int) then ((impl_distance.f ((rd_T58 d f).f1) a).bind fun t441 => (if t441 < b then (if t441 = t441 then (if ([] : List ByteArray).length < 8796093022208 then (impl_nearestLoci.l0 k a t441 (([] : List ByteArray) ++ [(rd_T58 d f).f0]) d e (wrap64 (f + 1))) else (none)) else (impl_nearestLoci.l0 k a t441 ([] : List ByteArray) d e (wrap64 (f + 1)))) else (if t441 = b then (if c.length < 8796093022208 then (impl_nearestLoci.l0 k a b (c ++ [(rd_T58 d f).f0]) d e (wrap64 (f + 1))) else (none)) else (impl_nearestLoci.l0 k a b c d e (wrap64 (f + 1)))))) else (none)) else (none)) else (some (b, c))
def impl_nearestLoci.f (k : Nat) (l0 : List (S58)) (a1 : Int) : Option (Int × List ByteArray) := impl_nearestLoci.l0 k a1 181 ([] : List ByteArray) l0 (l0.length : Int) 0
theorem impl_nearestLoci.mono_l : ∀ k, (∀ a b c d e f, LeO (impl_nearestLoci.l0 k a b c d e f) (impl_nearestLoci.l0 (k + 1) a b c d e f))
  | 0 => fun _ _ _ _ _ _ => LeO.none _
  | k + 1 => by
    have ih0 := impl_nearestLoci.mono_l k
    · intros; unfold impl_nearestLoci.l0; exact mo_
theorem impl_nearestLoci.mono : ∀ a0 a1 k, LeO (impl_nearestLoci.f k a0 a1) (impl_nearestLoci.f (k + 1) a0 a1) := by
  intro a0 a1 k
  have ih0 := impl_nearestLoci.mono_l k
  unfold impl_nearestLoci.f
  exact mo_
noncomputable def impl_nearestLoci.L0 := fun a b c d e f => lim fun k => impl_nearestLoci.l0 k a b c d e f
theorem impl_nearestLoci.L0_lim a b c d e f : Lim (fun k => impl_nearestLoci.l0 k a b c d e f) (impl_nearestLoci.L0 a b c d e f) := ⟨fun k => (impl_nearestLoci.mono_l k) a b c d e f, rfl⟩
noncomputable def impl_nearestLoci.F := fun a b => lim fun k => impl_nearestLoci.f k a b
theorem impl_nearestLoci.F_lim a b : Lim (fun k => impl_nearestLoci.f k a b) (impl_nearestLoci.F a b) := ⟨impl_nearestLoci.mono a b, rfl⟩
theorem impl_nearestLoci.L0_eq a b c d e f : impl_nearestLoci.L0 a b c d e f = (if f < e then (if 0 ≤ f then (if f < (d.length : Int) then ((impl_distance.f ((rd_T58 d f).f1) a).bind fun t441 => (if t441 < b then (if t441 = t441 then (if ([] : List ByteArray).length < 8796093022208 then (impl_nearestLoci.L0 a t441 (([] : List ByteArray) ++ [(rd_T58 d f).f0]) d e (wrap64 (f + 1))) else (none)) else (impl_nearestLoci.L0 a t441 ([] : List ByteArray) d e (wrap64 (f + 1)))) else (if t441 = b then (if c.length < 8796093022208 then (impl_nearestLoci.L0 a b (c ++ [(rd_T58 d f).f0]) d e (wrap64 (f + 1))) else (none)) else (impl_nearestLoci.L0 a b c d e (wrap64 (f + 1)))))) else (none)) else (none)) else (some (b, c))) := by
  refine Lim.succ_eq (impl_nearestLoci.L0_lim ..).mon ?_
  simp only [impl_nearestLoci.l0]
  have m0 := @impl_nearestLoci.L0_lim
  exact li_
theorem impl_nearestLoci.F_eq l0 a1 : impl_nearestLoci.F l0 a1 = (impl_nearestLoci.L0 a1 181 ([] : List ByteArray) l0 (l0.length : Int) 0) := by
  refine Lim.eq_ ?_
  simp only [impl_nearestLoci.f]
  have m0 := @impl_nearestLoci.L0_lim
  exact li_
def impl_pointsAt.f (k : Nat) (l0 : List (S58)) (a1 : Int) : Option (ByteArray) := (impl_nearestLoci.f k l0 a1).bind fun bt448 => (if bt448.1 > 20 then (some (⟨#[]⟩ : ByteArray)) else (if (bt448.2.length : Int) = 1 then (if 0 < (bt448.2.length : Int) then (some (rdOf ByteArray.empty bt448.2 0)) else (none)) else (some (⟨#[]⟩ : ByteArray))))
theorem impl_pointsAt.mono : ∀ a0 a1 k, LeO (impl_pointsAt.f k a0 a1) (impl_pointsAt.f (k + 1) a0 a1) := by
  intro a0 a1 k
  unfold impl_pointsAt.f
  have m0 := @impl_nearestLoci.mono
  exact mo_
noncomputable def impl_pointsAt.F := fun a b => lim fun k => impl_pointsAt.f k a b
theorem impl_pointsAt.F_lim a b : Lim (fun k => impl_pointsAt.f k a b) (impl_pointsAt.F a b) := ⟨impl_pointsAt.mono a b, rfl⟩
theorem impl_pointsAt.F_eq l0 a1 : impl_pointsAt.F l0 a1 = ((impl_nearestLoci.F l0 a1).bind fun bt448 => (if bt448.1 > 20 then (some (⟨#[]⟩ : ByteArray)) else (if (bt448.2.length : Int) = 1 then (if 0 < (bt448.2.length : Int) then (some (rdOf ByteArray.empty bt448.2 0)) else (none)) else (some (⟨#[]⟩ : ByteArray))))) := by
  refine Lim.eq_ ?_
  simp only [impl_pointsAt.f]
  have m0 := @impl_nearestLoci.F_lim
  exact li_
def impl_Verb_meaning.f (k : Nat) (a0_0 : ByteArray) (a0_1 : Int) (a0_2 : Int) (l1 : List (S58)) : Option (ByteArray × ByteArray) := (impl_pointsAt.f k l1 a0_1).bind fun t454 => ((impl_pointsAt.f k l1 a0_2).bind fun t455 => (if t454.toList = ([] : List UInt8) then (some ((⟨#[]⟩ : ByteArray), (⟨#[]⟩ : ByteArray))) else (if t455.toList = ([] : List UInt8) then (some ((⟨#[]⟩ : ByteArray), (⟨#[]⟩ : ByteArray))) else (if t454.toList = t455.toList then (some ((⟨#[]⟩ : ByteArray), (⟨#[]⟩ : ByteArray))) else (some (t454, t455))))))
theorem impl_Verb_meaning.mono : ∀ a0 a1 a2 a3 k, LeO (impl_Verb_meaning.f k a0 a1 a2 a3) (impl_Verb_meaning.f (k + 1) a0 a1 a2 a3) := by
  intro a0 a1 a2 a3 k
  unfold impl_Verb_meaning.f
  have m0 := @impl_pointsAt.mono
  exact mo_
noncomputable def impl_Verb_meaning.F := fun a b c d => lim fun k => impl_Verb_meaning.f k a b c d
theorem impl_Verb_meaning.F_lim a b c d : Lim (fun k => impl_Verb_meaning.f k a b c d) (impl_Verb_meaning.F a b c d) := ⟨impl_Verb_meaning.mono a b c d, rfl⟩
theorem impl_Verb_meaning.F_eq a0_0 a0_1 a0_2 l1 : impl_Verb_meaning.F a0_0 a0_1 a0_2 l1 = ((impl_pointsAt.F l1 a0_1).bind fun t454 => ((impl_pointsAt.F l1 a0_2).bind fun t455 => (if t454.toList = ([] : List UInt8) then (some ((⟨#[]⟩ : ByteArray), (⟨#[]⟩ : ByteArray))) else (if t455.toList = ([] : List UInt8) then (some ((⟨#[]⟩ : ByteArray), (⟨#[]⟩ : ByteArray))) else (if t454.toList = t455.toList then (some ((⟨#[]⟩ : ByteArray), (⟨#[]⟩ : ByteArray))) else (some (t454, t455))))))) := by
  refine Lim.eq_ ?_
  simp only [impl_Verb_meaning.f]
  have m0 := @impl_pointsAt.F_lim
  exact li_
def impl_MeaningOf.f (k : Nat) (l0 : List (S58)) (a1_0 : ByteArray) (a1_1 : Int) (a1_2 : Int) : Option (ByteArray × ByteArray × Bool) := (impl_AreLoci.f k l0).bind fun t457 => (if t457 = true then ((impl_IsVerb.f k a1_0 a1_1 a1_2).bind fun t458 => (if t458 = true then ((impl_Verb_meaning.f k a1_0 a1_1 a1_2 l0).bind fun bt459 => (some (bt459.1, bt459.2, (bt459.1.toList != ([] : List UInt8))))) else (some ((⟨#[]⟩ : ByteArray), (⟨#[]⟩ : ByteArray), false)))) else (some ((⟨#[]⟩ : ByteArray), (⟨#[]⟩ : ByteArray), false)))
theorem impl_MeaningOf.mono : ∀ a0 a1 a2 a3 k, LeO (impl_MeaningOf.f k a0 a1 a2 a3) (impl_MeaningOf.f (k + 1) a0 a1 a2 a3) := by
  intro a0 a1 a2 a3 k
  unfold impl_MeaningOf.f
  have m0 := @impl_AreLoci.mono
  have m1 := @impl_IsVerb.mono
  have m2 := @impl_Verb_meaning.mono
  exact mo_
noncomputable def impl_MeaningOf.F := fun a b c d => lim fun k => impl_MeaningOf.f k a b c d
theorem impl_MeaningOf.F_lim a b c d : Lim (fun k => impl_MeaningOf.f k a b c d) (impl_MeaningOf.F a b c d) := ⟨impl_MeaningOf.mono a b c d, rfl⟩
theorem impl_MeaningOf.F_eq l0 a1_0 a1_1 a1_2 : impl_MeaningOf.F l0 a1_0 a1_1 a1_2 = ((impl_AreLoci.F l0).bind fun t457 => (if t457 = true then ((impl_IsVerb.F a1_0 a1_1 a1_2).bind fun t458 => (if t458 = true then ((impl_Verb_meaning.F a1_0 a1_1 a1_2 l0).bind fun bt459 => (some (bt459.1, bt459.2, (bt459.1.toList != ([] : List UInt8))))) else (some ((⟨#[]⟩ : ByteArray), (⟨#[]⟩ : ByteArray), false)))) else (some ((⟨#[]⟩ : ByteArray), (⟨#[]⟩ : ByteArray), false)))) := by
  refine Lim.eq_ ?_
  simp only [impl_MeaningOf.f]
  have m0 := @impl_AreLoci.F_lim
  have m1 := @impl_IsVerb.F_lim
  have m2 := @impl_Verb_meaning.F_lim
  exact li_
def spec_veOne.f (k : Nat) (a0_0 : ByteArray) (a0_1 : Int) (a0_2 : Int) : Option (Bool) := (spec_fsWord.f k a0_0).bind fun t462 => (if t462 = true then ((spec_loAngle.f a0_1).bind fun t463 => (if t463 = true then ((spec_loAngle.f a0_2).bind fun t464 => (if t464 = true then (some (a0_1 != a0_2)) else (some false))) else (some false))) else (some false))
theorem spec_veOne.mono : ∀ a0 a1 a2 k, LeO (spec_veOne.f k a0 a1 a2) (spec_veOne.f (k + 1) a0 a1 a2) := by
  intro a0 a1 a2 k
  unfold spec_veOne.f
  have m0 := @spec_fsWord.mono
  exact mo_
noncomputable def spec_veOne.F := fun a b c => lim fun k => spec_veOne.f k a b c
theorem spec_veOne.F_lim a b c : Lim (fun k => spec_veOne.f k a b c) (spec_veOne.F a b c) := ⟨spec_veOne.mono a b c, rfl⟩
theorem spec_veOne.F_eq a0_0 a0_1 a0_2 : spec_veOne.F a0_0 a0_1 a0_2 = ((spec_fsWord.F a0_0).bind fun t462 => (if t462 = true then ((spec_loAngle.f a0_1).bind fun t463 => (if t463 = true then ((spec_loAngle.f a0_2).bind fun t464 => (if t464 = true then (some (a0_1 != a0_2)) else (some false))) else (some false))) else (some false))) := by
  refine Lim.eq_ ?_
  simp only [spec_veOne.f]
  have m0 := @spec_fsWord.F_lim
  exact li_
def spec_l1Abs.f (a0 : Int) : Option (Int) := (spec_l1Most.f a0 (wrap64 (-a0))).bind fun t465 => (some t465)
def spec_loLeast.l0 : Nat → Int → Int → Int → List (S58) → Int → Int → Option (Int × Int)
  | 0, _, _, _, _, _, _ => none
  | k + 1, a, b, c, d, e, f => if f < e then (if 0 ≤ f then (if f < (d.length : Int) then ((spec_l1Abs.f (wrap64 (((rd_T58 d f).f1) - a))).bind fun t468 => (if t468 < b then (spec_loLeast.l0 k a t468 1 d e (wrap64 (f + 1))) else (if t468 = b then (spec_loLeast.l0 k a b (wrap64 (c + 1)) d e (wrap64 (f + 1))) else (spec_loLeast.l0 k a b c d e (wrap64 (f + 1)))))) else (none)) else (none)) else (some (b, c))
def spec_loLeast.f (k : Nat) (l0 : List (S58)) (a1 : Int) : Option (Int × Int) := spec_loLeast.l0 k a1 181 0 l0 (l0.length : Int) 0
theorem spec_loLeast.mono_l : ∀ k, (∀ a b c d e f, LeO (spec_loLeast.l0 k a b c d e f) (spec_loLeast.l0 (k + 1) a b c d e f))
  | 0 => fun _ _ _ _ _ _ => LeO.none _
  | k + 1 => by
    have ih0 := spec_loLeast.mono_l k
    · intros; unfold spec_loLeast.l0; exact mo_
theorem spec_loLeast.mono : ∀ a0 a1 k, LeO (spec_loLeast.f k a0 a1) (spec_loLeast.f (k + 1) a0 a1) := by
  intro a0 a1 k
  have ih0 := spec_loLeast.mono_l k
  unfold spec_loLeast.f
  exact mo_
noncomputable def spec_loLeast.L0 := fun a b c d e f => lim fun k => spec_loLeast.l0 k a b c d e f
theorem spec_loLeast.L0_lim a b c d e f : Lim (fun k => spec_loLeast.l0 k a b c d e f) (spec_loLeast.L0 a b c d e f) := ⟨fun k => (spec_loLeast.mono_l k) a b c d e f, rfl⟩
noncomputable def spec_loLeast.F := fun a b => lim fun k => spec_loLeast.f k a b
theorem spec_loLeast.F_lim a b : Lim (fun k => spec_loLeast.f k a b) (spec_loLeast.F a b) := ⟨spec_loLeast.mono a b, rfl⟩
theorem spec_loLeast.L0_eq a b c d e f : spec_loLeast.L0 a b c d e f = (if f < e then (if 0 ≤ f then (if f < (d.length : Int) then ((spec_l1Abs.f (wrap64 (((rd_T58 d f).f1) - a))).bind fun t468 => (if t468 < b then (spec_loLeast.L0 a t468 1 d e (wrap64 (f + 1))) else (if t468 = b then (spec_loLeast.L0 a b (wrap64 (c + 1)) d e (wrap64 (f + 1))) else (spec_loLeast.L0 a b c d e (wrap64 (f + 1)))))) else (none)) else (none)) else (some (b, c))) := by
  refine Lim.succ_eq (spec_loLeast.L0_lim ..).mon ?_
  simp only [spec_loLeast.l0]
  have m0 := @spec_loLeast.L0_lim
  exact li_
theorem spec_loLeast.F_eq l0 a1 : spec_loLeast.F l0 a1 = (spec_loLeast.L0 a1 181 0 l0 (l0.length : Int) 0) := by
  refine Lim.eq_ ?_
  simp only [spec_loLeast.f]
  have m0 := @spec_loLeast.L0_lim
  exact li_
mutual
def spec_loMeans.j0 : Nat → List (S58) → Int → Int → Bool → Option (ByteArray × Bool)
  | 0, _, _, _, _ => none
  | k + 1, a, b, c, d => if d = true then (some ((⟨#[]⟩ : ByteArray), false)) else (spec_loMeans.l0 k b c a (a.length : Int) 0)
def spec_loMeans.l0 : Nat → Int → Int → List (S58) → Int → Int → Option (ByteArray × Bool)
  | 0, _, _, _, _, _ => none
  | k + 1, a, b, c, d, e => if e < d then (if 0 ≤ e then (if e < (c.length : Int) then ((spec_l1Abs.f (wrap64 (((rd_T58 c e).f1) - a))).bind fun t473 => (if t473 = b then (some ((rd_T58 c e).f0, true)) else (spec_loMeans.l0 k a b c d (wrap64 (e + 1))))) else (none)) else (none)) else (some ((⟨#[]⟩ : ByteArray), false))
end
def spec_loMeans.f (k : Nat) (l0 : List (S58)) (a1 : Int) : Option (ByteArray × Bool) := (spec_loLeast.f k l0 a1).bind fun bt469 => (if bt469.1 > 20 then (spec_loMeans.j0 k l0 a1 bt469.1 true) else (spec_loMeans.j0 k l0 a1 bt469.1 (bt469.2 != 1)))
theorem spec_loMeans.mono_l : ∀ k, (∀ a b c d, LeO (spec_loMeans.j0 k a b c d) (spec_loMeans.j0 (k + 1) a b c d)) ∧ (∀ a b c d e, LeO (spec_loMeans.l0 k a b c d e) (spec_loMeans.l0 (k + 1) a b c d e))
  | 0 => ⟨fun _ _ _ _ => LeO.none _, fun _ _ _ _ _ => LeO.none _⟩
  | k + 1 => by
    obtain ⟨ih0, ih1⟩ := spec_loMeans.mono_l k
    have m0 := @spec_loLeast.mono
    refine ⟨?_, ?_⟩
    · intros; unfold spec_loMeans.j0; exact mo_
    · intros; unfold spec_loMeans.l0; exact mo_
theorem spec_loMeans.mono : ∀ a0 a1 k, LeO (spec_loMeans.f k a0 a1) (spec_loMeans.f (k + 1) a0 a1) := by
  intro a0 a1 k
  obtain ⟨ih0, ih1⟩ := spec_loMeans.mono_l k
  unfold spec_loMeans.f
  have m0 := @spec_loLeast.mono
  exact mo_
noncomputable def spec_loMeans.J0 := fun a b c d => lim fun k => spec_loMeans.j0 k a b c d
theorem spec_loMeans.J0_lim a b c d : Lim (fun k => spec_loMeans.j0 k a b c d) (spec_loMeans.J0 a b c d) := ⟨fun k => (spec_loMeans.mono_l k).1 a b c d, rfl⟩
noncomputable def spec_loMeans.L0 := fun a b c d e => lim fun k => spec_loMeans.l0 k a b c d e
theorem spec_loMeans.L0_lim a b c d e : Lim (fun k => spec_loMeans.l0 k a b c d e) (spec_loMeans.L0 a b c d e) := ⟨fun k => (spec_loMeans.mono_l k).2 a b c d e, rfl⟩
noncomputable def spec_loMeans.F := fun a b => lim fun k => spec_loMeans.f k a b
theorem spec_loMeans.F_lim a b : Lim (fun k => spec_loMeans.f k a b) (spec_loMeans.F a b) := ⟨spec_loMeans.mono a b, rfl⟩
theorem spec_loMeans.J0_eq a b c d : spec_loMeans.J0 a b c d = (if d = true then (some ((⟨#[]⟩ : ByteArray), false)) else (spec_loMeans.L0 b c a (a.length : Int) 0)) := by
  refine Lim.succ_eq (spec_loMeans.J0_lim ..).mon ?_
  simp only [spec_loMeans.j0]
  have m0 := @spec_loMeans.L0_lim
  exact li_
theorem spec_loMeans.L0_eq a b c d e : spec_loMeans.L0 a b c d e = (if e < d then (if 0 ≤ e then (if e < (c.length : Int) then ((spec_l1Abs.f (wrap64 (((rd_T58 c e).f1) - a))).bind fun t473 => (if t473 = b then (some ((rd_T58 c e).f0, true)) else (spec_loMeans.L0 a b c d (wrap64 (e + 1))))) else (none)) else (none)) else (some ((⟨#[]⟩ : ByteArray), false))) := by
  refine Lim.succ_eq (spec_loMeans.L0_lim ..).mon ?_
  simp only [spec_loMeans.l0]
  have m0 := @spec_loMeans.L0_lim
  exact li_
theorem spec_loMeans.F_eq l0 a1 : spec_loMeans.F l0 a1 = ((spec_loLeast.F l0 a1).bind fun bt469 => (if bt469.1 > 20 then (spec_loMeans.J0 l0 a1 bt469.1 true) else (spec_loMeans.J0 l0 a1 bt469.1 (bt469.2 != 1)))) := by
  refine Lim.eq_ ?_
  simp only [spec_loMeans.f]
  have m0 := @spec_loMeans.J0_lim
  have m1 := @spec_loLeast.F_lim
  exact li_
def spec_veMeans.f (k : Nat) (l0 : List (S58)) (a1_0 : ByteArray) (a1_1 : Int) (a1_2 : Int) : Option (ByteArray × ByteArray × Bool) := (spec_loMeans.f k l0 a1_1).bind fun bt475 => ((spec_loMeans.f k l0 a1_2).bind fun bt477 => (if bt475.2 = true then (if bt477.2 = true then (if bt475.1.toList = bt477.1.toList then (some ((⟨#[]⟩ : ByteArray), (⟨#[]⟩ : ByteArray), false)) else (some (bt475.1, bt477.1, true))) else (some ((⟨#[]⟩ : ByteArray), (⟨#[]⟩ : ByteArray), false))) else (some ((⟨#[]⟩ : ByteArray), (⟨#[]⟩ : ByteArray), false))))
theorem spec_veMeans.mono : ∀ a0 a1 a2 a3 k, LeO (spec_veMeans.f k a0 a1 a2 a3) (spec_veMeans.f (k + 1) a0 a1 a2 a3) := by
  intro a0 a1 a2 a3 k
  unfold spec_veMeans.f
  have m0 := @spec_loMeans.mono
  exact mo_
noncomputable def spec_veMeans.F := fun a b c d => lim fun k => spec_veMeans.f k a b c d
theorem spec_veMeans.F_lim a b c d : Lim (fun k => spec_veMeans.f k a b c d) (spec_veMeans.F a b c d) := ⟨spec_veMeans.mono a b c d, rfl⟩
theorem spec_veMeans.F_eq l0 a1_0 a1_1 a1_2 : spec_veMeans.F l0 a1_0 a1_1 a1_2 = ((spec_loMeans.F l0 a1_1).bind fun bt475 => ((spec_loMeans.F l0 a1_2).bind fun bt477 => (if bt475.2 = true then (if bt477.2 = true then (if bt475.1.toList = bt477.1.toList then (some ((⟨#[]⟩ : ByteArray), (⟨#[]⟩ : ByteArray), false)) else (some (bt475.1, bt477.1, true))) else (some ((⟨#[]⟩ : ByteArray), (⟨#[]⟩ : ByteArray), false))) else (some ((⟨#[]⟩ : ByteArray), (⟨#[]⟩ : ByteArray), false))))) := by
  refine Lim.eq_ ?_
  simp only [spec_veMeans.f]
  have m0 := @spec_loMeans.F_lim
  exact li_
def spec_MeaningOf.f (k : Nat) (l0 : List (S58)) (a1_0 : ByteArray) (a1_1 : Int) (a1_2 : Int) : Option (ByteArray × ByteArray × Bool) := (spec_loGood.f k l0).bind fun t480 => (if t480 = true then ((spec_veOne.f k a1_0 a1_1 a1_2).bind fun t481 => (if t481 = true then ((spec_veMeans.f k l0 a1_0 a1_1 a1_2).bind fun bt482 => (some (bt482.1, bt482.2.1, bt482.2.2))) else (some ((⟨#[]⟩ : ByteArray), (⟨#[]⟩ : ByteArray), false)))) else (some ((⟨#[]⟩ : ByteArray), (⟨#[]⟩ : ByteArray), false)))
theorem spec_MeaningOf.mono : ∀ a0 a1 a2 a3 k, LeO (spec_MeaningOf.f k a0 a1 a2 a3) (spec_MeaningOf.f (k + 1) a0 a1 a2 a3) := by
  intro a0 a1 a2 a3 k
  unfold spec_MeaningOf.f
  have m0 := @spec_loGood.mono
  have m1 := @spec_veMeans.mono
  have m2 := @spec_veOne.mono
  exact mo_
noncomputable def spec_MeaningOf.F := fun a b c d => lim fun k => spec_MeaningOf.f k a b c d
theorem spec_MeaningOf.F_lim a b c d : Lim (fun k => spec_MeaningOf.f k a b c d) (spec_MeaningOf.F a b c d) := ⟨spec_MeaningOf.mono a b c d, rfl⟩
theorem spec_MeaningOf.F_eq l0 a1_0 a1_1 a1_2 : spec_MeaningOf.F l0 a1_0 a1_1 a1_2 = ((spec_loGood.F l0).bind fun t480 => (if t480 = true then ((spec_veOne.F a1_0 a1_1 a1_2).bind fun t481 => (if t481 = true then ((spec_veMeans.F l0 a1_0 a1_1 a1_2).bind fun bt482 => (some (bt482.1, bt482.2.1, bt482.2.2))) else (some ((⟨#[]⟩ : ByteArray), (⟨#[]⟩ : ByteArray), false)))) else (some ((⟨#[]⟩ : ByteArray), (⟨#[]⟩ : ByteArray), false)))) := by
  refine Lim.eq_ ?_
  simp only [spec_MeaningOf.f]
  have m0 := @spec_loGood.F_lim
  have m1 := @spec_veMeans.F_lim
  have m2 := @spec_veOne.F_lim
  exact li_
def spec_DrawIsVerb.f (k : Nat) (l0 : List Int) : Option (ByteArray × Int × Int) := (spec_l1Cur_loci.f k l0 0 0).bind fun bt487 => ((spec_l1Cur_verb.f k l0 bt487.2.1 bt487.2.2 bt487.1).bind fun bt492 => (some (bt492.1, bt492.2.1, bt492.2.2.1)))
theorem spec_DrawIsVerb.mono : ∀ a0 k, LeO (spec_DrawIsVerb.f k a0) (spec_DrawIsVerb.f (k + 1) a0) := by
  intro a0 k
  unfold spec_DrawIsVerb.f
  have m0 := @spec_l1Cur_loci.mono
  have m1 := @spec_l1Cur_verb.mono
  exact mo_
noncomputable def spec_DrawIsVerb.F := fun a => lim fun k => spec_DrawIsVerb.f k a
theorem spec_DrawIsVerb.F_lim a : Lim (fun k => spec_DrawIsVerb.f k a) (spec_DrawIsVerb.F a) := ⟨spec_DrawIsVerb.mono a, rfl⟩
theorem spec_DrawIsVerb.F_eq l0 : spec_DrawIsVerb.F l0 = ((spec_l1Cur_loci.F l0 0 0).bind fun bt487 => ((spec_l1Cur_verb.F l0 bt487.2.1 bt487.2.2 bt487.1).bind fun bt492 => (some (bt492.1, bt492.2.1, bt492.2.2.1)))) := by
  refine Lim.eq_ ?_
  simp only [spec_DrawIsVerb.f]
  have m0 := @spec_l1Cur_loci.F_lim
  have m1 := @spec_l1Cur_verb.F_lim
  exact li_
def spec_DrawVerbText.f (k : Nat) (l0 : List Int) : Option (ByteArray × Int × Int) := (spec_DrawIsVerb.f k l0).bind fun bt498 => (some (bt498.1, bt498.2.1, bt498.2.2))
theorem spec_DrawVerbText.mono : ∀ a0 k, LeO (spec_DrawVerbText.f k a0) (spec_DrawVerbText.f (k + 1) a0) := by
  intro a0 k
  unfold spec_DrawVerbText.f
  have m0 := @spec_DrawIsVerb.mono
  exact mo_
noncomputable def spec_DrawVerbText.F := fun a => lim fun k => spec_DrawVerbText.f k a
theorem spec_DrawVerbText.F_lim a : Lim (fun k => spec_DrawVerbText.f k a) (spec_DrawVerbText.F a) := ⟨spec_DrawVerbText.mono a, rfl⟩
theorem spec_DrawVerbText.F_eq l0 : spec_DrawVerbText.F l0 = ((spec_DrawIsVerb.F l0).bind fun bt498 => (some (bt498.1, bt498.2.1, bt498.2.2))) := by
  refine Lim.eq_ ?_
  simp only [spec_DrawVerbText.f]
  have m0 := @spec_DrawIsVerb.F_lim
  exact li_
def strconv_Itoa.f (a0 : Int) : Option (ByteArray) := if -9223372036854775808 ≤ a0 ∧ a0 ≤ 9223372036854775807 then some ⟨(Lib.itoa a0).toArray⟩ else none
def impl_Verb_text.f (a0_0 : ByteArray) (a0_1 : Int) (a0_2 : Int) : Option (ByteArray) := if a0_0.size + 1 ≤ 9223372036854775807 then ((strconv_Itoa.f a0_1).bind fun t502 => (if (a0_0 ++ (⟨#[58]⟩ : ByteArray)).size + t502.size ≤ 9223372036854775807 then (if ((a0_0 ++ (⟨#[58]⟩ : ByteArray)) ++ t502).size + 1 ≤ 9223372036854775807 then ((strconv_Itoa.f a0_2).bind fun t503 => (if (((a0_0 ++ (⟨#[58]⟩ : ByteArray)) ++ t502) ++ (⟨#[62]⟩ : ByteArray)).size + t503.size ≤ 9223372036854775807 then (some ((((a0_0 ++ (⟨#[58]⟩ : ByteArray)) ++ t502) ++ (⟨#[62]⟩ : ByteArray)) ++ t503)) else (none))) else (none)) else (none))) else (none)
def impl_VerbText.f (k : Nat) (a0_0 : ByteArray) (a0_1 : Int) (a0_2 : Int) : Option (ByteArray × Bool) := (impl_IsVerb.f k a0_0 a0_1 a0_2).bind fun t505 => (if t505 = true then ((impl_Verb_text.f a0_0 a0_1 a0_2).bind fun t506 => (some (t506, true))) else (some ((⟨#[]⟩ : ByteArray), false)))
theorem impl_VerbText.mono : ∀ a0 a1 a2 k, LeO (impl_VerbText.f k a0 a1 a2) (impl_VerbText.f (k + 1) a0 a1 a2) := by
  intro a0 a1 a2 k
  unfold impl_VerbText.f
  have m0 := @impl_IsVerb.mono
  exact mo_
noncomputable def impl_VerbText.F := fun a b c => lim fun k => impl_VerbText.f k a b c
theorem impl_VerbText.F_lim a b c : Lim (fun k => impl_VerbText.f k a b c) (impl_VerbText.F a b c) := ⟨impl_VerbText.mono a b c, rfl⟩
theorem impl_VerbText.F_eq a0_0 a0_1 a0_2 : impl_VerbText.F a0_0 a0_1 a0_2 = ((impl_IsVerb.F a0_0 a0_1 a0_2).bind fun t505 => (if t505 = true then ((impl_Verb_text.f a0_0 a0_1 a0_2).bind fun t506 => (some (t506, true))) else (some ((⟨#[]⟩ : ByteArray), false)))) := by
  refine Lim.eq_ ?_
  simp only [impl_VerbText.f]
  have m0 := @impl_IsVerb.F_lim
  exact li_
def spec_l1Num.f : Nat → Int → Option (ByteArray)
  | 0, _ => none
  | k + 1, a0 => if a0 < 10 then (some (strOfNums (([(wrap64 (48 + a0)) % 256] : List Int)))) else ((spec_l1Num.f k (wrap64 (Int.tdiv a0 10))).bind fun t510 => ((some (([(wrap64 (48 + (Int.tmod a0 10))) % 256] : List Int) : List Int)).bind fun y511 => (if t510.size + (strOfNums y511).size ≤ 9223372036854775807 then (some (t510 ++ (strOfNums y511))) else (none))))
theorem spec_l1Num.mono_l : ∀ k, (∀ a, LeO (spec_l1Num.f k a) (spec_l1Num.f (k + 1) a))
  | 0 => fun _ => LeO.none _
  | k + 1 => by
    have ih0 := spec_l1Num.mono_l k
    · intros; unfold spec_l1Num.f; exact mo_
theorem spec_l1Num.mono : ∀ a0 k, LeO (spec_l1Num.f k a0) (spec_l1Num.f (k + 1) a0) := by
  intro a0 k
  have ih0 := spec_l1Num.mono_l k
  exact ih0 a0
noncomputable def spec_l1Num.F := fun a => lim fun k => spec_l1Num.f k a
theorem spec_l1Num.F_lim a : Lim (fun k => spec_l1Num.f k a) (spec_l1Num.F a) := ⟨spec_l1Num.mono a, rfl⟩
theorem spec_l1Num.F_eq a0 : spec_l1Num.F a0 = (if a0 < 10 then (some (strOfNums (([(wrap64 (48 + a0)) % 256] : List Int)))) else ((spec_l1Num.F (wrap64 (Int.tdiv a0 10))).bind fun t510 => ((some (([(wrap64 (48 + (Int.tmod a0 10))) % 256] : List Int) : List Int)).bind fun y511 => (if t510.size + (strOfNums y511).size ≤ 9223372036854775807 then (some (t510 ++ (strOfNums y511))) else (none))))) := by
  refine Lim.succ_eq (spec_l1Num.F_lim ..).mon ?_
  simp only [spec_l1Num.f]
  have m0 := @spec_l1Num.F_lim
  exact li_
def spec_l1Int.f (k : Nat) (a0 : Int) : Option (ByteArray) := if a0 < 0 then ((spec_l1Num.f k (wrap64 (-a0))).bind fun t514 => (if 1 + t514.size ≤ 9223372036854775807 then (some ((⟨#[45]⟩ : ByteArray) ++ t514)) else (none))) else ((spec_l1Num.f k a0).bind fun t515 => (some t515))
theorem spec_l1Int.mono : ∀ a0 k, LeO (spec_l1Int.f k a0) (spec_l1Int.f (k + 1) a0) := by
  intro a0 k
  unfold spec_l1Int.f
  have m0 := @spec_l1Num.mono
  exact mo_
noncomputable def spec_l1Int.F := fun a => lim fun k => spec_l1Int.f k a
theorem spec_l1Int.F_lim a : Lim (fun k => spec_l1Int.f k a) (spec_l1Int.F a) := ⟨spec_l1Int.mono a, rfl⟩
theorem spec_l1Int.F_eq a0 : spec_l1Int.F a0 = (if a0 < 0 then ((spec_l1Num.F (wrap64 (-a0))).bind fun t514 => (if 1 + t514.size ≤ 9223372036854775807 then (some ((⟨#[45]⟩ : ByteArray) ++ t514)) else (none))) else ((spec_l1Num.F a0).bind fun t515 => (some t515))) := by
  refine Lim.eq_ ?_
  simp only [spec_l1Int.f]
  have m0 := @spec_l1Num.F_lim
  exact li_
def spec_veText.f (k : Nat) (a0_0 : ByteArray) (a0_1 : Int) (a0_2 : Int) : Option (ByteArray) := if a0_0.size + 1 ≤ 9223372036854775807 then ((spec_l1Int.f k a0_1).bind fun t517 => (if (a0_0 ++ (⟨#[58]⟩ : ByteArray)).size + t517.size ≤ 9223372036854775807 then (if ((a0_0 ++ (⟨#[58]⟩ : ByteArray)) ++ t517).size + 1 ≤ 9223372036854775807 then ((spec_l1Int.f k a0_2).bind fun t518 => (if (((a0_0 ++ (⟨#[58]⟩ : ByteArray)) ++ t517) ++ (⟨#[62]⟩ : ByteArray)).size + t518.size ≤ 9223372036854775807 then (some ((((a0_0 ++ (⟨#[58]⟩ : ByteArray)) ++ t517) ++ (⟨#[62]⟩ : ByteArray)) ++ t518)) else (none))) else (none)) else (none))) else (none)
theorem spec_veText.mono : ∀ a0 a1 a2 k, LeO (spec_veText.f k a0 a1 a2) (spec_veText.f (k + 1) a0 a1 a2) := by
  intro a0 a1 a2 k
  unfold spec_veText.f
  have m0 := @spec_l1Int.mono
  exact mo_
noncomputable def spec_veText.F := fun a b c => lim fun k => spec_veText.f k a b c
theorem spec_veText.F_lim a b c : Lim (fun k => spec_veText.f k a b c) (spec_veText.F a b c) := ⟨spec_veText.mono a b c, rfl⟩
theorem spec_veText.F_eq a0_0 a0_1 a0_2 : spec_veText.F a0_0 a0_1 a0_2 = (if a0_0.size + 1 ≤ 9223372036854775807 then ((spec_l1Int.F a0_1).bind fun t517 => (if (a0_0 ++ (⟨#[58]⟩ : ByteArray)).size + t517.size ≤ 9223372036854775807 then (if ((a0_0 ++ (⟨#[58]⟩ : ByteArray)) ++ t517).size + 1 ≤ 9223372036854775807 then ((spec_l1Int.F a0_2).bind fun t518 => (if (((a0_0 ++ (⟨#[58]⟩ : ByteArray)) ++ t517) ++ (⟨#[62]⟩ : ByteArray)).size + t518.size ≤ 9223372036854775807 then (some ((((a0_0 ++ (⟨#[58]⟩ : ByteArray)) ++ t517) ++ (⟨#[62]⟩ : ByteArray)) ++ t518)) else (none))) else (none)) else (none))) else (none)) := by
  refine Lim.eq_ ?_
  simp only [spec_veText.f]
  have m0 := @spec_l1Int.F_lim
  exact li_
def spec_VerbText.f (k : Nat) (a0_0 : ByteArray) (a0_1 : Int) (a0_2 : Int) : Option (ByteArray × Bool) := (spec_veOne.f k a0_0 a0_1 a0_2).bind fun t520 => (if t520 = true then ((spec_veText.f k a0_0 a0_1 a0_2).bind fun t521 => (some (t521, true))) else (some ((⟨#[]⟩ : ByteArray), false)))
theorem spec_VerbText.mono : ∀ a0 a1 a2 k, LeO (spec_VerbText.f k a0 a1 a2) (spec_VerbText.f (k + 1) a0 a1 a2) := by
  intro a0 a1 a2 k
  unfold spec_VerbText.f
  have m0 := @spec_veOne.mono
  have m1 := @spec_veText.mono
  exact mo_
noncomputable def spec_VerbText.F := fun a b c => lim fun k => spec_VerbText.f k a b c
theorem spec_VerbText.F_lim a b c : Lim (fun k => spec_VerbText.f k a b c) (spec_VerbText.F a b c) := ⟨spec_VerbText.mono a b c, rfl⟩
theorem spec_VerbText.F_eq a0_0 a0_1 a0_2 : spec_VerbText.F a0_0 a0_1 a0_2 = ((spec_veOne.F a0_0 a0_1 a0_2).bind fun t520 => (if t520 = true then ((spec_veText.F a0_0 a0_1 a0_2).bind fun t521 => (some (t521, true))) else (some ((⟨#[]⟩ : ByteArray), false)))) := by
  refine Lim.eq_ ?_
  simp only [spec_VerbText.f]
  have m0 := @spec_veOne.F_lim
  have m1 := @spec_veText.F_lim
  exact li_
mutual
def spec_l1Cur_spoilt.l0 : Nat → ByteArray → ByteArray → Int → List Int → Int → Int → Option (ByteArray × Int × Int)
  | 0, _, _, _, _, _, _ => none
  | k + 1, a, b, c, d, e, f => if c > 0 then (spec_l1Cur_spoilt.j1 k a b c (decide ((a.size : Int) > 0)) d e f) else (spec_l1Cur_spoilt.j1 k a b c false d e f)
def spec_l1Cur_spoilt.j1 : Nat → ByteArray → ByteArray → Int → Bool → List Int → Int → Int → Option (ByteArray × Int × Int)
  | 0, _, _, _, _, _, _, _ => none
  | k + 1, a, b, c, d, e, f, g => if d = true then ((spec_l1Cur_pick.f e f g (a.size : Int)).bind fun bt525 => ((spec_l1Cur_pick.f e bt525.2.1 bt525.2.2 (b.size : Int)).bind fun bt528 => (if 0 ≤ bt528.1 then (if bt528.1 < (b.size : Int) then ((some (([bt b bt528.1] : List Int) : List Int)).bind fun y531 => ((spec_l1Cur_pick.f e bt528.2.1 bt528.2.2 3).bind fun bt534 => (if bt534.1 = 0 then (if 0 ≤ bt525.1 then (if bt525.1 ≤ (a.size : Int) then (if (a.extract 0 (bt525.1 : Int).toNat).size + (strOfNums y531).size ≤ 9223372036854775807 then (if ((a.extract 0 (bt525.1 : Int).toNat) ++ (strOfNums y531)).size + (a.extract (bt525.1 : Int).toNat a.size).size ≤ 9223372036854775807 then (spec_l1Cur_spoilt.l0 k (((a.extract 0 (bt525.1 : Int).toNat) ++ (strOfNums y531)) ++ (a.extract (bt525.1 : Int).toNat a.size)) b (wrap64 (c - 1)) e bt534.2.1 bt534.2.2) else (none)) else (none)) else (none)) else (none)) else (if bt534.1 = 1 then (if 0 ≤ bt525.1 then (if bt525.1 ≤ (a.size : Int) then (if (a.extract 0 (bt525.1 : Int).toNat).size + (strOfNums y531).size ≤ 9223372036854775807 then (if 0 ≤ (wrap64 (bt525.1 + 1)) then (if (wrap64 (bt525.1 + 1)) ≤ (a.size : Int) then (if ((a.extract 0 (bt525.1 : Int).toNat) ++ (strOfNums y531)).size + (a.extract ((wrap64 (bt525.1 + 1)) : Int).toNat a.size).size ≤ 9223372036854775807 then (spec_l1Cur_spoilt.l0 k (((a.extract 0 (bt525.1 : Int).toNat) ++ (strOfNums y531)) ++ (a.extract ((wrap64 (bt525.1 + 1)) : Int).toNat a.size)) b (wrap64 (c - 1)) e bt534.2.1 bt534.2.2) else (none)) else (none)) else (none)) else (none)) else (none)) else (none)) else (if 0 ≤ bt525.1 then (if bt525.1 ≤ (a.size : Int) then (if 0 ≤ (wrap64 (bt525.1 + 1)) then (if (wrap64 (bt525.1 + 1)) ≤ (a.size : Int) then (if (a.extract 0 (bt525.1 : Int).toNat).size + (a.extract ((wrap64 (bt525.1 + 1)) : Int).toNat a.size).size ≤ 9223372036854775807 then (spec_l1Cur_spoilt.l0 k ((a.extract 0 (bt525.1 : Int).toNat) ++ (a.extract ((wrap64 (bt525.1 + 1)) : Int).toNat a.size)) b (wrap64 (c - 1)) e bt534.2.1 bt534.2.2) else (none)) else (none)) else (none)) else (none)) else (none)))))) else (none)) else (none)))) else (some (a, f, g))
end
def spec_l1Cur_spoilt.f (k : Nat) (s0_0 : List Int) (s0_1 : Int) (s0_2 : Int) (a1 : ByteArray) (a2 : ByteArray) : Option (ByteArray × Int × Int) := (spec_l1Cur_pick.f s0_0 s0_1 s0_2 2).bind fun bt522 => (spec_l1Cur_spoilt.l0 k a1 a2 (wrap64 (1 + bt522.1)) s0_0 bt522.2.1 bt522.2.2)
theorem spec_l1Cur_spoilt.mono_l : ∀ k, (∀ a b c d e f, LeO (spec_l1Cur_spoilt.l0 k a b c d e f) (spec_l1Cur_spoilt.l0 (k + 1) a b c d e f)) ∧ (∀ a b c d e f g, LeO (spec_l1Cur_spoilt.j1 k a b c d e f g) (spec_l1Cur_spoilt.j1 (k + 1) a b c d e f g))
  | 0 => ⟨fun _ _ _ _ _ _ => LeO.none _, fun _ _ _ _ _ _ _ => LeO.none _⟩
  | k + 1 => by
    obtain ⟨ih0, ih1⟩ := spec_l1Cur_spoilt.mono_l k
    refine ⟨?_, ?_⟩
    · intros; unfold spec_l1Cur_spoilt.l0; exact mo_
    · intros; unfold spec_l1Cur_spoilt.j1; exact mo_
theorem spec_l1Cur_spoilt.mono : ∀ a0 a1 a2 a3 a4 k, LeO (spec_l1Cur_spoilt.f k a0 a1 a2 a3 a4) (spec_l1Cur_spoilt.f (k + 1) a0 a1 a2 a3 a4) := by
  intro a0 a1 a2 a3 a4 k
  obtain ⟨ih0, ih1⟩ := spec_l1Cur_spoilt.mono_l k
  unfold spec_l1Cur_spoilt.f
  exact mo_
noncomputable def spec_l1Cur_spoilt.L0 := fun a b c d e f => lim fun k => spec_l1Cur_spoilt.l0 k a b c d e f
theorem spec_l1Cur_spoilt.L0_lim a b c d e f : Lim (fun k => spec_l1Cur_spoilt.l0 k a b c d e f) (spec_l1Cur_spoilt.L0 a b c d e f) := ⟨fun k => (spec_l1Cur_spoilt.mono_l k).1 a b c d e f, rfl⟩
noncomputable def spec_l1Cur_spoilt.J1 := fun a b c d e f g => lim fun k => spec_l1Cur_spoilt.j1 k a b c d e f g
theorem spec_l1Cur_spoilt.J1_lim a b c d e f g : Lim (fun k => spec_l1Cur_spoilt.j1 k a b c d e f g) (spec_l1Cur_spoilt.J1 a b c d e f g) := ⟨fun k => (spec_l1Cur_spoilt.mono_l k).2 a b c d e f g, rfl⟩
noncomputable def spec_l1Cur_spoilt.F := fun a b c d e => lim fun k => spec_l1Cur_spoilt.f k a b c d e
theorem spec_l1Cur_spoilt.F_lim a b c d e : Lim (fun k => spec_l1Cur_spoilt.f k a b c d e) (spec_l1Cur_spoilt.F a b c d e) := ⟨spec_l1Cur_spoilt.mono a b c d e, rfl⟩
theorem spec_l1Cur_spoilt.L0_eq a b c d e f : spec_l1Cur_spoilt.L0 a b c d e f = (if c > 0 then (spec_l1Cur_spoilt.J1 a b c (decide ((a.size : Int) > 0)) d e f) else (spec_l1Cur_spoilt.J1 a b c false d e f)) := by
  refine Lim.succ_eq (spec_l1Cur_spoilt.L0_lim ..).mon ?_
  simp only [spec_l1Cur_spoilt.l0]
  have m0 := @spec_l1Cur_spoilt.J1_lim
  exact li_
theorem spec_l1Cur_spoilt.J1_eq a b c d e f g : spec_l1Cur_spoilt.J1 a b c d e f g = (if d = true then ((spec_l1Cur_pick.f e f g (a.size : Int)).bind fun bt525 => ((spec_l1Cur_pick.f e bt525.2.1 bt525.2.2 (b.size : Int)).bind fun bt528 => (if 0 ≤ bt528.1 then (if bt528.1 < (b.size : Int) then ((some (([bt b bt528.1] : List Int) : List Int)).bind fun y531 => ((spec_l1Cur_pick.f e bt528.2.1 bt528.2.2 3).bind fun bt534 => (if bt534.1 = 0 then (if 0 ≤ bt525.1 then (if bt525.1 ≤ (a.size : Int) then (if (a.extract 0 (bt525.1 : Int).toNat).size + (strOfNums y531).size ≤ 9223372036854775807 then (if ((a.extract 0 (bt525.1 : Int).toNat) ++ (strOfNums y531)).size + (a.extract (bt525.1 : Int).toNat a.size).size ≤ 9223372036854775807 then (spec_l1Cur_spoilt.L0 (((a.extract 0 (bt525.1 : Int).toNat) ++ (strOfNums y531)) ++ (a.extract (bt525.1 : Int).toNat a.size)) b (wrap64 (c - 1)) e bt534.2.1 bt534.2.2) else (none)) else (none)) else (none)) else (none)) else (if bt534.1 = 1 then (if 0 ≤ bt525.1 then (if bt525.1 ≤ (a.size : Int) then (if (a.extract 0 (bt525.1 : Int).toNat).size + (strOfNums y531).size ≤ 9223372036854775807 then (if 0 ≤ (wrap64 (bt525.1 + 1)) then (if (wrap64 (bt525.1 + 1)) ≤ (a.size : Int) then (if ((a.extract 0 (bt525.1 : Int).toNat) ++ (strOfNums y531)).size + (a.extract ((wrap64 (bt525.1 + 1)) : Int).toNat a.size).size ≤ 9223372036854775807 then (spec_l1Cur_spoilt.L0 (((a.extract 0 (bt525.1 : Int).toNat) ++ (strOfNums y531)) ++ (a.extract ((wrap64 (bt525.1 + 1)) : Int).toNat a.size)) b (wrap64 (c - 1)) e bt534.2.1 bt534.2.2) else (none)) else (none)) else (none)) else (none)) else (none)) else (none)) else (if 0 ≤ bt525.1 then (if bt525.1 ≤ (a.size : Int) then (if 0 ≤ (wrap64 (bt525.1 + 1)) then (if (wrap64 (bt525.1 + 1)) ≤ (a.size : Int) then (if (a.extract 0 (bt525.1 : Int).toNat).size + (a.extract ((wrap64 (bt525.1 + 1)) : Int).toNat a.size).size ≤ 9223372036854775807 then (spec_l1Cur_spoilt.L0 ((a.extract 0 (bt525.1 : Int).toNat) ++ (a.extract ((wrap64 (bt525.1 + 1)) : Int).toNat a.size)) b (wrap64 (c - 1)) e bt534.2.1 bt534.2.2) else (none)) else (none)) else (none)) else (none)) else (none)))))) else (none)) else (none)))) else (some (a, f, g))) := by
  refine Lim.succ_eq (spec_l1Cur_spoilt.J1_lim ..).mon ?_
  simp only [spec_l1Cur_spoilt.j1]
  have m0 := @spec_l1Cur_spoilt.L0_lim
  exact li_
theorem spec_l1Cur_spoilt.F_eq s0_0 s0_1 s0_2 a1 a2 : spec_l1Cur_spoilt.F s0_0 s0_1 s0_2 a1 a2 = ((spec_l1Cur_pick.f s0_0 s0_1 s0_2 2).bind fun bt522 => (spec_l1Cur_spoilt.L0 a1 a2 (wrap64 (1 + bt522.1)) s0_0 bt522.2.1 bt522.2.2)) := by
  refine Lim.eq_ ?_
  simp only [spec_l1Cur_spoilt.f]
  have m0 := @spec_l1Cur_spoilt.L0_lim
  exact li_
def spec_DrawParseVerb.j0 : Nat → ByteArray → List Int → Int → Int → Option (ByteArray)
  | 0, _, _, _, _ => none
  | k + 1, a, b, c, d => (spec_l1Cur_pick.f b c d 4).bind fun bt546 => (if bt546.1 = 0 then ((spec_l1Cur_spoilt.f k b bt546.2.1 bt546.2.2 a (⟨#[58, 62, 45, 48, 49, 57, 71]⟩ : ByteArray)).bind fun bt549 => (some bt549.1)) else (if bt546.1 = 1 then ((spec_l1Cur_of.f b bt546.2.1 bt546.2.2 (([(⟨#[]⟩ : ByteArray), (⟨#[71, 73, 86, 69]⟩ : ByteArray), (⟨#[71, 73, 86, 69, 58, 49, 62, 49]⟩ : ByteArray), (⟨#[71, 73, 86, 69, 58, 45, 48, 62, 53]⟩ : ByteArray), (⟨#[71, 73, 86, 69, 58, 57, 49, 62, 48]⟩ : ByteArray), (⟨#[71, 73, 86, 69, 58, 48, 49, 62, 48]⟩ : ByteArray), (⟨#[103, 105, 118, 101, 58, 49, 62, 50]⟩ : ByteArray), (⟨#[71, 73, 86, 69, 58, 49, 62, 50, 62, 51]⟩ : ByteArray)] : List ByteArray))).bind fun bt555 => (some bt555.1)) else (some a)))
def spec_DrawParseVerb.f (k : Nat) (l0 : List Int) : Option (ByteArray) := (spec_l1Cur_verb.f k l0 0 0 ([] : List (S58))).bind fun bt538 => ((spec_veOne.f k bt538.1 bt538.2.1 bt538.2.2.1).bind fun t544 => (if t544 = true then ((spec_veText.f k bt538.1 bt538.2.1 bt538.2.2.1).bind fun t545 => (spec_DrawParseVerb.j0 k t545 l0 bt538.2.2.2.1 bt538.2.2.2.2)) else (spec_DrawParseVerb.j0 k (⟨#[71, 73, 86, 69, 58, 45, 51, 53, 62, 52, 48]⟩ : ByteArray) l0 bt538.2.2.2.1 bt538.2.2.2.2)))
theorem spec_DrawParseVerb.mono_l : ∀ k, (∀ a b c d, LeO (spec_DrawParseVerb.j0 k a b c d) (spec_DrawParseVerb.j0 (k + 1) a b c d))
  | 0 => fun _ _ _ _ => LeO.none _
  | k + 1 => by
    have ih0 := spec_DrawParseVerb.mono_l k
    have m0 := @spec_l1Cur_spoilt.mono
    have m1 := @spec_l1Cur_verb.mono
    have m2 := @spec_veOne.mono
    have m3 := @spec_veText.mono
    · intros; unfold spec_DrawParseVerb.j0; exact mo_
theorem spec_DrawParseVerb.mono : ∀ a0 k, LeO (spec_DrawParseVerb.f k a0) (spec_DrawParseVerb.f (k + 1) a0) := by
  intro a0 k
  have ih0 := spec_DrawParseVerb.mono_l k
  unfold spec_DrawParseVerb.f
  have m0 := @spec_l1Cur_spoilt.mono
  have m1 := @spec_l1Cur_verb.mono
  have m2 := @spec_veOne.mono
  have m3 := @spec_veText.mono
  exact mo_
noncomputable def spec_DrawParseVerb.J0 := fun a b c d => lim fun k => spec_DrawParseVerb.j0 k a b c d
theorem spec_DrawParseVerb.J0_lim a b c d : Lim (fun k => spec_DrawParseVerb.j0 k a b c d) (spec_DrawParseVerb.J0 a b c d) := ⟨fun k => (spec_DrawParseVerb.mono_l k) a b c d, rfl⟩
noncomputable def spec_DrawParseVerb.F := fun a => lim fun k => spec_DrawParseVerb.f k a
theorem spec_DrawParseVerb.F_lim a : Lim (fun k => spec_DrawParseVerb.f k a) (spec_DrawParseVerb.F a) := ⟨spec_DrawParseVerb.mono a, rfl⟩
theorem spec_DrawParseVerb.J0_eq a b c d : spec_DrawParseVerb.J0 a b c d = ((spec_l1Cur_pick.f b c d 4).bind fun bt546 => (if bt546.1 = 0 then ((spec_l1Cur_spoilt.F b bt546.2.1 bt546.2.2 a (⟨#[58, 62, 45, 48, 49, 57, 71]⟩ : ByteArray)).bind fun bt549 => (some bt549.1)) else (if bt546.1 = 1 then ((spec_l1Cur_of.f b bt546.2.1 bt546.2.2 (([(⟨#[]⟩ : ByteArray), (⟨#[71, 73, 86, 69]⟩ : ByteArray), (⟨#[71, 73, 86, 69, 58, 49, 62, 49]⟩ : ByteArray), (⟨#[71, 73, 86, 69, 58, 45, 48, 62, 53]⟩ : ByteArray), (⟨#[71, 73, 86, 69, 58, 57, 49, 62, 48]⟩ : ByteArray), (⟨#[71, 73, 86, 69, 58, 48, 49, 62, 48]⟩ : ByteArray), (⟨#[103, 105, 118, 101, 58, 49, 62, 50]⟩ : ByteArray), (⟨#[71, 73, 86, 69, 58, 49, 62, 50, 62, 51]⟩ : ByteArray)] : List ByteArray))).bind fun bt555 => (some bt555.1)) else (some a)))) := by
  refine Lim.succ_eq (spec_DrawParseVerb.J0_lim ..).mon ?_
  simp only [spec_DrawParseVerb.j0]
  have m0 := @spec_l1Cur_spoilt.F_lim
  exact li_
theorem spec_DrawParseVerb.F_eq l0 : spec_DrawParseVerb.F l0 = ((spec_l1Cur_verb.F l0 0 0 ([] : List (S58))).bind fun bt538 => ((spec_veOne.F bt538.1 bt538.2.1 bt538.2.2.1).bind fun t544 => (if t544 = true then ((spec_veText.F bt538.1 bt538.2.1 bt538.2.2.1).bind fun t545 => (spec_DrawParseVerb.J0 t545 l0 bt538.2.2.2.1 bt538.2.2.2.2)) else (spec_DrawParseVerb.J0 (⟨#[71, 73, 86, 69, 58, 45, 51, 53, 62, 52, 48]⟩ : ByteArray) l0 bt538.2.2.2.1 bt538.2.2.2.2)))) := by
  refine Lim.eq_ ?_
  simp only [spec_DrawParseVerb.f]
  have m0 := @spec_DrawParseVerb.J0_lim
  have m1 := @spec_l1Cur_verb.F_lim
  have m2 := @spec_veOne.F_lim
  have m3 := @spec_veText.F_lim
  exact li_
def stringslite_Index.f (a0 : ByteArray) (a1 : ByteArray) : Option (Int) := if a1.size = 1 then some (Lib.indexByte a0.data.toList (a1.data.toList.getD 0 0)) else none
def stringslite_Cut.f (a0 : ByteArray) (a1 : ByteArray) : Option (ByteArray × ByteArray × Bool) := (stringslite_Index.f a0 a1).bind fun t558 => (if t558 ≥ 0 then (if 0 ≤ t558 then (if t558 ≤ (a0.size : Int) then (if 0 ≤ (wrap64 (t558 + (a1.size : Int))) then (if (wrap64 (t558 + (a1.size : Int))) ≤ (a0.size : Int) then (some (a0.extract 0 (t558 : Int).toNat, a0.extract ((wrap64 (t558 + (a1.size : Int))) : Int).toNat a0.size, true)) else (none)) else (none)) else (none)) else (none)) else (some (a0, (⟨#[]⟩ : ByteArray), false)))
def strings_Cut.f (a0 : ByteArray) (a1 : ByteArray) : Option (ByteArray × ByteArray × Bool) := (stringslite_Cut.f a0 a1).bind fun bt559 => (some (bt559.1, bt559.2.1, bt559.2.2))
def impl_decimal.f (a0 : ByteArray) : Option (Int × Bool) := if a0.size ≤ 281474976710656 then some (match Lib.atoiAll a0.data.toList with | .ok v => if Lib.itoa v = a0.data.toList then (v, true) else (0, false) | _ => (0, false)) else none
def impl_ParseVerb.f (k : Nat) (a0 : ByteArray) : Option (ByteArray × Int × Int × Bool) := (strings_Cut.f a0 (⟨#[58]⟩ : ByteArray)).bind fun bt563 => ((strings_Cut.f bt563.2.1 (⟨#[62]⟩ : ByteArray)).bind fun bt566 => ((impl_decimal.f bt566.1).bind fun bt570 => ((impl_decimal.f bt566.2.1).bind fun bt572 => ((impl_IsVerb.f k bt563.1 bt570.1 bt572.1).bind fun t574 => (if t574 = true then ((impl_Verb_text.f bt563.1 bt570.1 bt572.1).bind fun t575 => (if t575.toList = a0.toList then (some (bt563.1, bt570.1, bt572.1, true)) else (some ((⟨#[]⟩ : ByteArray), 0, 0, false)))) else (some ((⟨#[]⟩ : ByteArray), 0, 0, false)))))))
theorem impl_ParseVerb.mono : ∀ a0 k, LeO (impl_ParseVerb.f k a0) (impl_ParseVerb.f (k + 1) a0) := by
  intro a0 k
  unfold impl_ParseVerb.f
  have m0 := @impl_IsVerb.mono
  exact mo_
noncomputable def impl_ParseVerb.F := fun a => lim fun k => impl_ParseVerb.f k a
theorem impl_ParseVerb.F_lim a : Lim (fun k => impl_ParseVerb.f k a) (impl_ParseVerb.F a) := ⟨impl_ParseVerb.mono a, rfl⟩
theorem impl_ParseVerb.F_eq a0 : impl_ParseVerb.F a0 = ((strings_Cut.f a0 (⟨#[58]⟩ : ByteArray)).bind fun bt563 => ((strings_Cut.f bt563.2.1 (⟨#[62]⟩ : ByteArray)).bind fun bt566 => ((impl_decimal.f bt566.1).bind fun bt570 => ((impl_decimal.f bt566.2.1).bind fun bt572 => ((impl_IsVerb.F bt563.1 bt570.1 bt572.1).bind fun t574 => (if t574 = true then ((impl_Verb_text.f bt563.1 bt570.1 bt572.1).bind fun t575 => (if t575.toList = a0.toList then (some (bt563.1, bt570.1, bt572.1, true)) else (some ((⟨#[]⟩ : ByteArray), 0, 0, false)))) else (some ((⟨#[]⟩ : ByteArray), 0, 0, false)))))))) := by
  refine Lim.eq_ ?_
  simp only [impl_ParseVerb.f]
  have m0 := @impl_IsVerb.F_lim
  exact li_
def spec_l1Split.l0 : Nat → ByteArray → Int → List ByteArray → Int → Int → Option (List ByteArray)
  | 0, _, _, _, _, _ => none
  | k + 1, a, b, c, d, e => if e < (a.size : Int) then (if 0 ≤ e then (if (bt a e) = b then (if 0 ≤ d then (if d ≤ e then (if e ≤ (a.size : Int) then (if c.length < 8796093022208 then (spec_l1Split.l0 k a b (c ++ [a.extract (d : Int).toNat (e : Int).toNat]) (wrap64 (e + 1)) (wrap64 (e + 1))) else (none)) else (none)) else (none)) else (none)) else (spec_l1Split.l0 k a b c d (wrap64 (e + 1)))) else (none)) else (if 0 ≤ d then (if d ≤ (a.size : Int) then (if c.length < 8796093022208 then (some (c ++ [a.extract (d : Int).toNat a.size])) else (none)) else (none)) else (none))
def spec_l1Split.f (k : Nat) (a0 : ByteArray) (a1 : Int) : Option (List ByteArray) := spec_l1Split.l0 k a0 a1 ([] : List ByteArray) 0 0
theorem spec_l1Split.mono_l : ∀ k, (∀ a b c d e, LeO (spec_l1Split.l0 k a b c d e) (spec_l1Split.l0 (k + 1) a b c d e))
  | 0 => fun _ _ _ _ _ => LeO.none _
  | k + 1 => by
    have ih0 := spec_l1Split.mono_l k
    · intros; unfold spec_l1Split.l0; exact mo_
theorem spec_l1Split.mono : ∀ a0 a1 k, LeO (spec_l1Split.f k a0 a1) (spec_l1Split.f (k + 1) a0 a1) := by
  intro a0 a1 k
  have ih0 := spec_l1Split.mono_l k
  unfold spec_l1Split.f
  exact mo_
noncomputable def spec_l1Split.L0 := fun a b c d e => lim fun k => spec_l1Split.l0 k a b c d e
theorem spec_l1Split.L0_lim a b c d e : Lim (fun k => spec_l1Split.l0 k a b c d e) (spec_l1Split.L0 a b c d e) := ⟨fun k => (spec_l1Split.mono_l k) a b c d e, rfl⟩
noncomputable def spec_l1Split.F := fun a b => lim fun k => spec_l1Split.f k a b
theorem spec_l1Split.F_lim a b : Lim (fun k => spec_l1Split.f k a b) (spec_l1Split.F a b) := ⟨spec_l1Split.mono a b, rfl⟩
theorem spec_l1Split.L0_eq a b c d e : spec_l1Split.L0 a b c d e = (if e < (a.size : Int) then (if 0 ≤ e then (if (bt a e) = b then (if 0 ≤ d then (if d ≤ e then (if e ≤ (a.size : Int) then (if c.length < 8796093022208 then (spec_l1Split.L0 a b (c ++ [a.extract (d : Int).toNat (e : Int).toNat]) (wrap64 (e + 1)) (wrap64 (e + 1))) else (none)) else (none)) else (none)) else (none)) else (spec_l1Split.L0 a b c d (wrap64 (e + 1)))) else (none)) else (if 0 ≤ d then (if d ≤ (a.size : Int) then (if c.length < 8796093022208 then (some (c ++ [a.extract (d : Int).toNat a.size])) else (none)) else (none)) else (none))) := by
  refine Lim.succ_eq (spec_l1Split.L0_lim ..).mon ?_
  simp only [spec_l1Split.l0]
  have m0 := @spec_l1Split.L0_lim
  exact li_
theorem spec_l1Split.F_eq a0 a1 : spec_l1Split.F a0 a1 = (spec_l1Split.L0 a0 a1 ([] : List ByteArray) 0 0) := by
  refine Lim.eq_ ?_
  simp only [spec_l1Split.f]
  have m0 := @spec_l1Split.L0_lim
  exact li_
mutual
def spec_l1Read.j0 : Nat → ByteArray → Bool → Option (Int)
  | 0, _, _ => none
  | k + 1, a, b => if b = true then (some (-1)) else (spec_l1Read.l0 k a 0 0)
def spec_l1Read.l0 : Nat → ByteArray → Int → Int → Option (Int)
  | 0, _, _, _ => none
  | k + 1, a, b, c => if c < (a.size : Int) then (if 0 ≤ c then (if (bt a c) < 48 then (some (-1)) else (if (bt a c) > 57 then (some (-1)) else (spec_l1Read.l0 k a (wrap64 ((wrap64 (10 * b)) + (((bt a c) - 48) % 256))) (wrap64 (c + 1))))) else (none)) else (some b)
end
def spec_l1Read.f (k : Nat) (a0 : ByteArray) : Option (Int) := (spec_l1In.f (a0.size : Int) 1 6).bind fun t582 => (if t582 = true then (if 0 < (a0.size : Int) then (if (bt a0 0) = 48 then (spec_l1Read.j0 k a0 (decide ((a0.size : Int) > 1))) else (spec_l1Read.j0 k a0 false)) else (none)) else (spec_l1Read.j0 k a0 true))
theorem spec_l1Read.mono_l : ∀ k, (∀ a b, LeO (spec_l1Read.j0 k a b) (spec_l1Read.j0 (k + 1) a b)) ∧ (∀ a b c, LeO (spec_l1Read.l0 k a b c) (spec_l1Read.l0 (k + 1) a b c))
  | 0 => ⟨fun _ _ => LeO.none _, fun _ _ _ => LeO.none _⟩
  | k + 1 => by
    obtain ⟨ih0, ih1⟩ := spec_l1Read.mono_l k
    refine ⟨?_, ?_⟩
    · intros; unfold spec_l1Read.j0; exact mo_
    · intros; unfold spec_l1Read.l0; exact mo_
theorem spec_l1Read.mono : ∀ a0 k, LeO (spec_l1Read.f k a0) (spec_l1Read.f (k + 1) a0) := by
  intro a0 k
  obtain ⟨ih0, ih1⟩ := spec_l1Read.mono_l k
  unfold spec_l1Read.f
  exact mo_
noncomputable def spec_l1Read.J0 := fun a b => lim fun k => spec_l1Read.j0 k a b
theorem spec_l1Read.J0_lim a b : Lim (fun k => spec_l1Read.j0 k a b) (spec_l1Read.J0 a b) := ⟨fun k => (spec_l1Read.mono_l k).1 a b, rfl⟩
noncomputable def spec_l1Read.L0 := fun a b c => lim fun k => spec_l1Read.l0 k a b c
theorem spec_l1Read.L0_lim a b c : Lim (fun k => spec_l1Read.l0 k a b c) (spec_l1Read.L0 a b c) := ⟨fun k => (spec_l1Read.mono_l k).2 a b c, rfl⟩
noncomputable def spec_l1Read.F := fun a => lim fun k => spec_l1Read.f k a
theorem spec_l1Read.F_lim a : Lim (fun k => spec_l1Read.f k a) (spec_l1Read.F a) := ⟨spec_l1Read.mono a, rfl⟩
theorem spec_l1Read.J0_eq a b : spec_l1Read.J0 a b = (if b = true then (some (-1)) else (spec_l1Read.L0 a 0 0)) := by
  refine Lim.succ_eq (spec_l1Read.J0_lim ..).mon ?_
  simp only [spec_l1Read.j0]
  have m0 := @spec_l1Read.L0_lim
  exact li_
theorem spec_l1Read.L0_eq a b c : spec_l1Read.L0 a b c = (if c < (a.size : Int) then (if 0 ≤ c then (if (bt a c) < 48 then (some (-1)) else (if (bt a c) > 57 then (some (-1)) else (spec_l1Read.L0 a (wrap64 ((wrap64 (10 * b)) + (((bt a c) - 48) % 256))) (wrap64 (c + 1))))) else (none)) else (some b)) := by
  refine Lim.succ_eq (spec_l1Read.L0_lim ..).mon ?_
  simp only [spec_l1Read.l0]
  have m0 := @spec_l1Read.L0_lim
  exact li_
theorem spec_l1Read.F_eq a0 : spec_l1Read.F a0 = ((spec_l1In.f (a0.size : Int) 1 6).bind fun t582 => (if t582 = true then (if 0 < (a0.size : Int) then (if (bt a0 0) = 48 then (spec_l1Read.J0 a0 (decide ((a0.size : Int) > 1))) else (spec_l1Read.J0 a0 false)) else (none)) else (spec_l1Read.J0 a0 true))) := by
  refine Lim.eq_ ?_
  simp only [spec_l1Read.f]
  have m0 := @spec_l1Read.J0_lim
  exact li_
def spec_veRead.j0 : Nat → ByteArray → Bool → Option (Int)
  | 0, _, _ => none
  | k + 1, a, b => if b = true then (if 1 ≤ (a.size : Int) then ((spec_l1Read.f k (a.extract 1 a.size)).bind fun t584 => (some (wrap64 (-t584)))) else (none)) else ((spec_l1Read.f k a).bind fun t585 => (if t585 ≥ 0 then (some t585) else (some 999)))
def spec_veRead.f (k : Nat) (a0 : ByteArray) : Option (Int) := if (a0.size : Int) > 1 then (if 0 < (a0.size : Int) then (if (bt a0 0) = 45 then (if 1 ≤ (a0.size : Int) then ((spec_l1Read.f k (a0.extract 1 a0.size)).bind fun t583 => (spec_veRead.j0 k a0 (decide (t583 ≥ 0)))) else (none)) else (spec_veRead.j0 k a0 false)) else (none)) else (spec_veRead.j0 k a0 false)
theorem spec_veRead.mono_l : ∀ k, (∀ a b, LeO (spec_veRead.j0 k a b) (spec_veRead.j0 (k + 1) a b))
  | 0 => fun _ _ => LeO.none _
  | k + 1 => by
    have ih0 := spec_veRead.mono_l k
    have m0 := @spec_l1Read.mono
    · intros; unfold spec_veRead.j0; exact mo_
theorem spec_veRead.mono : ∀ a0 k, LeO (spec_veRead.f k a0) (spec_veRead.f (k + 1) a0) := by
  intro a0 k
  have ih0 := spec_veRead.mono_l k
  unfold spec_veRead.f
  have m0 := @spec_l1Read.mono
  exact mo_
noncomputable def spec_veRead.J0 := fun a b => lim fun k => spec_veRead.j0 k a b
theorem spec_veRead.J0_lim a b : Lim (fun k => spec_veRead.j0 k a b) (spec_veRead.J0 a b) := ⟨fun k => (spec_veRead.mono_l k) a b, rfl⟩
noncomputable def spec_veRead.F := fun a => lim fun k => spec_veRead.f k a
theorem spec_veRead.F_lim a : Lim (fun k => spec_veRead.f k a) (spec_veRead.F a) := ⟨spec_veRead.mono a, rfl⟩
theorem spec_veRead.J0_eq a b : spec_veRead.J0 a b = (if b = true then (if 1 ≤ (a.size : Int) then ((spec_l1Read.F (a.extract 1 a.size)).bind fun t584 => (some (wrap64 (-t584)))) else (none)) else ((spec_l1Read.F a).bind fun t585 => (if t585 ≥ 0 then (some t585) else (some 999)))) := by
  refine Lim.succ_eq (spec_veRead.J0_lim ..).mon ?_
  simp only [spec_veRead.j0]
  have m0 := @spec_l1Read.F_lim
  exact li_
theorem spec_veRead.F_eq a0 : spec_veRead.F a0 = (if (a0.size : Int) > 1 then (if 0 < (a0.size : Int) then (if (bt a0 0) = 45 then (if 1 ≤ (a0.size : Int) then ((spec_l1Read.F (a0.extract 1 a0.size)).bind fun t583 => (spec_veRead.J0 a0 (decide (t583 ≥ 0)))) else (none)) else (spec_veRead.J0 a0 false)) else (none)) else (spec_veRead.J0 a0 false)) := by
  refine Lim.eq_ ?_
  simp only [spec_veRead.f]
  have m0 := @spec_veRead.J0_lim
  have m1 := @spec_l1Read.F_lim
  exact li_
def spec_ParseVerb.f (k : Nat) (a0 : ByteArray) : Option (ByteArray × Int × Int × Bool) := (spec_l1Split.f k a0 58).bind fun t587 => (if (t587.length : Int) = 2 then (if 1 < (t587.length : Int) then ((spec_l1Split.f k (rdOf ByteArray.empty t587 1) 62).bind fun t591 => (if (t591.length : Int) = 2 then (if 0 < (t587.length : Int) then (if 0 < (t591.length : Int) then ((spec_veRead.f k (rdOf ByteArray.empty t591 0)).bind fun t596 => (if 1 < (t591.length : Int) then ((spec_veRead.f k (rdOf ByteArray.empty t591 1)).bind fun t598 => ((spec_veOne.f k (rdOf ByteArray.empty t587 0) t596 t598).bind fun t600 => (if t600 = true then ((spec_veText.f k (rdOf ByteArray.empty t587 0) t596 t598).bind fun t601 => (if t601.toList = a0.toList then (some (rdOf ByteArray.empty t587 0, t596, t598, true)) else (some ((⟨#[]⟩ : ByteArray), 0, 0, false)))) else (some ((⟨#[]⟩ : ByteArray), 0, 0, false))))) else (none))) else (none)) else (none)) else (some ((⟨#[]⟩ : ByteArray), 0, 0, false)))) else (none)) else (some ((⟨#[]⟩ : ByteArray), 0, 0, false)))
theorem spec_ParseVerb.mono : ∀ a0 k, LeO (spec_ParseVerb.f k a0) (spec_ParseVerb.f (k + 1) a0) := by
  intro a0 k
  unfold spec_ParseVerb.f
  have m0 := @spec_l1Split.mono
  have m1 := @spec_veOne.mono
  have m2 := @spec_veRead.mono
  have m3 := @spec_veText.mono
  exact mo_
noncomputable def spec_ParseVerb.F := fun a => lim fun k => spec_ParseVerb.f k a
theorem spec_ParseVerb.F_lim a : Lim (fun k => spec_ParseVerb.f k a) (spec_ParseVerb.F a) := ⟨spec_ParseVerb.mono a, rfl⟩
theorem spec_ParseVerb.F_eq a0 : spec_ParseVerb.F a0 = ((spec_l1Split.F a0 58).bind fun t587 => (if (t587.length : Int) = 2 then (if 1 < (t587.length : Int) then ((spec_l1Split.F (rdOf ByteArray.empty t587 1) 62).bind fun t591 => (if (t591.length : Int) = 2 then (if 0 < (t587.length : Int) then (if 0 < (t591.length : Int) then ((spec_veRead.F (rdOf ByteArray.empty t591 0)).bind fun t596 => (if 1 < (t591.length : Int) then ((spec_veRead.F (rdOf ByteArray.empty t591 1)).bind fun t598 => ((spec_veOne.F (rdOf ByteArray.empty t587 0) t596 t598).bind fun t600 => (if t600 = true then ((spec_veText.F (rdOf ByteArray.empty t587 0) t596 t598).bind fun t601 => (if t601.toList = a0.toList then (some (rdOf ByteArray.empty t587 0, t596, t598, true)) else (some ((⟨#[]⟩ : ByteArray), 0, 0, false)))) else (some ((⟨#[]⟩ : ByteArray), 0, 0, false))))) else (none))) else (none)) else (none)) else (some ((⟨#[]⟩ : ByteArray), 0, 0, false)))) else (none)) else (some ((⟨#[]⟩ : ByteArray), 0, 0, false)))) := by
  refine Lim.eq_ ?_
  simp only [spec_ParseVerb.f]
  have m0 := @spec_l1Split.F_lim
  have m1 := @spec_veOne.F_lim
  have m2 := @spec_veRead.F_lim
  have m3 := @spec_veText.F_lim
  exact li_
def impl_ReverseVerb.f (k : Nat) (a0_0 : ByteArray) (a0_1 : Int) (a0_2 : Int) : Option (ByteArray × Int × Int × Bool) := (impl_IsVerb.f k a0_0 a0_1 a0_2).bind fun t604 => (if t604 = true then (some (a0_0, a0_2, a0_1, true)) else (some ((⟨#[]⟩ : ByteArray), 0, 0, false)))
theorem impl_ReverseVerb.mono : ∀ a0 a1 a2 k, LeO (impl_ReverseVerb.f k a0 a1 a2) (impl_ReverseVerb.f (k + 1) a0 a1 a2) := by
  intro a0 a1 a2 k
  unfold impl_ReverseVerb.f
  have m0 := @impl_IsVerb.mono
  exact mo_
noncomputable def impl_ReverseVerb.F := fun a b c => lim fun k => impl_ReverseVerb.f k a b c
theorem impl_ReverseVerb.F_lim a b c : Lim (fun k => impl_ReverseVerb.f k a b c) (impl_ReverseVerb.F a b c) := ⟨impl_ReverseVerb.mono a b c, rfl⟩
theorem impl_ReverseVerb.F_eq a0_0 a0_1 a0_2 : impl_ReverseVerb.F a0_0 a0_1 a0_2 = ((impl_IsVerb.F a0_0 a0_1 a0_2).bind fun t604 => (if t604 = true then (some (a0_0, a0_2, a0_1, true)) else (some ((⟨#[]⟩ : ByteArray), 0, 0, false)))) := by
  refine Lim.eq_ ?_
  simp only [impl_ReverseVerb.f]
  have m0 := @impl_IsVerb.F_lim
  exact li_
def spec_ReverseVerb.f (k : Nat) (a0_0 : ByteArray) (a0_1 : Int) (a0_2 : Int) : Option (ByteArray × Int × Int × Bool) := (spec_veOne.f k a0_0 a0_1 a0_2).bind fun t607 => (if t607 = true then (some (a0_0, a0_2, a0_1, true)) else (some ((⟨#[]⟩ : ByteArray), 0, 0, false)))
theorem spec_ReverseVerb.mono : ∀ a0 a1 a2 k, LeO (spec_ReverseVerb.f k a0 a1 a2) (spec_ReverseVerb.f (k + 1) a0 a1 a2) := by
  intro a0 a1 a2 k
  unfold spec_ReverseVerb.f
  have m0 := @spec_veOne.mono
  exact mo_
noncomputable def spec_ReverseVerb.F := fun a b c => lim fun k => spec_ReverseVerb.f k a b c
theorem spec_ReverseVerb.F_lim a b c : Lim (fun k => spec_ReverseVerb.f k a b c) (spec_ReverseVerb.F a b c) := ⟨spec_ReverseVerb.mono a b c, rfl⟩
theorem spec_ReverseVerb.F_eq a0_0 a0_1 a0_2 : spec_ReverseVerb.F a0_0 a0_1 a0_2 = ((spec_veOne.F a0_0 a0_1 a0_2).bind fun t607 => (if t607 = true then (some (a0_0, a0_2, a0_1, true)) else (some ((⟨#[]⟩ : ByteArray), 0, 0, false)))) := by
  refine Lim.eq_ ?_
  simp only [spec_ReverseVerb.f]
  have m0 := @spec_veOne.F_lim
  exact li_
def impl_AgreesWith.f (k : Nat) (l0 : List (S58)) (a1_0 : ByteArray) (a1_1 : Int) (a1_2 : Int) (a2 : ByteArray) (a3 : ByteArray) : Option (Bool × Bool) := (impl_areReferents.f k l0 (([a2, a3] : List ByteArray))).bind fun t612 => (if t612 = true then ((impl_IsVerb.f k a1_0 a1_1 a1_2).bind fun t613 => (if t613 = true then ((impl_Verb_meaning.f k a1_0 a1_1 a1_2 l0).bind fun bt614 => (if bt614.1.toList = a2.toList then (some ((bt614.2.toList == a3.toList), true)) else (some (false, true)))) else (some (false, false)))) else (some (false, false)))
theorem impl_AgreesWith.mono : ∀ a0 a1 a2 a3 a4 a5 k, LeO (impl_AgreesWith.f k a0 a1 a2 a3 a4 a5) (impl_AgreesWith.f (k + 1) a0 a1 a2 a3 a4 a5) := by
  intro a0 a1 a2 a3 a4 a5 k
  unfold impl_AgreesWith.f
  have m0 := @impl_IsVerb.mono
  have m1 := @impl_Verb_meaning.mono
  have m2 := @impl_areReferents.mono
  exact mo_
noncomputable def impl_AgreesWith.F := fun a b c d e f => lim fun k => impl_AgreesWith.f k a b c d e f
theorem impl_AgreesWith.F_lim a b c d e f : Lim (fun k => impl_AgreesWith.f k a b c d e f) (impl_AgreesWith.F a b c d e f) := ⟨impl_AgreesWith.mono a b c d e f, rfl⟩
theorem impl_AgreesWith.F_eq l0 a1_0 a1_1 a1_2 a2 a3 : impl_AgreesWith.F l0 a1_0 a1_1 a1_2 a2 a3 = ((impl_areReferents.F l0 (([a2, a3] : List ByteArray))).bind fun t612 => (if t612 = true then ((impl_IsVerb.F a1_0 a1_1 a1_2).bind fun t613 => (if t613 = true then ((impl_Verb_meaning.F a1_0 a1_1 a1_2 l0).bind fun bt614 => (if bt614.1.toList = a2.toList then (some ((bt614.2.toList == a3.toList), true)) else (some (false, true)))) else (some (false, false)))) else (some (false, false)))) := by
  refine Lim.eq_ ?_
  simp only [impl_AgreesWith.f]
  have m0 := @impl_IsVerb.F_lim
  have m1 := @impl_Verb_meaning.F_lim
  have m2 := @impl_areReferents.F_lim
  exact li_
mutual
def laws_FnVerbs.j0 : Nat → List (S58) → ByteArray → ByteArray → Bool → List (S58) → Bool → ByteArray → ByteArray → ByteArray → Bool → Bool → ByteArray → Int → Int → ByteArray → Int → Int → ByteArray → Int → Int → ByteArray → Int → Int → Option (Bool)
  | 0, _, _, _, _, _, _, _, _, _, _, _, _, _, _, _, _, _, _, _, _, _, _, _ => none
  | k + 1, a, b, c, d, e, f, g, h, i, j, l, m, n, o, p, q, u, v, w, x, y, z, A => if l = true then (some false) else (if d = true then ((impl_MeaningOf.f k a m n o).bind fun bt675 => ((impl_AgreesWith.f k a m n o b c).bind fun bt678 => (if bt675.2.2 = true then (if bt675.1.toList = b.toList then (if bt675.2.1.toList = c.toList then (if bt678.2 = true then (if bt678.1 = true then (laws_FnVerbs.j1 k e f g h i j p q u v w x y z A) else (some false)) else (some false)) else (some false)) else (some false)) else (some false)))) else (laws_FnVerbs.j1 k e f g h i j p q u v w x y z A))
def laws_FnVerbs.j1 : Nat → List (S58) → Bool → ByteArray → ByteArray → ByteArray → Bool → ByteArray → Int → Int → ByteArray → Int → Int → ByteArray → Int → Int → Option (Bool)
  | 0, _, _, _, _, _, _, _, _, _, _, _, _, _, _, _ => none
  | k + 1, a, b, c, d, e, f, g, h, i, j, l, m, n, o, p => if b = true then ((impl_ReverseVerb.f k g h i).bind fun bt680 => ((impl_MeaningOf.f k a bt680.1 bt680.2.1 bt680.2.2.1).bind fun bt685 => (if bt680.2.2.2 = true then (if bt685.2.2 = true then (if bt685.1.toList = d.toList then (if bt685.2.1.toList = c.toList then (laws_FnVerbs.j2 k e f j l m n o p) else (some false)) else (some false)) else (some false)) else (some false)))) else (laws_FnVerbs.j2 k e f j l m n o p)
def laws_FnVerbs.j2 : Nat → ByteArray → Bool → ByteArray → Int → Int → ByteArray → Int → Int → Option (Bool)
  | 0, _, _, _, _, _, _, _, _ => none
  | k + 1, a, b, c, d, e, f, g, h => if b = true then ((impl_ParseVerb.f k a).bind fun bt688 => ((impl_ReverseVerb.f k f g h).bind fun bt693 => (if bt688.2.2.2 = true then (if (bt688.1.toList == c.toList && (bt688.2.1 == d && (bt688.2.2.1 == e))) = true then (if bt693.2.2.2 = true then (some (bt693.1.toList == c.toList && (bt693.2.1 == d && (bt693.2.2.1 == e)))) else (some false)) else (some false)) else (some false)))) else (some true)
end
def laws_FnVerbs.f (k : Nat) (l0 : List Int) (l1 : List Int) : Option (Bool) := if (wrap64 ((l0.length : Int) + (l1.length : Int))) > 1048576 then (some true) else ((spec_DrawVerbFor.f k l0).bind fun bt616 => ((impl_VerbFor.f k bt616.1 bt616.2.1 bt616.2.2.1 bt616.2.2.2).bind fun bt622 => ((spec_VerbFor.f k bt616.1 bt616.2.1 bt616.2.2.1 bt616.2.2.2).bind fun bt627 => ((spec_DrawMeaningOf.f k l1).bind fun bt632 => ((impl_MeaningOf.f k bt632.1 bt632.2.1 bt632.2.2.1 bt632.2.2.2).bind fun bt639 => ((spec_MeaningOf.f k bt632.1 bt632.2.1 bt632.2.2.1 bt632.2.2.2).bind fun bt642 => ((spec_DrawVerbText.f k l1).bind fun bt645 => ((impl_VerbText.f k bt645.1 bt645.2.1 bt645.2.2).bind fun bt649 => ((spec_VerbText.f k bt645.1 bt645.2.1 bt645.2.2).bind fun bt651 => ((spec_DrawParseVerb.f k l1).bind fun t653 => ((impl_ParseVerb.f k t653).bind fun bt654 => ((spec_ParseVerb.f k t653).bind fun bt659 => ((impl_ReverseVerb.f k bt645.1 bt645.2.1 bt645.2.2).bind fun bt664 => ((spec_ReverseVerb.f k bt645.1 bt645.2.1 bt645.2.2).bind fun bt669 => (if (bt622.2.2.2 != bt627.2.2.2) = true then (laws_FnVerbs.j0 k bt616.1 bt616.2.2.1 bt616.2.2.2 bt622.2.2.2 bt632.1 bt639.2.2 bt642.1 bt642.2.1 bt649.1 bt649.2 true bt622.1 bt622.2.1 bt622.2.2.1 bt632.2.1 bt632.2.2.1 bt632.2.2.2 bt645.1 bt645.2.1 bt645.2.2 bt664.1 bt664.2.1 bt664.2.2.1) else (if (!(bt622.1.toList == bt627.1.toList) || (!(bt622.2.1 == bt627.2.1) || (!(bt622.2.2.1 == bt627.2.2.1)))) = true then (laws_FnVerbs.j0 k bt616.1 bt616.2.2.1 bt616.2.2.2 bt622.2.2.2 bt632.1 bt639.2.2 bt642.1 bt642.2.1 bt649.1 bt649.2 true bt622.1 bt622.2.1 bt622.2.2.1 bt632.2.1 bt632.2.2.1 bt632.2.2.2 bt645.1 bt645.2.1 bt645.2.2 bt664.1 bt664.2.1 bt664.2.2.1) else (if (bt639.2.2 != bt642.2.2) = true then (laws_FnVerbs.j0 k bt616.1 bt616.2.2.1 bt616.2.2.2 bt622.2.2.2 bt632.1 bt639.2.2 bt642.1 bt642.2.1 bt649.1 bt649.2 true bt622.1 bt622.2.1 bt622.2.2.1 bt632.2.1 bt632.2.2.1 bt632.2.2.2 bt645.1 bt645.2.1 bt645.2.2 bt664.1 bt664.2.1 bt664.2.2.1) else (if bt639.1.toList = bt642.1.toList then (if bt639.2.1.toList = bt642.2.1.toList then (if (bt649.2 != bt651.2) = true then (laws_FnVerbs.j0 k bt616.1 bt616.2.2.1 bt616.2.2.2 bt622.2.2.2 bt632.1 bt639.2.2 bt642.1 bt642.2.1 bt649.1 bt649.2 true bt622.1 bt622.2.1 bt622.2.2.1 bt632.2.1 bt632.2.2.1 bt632.2.2.2 bt645.1 bt645.2.1 bt645.2.2 bt664.1 bt664.2.1 bt664.2.2.1) else (if bt649.1.toList = bt651.1.toList then (if (bt654.2.2.2 != bt659.2.2.2) = true then (laws_FnVerbs.j0 k bt616.1 bt616.2.2.1 bt616.2.2.2 bt622.2.2.2 bt632.1 bt639.2.2 bt642.1 bt642.2.1 bt649.1 bt649.2 true bt622.1 bt622.2.1 bt622.2.2.1 bt632.2.1 bt632.2.2.1 bt632.2.2.2 bt645.1 bt645.2.1 bt645.2.2 bt664.1 bt664.2.1 bt664.2.2.1) else (if (!(bt654.1.toList == bt659.1.toList) || (!(bt654.2.1 == bt659.2.1) || (!(bt654.2.2.1 == bt659.2.2.1)))) = true then (laws_FnVerbs.j0 k bt616.1 bt616.2.2.1 bt616.2.2.2 bt622.2.2.2 bt632.1 bt639.2.2 bt642.1 bt642.2.1 bt649.1 bt649.2 true bt622.1 bt622.2.1 bt622.2.2.1 bt632.2.1 bt632.2.2.1 bt632.2.2.2 bt645.1 bt645.2.1 bt645.2.2 bt664.1 bt664.2.1 bt664.2.2.1) else (if (bt664.2.2.2 != bt669.2.2.2) = true then (laws_FnVerbs.j0 k bt616.1 bt616.2.2.1 bt616.2.2.2 bt622.2.2.2 bt632.1 bt639.2.2 bt642.1 bt642.2.1 bt649.1 bt649.2 true bt622.1 bt622.2.1 bt622.2.2.1 bt632.2.1 bt632.2.2.1 bt632.2.2.2 bt645.1 bt645.2.1 bt645.2.2 bt664.1 bt664.2.1 bt664.2.2.1) else (if (!(bt664.1.toList == bt669.1.toList) || (!(bt664.2.1 == bt669.2.1) || (!(bt664.2.2.1 == bt669.2.2.1)))) = true then (laws_FnVerbs.j0 k bt616.1 bt616.2.2.1 bt616.2.2.2 bt622.2.2.2 bt632.1 bt639.2.2 bt642.1 bt642.2.1 bt649.1 bt649.2 true bt622.1 bt622.2.1 bt622.2.2.1 bt632.2.1 bt632.2.2.1 bt632.2.2.2 bt645.1 bt645.2.1 bt645.2.2 bt664.1 bt664.2.1 bt664.2.2.1) else ((impl_IsVerb.f k bt645.1 bt645.2.1 bt645.2.2).bind fun t674 => (if (bt649.2 != t674) = true then (laws_FnVerbs.j0 k bt616.1 bt616.2.2.1 bt616.2.2.2 bt622.2.2.2 bt632.1 bt639.2.2 bt642.1 bt642.2.1 bt649.1 bt649.2 true bt622.1 bt622.2.1 bt622.2.2.1 bt632.2.1 bt632.2.2.1 bt632.2.2.2 bt645.1 bt645.2.1 bt645.2.2 bt664.1 bt664.2.1 bt664.2.2.1) else (laws_FnVerbs.j0 k bt616.1 bt616.2.2.1 bt616.2.2.2 bt622.2.2.2 bt632.1 bt639.2.2 bt642.1 bt642.2.1 bt649.1 bt649.2 (bt664.2.2.2 != bt649.2) bt622.1 bt622.2.1 bt622.2.2.1 bt632.2.1 bt632.2.2.1 bt632.2.2.2 bt645.1 bt645.2.1 bt645.2.2 bt664.1 bt664.2.1 bt664.2.2.1))))))) else (laws_FnVerbs.j0 k bt616.1 bt616.2.2.1 bt616.2.2.2 bt622.2.2.2 bt632.1 bt639.2.2 bt642.1 bt642.2.1 bt649.1 bt649.2 true bt622.1 bt622.2.1 bt622.2.2.1 bt632.2.1 bt632.2.2.1 bt632.2.2.2 bt645.1 bt645.2.1 bt645.2.2 bt664.1 bt664.2.1 bt664.2.2.1))) else (laws_FnVerbs.j0 k bt616.1 bt616.2.2.1 bt616.2.2.2 bt622.2.2.2 bt632.1 bt639.2.2 bt642.1 bt642.2.1 bt649.1 bt649.2 true bt622.1 bt622.2.1 bt622.2.2.1 bt632.2.1 bt632.2.2.1 bt632.2.2.2 bt645.1 bt645.2.1 bt645.2.2 bt664.1 bt664.2.1 bt664.2.2.1)) else (laws_FnVerbs.j0 k bt616.1 bt616.2.2.1 bt616.2.2.2 bt622.2.2.2 bt632.1 bt639.2.2 bt642.1 bt642.2.1 bt649.1 bt649.2 true bt622.1 bt622.2.1 bt622.2.2.1 bt632.2.1 bt632.2.2.1 bt632.2.2.2 bt645.1 bt645.2.1 bt645.2.2 bt664.1 bt664.2.1 bt664.2.2.1)))))))))))))))))))
theorem laws_FnVerbs.mono_l : ∀ k, (∀ a b c d e f g h i j l m n o p q u v w x y z A, LeO (laws_FnVerbs.j0 k a b c d e f g h i j l m n o p q u v w x y z A) (laws_FnVerbs.j0 (k + 1) a b c d e f g h i j l m n o p q u v w x y z A)) ∧ (∀ a b c d e f g h i j l m n o p, LeO (laws_FnVerbs.j1 k a b c d e f g h i j l m n o p) (laws_FnVerbs.j1 (k + 1) a b c d e f g h i j l m n o p)) ∧ (∀ a b c d e f g h, LeO (laws_FnVerbs.j2 k a b c d e f g h) (laws_FnVerbs.j2 (k + 1) a b c d e f g h))
  | 0 => ⟨fun _ _ _ _ _ _ _ _ _ _ _ _ _ _ _ _ _ _ _ _ _ _ _ => LeO.none _, fun _ _ _ _ _ _ _ _ _ _ _ _ _ _ _ => LeO.none _, fun _ _ _ _ _ _ _ _ => LeO.none _⟩
  | k + 1 => by
    obtain ⟨ih0, ih1, ih2⟩ := laws_FnVerbs.mono_l k
    have m0 := @impl_AgreesWith.mono
    have m1 := @impl_IsVerb.mono
    have m2 := @impl_MeaningOf.mono
    have m3 := @impl_ParseVerb.mono
    have m4 := @impl_ReverseVerb.mono
    have m5 := @impl_VerbFor.mono
    have m6 := @impl_VerbText.mono
    have m7 := @spec_DrawMeaningOf.mono
    have m8 := @spec_DrawParseVerb.mono
    have m9 := @spec_DrawVerbFor.mono
    have m10 := @spec_DrawVerbText.mono
    have m11 := @spec_MeaningOf.mono
    have m12 := @spec_ParseVerb.mono
    have m13 := @spec_ReverseVerb.mono
    have m14 := @spec_VerbFor.mono
    have m15 := @spec_VerbText.mono
    refine ⟨?_, ?_, ?_⟩
    · intros; unfold laws_FnVerbs.j0; exact mo_
    · intros; unfold laws_FnVerbs.j1; exact mo_
    · intros; unfold laws_FnVerbs.j2; exact mo_
theorem laws_FnVerbs.mono : ∀ a0 a1 k, LeO (laws_FnVerbs.f k a0 a1) (laws_FnVerbs.f (k + 1) a0 a1) := by
  intro a0 a1 k
  obtain ⟨ih0, ih1, ih2⟩ := laws_FnVerbs.mono_l k
  unfold laws_FnVerbs.f
  have m0 := @impl_AgreesWith.mono
  have m1 := @impl_IsVerb.mono
  have m2 := @impl_MeaningOf.mono
  have m3 := @impl_ParseVerb.mono
  have m4 := @impl_ReverseVerb.mono
  have m5 := @impl_VerbFor.mono
  have m6 := @impl_VerbText.mono
  have m7 := @spec_DrawMeaningOf.mono
  have m8 := @spec_DrawParseVerb.mono
  have m9 := @spec_DrawVerbFor.mono
  have m10 := @spec_DrawVerbText.mono
  have m11 := @spec_MeaningOf.mono
  have m12 := @spec_ParseVerb.mono
  have m13 := @spec_ReverseVerb.mono
  have m14 := @spec_VerbFor.mono
  have m15 := @spec_VerbText.mono
  exact mo_
noncomputable def laws_FnVerbs.J0 := fun a b c d e f g h i j l m n o p q u v w x y z A => lim fun k => laws_FnVerbs.j0 k a b c d e f g h i j l m n o p q u v w x y z A
theorem laws_FnVerbs.J0_lim a b c d e f g h i j l m n o p q u v w x y z A : Lim (fun k => laws_FnVerbs.j0 k a b c d e f g h i j l m n o p q u v w x y z A) (laws_FnVerbs.J0 a b c d e f g h i j l m n o p q u v w x y z A) := ⟨fun k => (laws_FnVerbs.mono_l k).1 a b c d e f g h i j l m n o p q u v w x y z A, rfl⟩
noncomputable def laws_FnVerbs.J1 := fun a b c d e f g h i j l m n o p => lim fun k => laws_FnVerbs.j1 k a b c d e f g h i j l m n o p
theorem laws_FnVerbs.J1_lim a b c d e f g h i j l m n o p : Lim (fun k => laws_FnVerbs.j1 k a b c d e f g h i j l m n o p) (laws_FnVerbs.J1 a b c d e f g h i j l m n o p) := ⟨fun k => (laws_FnVerbs.mono_l k).2.1 a b c d e f g h i j l m n o p, rfl⟩
noncomputable def laws_FnVerbs.J2 := fun a b c d e f g h => lim fun k => laws_FnVerbs.j2 k a b c d e f g h
theorem laws_FnVerbs.J2_lim a b c d e f g h : Lim (fun k => laws_FnVerbs.j2 k a b c d e f g h) (laws_FnVerbs.J2 a b c d e f g h) := ⟨fun k => (laws_FnVerbs.mono_l k).2.2 a b c d e f g h, rfl⟩
noncomputable def laws_FnVerbs.F := fun a b => lim fun k => laws_FnVerbs.f k a b
theorem laws_FnVerbs.F_lim a b : Lim (fun k => laws_FnVerbs.f k a b) (laws_FnVerbs.F a b) := ⟨laws_FnVerbs.mono a b, rfl⟩
theorem laws_FnVerbs.J0_eq a b c d e f g h i j l m n o p q u v w x y z A : laws_FnVerbs.J0 a b c d e f g h i j l m n o p q u v w x y z A = (if l = true then (some false) else (if d = true then ((impl_MeaningOf.F a m n o).bind fun bt675 => ((impl_AgreesWith.F a m n o b c).bind fun bt678 => (if bt675.2.2 = true then (if bt675.1.toList = b.toList then (if bt675.2.1.toList = c.toList then (if bt678.2 = true then (if bt678.1 = true then (laws_FnVerbs.J1 e f g h i j p q u v w x y z A) else (some false)) else (some false)) else (some false)) else (some false)) else (some false)))) else (laws_FnVerbs.J1 e f g h i j p q u v w x y z A))) := by
  refine Lim.succ_eq (laws_FnVerbs.J0_lim ..).mon ?_
  simp only [laws_FnVerbs.j0]
  have m0 := @laws_FnVerbs.J1_lim
  have m1 := @impl_AgreesWith.F_lim
  have m2 := @impl_MeaningOf.F_lim
  exact li_
theorem laws_FnVerbs.J1_eq a b c d e f g h i j l m n o p : laws_FnVerbs.J1 a b c d e f g h i j l m n o p = (if b = true then ((impl_ReverseVerb.F g h i).bind fun bt680 => ((impl_MeaningOf.F a bt680.1 bt680.2.1 bt680.2.2.1).bind fun bt685 => (if bt680.2.2.2 = true then (if bt685.2.2 = true then (if bt685.1.toList = d.toList then (if bt685.2.1.toList = c.toList then (laws_FnVerbs.J2 e f j l m n o p) else (some false)) else (some false)) else (some false)) else (some false)))) else (laws_FnVerbs.J2 e f j l m n o p)) := by
  refine Lim.succ_eq (laws_FnVerbs.J1_lim ..).mon ?_
  simp only [laws_FnVerbs.j1]
  have m0 := @laws_FnVerbs.J2_lim
  have m1 := @impl_MeaningOf.F_lim
  have m2 := @impl_ReverseVerb.F_lim
  exact li_
theorem laws_FnVerbs.J2_eq a b c d e f g h : laws_FnVerbs.J2 a b c d e f g h = (if b = true then ((impl_ParseVerb.F a).bind fun bt688 => ((impl_ReverseVerb.F f g h).bind fun bt693 => (if bt688.2.2.2 = true then (if (bt688.1.toList == c.toList && (bt688.2.1 == d && (bt688.2.2.1 == e))) = true then (if bt693.2.2.2 = true then (some (bt693.1.toList == c.toList && (bt693.2.1 == d && (bt693.2.2.1 == e)))) else (some false)) else (some false)) else (some false)))) else (some true)) := by
  refine Lim.succ_eq (laws_FnVerbs.J2_lim ..).mon ?_
  simp only [laws_FnVerbs.j2]
  have m0 := @impl_ParseVerb.F_lim
  have m1 := @impl_ReverseVerb.F_lim
  exact li_
theorem laws_FnVerbs.F_eq l0 l1 : laws_FnVerbs.F l0 l1 = (if (wrap64 ((l0.length : Int) + (l1.length : Int))) > 1048576 then (some true) else ((spec_DrawVerbFor.F l0).bind fun bt616 => ((impl_VerbFor.F bt616.1 bt616.2.1 bt616.2.2.1 bt616.2.2.2).bind fun bt622 => ((spec_VerbFor.F bt616.1 bt616.2.1 bt616.2.2.1 bt616.2.2.2).bind fun bt627 => ((spec_DrawMeaningOf.F l1).bind fun bt632 => ((impl_MeaningOf.F bt632.1 bt632.2.1 bt632.2.2.1 bt632.2.2.2).bind fun bt639 => ((spec_MeaningOf.F bt632.1 bt632.2.1 bt632.2.2.1 bt632.2.2.2).bind fun bt642 => ((spec_DrawVerbText.F l1).bind fun bt645 => ((impl_VerbText.F bt645.1 bt645.2.1 bt645.2.2).bind fun bt649 => ((spec_VerbText.F bt645.1 bt645.2.1 bt645.2.2).bind fun bt651 => ((spec_DrawParseVerb.F l1).bind fun t653 => ((impl_ParseVerb.F t653).bind fun bt654 => ((spec_ParseVerb.F t653).bind fun bt659 => ((impl_ReverseVerb.F bt645.1 bt645.2.1 bt645.2.2).bind fun bt664 => ((spec_ReverseVerb.F bt645.1 bt645.2.1 bt645.2.2).bind fun bt669 => (if (bt622.2.2.2 != bt627.2.2.2) = true then (laws_FnVerbs.J0 bt616.1 bt616.2.2.1 bt616.2.2.2 bt622.2.2.2 bt632.1 bt639.2.2 bt642.1 bt642.2.1 bt649.1 bt649.2 true bt622.1 bt622.2.1 bt622.2.2.1 bt632.2.1 bt632.2.2.1 bt632.2.2.2 bt645.1 bt645.2.1 bt645.2.2 bt664.1 bt664.2.1 bt664.2.2.1) else (if (!(bt622.1.toList == bt627.1.toList) || (!(bt622.2.1 == bt627.2.1) || (!(bt622.2.2.1 == bt627.2.2.1)))) = true then (laws_FnVerbs.J0 bt616.1 bt616.2.2.1 bt616.2.2.2 bt622.2.2.2 bt632.1 bt639.2.2 bt642.1 bt642.2.1 bt649.1 bt649.2 true bt622.1 bt622.2.1 bt622.2.2.1 bt632.2.1 bt632.2.2.1 bt632.2.2.2 bt645.1 bt645.2.1 bt645.2.2 bt664.1 bt664.2.1 bt664.2.2.1) else (if (bt639.2.2 != bt642.2.2) = true then (laws_FnVerbs.J0 bt616.1 bt616.2.2.1 bt616.2.2.2 bt622.2.2.2 bt632.1 bt639.2.2 bt642.1 bt642.2.1 bt649.1 bt649.2 true bt622.1 bt622.2.1 bt622.2.2.1 bt632.2.1 bt632.2.2.1 bt632.2.2.2 bt645.1 bt645.2.1 bt645.2.2 bt664.1 bt664.2.1 bt664.2.2.1) else (if bt639.1.toList = bt642.1.toList then (if bt639.2.1.toList = bt642.2.1.toList then (if (bt649.2 != bt651.2) = true then (laws_FnVerbs.J0 bt616.1 bt616.2.2.1 bt616.2.2.2 bt622.2.2.2 bt632.1 bt639.2.2 bt642.1 bt642.2.1 bt649.1 bt649.2 true bt622.1 bt622.2.1 bt622.2.2.1 bt632.2.1 bt632.2.2.1 bt632.2.2.2 bt645.1 bt645.2.1 bt645.2.2 bt664.1 bt664.2.1 bt664.2.2.1) else (if bt649.1.toList = bt651.1.toList then (if (bt654.2.2.2 != bt659.2.2.2) = true then (laws_FnVerbs.J0 bt616.1 bt616.2.2.1 bt616.2.2.2 bt622.2.2.2 bt632.1 bt639.2.2 bt642.1 bt642.2.1 bt649.1 bt649.2 true bt622.1 bt622.2.1 bt622.2.2.1 bt632.2.1 bt632.2.2.1 bt632.2.2.2 bt645.1 bt645.2.1 bt645.2.2 bt664.1 bt664.2.1 bt664.2.2.1) else (if (!(bt654.1.toList == bt659.1.toList) || (!(bt654.2.1 == bt659.2.1) || (!(bt654.2.2.1 == bt659.2.2.1)))) = true then (laws_FnVerbs.J0 bt616.1 bt616.2.2.1 bt616.2.2.2 bt622.2.2.2 bt632.1 bt639.2.2 bt642.1 bt642.2.1 bt649.1 bt649.2 true bt622.1 bt622.2.1 bt622.2.2.1 bt632.2.1 bt632.2.2.1 bt632.2.2.2 bt645.1 bt645.2.1 bt645.2.2 bt664.1 bt664.2.1 bt664.2.2.1) else (if (bt664.2.2.2 != bt669.2.2.2) = true then (laws_FnVerbs.J0 bt616.1 bt616.2.2.1 bt616.2.2.2 bt622.2.2.2 bt632.1 bt639.2.2 bt642.1 bt642.2.1 bt649.1 bt649.2 true bt622.1 bt622.2.1 bt622.2.2.1 bt632.2.1 bt632.2.2.1 bt632.2.2.2 bt645.1 bt645.2.1 bt645.2.2 bt664.1 bt664.2.1 bt664.2.2.1) else (if (!(bt664.1.toList == bt669.1.toList) || (!(bt664.2.1 == bt669.2.1) || (!(bt664.2.2.1 == bt669.2.2.1)))) = true then (laws_FnVerbs.J0 bt616.1 bt616.2.2.1 bt616.2.2.2 bt622.2.2.2 bt632.1 bt639.2.2 bt642.1 bt642.2.1 bt649.1 bt649.2 true bt622.1 bt622.2.1 bt622.2.2.1 bt632.2.1 bt632.2.2.1 bt632.2.2.2 bt645.1 bt645.2.1 bt645.2.2 bt664.1 bt664.2.1 bt664.2.2.1) else ((impl_IsVerb.F bt645.1 bt645.2.1 bt645.2.2).bind fun t674 => (if (bt649.2 != t674) = true then (laws_FnVerbs.J0 bt616.1 bt616.2.2.1 bt616.2.2.2 bt622.2.2.2 bt632.1 bt639.2.2 bt642.1 bt642.2.1 bt649.1 bt649.2 true bt622.1 bt622.2.1 bt622.2.2.1 bt632.2.1 bt632.2.2.1 bt632.2.2.2 bt645.1 bt645.2.1 bt645.2.2 bt664.1 bt664.2.1 bt664.2.2.1) else (laws_FnVerbs.J0 bt616.1 bt616.2.2.1 bt616.2.2.2 bt622.2.2.2 bt632.1 bt639.2.2 bt642.1 bt642.2.1 bt649.1 bt649.2 (bt664.2.2.2 != bt649.2) bt622.1 bt622.2.1 bt622.2.2.1 bt632.2.1 bt632.2.2.1 bt632.2.2.2 bt645.1 bt645.2.1 bt645.2.2 bt664.1 bt664.2.1 bt664.2.2.1))))))) else (laws_FnVerbs.J0 bt616.1 bt616.2.2.1 bt616.2.2.2 bt622.2.2.2 bt632.1 bt639.2.2 bt642.1 bt642.2.1 bt649.1 bt649.2 true bt622.1 bt622.2.1 bt622.2.2.1 bt632.2.1 bt632.2.2.1 bt632.2.2.2 bt645.1 bt645.2.1 bt645.2.2 bt664.1 bt664.2.1 bt664.2.2.1))) else (laws_FnVerbs.J0 bt616.1 bt616.2.2.1 bt616.2.2.2 bt622.2.2.2 bt632.1 bt639.2.2 bt642.1 bt642.2.1 bt649.1 bt649.2 true bt622.1 bt622.2.1 bt622.2.2.1 bt632.2.1 bt632.2.2.1 bt632.2.2.2 bt645.1 bt645.2.1 bt645.2.2 bt664.1 bt664.2.1 bt664.2.2.1)) else (laws_FnVerbs.J0 bt616.1 bt616.2.2.1 bt616.2.2.2 bt622.2.2.2 bt632.1 bt639.2.2 bt642.1 bt642.2.1 bt649.1 bt649.2 true bt622.1 bt622.2.1 bt622.2.2.1 bt632.2.1 bt632.2.2.1 bt632.2.2.2 bt645.1 bt645.2.1 bt645.2.2 bt664.1 bt664.2.1 bt664.2.2.1)))))))))))))))))))) := by
  refine Lim.eq_ ?_
  simp only [laws_FnVerbs.f]
  have m0 := @laws_FnVerbs.J0_lim
  have m1 := @impl_IsVerb.F_lim
  have m2 := @impl_MeaningOf.F_lim
  have m3 := @impl_ParseVerb.F_lim
  have m4 := @impl_ReverseVerb.F_lim
  have m5 := @impl_VerbFor.F_lim
  have m6 := @impl_VerbText.F_lim
  have m7 := @spec_DrawMeaningOf.F_lim
  have m8 := @spec_DrawParseVerb.F_lim
  have m9 := @spec_DrawVerbFor.F_lim
  have m10 := @spec_DrawVerbText.F_lim
  have m11 := @spec_MeaningOf.F_lim
  have m12 := @spec_ParseVerb.F_lim
  have m13 := @spec_ReverseVerb.F_lim
  have m14 := @spec_VerbFor.F_lim
  have m15 := @spec_VerbText.F_lim
  exact li_
def laws_FnVerbs.Pure : Prop := ∀ (l0 : List Int) (l1 : List Int), (l0.length ≤ 9223372036854775807 ∧ ∀ y_ ∈ l0, (Lit.int .u8 y_).wf = true) → (l1.length ≤ 9223372036854775807 ∧ ∀ y_ ∈ l1, (Lit.int .u8 y_).wf = true) → ∃ k, laws_FnVerbs.f k l0 l1 = some true
end Go.Proofs.YtfkdlfbjkdkffaaGreatDoor.PFnVerbs
