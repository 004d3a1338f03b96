/- Written by a program of this claim's author, out of the loaded program as Lean prints it: the functions as Lean functions, and that the calls answer so. -/
import Derived.Test.YtbfkpgmdbafmhaaGreatPFnVerbRunsx0
namespace Go.Proofs.YtbfkpgmdbafmhaaGreat.PFnVerbRuns
open Go.RowKit Go.Proofs.YtbfkpgmdbafmhaaGreatW.PrintWords Go.Proofs.YtbfkpgmdbafmhaaGreatW.PrintLast Go.Proofs.YtbfkpgmdbafmhaaGreatW.PrintMore
attribute [local go_sem] max2_int min2_int max_two min_two max_three min_three max_four min_four   -- for this text's walks alone
set_option linter.unusedVariables false
set_option linter.unusedSimpArgs false

def Fbo.f (s0_0 : List Int) (s0_1 : Int) (s0_2 : Int) : Option (Int × Int × Int) := if s0_1 < (s0_0.length : Int) then (if 0 ≤ s0_1 then (if (wrap64 (s0_1 + 1)) ≤ (s0_0.length : Int) then (some (wrap64 (rd s0_0 s0_1), wrap64 (s0_1 + 1), IntKind.u64.wrap ((IntKind.u64.wrap ((IntKind.u64.wrap (s0_2 * 6364136223846793005)) + (IntKind.u64.wrap (wrap64 (rd s0_0 s0_1))))) + 1442695040888963407))) else (some (wrap64 (Go.bits .and .u64 ((IntKind.u64.wrap ((IntKind.u64.wrap ((IntKind.u64.wrap (s0_2 * 6364136223846793005)) + (IntKind.u64.wrap (wrap64 (rd s0_0 s0_1))))) + 1442695040888963407)) / 1099511627776) 255), wrap64 (s0_1 + 1), IntKind.u64.wrap ((IntKind.u64.wrap ((IntKind.u64.wrap (s0_2 * 6364136223846793005)) + (IntKind.u64.wrap (wrap64 (rd s0_0 s0_1))))) + 1442695040888963407)))) else (none)) else (if (wrap64 (s0_1 + 1)) ≤ (s0_0.length : Int) then (some (0, wrap64 (s0_1 + 1), IntKind.u64.wrap ((IntKind.u64.wrap ((IntKind.u64.wrap (s0_2 * 6364136223846793005)))) + 1442695040888963407))) else (some (wrap64 (Go.bits .and .u64 ((IntKind.u64.wrap ((IntKind.u64.wrap ((IntKind.u64.wrap (s0_2 * 6364136223846793005)))) + 1442695040888963407)) / 1099511627776) 255), wrap64 (s0_1 + 1), IntKind.u64.wrap ((IntKind.u64.wrap ((IntKind.u64.wrap (s0_2 * 6364136223846793005)))) + 1442695040888963407))))
def FaJ.f (s0_0 : List Int) (s0_1 : Int) (s0_2 : Int) (a1 : Int) : Option (Int × Int × Int) := if a1 ≤ 1 then (some (0, s0_1, s0_2)) else ((Fbo.f s0_0 s0_1 s0_2).bind fun bt102 => (if a1 > 200 then ((Fbo.f s0_0 bt102.2.1 bt102.2.2).bind fun bt105 => (if a1 = 0 then (none) else (some (Int.tmod (wrap64 ((wrap64 (bt102.1 * 256)) + bt105.1)) a1, bt105.2.1, bt105.2.2)))) else (if a1 = 0 then (none) else (some (Int.tmod bt102.1 a1, bt102.2.1, bt102.2.2)))))
def Fau.l0 : Nat → ByteArray → List (S74) → Int → Int → Option (Int)
  | 0, _, _, _, _ => none
  | k + 1, a, b, c, d => if d < c then (if 0 ≤ d then (if d < (b.length : Int) then (if ((rd_T74 b d).f0).toList = a.toList then (some d) else (Fau.l0 k a b c (wrap64 (d + 1)))) else (none)) else (none)) else (some (-1))
def Fau.f (k : Nat) (l0 : List (S74)) (a1 : ByteArray) : Option (Int) := Fau.l0 k a1 l0 (l0.length : Int) 0
theorem Fau.mono_l : ∀ k, (∀ a b c d, LeO (Fau.l0 k a b c d) (Fau.l0 (k + 1) a b c d))
  | 0 => fun _ _ _ _ => LeO.none _
  | k + 1 => by
    have ih0 := Fau.mono_l k
    · intros; unfold Fau.l0; exact mo_
theorem Fau.mono : ∀ a0 a1 k, LeO (Fau.f k a0 a1) (Fau.f (k + 1) a0 a1) := by
  intro a0 a1 k
  have ih0 := Fau.mono_l k
  unfold Fau.f
  exact mo_
noncomputable def Fau.L0 := fun a b c d => lim fun k => Fau.l0 k a b c d
theorem Fau.L0_lim a b c d : Lim (fun k => Fau.l0 k a b c d) (Fau.L0 a b c d) := ⟨fun k => (Fau.mono_l k) a b c d, rfl⟩
noncomputable def Fau.F := fun a b => lim fun k => Fau.f k a b
theorem Fau.F_lim a b : Lim (fun k => Fau.f k a b) (Fau.F a b) := ⟨Fau.mono a b, rfl⟩
theorem Fau.L0_eq a b c d : Fau.L0 a b c d = (if d < c then (if 0 ≤ d then (if d < (b.length : Int) then (if ((rd_T74 b d).f0).toList = a.toList then (some d) else (Fau.L0 a b c (wrap64 (d + 1)))) else (none)) else (none)) else (some (-1))) := by
  refine Lim.succ_eq (Fau.L0_lim ..).mon ?_
  simp only [Fau.l0]
  have m0 := @Fau.L0_lim
  exact li_
theorem Fau.F_eq l0 a1 : Fau.F l0 a1 = (Fau.L0 a1 l0 (l0.length : Int) 0) := by
  refine Lim.eq_ ?_
  simp only [Fau.f]
  have m0 := @Fau.L0_lim
  exact li_
def Fbw.f (a0 : Int) (a1 : Int) (a2 : Int) : Option (Bool) := if a0 ≥ a1 then (some (decide (a0 ≤ a2))) else (some false)
def FaI.l0 : Nat → ByteArray → Int → Option (Bool)
  | 0, _, _ => none
  | k + 1, a, b => if b < (a.size : Int) then (if 0 ≤ b then (if (bt a b) < 97 then (some false) else (if (bt a b) > 122 then (some false) else (FaI.l0 k a (wrap64 (b + 1))))) else (none)) else ((Fbw.f (a.size : Int) 1 8).bind fun t110 => (some t110))
def FaI.f (k : Nat) (a0 : ByteArray) : Option (Bool) := FaI.l0 k a0 0
theorem FaI.mono_l : ∀ k, (∀ a b, LeO (FaI.l0 k a b) (FaI.l0 (k + 1) a b))
  | 0 => fun _ _ => LeO.none _
  | k + 1 => by
    have ih0 := FaI.mono_l k
    · intros; unfold FaI.l0; exact mo_
theorem FaI.mono : ∀ a0 k, LeO (FaI.f k a0) (FaI.f (k + 1) a0) := by
  intro a0 k
  have ih0 := FaI.mono_l k
  unfold FaI.f
  exact mo_
noncomputable def FaI.L0 := fun a b => lim fun k => FaI.l0 k a b
theorem FaI.L0_lim a b : Lim (fun k => FaI.l0 k a b) (FaI.L0 a b) := ⟨fun k => (FaI.mono_l k) a b, rfl⟩
noncomputable def FaI.F := fun a => lim fun k => FaI.f k a
theorem FaI.F_lim a : Lim (fun k => FaI.f k a) (FaI.F a) := ⟨FaI.mono a, rfl⟩
theorem FaI.L0_eq a b : FaI.L0 a b = (if b < (a.size : Int) then (if 0 ≤ b then (if (bt a b) < 97 then (some false) else (if (bt a b) > 122 then (some false) else (FaI.L0 a (wrap64 (b + 1))))) else (none)) else ((Fbw.f (a.size : Int) 1 8).bind fun t110 => (some t110))) := by
  refine Lim.succ_eq (FaI.L0_lim ..).mon ?_
  simp only [FaI.l0]
  have m0 := @FaI.L0_lim
  exact li_
theorem FaI.F_eq a0 : FaI.F a0 = (FaI.L0 a0 0) := by
  refine Lim.eq_ ?_
  simp only [FaI.f]
  have m0 := @FaI.L0_lim
  exact li_
def Fbc.f (a0 : Int) : Option (Bool) := (Fbw.f a0 (-90) 90).bind fun t111 => (some t111)
def Faj.l0 : Nat → List (S74) → List (S74) → Int → Int → Option (Bool)
  | 0, _, _, _, _ => none
  | k + 1, a, b, c, d => if d < c then (if 0 ≤ d then (if d < (b.length : Int) then ((FaI.f k ((rd_T74 b d).f0)).bind fun t114 => (if t114 = true then ((Fbc.f ((rd_T74 b d).f1)).bind fun t115 => (if t115 = true then (if d > 0 then (if 0 ≤ (wrap64 (d - 1)) then (if (wrap64 (d - 1)) < (a.length : Int) then (if ((rd_T74 a (wrap64 (d - 1))).f1) ≥ ((rd_T74 b d).f1) then (some false) else (if d ≤ (a.length : Int) then ((Fau.f k (a.take (d : Int).toNat) ((rd_T74 b d).f0)).bind fun t121 => (if t121 ≥ 0 then (some false) else (Faj.l0 k a b c (wrap64 (d + 1))))) else (none))) else (none)) else (none)) else (if d ≤ (a.length : Int) then ((Fau.f k (a.take (d : Int).toNat) ((rd_T74 b d).f0)).bind fun t126 => (if t126 ≥ 0 then (some false) else (Faj.l0 k a b c (wrap64 (d + 1))))) else (none))) else (some false))) else (some false))) else (none)) else (none)) else (some (decide ((a.length : Int) ≤ 8)))
def Faj.f (k : Nat) (l0 : List (S74)) : Option (Bool) := Faj.l0 k l0 l0 (l0.length : Int) 0
theorem Faj.mono_l : ∀ k, (∀ a b c d, LeO (Faj.l0 k a b c d) (Faj.l0 (k + 1) a b c d))
  | 0 => fun _ _ _ _ => LeO.none _
  | k + 1 => by
    have ih0 := Faj.mono_l k
    have m0 := @Fau.mono
    have m1 := @FaI.mono
    · intros; unfold Faj.l0; exact mo_
theorem Faj.mono : ∀ a0 k, LeO (Faj.f k a0) (Faj.f (k + 1) a0) := by
  intro a0 k
  have ih0 := Faj.mono_l k
  unfold Faj.f
  have m0 := @Fau.mono
  have m1 := @FaI.mono
  exact mo_
noncomputable def Faj.L0 := fun a b c d => lim fun k => Faj.l0 k a b c d
theorem Faj.L0_lim a b c d : Lim (fun k => Faj.l0 k a b c d) (Faj.L0 a b c d) := ⟨fun k => (Faj.mono_l k) a b c d, rfl⟩
noncomputable def Faj.F := fun a => lim fun k => Faj.f k a
theorem Faj.F_lim a : Lim (fun k => Faj.f k a) (Faj.F a) := ⟨Faj.mono a, rfl⟩
theorem Faj.L0_eq a b c d : Faj.L0 a b c d = (if d < c then (if 0 ≤ d then (if d < (b.length : Int) then ((FaI.F ((rd_T74 b d).f0)).bind fun t114 => (if t114 = true then ((Fbc.f ((rd_T74 b d).f1)).bind fun t115 => (if t115 = true then (if d > 0 then (if 0 ≤ (wrap64 (d - 1)) then (if (wrap64 (d - 1)) < (a.length : Int) then (if ((rd_T74 a (wrap64 (d - 1))).f1) ≥ ((rd_T74 b d).f1) then (some false) else (if d ≤ (a.length : Int) then ((Fau.F (a.take (d : Int).toNat) ((rd_T74 b d).f0)).bind fun t121 => (if t121 ≥ 0 then (some false) else (Faj.L0 a b c (wrap64 (d + 1))))) else (none))) else (none)) else (none)) else (if d ≤ (a.length : Int) then ((Fau.F (a.take (d : Int).toNat) ((rd_T74 b d).f0)).bind fun t126 => (if t126 ≥ 0 then (some false) else (Faj.L0 a b c (wrap64 (d + 1))))) else (none))) else (some false))) else (some false))) else (none)) else (none)) else (some (decide ((a.length : Int) ≤ 8)))) := by
  refine Lim.succ_eq (Faj.L0_lim ..).mon ?_
  simp only [Faj.l0]
  have m0 := @Faj.L0_lim
  have m1 := @Fau.F_lim
  have m2 := @FaI.F_lim
  exact li_
theorem Faj.F_eq l0 : Faj.F l0 = (Faj.L0 l0 l0 (l0.length : Int) 0) := by
  refine Lim.eq_ ?_
  simp only [Faj.f]
  have m0 := @Faj.L0_lim
  exact li_
def Fbg.f (k : Nat) (l0 : List (S74)) : Option ((List (S74)) × Bool) := (Faj.f k l0).bind fun t127 => (if t127 = true then (some (l0, true)) else (some (([] : List (S74)), false)))
theorem Fbg.mono : ∀ a0 k, LeO (Fbg.f k a0) (Fbg.f (k + 1) a0) := by
  intro a0 k
  unfold Fbg.f
  have m0 := @Faj.mono
  exact mo_
noncomputable def Fbg.F := fun a => lim fun k => Fbg.f k a
theorem Fbg.F_lim a : Lim (fun k => Fbg.f k a) (Fbg.F a) := ⟨Fbg.mono a, rfl⟩
theorem Fbg.F_eq l0 : Fbg.F l0 = ((Faj.F l0).bind fun t127 => (if t127 = true then (some (l0, true)) else (some (([] : List (S74)), false)))) := by
  refine Lim.eq_ ?_
  simp only [Fbg.f]
  have m0 := @Faj.F_lim
  exact li_
def FaF.l0 : Nat → List (S74) → Int → ByteArray → Int → Option ((List (S74)))
  | 0, _, _, _, _ => none
  | k + 1, a, b, c, d => if b < (a.length : Int) then (if 0 ≤ b then (if ((rd_T74 a b).f1) < d then (FaF.l0 k a (wrap64 (b + 1)) c d) else ((some (([] : List (S74)) : List (S74))).bind fun y130 => (if b ≤ (a.length : Int) then ((some (a.take (b : Int).toNat : List (S74))).bind fun y133 => (if y130.length + y133.length < 5864062014805 then ((some (y130 ++ y133 : List (S74))).bind fun y137 => ((some (([(⟨c, d⟩ : S74)] : List (S74)) : List (S74))).bind fun y140 => (if y137.length + y140.length < 5864062014805 then ((some (y137 ++ y140 : List (S74))).bind fun y143 => ((some (a.drop (b : Int).toNat : List (S74))).bind fun y146 => (if y143.length + y146.length < 5864062014805 then (some (y143 ++ y146)) else (none)))) else (none)))) else (none))) else (none)))) else (none)) else ((some (([] : List (S74)) : List (S74))).bind fun y153 => (if 0 ≤ b then (if b ≤ (a.length : Int) then ((some (a.take (b : Int).toNat : List (S74))).bind fun y156 => (if y153.length + y156.length < 5864062014805 then ((some (y153 ++ y156 : List (S74))).bind fun y160 => ((some (([(⟨c, d⟩ : S74)] : List (S74)) : List (S74))).bind fun y163 => (if y160.length + y163.length < 5864062014805 then ((some (y160 ++ y163 : List (S74))).bind fun y166 => ((some (a.drop (b : Int).toNat : List (S74))).bind fun y169 => (if y166.length + y169.length < 5864062014805 then (some (y166 ++ y169)) else (none)))) else (none)))) else (none))) else (none)) else (none)))
def FaF.f (k : Nat) (l0 : List (S74)) (a1_0 : ByteArray) (a1_1 : Int) : Option ((List (S74))) := FaF.l0 k l0 0 a1_0 a1_1
theorem FaF.mono_l : ∀ k, (∀ a b c d, LeO (FaF.l0 k a b c d) (FaF.l0 (k + 1) a b c d))
  | 0 => fun _ _ _ _ => LeO.none _
  | k + 1 => by
    have ih0 := FaF.mono_l k
    · intros; unfold FaF.l0; exact mo_
theorem FaF.mono : ∀ a0 a1 a2 k, LeO (FaF.f k a0 a1 a2) (FaF.f (k + 1) a0 a1 a2) := by
  intro a0 a1 a2 k
  have ih0 := FaF.mono_l k
  unfold FaF.f
  exact mo_
noncomputable def FaF.L0 := fun a b c d => lim fun k => FaF.l0 k a b c d
theorem FaF.L0_lim a b c d : Lim (fun k => FaF.l0 k a b c d) (FaF.L0 a b c d) := ⟨fun k => (FaF.mono_l k) a b c d, rfl⟩
noncomputable def FaF.F := fun a b c => lim fun k => FaF.f k a b c
theorem FaF.F_lim a b c : Lim (fun k => FaF.f k a b c) (FaF.F a b c) := ⟨FaF.mono a b c, rfl⟩
theorem FaF.L0_eq a b c d : FaF.L0 a b c d = (if b < (a.length : Int) then (if 0 ≤ b then (if ((rd_T74 a b).f1) < d then (FaF.L0 a (wrap64 (b + 1)) c d) else ((some (([] : List (S74)) : List (S74))).bind fun y130 => (if b ≤ (a.length : Int) then ((some (a.take (b : Int).toNat : List (S74))).bind fun y133 => (if y130.length + y133.length < 5864062014805 then ((some (y130 ++ y133 : List (S74))).bind fun y137 => ((some (([(⟨c, d⟩ : S74)] : List (S74)) : List (S74))).bind fun y140 => (if y137.length + y140.length < 5864062014805 then ((some (y137 ++ y140 : List (S74))).bind fun y143 => ((some (a.drop (b : Int).toNat : List (S74))).bind fun y146 => (if y143.length + y146.length < 5864062014805 then (some (y143 ++ y146)) else (none)))) else (none)))) else (none))) else (none)))) else (none)) else ((some (([] : List (S74)) : List (S74))).bind fun y153 => (if 0 ≤ b then (if b ≤ (a.length : Int) then ((some (a.take (b : Int).toNat : List (S74))).bind fun y156 => (if y153.length + y156.length < 5864062014805 then ((some (y153 ++ y156 : List (S74))).bind fun y160 => ((some (([(⟨c, d⟩ : S74)] : List (S74)) : List (S74))).bind fun y163 => (if y160.length + y163.length < 5864062014805 then ((some (y160 ++ y163 : List (S74))).bind fun y166 => ((some (a.drop (b : Int).toNat : List (S74))).bind fun y169 => (if y166.length + y169.length < 5864062014805 then (some (y166 ++ y169)) else (none)))) else (none)))) else (none))) else (none)) else (none)))) := by
  refine Lim.succ_eq (FaF.L0_lim ..).mon ?_
  simp only [FaF.l0]
  have m0 := @FaF.L0_lim
  exact li_
theorem FaF.F_eq l0 a1_0 a1_1 : FaF.F l0 a1_0 a1_1 = (FaF.L0 l0 0 a1_0 a1_1) := by
  refine Lim.eq_ ?_
  simp only [FaF.f]
  have m0 := @FaF.L0_lim
  exact li_
def FaD.l0 : Nat → ByteArray → List (S74) → List (S74) → Int → Int → Option ((List (S74)))
  | 0, _, _, _, _, _ => none
  | k + 1, a, b, c, d, e => if e < d then (if 0 ≤ e then (if e < (c.length : Int) then (if ((rd_T74 c e).f0).toList = a.toList then (FaD.l0 k a b c d (wrap64 (e + 1))) else (if b.length < 5864062014805 then (FaD.l0 k a (b ++ [(⟨(rd_T74 c e).f0, (rd_T74 c e).f1⟩ : S74)]) c d (wrap64 (e + 1))) else (none))) else (none)) else (none)) else (some b)
def FaD.f (k : Nat) (l0 : List (S74)) (a1 : ByteArray) : Option ((List (S74))) := FaD.l0 k a1 ([] : List (S74)) l0 (l0.length : Int) 0
theorem FaD.mono_l : ∀ k, (∀ a b c d e, LeO (FaD.l0 k a b c d e) (FaD.l0 (k + 1) a b c d e))
  | 0 => fun _ _ _ _ _ => LeO.none _
  | k + 1 => by
    have ih0 := FaD.mono_l k
    · intros; unfold FaD.l0; exact mo_
theorem FaD.mono : ∀ a0 a1 k, LeO (FaD.f k a0 a1) (FaD.f (k + 1) a0 a1) := by
  intro a0 a1 k
  have ih0 := FaD.mono_l k
  unfold FaD.f
  exact mo_
noncomputable def FaD.L0 := fun a b c d e => lim fun k => FaD.l0 k a b c d e
theorem FaD.L0_lim a b c d e : Lim (fun k => FaD.l0 k a b c d e) (FaD.L0 a b c d e) := ⟨fun k => (FaD.mono_l k) a b c d e, rfl⟩
noncomputable def FaD.F := fun a b => lim fun k => FaD.f k a b
theorem FaD.F_lim a b : Lim (fun k => FaD.f k a b) (FaD.F a b) := ⟨FaD.mono a b, rfl⟩
theorem FaD.L0_eq a b c d e : FaD.L0 a b c d e = (if e < d then (if 0 ≤ e then (if e < (c.length : Int) then (if ((rd_T74 c e).f0).toList = a.toList then (FaD.L0 a b c d (wrap64 (e + 1))) else (if b.length < 5864062014805 then (FaD.L0 a (b ++ [(⟨(rd_T74 c e).f0, (rd_T74 c e).f1⟩ : S74)]) c d (wrap64 (e + 1))) else (none))) else (none)) else (none)) else (some b)) := by
  refine Lim.succ_eq (FaD.L0_lim ..).mon ?_
  simp only [FaD.l0]
  have m0 := @FaD.L0_lim
  exact li_
theorem FaD.F_eq l0 a1 : FaD.F l0 a1 = (FaD.L0 a1 ([] : List (S74)) l0 (l0.length : Int) 0) := by
  refine Lim.eq_ ?_
  simp only [FaD.f]
  have m0 := @FaD.L0_lim
  exact li_
def FaA.j0 : Nat → List (S74) → ByteArray → Int → Bool → Option ((List (S74)) × Bool)
  | 0, _, _, _, _ => none
  | k + 1, a, b, c, d => if d = true then (some (([] : List (S74)), false)) else ((FaD.f k a b).bind fun t184 => ((FaF.f k t184 b c).bind fun t187 => ((Fbg.f k t187).bind fun bt190 => (some (bt190.1, bt190.2)))))
def FaA.f (k : Nat) (l0 : List (S74)) (a1 : ByteArray) (a2 : Int) : Option ((List (S74)) × Bool) := (Faj.f k l0).bind fun t181 => (if t181 = true then ((FaI.f k a1).bind fun t182 => (if t182 = true then ((Fbc.f a2).bind fun t183 => (FaA.j0 k l0 a1 a2 (!t183))) else (FaA.j0 k l0 a1 a2 true))) else (FaA.j0 k l0 a1 a2 true))
theorem FaA.mono_l : ∀ k, (∀ a b c d, LeO (FaA.j0 k a b c d) (FaA.j0 (k + 1) a b c d))
  | 0 => fun _ _ _ _ => LeO.none _
  | k + 1 => by
    have ih0 := FaA.mono_l k
    have m0 := @Faj.mono
    have m1 := @Fbg.mono
    have m2 := @FaF.mono
    have m3 := @FaD.mono
    have m4 := @FaI.mono
    · intros; unfold FaA.j0; exact mo_
theorem FaA.mono : ∀ a0 a1 a2 k, LeO (FaA.f k a0 a1 a2) (FaA.f (k + 1) a0 a1 a2) := by
  intro a0 a1 a2 k
  have ih0 := FaA.mono_l k
  unfold FaA.f
  have m0 := @Faj.mono
  have m1 := @Fbg.mono
  have m2 := @FaF.mono
  have m3 := @FaD.mono
  have m4 := @FaI.mono
  exact mo_
noncomputable def FaA.J0 := fun a b c d => lim fun k => FaA.j0 k a b c d
theorem FaA.J0_lim a b c d : Lim (fun k => FaA.j0 k a b c d) (FaA.J0 a b c d) := ⟨fun k => (FaA.mono_l k) a b c d, rfl⟩
noncomputable def FaA.F := fun a b c => lim fun k => FaA.f k a b c
theorem FaA.F_lim a b c : Lim (fun k => FaA.f k a b c) (FaA.F a b c) := ⟨FaA.mono a b c, rfl⟩
theorem FaA.J0_eq a b c d : FaA.J0 a b c d = (if d = true then (some (([] : List (S74)), false)) else ((FaD.F a b).bind fun t184 => ((FaF.F t184 b c).bind fun t187 => ((Fbg.F t187).bind fun bt190 => (some (bt190.1, bt190.2)))))) := by
  refine Lim.succ_eq (FaA.J0_lim ..).mon ?_
  simp only [FaA.j0]
  have m0 := @Fbg.F_lim
  have m1 := @FaF.F_lim
  have m2 := @FaD.F_lim
  exact li_
theorem FaA.F_eq l0 a1 a2 : FaA.F l0 a1 a2 = ((Faj.F l0).bind fun t181 => (if t181 = true then ((FaI.F a1).bind fun t182 => (if t182 = true then ((Fbc.f a2).bind fun t183 => (FaA.J0 l0 a1 a2 (!t183))) else (FaA.J0 l0 a1 a2 true))) else (FaA.J0 l0 a1 a2 true))) := by
  refine Lim.eq_ ?_
  simp only [FaA.f]
  have m0 := @FaA.J0_lim
  have m1 := @Faj.F_lim
  have m2 := @FaI.F_lim
  exact li_
def Fba.f (s0_0 : List Int) (s0_1 : Int) (s0_2 : Int) (l1 : List ByteArray) : Option (ByteArray × Int × Int) := (FaJ.f s0_0 s0_1 s0_2 (l1.length : Int)).bind fun bt194 => (if 0 ≤ bt194.1 then (if bt194.1 < (l1.length : Int) then (some (rdOf ByteArray.empty l1 bt194.1, bt194.2.1, bt194.2.2)) else (none)) else (none))
def Fbs.f (s0_0 : List Int) (s0_1 : Int) (s0_2 : Int) : Option (ByteArray × Int × Int) := (Fba.f s0_0 s0_1 s0_2 (([(⟨#[109, 97, 114, 121]⟩ : ByteArray), (⟨#[106, 111, 104, 110]⟩ : ByteArray), (⟨#[100, 111, 103]⟩ : ByteArray), (⟨#[99, 97, 116]⟩ : ByteArray), (⟨#[115, 105, 103, 110, 101, 114]⟩ : ByteArray)] : List ByteArray))).bind fun bt201 => (some (bt201.1, bt201.2.1, bt201.2.2))
def FaZ.f (s0_0 : List Int) (s0_1 : Int) (s0_2 : Int) (l1 : List Int) : Option (Int × Int × Int) := (FaJ.f s0_0 s0_1 s0_2 (l1.length : Int)).bind fun bt204 => (if 0 ≤ bt204.1 then (if bt204.1 < (l1.length : Int) then (some (rd l1 bt204.1, bt204.2.1, bt204.2.2)) else (none)) else (none))
def Fbi.f (s0_0 : List Int) (s0_1 : Int) (s0_2 : Int) : Option (Int × Int × Int) := (FaJ.f s0_0 s0_1 s0_2 181).bind fun bt208 => ((FaZ.f s0_0 bt208.2.1 bt208.2.2 (([5, 91, (-91), (-9223372036854775808)] : List Int))).bind fun bt214 => ((FaZ.f s0_0 bt214.2.1 bt214.2.2 (([0, (-40), 30, 25, 10, wrap64 (bt208.1 - 90), 90, (-90), bt214.1] : List Int))).bind fun bt220 => (some (bt220.1, bt220.2.1, bt220.2.2))))
def Fbl.f (s0_0 : List Int) (s0_1 : Int) (s0_2 : Int) : Option (ByteArray × Int × Int) := (Fba.f s0_0 s0_1 s0_2 (([(⟨#[115, 105, 103, 110, 101, 114]⟩ : ByteArray), (⟨#[]⟩ : ByteArray), (⟨#[77, 97, 114, 121]⟩ : ByteArray), (⟨#[110, 105, 110, 101, 99, 104, 97, 114, 115]⟩ : ByteArray), (⟨#[122, 122]⟩ : ByteArray)] : List ByteArray))).bind fun bt226 => ((Fba.f s0_0 bt226.2.1 bt226.2.2 (([(⟨#[109, 97, 114, 121]⟩ : ByteArray), (⟨#[106, 111, 104, 110]⟩ : ByteArray), (⟨#[100, 111, 103]⟩ : ByteArray), (⟨#[109, 97, 114, 121]⟩ : ByteArray), bt226.1] : List ByteArray))).bind fun bt232 => (some (bt232.1, bt232.2.1, bt232.2.2)))
mutual
def Fah.l0 : Nat → List (S74) → Int → List Int → Int → Int → Option ((List (S74)) × Int × Int)
  | 0, _, _, _, _, _ => none
  | k + 1, a, b, c, d, e => if b > 0 then ((Fbs.f c d e).bind fun bt238 => ((Fbi.f c bt238.2.1 bt238.2.2).bind fun bt241 => ((FaA.f k a bt238.1 bt241.1).bind fun bt244 => (if bt244.2 = true then (Fah.l0 k bt244.1 (wrap64 (b - 1)) c bt241.2.1 bt241.2.2) else (Fah.l0 k a (wrap64 (b - 1)) c bt241.2.1 bt241.2.2))))) else ((FaJ.f c d e 24).bind fun bt248 => (if bt248.1 = 0 then ((Fbl.f c bt248.2.1 bt248.2.2).bind fun bt251 => ((Fbi.f c bt251.2.1 bt251.2.2).bind fun bt254 => (if a.length < 5864062014805 then (some ((a ++ [(⟨bt251.1, bt254.1⟩ : S74)]), bt254.2.1, bt254.2.2)) else (none)))) else (if bt248.1 = 1 then ((FaJ.f c bt248.2.1 bt248.2.2 2).bind fun bt260 => (Fah.l1 k ([] : List (S74)) (wrap64 (8 + bt260.1)) c bt260.2.1 bt260.2.2)) else (some (a, bt248.2.1, bt248.2.2)))))
def Fah.l1 : Nat → List (S74) → Int → List Int → Int → Int → Option ((List (S74)) × Int × Int)
  | 0, _, _, _, _, _ => none
  | k + 1, a, b, c, d, e => if (a.length : Int) < b then (if 0 ≤ (a.length : Int) then (if (a.length : Int) ≤ (wrap64 ((a.length : Int) + 1)) then (if (wrap64 ((a.length : Int) + 1)) ≤ 9 then (if 1 + ((⟨#[97, 98, 99, 100, 101, 102, 103, 104, 105]⟩ : ByteArray).extract ((a.length : Int) : Int).toNat ((wrap64 ((a.length : Int) + 1)) : Int).toNat).size ≤ 9223372036854775807 then (if a.length < 5864062014805 then (Fah.l1 k (a ++ [(⟨(⟨#[120]⟩ : ByteArray) ++ ((⟨#[97, 98, 99, 100, 101, 102, 103, 104, 105]⟩ : ByteArray).extract ((a.length : Int) : Int).toNat ((wrap64 ((a.length : Int) + 1)) : Int).toNat), wrap64 ((wrap64 (20 * (a.length : Int))) - 90)⟩ : S74)]) b c d e) else (none)) else (none)) else (none)) else (none)) else (none)) else (some (a, d, e))
end
def Fah.f (k : Nat) (s0_0 : List Int) (s0_1 : Int) (s0_2 : Int) : Option ((List (S74)) × Int × Int) := (FaJ.f s0_0 s0_1 s0_2 6).bind fun bt235 => (Fah.l0 k ([] : List (S74)) bt235.1 s0_0 bt235.2.1 bt235.2.2)
theorem Fah.mono_l : ∀ k, (∀ a b c d e, LeO (Fah.l0 k a b c d e) (Fah.l0 (k + 1) a b c d e)) ∧ (∀ a b c d e, LeO (Fah.l1 k a b c d e) (Fah.l1 (k + 1) a b c d e))
  | 0 => ⟨fun _ _ _ _ _ => LeO.none _, fun _ _ _ _ _ => LeO.none _⟩
  | k + 1 => by
    obtain ⟨ih0, ih1⟩ := Fah.mono_l k
    have m0 := @FaA.mono
    refine ⟨?_, ?_⟩
    · intros; unfold Fah.l0; exact mo_
    · intros; unfold Fah.l1; exact mo_
theorem Fah.mono : ∀ a0 a1 a2 k, LeO (Fah.f k a0 a1 a2) (Fah.f (k + 1) a0 a1 a2) := by
  intro a0 a1 a2 k
  obtain ⟨ih0, ih1⟩ := Fah.mono_l k
  unfold Fah.f
  have m0 := @FaA.mono
  exact mo_
noncomputable def Fah.L0 := fun a b c d e => lim fun k => Fah.l0 k a b c d e
theorem Fah.L0_lim a b c d e : Lim (fun k => Fah.l0 k a b c d e) (Fah.L0 a b c d e) := ⟨fun k => (Fah.mono_l k).1 a b c d e, rfl⟩
noncomputable def Fah.L1 := fun a b c d e => lim fun k => Fah.l1 k a b c d e
theorem Fah.L1_lim a b c d e : Lim (fun k => Fah.l1 k a b c d e) (Fah.L1 a b c d e) := ⟨fun k => (Fah.mono_l k).2 a b c d e, rfl⟩
noncomputable def Fah.F := fun a b c => lim fun k => Fah.f k a b c
theorem Fah.F_lim a b c : Lim (fun k => Fah.f k a b c) (Fah.F a b c) := ⟨Fah.mono a b c, rfl⟩
theorem Fah.L0_eq a b c d e : Fah.L0 a b c d e = (if b > 0 then ((Fbs.f c d e).bind fun bt238 => ((Fbi.f c bt238.2.1 bt238.2.2).bind fun bt241 => ((FaA.F a bt238.1 bt241.1).bind fun bt244 => (if bt244.2 = true then (Fah.L0 bt244.1 (wrap64 (b - 1)) c bt241.2.1 bt241.2.2) else (Fah.L0 a (wrap64 (b - 1)) c bt241.2.1 bt241.2.2))))) else ((FaJ.f c d e 24).bind fun bt248 => (if bt248.1 = 0 then ((Fbl.f c bt248.2.1 bt248.2.2).bind fun bt251 => ((Fbi.f c bt251.2.1 bt251.2.2).bind fun bt254 => (if a.length < 5864062014805 then (some ((a ++ [(⟨bt251.1, bt254.1⟩ : S74)]), bt254.2.1, bt254.2.2)) else (none)))) else (if bt248.1 = 1 then ((FaJ.f c bt248.2.1 bt248.2.2 2).bind fun bt260 => (Fah.L1 ([] : List (S74)) (wrap64 (8 + bt260.1)) c bt260.2.1 bt260.2.2)) else (some (a, bt248.2.1, bt248.2.2)))))) := by
  refine Lim.succ_eq (Fah.L0_lim ..).mon ?_
  simp only [Fah.l0]
  have m0 := @Fah.L0_lim
  have m1 := @Fah.L1_lim
  have m2 := @FaA.F_lim
  exact li_
theorem Fah.L1_eq a b c d e : Fah.L1 a b c d e = (if (a.length : Int) < b then (if 0 ≤ (a.length : Int) then (if (a.length : Int) ≤ (wrap64 ((a.length : Int) + 1)) then (if (wrap64 ((a.length : Int) + 1)) ≤ 9 then (if 1 + ((⟨#[97, 98, 99, 100, 101, 102, 103, 104, 105]⟩ : ByteArray).extract ((a.length : Int) : Int).toNat ((wrap64 ((a.length : Int) + 1)) : Int).toNat).size ≤ 9223372036854775807 then (if a.length < 5864062014805 then (Fah.L1 (a ++ [(⟨(⟨#[120]⟩ : ByteArray) ++ ((⟨#[97, 98, 99, 100, 101, 102, 103, 104, 105]⟩ : ByteArray).extract ((a.length : Int) : Int).toNat ((wrap64 ((a.length : Int) + 1)) : Int).toNat), wrap64 ((wrap64 (20 * (a.length : Int))) - 90)⟩ : S74)]) b c d e) else (none)) else (none)) else (none)) else (none)) else (none)) else (some (a, d, e))) := by
  refine Lim.succ_eq (Fah.L1_lim ..).mon ?_
  simp only [Fah.l1]
  have m0 := @Fah.L1_lim
  exact li_
theorem Fah.F_eq s0_0 s0_1 s0_2 : Fah.F s0_0 s0_1 s0_2 = ((FaJ.f s0_0 s0_1 s0_2 6).bind fun bt235 => (Fah.L0 ([] : List (S74)) bt235.1 s0_0 bt235.2.1 bt235.2.2)) := by
  refine Lim.eq_ ?_
  simp only [Fah.f]
  have m0 := @Fah.L0_lim
  exact li_
def Fbb.f (s0_0 : List Int) (s0_1 : Int) (s0_2 : Int) (a1 : Int) : Option (Bool × Int × Int) := (FaJ.f s0_0 s0_1 s0_2 a1).bind fun bt266 => (some ((bt266.1 == 0), bt266.2.1, bt266.2.2))
def Fbh.f (a0 : Int) (a1 : Int) : Option (Int) := if a0 > a1 then (some a0) else (some a1)
def Fbk.f (a0 : Int) (a1 : Int) : Option (Int) := if a0 < a1 then (some a0) else (some a1)
mutual
def Fag.j0 : Nat → List (S74) → Int → Bool → List Int → Int → Int → ByteArray → Int → Int → Option (ByteArray × Int × Int × Int × Int)
  | 0, _, _, _, _, _, _, _, _, _ => none
  | k + 1, a, b, c, d, e, f, g, h, i => if c = true then ((FaJ.f d e f b).bind fun bt293 => (if 0 ≤ bt293.1 then (if bt293.1 < (a.length : Int) then ((FaZ.f d bt293.2.1 bt293.2.2 (([0, 5, (-5), 20, 21] : List Int))).bind fun bt300 => ((Fbk.f 90 (wrap64 (((rd_T74 a bt293.1).f1) + bt300.1))).bind fun t303 => ((Fbh.f (-90) t303).bind fun t304 => ((FaJ.f d bt300.2.1 bt300.2.2 b).bind fun bt305 => (if 0 ≤ bt305.1 then (if bt305.1 < (a.length : Int) then ((FaZ.f d bt305.2.1 bt305.2.2 (([0, 5, (-5)] : List Int))).bind fun bt312 => ((Fbk.f 90 (wrap64 (((rd_T74 a bt305.1).f1) + bt312.1))).bind fun t315 => ((Fbh.f (-90) t315).bind fun t316 => (Fag.j1 k d bt312.2.1 bt312.2.2 g t304 t316)))) else (none)) else (none)))))) else (none)) else (none))) else (Fag.j1 k d e f g h i)
def Fag.j1 : Nat → List Int → Int → Int → ByteArray → Int → Int → Option (ByteArray × Int × Int × Int × Int)
  | 0, _, _, _, _, _, _ => none
  | k + 1, a, b, c, d, e, f => (FaJ.f a b c 40).bind fun bt317 => (if bt317.1 = 0 then ((Fba.f a bt317.2.1 bt317.2.2 (([(⟨#[]⟩ : ByteArray), (⟨#[103, 105, 118, 101]⟩ : ByteArray), (⟨#[78, 73, 78, 69, 76, 69, 84, 84, 82]⟩ : ByteArray)] : List ByteArray))).bind fun bt323 => (some (bt323.1, e, f, bt323.2.1, bt323.2.2))) else (if bt317.1 = 1 then ((FaZ.f a bt317.2.1 bt317.2.2 (([(-91), 91, f, (-9223372036854775808)] : List Int))).bind fun bt329 => (some (d, bt329.1, f, bt329.2.1, bt329.2.2))) else (if bt317.1 = 2 then ((FaZ.f a bt317.2.1 bt317.2.2 (([(-91), 91] : List Int))).bind fun bt335 => (some (d, e, bt335.1, bt335.2.1, bt335.2.2))) else (some (d, e, f, bt317.2.1, bt317.2.2)))))
end
def Fag.f (k : Nat) (s0_0 : List Int) (s0_1 : Int) (s0_2 : Int) (l1 : List (S74)) : Option (ByteArray × Int × Int × Int × Int) := (Fba.f s0_0 s0_1 s0_2 (([(⟨#[71, 73, 86, 69]⟩ : ByteArray), (⟨#[71, 73, 86, 69]⟩ : ByteArray), (⟨#[65, 83, 75]⟩ : ByteArray), (⟨#[83, 72, 79, 87]⟩ : ByteArray), (⟨#[84, 69, 76, 76]⟩ : ByteArray)] : List ByteArray))).bind fun bt273 => ((FaZ.f s0_0 bt273.2.1 bt273.2.2 (([(-90), (-40), 0, 30, 90] : List Int))).bind fun bt279 => ((FaZ.f s0_0 bt279.2.1 bt279.2.2 (([(-80), (-35), 5, 40, 85] : List Int))).bind fun bt285 => (if (l1.length : Int) > 1 then ((Faj.f k l1).bind fun t289 => (if t289 = true then ((Fbb.f s0_0 bt285.2.1 bt285.2.2 4).bind fun bt290 => (Fag.j0 k l1 (l1.length : Int) (!bt290.1) s0_0 bt290.2.1 bt290.2.2 bt273.1 bt279.1 bt285.1)) else (Fag.j0 k l1 (l1.length : Int) false s0_0 bt285.2.1 bt285.2.2 bt273.1 bt279.1 bt285.1))) else (Fag.j0 k l1 (l1.length : Int) false s0_0 bt285.2.1 bt285.2.2 bt273.1 bt279.1 bt285.1))))
theorem Fag.mono_l : ∀ k, (∀ a b c d e f g h i, LeO (Fag.j0 k a b c d e f g h i) (Fag.j0 (k + 1) a b c d e f g h i)) ∧ (∀ a b c d e f, LeO (Fag.j1 k a b c d e f) (Fag.j1 (k + 1) a b c d e f))
  | 0 => ⟨fun _ _ _ _ _ _ _ _ _ => LeO.none _, fun _ _ _ _ _ _ => LeO.none _⟩
  | k + 1 => by
    obtain ⟨ih0, ih1⟩ := Fag.mono_l k
    have m0 := @Faj.mono
    refine ⟨?_, ?_⟩
    · intros; unfold Fag.j0; exact mo_
    · intros; unfold Fag.j1; exact mo_
theorem Fag.mono : ∀ a0 a1 a2 a3 k, LeO (Fag.f k a0 a1 a2 a3) (Fag.f (k + 1) a0 a1 a2 a3) := by
  intro a0 a1 a2 a3 k
  obtain ⟨ih0, ih1⟩ := Fag.mono_l k
  unfold Fag.f
  have m0 := @Faj.mono
  exact mo_
noncomputable def Fag.J0 := fun a b c d e f g h i => lim fun k => Fag.j0 k a b c d e f g h i
theorem Fag.J0_lim a b c d e f g h i : Lim (fun k => Fag.j0 k a b c d e f g h i) (Fag.J0 a b c d e f g h i) := ⟨fun k => (Fag.mono_l k).1 a b c d e f g h i, rfl⟩
noncomputable def Fag.J1 := fun a b c d e f => lim fun k => Fag.j1 k a b c d e f
theorem Fag.J1_lim a b c d e f : Lim (fun k => Fag.j1 k a b c d e f) (Fag.J1 a b c d e f) := ⟨fun k => (Fag.mono_l k).2 a b c d e f, rfl⟩
noncomputable def Fag.F := fun a b c d => lim fun k => Fag.f k a b c d
theorem Fag.F_lim a b c d : Lim (fun k => Fag.f k a b c d) (Fag.F a b c d) := ⟨Fag.mono a b c d, rfl⟩
theorem Fag.J0_eq a b c d e f g h i : Fag.J0 a b c d e f g h i = (if c = true then ((FaJ.f d e f b).bind fun bt293 => (if 0 ≤ bt293.1 then (if bt293.1 < (a.length : Int) then ((FaZ.f d bt293.2.1 bt293.2.2 (([0, 5, (-5), 20, 21] : List Int))).bind fun bt300 => ((Fbk.f 90 (wrap64 (((rd_T74 a bt293.1).f1) + bt300.1))).bind fun t303 => ((Fbh.f (-90) t303).bind fun t304 => ((FaJ.f d bt300.2.1 bt300.2.2 b).bind fun bt305 => (if 0 ≤ bt305.1 then (if bt305.1 < (a.length : Int) then ((FaZ.f d bt305.2.1 bt305.2.2 (([0, 5, (-5)] : List Int))).bind fun bt312 => ((Fbk.f 90 (wrap64 (((rd_T74 a bt305.1).f1) + bt312.1))).bind fun t315 => ((Fbh.f (-90) t315).bind fun t316 => (Fag.J1 d bt312.2.1 bt312.2.2 g t304 t316)))) else (none)) else (none)))))) else (none)) else (none))) else (Fag.J1 d e f g h i)) := by
  refine Lim.succ_eq (Fag.J0_lim ..).mon ?_
  simp only [Fag.j0]
  have m0 := @Fag.J1_lim
  exact li_
theorem Fag.J1_eq a b c d e f : Fag.J1 a b c d e f = ((FaJ.f a b c 40).bind fun bt317 => (if bt317.1 = 0 then ((Fba.f a bt317.2.1 bt317.2.2 (([(⟨#[]⟩ : ByteArray), (⟨#[103, 105, 118, 101]⟩ : ByteArray), (⟨#[78, 73, 78, 69, 76, 69, 84, 84, 82]⟩ : ByteArray)] : List ByteArray))).bind fun bt323 => (some (bt323.1, e, f, bt323.2.1, bt323.2.2))) else (if bt317.1 = 1 then ((FaZ.f a bt317.2.1 bt317.2.2 (([(-91), 91, f, (-9223372036854775808)] : List Int))).bind fun bt329 => (some (d, bt329.1, f, bt329.2.1, bt329.2.2))) else (if bt317.1 = 2 then ((FaZ.f a bt317.2.1 bt317.2.2 (([(-91), 91] : List Int))).bind fun bt335 => (some (d, e, bt335.1, bt335.2.1, bt335.2.2))) else (some (d, e, f, bt317.2.1, bt317.2.2)))))) := by
  refine Lim.succ_eq (Fag.J1_lim ..).mon ?_
  simp only [Fag.j1]
  exact li_
theorem Fag.F_eq s0_0 s0_1 s0_2 l1 : Fag.F s0_0 s0_1 s0_2 l1 = ((Fba.f s0_0 s0_1 s0_2 (([(⟨#[71, 73, 86, 69]⟩ : ByteArray), (⟨#[71, 73, 86, 69]⟩ : ByteArray), (⟨#[65, 83, 75]⟩ : ByteArray), (⟨#[83, 72, 79, 87]⟩ : ByteArray), (⟨#[84, 69, 76, 76]⟩ : ByteArray)] : List ByteArray))).bind fun bt273 => ((FaZ.f s0_0 bt273.2.1 bt273.2.2 (([(-90), (-40), 0, 30, 90] : List Int))).bind fun bt279 => ((FaZ.f s0_0 bt279.2.1 bt279.2.2 (([(-80), (-35), 5, 40, 85] : List Int))).bind fun bt285 => (if (l1.length : Int) > 1 then ((Faj.F l1).bind fun t289 => (if t289 = true then ((Fbb.f s0_0 bt285.2.1 bt285.2.2 4).bind fun bt290 => (Fag.J0 l1 (l1.length : Int) (!bt290.1) s0_0 bt290.2.1 bt290.2.2 bt273.1 bt279.1 bt285.1)) else (Fag.J0 l1 (l1.length : Int) false s0_0 bt285.2.1 bt285.2.2 bt273.1 bt279.1 bt285.1))) else (Fag.J0 l1 (l1.length : Int) false s0_0 bt285.2.1 bt285.2.2 bt273.1 bt279.1 bt285.1))))) := by
  refine Lim.eq_ ?_
  simp only [Fag.f]
  have m0 := @Fag.J0_lim
  have m1 := @Faj.F_lim
  exact li_
def FaC.l0 : Nat → ByteArray → Int → Option (Bool)
  | 0, _, _ => none
  | k + 1, a, b => if b < (a.size : Int) then (if 0 ≤ b then (if (bt a b) < 65 then (some false) else (if (bt a b) > 90 then (some false) else (FaC.l0 k a (wrap64 (b + 1))))) else (none)) else ((Fbw.f (a.size : Int) 1 8).bind fun t338 => (some t338))
def FaC.f (k : Nat) (a0 : ByteArray) : Option (Bool) := FaC.l0 k a0 0
theorem FaC.mono_l : ∀ k, (∀ a b, LeO (FaC.l0 k a b) (FaC.l0 (k + 1) a b))
  | 0 => fun _ _ => LeO.none _
  | k + 1 => by
    have ih0 := FaC.mono_l k
    · intros; unfold FaC.l0; exact mo_
theorem FaC.mono : ∀ a0 k, LeO (FaC.f k a0) (FaC.f (k + 1) a0) := by
  intro a0 k
  have ih0 := FaC.mono_l k
  unfold FaC.f
  exact mo_
noncomputable def FaC.L0 := fun a b => lim fun k => FaC.l0 k a b
theorem FaC.L0_lim a b : Lim (fun k => FaC.l0 k a b) (FaC.L0 a b) := ⟨fun k => (FaC.mono_l k) a b, rfl⟩
noncomputable def FaC.F := fun a => lim fun k => FaC.f k a
theorem FaC.F_lim a : Lim (fun k => FaC.f k a) (FaC.F a) := ⟨FaC.mono a, rfl⟩
theorem FaC.L0_eq a b : FaC.L0 a b = (if b < (a.size : Int) then (if 0 ≤ b then (if (bt a b) < 65 then (some false) else (if (bt a b) > 90 then (some false) else (FaC.L0 a (wrap64 (b + 1))))) else (none)) else ((Fbw.f (a.size : Int) 1 8).bind fun t338 => (some t338))) := by
  refine Lim.succ_eq (FaC.L0_lim ..).mon ?_
  simp only [FaC.l0]
  have m0 := @FaC.L0_lim
  exact li_
theorem FaC.F_eq a0 : FaC.F a0 = (FaC.L0 a0 0) := by
  refine Lim.eq_ ?_
  simp only [FaC.f]
  have m0 := @FaC.L0_lim
  exact li_
def FaQ.f (k : Nat) (a0_0 : ByteArray) (a0_1 : Int) (a0_2 : Int) : Option (Bool) := (FaC.f k a0_0).bind fun t340 => (if t340 = true then ((Fbc.f a0_1).bind fun t341 => (if t341 = true then ((Fbc.f a0_2).bind fun t342 => (if t342 = true then (some (a0_1 != a0_2)) else (some false))) else (some false))) else (some false))
theorem FaQ.mono : ∀ a0 a1 a2 k, LeO (FaQ.f k a0 a1 a2) (FaQ.f (k + 1) a0 a1 a2) := by
  intro a0 a1 a2 k
  unfold FaQ.f
  have m0 := @FaC.mono
  exact mo_
noncomputable def FaQ.F := fun a b c => lim fun k => FaQ.f k a b c
theorem FaQ.F_lim a b c : Lim (fun k => FaQ.f k a b c) (FaQ.F a b c) := ⟨FaQ.mono a b c, rfl⟩
theorem FaQ.F_eq a0_0 a0_1 a0_2 : FaQ.F a0_0 a0_1 a0_2 = ((FaC.F a0_0).bind fun t340 => (if t340 = true then ((Fbc.f a0_1).bind fun t341 => (if t341 = true then ((Fbc.f a0_2).bind fun t342 => (if t342 = true then (some (a0_1 != a0_2)) else (some false))) else (some false))) else (some false))) := by
  refine Lim.eq_ ?_
  simp only [FaQ.f]
  have m0 := @FaC.F_lim
  exact li_
mutual
def Fai.j0 : Nat → List (S74) → List (S40) → Int → List Int → Int → Int → Option ((List (S40)) × Int × Int)
  | 0, _, _, _, _, _, _ => none
  | k + 1, a, b, c, d, e, f => Fai.l0 k a b c d e f
def Fai.l0 : Nat → List (S74) → List (S40) → Int → List Int → Int → Int → Option ((List (S40)) × Int × Int)
  | 0, _, _, _, _, _, _ => none
  | k + 1, a, b, c, d, e, f => if (b.length : Int) < c then ((Fag.f k d e f a).bind fun bt352 => ((FaQ.f k bt352.1 bt352.2.1 bt352.2.2.1).bind fun t358 => (if t358 = true then (if b.length < 4398046511104 then (Fai.l0 k a (b ++ [(⟨bt352.1, bt352.2.1, bt352.2.2.1⟩ : S40)]) c d bt352.2.2.2.1 bt352.2.2.2.2) else (none)) else ((Fbb.f d bt352.2.2.2.1 bt352.2.2.2.2 4).bind fun bt362 => (if bt362.1 = true then (if b.length < 4398046511104 then (Fai.l0 k a (b ++ [(⟨bt352.1, bt352.2.1, bt352.2.2.1⟩ : S40)]) c d bt362.2.1 bt362.2.2) else (none)) else (if b.length < 4398046511104 then (Fai.l0 k a (b ++ [(⟨(⟨#[65, 83, 75]⟩ : ByteArray), 10, (-10)⟩ : S40)]) c d bt362.2.1 bt362.2.2) else (none))))))) else (some (b, e, f))
end
def Fai.f (k : Nat) (s0_0 : List Int) (s0_1 : Int) (s0_2 : Int) (l1 : List (S74)) : Option ((List (S40)) × Int × Int) := (FaJ.f s0_0 s0_1 s0_2 6).bind fun bt343 => ((Fbb.f s0_0 bt343.2.1 bt343.2.2 12).bind fun bt346 => (if bt346.1 = true then ((FaJ.f s0_0 bt346.2.1 bt346.2.2 2).bind fun bt349 => (Fai.j0 k l1 ([] : List (S40)) (wrap64 (20 + bt349.1)) s0_0 bt349.2.1 bt349.2.2)) else (Fai.j0 k l1 ([] : List (S40)) bt343.1 s0_0 bt346.2.1 bt346.2.2)))
theorem Fai.mono_l : ∀ k, (∀ a b c d e f, LeO (Fai.j0 k a b c d e f) (Fai.j0 (k + 1) a b c d e f)) ∧ (∀ a b c d e f, LeO (Fai.l0 k a b c d e f) (Fai.l0 (k + 1) a b c d e f))
  | 0 => ⟨fun _ _ _ _ _ _ => LeO.none _, fun _ _ _ _ _ _ => LeO.none _⟩
  | k + 1 => by
    obtain ⟨ih0, ih1⟩ := Fai.mono_l k
    have m0 := @Fag.mono
    have m1 := @FaQ.mono
    refine ⟨?_, ?_⟩
    · intros; unfold Fai.j0; exact mo_
    · intros; unfold Fai.l0; exact mo_
theorem Fai.mono : ∀ a0 a1 a2 a3 k, LeO (Fai.f k a0 a1 a2 a3) (Fai.f (k + 1) a0 a1 a2 a3) := by
  intro a0 a1 a2 a3 k
  obtain ⟨ih0, ih1⟩ := Fai.mono_l k
  unfold Fai.f
  have m0 := @Fag.mono
  have m1 := @FaQ.mono
  exact mo_
noncomputable def Fai.J0 := fun a b c d e f => lim fun k => Fai.j0 k a b c d e f
theorem Fai.J0_lim a b c d e f : Lim (fun k => Fai.j0 k a b c d e f) (Fai.J0 a b c d e f) := ⟨fun k => (Fai.mono_l k).1 a b c d e f, rfl⟩
noncomputable def Fai.L0 := fun a b c d e f => lim fun k => Fai.l0 k a b c d e f
theorem Fai.L0_lim a b c d e f : Lim (fun k => Fai.l0 k a b c d e f) (Fai.L0 a b c d e f) := ⟨fun k => (Fai.mono_l k).2 a b c d e f, rfl⟩
noncomputable def Fai.F := fun a b c d => lim fun k => Fai.f k a b c d
theorem Fai.F_lim a b c d : Lim (fun k => Fai.f k a b c d) (Fai.F a b c d) := ⟨Fai.mono a b c d, rfl⟩
theorem Fai.J0_eq a b c d e f : Fai.J0 a b c d e f = (Fai.L0 a b c d e f) := by
  refine Lim.succ_eq (Fai.J0_lim ..).mon ?_
  simp only [Fai.j0]
  have m0 := @Fai.L0_lim
  exact li_
theorem Fai.L0_eq a b c d e f : Fai.L0 a b c d e f = (if (b.length : Int) < c then ((Fag.F d e f a).bind fun bt352 => ((FaQ.F bt352.1 bt352.2.1 bt352.2.2.1).bind fun t358 => (if t358 = true then (if b.length < 4398046511104 then (Fai.L0 a (b ++ [(⟨bt352.1, bt352.2.1, bt352.2.2.1⟩ : S40)]) c d bt352.2.2.2.1 bt352.2.2.2.2) else (none)) else ((Fbb.f d bt352.2.2.2.1 bt352.2.2.2.2 4).bind fun bt362 => (if bt362.1 = true then (if b.length < 4398046511104 then (Fai.L0 a (b ++ [(⟨bt352.1, bt352.2.1, bt352.2.2.1⟩ : S40)]) c d bt362.2.1 bt362.2.2) else (none)) else (if b.length < 4398046511104 then (Fai.L0 a (b ++ [(⟨(⟨#[65, 83, 75]⟩ : ByteArray), 10, (-10)⟩ : S40)]) c d bt362.2.1 bt362.2.2) else (none))))))) else (some (b, e, f))) := by
  refine Lim.succ_eq (Fai.L0_lim ..).mon ?_
  simp only [Fai.l0]
  have m0 := @Fai.L0_lim
  have m1 := @Fag.F_lim
  have m2 := @FaQ.F_lim
  exact li_
theorem Fai.F_eq s0_0 s0_1 s0_2 l1 : Fai.F s0_0 s0_1 s0_2 l1 = ((FaJ.f s0_0 s0_1 s0_2 6).bind fun bt343 => ((Fbb.f s0_0 bt343.2.1 bt343.2.2 12).bind fun bt346 => (if bt346.1 = true then ((FaJ.f s0_0 bt346.2.1 bt346.2.2 2).bind fun bt349 => (Fai.J0 l1 ([] : List (S40)) (wrap64 (20 + bt349.1)) s0_0 bt349.2.1 bt349.2.2)) else (Fai.J0 l1 ([] : List (S40)) bt343.1 s0_0 bt346.2.1 bt346.2.2)))) := by
  refine Lim.eq_ ?_
  simp only [Fai.f]
  have m0 := @Fai.J0_lim
  exact li_
def Fa3.f (k : Nat) (l0 : List Int) : Option ((List (S74)) × (List (S40))) := (Fah.f k l0 0 0).bind fun bt372 => ((Fai.f k l0 bt372.2.1 bt372.2.2 bt372.1).bind fun bt377 => (some (bt372.1, bt377.1)))
theorem Fa3.mono : ∀ a0 k, LeO (Fa3.f k a0) (Fa3.f (k + 1) a0) := by
  intro a0 k
  unfold Fa3.f
  have m0 := @Fah.mono
  have m1 := @Fai.mono
  exact mo_
noncomputable def Fa3.F := fun a => lim fun k => Fa3.f k a
theorem Fa3.F_lim a : Lim (fun k => Fa3.f k a) (Fa3.F a) := ⟨Fa3.mono a, rfl⟩
theorem Fa3.F_eq l0 : Fa3.F l0 = ((Fah.F l0 0 0).bind fun bt372 => ((Fai.F l0 bt372.2.1 bt372.2.2 bt372.1).bind fun bt377 => (some (bt372.1, bt377.1)))) := by
  refine Lim.eq_ ?_
  simp only [Fa3.f]
  have m0 := @Fah.F_lim
  have m1 := @Fai.F_lim
  exact li_
def Fby.f (a0_0 : ByteArray) (a0_1 : Int) (a1_0 : ByteArray) : Option (Bool) := some (a0_0.toList == a1_0.toList)
def Fae.l0 : Nat → List (S74) → Int → Int → ByteArray → Option (Int)
  | 0, _, _, _, _ => none
  | k + 1, a, b, c, d => if c < b then (if 0 ≤ c then (if c < (a.length : Int) then ((Fby.f ((rd_T74 a c).f0) ((rd_T74 a c).f1) d).bind fun t384 => (if t384 = true then (some c) else (Fae.l0 k a b (wrap64 (c + 1)) d))) else (none)) else (none)) else (some (-1))
def Fae.f (k : Nat) (l0 : List (S74)) (a1_0 : ByteArray) : Option (Int) := Fae.l0 k l0 (l0.length : Int) 0 a1_0
theorem Fae.mono_l : ∀ k, (∀ a b c d, LeO (Fae.l0 k a b c d) (Fae.l0 (k + 1) a b c d))
  | 0 => fun _ _ _ _ => LeO.none _
  | k + 1 => by
    have ih0 := Fae.mono_l k
    · intros; unfold Fae.l0; exact mo_
theorem Fae.mono : ∀ a0 a1 k, LeO (Fae.f k a0 a1) (Fae.f (k + 1) a0 a1) := by
  intro a0 a1 k
  have ih0 := Fae.mono_l k
  unfold Fae.f
  exact mo_
noncomputable def Fae.L0 := fun a b c d => lim fun k => Fae.l0 k a b c d
theorem Fae.L0_lim a b c d : Lim (fun k => Fae.l0 k a b c d) (Fae.L0 a b c d) := ⟨fun k => (Fae.mono_l k) a b c d, rfl⟩
noncomputable def Fae.F := fun a b => lim fun k => Fae.f k a b
theorem Fae.F_lim a b : Lim (fun k => Fae.f k a b) (Fae.F a b) := ⟨Fae.mono a b, rfl⟩
theorem Fae.L0_eq a b c d : Fae.L0 a b c d = (if c < b then (if 0 ≤ c then (if c < (a.length : Int) then ((Fby.f ((rd_T74 a c).f0) ((rd_T74 a c).f1) d).bind fun t384 => (if t384 = true then (some c) else (Fae.L0 a b (wrap64 (c + 1)) d))) else (none)) else (none)) else (some (-1))) := by
  refine Lim.succ_eq (Fae.L0_lim ..).mon ?_
  simp only [Fae.l0]
  have m0 := @Fae.L0_lim
  exact li_
theorem Fae.F_eq l0 a1_0 : Fae.F l0 a1_0 = (Fae.L0 l0 (l0.length : Int) 0 a1_0) := by
  refine Lim.eq_ ?_
  simp only [Fae.f]
  have m0 := @Fae.L0_lim
  exact li_
def FaN.f (k : Nat) (l0 : List (S74)) (a1 : ByteArray) : Option (Int) := (Fae.f k l0 a1).bind fun t386 => (some t386)
theorem FaN.mono : ∀ a0 a1 k, LeO (FaN.f k a0 a1) (FaN.f (k + 1) a0 a1) := by
  intro a0 a1 k
  unfold FaN.f
  have m0 := @Fae.mono
  exact mo_
noncomputable def FaN.F := fun a b => lim fun k => FaN.f k a b
theorem FaN.F_lim a b : Lim (fun k => FaN.f k a b) (FaN.F a b) := ⟨FaN.mono a b, rfl⟩
theorem FaN.F_eq l0 a1 : FaN.F l0 a1 = ((Fae.F l0 a1).bind fun t386 => (some t386)) := by
  refine Lim.eq_ ?_
  simp only [FaN.f]
  have m0 := @Fae.F_lim
  exact li_
def Fbv.f (a0 : Int) (a1 : Int) (a2 : Int) : Option (Bool) := if a0 ≥ a1 then (some (decide (a0 ≤ a2))) else (some false)
def Fbt.f (a0 : ByteArray) (a1 : Int) : Option (Int) := some (Lib.indexByte a0.data.toList a1.toNat.toUInt8)
def Fbx.f (a0 : ByteArray) (a1 : Int) : Option (Int) := (Fbt.f a0 a1).bind fun t387 => (some t387)
def FaM.l0 : Nat → ByteArray → ByteArray → Int → Int → Option (Bool)
  | 0, _, _, _, _ => none
  | k + 1, a, b, c, d => if d < c then (if 0 ≤ d then (if d < (a.size : Int) then ((Fbx.f b (bt a d)).bind fun t388 => (if t388 < 0 then (some false) else (FaM.l0 k a b c (wrap64 (d + 1))))) else (none)) else (none)) else (some true)
def FaM.f (k : Nat) (a0 : ByteArray) (a1 : ByteArray) : Option (Bool) := FaM.l0 k a0 a1 (a0.size : Int) 0
theorem FaM.mono_l : ∀ k, (∀ a b c d, LeO (FaM.l0 k a b c d) (FaM.l0 (k + 1) a b c d))
  | 0 => fun _ _ _ _ => LeO.none _
  | k + 1 => by
    have ih0 := FaM.mono_l k
    · intros; unfold FaM.l0; exact mo_
theorem FaM.mono : ∀ a0 a1 k, LeO (FaM.f k a0 a1) (FaM.f (k + 1) a0 a1) := by
  intro a0 a1 k
  have ih0 := FaM.mono_l k
  unfold FaM.f
  exact mo_
noncomputable def FaM.L0 := fun a b c d => lim fun k => FaM.l0 k a b c d
theorem FaM.L0_lim a b c d : Lim (fun k => FaM.l0 k a b c d) (FaM.L0 a b c d) := ⟨fun k => (FaM.mono_l k) a b c d, rfl⟩
noncomputable def FaM.F := fun a b => lim fun k => FaM.f k a b
theorem FaM.F_lim a b : Lim (fun k => FaM.f k a b) (FaM.F a b) := ⟨FaM.mono a b, rfl⟩
theorem FaM.L0_eq a b c d : FaM.L0 a b c d = (if d < c then (if 0 ≤ d then (if d < (a.size : Int) then ((Fbx.f b (bt a d)).bind fun t388 => (if t388 < 0 then (some false) else (FaM.L0 a b c (wrap64 (d + 1))))) else (none)) else (none)) else (some true)) := by
  refine Lim.succ_eq (FaM.L0_lim ..).mon ?_
  simp only [FaM.l0]
  have m0 := @FaM.L0_lim
  exact li_
theorem FaM.F_eq a0 a1 : FaM.F a0 a1 = (FaM.L0 a0 a1 (a0.size : Int) 0) := by
  refine Lim.eq_ ?_
  simp only [FaM.f]
  have m0 := @FaM.L0_lim
  exact li_
def Fa1.f (k : Nat) (a0 : ByteArray) (a1 : ByteArray) : Option (Bool) := (Fbv.f (a0.size : Int) 1 8).bind fun t389 => (if t389 = true then ((FaM.f k a0 a1).bind fun t390 => (some t390)) else (some false))
theorem Fa1.mono : ∀ a0 a1 k, LeO (Fa1.f k a0 a1) (Fa1.f (k + 1) a0 a1) := by
  intro a0 a1 k
  unfold Fa1.f
  have m0 := @FaM.mono
  exact mo_
noncomputable def Fa1.F := fun a b => lim fun k => Fa1.f k a b
theorem Fa1.F_lim a b : Lim (fun k => Fa1.f k a b) (Fa1.F a b) := ⟨Fa1.mono a b, rfl⟩
theorem Fa1.F_eq a0 a1 : Fa1.F a0 a1 = ((Fbv.f (a0.size : Int) 1 8).bind fun t389 => (if t389 = true then ((FaM.F a0 a1).bind fun t390 => (some t390)) else (some false))) := by
  refine Lim.eq_ ?_
  simp only [Fa1.f]
  have m0 := @FaM.F_lim
  exact li_
def Fbd.f (a0 : Int) : Option (Bool) := (Fbv.f a0 (-90) 90).bind fun t391 => (some t391)
def Fan.l0 : Nat → List (S74) → List (S74) → Int → Int → Option (Bool)
  | 0, _, _, _, _ => none
  | k + 1, a, b, c, d => if d < c then (if 0 ≤ d then (if d < (b.length : Int) then ((Fa1.f k ((rd_T74 b d).f0) (⟨#[97, 98, 99, 100, 101, 102, 103, 104, 105, 106, 107, 108, 109, 110, 111, 112, 113, 114, 115, 116, 117, 118, 119, 120, 121, 122]⟩ : ByteArray)).bind fun t394 => (if t394 = true then ((Fbd.f ((rd_T74 b d).f1)).bind fun t395 => (if t395 = true then (if d > 0 then (if 0 ≤ (wrap64 (d - 1)) then (if (wrap64 (d - 1)) < (a.length : Int) then (if ((rd_T74 b d).f1) ≤ ((rd_T74 a (wrap64 (d - 1))).f1) then (some false) else (if d ≤ (a.length : Int) then ((FaN.f k (a.take (d : Int).toNat) ((rd_T74 b d).f0)).bind fun t401 => (if t401 ≥ 0 then (some false) else (Fan.l0 k a b c (wrap64 (d + 1))))) else (none))) else (none)) else (none)) else (if d ≤ (a.length : Int) then ((FaN.f k (a.take (d : Int).toNat) ((rd_T74 b d).f0)).bind fun t406 => (if t406 ≥ 0 then (some false) else (Fan.l0 k a b c (wrap64 (d + 1))))) else (none))) else (some false))) else (some false))) else (none)) else (none)) else (some (decide ((a.length : Int) ≤ 8)))
def Fan.f (k : Nat) (l0 : List (S74)) : Option (Bool) := Fan.l0 k l0 l0 (l0.length : Int) 0
theorem Fan.mono_l : ∀ k, (∀ a b c d, LeO (Fan.l0 k a b c d) (Fan.l0 (k + 1) a b c d))
  | 0 => fun _ _ _ _ => LeO.none _
  | k + 1 => by
    have ih0 := Fan.mono_l k
    have m0 := @Fa1.mono
    have m1 := @FaN.mono
    · intros; unfold Fan.l0; exact mo_
theorem Fan.mono : ∀ a0 k, LeO (Fan.f k a0) (Fan.f (k + 1) a0) := by
  intro a0 k
  have ih0 := Fan.mono_l k
  unfold Fan.f
  have m0 := @Fa1.mono
  have m1 := @FaN.mono
  exact mo_
noncomputable def Fan.L0 := fun a b c d => lim fun k => Fan.l0 k a b c d
theorem Fan.L0_lim a b c d : Lim (fun k => Fan.l0 k a b c d) (Fan.L0 a b c d) := ⟨fun k => (Fan.mono_l k) a b c d, rfl⟩
noncomputable def Fan.F := fun a => lim fun k => Fan.f k a
theorem Fan.F_lim a : Lim (fun k => Fan.f k a) (Fan.F a) := ⟨Fan.mono a, rfl⟩
theorem Fan.L0_eq a b c d : Fan.L0 a b c d = (if d < c then (if 0 ≤ d then (if d < (b.length : Int) then ((Fa1.F ((rd_T74 b d).f0) (⟨#[97, 98, 99, 100, 101, 102, 103, 104, 105, 106, 107, 108, 109, 110, 111, 112, 113, 114, 115, 116, 117, 118, 119, 120, 121, 122]⟩ : ByteArray)).bind fun t394 => (if t394 = true then ((Fbd.f ((rd_T74 b d).f1)).bind fun t395 => (if t395 = true then (if d > 0 then (if 0 ≤ (wrap64 (d - 1)) then (if (wrap64 (d - 1)) < (a.length : Int) then (if ((rd_T74 b d).f1) ≤ ((rd_T74 a (wrap64 (d - 1))).f1) then (some false) else (if d ≤ (a.length : Int) then ((FaN.F (a.take (d : Int).toNat) ((rd_T74 b d).f0)).bind fun t401 => (if t401 ≥ 0 then (some false) else (Fan.L0 a b c (wrap64 (d + 1))))) else (none))) else (none)) else (none)) else (if d ≤ (a.length : Int) then ((FaN.F (a.take (d : Int).toNat) ((rd_T74 b d).f0)).bind fun t406 => (if t406 ≥ 0 then (some false) else (Fan.L0 a b c (wrap64 (d + 1))))) else (none))) else (some false))) else (some false))) else (none)) else (none)) else (some (decide ((a.length : Int) ≤ 8)))) := by
  refine Lim.succ_eq (Fan.L0_lim ..).mon ?_
  simp only [Fan.l0]
  have m0 := @Fan.L0_lim
  have m1 := @Fa1.F_lim
  have m2 := @FaN.F_lim
  exact li_
theorem Fan.F_eq l0 : Fan.F l0 = (Fan.L0 l0 l0 (l0.length : Int) 0) := by
  refine Lim.eq_ ?_
  simp only [Fan.f]
  have m0 := @Fan.L0_lim
  exact li_
def Fa6.f (k : Nat) (a0 : ByteArray) : Option (Bool) := (Fa1.f k a0 (⟨#[65, 66, 67, 68, 69, 70, 71, 72, 73, 74, 75, 76, 77, 78, 79, 80, 81, 82, 83, 84, 85, 86, 87, 88, 89, 90]⟩ : ByteArray)).bind fun t407 => (some t407)
theorem Fa6.mono : ∀ a0 k, LeO (Fa6.f k a0) (Fa6.f (k + 1) a0) := by
  intro a0 k
  unfold Fa6.f
  have m0 := @Fa1.mono
  exact mo_
noncomputable def Fa6.F := fun a => lim fun k => Fa6.f k a
theorem Fa6.F_lim a : Lim (fun k => Fa6.f k a) (Fa6.F a) := ⟨Fa6.mono a, rfl⟩
theorem Fa6.F_eq a0 : Fa6.F a0 = ((Fa1.F a0 (⟨#[65, 66, 67, 68, 69, 70, 71, 72, 73, 74, 75, 76, 77, 78, 79, 80, 81, 82, 83, 84, 85, 86, 87, 88, 89, 90]⟩ : ByteArray)).bind fun t407 => (some t407)) := by
  refine Lim.eq_ ?_
  simp only [Fa6.f]
  have m0 := @Fa1.F_lim
  exact li_
def FaW.f (k : Nat) (a0_0 : ByteArray) (a0_1 : Int) (a0_2 : Int) : Option (Bool) := (Fa6.f k a0_0).bind fun t409 => (if t409 = true then ((Fbd.f a0_1).bind fun t410 => (if t410 = true then ((Fbd.f a0_2).bind fun t411 => (if t411 = true then (some (a0_1 != a0_2)) else (some false))) else (some false))) else (some false))
theorem FaW.mono : ∀ a0 a1 a2 k, LeO (FaW.f k a0 a1 a2) (FaW.f (k + 1) a0 a1 a2) := by
  intro a0 a1 a2 k
  unfold FaW.f
  have m0 := @Fa6.mono
  exact mo_
noncomputable def FaW.F := fun a b c => lim fun k => FaW.f k a b c
theorem FaW.F_lim a b c : Lim (fun k => FaW.f k a b c) (FaW.F a b c) := ⟨FaW.mono a b c, rfl⟩
theorem FaW.F_eq a0_0 a0_1 a0_2 : FaW.F a0_0 a0_1 a0_2 = ((Fa6.F a0_0).bind fun t409 => (if t409 = true then ((Fbd.f a0_1).bind fun t410 => (if t410 = true then ((Fbd.f a0_2).bind fun t411 => (if t411 = true then (some (a0_1 != a0_2)) else (some false))) else (some false))) else (some false))) := by
  refine Lim.eq_ ?_
  simp only [FaW.f]
  have m0 := @Fa6.F_lim
  exact li_
def FaO.f (k : Nat) (a0_0 : ByteArray) (a0_1 : Int) (a0_2 : Int)  : Option (Bool) := (FaW.f k a0_0 a0_1 a0_2).bind fun t413 => (some (!t413))
theorem FaO.mono : ∀ a0 a1 a2 k, LeO (FaO.f k a0 a1 a2) (FaO.f (k + 1) a0 a1 a2) := by
  intro a0 a1 a2 k
  unfold FaO.f
  have m0 := @FaW.mono
  exact mo_
noncomputable def FaO.F := fun a b c => lim fun k => FaO.f k a b c
theorem FaO.F_lim a b c : Lim (fun k => FaO.f k a b c) (FaO.F a b c) := ⟨FaO.mono a b c, rfl⟩
theorem FaO.F_eq a0_0 a0_1 a0_2 : FaO.F a0_0 a0_1 a0_2 = ((FaW.F a0_0 a0_1 a0_2).bind fun t413 => (some (!t413))) := by
  refine Lim.eq_ ?_
  simp only [FaO.f]
  have m0 := @FaW.F_lim
  exact li_
def Fac.l0 : Nat → List (S40) → Int → Int → Option (Int)
  | 0, _, _, _ => none
  | k + 1, a, b, c => if c < b then (if 0 ≤ c then (if c < (a.length : Int) then ((FaO.f k ((rd_T40 a c).f0) ((rd_T40 a c).f1) ((rd_T40 a c).f2)).bind fun t415 => (if t415 = true then (some c) else (Fac.l0 k a b (wrap64 (c + 1))))) else (none)) else (none)) else (some (-1))
def Fac.f (k : Nat) (l0 : List (S40))  : Option (Int) := Fac.l0 k l0 (l0.length : Int) 0
theorem Fac.mono_l : ∀ k, (∀ a b c, LeO (Fac.l0 k a b c) (Fac.l0 (k + 1) a b c))
  | 0 => fun _ _ _ => LeO.none _
  | k + 1 => by
    have ih0 := Fac.mono_l k
    have m0 := @FaO.mono
    · intros; unfold Fac.l0; exact mo_
theorem Fac.mono : ∀ a0 k, LeO (Fac.f k a0) (Fac.f (k + 1) a0) := by
  intro a0 k
  have ih0 := Fac.mono_l k
  unfold Fac.f
  have m0 := @FaO.mono
  exact mo_
noncomputable def Fac.L0 := fun a b c => lim fun k => Fac.l0 k a b c
theorem Fac.L0_lim a b c : Lim (fun k => Fac.l0 k a b c) (Fac.L0 a b c) := ⟨fun k => (Fac.mono_l k) a b c, rfl⟩
noncomputable def Fac.F := fun a => lim fun k => Fac.f k a
theorem Fac.F_lim a : Lim (fun k => Fac.f k a) (Fac.F a) := ⟨Fac.mono a, rfl⟩
theorem Fac.L0_eq a b c : Fac.L0 a b c = (if c < b then (if 0 ≤ c then (if c < (a.length : Int) then ((FaO.F ((rd_T40 a c).f0) ((rd_T40 a c).f1) ((rd_T40 a c).f2)).bind fun t415 => (if t415 = true then (some c) else (Fac.L0 a b (wrap64 (c + 1))))) else (none)) else (none)) else (some (-1))) := by
  refine Lim.succ_eq (Fac.L0_lim ..).mon ?_
  simp only [Fac.l0]
  have m0 := @Fac.L0_lim
  have m1 := @FaO.F_lim
  exact li_
theorem Fac.F_eq l0 : Fac.F l0 = (Fac.L0 l0 (l0.length : Int) 0) := by
  refine Lim.eq_ ?_
  simp only [Fac.f]
  have m0 := @Fac.L0_lim
  exact li_
def Fao.f (k : Nat) (l0 : List (S40))  : Option (Bool) := (Fac.f k l0).bind fun t416 => (some (decide (t416 ≥ 0)))
theorem Fao.mono : ∀ a0 k, LeO (Fao.f k a0) (Fao.f (k + 1) a0) := by
  intro a0 k
  unfold Fao.f
  have m0 := @Fac.mono
  exact mo_
noncomputable def Fao.F := fun a => lim fun k => Fao.f k a
theorem Fao.F_lim a : Lim (fun k => Fao.f k a) (Fao.F a) := ⟨Fao.mono a, rfl⟩
theorem Fao.F_eq l0 : Fao.F l0 = ((Fac.F l0).bind fun t416 => (some (decide (t416 ≥ 0)))) := by
  refine Lim.eq_ ?_
  simp only [Fao.f]
  have m0 := @Fac.F_lim
  exact li_
def FaP.f (k : Nat) (l0 : List (S40))  : Option (Bool) := (Fao.f k l0).bind fun t418 => (some (!t418))
theorem FaP.mono : ∀ a0 k, LeO (FaP.f k a0) (FaP.f (k + 1) a0) := by
  intro a0 k
  unfold FaP.f
  have m0 := @Fao.mono
  exact mo_
noncomputable def FaP.F := fun a => lim fun k => FaP.f k a
theorem FaP.F_lim a : Lim (fun k => FaP.f k a) (FaP.F a) := ⟨FaP.mono a, rfl⟩
theorem FaP.F_eq l0 : FaP.F l0 = ((Fao.F l0).bind fun t418 => (some (!t418))) := by
  refine Lim.eq_ ?_
  simp only [FaP.f]
  have m0 := @Fao.F_lim
  exact li_
def FaR.f (k : Nat) (l0 : List (S40)) : Option (Bool) := if (l0.length : Int) ≤ 20 then ((FaP.f k l0).bind fun t419 => (some t419)) else (some false)
theorem FaR.mono : ∀ a0 k, LeO (FaR.f k a0) (FaR.f (k + 1) a0) := by
  intro a0 k
  unfold FaR.f
  have m0 := @FaP.mono
  exact mo_
noncomputable def FaR.F := fun a => lim fun k => FaR.f k a
theorem FaR.F_lim a : Lim (fun k => FaR.f k a) (FaR.F a) := ⟨FaR.mono a, rfl⟩
theorem FaR.F_eq l0 : FaR.F l0 = (if (l0.length : Int) ≤ 20 then ((FaP.F l0).bind fun t419 => (some t419)) else (some false)) := by
  refine Lim.eq_ ?_
  simp only [FaR.f]
  have m0 := @FaP.F_lim
  exact li_
def Fbj.f (a0 : Int) (a1 : Int) : Option (Int) := some (mx (wrap64 (a0 - a1)) (wrap64 (a1 - a0)))
def Far.l0 : Nat → Int → Int → List ByteArray → List (S74) → Int → Int → Option (Int × List ByteArray)
  | 0, _, _, _, _, _, _ => none
  | k + 1, a, b, c, d, e, f => if f < e then (if 0 ≤ f then (if f < (d.length : Int) then ((Fbj.f ((rd_T74 d f).f1) a).bind fun t422 => (if t422 < b then (if t422 = t422 then (if ([] : List ByteArray).length < 8796093022208 then (Far.l0 k a t422 (([] : List ByteArray) ++ [(rd_T74 d f).f0]) d e (wrap64 (f + 1))) else (none)) else (Far.l0 k a t422 ([] : List ByteArray) d e (wrap64 (f + 1)))) else (if t422 = b then (if c.length < 8796093022208 then (Far.l0 k a b (c ++ [(rd_T74 d f).f0]) d e (wrap64 (f + 1))) else (none)) else (Far.l0 k a b c d e (wrap64 (f + 1)))))) else (none)) else (none)) else (some (b, c))
def Far.f (k : Nat) (l0 : List (S74)) (a1 : Int) : Option (Int × List ByteArray) := Far.l0 k a1 181 ([] : List ByteArray) l0 (l0.length : Int) 0
theorem Far.mono_l : ∀ k, (∀ a b c d e f, LeO (Far.l0 k a b c d e f) (Far.l0 (k + 1) a b c d e f))
  | 0 => fun _ _ _ _ _ _ => LeO.none _
  | k + 1 => by
    have ih0 := Far.mono_l k
    · intros; unfold Far.l0; exact mo_
theorem Far.mono : ∀ a0 a1 k, LeO (Far.f k a0 a1) (Far.f (k + 1) a0 a1) := by
  intro a0 a1 k
  have ih0 := Far.mono_l k
  unfold Far.f
  exact mo_
noncomputable def Far.L0 := fun a b c d e f => lim fun k => Far.l0 k a b c d e f
theorem Far.L0_lim a b c d e f : Lim (fun k => Far.l0 k a b c d e f) (Far.L0 a b c d e f) := ⟨fun k => (Far.mono_l k) a b c d e f, rfl⟩
noncomputable def Far.F := fun a b => lim fun k => Far.f k a b
theorem Far.F_lim a b : Lim (fun k => Far.f k a b) (Far.F a b) := ⟨Far.mono a b, rfl⟩
theorem Far.L0_eq a b c d e f : Far.L0 a b c d e f = (if f < e then (if 0 ≤ f then (if f < (d.length : Int) then ((Fbj.f ((rd_T74 d f).f1) a).bind fun t422 => (if t422 < b then (if t422 = t422 then (if ([] : List ByteArray).length < 8796093022208 then (Far.L0 a t422 (([] : List ByteArray) ++ [(rd_T74 d f).f0]) d e (wrap64 (f + 1))) else (none)) else (Far.L0 a t422 ([] : List ByteArray) d e (wrap64 (f + 1)))) else (if t422 = b then (if c.length < 8796093022208 then (Far.L0 a b (c ++ [(rd_T74 d f).f0]) d e (wrap64 (f + 1))) else (none)) else (Far.L0 a b c d e (wrap64 (f + 1)))))) else (none)) else (none)) else (some (b, c))) := by
  refine Lim.succ_eq (Far.L0_lim ..).mon ?_
  simp only [Far.l0]
  have m0 := @Far.L0_lim
  exact li_
theorem Far.F_eq l0 a1 : Far.F l0 a1 = (Far.L0 a1 181 ([] : List ByteArray) l0 (l0.length : Int) 0) := by
  refine Lim.eq_ ?_
  simp only [Far.f]
  have m0 := @Far.L0_lim
  exact li_
def Fa4.f (k : Nat) (l0 : List (S74)) (a1 : Int) : Option (ByteArray) := (Far.f k l0 a1).bind fun bt429 => (if bt429.1 > 20 then (some (⟨#[]⟩ : ByteArray)) else (if (bt429.2.length : Int) = 1 then (if 0 < (bt429.2.length : Int) then (some (rdOf ByteArray.empty bt429.2 0)) else (none)) else (some (⟨#[]⟩ : ByteArray))))
theorem Fa4.mono : ∀ a0 a1 k, LeO (Fa4.f k a0 a1) (Fa4.f (k + 1) a0 a1) := by
  intro a0 a1 k
  unfold Fa4.f
  have m0 := @Far.mono
  exact mo_
noncomputable def Fa4.F := fun a b => lim fun k => Fa4.f k a b
theorem Fa4.F_lim a b : Lim (fun k => Fa4.f k a b) (Fa4.F a b) := ⟨Fa4.mono a b, rfl⟩
theorem Fa4.F_eq l0 a1 : Fa4.F l0 a1 = ((Far.F l0 a1).bind fun bt429 => (if bt429.1 > 20 then (some (⟨#[]⟩ : ByteArray)) else (if (bt429.2.length : Int) = 1 then (if 0 < (bt429.2.length : Int) then (some (rdOf ByteArray.empty bt429.2 0)) else (none)) else (some (⟨#[]⟩ : ByteArray))))) := by
  refine Lim.eq_ ?_
  simp only [Fa4.f]
  have m0 := @Far.F_lim
  exact li_
def Fax.f (k : Nat) (a0_0 : ByteArray) (a0_1 : Int) (a0_2 : Int) (l1 : List (S74)) : Option (ByteArray × ByteArray) := (Fa4.f k l1 a0_1).bind fun t435 => ((Fa4.f k l1 a0_2).bind fun t436 => (if t435.toList = ([] : List UInt8) then (some ((⟨#[]⟩ : ByteArray), (⟨#[]⟩ : ByteArray))) else (if t436.toList = ([] : List UInt8) then (some ((⟨#[]⟩ : ByteArray), (⟨#[]⟩ : ByteArray))) else (if t435.toList = t436.toList then (some ((⟨#[]⟩ : ByteArray), (⟨#[]⟩ : ByteArray))) else (some (t435, t436))))))
theorem Fax.mono : ∀ a0 a1 a2 a3 k, LeO (Fax.f k a0 a1 a2 a3) (Fax.f (k + 1) a0 a1 a2 a3) := by
  intro a0 a1 a2 a3 k
  unfold Fax.f
  have m0 := @Fa4.mono
  exact mo_
noncomputable def Fax.F := fun a b c d => lim fun k => Fax.f k a b c d
theorem Fax.F_lim a b c d : Lim (fun k => Fax.f k a b c d) (Fax.F a b c d) := ⟨Fax.mono a b c d, rfl⟩
theorem Fax.F_eq a0_0 a0_1 a0_2 l1 : Fax.F a0_0 a0_1 a0_2 l1 = ((Fa4.F l1 a0_1).bind fun t435 => ((Fa4.F l1 a0_2).bind fun t436 => (if t435.toList = ([] : List UInt8) then (some ((⟨#[]⟩ : ByteArray), (⟨#[]⟩ : ByteArray))) else (if t436.toList = ([] : List UInt8) then (some ((⟨#[]⟩ : ByteArray), (⟨#[]⟩ : ByteArray))) else (if t435.toList = t436.toList then (some ((⟨#[]⟩ : ByteArray), (⟨#[]⟩ : ByteArray))) else (some (t435, t436))))))) := by
  refine Lim.eq_ ?_
  simp only [Fax.f]
  have m0 := @Fa4.F_lim
  exact li_
mutual
def Faq.j0 : Nat → List (S74) → List (S40) → Bool → Option (List ByteArray × List Int × Bool)
  | 0, _, _, _ => none
  | k + 1, a, b, c => if c = true then (some (([] : List ByteArray), ([] : List Int), false)) else (Faq.l0 k a ([] : List ByteArray) ([] : List Int) b (b.length : Int) 0)
def Faq.l0 : Nat → List (S74) → List ByteArray → List Int → List (S40) → Int → Int → Option (List ByteArray × List Int × Bool)
  | 0, _, _, _, _, _, _ => none
  | k + 1, a, b, c, d, e, f => if f < e then (if 0 ≤ f then (if f < (d.length : Int) then ((Fax.f k ((rd_T40 d f).f0) ((rd_T40 d f).f1) ((rd_T40 d f).f2) a).bind fun bt441 => (if bt441.1.toList = ([] : List UInt8) then (if c.length < 17592186044416 then (Faq.l0 k a b (c ++ [f]) d e (wrap64 (f + 1))) else (none)) else (if bt441.1.size + 1 ≤ 9223372036854775807 then (if (bt441.1 ++ (⟨#[32]⟩ : ByteArray)).size + ((rd_T40 d f).f0).size ≤ 9223372036854775807 then (if ((bt441.1 ++ (⟨#[32]⟩ : ByteArray)) ++ ((rd_T40 d f).f0)).size + 1 ≤ 9223372036854775807 then (if (((bt441.1 ++ (⟨#[32]⟩ : ByteArray)) ++ ((rd_T40 d f).f0)) ++ (⟨#[32]⟩ : ByteArray)).size + bt441.2.size ≤ 9223372036854775807 then (if b.length < 8796093022208 then (Faq.l0 k a (b ++ [(((bt441.1 ++ (⟨#[32]⟩ : ByteArray)) ++ ((rd_T40 d f).f0)) ++ (⟨#[32]⟩ : ByteArray)) ++ bt441.2]) c d e (wrap64 (f + 1))) else (none)) else (none)) else (none)) else (none)) else (none)))) else (none)) else (none)) else (some (b, c, true))
end
def Faq.f (k : Nat) (l0 : List (S74)) (l1 : List (S40)) : Option (List ByteArray × List Int × Bool) := (Fan.f k l0).bind fun t437 => (if t437 = true then ((FaR.f k l1).bind fun t438 => (Faq.j0 k l0 l1 (!t438))) else (Faq.j0 k l0 l1 true))
theorem Faq.mono_l : ∀ k, (∀ a b c, LeO (Faq.j0 k a b c) (Faq.j0 (k + 1) a b c)) ∧ (∀ a b c d e f, LeO (Faq.l0 k a b c d e f) (Faq.l0 (k + 1) a b c d e f))
  | 0 => ⟨fun _ _ _ => LeO.none _, fun _ _ _ _ _ _ => LeO.none _⟩
  | k + 1 => by
    obtain ⟨ih0, ih1⟩ := Faq.mono_l k
    have m0 := @Fan.mono
    have m1 := @Fax.mono
    have m2 := @FaR.mono
    refine ⟨?_, ?_⟩
    · intros; unfold Faq.j0; exact mo_
    · intros; unfold Faq.l0; exact mo_
theorem Faq.mono : ∀ a0 a1 k, LeO (Faq.f k a0 a1) (Faq.f (k + 1) a0 a1) := by
  intro a0 a1 k
  obtain ⟨ih0, ih1⟩ := Faq.mono_l k
  unfold Faq.f
  have m0 := @Fan.mono
  have m1 := @Fax.mono
  have m2 := @FaR.mono
  exact mo_
noncomputable def Faq.J0 := fun a b c => lim fun k => Faq.j0 k a b c
theorem Faq.J0_lim a b c : Lim (fun k => Faq.j0 k a b c) (Faq.J0 a b c) := ⟨fun k => (Faq.mono_l k).1 a b c, rfl⟩
noncomputable def Faq.L0 := fun a b c d e f => lim fun k => Faq.l0 k a b c d e f
theorem Faq.L0_lim a b c d e f : Lim (fun k => Faq.l0 k a b c d e f) (Faq.L0 a b c d e f) := ⟨fun k => (Faq.mono_l k).2 a b c d e f, rfl⟩
noncomputable def Faq.F := fun a b => lim fun k => Faq.f k a b
theorem Faq.F_lim a b : Lim (fun k => Faq.f k a b) (Faq.F a b) := ⟨Faq.mono a b, rfl⟩
theorem Faq.J0_eq a b c : Faq.J0 a b c = (if c = true then (some (([] : List ByteArray), ([] : List Int), false)) else (Faq.L0 a ([] : List ByteArray) ([] : List Int) b (b.length : Int) 0)) := by
  refine Lim.succ_eq (Faq.J0_lim ..).mon ?_
  simp only [Faq.j0]
  have m0 := @Faq.L0_lim
  exact li_
theorem Faq.L0_eq a b c d e f : Faq.L0 a b c d e f = (if f < e then (if 0 ≤ f then (if f < (d.length : Int) then ((Fax.F ((rd_T40 d f).f0) ((rd_T40 d f).f1) ((rd_T40 d f).f2) a).bind fun bt441 => (if bt441.1.toList = ([] : List UInt8) then (if c.length < 17592186044416 then (Faq.L0 a b (c ++ [f]) d e (wrap64 (f + 1))) else (none)) else (if bt441.1.size + 1 ≤ 9223372036854775807 then (if (bt441.1 ++ (⟨#[32]⟩ : ByteArray)).size + ((rd_T40 d f).f0).size ≤ 9223372036854775807 then (if ((bt441.1 ++ (⟨#[32]⟩ : ByteArray)) ++ ((rd_T40 d f).f0)).size + 1 ≤ 9223372036854775807 then (if (((bt441.1 ++ (⟨#[32]⟩ : ByteArray)) ++ ((rd_T40 d f).f0)) ++ (⟨#[32]⟩ : ByteArray)).size + bt441.2.size ≤ 9223372036854775807 then (if b.length < 8796093022208 then (Faq.L0 a (b ++ [(((bt441.1 ++ (⟨#[32]⟩ : ByteArray)) ++ ((rd_T40 d f).f0)) ++ (⟨#[32]⟩ : ByteArray)) ++ bt441.2]) c d e (wrap64 (f + 1))) else (none)) else (none)) else (none)) else (none)) else (none)))) else (none)) else (none)) else (some (b, c, true))) := by
  refine Lim.succ_eq (Faq.L0_lim ..).mon ?_
  simp only [Faq.l0]
  have m0 := @Faq.L0_lim
  have m1 := @Fax.F_lim
  exact li_
theorem Faq.F_eq l0 l1 : Faq.F l0 l1 = ((Fan.F l0).bind fun t437 => (if t437 = true then ((FaR.F l1).bind fun t438 => (Faq.J0 l0 l1 (!t438))) else (Faq.J0 l0 l1 true))) := by
  refine Lim.eq_ ?_
  simp only [Faq.f]
  have m0 := @Faq.J0_lim
  have m1 := @Fan.F_lim
  have m2 := @FaR.F_lim
  exact li_
def FaE.l0 : Nat → List (S74) → List (S40) → List (S40) → Int → Int → Option (Bool)
  | 0, _, _, _, _, _ => none
  | k + 1, a, b, c, d, e => if e < d then (if 0 ≤ e then (if e < (c.length : Int) then ((FaQ.f k ((rd_T40 c e).f0) ((rd_T40 c e).f1) ((rd_T40 c e).f2)).bind fun t451 => (if t451 = true then (FaE.l0 k a b c d (wrap64 (e + 1))) else (some false))) else (none)) else (none)) else ((Faj.f k a).bind fun t452 => (if t452 = true then (some (decide ((b.length : Int) ≤ 20))) else (some false)))
def FaE.f (k : Nat) (l0 : List (S74)) (l1 : List (S40)) : Option (Bool) := FaE.l0 k l0 l1 l1 (l1.length : Int) 0
theorem FaE.mono_l : ∀ k, (∀ a b c d e, LeO (FaE.l0 k a b c d e) (FaE.l0 (k + 1) a b c d e))
  | 0 => fun _ _ _ _ _ => LeO.none _
  | k + 1 => by
    have ih0 := FaE.mono_l k
    have m0 := @Faj.mono
    have m1 := @FaQ.mono
    · intros; unfold FaE.l0; exact mo_
theorem FaE.mono : ∀ a0 a1 k, LeO (FaE.f k a0 a1) (FaE.f (k + 1) a0 a1) := by
  intro a0 a1 k
  have ih0 := FaE.mono_l k
  unfold FaE.f
  have m0 := @Faj.mono
  have m1 := @FaQ.mono
  exact mo_
noncomputable def FaE.L0 := fun a b c d e => lim fun k => FaE.l0 k a b c d e
theorem FaE.L0_lim a b c d e : Lim (fun k => FaE.l0 k a b c d e) (FaE.L0 a b c d e) := ⟨fun k => (FaE.mono_l k) a b c d e, rfl⟩
noncomputable def FaE.F := fun a b => lim fun k => FaE.f k a b
theorem FaE.F_lim a b : Lim (fun k => FaE.f k a b) (FaE.F a b) := ⟨FaE.mono a b, rfl⟩
theorem FaE.L0_eq a b c d e : FaE.L0 a b c d e = (if e < d then (if 0 ≤ e then (if e < (c.length : Int) then ((FaQ.F ((rd_T40 c e).f0) ((rd_T40 c e).f1) ((rd_T40 c e).f2)).bind fun t451 => (if t451 = true then (FaE.L0 a b c d (wrap64 (e + 1))) else (some false))) else (none)) else (none)) else ((Faj.F a).bind fun t452 => (if t452 = true then (some (decide ((b.length : Int) ≤ 20))) else (some false)))) := by
  refine Lim.succ_eq (FaE.L0_lim ..).mon ?_
  simp only [FaE.l0]
  have m0 := @FaE.L0_lim
  have m1 := @Faj.F_lim
  have m2 := @FaQ.F_lim
  exact li_
theorem FaE.F_eq l0 l1 : FaE.F l0 l1 = (FaE.L0 l0 l1 l1 (l1.length : Int) 0) := by
  refine Lim.eq_ ?_
  simp only [FaE.f]
  have m0 := @FaE.L0_lim
  exact li_
def Fbe.f (a0 : Int) : Option (Int) := (Fbh.f a0 (wrap64 (-a0))).bind fun t453 => (some t453)
def FaK.l0 : Nat → Int → Int → Int → List (S74) → Int → Int → Option (Int × Int)
  | 0, _, _, _, _, _, _ => none
  | k + 1, a, b, c, d, e, f => if f < e then (if 0 ≤ f then (if f < (d.length : Int) then ((Fbe.f (wrap64 (((rd_T74 d f).f1) - a))).bind fun t456 => (if t456 < b then (FaK.l0 k a t456 1 d e (wrap64 (f + 1))) else (if t456 = b then (FaK.l0 k a b (wrap64 (c + 1)) d e (wrap64 (f + 1))) else (FaK.l0 k a b c d e (wrap64 (f + 1)))))) else (none)) else (none)) else (some (b, c))
def FaK.f (k : Nat) (l0 : List (S74)) (a1 : Int) : Option (Int × Int) := FaK.l0 k a1 181 0 l0 (l0.length : Int) 0
theorem FaK.mono_l : ∀ k, (∀ a b c d e f, LeO (FaK.l0 k a b c d e f) (FaK.l0 (k + 1) a b c d e f))
  | 0 => fun _ _ _ _ _ _ => LeO.none _
  | k + 1 => by
    have ih0 := FaK.mono_l k
    · intros; unfold FaK.l0; exact mo_
theorem FaK.mono : ∀ a0 a1 k, LeO (FaK.f k a0 a1) (FaK.f (k + 1) a0 a1) := by
  intro a0 a1 k
  have ih0 := FaK.mono_l k
  unfold FaK.f
  exact mo_
noncomputable def FaK.L0 := fun a b c d e f => lim fun k => FaK.l0 k a b c d e f
theorem FaK.L0_lim a b c d e f : Lim (fun k => FaK.l0 k a b c d e f) (FaK.L0 a b c d e f) := ⟨fun k => (FaK.mono_l k) a b c d e f, rfl⟩
noncomputable def FaK.F := fun a b => lim fun k => FaK.f k a b
theorem FaK.F_lim a b : Lim (fun k => FaK.f k a b) (FaK.F a b) := ⟨FaK.mono a b, rfl⟩
theorem FaK.L0_eq a b c d e f : FaK.L0 a b c d e f = (if f < e then (if 0 ≤ f then (if f < (d.length : Int) then ((Fbe.f (wrap64 (((rd_T74 d f).f1) - a))).bind fun t456 => (if t456 < b then (FaK.L0 a t456 1 d e (wrap64 (f + 1))) else (if t456 = b then (FaK.L0 a b (wrap64 (c + 1)) d e (wrap64 (f + 1))) else (FaK.L0 a b c d e (wrap64 (f + 1)))))) else (none)) else (none)) else (some (b, c))) := by
  refine Lim.succ_eq (FaK.L0_lim ..).mon ?_
  simp only [FaK.l0]
  have m0 := @FaK.L0_lim
  exact li_
theorem FaK.F_eq l0 a1 : FaK.F l0 a1 = (FaK.L0 a1 181 0 l0 (l0.length : Int) 0) := by
  refine Lim.eq_ ?_
  simp only [FaK.f]
  have m0 := @FaK.L0_lim
  exact li_
mutual
def Fav.j0 : Nat → List (S74) → Int → Int → Bool → Option (ByteArray × Bool)
  | 0, _, _, _, _ => none
  | k + 1, a, b, c, d => if d = true then (some ((⟨#[]⟩ : ByteArray), false)) else (Fav.l0 k b c a (a.length : Int) 0)
def Fav.l0 : Nat → Int → Int → List (S74) → Int → Int → Option (ByteArray × Bool)
  | 0, _, _, _, _, _ => none
  | k + 1, a, b, c, d, e => if e < d then (if 0 ≤ e then (if e < (c.length : Int) then ((Fbe.f (wrap64 (((rd_T74 c e).f1) - a))).bind fun t461 => (if t461 = b then (some ((rd_T74 c e).f0, true)) else (Fav.l0 k a b c d (wrap64 (e + 1))))) else (none)) else (none)) else (some ((⟨#[]⟩ : ByteArray), false))
end
def Fav.f (k : Nat) (l0 : List (S74)) (a1 : Int) : Option (ByteArray × Bool) := (FaK.f k l0 a1).bind fun bt457 => (if bt457.1 > 20 then (Fav.j0 k l0 a1 bt457.1 true) else (Fav.j0 k l0 a1 bt457.1 (bt457.2 != 1)))
theorem Fav.mono_l : ∀ k, (∀ a b c d, LeO (Fav.j0 k a b c d) (Fav.j0 (k + 1) a b c d)) ∧ (∀ a b c d e, LeO (Fav.l0 k a b c d e) (Fav.l0 (k + 1) a b c d e))
  | 0 => ⟨fun _ _ _ _ => LeO.none _, fun _ _ _ _ _ => LeO.none _⟩
  | k + 1 => by
    obtain ⟨ih0, ih1⟩ := Fav.mono_l k
    have m0 := @FaK.mono
    refine ⟨?_, ?_⟩
    · intros; unfold Fav.j0; exact mo_
    · intros; unfold Fav.l0; exact mo_
theorem Fav.mono : ∀ a0 a1 k, LeO (Fav.f k a0 a1) (Fav.f (k + 1) a0 a1) := by
  intro a0 a1 k
  obtain ⟨ih0, ih1⟩ := Fav.mono_l k
  unfold Fav.f
  have m0 := @FaK.mono
  exact mo_
noncomputable def Fav.J0 := fun a b c d => lim fun k => Fav.j0 k a b c d
theorem Fav.J0_lim a b c d : Lim (fun k => Fav.j0 k a b c d) (Fav.J0 a b c d) := ⟨fun k => (Fav.mono_l k).1 a b c d, rfl⟩
noncomputable def Fav.L0 := fun a b c d e => lim fun k => Fav.l0 k a b c d e
theorem Fav.L0_lim a b c d e : Lim (fun k => Fav.l0 k a b c d e) (Fav.L0 a b c d e) := ⟨fun k => (Fav.mono_l k).2 a b c d e, rfl⟩
noncomputable def Fav.F := fun a b => lim fun k => Fav.f k a b
theorem Fav.F_lim a b : Lim (fun k => Fav.f k a b) (Fav.F a b) := ⟨Fav.mono a b, rfl⟩
theorem Fav.J0_eq a b c d : Fav.J0 a b c d = (if d = true then (some ((⟨#[]⟩ : ByteArray), false)) else (Fav.L0 b c a (a.length : Int) 0)) := by
  refine Lim.succ_eq (Fav.J0_lim ..).mon ?_
  simp only [Fav.j0]
  have m0 := @Fav.L0_lim
  exact li_
theorem Fav.L0_eq a b c d e : Fav.L0 a b c d e = (if e < d then (if 0 ≤ e then (if e < (c.length : Int) then ((Fbe.f (wrap64 (((rd_T74 c e).f1) - a))).bind fun t461 => (if t461 = b then (some ((rd_T74 c e).f0, true)) else (Fav.L0 a b c d (wrap64 (e + 1))))) else (none)) else (none)) else (some ((⟨#[]⟩ : ByteArray), false))) := by
  refine Lim.succ_eq (Fav.L0_lim ..).mon ?_
  simp only [Fav.l0]
  have m0 := @Fav.L0_lim
  exact li_
theorem Fav.F_eq l0 a1 : Fav.F l0 a1 = ((FaK.F l0 a1).bind fun bt457 => (if bt457.1 > 20 then (Fav.J0 l0 a1 bt457.1 true) else (Fav.J0 l0 a1 bt457.1 (bt457.2 != 1)))) := by
  refine Lim.eq_ ?_
  simp only [Fav.f]
  have m0 := @Fav.J0_lim
  have m1 := @FaK.F_lim
  exact li_
def FaV.f (k : Nat) (l0 : List (S74)) (a1_0 : ByteArray) (a1_1 : Int) (a1_2 : Int) : Option (ByteArray × ByteArray × Bool) := (Fav.f k l0 a1_1).bind fun bt463 => ((Fav.f k l0 a1_2).bind fun bt465 => (if bt463.2 = true then (if bt465.2 = true then (if bt463.1.toList = bt465.1.toList then (some ((⟨#[]⟩ : ByteArray), (⟨#[]⟩ : ByteArray), false)) else (some (bt463.1, bt465.1, true))) else (some ((⟨#[]⟩ : ByteArray), (⟨#[]⟩ : ByteArray), false))) else (some ((⟨#[]⟩ : ByteArray), (⟨#[]⟩ : ByteArray), false))))
theorem FaV.mono : ∀ a0 a1 a2 a3 k, LeO (FaV.f k a0 a1 a2 a3) (FaV.f (k + 1) a0 a1 a2 a3) := by
  intro a0 a1 a2 a3 k
  unfold FaV.f
  have m0 := @Fav.mono
  exact mo_
noncomputable def FaV.F := fun a b c d => lim fun k => FaV.f k a b c d
theorem FaV.F_lim a b c d : Lim (fun k => FaV.f k a b c d) (FaV.F a b c d) := ⟨FaV.mono a b c d, rfl⟩
theorem FaV.F_eq l0 a1_0 a1_1 a1_2 : FaV.F l0 a1_0 a1_1 a1_2 = ((Fav.F l0 a1_1).bind fun bt463 => ((Fav.F l0 a1_2).bind fun bt465 => (if bt463.2 = true then (if bt465.2 = true then (if bt463.1.toList = bt465.1.toList then (some ((⟨#[]⟩ : ByteArray), (⟨#[]⟩ : ByteArray), false)) else (some (bt463.1, bt465.1, true))) else (some ((⟨#[]⟩ : ByteArray), (⟨#[]⟩ : ByteArray), false))) else (some ((⟨#[]⟩ : ByteArray), (⟨#[]⟩ : ByteArray), false))))) := by
  refine Lim.eq_ ?_
  simp only [FaV.f]
  have m0 := @Fav.F_lim
  exact li_
def FaG.l0 : Nat → List (S74) → List ByteArray → List Int → List (S40) → Int → Int → Option (List ByteArray × List Int × Bool)
  | 0, _, _, _, _, _, _ => none
  | k + 1, a, b, c, d, e, f => if f < e then (if 0 ≤ f then (if f < (d.length : Int) then ((FaV.f k a ((rd_T40 d f).f0) ((rd_T40 d f).f1) ((rd_T40 d f).f2)).bind fun bt470 => (if bt470.2.2 = true then (if bt470.1.size + 1 ≤ 9223372036854775807 then (if (bt470.1 ++ (⟨#[32]⟩ : ByteArray)).size + ((rd_T40 d f).f0).size ≤ 9223372036854775807 then (if ((bt470.1 ++ (⟨#[32]⟩ : ByteArray)) ++ ((rd_T40 d f).f0)).size + 1 ≤ 9223372036854775807 then (if (((bt470.1 ++ (⟨#[32]⟩ : ByteArray)) ++ ((rd_T40 d f).f0)) ++ (⟨#[32]⟩ : ByteArray)).size + bt470.2.1.size ≤ 9223372036854775807 then (if b.length < 8796093022208 then (FaG.l0 k a (b ++ [(((bt470.1 ++ (⟨#[32]⟩ : ByteArray)) ++ ((rd_T40 d f).f0)) ++ (⟨#[32]⟩ : ByteArray)) ++ bt470.2.1]) c d e (wrap64 (f + 1))) else (none)) else (none)) else (none)) else (none)) else (none)) else (if c.length < 17592186044416 then (FaG.l0 k a b (c ++ [f]) d e (wrap64 (f + 1))) else (none)))) else (none)) else (none)) else (some (b, c, true))
def FaG.f (k : Nat) (l0 : List (S74)) (l1 : List (S40)) : Option (List ByteArray × List Int × Bool) := (FaE.f k l0 l1).bind fun t467 => (if t467 = true then (FaG.l0 k l0 ([] : List ByteArray) ([] : List Int) l1 (l1.length : Int) 0) else (some (([] : List ByteArray), ([] : List Int), false)))
theorem FaG.mono_l : ∀ k, (∀ a b c d e f, LeO (FaG.l0 k a b c d e f) (FaG.l0 (k + 1) a b c d e f))
  | 0 => fun _ _ _ _ _ _ => LeO.none _
  | k + 1 => by
    have ih0 := FaG.mono_l k
    have m0 := @FaE.mono
    have m1 := @FaV.mono
    · intros; unfold FaG.l0; exact mo_
theorem FaG.mono : ∀ a0 a1 k, LeO (FaG.f k a0 a1) (FaG.f (k + 1) a0 a1) := by
  intro a0 a1 k
  have ih0 := FaG.mono_l k
  unfold FaG.f
  have m0 := @FaE.mono
  have m1 := @FaV.mono
  exact mo_
noncomputable def FaG.L0 := fun a b c d e f => lim fun k => FaG.l0 k a b c d e f
theorem FaG.L0_lim a b c d e f : Lim (fun k => FaG.l0 k a b c d e f) (FaG.L0 a b c d e f) := ⟨fun k => (FaG.mono_l k) a b c d e f, rfl⟩
noncomputable def FaG.F := fun a b => lim fun k => FaG.f k a b
theorem FaG.F_lim a b : Lim (fun k => FaG.f k a b) (FaG.F a b) := ⟨FaG.mono a b, rfl⟩
theorem FaG.L0_eq a b c d e f : FaG.L0 a b c d e f = (if f < e then (if 0 ≤ f then (if f < (d.length : Int) then ((FaV.F a ((rd_T40 d f).f0) ((rd_T40 d f).f1) ((rd_T40 d f).f2)).bind fun bt470 => (if bt470.2.2 = true then (if bt470.1.size + 1 ≤ 9223372036854775807 then (if (bt470.1 ++ (⟨#[32]⟩ : ByteArray)).size + ((rd_T40 d f).f0).size ≤ 9223372036854775807 then (if ((bt470.1 ++ (⟨#[32]⟩ : ByteArray)) ++ ((rd_T40 d f).f0)).size + 1 ≤ 9223372036854775807 then (if (((bt470.1 ++ (⟨#[32]⟩ : ByteArray)) ++ ((rd_T40 d f).f0)) ++ (⟨#[32]⟩ : ByteArray)).size + bt470.2.1.size ≤ 9223372036854775807 then (if b.length < 8796093022208 then (FaG.L0 a (b ++ [(((bt470.1 ++ (⟨#[32]⟩ : ByteArray)) ++ ((rd_T40 d f).f0)) ++ (⟨#[32]⟩ : ByteArray)) ++ bt470.2.1]) c d e (wrap64 (f + 1))) else (none)) else (none)) else (none)) else (none)) else (none)) else (if c.length < 17592186044416 then (FaG.L0 a b (c ++ [f]) d e (wrap64 (f + 1))) else (none)))) else (none)) else (none)) else (some (b, c, true))) := by
  refine Lim.succ_eq (FaG.L0_lim ..).mon ?_
  simp only [FaG.l0]
  have m0 := @FaG.L0_lim
  have m1 := @FaV.F_lim
  exact li_
theorem FaG.F_eq l0 l1 : FaG.F l0 l1 = ((FaE.F l0 l1).bind fun t467 => (if t467 = true then (FaG.L0 l0 ([] : List ByteArray) ([] : List Int) l1 (l1.length : Int) 0) else (some (([] : List ByteArray), ([] : List Int), false)))) := by
  refine Lim.eq_ ?_
  simp only [FaG.f]
  have m0 := @FaG.L0_lim
  have m1 := @FaE.F_lim
  exact li_
def Fa7.f (k : Nat) (l0 : List Int) : Option ((List (S74)) × (List (S40)) × ByteArray) := (Fah.f k l0 0 0).bind fun bt480 => ((Fai.f k l0 bt480.2.1 bt480.2.2 bt480.1).bind fun bt485 => ((Fba.f l0 bt485.2.1 bt485.2.2 (([(⟨#[71, 73, 86, 69]⟩ : ByteArray), (⟨#[71, 73, 86, 69]⟩ : ByteArray), (⟨#[65, 83, 75]⟩ : ByteArray), (⟨#[83, 72, 79, 87]⟩ : ByteArray), (⟨#[78, 79]⟩ : ByteArray), (⟨#[]⟩ : ByteArray)] : List ByteArray))).bind fun bt493 => (some (bt480.1, bt485.1, bt493.1))))
theorem Fa7.mono : ∀ a0 k, LeO (Fa7.f k a0) (Fa7.f (k + 1) a0) := by
  intro a0 k
  unfold Fa7.f
  have m0 := @Fah.mono
  have m1 := @Fai.mono
  exact mo_
noncomputable def Fa7.F := fun a => lim fun k => Fa7.f k a
theorem Fa7.F_lim a : Lim (fun k => Fa7.f k a) (Fa7.F a) := ⟨Fa7.mono a, rfl⟩
theorem Fa7.F_eq l0 : Fa7.F l0 = ((Fah.F l0 0 0).bind fun bt480 => ((Fai.F l0 bt480.2.1 bt480.2.2 bt480.1).bind fun bt485 => ((Fba.f l0 bt485.2.1 bt485.2.2 (([(⟨#[71, 73, 86, 69]⟩ : ByteArray), (⟨#[71, 73, 86, 69]⟩ : ByteArray), (⟨#[65, 83, 75]⟩ : ByteArray), (⟨#[83, 72, 79, 87]⟩ : ByteArray), (⟨#[78, 79]⟩ : ByteArray), (⟨#[]⟩ : ByteArray)] : List ByteArray))).bind fun bt493 => (some (bt480.1, bt485.1, bt493.1))))) := by
  refine Lim.eq_ ?_
  simp only [Fa7.f]
  have m0 := @Fah.F_lim
  have m1 := @Fai.F_lim
  exact li_
def Fbr.f (l0 : List ByteArray) : Option (List ByteArray) := (some (([] : List ByteArray) : List ByteArray)).bind fun y496 => (if y496.length + l0.length < 8796093022208 then (some (y496 ++ l0)) else (none))
def Fbu.f (l0 : List ByteArray) : Option (List ByteArray) := if l0.length < 4611686018427387904 then some (sortTexts l0) else none
def Fbn.f (l0 : List ByteArray) : Option (List ByteArray) := if l0.length < 4611686018427387904 then some (onceTexts l0) else none
def Fbp.f (l0 : List ByteArray) : Option (List ByteArray) := (Fbr.f l0).bind fun t502 => ((Fbu.f t502).bind fun t505 => ((Fbn.f t505).bind fun t506 => (some t506)))
mutual
def Fas.j0 : Nat → List (S74) → List (S40) → ByteArray → Bool → Option (List ByteArray × Bool)
  | 0, _, _, _, _ => none
  | k + 1, a, b, c, d => if d = true then (some (([] : List ByteArray), false)) else (Fas.l0 k a c ([] : List ByteArray) b (b.length : Int) 0)
def Fas.l0 : Nat → List (S74) → ByteArray → List ByteArray → List (S40) → Int → Int → Option (List ByteArray × Bool)
  | 0, _, _, _, _, _, _ => none
  | k + 1, a, b, c, d, e, f => if f < e then (if 0 ≤ f then (if f < (d.length : Int) then ((Fax.f k ((rd_T40 d f).f0) ((rd_T40 d f).f1) ((rd_T40 d f).f2) a).bind fun bt514 => (if bt514.1.toList = ([] : List UInt8) then (Fas.l0 k a b c d e (wrap64 (f + 1))) else (if ((rd_T40 d f).f0).toList = b.toList then (if c.length < 8796093022208 then (Fas.l0 k a b (c ++ [bt514.1]) d e (wrap64 (f + 1))) else (none)) else (Fas.l0 k a b c d e (wrap64 (f + 1)))))) else (none)) else (none)) else ((Fbp.f c).bind fun t519 => (some (t519, true)))
end
def Fas.f (k : Nat) (l0 : List (S74)) (l1 : List (S40)) (a2 : ByteArray) : Option (List ByteArray × Bool) := (Fan.f k l0).bind fun t509 => (if t509 = true then ((FaR.f k l1).bind fun t510 => (if t510 = true then ((Fa6.f k a2).bind fun t511 => (Fas.j0 k l0 l1 a2 (!t511))) else (Fas.j0 k l0 l1 a2 true))) else (Fas.j0 k l0 l1 a2 true))
theorem Fas.mono_l : ∀ k, (∀ a b c d, LeO (Fas.j0 k a b c d) (Fas.j0 (k + 1) a b c d)) ∧ (∀ a b c d e f, LeO (Fas.l0 k a b c d e f) (Fas.l0 (k + 1) a b c d e f))
  | 0 => ⟨fun _ _ _ _ => LeO.none _, fun _ _ _ _ _ _ => LeO.none _⟩
  | k + 1 => by
    obtain ⟨ih0, ih1⟩ := Fas.mono_l k
    have m0 := @Fan.mono
    have m1 := @Fa6.mono
    have m2 := @Fax.mono
    have m3 := @FaR.mono
    refine ⟨?_, ?_⟩
    · intros; unfold Fas.j0; exact mo_
    · intros; unfold Fas.l0; exact mo_
theorem Fas.mono : ∀ a0 a1 a2 k, LeO (Fas.f k a0 a1 a2) (Fas.f (k + 1) a0 a1 a2) := by
  intro a0 a1 a2 k
  obtain ⟨ih0, ih1⟩ := Fas.mono_l k
  unfold Fas.f
  have m0 := @Fan.mono
  have m1 := @Fa6.mono
  have m2 := @Fax.mono
  have m3 := @FaR.mono
  exact mo_
noncomputable def Fas.J0 := fun a b c d => lim fun k => Fas.j0 k a b c d
theorem Fas.J0_lim a b c d : Lim (fun k => Fas.j0 k a b c d) (Fas.J0 a b c d) := ⟨fun k => (Fas.mono_l k).1 a b c d, rfl⟩
noncomputable def Fas.L0 := fun a b c d e f => lim fun k => Fas.l0 k a b c d e f
theorem Fas.L0_lim a b c d e f : Lim (fun k => Fas.l0 k a b c d e f) (Fas.L0 a b c d e f) := ⟨fun k => (Fas.mono_l k).2 a b c d e f, rfl⟩
noncomputable def Fas.F := fun a b c => lim fun k => Fas.f k a b c
theorem Fas.F_lim a b c : Lim (fun k => Fas.f k a b c) (Fas.F a b c) := ⟨Fas.mono a b c, rfl⟩
theorem Fas.J0_eq a b c d : Fas.J0 a b c d = (if d = true then (some (([] : List ByteArray), false)) else (Fas.L0 a c ([] : List ByteArray) b (b.length : Int) 0)) := by
  refine Lim.succ_eq (Fas.J0_lim ..).mon ?_
  simp only [Fas.j0]
  have m0 := @Fas.L0_lim
  exact li_
theorem Fas.L0_eq a b c d e f : Fas.L0 a b c d e f = (if f < e then (if 0 ≤ f then (if f < (d.length : Int) then ((Fax.F ((rd_T40 d f).f0) ((rd_T40 d f).f1) ((rd_T40 d f).f2) a).bind fun bt514 => (if bt514.1.toList = ([] : List UInt8) then (Fas.L0 a b c d e (wrap64 (f + 1))) else (if ((rd_T40 d f).f0).toList = b.toList then (if c.length < 8796093022208 then (Fas.L0 a b (c ++ [bt514.1]) d e (wrap64 (f + 1))) else (none)) else (Fas.L0 a b c d e (wrap64 (f + 1)))))) else (none)) else (none)) else ((Fbp.f c).bind fun t519 => (some (t519, true)))) := by
  refine Lim.succ_eq (Fas.L0_lim ..).mon ?_
  simp only [Fas.l0]
  have m0 := @Fas.L0_lim
  have m1 := @Fax.F_lim
  exact li_
theorem Fas.F_eq l0 l1 a2 : Fas.F l0 l1 a2 = ((Fan.F l0).bind fun t509 => (if t509 = true then ((FaR.F l1).bind fun t510 => (if t510 = true then ((Fa6.F a2).bind fun t511 => (Fas.J0 l0 l1 a2 (!t511))) else (Fas.J0 l0 l1 a2 true))) else (Fas.J0 l0 l1 a2 true))) := by
  refine Lim.eq_ ?_
  simp only [Fas.f]
  have m0 := @Fas.J0_lim
  have m1 := @Fan.F_lim
  have m2 := @Fa6.F_lim
  have m3 := @FaR.F_lim
  exact li_
mutual
def Fad.j0 : Nat → List (S74) → List (S40) → ByteArray → Bool → Option (List ByteArray × Bool)
  | 0, _, _, _, _ => none
  | k + 1, a, b, c, d => if d = true then (some (([] : List ByteArray), false)) else (Fad.l0 k a c ([] : List ByteArray) b (b.length : Int) 0)
def Fad.l0 : Nat → List (S74) → ByteArray → List ByteArray → List (S40) → Int → Int → Option (List ByteArray × Bool)
  | 0, _, _, _, _, _, _ => none
  | k + 1, a, b, c, d, e, f => if f < e then (if 0 ≤ f then (if f < (d.length : Int) then ((FaV.f k a ((rd_T40 d f).f0) ((rd_T40 d f).f1) ((rd_T40 d f).f2)).bind fun bt526 => (if bt526.2.2 = true then (Fad.j2 k a b c bt526.1 d e f (((rd_T40 d f).f0).toList != b.toList)) else (Fad.j2 k a b c bt526.1 d e f true))) else (none)) else (none)) else (some (c, true))
def Fad.j2 : Nat → List (S74) → ByteArray → List ByteArray → ByteArray → List (S40) → Int → Int → Bool → Option (List ByteArray × Bool)
  | 0, _, _, _, _, _, _, _, _ => none
  | k + 1, a, b, c, d, e, f, g, h => if h = true then (Fad.l0 k a b c e f (wrap64 (g + 1))) else (Fad.l1 k a b c d 0 e f g)
def Fad.l1 : Nat → List (S74) → ByteArray → List ByteArray → ByteArray → Int → List (S40) → Int → Int → Option (List ByteArray × Bool)
  | 0, _, _, _, _, _, _, _, _ => none
  | k + 1, a, b, c, d, e, f, g, h => if e < (c.length : Int) then (if 0 ≤ e then (Fad.j4 k a b c d e f g h (Op.bytesLess ((rdOf ByteArray.empty c e).toList) d.toList)) else (none)) else (Fad.j4 k a b c d e f g h false)
def Fad.j4 : Nat → List (S74) → ByteArray → List ByteArray → ByteArray → Int → List (S40) → Int → Int → Bool → Option (List ByteArray × Bool)
  | 0, _, _, _, _, _, _, _, _, _ => none
  | k + 1, a, b, c, d, e, f, g, h, i => if i = true then (Fad.l1 k a b c d (wrap64 (e + 1)) f g h) else (if e = (c.length : Int) then (Fad.j5 k a b c d e f g h true) else (if 0 ≤ e then (if e < (c.length : Int) then (Fad.j5 k a b c d e f g h ((rdOf ByteArray.empty c e).toList != d.toList)) else (none)) else (none)))
def Fad.j5 : Nat → List (S74) → ByteArray → List ByteArray → ByteArray → Int → List (S40) → Int → Int → Bool → Option (List ByteArray × Bool)
  | 0, _, _, _, _, _, _, _, _, _ => none
  | k + 1, a, b, c, d, e, f, g, h, i => if i = true then ((some (([] : List ByteArray) : List ByteArray)).bind fun y531 => (if 0 ≤ e then (if e ≤ (c.length : Int) then ((some (c.take (e : Int).toNat : List ByteArray)).bind fun y534 => (if y531.length + y534.length < 8796093022208 then ((some (y531 ++ y534 : List ByteArray)).bind fun y538 => ((some (([d] : List ByteArray) : List ByteArray)).bind fun y541 => (if y538.length + y541.length < 8796093022208 then ((some (y538 ++ y541 : List ByteArray)).bind fun y544 => ((some (c.drop (e : Int).toNat : List ByteArray)).bind fun y547 => (if y544.length + y547.length < 8796093022208 then (Fad.l0 k a b (y544 ++ y547) f g (wrap64 (h + 1))) else (none)))) else (none)))) else (none))) else (none)) else (none))) else (Fad.l0 k a b c f g (wrap64 (h + 1)))
end
def Fad.f (k : Nat) (l0 : List (S74)) (l1 : List (S40)) (a2 : ByteArray) : Option (List ByteArray × Bool) := (FaE.f k l0 l1).bind fun t522 => (if t522 = true then ((FaC.f k a2).bind fun t523 => (Fad.j0 k l0 l1 a2 (!t523))) else (Fad.j0 k l0 l1 a2 true))
theorem Fad.mono_l : ∀ k, (∀ a b c d, LeO (Fad.j0 k a b c d) (Fad.j0 (k + 1) a b c d)) ∧ (∀ a b c d e f, LeO (Fad.l0 k a b c d e f) (Fad.l0 (k + 1) a b c d e f)) ∧ (∀ a b c d e f g h, LeO (Fad.j2 k a b c d e f g h) (Fad.j2 (k + 1) a b c d e f g h)) ∧ (∀ a b c d e f g h, LeO (Fad.l1 k a b c d e f g h) (Fad.l1 (k + 1) a b c d e f g h)) ∧ (∀ a b c d e f g h i, LeO (Fad.j4 k a b c d e f g h i) (Fad.j4 (k + 1) a b c d e f g h i)) ∧ (∀ a b c d e f g h i, LeO (Fad.j5 k a b c d e f g h i) (Fad.j5 (k + 1) a b c d e f g h i))
  | 0 => ⟨fun _ _ _ _ => LeO.none _, fun _ _ _ _ _ _ => LeO.none _, fun _ _ _ _ _ _ _ _ => LeO.none _, fun _ _ _ _ _ _ _ _ => LeO.none _, fun _ _ _ _ _ _ _ _ _ => LeO.none _, fun _ _ _ _ _ _ _ _ _ => LeO.none _⟩
  | k + 1 => by
    obtain ⟨ih0, ih1, ih2, ih3, ih4, ih5⟩ := Fad.mono_l k
    have m0 := @FaC.mono
    have m1 := @FaE.mono
    have m2 := @FaV.mono
    refine ⟨?_, ?_, ?_, ?_, ?_, ?_⟩
    · intros; unfold Fad.j0; exact mo_
    · intros; unfold Fad.l0; exact mo_
    · intros; unfold Fad.j2; exact mo_
    · intros; unfold Fad.l1; exact mo_
    · intros; unfold Fad.j4; exact mo_
    · intros; unfold Fad.j5; exact mo_
theorem Fad.mono : ∀ a0 a1 a2 k, LeO (Fad.f k a0 a1 a2) (Fad.f (k + 1) a0 a1 a2) := by
  intro a0 a1 a2 k
  obtain ⟨ih0, ih1, ih2, ih3, ih4, ih5⟩ := Fad.mono_l k
  unfold Fad.f
  have m0 := @FaC.mono
  have m1 := @FaE.mono
  have m2 := @FaV.mono
  exact mo_
noncomputable def Fad.J0 := fun a b c d => lim fun k => Fad.j0 k a b c d
theorem Fad.J0_lim a b c d : Lim (fun k => Fad.j0 k a b c d) (Fad.J0 a b c d) := ⟨fun k => (Fad.mono_l k).1 a b c d, rfl⟩
noncomputable def Fad.L0 := fun a b c d e f => lim fun k => Fad.l0 k a b c d e f
theorem Fad.L0_lim a b c d e f : Lim (fun k => Fad.l0 k a b c d e f) (Fad.L0 a b c d e f) := ⟨fun k => (Fad.mono_l k).2.1 a b c d e f, rfl⟩
noncomputable def Fad.J2 := fun a b c d e f g h => lim fun k => Fad.j2 k a b c d e f g h
theorem Fad.J2_lim a b c d e f g h : Lim (fun k => Fad.j2 k a b c d e f g h) (Fad.J2 a b c d e f g h) := ⟨fun k => (Fad.mono_l k).2.2.1 a b c d e f g h, rfl⟩
noncomputable def Fad.L1 := fun a b c d e f g h => lim fun k => Fad.l1 k a b c d e f g h
theorem Fad.L1_lim a b c d e f g h : Lim (fun k => Fad.l1 k a b c d e f g h) (Fad.L1 a b c d e f g h) := ⟨fun k => (Fad.mono_l k).2.2.2.1 a b c d e f g h, rfl⟩
noncomputable def Fad.J4 := fun a b c d e f g h i => lim fun k => Fad.j4 k a b c d e f g h i
theorem Fad.J4_lim a b c d e f g h i : Lim (fun k => Fad.j4 k a b c d e f g h i) (Fad.J4 a b c d e f g h i) := ⟨fun k => (Fad.mono_l k).2.2.2.2.1 a b c d e f g h i, rfl⟩
noncomputable def Fad.J5 := fun a b c d e f g h i => lim fun k => Fad.j5 k a b c d e f g h i
theorem Fad.J5_lim a b c d e f g h i : Lim (fun k => Fad.j5 k a b c d e f g h i) (Fad.J5 a b c d e f g h i) := ⟨fun k => (Fad.mono_l k).2.2.2.2.2 a b c d e f g h i, rfl⟩
noncomputable def Fad.F := fun a b c => lim fun k => Fad.f k a b c
theorem Fad.F_lim a b c : Lim (fun k => Fad.f k a b c) (Fad.F a b c) := ⟨Fad.mono a b c, rfl⟩
theorem Fad.J0_eq a b c d : Fad.J0 a b c d = (if d = true then (some (([] : List ByteArray), false)) else (Fad.L0 a c ([] : List ByteArray) b (b.length : Int) 0)) := by
  refine Lim.succ_eq (Fad.J0_lim ..).mon ?_
  simp only [Fad.j0]
  have m0 := @Fad.L0_lim
  exact li_
theorem Fad.L0_eq a b c d e f : Fad.L0 a b c d e f = (if f < e then (if 0 ≤ f then (if f < (d.length : Int) then ((FaV.F a ((rd_T40 d f).f0) ((rd_T40 d f).f1) ((rd_T40 d f).f2)).bind fun bt526 => (if bt526.2.2 = true then (Fad.J2 a b c bt526.1 d e f (((rd_T40 d f).f0).toList != b.toList)) else (Fad.J2 a b c bt526.1 d e f true))) else (none)) else (none)) else (some (c, true))) := by
  refine Lim.succ_eq (Fad.L0_lim ..).mon ?_
  simp only [Fad.l0]
  have m0 := @Fad.J2_lim
  have m1 := @FaV.F_lim
  exact li_
theorem Fad.J2_eq a b c d e f g h : Fad.J2 a b c d e f g h = (if h = true then (Fad.L0 a b c e f (wrap64 (g + 1))) else (Fad.L1 a b c d 0 e f g)) := by
  refine Lim.succ_eq (Fad.J2_lim ..).mon ?_
  simp only [Fad.j2]
  have m0 := @Fad.L0_lim
  have m1 := @Fad.L1_lim
  exact li_
theorem Fad.L1_eq a b c d e f g h : Fad.L1 a b c d e f g h = (if e < (c.length : Int) then (if 0 ≤ e then (Fad.J4 a b c d e f g h (Op.bytesLess ((rdOf ByteArray.empty c e).toList) d.toList)) else (none)) else (Fad.J4 a b c d e f g h false)) := by
  refine Lim.succ_eq (Fad.L1_lim ..).mon ?_
  simp only [Fad.l1]
  have m0 := @Fad.J4_lim
  exact li_
theorem Fad.J4_eq a b c d e f g h i : Fad.J4 a b c d e f g h i = (if i = true then (Fad.L1 a b c d (wrap64 (e + 1)) f g h) else (if e = (c.length : Int) then (Fad.J5 a b c d e f g h true) else (if 0 ≤ e then (if e < (c.length : Int) then (Fad.J5 a b c d e f g h ((rdOf ByteArray.empty c e).toList != d.toList)) else (none)) else (none)))) := by
  refine Lim.succ_eq (Fad.J4_lim ..).mon ?_
  simp only [Fad.j4]
  have m0 := @Fad.L1_lim
  have m1 := @Fad.J5_lim
  exact li_
theorem Fad.J5_eq a b c d e f g h i : Fad.J5 a b c d e f g h i = (if i = true then ((some (([] : List ByteArray) : List ByteArray)).bind fun y531 => (if 0 ≤ e then (if e ≤ (c.length : Int) then ((some (c.take (e : Int).toNat : List ByteArray)).bind fun y534 => (if y531.length + y534.length < 8796093022208 then ((some (y531 ++ y534 : List ByteArray)).bind fun y538 => ((some (([d] : List ByteArray) : List ByteArray)).bind fun y541 => (if y538.length + y541.length < 8796093022208 then ((some (y538 ++ y541 : List ByteArray)).bind fun y544 => ((some (c.drop (e : Int).toNat : List ByteArray)).bind fun y547 => (if y544.length + y547.length < 8796093022208 then (Fad.L0 a b (y544 ++ y547) f g (wrap64 (h + 1))) else (none)))) else (none)))) else (none))) else (none)) else (none))) else (Fad.L0 a b c f g (wrap64 (h + 1)))) := by
  refine Lim.succ_eq (Fad.J5_lim ..).mon ?_
  simp only [Fad.j5]
  have m0 := @Fad.L0_lim
  exact li_
theorem Fad.F_eq l0 l1 a2 : Fad.F l0 l1 a2 = ((FaE.F l0 l1).bind fun t522 => (if t522 = true then ((FaC.F a2).bind fun t523 => (Fad.J0 l0 l1 a2 (!t523))) else (Fad.J0 l0 l1 a2 true))) := by
  refine Lim.eq_ ?_
  simp only [Fad.f]
  have m0 := @Fad.J0_lim
  have m1 := @FaC.F_lim
  have m2 := @FaE.F_lim
  exact li_
def Fap.j0 : Nat → List (S74) → Int → Bool → List Int → Int → Int → Option (ByteArray × Int × Int)
  | 0, _, _, _, _, _, _ => none
  | k + 1, a, b, c, d, e, f => if c = true then ((FaJ.f d e f b).bind fun bt557 => (if 0 ≤ bt557.1 then (if bt557.1 < (a.length : Int) then (some ((rd_T74 a bt557.1).f0, bt557.2.1, bt557.2.2)) else (none)) else (none))) else ((Fba.f d e f (([(⟨#[109, 97, 114, 121]⟩ : ByteArray), (⟨#[110, 111, 98, 111, 100, 121]⟩ : ByteArray), (⟨#[]⟩ : ByteArray)] : List ByteArray))).bind fun bt564 => (some (bt564.1, bt564.2.1, bt564.2.2)))
def Fap.f (k : Nat) (s0_0 : List Int) (s0_1 : Int) (s0_2 : Int) (l1 : List (S74)) : Option (ByteArray × Int × Int) := if (l1.length : Int) > 0 then ((Fbb.f s0_0 s0_1 s0_2 8).bind fun bt554 => (Fap.j0 k l1 (l1.length : Int) (!bt554.1) s0_0 bt554.2.1 bt554.2.2)) else (Fap.j0 k l1 (l1.length : Int) false s0_0 s0_1 s0_2)
theorem Fap.mono_l : ∀ k, (∀ a b c d e f, LeO (Fap.j0 k a b c d e f) (Fap.j0 (k + 1) a b c d e f))
  | 0 => fun _ _ _ _ _ _ => LeO.none _
  | k + 1 => by
    have ih0 := Fap.mono_l k
    · intros; unfold Fap.j0; exact mo_
theorem Fap.mono : ∀ a0 a1 a2 a3 k, LeO (Fap.f k a0 a1 a2 a3) (Fap.f (k + 1) a0 a1 a2 a3) := by
  intro a0 a1 a2 a3 k
  have ih0 := Fap.mono_l k
  unfold Fap.f
  exact mo_
noncomputable def Fap.J0 := fun a b c d e f => lim fun k => Fap.j0 k a b c d e f
theorem Fap.J0_lim a b c d e f : Lim (fun k => Fap.j0 k a b c d e f) (Fap.J0 a b c d e f) := ⟨fun k => (Fap.mono_l k) a b c d e f, rfl⟩
noncomputable def Fap.F := fun a b c d => lim fun k => Fap.f k a b c d
theorem Fap.F_lim a b c d : Lim (fun k => Fap.f k a b c d) (Fap.F a b c d) := ⟨Fap.mono a b c d, rfl⟩
theorem Fap.J0_eq a b c d e f : Fap.J0 a b c d e f = (if c = true then ((FaJ.f d e f b).bind fun bt557 => (if 0 ≤ bt557.1 then (if bt557.1 < (a.length : Int) then (some ((rd_T74 a bt557.1).f0, bt557.2.1, bt557.2.2)) else (none)) else (none))) else ((Fba.f d e f (([(⟨#[109, 97, 114, 121]⟩ : ByteArray), (⟨#[110, 111, 98, 111, 100, 121]⟩ : ByteArray), (⟨#[]⟩ : ByteArray)] : List ByteArray))).bind fun bt564 => (some (bt564.1, bt564.2.1, bt564.2.2)))) := by
  refine Lim.succ_eq (Fap.J0_lim ..).mon ?_
  simp only [Fap.j0]
  exact li_
theorem Fap.F_eq s0_0 s0_1 s0_2 l1 : Fap.F s0_0 s0_1 s0_2 l1 = (if (l1.length : Int) > 0 then ((Fbb.f s0_0 s0_1 s0_2 8).bind fun bt554 => (Fap.J0 l1 (l1.length : Int) (!bt554.1) s0_0 bt554.2.1 bt554.2.2)) else (Fap.J0 l1 (l1.length : Int) false s0_0 s0_1 s0_2)) := by
  refine Lim.eq_ ?_
  simp only [Fap.f]
  have m0 := @Fap.J0_lim
  exact li_
def FaY.f (k : Nat) (l0 : List Int) : Option ((List (S74)) × (List (S40)) × ByteArray × ByteArray) := (Fah.f k l0 0 0).bind fun bt568 => ((Fai.f k l0 bt568.2.1 bt568.2.2 bt568.1).bind fun bt573 => ((Fap.f k l0 bt573.2.1 bt573.2.2 bt568.1).bind fun bt578 => ((Fap.f k l0 bt578.2.1 bt578.2.2 bt568.1).bind fun bt581 => (some (bt568.1, bt573.1, bt578.1, bt581.1)))))
theorem FaY.mono : ∀ a0 k, LeO (FaY.f k a0) (FaY.f (k + 1) a0) := by
  intro a0 k
  unfold FaY.f
  have m0 := @Fah.mono
  have m1 := @Fai.mono
  have m2 := @Fap.mono
  exact mo_
noncomputable def FaY.F := fun a => lim fun k => FaY.f k a
theorem FaY.F_lim a : Lim (fun k => FaY.f k a) (FaY.F a) := ⟨FaY.mono a, rfl⟩
theorem FaY.F_eq l0 : FaY.F l0 = ((Fah.F l0 0 0).bind fun bt568 => ((Fai.F l0 bt568.2.1 bt568.2.2 bt568.1).bind fun bt573 => ((Fap.F l0 bt573.2.1 bt573.2.2 bt568.1).bind fun bt578 => ((Fap.F l0 bt578.2.1 bt578.2.2 bt568.1).bind fun bt581 => (some (bt568.1, bt573.1, bt578.1, bt581.1)))))) := by
  refine Lim.eq_ ?_
  simp only [FaY.f]
  have m0 := @Fah.F_lim
  have m1 := @Fai.F_lim
  have m2 := @Fap.F_lim
  exact li_
def Fa2.f (k : Nat) (a0 : ByteArray) (l1_0 : List (S74)) : Option (Bool) := (FaN.f k l1_0 a0).bind fun t584 => (some (decide (t584 ≥ 0)))
theorem Fa2.mono : ∀ a0 a1 k, LeO (Fa2.f k a0 a1) (Fa2.f (k + 1) a0 a1) := by
  intro a0 a1 k
  unfold Fa2.f
  have m0 := @FaN.mono
  exact mo_
noncomputable def Fa2.F := fun a b => lim fun k => Fa2.f k a b
theorem Fa2.F_lim a b : Lim (fun k => Fa2.f k a b) (Fa2.F a b) := ⟨Fa2.mono a b, rfl⟩
theorem Fa2.F_eq a0 l1_0 : Fa2.F a0 l1_0 = ((FaN.F l1_0 a0).bind fun t584 => (some (decide (t584 ≥ 0)))) := by
  refine Lim.eq_ ?_
  simp only [Fa2.f]
  have m0 := @FaN.F_lim
  exact li_
def Faz.f (k : Nat) (a0 : ByteArray) (l1_0 : List (S74)) : Option (Bool) := (Fa2.f k a0 l1_0).bind fun t585 => (some (!t585))
theorem Faz.mono : ∀ a0 a1 k, LeO (Faz.f k a0 a1) (Faz.f (k + 1) a0 a1) := by
  intro a0 a1 k
  unfold Faz.f
  have m0 := @Fa2.mono
  exact mo_
noncomputable def Faz.F := fun a b => lim fun k => Faz.f k a b
theorem Faz.F_lim a b : Lim (fun k => Faz.f k a b) (Faz.F a b) := ⟨Faz.mono a b, rfl⟩
theorem Faz.F_eq a0 l1_0 : Faz.F a0 l1_0 = ((Fa2.F a0 l1_0).bind fun t585 => (some (!t585))) := by
  refine Lim.eq_ ?_
  simp only [Faz.f]
  have m0 := @Fa2.F_lim
  exact li_
def Fab.l0 : Nat → List ByteArray → Int → Int → List (S74) → Option (Int)
  | 0, _, _, _, _ => none
  | k + 1, a, b, c, d => if c < b then (if 0 ≤ c then (if c < (a.length : Int) then ((Faz.f k (rdOf ByteArray.empty a c) d).bind fun t587 => (if t587 = true then (some c) else (Fab.l0 k a b (wrap64 (c + 1)) d))) else (none)) else (none)) else (some (-1))
def Fab.f (k : Nat) (l0 : List ByteArray) (l1_0 : List (S74)) : Option (Int) := Fab.l0 k l0 (l0.length : Int) 0 l1_0
theorem Fab.mono_l : ∀ k, (∀ a b c d, LeO (Fab.l0 k a b c d) (Fab.l0 (k + 1) a b c d))
  | 0 => fun _ _ _ _ => LeO.none _
  | k + 1 => by
    have ih0 := Fab.mono_l k
    have m0 := @Faz.mono
    · intros; unfold Fab.l0; exact mo_
theorem Fab.mono : ∀ a0 a1 k, LeO (Fab.f k a0 a1) (Fab.f (k + 1) a0 a1) := by
  intro a0 a1 k
  have ih0 := Fab.mono_l k
  unfold Fab.f
  have m0 := @Faz.mono
  exact mo_
noncomputable def Fab.L0 := fun a b c d => lim fun k => Fab.l0 k a b c d
theorem Fab.L0_lim a b c d : Lim (fun k => Fab.l0 k a b c d) (Fab.L0 a b c d) := ⟨fun k => (Fab.mono_l k) a b c d, rfl⟩
noncomputable def Fab.F := fun a b => lim fun k => Fab.f k a b
theorem Fab.F_lim a b : Lim (fun k => Fab.f k a b) (Fab.F a b) := ⟨Fab.mono a b, rfl⟩
theorem Fab.L0_eq a b c d : Fab.L0 a b c d = (if c < b then (if 0 ≤ c then (if c < (a.length : Int) then ((Faz.F (rdOf ByteArray.empty a c) d).bind fun t587 => (if t587 = true then (some c) else (Fab.L0 a b (wrap64 (c + 1)) d))) else (none)) else (none)) else (some (-1))) := by
  refine Lim.succ_eq (Fab.L0_lim ..).mon ?_
  simp only [Fab.l0]
  have m0 := @Fab.L0_lim
  have m1 := @Faz.F_lim
  exact li_
theorem Fab.F_eq l0 l1_0 : Fab.F l0 l1_0 = (Fab.L0 l0 (l0.length : Int) 0 l1_0) := by
  refine Lim.eq_ ?_
  simp only [Fab.f]
  have m0 := @Fab.L0_lim
  exact li_
def Fak.f (k : Nat) (l0 : List ByteArray) (l1_0 : List (S74)) : Option (Bool) := (Fab.f k l0 l1_0).bind fun t588 => (some (decide (t588 ≥ 0)))
theorem Fak.mono : ∀ a0 a1 k, LeO (Fak.f k a0 a1) (Fak.f (k + 1) a0 a1) := by
  intro a0 a1 k
  unfold Fak.f
  have m0 := @Fab.mono
  exact mo_
noncomputable def Fak.F := fun a b => lim fun k => Fak.f k a b
theorem Fak.F_lim a b : Lim (fun k => Fak.f k a b) (Fak.F a b) := ⟨Fak.mono a b, rfl⟩
theorem Fak.F_eq l0 l1_0 : Fak.F l0 l1_0 = ((Fab.F l0 l1_0).bind fun t588 => (some (decide (t588 ≥ 0)))) := by
  refine Lim.eq_ ?_
  simp only [Fak.f]
  have m0 := @Fab.F_lim
  exact li_
def FaB.f (k : Nat) (l0 : List ByteArray) (l1_0 : List (S74)) : Option (Bool) := (Fak.f k l0 l1_0).bind fun t590 => (some (!t590))
theorem FaB.mono : ∀ a0 a1 k, LeO (FaB.f k a0 a1) (FaB.f (k + 1) a0 a1) := by
  intro a0 a1 k
  unfold FaB.f
  have m0 := @Fak.mono
  exact mo_
noncomputable def FaB.F := fun a b => lim fun k => FaB.f k a b
theorem FaB.F_lim a b : Lim (fun k => FaB.f k a b) (FaB.F a b) := ⟨FaB.mono a b, rfl⟩
theorem FaB.F_eq l0 l1_0 : FaB.F l0 l1_0 = ((Fak.F l0 l1_0).bind fun t590 => (some (!t590))) := by
  refine Lim.eq_ ?_
  simp only [FaB.f]
  have m0 := @Fak.F_lim
  exact li_
def FaL.f (k : Nat) (l0 : List (S74)) (l1 : List ByteArray) : Option (Bool) := (Fan.f k l0).bind fun t592 => (if t592 = true then ((FaB.f k l1 l0).bind fun t593 => (some t593)) else (some false))
theorem FaL.mono : ∀ a0 a1 k, LeO (FaL.f k a0 a1) (FaL.f (k + 1) a0 a1) := by
  intro a0 a1 k
  unfold FaL.f
  have m0 := @Fan.mono
  have m1 := @FaB.mono
  exact mo_
noncomputable def FaL.F := fun a b => lim fun k => FaL.f k a b
theorem FaL.F_lim a b : Lim (fun k => FaL.f k a b) (FaL.F a b) := ⟨FaL.mono a b, rfl⟩
theorem FaL.F_eq l0 l1 : FaL.F l0 l1 = ((Fan.F l0).bind fun t592 => (if t592 = true then ((FaB.F l1 l0).bind fun t593 => (some t593)) else (some false))) := by
  refine Lim.eq_ ?_
  simp only [FaL.f]
  have m0 := @Fan.F_lim
  have m1 := @FaB.F_lim
  exact li_
def Fa5.f (a0_0 : ByteArray) (a0_1 : Int) (a0_2 : Int) (a1_0 : Int) (a2_0 : Int) : Option (Int) := (Fbj.f a0_1 a1_0).bind fun t595 => ((Fbj.f a0_2 a2_0).bind fun t596 => (some (wrap64 (t595 + t596))))
mutual
def Faf.j0 : Nat → List (S74) → List (S40) → ByteArray → ByteArray → Bool → Option (Int × Int × Bool)
  | 0, _, _, _, _, _ => none
  | k + 1, a, b, c, d, e => if e = true then (some (0, 0, false)) else ((FaN.f k a c).bind fun t602 => (if 0 ≤ t602 then (if t602 < (a.length : Int) then ((FaN.f k a d).bind fun t604 => (if 0 ≤ t604 then (if t604 < (a.length : Int) then (Faf.l0 k b 0 b (b.length : Int) 0 ((rd_T74 a t602).f1) ((rd_T74 a t604).f1)) else (none)) else (none))) else (none)) else (none)))
def Faf.l0 : Nat → List (S40) → Int → List (S40) → Int → Int → Int → Int → Option (Int × Int × Bool)
  | 0, _, _, _, _, _, _, _ => none
  | k + 1, a, b, c, d, e, f, g => if e < d then (if 0 ≤ e then (if e < (c.length : Int) then ((Fa5.f ((rd_T40 c e).f0) ((rd_T40 c e).f1) ((rd_T40 c e).f2) f g).bind fun t612 => (if 0 ≤ b then (if b < (a.length : Int) then ((Fa5.f ((rd_T40 a b).f0) ((rd_T40 a b).f1) ((rd_T40 a b).f2) f g).bind fun t614 => (if t612 < t614 then (Faf.l0 k a e c d (wrap64 (e + 1)) f g) else (Faf.l0 k a b c d (wrap64 (e + 1)) f g))) else (none)) else (none))) else (none)) else (none)) else (if 0 ≤ b then (if b < (a.length : Int) then ((Fa5.f ((rd_T40 a b).f0) ((rd_T40 a b).f1) ((rd_T40 a b).f2) f g).bind fun t609 => (some (b, t609, true))) else (none)) else (none))
end
def Faf.f (k : Nat) (l0 : List (S74)) (l1 : List (S40)) (a2 : ByteArray) (a3 : ByteArray) : Option (Int × Int × Bool) := if (l1.length : Int) = 0 then (Faf.j0 k l0 l1 a2 a3 true) else ((FaR.f k l1).bind fun t597 => (if t597 = true then ((FaL.f k l0 (([a2, a3] : List ByteArray))).bind fun t601 => (if t601 = true then (Faf.j0 k l0 l1 a2 a3 (a2.toList == a3.toList)) else (Faf.j0 k l0 l1 a2 a3 true))) else (Faf.j0 k l0 l1 a2 a3 true)))
theorem Faf.mono_l : ∀ k, (∀ a b c d e, LeO (Faf.j0 k a b c d e) (Faf.j0 (k + 1) a b c d e)) ∧ (∀ a b c d e f g, LeO (Faf.l0 k a b c d e f g) (Faf.l0 (k + 1) a b c d e f g))
  | 0 => ⟨fun _ _ _ _ _ => LeO.none _, fun _ _ _ _ _ _ _ => LeO.none _⟩
  | k + 1 => by
    obtain ⟨ih0, ih1⟩ := Faf.mono_l k
    have m0 := @FaL.mono
    have m1 := @FaR.mono
    have m2 := @FaN.mono
    refine ⟨?_, ?_⟩
    · intros; unfold Faf.j0; exact mo_
    · intros; unfold Faf.l0; exact mo_
theorem Faf.mono : ∀ a0 a1 a2 a3 k, LeO (Faf.f k a0 a1 a2 a3) (Faf.f (k + 1) a0 a1 a2 a3) := by
  intro a0 a1 a2 a3 k
  obtain ⟨ih0, ih1⟩ := Faf.mono_l k
  unfold Faf.f
  have m0 := @FaL.mono
  have m1 := @FaR.mono
  have m2 := @FaN.mono
  exact mo_
noncomputable def Faf.J0 := fun a b c d e => lim fun k => Faf.j0 k a b c d e
theorem Faf.J0_lim a b c d e : Lim (fun k => Faf.j0 k a b c d e) (Faf.J0 a b c d e) := ⟨fun k => (Faf.mono_l k).1 a b c d e, rfl⟩
noncomputable def Faf.L0 := fun a b c d e f g => lim fun k => Faf.l0 k a b c d e f g
theorem Faf.L0_lim a b c d e f g : Lim (fun k => Faf.l0 k a b c d e f g) (Faf.L0 a b c d e f g) := ⟨fun k => (Faf.mono_l k).2 a b c d e f g, rfl⟩
noncomputable def Faf.F := fun a b c d => lim fun k => Faf.f k a b c d
theorem Faf.F_lim a b c d : Lim (fun k => Faf.f k a b c d) (Faf.F a b c d) := ⟨Faf.mono a b c d, rfl⟩
theorem Faf.J0_eq a b c d e : Faf.J0 a b c d e = (if e = true then (some (0, 0, false)) else ((FaN.F a c).bind fun t602 => (if 0 ≤ t602 then (if t602 < (a.length : Int) then ((FaN.F a d).bind fun t604 => (if 0 ≤ t604 then (if t604 < (a.length : Int) then (Faf.L0 b 0 b (b.length : Int) 0 ((rd_T74 a t602).f1) ((rd_T74 a t604).f1)) else (none)) else (none))) else (none)) else (none)))) := by
  refine Lim.succ_eq (Faf.J0_lim ..).mon ?_
  simp only [Faf.j0]
  have m0 := @Faf.L0_lim
  have m1 := @FaN.F_lim
  exact li_
theorem Faf.L0_eq a b c d e f g : Faf.L0 a b c d e f g = (if e < d then (if 0 ≤ e then (if e < (c.length : Int) then ((Fa5.f ((rd_T40 c e).f0) ((rd_T40 c e).f1) ((rd_T40 c e).f2) f g).bind fun t612 => (if 0 ≤ b then (if b < (a.length : Int) then ((Fa5.f ((rd_T40 a b).f0) ((rd_T40 a b).f1) ((rd_T40 a b).f2) f g).bind fun t614 => (if t612 < t614 then (Faf.L0 a e c d (wrap64 (e + 1)) f g) else (Faf.L0 a b c d (wrap64 (e + 1)) f g))) else (none)) else (none))) else (none)) else (none)) else (if 0 ≤ b then (if b < (a.length : Int) then ((Fa5.f ((rd_T40 a b).f0) ((rd_T40 a b).f1) ((rd_T40 a b).f2) f g).bind fun t609 => (some (b, t609, true))) else (none)) else (none))) := by
  refine Lim.succ_eq (Faf.L0_lim ..).mon ?_
  simp only [Faf.l0]
  have m0 := @Faf.L0_lim
  exact li_
theorem Faf.F_eq l0 l1 a2 a3 : Faf.F l0 l1 a2 a3 = (if (l1.length : Int) = 0 then (Faf.J0 l0 l1 a2 a3 true) else ((FaR.F l1).bind fun t597 => (if t597 = true then ((FaL.F l0 (([a2, a3] : List ByteArray))).bind fun t601 => (if t601 = true then (Faf.J0 l0 l1 a2 a3 (a2.toList == a3.toList)) else (Faf.J0 l0 l1 a2 a3 true))) else (Faf.J0 l0 l1 a2 a3 true)))) := by
  refine Lim.eq_ ?_
  simp only [Faf.f]
  have m0 := @Faf.J0_lim
  have m1 := @FaL.F_lim
  have m2 := @FaR.F_lim
  exact li_
def FaX.f (k : Nat) (l0 : List (S74)) (a1 : ByteArray) (a2 : ByteArray) (a3 : ByteArray) : Option (ByteArray × Int × Int × Bool) := (Fau.f k l0 a2).bind fun t616 => ((Fau.f k l0 a3).bind fun t617 => ((Faj.f k l0).bind fun t618 => (if t618 = true then ((FaC.f k a1).bind fun t619 => (if t619 = true then (if t616 < 0 then (some ((⟨#[]⟩ : ByteArray), 0, 0, false)) else (if t617 < 0 then (some ((⟨#[]⟩ : ByteArray), 0, 0, false)) else (if t616 = t617 then (some ((⟨#[]⟩ : ByteArray), 0, 0, false)) else (if 0 ≤ t616 then (if t616 < (l0.length : Int) then (if 0 ≤ t617 then (if t617 < (l0.length : Int) then (some (a1, (rd_T74 l0 t616).f1, (rd_T74 l0 t617).f1, true)) else (none)) else (none)) else (none)) else (none))))) else (some ((⟨#[]⟩ : ByteArray), 0, 0, false)))) else (some ((⟨#[]⟩ : ByteArray), 0, 0, false)))))
theorem FaX.mono : ∀ a0 a1 a2 a3 k, LeO (FaX.f k a0 a1 a2 a3) (FaX.f (k + 1) a0 a1 a2 a3) := by
  intro a0 a1 a2 a3 k
  unfold FaX.f
  have m0 := @FaC.mono
  have m1 := @Fau.mono
  have m2 := @Faj.mono
  exact mo_
noncomputable def FaX.F := fun a b c d => lim fun k => FaX.f k a b c d
theorem FaX.F_lim a b c d : Lim (fun k => FaX.f k a b c d) (FaX.F a b c d) := ⟨FaX.mono a b c d, rfl⟩
theorem FaX.F_eq l0 a1 a2 a3 : FaX.F l0 a1 a2 a3 = ((Fau.F l0 a2).bind fun t616 => ((Fau.F l0 a3).bind fun t617 => ((Faj.F l0).bind fun t618 => (if t618 = true then ((FaC.F a1).bind fun t619 => (if t619 = true then (if t616 < 0 then (some ((⟨#[]⟩ : ByteArray), 0, 0, false)) else (if t617 < 0 then (some ((⟨#[]⟩ : ByteArray), 0, 0, false)) else (if t616 = t617 then (some ((⟨#[]⟩ : ByteArray), 0, 0, false)) else (if 0 ≤ t616 then (if t616 < (l0.length : Int) then (if 0 ≤ t617 then (if t617 < (l0.length : Int) then (some (a1, (rd_T74 l0 t616).f1, (rd_T74 l0 t617).f1, true)) else (none)) else (none)) else (none)) else (none))))) else (some ((⟨#[]⟩ : ByteArray), 0, 0, false)))) else (some ((⟨#[]⟩ : ByteArray), 0, 0, false)))))) := by
  refine Lim.eq_ ?_
  simp only [FaX.f]
  have m0 := @FaC.F_lim
  have m1 := @Fau.F_lim
  have m2 := @Faj.F_lim
  exact li_
mutual
def Fal.j0 : Nat → List (S40) → Bool → ByteArray → Int → Int → Option (Int × Int × Bool)
  | 0, _, _, _, _, _ => none
  | k + 1, a, b, c, d, e => if b = true then (some (0, 0, false)) else (Fal.l0 k (-1) 0 a (a.length : Int) 0 c d e)
def Fal.l0 : Nat → Int → Int → List (S40) → Int → Int → ByteArray → Int → Int → Option (Int × Int × Bool)
  | 0, _, _, _, _, _, _, _, _ => none
  | k + 1, a, b, c, d, e, f, g, h => if e < d then (if 0 ≤ e then (if e < (c.length : Int) then ((Fbe.f (wrap64 (((rd_T40 c e).f1) - g))).bind fun t630 => ((Fbe.f (wrap64 (((rd_T40 c e).f2) - h))).bind fun t631 => (if a < 0 then (Fal.l0 k e (wrap64 (t630 + t631)) c d (wrap64 (e + 1)) f g h) else (if (wrap64 (t630 + t631)) < b then (Fal.l0 k e (wrap64 (t630 + t631)) c d (wrap64 (e + 1)) f g h) else (Fal.l0 k a b c d (wrap64 (e + 1)) f g h))))) else (none)) else (none)) else (some (a, b, true))
end
def Fal.f (k : Nat) (l0 : List (S74)) (l1 : List (S40)) (a2 : ByteArray) (a3 : ByteArray) : Option (Int × Int × Bool) := (FaX.f k l0 (⟨#[65]⟩ : ByteArray) a2 a3).bind fun bt622 => (if bt622.2.2.2 = true then ((FaE.f k l0 l1).bind fun t627 => (if t627 = true then (Fal.j0 k l1 ((l1.length : Int) == 0) bt622.1 bt622.2.1 bt622.2.2.1) else (Fal.j0 k l1 true bt622.1 bt622.2.1 bt622.2.2.1))) else (Fal.j0 k l1 true bt622.1 bt622.2.1 bt622.2.2.1))
theorem Fal.mono_l : ∀ k, (∀ a b c d e, LeO (Fal.j0 k a b c d e) (Fal.j0 (k + 1) a b c d e)) ∧ (∀ a b c d e f g h, LeO (Fal.l0 k a b c d e f g h) (Fal.l0 (k + 1) a b c d e f g h))
  | 0 => ⟨fun _ _ _ _ _ => LeO.none _, fun _ _ _ _ _ _ _ _ => LeO.none _⟩
  | k + 1 => by
    obtain ⟨ih0, ih1⟩ := Fal.mono_l k
    have m0 := @FaX.mono
    have m1 := @FaE.mono
    refine ⟨?_, ?_⟩
    · intros; unfold Fal.j0; exact mo_
    · intros; unfold Fal.l0; exact mo_
theorem Fal.mono : ∀ a0 a1 a2 a3 k, LeO (Fal.f k a0 a1 a2 a3) (Fal.f (k + 1) a0 a1 a2 a3) := by
  intro a0 a1 a2 a3 k
  obtain ⟨ih0, ih1⟩ := Fal.mono_l k
  unfold Fal.f
  have m0 := @FaX.mono
  have m1 := @FaE.mono
  exact mo_
noncomputable def Fal.J0 := fun a b c d e => lim fun k => Fal.j0 k a b c d e
theorem Fal.J0_lim a b c d e : Lim (fun k => Fal.j0 k a b c d e) (Fal.J0 a b c d e) := ⟨fun k => (Fal.mono_l k).1 a b c d e, rfl⟩
noncomputable def Fal.L0 := fun a b c d e f g h => lim fun k => Fal.l0 k a b c d e f g h
theorem Fal.L0_lim a b c d e f g h : Lim (fun k => Fal.l0 k a b c d e f g h) (Fal.L0 a b c d e f g h) := ⟨fun k => (Fal.mono_l k).2 a b c d e f g h, rfl⟩
noncomputable def Fal.F := fun a b c d => lim fun k => Fal.f k a b c d
theorem Fal.F_lim a b c d : Lim (fun k => Fal.f k a b c d) (Fal.F a b c d) := ⟨Fal.mono a b c d, rfl⟩
theorem Fal.J0_eq a b c d e : Fal.J0 a b c d e = (if b = true then (some (0, 0, false)) else (Fal.L0 (-1) 0 a (a.length : Int) 0 c d e)) := by
  refine Lim.succ_eq (Fal.J0_lim ..).mon ?_
  simp only [Fal.j0]
  have m0 := @Fal.L0_lim
  exact li_
theorem Fal.L0_eq a b c d e f g h : Fal.L0 a b c d e f g h = (if e < d then (if 0 ≤ e then (if e < (c.length : Int) then ((Fbe.f (wrap64 (((rd_T40 c e).f1) - g))).bind fun t630 => ((Fbe.f (wrap64 (((rd_T40 c e).f2) - h))).bind fun t631 => (if a < 0 then (Fal.L0 e (wrap64 (t630 + t631)) c d (wrap64 (e + 1)) f g h) else (if (wrap64 (t630 + t631)) < b then (Fal.L0 e (wrap64 (t630 + t631)) c d (wrap64 (e + 1)) f g h) else (Fal.L0 a b c d (wrap64 (e + 1)) f g h))))) else (none)) else (none)) else (some (a, b, true))) := by
  refine Lim.succ_eq (Fal.L0_lim ..).mon ?_
  simp only [Fal.l0]
  have m0 := @Fal.L0_lim
  exact li_
theorem Fal.F_eq l0 l1 a2 a3 : Fal.F l0 l1 a2 a3 = ((FaX.F l0 (⟨#[65]⟩ : ByteArray) a2 a3).bind fun bt622 => (if bt622.2.2.2 = true then ((FaE.F l0 l1).bind fun t627 => (if t627 = true then (Fal.J0 l1 ((l1.length : Int) == 0) bt622.1 bt622.2.1 bt622.2.2.1) else (Fal.J0 l1 true bt622.1 bt622.2.1 bt622.2.2.1))) else (Fal.J0 l1 true bt622.1 bt622.2.1 bt622.2.2.1))) := by
  refine Lim.eq_ ?_
  simp only [Fal.f]
  have m0 := @Fal.J0_lim
  have m1 := @FaX.F_lim
  have m2 := @FaE.F_lim
  exact li_
def Fa0.f (k : Nat) (l0 : List Int) : Option ((List (S74)) × ByteArray × Int × Int × ByteArray) := (Fah.f k l0 0 0).bind fun bt634 => ((Fag.f k l0 bt634.2.1 bt634.2.2 bt634.1).bind fun bt639 => ((Fap.f k l0 bt639.2.2.2.1 bt639.2.2.2.2 bt634.1).bind fun bt644 => (some (bt634.1, bt639.1, bt639.2.1, bt639.2.2.1, bt644.1))))
theorem Fa0.mono : ∀ a0 k, LeO (Fa0.f k a0) (Fa0.f (k + 1) a0) := by
  intro a0 k
  unfold Fa0.f
  have m0 := @Fah.mono
  have m1 := @Fag.mono
  have m2 := @Fap.mono
  exact mo_
noncomputable def Fa0.F := fun a => lim fun k => Fa0.f k a
theorem Fa0.F_lim a : Lim (fun k => Fa0.f k a) (Fa0.F a) := ⟨Fa0.mono a, rfl⟩
theorem Fa0.F_eq l0 : Fa0.F l0 = ((Fah.F l0 0 0).bind fun bt634 => ((Fag.F l0 bt634.2.1 bt634.2.2 bt634.1).bind fun bt639 => ((Fap.F l0 bt639.2.2.2.1 bt639.2.2.2.2 bt634.1).bind fun bt644 => (some (bt634.1, bt639.1, bt639.2.1, bt639.2.2.1, bt644.1))))) := by
  refine Lim.eq_ ?_
  simp only [Fa0.f]
  have m0 := @Fah.F_lim
  have m1 := @Fag.F_lim
  have m2 := @Fap.F_lim
  exact li_
def Fbm.f (a0 : Int) (a1 : Int) : Option (Int) := some (mn (mx (wrap64 (a0 - a1)) (-90)) 90)
def Fay.j0 : Nat → List (S74) → ByteArray → Bool → ByteArray → Int → Int → Option (ByteArray × Int × Int × Bool)
  | 0, _, _, _, _, _, _ => none
  | k + 1, a, b, c, d, e, f => if c = true then (some ((⟨#[]⟩ : ByteArray), 0, 0, false)) else ((FaN.f k a b).bind fun t654 => (if 0 ≤ t654 then (if t654 < (a.length : Int) then ((Fbm.f e ((rd_T74 a t654).f1)).bind fun t656 => ((Fbm.f f ((rd_T74 a t654).f1)).bind fun t657 => ((FaW.f k d t656 t657).bind fun t659 => (if t659 = true then (some (d, t656, t657, true)) else (some ((⟨#[]⟩ : ByteArray), 0, 0, false)))))) else (none)) else (none)))
def Fay.f (k : Nat) (l0 : List (S74)) (a1_0 : ByteArray) (a1_1 : Int) (a1_2 : Int) (a2 : ByteArray) : Option (ByteArray × Int × Int × Bool) := (FaW.f k a1_0 a1_1 a1_2).bind fun t649 => (if t649 = true then ((FaL.f k l0 (([a2] : List ByteArray))).bind fun t653 => (Fay.j0 k l0 a2 (!t653) a1_0 a1_1 a1_2)) else (Fay.j0 k l0 a2 true a1_0 a1_1 a1_2))
theorem Fay.mono_l : ∀ k, (∀ a b c d e f, LeO (Fay.j0 k a b c d e f) (Fay.j0 (k + 1) a b c d e f))
  | 0 => fun _ _ _ _ _ _ => LeO.none _
  | k + 1 => by
    have ih0 := Fay.mono_l k
    have m0 := @FaW.mono
    have m1 := @FaL.mono
    have m2 := @FaN.mono
    · intros; unfold Fay.j0; exact mo_
theorem Fay.mono : ∀ a0 a1 a2 a3 a4 k, LeO (Fay.f k a0 a1 a2 a3 a4) (Fay.f (k + 1) a0 a1 a2 a3 a4) := by
  intro a0 a1 a2 a3 a4 k
  have ih0 := Fay.mono_l k
  unfold Fay.f
  have m0 := @FaW.mono
  have m1 := @FaL.mono
  have m2 := @FaN.mono
  exact mo_
noncomputable def Fay.J0 := fun a b c d e f => lim fun k => Fay.j0 k a b c d e f
theorem Fay.J0_lim a b c d e f : Lim (fun k => Fay.j0 k a b c d e f) (Fay.J0 a b c d e f) := ⟨fun k => (Fay.mono_l k) a b c d e f, rfl⟩
noncomputable def Fay.F := fun a b c d e => lim fun k => Fay.f k a b c d e
theorem Fay.F_lim a b c d e : Lim (fun k => Fay.f k a b c d e) (Fay.F a b c d e) := ⟨Fay.mono a b c d e, rfl⟩
theorem Fay.J0_eq a b c d e f : Fay.J0 a b c d e f = (if c = true then (some ((⟨#[]⟩ : ByteArray), 0, 0, false)) else ((FaN.F a b).bind fun t654 => (if 0 ≤ t654 then (if t654 < (a.length : Int) then ((Fbm.f e ((rd_T74 a t654).f1)).bind fun t656 => ((Fbm.f f ((rd_T74 a t654).f1)).bind fun t657 => ((FaW.F d t656 t657).bind fun t659 => (if t659 = true then (some (d, t656, t657, true)) else (some ((⟨#[]⟩ : ByteArray), 0, 0, false)))))) else (none)) else (none)))) := by
  refine Lim.succ_eq (Fay.J0_lim ..).mon ?_
  simp only [Fay.j0]
  have m0 := @FaW.F_lim
  have m1 := @FaN.F_lim
  exact li_
theorem Fay.F_eq l0 a1_0 a1_1 a1_2 a2 : Fay.F l0 a1_0 a1_1 a1_2 a2 = ((FaW.F a1_0 a1_1 a1_2).bind fun t649 => (if t649 = true then ((FaL.F l0 (([a2] : List ByteArray))).bind fun t653 => (Fay.J0 l0 a2 (!t653) a1_0 a1_1 a1_2)) else (Fay.J0 l0 a2 true a1_0 a1_1 a1_2))) := by
  refine Lim.eq_ ?_
  simp only [Fay.f]
  have m0 := @Fay.J0_lim
  have m1 := @FaW.F_lim
  have m2 := @FaL.F_lim
  exact li_
def Fbq.f (a0 : Int) (a1 : Int) : Option (Int) := (Fbk.f 90 (wrap64 (a0 - a1))).bind fun t660 => ((Fbh.f (-90) t660).bind fun t661 => (some t661))
def Faw.j0 : Nat → List (S74) → Int → Bool → ByteArray → Int → Int → Option (ByteArray × Int × Int × Bool)
  | 0, _, _, _, _, _, _ => none
  | k + 1, a, b, c, d, e, f => if c = true then (some ((⟨#[]⟩ : ByteArray), 0, 0, false)) else (if 0 ≤ b then (if b < (a.length : Int) then ((Fbq.f e ((rd_T74 a b).f1)).bind fun t668 => ((Fbq.f f ((rd_T74 a b).f1)).bind fun t670 => ((FaQ.f k d t668 t670).bind fun t672 => (if t672 = true then (some (d, t668, t670, true)) else (some ((⟨#[]⟩ : ByteArray), 0, 0, false)))))) else (none)) else (none))
def Faw.f (k : Nat) (l0 : List (S74)) (a1_0 : ByteArray) (a1_1 : Int) (a1_2 : Int) (a2 : ByteArray) : Option (ByteArray × Int × Int × Bool) := (Fau.f k l0 a2).bind fun t664 => ((Faj.f k l0).bind fun t665 => (if t665 = true then ((FaQ.f k a1_0 a1_1 a1_2).bind fun t666 => (if t666 = true then (Faw.j0 k l0 t664 (decide (t664 < 0)) a1_0 a1_1 a1_2) else (Faw.j0 k l0 t664 true a1_0 a1_1 a1_2))) else (Faw.j0 k l0 t664 true a1_0 a1_1 a1_2)))
theorem Faw.mono_l : ∀ k, (∀ a b c d e f, LeO (Faw.j0 k a b c d e f) (Faw.j0 (k + 1) a b c d e f))
  | 0 => fun _ _ _ _ _ _ => LeO.none _
  | k + 1 => by
    have ih0 := Faw.mono_l k
    have m0 := @Fau.mono
    have m1 := @Faj.mono
    have m2 := @FaQ.mono
    · intros; unfold Faw.j0; exact mo_
theorem Faw.mono : ∀ a0 a1 a2 a3 a4 k, LeO (Faw.f k a0 a1 a2 a3 a4) (Faw.f (k + 1) a0 a1 a2 a3 a4) := by
  intro a0 a1 a2 a3 a4 k
  have ih0 := Faw.mono_l k
  unfold Faw.f
  have m0 := @Fau.mono
  have m1 := @Faj.mono
  have m2 := @FaQ.mono
  exact mo_
noncomputable def Faw.J0 := fun a b c d e f => lim fun k => Faw.j0 k a b c d e f
theorem Faw.J0_lim a b c d e f : Lim (fun k => Faw.j0 k a b c d e f) (Faw.J0 a b c d e f) := ⟨fun k => (Faw.mono_l k) a b c d e f, rfl⟩
noncomputable def Faw.F := fun a b c d e => lim fun k => Faw.f k a b c d e
theorem Faw.F_lim a b c d e : Lim (fun k => Faw.f k a b c d e) (Faw.F a b c d e) := ⟨Faw.mono a b c d e, rfl⟩
theorem Faw.J0_eq a b c d e f : Faw.J0 a b c d e f = (if c = true then (some ((⟨#[]⟩ : ByteArray), 0, 0, false)) else (if 0 ≤ b then (if b < (a.length : Int) then ((Fbq.f e ((rd_T74 a b).f1)).bind fun t668 => ((Fbq.f f ((rd_T74 a b).f1)).bind fun t670 => ((FaQ.F d t668 t670).bind fun t672 => (if t672 = true then (some (d, t668, t670, true)) else (some ((⟨#[]⟩ : ByteArray), 0, 0, false)))))) else (none)) else (none))) := by
  refine Lim.succ_eq (Faw.J0_lim ..).mon ?_
  simp only [Faw.j0]
  have m0 := @FaQ.F_lim
  exact li_
theorem Faw.F_eq l0 a1_0 a1_1 a1_2 a2 : Faw.F l0 a1_0 a1_1 a1_2 a2 = ((Fau.F l0 a2).bind fun t664 => ((Faj.F l0).bind fun t665 => (if t665 = true then ((FaQ.F a1_0 a1_1 a1_2).bind fun t666 => (if t666 = true then (Faw.J0 l0 t664 (decide (t664 < 0)) a1_0 a1_1 a1_2) else (Faw.J0 l0 t664 true a1_0 a1_1 a1_2))) else (Faw.J0 l0 t664 true a1_0 a1_1 a1_2)))) := by
  refine Lim.eq_ ?_
  simp only [Faw.f]
  have m0 := @Faw.J0_lim
  have m1 := @Fau.F_lim
  have m2 := @Faj.F_lim
  have m3 := @FaQ.F_lim
  exact li_
def FaT.f (k : Nat) (l0 : List (S74)) (a1_0 : ByteArray) (a1_1 : Int) (a1_2 : Int) : Option (ByteArray × ByteArray × Bool) := (Faj.f k l0).bind fun t674 => (if t674 = true then ((FaQ.f k a1_0 a1_1 a1_2).bind fun t675 => (if t675 = true then ((FaV.f k l0 a1_0 a1_1 a1_2).bind fun bt676 => (some (bt676.1, bt676.2.1, bt676.2.2))) else (some ((⟨#[]⟩ : ByteArray), (⟨#[]⟩ : ByteArray), false)))) else (some ((⟨#[]⟩ : ByteArray), (⟨#[]⟩ : ByteArray), false)))
theorem FaT.mono : ∀ a0 a1 a2 a3 k, LeO (FaT.f k a0 a1 a2 a3) (FaT.f (k + 1) a0 a1 a2 a3) := by
  intro a0 a1 a2 a3 k
  unfold FaT.f
  have m0 := @Faj.mono
  have m1 := @FaV.mono
  have m2 := @FaQ.mono
  exact mo_
noncomputable def FaT.F := fun a b c d => lim fun k => FaT.f k a b c d
theorem FaT.F_lim a b c d : Lim (fun k => FaT.f k a b c d) (FaT.F a b c d) := ⟨FaT.mono a b c d, rfl⟩
theorem FaT.F_eq l0 a1_0 a1_1 a1_2 : FaT.F l0 a1_0 a1_1 a1_2 = ((Faj.F l0).bind fun t674 => (if t674 = true then ((FaQ.F a1_0 a1_1 a1_2).bind fun t675 => (if t675 = true then ((FaV.F l0 a1_0 a1_1 a1_2).bind fun bt676 => (some (bt676.1, bt676.2.1, bt676.2.2))) else (some ((⟨#[]⟩ : ByteArray), (⟨#[]⟩ : ByteArray), false)))) else (some ((⟨#[]⟩ : ByteArray), (⟨#[]⟩ : ByteArray), false)))) := by
  refine Lim.eq_ ?_
  simp only [FaT.f]
  have m0 := @Faj.F_lim
  have m1 := @FaV.F_lim
  have m2 := @FaQ.F_lim
  exact li_
def Fam.j0 : Nat → List (S74) → ByteArray → ByteArray → Bool → List Int → Int → Int → ByteArray → Int → Int → Option ((List (S74)) × ByteArray × Int × Int × ByteArray × ByteArray)
  | 0, _, _, _, _, _, _, _, _, _, _ => none
  | k + 1, a, b, c, d, e, f, g, h, i, j => if d = true then (some (a, h, i, j, b, c)) else ((Fap.f k e f g a).bind fun bt698 => ((Fap.f k e bt698.2.1 bt698.2.2 a).bind fun bt701 => (some (a, h, i, j, bt698.1, bt701.1))))
def Fam.f (k : Nat) (l0 : List Int) : Option ((List (S74)) × ByteArray × Int × Int × ByteArray × ByteArray) := (Fah.f k l0 0 0).bind fun bt681 => ((Fag.f k l0 bt681.2.1 bt681.2.2 bt681.1).bind fun bt686 => ((FaT.f k bt681.1 bt686.1 bt686.2.1 bt686.2.2.1).bind fun bt692 => (if bt692.2.2 = true then ((Fbb.f l0 bt686.2.2.2.1 bt686.2.2.2.2 2).bind fun bt695 => (Fam.j0 k bt681.1 bt692.1 bt692.2.1 bt695.1 l0 bt695.2.1 bt695.2.2 bt686.1 bt686.2.1 bt686.2.2.1)) else (Fam.j0 k bt681.1 bt692.1 bt692.2.1 false l0 bt686.2.2.2.1 bt686.2.2.2.2 bt686.1 bt686.2.1 bt686.2.2.1))))
theorem Fam.mono_l : ∀ k, (∀ a b c d e f g h i j, LeO (Fam.j0 k a b c d e f g h i j) (Fam.j0 (k + 1) a b c d e f g h i j))
  | 0 => fun _ _ _ _ _ _ _ _ _ _ => LeO.none _
  | k + 1 => by
    have ih0 := Fam.mono_l k
    have m0 := @FaT.mono
    have m1 := @Fah.mono
    have m2 := @Fag.mono
    have m3 := @Fap.mono
    · intros; unfold Fam.j0; exact mo_
theorem Fam.mono : ∀ a0 k, LeO (Fam.f k a0) (Fam.f (k + 1) a0) := by
  intro a0 k
  have ih0 := Fam.mono_l k
  unfold Fam.f
  have m0 := @FaT.mono
  have m1 := @Fah.mono
  have m2 := @Fag.mono
  have m3 := @Fap.mono
  exact mo_
noncomputable def Fam.J0 := fun a b c d e f g h i j => lim fun k => Fam.j0 k a b c d e f g h i j
theorem Fam.J0_lim a b c d e f g h i j : Lim (fun k => Fam.j0 k a b c d e f g h i j) (Fam.J0 a b c d e f g h i j) := ⟨fun k => (Fam.mono_l k) a b c d e f g h i j, rfl⟩
noncomputable def Fam.F := fun a => lim fun k => Fam.f k a
theorem Fam.F_lim a : Lim (fun k => Fam.f k a) (Fam.F a) := ⟨Fam.mono a, rfl⟩
theorem Fam.J0_eq a b c d e f g h i j : Fam.J0 a b c d e f g h i j = (if d = true then (some (a, h, i, j, b, c)) else ((Fap.F e f g a).bind fun bt698 => ((Fap.F e bt698.2.1 bt698.2.2 a).bind fun bt701 => (some (a, h, i, j, bt698.1, bt701.1))))) := by
  refine Lim.succ_eq (Fam.J0_lim ..).mon ?_
  simp only [Fam.j0]
  have m0 := @Fap.F_lim
  exact li_
theorem Fam.F_eq l0 : Fam.F l0 = ((Fah.F l0 0 0).bind fun bt681 => ((Fag.F l0 bt681.2.1 bt681.2.2 bt681.1).bind fun bt686 => ((FaT.F bt681.1 bt686.1 bt686.2.1 bt686.2.2.1).bind fun bt692 => (if bt692.2.2 = true then ((Fbb.f l0 bt686.2.2.2.1 bt686.2.2.2.2 2).bind fun bt695 => (Fam.J0 bt681.1 bt692.1 bt692.2.1 bt695.1 l0 bt695.2.1 bt695.2.2 bt686.1 bt686.2.1 bt686.2.2.1)) else (Fam.J0 bt681.1 bt692.1 bt692.2.1 false l0 bt686.2.2.2.1 bt686.2.2.2.2 bt686.1 bt686.2.1 bt686.2.2.1))))) := by
  refine Lim.eq_ ?_
  simp only [Fam.f]
  have m0 := @Fam.J0_lim
  have m1 := @FaT.F_lim
  have m2 := @Fah.F_lim
  have m3 := @Fag.F_lim
  exact li_
def Fa8.f (k : Nat) (l0 : List (S74)) (a1_0 : ByteArray) (a1_1 : Int) (a1_2 : Int) (a2 : ByteArray) (a3 : ByteArray) : Option (Bool × Bool) := (FaL.f k l0 (([a2, a3] : List ByteArray))).bind fun t708 => (if t708 = true then ((FaW.f k a1_0 a1_1 a1_2).bind fun t709 => (if t709 = true then ((Fax.f k a1_0 a1_1 a1_2 l0).bind fun bt710 => (if bt710.1.toList = a2.toList then (some ((bt710.2.toList == a3.toList), true)) else (some (false, true)))) else (some (false, false)))) else (some (false, false)))
theorem Fa8.mono : ∀ a0 a1 a2 a3 a4 a5 k, LeO (Fa8.f k a0 a1 a2 a3 a4 a5) (Fa8.f (k + 1) a0 a1 a2 a3 a4 a5) := by
  intro a0 a1 a2 a3 a4 a5 k
  unfold Fa8.f
  have m0 := @FaW.mono
  have m1 := @Fax.mono
  have m2 := @FaL.mono
  exact mo_
noncomputable def Fa8.F := fun a b c d e f => lim fun k => Fa8.f k a b c d e f
theorem Fa8.F_lim a b c d e f : Lim (fun k => Fa8.f k a b c d e f) (Fa8.F a b c d e f) := ⟨Fa8.mono a b c d e f, rfl⟩
theorem Fa8.F_eq l0 a1_0 a1_1 a1_2 a2 a3 : Fa8.F l0 a1_0 a1_1 a1_2 a2 a3 = ((FaL.F l0 (([a2, a3] : List ByteArray))).bind fun t708 => (if t708 = true then ((FaW.F a1_0 a1_1 a1_2).bind fun t709 => (if t709 = true then ((Fax.F a1_0 a1_1 a1_2 l0).bind fun bt710 => (if bt710.1.toList = a2.toList then (some ((bt710.2.toList == a3.toList), true)) else (some (false, true)))) else (some (false, false)))) else (some (false, false)))) := by
  refine Lim.eq_ ?_
  simp only [Fa8.f]
  have m0 := @FaW.F_lim
  have m1 := @Fax.F_lim
  have m2 := @FaL.F_lim
  exact li_
def Fa9.f (k : Nat) (l0 : List (S74)) (a1_0 : ByteArray) (a1_1 : Int) (a1_2 : Int) (a2 : ByteArray) (a3 : ByteArray) : Option (Bool × Bool) := (Faj.f k l0).bind fun t713 => (if t713 = true then ((FaQ.f k a1_0 a1_1 a1_2).bind fun t714 => (if t714 = true then ((Fau.f k l0 a2).bind fun t715 => (if t715 < 0 then (some (false, false)) else ((Fau.f k l0 a3).bind fun t716 => (if t716 < 0 then (some (false, false)) else ((FaV.f k l0 a1_0 a1_1 a1_2).bind fun bt717 => (if bt717.2.2 = true then (if bt717.1.toList = a2.toList then (some ((bt717.2.1.toList == a3.toList), true)) else (some (false, true))) else (some (false, true)))))))) else (some (false, false)))) else (some (false, false)))
theorem Fa9.mono : ∀ a0 a1 a2 a3 a4 a5 k, LeO (Fa9.f k a0 a1 a2 a3 a4 a5) (Fa9.f (k + 1) a0 a1 a2 a3 a4 a5) := by
  intro a0 a1 a2 a3 a4 a5 k
  unfold Fa9.f
  have m0 := @Fau.mono
  have m1 := @Faj.mono
  have m2 := @FaV.mono
  have m3 := @FaQ.mono
  exact mo_
noncomputable def Fa9.F := fun a b c d e f => lim fun k => Fa9.f k a b c d e f
theorem Fa9.F_lim a b c d e f : Lim (fun k => Fa9.f k a b c d e f) (Fa9.F a b c d e f) := ⟨Fa9.mono a b c d e f, rfl⟩
theorem Fa9.F_eq l0 a1_0 a1_1 a1_2 a2 a3 : Fa9.F l0 a1_0 a1_1 a1_2 a2 a3 = ((Faj.F l0).bind fun t713 => (if t713 = true then ((FaQ.F a1_0 a1_1 a1_2).bind fun t714 => (if t714 = true then ((Fau.F l0 a2).bind fun t715 => (if t715 < 0 then (some (false, false)) else ((Fau.F l0 a3).bind fun t716 => (if t716 < 0 then (some (false, false)) else ((FaV.F l0 a1_0 a1_1 a1_2).bind fun bt717 => (if bt717.2.2 = true then (if bt717.1.toList = a2.toList then (some ((bt717.2.1.toList == a3.toList), true)) else (some (false, true))) else (some (false, true)))))))) else (some (false, false)))) else (some (false, false)))) := by
  refine Lim.eq_ ?_
  simp only [Fa9.f]
  have m0 := @Fau.F_lim
  have m1 := @Faj.F_lim
  have m2 := @FaV.F_lim
  have m3 := @FaQ.F_lim
  exact li_
def Fat.l0 : Nat → List ByteArray → List ByteArray → Int → Int → Option (Bool)
  | 0, _, _, _, _ => none
  | k + 1, a, b, c, d => if d < c then (if 0 ≤ d then (if d < (a.length : Int) then (if d < (b.length : Int) then (if (rdOf ByteArray.empty a d).toList = (rdOf ByteArray.empty b d).toList then (Fat.l0 k a b c (wrap64 (d + 1))) else (some false)) else (none)) else (none)) else (none)) else (some true)
def Fat.f (k : Nat) (l0 : List ByteArray) (l1 : List ByteArray) : Option (Bool) := if (l0.length : Int) = (l1.length : Int) then (Fat.l0 k l0 l1 (l0.length : Int) 0) else (some false)
theorem Fat.mono_l : ∀ k, (∀ a b c d, LeO (Fat.l0 k a b c d) (Fat.l0 (k + 1) a b c d))
  | 0 => fun _ _ _ _ => LeO.none _
  | k + 1 => by
    have ih0 := Fat.mono_l k
    · intros; unfold Fat.l0; exact mo_
theorem Fat.mono : ∀ a0 a1 k, LeO (Fat.f k a0 a1) (Fat.f (k + 1) a0 a1) := by
  intro a0 a1 k
  have ih0 := Fat.mono_l k
  unfold Fat.f
  exact mo_
noncomputable def Fat.L0 := fun a b c d => lim fun k => Fat.l0 k a b c d
theorem Fat.L0_lim a b c d : Lim (fun k => Fat.l0 k a b c d) (Fat.L0 a b c d) := ⟨fun k => (Fat.mono_l k) a b c d, rfl⟩
noncomputable def Fat.F := fun a b => lim fun k => Fat.f k a b
theorem Fat.F_lim a b : Lim (fun k => Fat.f k a b) (Fat.F a b) := ⟨Fat.mono a b, rfl⟩
theorem Fat.L0_eq a b c d : Fat.L0 a b c d = (if d < c then (if 0 ≤ d then (if d < (a.length : Int) then (if d < (b.length : Int) then (if (rdOf ByteArray.empty a d).toList = (rdOf ByteArray.empty b d).toList then (Fat.L0 a b c (wrap64 (d + 1))) else (some false)) else (none)) else (none)) else (none)) else (some true)) := by
  refine Lim.succ_eq (Fat.L0_lim ..).mon ?_
  simp only [Fat.l0]
  have m0 := @Fat.L0_lim
  exact li_
theorem Fat.F_eq l0 l1 : Fat.F l0 l1 = (if (l0.length : Int) = (l1.length : Int) then (Fat.L0 l0 l1 (l0.length : Int) 0) else (some false)) := by
  refine Lim.eq_ ?_
  simp only [Fat.f]
  have m0 := @Fat.L0_lim
  exact li_
def FaH.l0 : Nat → List Int → List Int → Int → Int → Option (Bool)
  | 0, _, _, _, _ => none
  | k + 1, a, b, c, d => if d < c then (if 0 ≤ d then (if d < (a.length : Int) then (if d < (b.length : Int) then (if (rd a d) = (rd b d) then (FaH.l0 k a b c (wrap64 (d + 1))) else (some false)) else (none)) else (none)) else (none)) else (some true)
def FaH.f (k : Nat) (l0 : List Int) (l1 : List Int) : Option (Bool) := if (l0.length : Int) = (l1.length : Int) then (FaH.l0 k l0 l1 (l0.length : Int) 0) else (some false)
theorem FaH.mono_l : ∀ k, (∀ a b c d, LeO (FaH.l0 k a b c d) (FaH.l0 (k + 1) a b c d))
  | 0 => fun _ _ _ _ => LeO.none _
  | k + 1 => by
    have ih0 := FaH.mono_l k
    · intros; unfold FaH.l0; exact mo_
theorem FaH.mono : ∀ a0 a1 k, LeO (FaH.f k a0 a1) (FaH.f (k + 1) a0 a1) := by
  intro a0 a1 k
  have ih0 := FaH.mono_l k
  unfold FaH.f
  exact mo_
noncomputable def FaH.L0 := fun a b c d => lim fun k => FaH.l0 k a b c d
theorem FaH.L0_lim a b c d : Lim (fun k => FaH.l0 k a b c d) (FaH.L0 a b c d) := ⟨fun k => (FaH.mono_l k) a b c d, rfl⟩
noncomputable def FaH.F := fun a b => lim fun k => FaH.f k a b
theorem FaH.F_lim a b : Lim (fun k => FaH.f k a b) (FaH.F a b) := ⟨FaH.mono a b, rfl⟩
theorem FaH.L0_eq a b c d : FaH.L0 a b c d = (if d < c then (if 0 ≤ d then (if d < (a.length : Int) then (if d < (b.length : Int) then (if (rd a d) = (rd b d) then (FaH.L0 a b c (wrap64 (d + 1))) else (some false)) else (none)) else (none)) else (none)) else (some true)) := by
  refine Lim.succ_eq (FaH.L0_lim ..).mon ?_
  simp only [FaH.l0]
  have m0 := @FaH.L0_lim
  exact li_
theorem FaH.F_eq l0 l1 : FaH.F l0 l1 = (if (l0.length : Int) = (l1.length : Int) then (FaH.L0 l0 l1 (l0.length : Int) 0) else (some false)) := by
  refine Lim.eq_ ?_
  simp only [FaH.f]
  have m0 := @FaH.L0_lim
  exact li_
def FaS.f (k : Nat) (l0 : List (S74)) (a1_0 : ByteArray) (a1_1 : Int) (a1_2 : Int) : Option (ByteArray × ByteArray × Bool) := (Fan.f k l0).bind fun t725 => (if t725 = true then ((FaW.f k a1_0 a1_1 a1_2).bind fun t726 => (if t726 = true then ((Fax.f k a1_0 a1_1 a1_2 l0).bind fun bt727 => (some (bt727.1, bt727.2, (bt727.1.toList != ([] : List UInt8))))) else (some ((⟨#[]⟩ : ByteArray), (⟨#[]⟩ : ByteArray), false)))) else (some ((⟨#[]⟩ : ByteArray), (⟨#[]⟩ : ByteArray), false)))
theorem FaS.mono : ∀ a0 a1 a2 a3 k, LeO (FaS.f k a0 a1 a2 a3) (FaS.f (k + 1) a0 a1 a2 a3) := by
  intro a0 a1 a2 a3 k
  unfold FaS.f
  have m0 := @Fan.mono
  have m1 := @FaW.mono
  have m2 := @Fax.mono
  exact mo_
noncomputable def FaS.F := fun a b c d => lim fun k => FaS.f k a b c d
theorem FaS.F_lim a b c d : Lim (fun k => FaS.f k a b c d) (FaS.F a b c d) := ⟨FaS.mono a b c d, rfl⟩
theorem FaS.F_eq l0 a1_0 a1_1 a1_2 : FaS.F l0 a1_0 a1_1 a1_2 = ((Fan.F l0).bind fun t725 => (if t725 = true then ((FaW.F a1_0 a1_1 a1_2).bind fun t726 => (if t726 = true then ((Fax.F a1_0 a1_1 a1_2 l0).bind fun bt727 => (some (bt727.1, bt727.2, (bt727.1.toList != ([] : List UInt8))))) else (some ((⟨#[]⟩ : ByteArray), (⟨#[]⟩ : ByteArray), false)))) else (some ((⟨#[]⟩ : ByteArray), (⟨#[]⟩ : ByteArray), false)))) := by
  refine Lim.eq_ ?_
  simp only [FaS.f]
  have m0 := @Fan.F_lim
  have m1 := @FaW.F_lim
  have m2 := @Fax.F_lim
  exact li_
def FaU.l0 : Nat → Int → List Int → Int → Int → Option (Bool)
  | 0, _, _, _, _ => none
  | k + 1, a, b, c, d => if d < c then (if 0 ≤ d then (if d < (b.length : Int) then (if (rd b d) = a then (some true) else (FaU.l0 k a b c (wrap64 (d + 1)))) else (none)) else (none)) else (some false)
def FaU.f (k : Nat) (l0 : List Int) (a1 : Int) : Option (Bool) := FaU.l0 k a1 l0 (l0.length : Int) 0
theorem FaU.mono_l : ∀ k, (∀ a b c d, LeO (FaU.l0 k a b c d) (FaU.l0 (k + 1) a b c d))
  | 0 => fun _ _ _ _ => LeO.none _
  | k + 1 => by
    have ih0 := FaU.mono_l k
    · intros; unfold FaU.l0; exact mo_
theorem FaU.mono : ∀ a0 a1 k, LeO (FaU.f k a0 a1) (FaU.f (k + 1) a0 a1) := by
  intro a0 a1 k
  have ih0 := FaU.mono_l k
  unfold FaU.f
  exact mo_
noncomputable def FaU.L0 := fun a b c d => lim fun k => FaU.l0 k a b c d
theorem FaU.L0_lim a b c d : Lim (fun k => FaU.l0 k a b c d) (FaU.L0 a b c d) := ⟨fun k => (FaU.mono_l k) a b c d, rfl⟩
noncomputable def FaU.F := fun a b => lim fun k => FaU.f k a b
theorem FaU.F_lim a b : Lim (fun k => FaU.f k a b) (FaU.F a b) := ⟨FaU.mono a b, rfl⟩
theorem FaU.L0_eq a b c d : FaU.L0 a b c d = (if d < c then (if 0 ≤ d then (if d < (b.length : Int) then (if (rd b d) = a then (some true) else (FaU.L0 a b c (wrap64 (d + 1)))) else (none)) else (none)) else (some false)) := by
  refine Lim.succ_eq (FaU.L0_lim ..).mon ?_
  simp only [FaU.l0]
  have m0 := @FaU.L0_lim
  exact li_
theorem FaU.F_eq l0 a1 : FaU.F l0 a1 = (FaU.L0 a1 l0 (l0.length : Int) 0) := by
  refine Lim.eq_ ?_
  simp only [FaU.f]
  have m0 := @FaU.L0_lim
  exact li_
def Fbf.f (a0 : Int) : Option (Int) := if a0 < 0 then (some (wrap64 (-a0))) else (some a0)
end Go.Proofs.YtbfkpgmdbafmhaaGreat.PFnVerbRuns
