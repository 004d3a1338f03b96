/- Written by a program of this claim's author, out of the loaded program as Lean prints it: the functions as Lean functions, and that the calls answer so. -/
import Derived.Test.YtbfkpgmdbafmhaaGreatPFnVerbRunsx0
import Derived.Test.YtbfkpgmdbafmhaaGreatPFnVerbRunsxD0
namespace Go.Proofs.YtbfkpgmdbafmhaaGreat.PFnVerbRuns
open Go.RowKit Go.Proofs.YtbfkpgmdbafmhaaGreatW.PrintWords Go.Proofs.YtbfkpgmdbafmhaaGreatW.PrintLast Go.Proofs.YtbfkpgmdbafmhaaGreatW.PrintMore
attribute [local go_sem] max2_int min2_int max_two min_two max_three min_three max_four min_four   -- for this text's walks alone
set_option linter.unusedVariables false
set_option linter.unusedSimpArgs false

mutual
def Faa.j0 : Nat → List (S74) → List (S40) → Bool → List ByteArray → List Int → List (S74) → List (S40) → ByteArray → Bool → List ByteArray → List (S74) → List (S40) → ByteArray → ByteArray → Bool → Int → Int → List (S74) → ByteArray → ByteArray → Bool → Bool → Bool → ByteArray → Int → Int → Option (Bool)
  | 0, _, _, _, _, _, _, _, _, _, _, _, _, _, _, _, _, _, _, _, _, _, _, _, _, _, _ => none
  | k + 1, a, b, c, d, e, f, g, h, i, j, l, m, n, o, p, q, u, v, w, x, y, z, A, B, C, D => if A = true then (some false) else (if c = true then (if (wrap64 ((d.length : Int) + (e.length : Int))) = (b.length : Int) then (Faa.l0 k a e f g h i j l m n o p q u v w x y z b (b.length : Int) 0 B C D) else (some false)) else (Faa.j2 k f g h i j l m n o p q u v w x y z B C D))
def Faa.j2 : Nat → List (S74) → List (S40) → ByteArray → Bool → List ByteArray → List (S74) → List (S40) → ByteArray → ByteArray → Bool → Int → Int → List (S74) → ByteArray → ByteArray → Bool → Bool → ByteArray → Int → Int → Option (Bool)
  | 0, _, _, _, _, _, _, _, _, _, _, _, _, _, _, _, _, _, _, _, _ => none
  | k + 1, a, b, c, d, e, f, g, h, i, j, l, m, n, o, p, q, u, v, w, x => if d = true then (Faa.l1 k a b c e f g h i j l m n o p q u e (e.length : Int) 0 v w x) else (Faa.j5 k f g h i j l m n o p q u v w x)
def Faa.j5 : Nat → List (S74) → List (S40) → ByteArray → ByteArray → Bool → Int → Int → List (S74) → ByteArray → ByteArray → Bool → Bool → ByteArray → Int → Int → Option (Bool)
  | 0, _, _, _, _, _, _, _, _, _, _, _, _, _, _, _ => none
  | k + 1, a, b, c, d, e, f, g, h, i, j, l, m, n, o, p => if e = true then ((FaX.f k a (⟨#[65]⟩ : ByteArray) c d).bind fun bt826 => (if bt826.2.2.2 = true then (Faa.l3 k f g h i j l m b (b.length : Int) 0 n o p bt826.1 bt826.2.1 bt826.2.2.1) else (some false))) else (if l = true then (if m = true then ((FaS.f k h n o p).bind fun bt838 => (if bt838.2.2 = true then (if bt838.1.toList = i.toList then (some (bt838.2.1.toList == j.toList)) else (some false)) else (some false))) else (some true)) else (some true))
def Faa.l3 : Nat → Int → Int → List (S74) → ByteArray → ByteArray → Bool → Bool → List (S40) → Int → Int → ByteArray → Int → Int → ByteArray → Int → Int → Option (Bool)
  | 0, _, _, _, _, _, _, _, _, _, _, _, _, _, _, _, _ => none
  | k + 1, a, b, c, d, e, f, g, h, i, j, l, m, n, o, p, q => if j < i then (if 0 ≤ j then (if j < (h.length : Int) then ((Fbf.f (wrap64 (((rd_T40 h j).f1) - p))).bind fun t836 => ((Fbf.f (wrap64 (((rd_T40 h j).f2) - q))).bind fun t837 => (if (wrap64 (t836 + t837)) < b then (some false) else (if j = a then (if (wrap64 (t836 + t837)) = b then (Faa.l3 k a b c d e f g h i (wrap64 (j + 1)) l m n o p q) else (some false)) else (Faa.l3 k a b c d e f g h i (wrap64 (j + 1)) l m n o p q))))) else (none)) else (none)) else (if f = true then (if g = true then ((FaS.f k c l m n).bind fun bt831 => (if bt831.2.2 = true then (if bt831.1.toList = d.toList then (some (bt831.2.1.toList == e.toList)) else (some false)) else (some false))) else (some true)) else (some true))
def Faa.l1 : Nat → List (S74) → List (S40) → ByteArray → List ByteArray → List (S74) → List (S40) → ByteArray → ByteArray → Bool → Int → Int → List (S74) → ByteArray → ByteArray → Bool → Bool → List ByteArray → Int → Int → ByteArray → Int → Int → Option (Bool)
  | 0, _, _, _, _, _, _, _, _, _, _, _, _, _, _, _, _, _, _, _, _, _, _ => none
  | k + 1, a, b, c, d, e, f, g, h, i, j, l, m, n, o, p, q, u, v, w, x, y, z => if w < v then (if 0 ≤ w then (if w < (u.length : Int) then (Faa.l2 k a b c d e f g h i j l m n o p q w (rdOf ByteArray.empty u w) false u v w b (b.length : Int) 0 x y z) else (none)) else (none)) else (Faa.j5 k e f g h i j l m n o p q x y z)
def Faa.l2 : Nat → List (S74) → List (S40) → ByteArray → List ByteArray → List (S74) → List (S40) → ByteArray → ByteArray → Bool → Int → Int → List (S74) → ByteArray → ByteArray → Bool → Bool → Int → ByteArray → Bool → List ByteArray → Int → Int → List (S40) → Int → Int → ByteArray → Int → Int → Option (Bool)
  | 0, _, _, _, _, _, _, _, _, _, _, _, _, _, _, _, _, _, _, _, _, _, _, _, _, _, _, _, _ => none
  | k + 1, a, b, c, d, e, f, g, h, i, j, l, m, n, o, p, q, u, v, w, x, y, z, A, B, C, D, E, F => if C < B then (if 0 ≤ C then (if C < (A.length : Int) then ((FaT.f k a ((rd_T40 A C).f0) ((rd_T40 A C).f1) ((rd_T40 A C).f2)).bind fun bt822 => (if w = true then (Faa.l2 k a b c d e f g h i j l m n o p q u v true x y z A B (wrap64 (C + 1)) D E F) else (if bt822.2.2 = true then (if ((rd_T40 A C).f0).toList = c.toList then (Faa.l2 k a b c d e f g h i j l m n o p q u v (bt822.1.toList == v.toList) x y z A B (wrap64 (C + 1)) D E F) else (Faa.l2 k a b c d e f g h i j l m n o p q u v false x y z A B (wrap64 (C + 1)) D E F)) else (Faa.l2 k a b c d e f g h i j l m n o p q u v false x y z A B (wrap64 (C + 1)) D E F)))) else (none)) else (none)) else (if w = true then (if u > 0 then (if 0 ≤ (wrap64 (u - 1)) then (if (wrap64 (u - 1)) < (d.length : Int) then (if ((Op.bytesLess ((rdOf ByteArray.empty d (wrap64 (u - 1))).toList) v.toList) = true) then (Faa.l1 k a b c d e f g h i j l m n o p q x y (wrap64 (z + 1)) D E F) else (some false)) else (none)) else (none)) else (Faa.l1 k a b c d e f g h i j l m n o p q x y (wrap64 (z + 1)) D E F)) else (some false))
def Faa.l0 : Nat → List (S74) → List Int → List (S74) → List (S40) → ByteArray → Bool → List ByteArray → List (S74) → List (S40) → ByteArray → ByteArray → Bool → Int → Int → List (S74) → ByteArray → ByteArray → Bool → Bool → List (S40) → Int → Int → ByteArray → Int → Int → Option (Bool)
  | 0, _, _, _, _, _, _, _, _, _, _, _, _, _, _, _, _, _, _, _, _, _, _, _, _, _ => none
  | k + 1, a, b, c, d, e, f, g, h, i, j, l, m, n, o, p, q, u, v, w, x, y, z, A, B, C => if z < y then (if 0 ≤ z then (if z < (x.length : Int) then ((FaS.f k a ((rd_T40 x z).f0) ((rd_T40 x z).f1) ((rd_T40 x z).f2)).bind fun bt815 => ((FaU.f k b z).bind fun t818 => (if (bt815.2.2 == t818) = true then (some false) else (Faa.l0 k a b c d e f g h i j l m n o p q u v w x y (wrap64 (z + 1)) A B C)))) else (none)) else (none)) else (Faa.j2 k c d e f g h i j l m n o p q u v w A B C)
end
def Faa.f (k : Nat) (l0 : List Int) (l1 : List Int) : Option (Bool) := if (wrap64 ((l0.length : Int) + (l1.length : Int))) > 1048576 then (some true) else ((Fa3.f k l0).bind fun bt730 => ((Faq.f k bt730.1 bt730.2).bind fun bt736 => ((FaG.f k bt730.1 bt730.2).bind fun bt743 => ((Fa7.f k l1).bind fun bt750 => ((Fas.f k bt750.1 bt750.2.1 bt750.2.2).bind fun bt757 => ((Fad.f k bt750.1 bt750.2.1 bt750.2.2).bind fun bt761 => ((FaY.f k l1).bind fun bt765 => ((Faf.f k bt765.1 bt765.2.1 bt765.2.2.1 bt765.2.2.2).bind fun bt773 => ((Fal.f k bt765.1 bt765.2.1 bt765.2.2.1 bt765.2.2.2).bind fun bt776 => ((Fa0.f k l1).bind fun bt779 => ((Fay.f k bt779.1 bt779.2.1 bt779.2.2.1 bt779.2.2.2.1 bt779.2.2.2.2).bind fun bt787 => ((Faw.f k bt779.1 bt779.2.1 bt779.2.2.1 bt779.2.2.2.1 bt779.2.2.2.2).bind fun bt792 => ((Fam.f k l1).bind fun bt797 => ((Fa8.f k bt797.1 bt797.2.1 bt797.2.2.1 bt797.2.2.2.1 bt797.2.2.2.2.1 bt797.2.2.2.2.2).bind fun bt806 => ((Fa9.f k bt797.1 bt797.2.1 bt797.2.2.1 bt797.2.2.2.1 bt797.2.2.2.2.1 bt797.2.2.2.2.2).bind fun bt808 => (if (bt736.2.2 != bt743.2.2) = true then (Faa.j0 k bt730.1 bt730.2 bt736.2.2 bt743.1 bt743.2.1 bt750.1 bt750.2.1 bt750.2.2 bt757.2 bt761.1 bt765.1 bt765.2.1 bt765.2.2.1 bt765.2.2.2 bt773.2.2 bt776.1 bt776.2.1 bt797.1 bt797.2.2.2.2.1 bt797.2.2.2.2.2 bt806.2 bt808.1 true bt797.2.1 bt797.2.2.1 bt797.2.2.2.1) else ((Fat.f k bt736.1 bt743.1).bind fun t810 => (if t810 = true then ((FaH.f k bt736.2.1 bt743.2.1).bind fun t811 => (if t811 = true then (if (bt757.2 != bt761.2) = true then (Faa.j0 k bt730.1 bt730.2 bt736.2.2 bt743.1 bt743.2.1 bt750.1 bt750.2.1 bt750.2.2 bt757.2 bt761.1 bt765.1 bt765.2.1 bt765.2.2.1 bt765.2.2.2 bt773.2.2 bt776.1 bt776.2.1 bt797.1 bt797.2.2.2.2.1 bt797.2.2.2.2.2 bt806.2 bt808.1 true bt797.2.1 bt797.2.2.1 bt797.2.2.2.1) else ((Fat.f k bt757.1 bt761.1).bind fun t812 => (if t812 = true then (if (bt773.2.2 != bt776.2.2) = true then (Faa.j0 k bt730.1 bt730.2 bt736.2.2 bt743.1 bt743.2.1 bt750.1 bt750.2.1 bt750.2.2 bt757.2 bt761.1 bt765.1 bt765.2.1 bt765.2.2.1 bt765.2.2.2 bt773.2.2 bt776.1 bt776.2.1 bt797.1 bt797.2.2.2.2.1 bt797.2.2.2.2.2 bt806.2 bt808.1 true bt797.2.1 bt797.2.2.1 bt797.2.2.2.1) else (if bt773.1 = bt776.1 then (if bt773.2.1 = bt776.2.1 then (if (bt787.2.2.2 != bt792.2.2.2) = true then (Faa.j0 k bt730.1 bt730.2 bt736.2.2 bt743.1 bt743.2.1 bt750.1 bt750.2.1 bt750.2.2 bt757.2 bt761.1 bt765.1 bt765.2.1 bt765.2.2.1 bt765.2.2.2 bt773.2.2 bt776.1 bt776.2.1 bt797.1 bt797.2.2.2.2.1 bt797.2.2.2.2.2 bt806.2 bt808.1 true bt797.2.1 bt797.2.2.1 bt797.2.2.2.1) else (if (!(bt787.1.toList == bt792.1.toList) || (!(bt787.2.1 == bt792.2.1) || (!(bt787.2.2.1 == bt792.2.2.1)))) = true then (Faa.j0 k bt730.1 bt730.2 bt736.2.2 bt743.1 bt743.2.1 bt750.1 bt750.2.1 bt750.2.2 bt757.2 bt761.1 bt765.1 bt765.2.1 bt765.2.2.1 bt765.2.2.2 bt773.2.2 bt776.1 bt776.2.1 bt797.1 bt797.2.2.2.2.1 bt797.2.2.2.2.2 bt806.2 bt808.1 true bt797.2.1 bt797.2.2.1 bt797.2.2.2.1) else (if (bt806.2 != bt808.2) = true then (Faa.j0 k bt730.1 bt730.2 bt736.2.2 bt743.1 bt743.2.1 bt750.1 bt750.2.1 bt750.2.2 bt757.2 bt761.1 bt765.1 bt765.2.1 bt765.2.2.1 bt765.2.2.2 bt773.2.2 bt776.1 bt776.2.1 bt797.1 bt797.2.2.2.2.1 bt797.2.2.2.2.2 bt806.2 bt808.1 true bt797.2.1 bt797.2.2.1 bt797.2.2.2.1) else (Faa.j0 k bt730.1 bt730.2 bt736.2.2 bt743.1 bt743.2.1 bt750.1 bt750.2.1 bt750.2.2 bt757.2 bt761.1 bt765.1 bt765.2.1 bt765.2.2.1 bt765.2.2.2 bt773.2.2 bt776.1 bt776.2.1 bt797.1 bt797.2.2.2.2.1 bt797.2.2.2.2.2 bt806.2 bt808.1 (bt806.1 != bt808.1) bt797.2.1 bt797.2.2.1 bt797.2.2.2.1)))) else (Faa.j0 k bt730.1 bt730.2 bt736.2.2 bt743.1 bt743.2.1 bt750.1 bt750.2.1 bt750.2.2 bt757.2 bt761.1 bt765.1 bt765.2.1 bt765.2.2.1 bt765.2.2.2 bt773.2.2 bt776.1 bt776.2.1 bt797.1 bt797.2.2.2.2.1 bt797.2.2.2.2.2 bt806.2 bt808.1 true bt797.2.1 bt797.2.2.1 bt797.2.2.2.1)) else (Faa.j0 k bt730.1 bt730.2 bt736.2.2 bt743.1 bt743.2.1 bt750.1 bt750.2.1 bt750.2.2 bt757.2 bt761.1 bt765.1 bt765.2.1 bt765.2.2.1 bt765.2.2.2 bt773.2.2 bt776.1 bt776.2.1 bt797.1 bt797.2.2.2.2.1 bt797.2.2.2.2.2 bt806.2 bt808.1 true bt797.2.1 bt797.2.2.1 bt797.2.2.2.1))) else (Faa.j0 k bt730.1 bt730.2 bt736.2.2 bt743.1 bt743.2.1 bt750.1 bt750.2.1 bt750.2.2 bt757.2 bt761.1 bt765.1 bt765.2.1 bt765.2.2.1 bt765.2.2.2 bt773.2.2 bt776.1 bt776.2.1 bt797.1 bt797.2.2.2.2.1 bt797.2.2.2.2.2 bt806.2 bt808.1 true bt797.2.1 bt797.2.2.1 bt797.2.2.2.1)))) else (Faa.j0 k bt730.1 bt730.2 bt736.2.2 bt743.1 bt743.2.1 bt750.1 bt750.2.1 bt750.2.2 bt757.2 bt761.1 bt765.1 bt765.2.1 bt765.2.2.1 bt765.2.2.2 bt773.2.2 bt776.1 bt776.2.1 bt797.1 bt797.2.2.2.2.1 bt797.2.2.2.2.2 bt806.2 bt808.1 true bt797.2.1 bt797.2.2.1 bt797.2.2.2.1))) else (Faa.j0 k bt730.1 bt730.2 bt736.2.2 bt743.1 bt743.2.1 bt750.1 bt750.2.1 bt750.2.2 bt757.2 bt761.1 bt765.1 bt765.2.1 bt765.2.2.1 bt765.2.2.2 bt773.2.2 bt776.1 bt776.2.1 bt797.1 bt797.2.2.2.2.1 bt797.2.2.2.2.2 bt806.2 bt808.1 true bt797.2.1 bt797.2.2.1 bt797.2.2.2.1)))))))))))))))))))
theorem Faa.mono_l : ∀ k, (∀ a b c d e f g h i j l m n o p q u v w x y z A B C D, LeO (Faa.j0 k a b c d e f g h i j l m n o p q u v w x y z A B C D) (Faa.j0 (k + 1) a b c d e f g h i j l m n o p q u v w x y z A B C D)) ∧ (∀ a b c d e f g h i j l m n o p q u v w x, LeO (Faa.j2 k a b c d e f g h i j l m n o p q u v w x) (Faa.j2 (k + 1) a b c d e f g h i j l m n o p q u v w x)) ∧ (∀ a b c d e f g h i j l m n o p, LeO (Faa.j5 k a b c d e f g h i j l m n o p) (Faa.j5 (k + 1) a b c d e f g h i j l m n o p)) ∧ (∀ a b c d e f g h i j l m n o p q, LeO (Faa.l3 k a b c d e f g h i j l m n o p q) (Faa.l3 (k + 1) a b c d e f g h i j l m n o p q)) ∧ (∀ a b c d e f g h i j l m n o p q u v w x y z, LeO (Faa.l1 k a b c d e f g h i j l m n o p q u v w x y z) (Faa.l1 (k + 1) a b c d e f g h i j l m n o p q u v w x y z)) ∧ (∀ a b c d e f g h i j l m n o p q u v w x y z A B C D E F, LeO (Faa.l2 k a b c d e f g h i j l m n o p q u v w x y z A B C D E F) (Faa.l2 (k + 1) a b c d e f g h i j l m n o p q u v w x y z A B C D E F)) ∧ (∀ a b c d e f g h i j l m n o p q u v w x y z A B C, LeO (Faa.l0 k a b c d e f g h i j l m n o p q u v w x y z A B C) (Faa.l0 (k + 1) a b c d e f g h i j l m n o p q u v w x y z A B C))
  | 0 => ⟨fun _ _ _ _ _ _ _ _ _ _ _ _ _ _ _ _ _ _ _ _ _ _ _ _ _ _ => LeO.none _, fun _ _ _ _ _ _ _ _ _ _ _ _ _ _ _ _ _ _ _ _ => LeO.none _, fun _ _ _ _ _ _ _ _ _ _ _ _ _ _ _ => LeO.none _, fun _ _ _ _ _ _ _ _ _ _ _ _ _ _ _ _ => LeO.none _, fun _ _ _ _ _ _ _ _ _ _ _ _ _ _ _ _ _ _ _ _ _ _ => LeO.none _, fun _ _ _ _ _ _ _ _ _ _ _ _ _ _ _ _ _ _ _ _ _ _ _ _ _ _ _ _ => LeO.none _, fun _ _ _ _ _ _ _ _ _ _ _ _ _ _ _ _ _ _ _ _ _ _ _ _ _ => LeO.none _⟩
  | k + 1 => by
    obtain ⟨ih0, ih1, ih2, ih3, ih4, ih5, ih6⟩ := Faa.mono_l k
    have m0 := @Fa8.mono
    have m1 := @Faf.mono
    have m2 := @Fas.mono
    have m3 := @FaS.mono
    have m4 := @Faq.mono
    have m5 := @Fay.mono
    have m6 := @FaU.mono
    have m7 := @FaH.mono
    have m8 := @Fat.mono
    have m9 := @Fa9.mono
    have m10 := @Fal.mono
    have m11 := @Fad.mono
    have m12 := @Fam.mono
    have m13 := @FaY.mono
    have m14 := @Fa7.mono
    have m15 := @Fa3.mono
    have m16 := @Fa0.mono
    have m17 := @FaT.mono
    have m18 := @FaG.mono
    have m19 := @FaX.mono
    have m20 := @Faw.mono
    refine ⟨?_, ?_, ?_, ?_, ?_, ?_, ?_⟩
    · intros; unfold Faa.j0; exact mo_
    · intros; unfold Faa.j2; exact mo_
    · intros; unfold Faa.j5; exact mo_
    · intros; unfold Faa.l3; exact mo_
    · intros; unfold Faa.l1; exact mo_
    · intros; unfold Faa.l2; exact mo_
    · intros; unfold Faa.l0; exact mo_
theorem Faa.mono : ∀ a0 a1 k, LeO (Faa.f k a0 a1) (Faa.f (k + 1) a0 a1) := by
  intro a0 a1 k
  obtain ⟨ih0, ih1, ih2, ih3, ih4, ih5, ih6⟩ := Faa.mono_l k
  unfold Faa.f
  have m0 := @Fa8.mono
  have m1 := @Faf.mono
  have m2 := @Fas.mono
  have m3 := @FaS.mono
  have m4 := @Faq.mono
  have m5 := @Fay.mono
  have m6 := @FaU.mono
  have m7 := @FaH.mono
  have m8 := @Fat.mono
  have m9 := @Fa9.mono
  have m10 := @Fal.mono
  have m11 := @Fad.mono
  have m12 := @Fam.mono
  have m13 := @FaY.mono
  have m14 := @Fa7.mono
  have m15 := @Fa3.mono
  have m16 := @Fa0.mono
  have m17 := @FaT.mono
  have m18 := @FaG.mono
  have m19 := @FaX.mono
  have m20 := @Faw.mono
  exact mo_
noncomputable def Faa.J0 := fun a b c d e f g h i j l m n o p q u v w x y z A B C D => lim fun k => Faa.j0 k a b c d e f g h i j l m n o p q u v w x y z A B C D
theorem Faa.J0_lim a b c d e f g h i j l m n o p q u v w x y z A B C D : Lim (fun k => Faa.j0 k a b c d e f g h i j l m n o p q u v w x y z A B C D) (Faa.J0 a b c d e f g h i j l m n o p q u v w x y z A B C D) := ⟨fun k => (Faa.mono_l k).1 a b c d e f g h i j l m n o p q u v w x y z A B C D, rfl⟩
noncomputable def Faa.J2 := fun a b c d e f g h i j l m n o p q u v w x => lim fun k => Faa.j2 k a b c d e f g h i j l m n o p q u v w x
theorem Faa.J2_lim a b c d e f g h i j l m n o p q u v w x : Lim (fun k => Faa.j2 k a b c d e f g h i j l m n o p q u v w x) (Faa.J2 a b c d e f g h i j l m n o p q u v w x) := ⟨fun k => (Faa.mono_l k).2.1 a b c d e f g h i j l m n o p q u v w x, rfl⟩
noncomputable def Faa.J5 := fun a b c d e f g h i j l m n o p => lim fun k => Faa.j5 k a b c d e f g h i j l m n o p
theorem Faa.J5_lim a b c d e f g h i j l m n o p : Lim (fun k => Faa.j5 k a b c d e f g h i j l m n o p) (Faa.J5 a b c d e f g h i j l m n o p) := ⟨fun k => (Faa.mono_l k).2.2.1 a b c d e f g h i j l m n o p, rfl⟩
noncomputable def Faa.L3 := fun a b c d e f g h i j l m n o p q => lim fun k => Faa.l3 k a b c d e f g h i j l m n o p q
theorem Faa.L3_lim a b c d e f g h i j l m n o p q : Lim (fun k => Faa.l3 k a b c d e f g h i j l m n o p q) (Faa.L3 a b c d e f g h i j l m n o p q) := ⟨fun k => (Faa.mono_l k).2.2.2.1 a b c d e f g h i j l m n o p q, rfl⟩
noncomputable def Faa.L1 := fun a b c d e f g h i j l m n o p q u v w x y z => lim fun k => Faa.l1 k a b c d e f g h i j l m n o p q u v w x y z
theorem Faa.L1_lim a b c d e f g h i j l m n o p q u v w x y z : Lim (fun k => Faa.l1 k a b c d e f g h i j l m n o p q u v w x y z) (Faa.L1 a b c d e f g h i j l m n o p q u v w x y z) := ⟨fun k => (Faa.mono_l k).2.2.2.2.1 a b c d e f g h i j l m n o p q u v w x y z, rfl⟩
noncomputable def Faa.L2 := fun a b c d e f g h i j l m n o p q u v w x y z A B C D E F => lim fun k => Faa.l2 k a b c d e f g h i j l m n o p q u v w x y z A B C D E F
theorem Faa.L2_lim a b c d e f g h i j l m n o p q u v w x y z A B C D E F : Lim (fun k => Faa.l2 k a b c d e f g h i j l m n o p q u v w x y z A B C D E F) (Faa.L2 a b c d e f g h i j l m n o p q u v w x y z A B C D E F) := ⟨fun k => (Faa.mono_l k).2.2.2.2.2.1 a b c d e f g h i j l m n o p q u v w x y z A B C D E F, rfl⟩
noncomputable def Faa.L0 := fun a b c d e f g h i j l m n o p q u v w x y z A B C => lim fun k => Faa.l0 k a b c d e f g h i j l m n o p q u v w x y z A B C
theorem Faa.L0_lim a b c d e f g h i j l m n o p q u v w x y z A B C : Lim (fun k => Faa.l0 k a b c d e f g h i j l m n o p q u v w x y z A B C) (Faa.L0 a b c d e f g h i j l m n o p q u v w x y z A B C) := ⟨fun k => (Faa.mono_l k).2.2.2.2.2.2 a b c d e f g h i j l m n o p q u v w x y z A B C, rfl⟩
noncomputable def Faa.F := fun a b => lim fun k => Faa.f k a b
theorem Faa.F_lim a b : Lim (fun k => Faa.f k a b) (Faa.F a b) := ⟨Faa.mono a b, rfl⟩
theorem Faa.J0_eq a b c d e f g h i j l m n o p q u v w x y z A B C D : Faa.J0 a b c d e f g h i j l m n o p q u v w x y z A B C D = (if A = true then (some false) else (if c = true then (if (wrap64 ((d.length : Int) + (e.length : Int))) = (b.length : Int) then (Faa.L0 a e f g h i j l m n o p q u v w x y z b (b.length : Int) 0 B C D) else (some false)) else (Faa.J2 f g h i j l m n o p q u v w x y z B C D))) := by
  refine Lim.succ_eq (Faa.J0_lim ..).mon ?_
  simp only [Faa.j0]
  have m0 := @Faa.J2_lim
  have m1 := @Faa.L0_lim
  exact li_
theorem Faa.J2_eq a b c d e f g h i j l m n o p q u v w x : Faa.J2 a b c d e f g h i j l m n o p q u v w x = (if d = true then (Faa.L1 a b c e f g h i j l m n o p q u e (e.length : Int) 0 v w x) else (Faa.J5 f g h i j l m n o p q u v w x)) := by
  refine Lim.succ_eq (Faa.J2_lim ..).mon ?_
  simp only [Faa.j2]
  have m0 := @Faa.J5_lim
  have m1 := @Faa.L1_lim
  exact li_
theorem Faa.J5_eq a b c d e f g h i j l m n o p : Faa.J5 a b c d e f g h i j l m n o p = (if e = true then ((FaX.F a (⟨#[65]⟩ : ByteArray) c d).bind fun bt826 => (if bt826.2.2.2 = true then (Faa.L3 f g h i j l m b (b.length : Int) 0 n o p bt826.1 bt826.2.1 bt826.2.2.1) else (some false))) else (if l = true then (if m = true then ((FaS.F h n o p).bind fun bt838 => (if bt838.2.2 = true then (if bt838.1.toList = i.toList then (some (bt838.2.1.toList == j.toList)) else (some false)) else (some false))) else (some true)) else (some true))) := by
  refine Lim.succ_eq (Faa.J5_lim ..).mon ?_
  simp only [Faa.j5]
  have m0 := @Faa.L3_lim
  have m1 := @FaS.F_lim
  have m2 := @FaX.F_lim
  exact li_
theorem Faa.L3_eq a b c d e f g h i j l m n o p q : Faa.L3 a b c d e f g h i j l m n o p q = (if j < i then (if 0 ≤ j then (if j < (h.length : Int) then ((Fbf.f (wrap64 (((rd_T40 h j).f1) - p))).bind fun t836 => ((Fbf.f (wrap64 (((rd_T40 h j).f2) - q))).bind fun t837 => (if (wrap64 (t836 + t837)) < b then (some false) else (if j = a then (if (wrap64 (t836 + t837)) = b then (Faa.L3 a b c d e f g h i (wrap64 (j + 1)) l m n o p q) else (some false)) else (Faa.L3 a b c d e f g h i (wrap64 (j + 1)) l m n o p q))))) else (none)) else (none)) else (if f = true then (if g = true then ((FaS.F c l m n).bind fun bt831 => (if bt831.2.2 = true then (if bt831.1.toList = d.toList then (some (bt831.2.1.toList == e.toList)) else (some false)) else (some false))) else (some true)) else (some true))) := by
  refine Lim.succ_eq (Faa.L3_lim ..).mon ?_
  simp only [Faa.l3]
  have m0 := @Faa.L3_lim
  have m1 := @FaS.F_lim
  exact li_
theorem Faa.L1_eq a b c d e f g h i j l m n o p q u v w x y z : Faa.L1 a b c d e f g h i j l m n o p q u v w x y z = (if w < v then (if 0 ≤ w then (if w < (u.length : Int) then (Faa.L2 a b c d e f g h i j l m n o p q w (rdOf ByteArray.empty u w) false u v w b (b.length : Int) 0 x y z) else (none)) else (none)) else (Faa.J5 e f g h i j l m n o p q x y z)) := by
  refine Lim.succ_eq (Faa.L1_lim ..).mon ?_
  simp only [Faa.l1]
  have m0 := @Faa.J5_lim
  have m1 := @Faa.L2_lim
  exact li_
theorem Faa.L2_eq a b c d e f g h i j l m n o p q u v w x y z A B C D E F : Faa.L2 a b c d e f g h i j l m n o p q u v w x y z A B C D E F = (if C < B then (if 0 ≤ C then (if C < (A.length : Int) then ((FaT.F a ((rd_T40 A C).f0) ((rd_T40 A C).f1) ((rd_T40 A C).f2)).bind fun bt822 => (if w = true then (Faa.L2 a b c d e f g h i j l m n o p q u v true x y z A B (wrap64 (C + 1)) D E F) else (if bt822.2.2 = true then (if ((rd_T40 A C).f0).toList = c.toList then (Faa.L2 a b c d e f g h i j l m n o p q u v (bt822.1.toList == v.toList) x y z A B (wrap64 (C + 1)) D E F) else (Faa.L2 a b c d e f g h i j l m n o p q u v false x y z A B (wrap64 (C + 1)) D E F)) else (Faa.L2 a b c d e f g h i j l m n o p q u v false x y z A B (wrap64 (C + 1)) D E F)))) else (none)) else (none)) else (if w = true then (if u > 0 then (if 0 ≤ (wrap64 (u - 1)) then (if (wrap64 (u - 1)) < (d.length : Int) then (if ((Op.bytesLess ((rdOf ByteArray.empty d (wrap64 (u - 1))).toList) v.toList) = true) then (Faa.L1 a b c d e f g h i j l m n o p q x y (wrap64 (z + 1)) D E F) else (some false)) else (none)) else (none)) else (Faa.L1 a b c d e f g h i j l m n o p q x y (wrap64 (z + 1)) D E F)) else (some false))) := by
  refine Lim.succ_eq (Faa.L2_lim ..).mon ?_
  simp only [Faa.l2]
  have m0 := @Faa.L1_lim
  have m1 := @Faa.L2_lim
  have m2 := @FaT.F_lim
  exact li_
theorem Faa.L0_eq a b c d e f g h i j l m n o p q u v w x y z A B C : Faa.L0 a b c d e f g h i j l m n o p q u v w x y z A B C = (if z < y then (if 0 ≤ z then (if z < (x.length : Int) then ((FaS.F a ((rd_T40 x z).f0) ((rd_T40 x z).f1) ((rd_T40 x z).f2)).bind fun bt815 => ((FaU.F b z).bind fun t818 => (if (bt815.2.2 == t818) = true then (some false) else (Faa.L0 a b c d e f g h i j l m n o p q u v w x y (wrap64 (z + 1)) A B C)))) else (none)) else (none)) else (Faa.J2 c d e f g h i j l m n o p q u v w A B C)) := by
  refine Lim.succ_eq (Faa.L0_lim ..).mon ?_
  simp only [Faa.l0]
  have m0 := @Faa.J2_lim
  have m1 := @Faa.L0_lim
  have m2 := @FaS.F_lim
  have m3 := @FaU.F_lim
  exact li_
theorem Faa.F_eq l0 l1 : Faa.F l0 l1 = (if (wrap64 ((l0.length : Int) + (l1.length : Int))) > 1048576 then (some true) else ((Fa3.F l0).bind fun bt730 => ((Faq.F bt730.1 bt730.2).bind fun bt736 => ((FaG.F bt730.1 bt730.2).bind fun bt743 => ((Fa7.F l1).bind fun bt750 => ((Fas.F bt750.1 bt750.2.1 bt750.2.2).bind fun bt757 => ((Fad.F bt750.1 bt750.2.1 bt750.2.2).bind fun bt761 => ((FaY.F l1).bind fun bt765 => ((Faf.F bt765.1 bt765.2.1 bt765.2.2.1 bt765.2.2.2).bind fun bt773 => ((Fal.F bt765.1 bt765.2.1 bt765.2.2.1 bt765.2.2.2).bind fun bt776 => ((Fa0.F l1).bind fun bt779 => ((Fay.F bt779.1 bt779.2.1 bt779.2.2.1 bt779.2.2.2.1 bt779.2.2.2.2).bind fun bt787 => ((Faw.F bt779.1 bt779.2.1 bt779.2.2.1 bt779.2.2.2.1 bt779.2.2.2.2).bind fun bt792 => ((Fam.F l1).bind fun bt797 => ((Fa8.F bt797.1 bt797.2.1 bt797.2.2.1 bt797.2.2.2.1 bt797.2.2.2.2.1 bt797.2.2.2.2.2).bind fun bt806 => ((Fa9.F bt797.1 bt797.2.1 bt797.2.2.1 bt797.2.2.2.1 bt797.2.2.2.2.1 bt797.2.2.2.2.2).bind fun bt808 => (if (bt736.2.2 != bt743.2.2) = true then (Faa.J0 bt730.1 bt730.2 bt736.2.2 bt743.1 bt743.2.1 bt750.1 bt750.2.1 bt750.2.2 bt757.2 bt761.1 bt765.1 bt765.2.1 bt765.2.2.1 bt765.2.2.2 bt773.2.2 bt776.1 bt776.2.1 bt797.1 bt797.2.2.2.2.1 bt797.2.2.2.2.2 bt806.2 bt808.1 true bt797.2.1 bt797.2.2.1 bt797.2.2.2.1) else ((Fat.F bt736.1 bt743.1).bind fun t810 => (if t810 = true then ((FaH.F bt736.2.1 bt743.2.1).bind fun t811 => (if t811 = true then (if (bt757.2 != bt761.2) = true then (Faa.J0 bt730.1 bt730.2 bt736.2.2 bt743.1 bt743.2.1 bt750.1 bt750.2.1 bt750.2.2 bt757.2 bt761.1 bt765.1 bt765.2.1 bt765.2.2.1 bt765.2.2.2 bt773.2.2 bt776.1 bt776.2.1 bt797.1 bt797.2.2.2.2.1 bt797.2.2.2.2.2 bt806.2 bt808.1 true bt797.2.1 bt797.2.2.1 bt797.2.2.2.1) else ((Fat.F bt757.1 bt761.1).bind fun t812 => (if t812 = true then (if (bt773.2.2 != bt776.2.2) = true then (Faa.J0 bt730.1 bt730.2 bt736.2.2 bt743.1 bt743.2.1 bt750.1 bt750.2.1 bt750.2.2 bt757.2 bt761.1 bt765.1 bt765.2.1 bt765.2.2.1 bt765.2.2.2 bt773.2.2 bt776.1 bt776.2.1 bt797.1 bt797.2.2.2.2.1 bt797.2.2.2.2.2 bt806.2 bt808.1 true bt797.2.1 bt797.2.2.1 bt797.2.2.2.1) else (if bt773.1 = bt776.1 then (if bt773.2.1 = bt776.2.1 then (if (bt787.2.2.2 != bt792.2.2.2) = true then (Faa.J0 bt730.1 bt730.2 bt736.2.2 bt743.1 bt743.2.1 bt750.1 bt750.2.1 bt750.2.2 bt757.2 bt761.1 bt765.1 bt765.2.1 bt765.2.2.1 bt765.2.2.2 bt773.2.2 bt776.1 bt776.2.1 bt797.1 bt797.2.2.2.2.1 bt797.2.2.2.2.2 bt806.2 bt808.1 true bt797.2.1 bt797.2.2.1 bt797.2.2.2.1) else (if (!(bt787.1.toList == bt792.1.toList) || (!(bt787.2.1 == bt792.2.1) || (!(bt787.2.2.1 == bt792.2.2.1)))) = true then (Faa.J0 bt730.1 bt730.2 bt736.2.2 bt743.1 bt743.2.1 bt750.1 bt750.2.1 bt750.2.2 bt757.2 bt761.1 bt765.1 bt765.2.1 bt765.2.2.1 bt765.2.2.2 bt773.2.2 bt776.1 bt776.2.1 bt797.1 bt797.2.2.2.2.1 bt797.2.2.2.2.2 bt806.2 bt808.1 true bt797.2.1 bt797.2.2.1 bt797.2.2.2.1) else (if (bt806.2 != bt808.2) = true then (Faa.J0 bt730.1 bt730.2 bt736.2.2 bt743.1 bt743.2.1 bt750.1 bt750.2.1 bt750.2.2 bt757.2 bt761.1 bt765.1 bt765.2.1 bt765.2.2.1 bt765.2.2.2 bt773.2.2 bt776.1 bt776.2.1 bt797.1 bt797.2.2.2.2.1 bt797.2.2.2.2.2 bt806.2 bt808.1 true bt797.2.1 bt797.2.2.1 bt797.2.2.2.1) else (Faa.J0 bt730.1 bt730.2 bt736.2.2 bt743.1 bt743.2.1 bt750.1 bt750.2.1 bt750.2.2 bt757.2 bt761.1 bt765.1 bt765.2.1 bt765.2.2.1 bt765.2.2.2 bt773.2.2 bt776.1 bt776.2.1 bt797.1 bt797.2.2.2.2.1 bt797.2.2.2.2.2 bt806.2 bt808.1 (bt806.1 != bt808.1) bt797.2.1 bt797.2.2.1 bt797.2.2.2.1)))) else (Faa.J0 bt730.1 bt730.2 bt736.2.2 bt743.1 bt743.2.1 bt750.1 bt750.2.1 bt750.2.2 bt757.2 bt761.1 bt765.1 bt765.2.1 bt765.2.2.1 bt765.2.2.2 bt773.2.2 bt776.1 bt776.2.1 bt797.1 bt797.2.2.2.2.1 bt797.2.2.2.2.2 bt806.2 bt808.1 true bt797.2.1 bt797.2.2.1 bt797.2.2.2.1)) else (Faa.J0 bt730.1 bt730.2 bt736.2.2 bt743.1 bt743.2.1 bt750.1 bt750.2.1 bt750.2.2 bt757.2 bt761.1 bt765.1 bt765.2.1 bt765.2.2.1 bt765.2.2.2 bt773.2.2 bt776.1 bt776.2.1 bt797.1 bt797.2.2.2.2.1 bt797.2.2.2.2.2 bt806.2 bt808.1 true bt797.2.1 bt797.2.2.1 bt797.2.2.2.1))) else (Faa.J0 bt730.1 bt730.2 bt736.2.2 bt743.1 bt743.2.1 bt750.1 bt750.2.1 bt750.2.2 bt757.2 bt761.1 bt765.1 bt765.2.1 bt765.2.2.1 bt765.2.2.2 bt773.2.2 bt776.1 bt776.2.1 bt797.1 bt797.2.2.2.2.1 bt797.2.2.2.2.2 bt806.2 bt808.1 true bt797.2.1 bt797.2.2.1 bt797.2.2.2.1)))) else (Faa.J0 bt730.1 bt730.2 bt736.2.2 bt743.1 bt743.2.1 bt750.1 bt750.2.1 bt750.2.2 bt757.2 bt761.1 bt765.1 bt765.2.1 bt765.2.2.1 bt765.2.2.2 bt773.2.2 bt776.1 bt776.2.1 bt797.1 bt797.2.2.2.2.1 bt797.2.2.2.2.2 bt806.2 bt808.1 true bt797.2.1 bt797.2.2.1 bt797.2.2.2.1))) else (Faa.J0 bt730.1 bt730.2 bt736.2.2 bt743.1 bt743.2.1 bt750.1 bt750.2.1 bt750.2.2 bt757.2 bt761.1 bt765.1 bt765.2.1 bt765.2.2.1 bt765.2.2.2 bt773.2.2 bt776.1 bt776.2.1 bt797.1 bt797.2.2.2.2.1 bt797.2.2.2.2.2 bt806.2 bt808.1 true bt797.2.1 bt797.2.2.1 bt797.2.2.2.1)))))))))))))))))))) := by
  refine Lim.eq_ ?_
  simp only [Faa.f]
  have m0 := @Faa.J0_lim
  have m1 := @Fa8.F_lim
  have m2 := @Faf.F_lim
  have m3 := @Fas.F_lim
  have m4 := @Faq.F_lim
  have m5 := @Fay.F_lim
  have m6 := @FaH.F_lim
  have m7 := @Fat.F_lim
  have m8 := @Fa9.F_lim
  have m9 := @Fal.F_lim
  have m10 := @Fad.F_lim
  have m11 := @Fam.F_lim
  have m12 := @FaY.F_lim
  have m13 := @Fa7.F_lim
  have m14 := @Fa3.F_lim
  have m15 := @Fa0.F_lim
  have m16 := @FaG.F_lim
  have m17 := @Faw.F_lim
  exact li_
def Faa.Pure : Prop := ∀ (l0 : List Int) (l1 : List Int), (l0.length ≤ 9223372036854775807 ∧ ∀ y_ ∈ l0, (Lit.int .u8 y_).wf = true) → (l1.length ≤ 9223372036854775807 ∧ ∀ y_ ∈ l1, (Lit.int .u8 y_).wf = true) → ∃ k, Faa.f k l0 l1 = some true
end Go.Proofs.YtbfkpgmdbafmhaaGreat.PFnVerbRuns
