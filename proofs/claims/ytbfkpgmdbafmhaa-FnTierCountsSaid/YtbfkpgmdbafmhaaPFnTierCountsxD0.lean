/- Written by a program of this claim's author, out of the loaded program as Lean prints it: the functions as Lean functions, and that the calls answer so. -/
import Derived.Test.YtbfkpgmdbafmhaaPFnTierCountsx0
namespace Go.Proofs.Ytbfkpgmdbafmhaa.PFnTierCounts
open Go.RowKit Go.Proofs.YtbfkpgmdbafmhaaW.PrintWords Go.Proofs.YtbfkpgmdbafmhaaW.PrintLast Go.Proofs.YtbfkpgmdbafmhaaW.PrintMore
attribute [local go_sem] max2_int min2_int max_two min_two max_three min_three max_four min_four   -- for this text's walks alone
set_option linter.unusedVariables false
set_option linter.unusedSimpArgs false

def spec_l1Cur_next.f (s0_0 : List Int) (s0_1 : Int) (s0_2 : Int) : Option (Int × Int × Int) := if s0_1 < (s0_0.length : Int) then (if 0 ≤ s0_1 then (if (wrap64 (s0_1 + 1)) ≤ (s0_0.length : Int) then (some (wrap64 (rd s0_0 s0_1), wrap64 (s0_1 + 1), IntKind.u64.wrap ((IntKind.u64.wrap ((IntKind.u64.wrap (s0_2 * 6364136223846793005)) + (IntKind.u64.wrap (wrap64 (rd s0_0 s0_1))))) + 1442695040888963407))) else (some (wrap64 (Go.bits .and .u64 ((IntKind.u64.wrap ((IntKind.u64.wrap ((IntKind.u64.wrap (s0_2 * 6364136223846793005)) + (IntKind.u64.wrap (wrap64 (rd s0_0 s0_1))))) + 1442695040888963407)) / 1099511627776) 255), wrap64 (s0_1 + 1), IntKind.u64.wrap ((IntKind.u64.wrap ((IntKind.u64.wrap (s0_2 * 6364136223846793005)) + (IntKind.u64.wrap (wrap64 (rd s0_0 s0_1))))) + 1442695040888963407)))) else (none)) else (if (wrap64 (s0_1 + 1)) ≤ (s0_0.length : Int) then (some (0, wrap64 (s0_1 + 1), IntKind.u64.wrap ((IntKind.u64.wrap ((IntKind.u64.wrap (s0_2 * 6364136223846793005)))) + 1442695040888963407))) else (some (wrap64 (Go.bits .and .u64 ((IntKind.u64.wrap ((IntKind.u64.wrap ((IntKind.u64.wrap (s0_2 * 6364136223846793005)))) + 1442695040888963407)) / 1099511627776) 255), wrap64 (s0_1 + 1), IntKind.u64.wrap ((IntKind.u64.wrap ((IntKind.u64.wrap (s0_2 * 6364136223846793005)))) + 1442695040888963407))))
def spec_l1Cur_pick.f (s0_0 : List Int) (s0_1 : Int) (s0_2 : Int) (a1 : Int) : Option (Int × Int × Int) := if a1 ≤ 1 then (some (0, s0_1, s0_2)) else ((spec_l1Cur_next.f s0_0 s0_1 s0_2).bind fun bt102 => (if a1 > 200 then ((spec_l1Cur_next.f s0_0 bt102.2.1 bt102.2.2).bind fun bt105 => (if a1 = 0 then (none) else (some (Int.tmod (wrap64 ((wrap64 (bt102.1 * 256)) + bt105.1)) a1, bt105.2.1, bt105.2.2)))) else (if a1 = 0 then (none) else (some (Int.tmod bt102.1 a1, bt102.2.1, bt102.2.2)))))
def spec_l1Cur_among.f (s0_0 : List Int) (s0_1 : Int) (s0_2 : Int) (l1 : List Int) : Option (Int × Int × Int) := (spec_l1Cur_pick.f s0_0 s0_1 s0_2 (l1.length : Int)).bind fun bt108 => (if 0 ≤ bt108.1 then (if bt108.1 < (l1.length : Int) then (some (rd l1 bt108.1, bt108.2.1, bt108.2.2)) else (none)) else (none))
def spec_l1Cur_one.f (s0_0 : List Int) (s0_1 : Int) (s0_2 : Int) (a1 : Int) : Option (Bool × Int × Int) := (spec_l1Cur_pick.f s0_0 s0_1 s0_2 a1).bind fun bt112 => (some ((bt112.1 == 0), bt112.2.1, bt112.2.2))
def spec_l1Cur_of.f (s0_0 : List Int) (s0_1 : Int) (s0_2 : Int) (l1 : List ByteArray) : Option (ByteArray × Int × Int) := (spec_l1Cur_pick.f s0_0 s0_1 s0_2 (l1.length : Int)).bind fun bt115 => (if 0 ≤ bt115.1 then (if bt115.1 < (l1.length : Int) then (some (rdOf ByteArray.empty l1 bt115.1, bt115.2.1, bt115.2.2)) else (none)) else (none))
def spec_l1Cur_note.f (s0_0 : List Int) (s0_1 : Int) (s0_2 : Int) (a1 : Int) : Option (Int × Int × ByteArray × Int × Int) := (spec_l1Cur_among.f s0_0 s0_1 s0_2 (([1, 5, 8, 20] : List Int))).bind fun bt123 => ((spec_l1Cur_of.f s0_0 bt123.2.1 bt123.2.2 (([(⟨#[72, 79, 85, 83, 69]⟩ : ByteArray), (⟨#[71, 79]⟩ : ByteArray), (⟨#[73]⟩ : ByteArray), (⟨#[89, 79, 85]⟩ : ByteArray), (⟨#[71, 79]⟩ : ByteArray), (⟨#[71, 73, 86, 69]⟩ : ByteArray), (⟨#[66, 79, 79, 75]⟩ : ByteArray)] : List ByteArray))).bind fun bt129 => ((spec_l1Cur_pick.f s0_0 bt129.2.1 bt129.2.2 60).bind fun bt133 => (if bt133.1 = 0 then ((spec_l1Cur_among.f s0_0 bt133.2.1 bt133.2.2 (([a1, wrap64 (a1 - 1), 100000] : List Int))).bind fun bt139 => (some (a1, bt139.1, bt129.1, bt139.2.1, bt139.2.2))) else (if bt133.1 = 1 then ((spec_l1Cur_of.f s0_0 bt133.2.1 bt133.2.2 (([(⟨#[]⟩ : ByteArray), (⟨#[103, 111]⟩ : ByteArray), (⟨#[78, 73, 78, 69, 76, 69, 84, 84, 82]⟩ : ByteArray)] : List ByteArray))).bind fun bt145 => (some (a1, wrap64 (a1 + bt123.1), bt145.1, bt145.2.1, bt145.2.2))) else (if bt133.1 = 2 then ((spec_l1Cur_among.f s0_0 bt133.2.1 bt133.2.2 (([(-1), (-9223372036854775808)] : List Int))).bind fun bt151 => (some (bt151.1, wrap64 (a1 + bt123.1), bt129.1, bt151.2.1, bt151.2.2))) else (some (a1, wrap64 (a1 + bt123.1), bt129.1, bt133.2.1, bt133.2.2)))))))
def spec_l1Least.f (a0 : Int) (a1 : Int) : Option (Int) := if a0 < a1 then (some a0) else (some a1)
def spec_l1Most.f (a0 : Int) (a1 : Int) : Option (Int) := if a0 > a1 then (some a0) else (some a1)
mutual
def spec_l1Cur_tier.j0 : Nat → List (S50) → Int → Int → List Int → Int → Int → Option ((List (S50)) × Int × Int)
  | 0, _, _, _, _, _, _ => none
  | k + 1, x3, x4, x5, x1000, x1001, x1002 => spec_l1Cur_tier.l0 k x3 x4 x5 x1000 x1001 x1002
def spec_l1Cur_tier.l0 : Nat → List (S50) → Int → Int → List Int → Int → Int → Option ((List (S50)) × Int × Int)
  | 0, _, _, _, _, _, _ => none
  | k + 1, x3, x4, x5, x1000, x1001, x1002 => if (x3.length : Int) < x5 then ((spec_l1Cur_note.f x1000 x1001 x1002 x4).bind fun bt166 => (if (x3.length : Int) > 0 then ((spec_l1Cur_one.f x1000 bt166.2.2.2.1 bt166.2.2.2.2 4).bind fun bt172 => (spec_l1Cur_tier.j2 k x3 x5 (x3.length : Int) bt172.1 x1000 bt172.2.1 bt172.2.2 bt166.1 bt166.2.1 bt166.2.2.1)) else (spec_l1Cur_tier.j2 k x3 x5 (x3.length : Int) false x1000 bt166.2.2.2.1 bt166.2.2.2.2 bt166.1 bt166.2.1 bt166.2.2.1))) else (some (x3, x1001, x1002))
def spec_l1Cur_tier.j2 : Nat → List (S50) → Int → Int → Bool → List Int → Int → Int → Int → Int → ByteArray → Option ((List (S50)) × Int × Int)
  | 0, _, _, _, _, _, _, _, _, _, _ => none
  | k + 1, x3, x5, x7, x31, x1000, x1001, x1002, x172000, x172001, x172002 => if x31 = true then (if 0 ≤ (wrap64 (x7 - 1)) then (if (wrap64 (x7 - 1)) < (x3.length : Int) then (if x3.length < 4398046511104 then ((spec_l1Most.f 0 x172001).bind fun t179 => ((spec_l1Least.f 90000 t179).bind fun t180 => ((spec_l1Cur_among.f x1000 x1001 x1002 (([0, 0, 2, 5] : List Int))).bind fun bt184 => (spec_l1Cur_tier.l0 k (x3 ++ [(⟨x172000, x172001, (rd_T50 x3 (wrap64 (x7 - 1))).f2⟩ : S50)]) (wrap64 (t180 + bt184.1)) x5 x1000 bt184.2.1 bt184.2.2)))) else (none)) else (none)) else (none)) else (if x3.length < 4398046511104 then ((spec_l1Most.f 0 x172001).bind fun t190 => ((spec_l1Least.f 90000 t190).bind fun t191 => ((spec_l1Cur_among.f x1000 x1001 x1002 (([0, 0, 2, 5] : List Int))).bind fun bt195 => (spec_l1Cur_tier.l0 k (x3 ++ [(⟨x172000, x172001, x172002⟩ : S50)]) (wrap64 (t191 + bt195.1)) x5 x1000 bt195.2.1 bt195.2.2)))) else (none))
end
def spec_l1Cur_tier.f (k : Nat) (s0_0 : List Int) (s0_1 : Int) (s0_2 : Int) : Option ((List (S50)) × Int × Int) := (spec_l1Cur_pick.f s0_0 s0_1 s0_2 10).bind fun bt154 => ((spec_l1Cur_pick.f s0_0 bt154.2.1 bt154.2.2 8).bind fun bt157 => ((spec_l1Cur_one.f s0_0 bt157.2.1 bt157.2.2 12).bind fun bt160 => (if bt160.1 = true then ((spec_l1Cur_pick.f s0_0 bt160.2.1 bt160.2.2 2).bind fun bt163 => (spec_l1Cur_tier.j0 k ([] : List (S50)) bt154.1 (wrap64 (40 + bt163.1)) s0_0 bt163.2.1 bt163.2.2)) else (spec_l1Cur_tier.j0 k ([] : List (S50)) bt154.1 bt157.1 s0_0 bt160.2.1 bt160.2.2))))
theorem spec_l1Cur_tier.mono_l : ∀ k, (∀ y0 y1 y2 y3 y4 y5, LeO (spec_l1Cur_tier.j0 k y0 y1 y2 y3 y4 y5) (spec_l1Cur_tier.j0 (k + 1) y0 y1 y2 y3 y4 y5)) ∧ (∀ y0 y1 y2 y3 y4 y5, LeO (spec_l1Cur_tier.l0 k y0 y1 y2 y3 y4 y5) (spec_l1Cur_tier.l0 (k + 1) y0 y1 y2 y3 y4 y5)) ∧ (∀ y0 y1 y2 y3 y4 y5 y6 y7 y8 y9, LeO (spec_l1Cur_tier.j2 k y0 y1 y2 y3 y4 y5 y6 y7 y8 y9) (spec_l1Cur_tier.j2 (k + 1) y0 y1 y2 y3 y4 y5 y6 y7 y8 y9))
  | 0 => ⟨fun _ _ _ _ _ _ r h => by simp [spec_l1Cur_tier.j0] at h, fun _ _ _ _ _ _ r h => by simp [spec_l1Cur_tier.l0] at h, fun _ _ _ _ _ _ _ _ _ _ r h => by simp [spec_l1Cur_tier.j2] at h⟩
  | k + 1 => by
    obtain ⟨ih0, ih1, ih2⟩ := spec_l1Cur_tier.mono_l k
    refine ⟨?_, ?_, ?_⟩
    · intro y0 y1 y2 y3 y4 y5
      unfold spec_l1Cur_tier.j0
      repeat' first
      | (with_reducible exact ih0 _ _ _ _ _ _)
      | (with_reducible exact ih1 _ _ _ _ _ _)
      | (with_reducible exact ih2 _ _ _ _ _ _ _ _ _ _)
      | (with_reducible exact LeO.refl _)
      | (with_reducible exact LeO.none _)
      | (with_reducible refine LeO.ite ?_ ?_)
      | (with_reducible refine LeO.bind ?_ (fun _ => ?_))
    · intro y0 y1 y2 y3 y4 y5
      unfold spec_l1Cur_tier.l0
      repeat' first
      | (with_reducible exact ih0 _ _ _ _ _ _)
      | (with_reducible exact ih1 _ _ _ _ _ _)
      | (with_reducible exact ih2 _ _ _ _ _ _ _ _ _ _)
      | (with_reducible exact LeO.refl _)
      | (with_reducible exact LeO.none _)
      | (with_reducible refine LeO.ite ?_ ?_)
      | (with_reducible refine LeO.bind ?_ (fun _ => ?_))
    · intro y0 y1 y2 y3 y4 y5 y6 y7 y8 y9
      unfold spec_l1Cur_tier.j2
      repeat' first
      | (with_reducible exact ih0 _ _ _ _ _ _)
      | (with_reducible exact ih1 _ _ _ _ _ _)
      | (with_reducible exact ih2 _ _ _ _ _ _ _ _ _ _)
      | (with_reducible exact LeO.refl _)
      | (with_reducible exact LeO.none _)
      | (with_reducible refine LeO.ite ?_ ?_)
      | (with_reducible refine LeO.bind ?_ (fun _ => ?_))
theorem spec_l1Cur_tier.mono : ∀ a0 a1 a2 k, LeO (spec_l1Cur_tier.f k a0 a1 a2) (spec_l1Cur_tier.f (k + 1) a0 a1 a2) := by
  intro a0 a1 a2 k
  obtain ⟨ih0, ih1, ih2⟩ := spec_l1Cur_tier.mono_l k
  unfold spec_l1Cur_tier.f
  repeat' first
      | (with_reducible exact ih0 _ _ _ _ _ _)
      | (with_reducible exact ih1 _ _ _ _ _ _)
      | (with_reducible exact ih2 _ _ _ _ _ _ _ _ _ _)
      | (with_reducible exact LeO.refl _)
      | (with_reducible exact LeO.none _)
      | (with_reducible refine LeO.ite ?_ ?_)
      | (with_reducible refine LeO.bind ?_ (fun _ => ?_))
noncomputable def spec_l1Cur_tier.J0 (x3 : List (S50)) (x4 : Int) (x5 : Int) (x1000 : List Int) (x1001 : Int) (x1002 : Int) : Option ((List (S50)) × Int × Int) := lim fun k => spec_l1Cur_tier.j0 k x3 x4 x5 x1000 x1001 x1002
theorem spec_l1Cur_tier.J0_lim (x3 : List (S50)) (x4 : Int) (x5 : Int) (x1000 : List Int) (x1001 : Int) (x1002 : Int) : Lim (fun k => spec_l1Cur_tier.j0 k x3 x4 x5 x1000 x1001 x1002) (spec_l1Cur_tier.J0 x3 x4 x5 x1000 x1001 x1002) := ⟨fun k => (spec_l1Cur_tier.mono_l k).1 x3 x4 x5 x1000 x1001 x1002, rfl⟩
noncomputable def spec_l1Cur_tier.L0 (x3 : List (S50)) (x4 : Int) (x5 : Int) (x1000 : List Int) (x1001 : Int) (x1002 : Int) : Option ((List (S50)) × Int × Int) := lim fun k => spec_l1Cur_tier.l0 k x3 x4 x5 x1000 x1001 x1002
theorem spec_l1Cur_tier.L0_lim (x3 : List (S50)) (x4 : Int) (x5 : Int) (x1000 : List Int) (x1001 : Int) (x1002 : Int) : Lim (fun k => spec_l1Cur_tier.l0 k x3 x4 x5 x1000 x1001 x1002) (spec_l1Cur_tier.L0 x3 x4 x5 x1000 x1001 x1002) := ⟨fun k => (spec_l1Cur_tier.mono_l k).2.1 x3 x4 x5 x1000 x1001 x1002, rfl⟩
noncomputable def spec_l1Cur_tier.J2 (x3 : List (S50)) (x5 : Int) (x7 : Int) (x31 : Bool) (x1000 : List Int) (x1001 : Int) (x1002 : Int) (x172000 : Int) (x172001 : Int) (x172002 : ByteArray) : Option ((List (S50)) × Int × Int) := lim fun k => spec_l1Cur_tier.j2 k x3 x5 x7 x31 x1000 x1001 x1002 x172000 x172001 x172002
theorem spec_l1Cur_tier.J2_lim (x3 : List (S50)) (x5 : Int) (x7 : Int) (x31 : Bool) (x1000 : List Int) (x1001 : Int) (x1002 : Int) (x172000 : Int) (x172001 : Int) (x172002 : ByteArray) : Lim (fun k => spec_l1Cur_tier.j2 k x3 x5 x7 x31 x1000 x1001 x1002 x172000 x172001 x172002) (spec_l1Cur_tier.J2 x3 x5 x7 x31 x1000 x1001 x1002 x172000 x172001 x172002) := ⟨fun k => (spec_l1Cur_tier.mono_l k).2.2 x3 x5 x7 x31 x1000 x1001 x1002 x172000 x172001 x172002, rfl⟩
noncomputable def spec_l1Cur_tier.F (s0_0 : List Int) (s0_1 : Int) (s0_2 : Int) : Option ((List (S50)) × Int × Int) := lim fun k => spec_l1Cur_tier.f k s0_0 s0_1 s0_2
theorem spec_l1Cur_tier.F_lim (s0_0 : List Int) (s0_1 : Int) (s0_2 : Int) : Lim (fun k => spec_l1Cur_tier.f k s0_0 s0_1 s0_2) (spec_l1Cur_tier.F s0_0 s0_1 s0_2) := ⟨spec_l1Cur_tier.mono s0_0 s0_1 s0_2, rfl⟩
theorem spec_l1Cur_tier.J0_eq (x3 : List (S50)) (x4 : Int) (x5 : Int) (x1000 : List Int) (x1001 : Int) (x1002 : Int) : spec_l1Cur_tier.J0 x3 x4 x5 x1000 x1001 x1002 = (spec_l1Cur_tier.L0 x3 x4 x5 x1000 x1001 x1002) := by
  refine Lim.succ_eq (spec_l1Cur_tier.J0_lim x3 x4 x5 x1000 x1001 x1002).mon ?_
  simp only [spec_l1Cur_tier.j0]
  repeat' first
  | (with_reducible exact spec_l1Cur_tier.J0_lim _ _ _ _ _ _)
  | (with_reducible exact spec_l1Cur_tier.L0_lim _ _ _ _ _ _)
  | (with_reducible exact spec_l1Cur_tier.J2_lim _ _ _ _ _ _ _ _ _ _)
  | (with_reducible refine Lim.ite ?_ ?_)
  | (with_reducible refine Lim.bind ?_ (fun _ => ?_))
  | (with_reducible exact Lim.const _)
theorem spec_l1Cur_tier.L0_eq (x3 : List (S50)) (x4 : Int) (x5 : Int) (x1000 : List Int) (x1001 : Int) (x1002 : Int) : spec_l1Cur_tier.L0 x3 x4 x5 x1000 x1001 x1002 = (if (x3.length : Int) < x5 then ((spec_l1Cur_note.f x1000 x1001 x1002 x4).bind fun bt166 => (if (x3.length : Int) > 0 then ((spec_l1Cur_one.f x1000 bt166.2.2.2.1 bt166.2.2.2.2 4).bind fun bt172 => (spec_l1Cur_tier.J2 x3 x5 (x3.length : Int) bt172.1 x1000 bt172.2.1 bt172.2.2 bt166.1 bt166.2.1 bt166.2.2.1)) else (spec_l1Cur_tier.J2 x3 x5 (x3.length : Int) false x1000 bt166.2.2.2.1 bt166.2.2.2.2 bt166.1 bt166.2.1 bt166.2.2.1))) else (some (x3, x1001, x1002))) := by
  refine Lim.succ_eq (spec_l1Cur_tier.L0_lim x3 x4 x5 x1000 x1001 x1002).mon ?_
  simp only [spec_l1Cur_tier.l0]
  repeat' first
  | (with_reducible exact spec_l1Cur_tier.J0_lim _ _ _ _ _ _)
  | (with_reducible exact spec_l1Cur_tier.L0_lim _ _ _ _ _ _)
  | (with_reducible exact spec_l1Cur_tier.J2_lim _ _ _ _ _ _ _ _ _ _)
  | (with_reducible refine Lim.ite ?_ ?_)
  | (with_reducible refine Lim.bind ?_ (fun _ => ?_))
  | (with_reducible exact Lim.const _)
theorem spec_l1Cur_tier.J2_eq (x3 : List (S50)) (x5 : Int) (x7 : Int) (x31 : Bool) (x1000 : List Int) (x1001 : Int) (x1002 : Int) (x172000 : Int) (x172001 : Int) (x172002 : ByteArray) : spec_l1Cur_tier.J2 x3 x5 x7 x31 x1000 x1001 x1002 x172000 x172001 x172002 = (if x31 = true then (if 0 ≤ (wrap64 (x7 - 1)) then (if (wrap64 (x7 - 1)) < (x3.length : Int) then (if x3.length < 4398046511104 then ((spec_l1Most.f 0 x172001).bind fun t179 => ((spec_l1Least.f 90000 t179).bind fun t180 => ((spec_l1Cur_among.f x1000 x1001 x1002 (([0, 0, 2, 5] : List Int))).bind fun bt184 => (spec_l1Cur_tier.L0 (x3 ++ [(⟨x172000, x172001, (rd_T50 x3 (wrap64 (x7 - 1))).f2⟩ : S50)]) (wrap64 (t180 + bt184.1)) x5 x1000 bt184.2.1 bt184.2.2)))) else (none)) else (none)) else (none)) else (if x3.length < 4398046511104 then ((spec_l1Most.f 0 x172001).bind fun t190 => ((spec_l1Least.f 90000 t190).bind fun t191 => ((spec_l1Cur_among.f x1000 x1001 x1002 (([0, 0, 2, 5] : List Int))).bind fun bt195 => (spec_l1Cur_tier.L0 (x3 ++ [(⟨x172000, x172001, x172002⟩ : S50)]) (wrap64 (t191 + bt195.1)) x5 x1000 bt195.2.1 bt195.2.2)))) else (none))) := by
  refine Lim.succ_eq (spec_l1Cur_tier.J2_lim x3 x5 x7 x31 x1000 x1001 x1002 x172000 x172001 x172002).mon ?_
  simp only [spec_l1Cur_tier.j2]
  repeat' first
  | (with_reducible exact spec_l1Cur_tier.J0_lim _ _ _ _ _ _)
  | (with_reducible exact spec_l1Cur_tier.L0_lim _ _ _ _ _ _)
  | (with_reducible exact spec_l1Cur_tier.J2_lim _ _ _ _ _ _ _ _ _ _)
  | (with_reducible refine Lim.ite ?_ ?_)
  | (with_reducible refine Lim.bind ?_ (fun _ => ?_))
  | (with_reducible exact Lim.const _)
theorem spec_l1Cur_tier.F_eq (s0_0 : List Int) (s0_1 : Int) (s0_2 : Int) : spec_l1Cur_tier.F s0_0 s0_1 s0_2 = ((spec_l1Cur_pick.f s0_0 s0_1 s0_2 10).bind fun bt154 => ((spec_l1Cur_pick.f s0_0 bt154.2.1 bt154.2.2 8).bind fun bt157 => ((spec_l1Cur_one.f s0_0 bt157.2.1 bt157.2.2 12).bind fun bt160 => (if bt160.1 = true then ((spec_l1Cur_pick.f s0_0 bt160.2.1 bt160.2.2 2).bind fun bt163 => (spec_l1Cur_tier.J0 ([] : List (S50)) bt154.1 (wrap64 (40 + bt163.1)) s0_0 bt163.2.1 bt163.2.2)) else (spec_l1Cur_tier.J0 ([] : List (S50)) bt154.1 bt157.1 s0_0 bt160.2.1 bt160.2.2))))) := by
  refine Lim.eq_ ?_
  simp only [spec_l1Cur_tier.f]
  repeat' first
  | (with_reducible exact spec_l1Cur_tier.J0_lim _ _ _ _ _ _)
  | (with_reducible exact spec_l1Cur_tier.L0_lim _ _ _ _ _ _)
  | (with_reducible exact spec_l1Cur_tier.J2_lim _ _ _ _ _ _ _ _ _ _)
  | (with_reducible refine Lim.ite ?_ ?_)
  | (with_reducible refine Lim.bind ?_ (fun _ => ?_))
  | (with_reducible exact Lim.const _)
def spec_DrawIsTier.f (k : Nat) (l0 : List Int) : Option ((List (S50))) := (spec_l1Cur_tier.f k l0 0 0).bind fun bt199 => (some bt199.1)
theorem spec_DrawIsTier.mono : ∀ a0 k, LeO (spec_DrawIsTier.f k a0) (spec_DrawIsTier.f (k + 1) a0) := by
  intro a0 k
  unfold spec_DrawIsTier.f
  repeat' first
      | (with_reducible exact spec_l1Cur_tier.mono _ _ _ _)
      | (with_reducible exact LeO.refl _)
      | (with_reducible exact LeO.none _)
      | (with_reducible refine LeO.ite ?_ ?_)
      | (with_reducible refine LeO.bind ?_ (fun _ => ?_))
noncomputable def spec_DrawIsTier.F (l0 : List Int) : Option ((List (S50))) := lim fun k => spec_DrawIsTier.f k l0
theorem spec_DrawIsTier.F_lim (l0 : List Int) : Lim (fun k => spec_DrawIsTier.f k l0) (spec_DrawIsTier.F l0) := ⟨spec_DrawIsTier.mono l0, rfl⟩
theorem spec_DrawIsTier.F_eq (l0 : List Int) : spec_DrawIsTier.F l0 = ((spec_l1Cur_tier.F l0 0 0).bind fun bt199 => (some bt199.1)) := by
  refine Lim.eq_ ?_
  simp only [spec_DrawIsTier.f]
  repeat' first
  | (with_reducible exact spec_l1Cur_tier.F_lim _ _ _)
  | (with_reducible refine Lim.ite ?_ ?_)
  | (with_reducible refine Lim.bind ?_ (fun _ => ?_))
  | (with_reducible exact Lim.const _)
def spec_DrawCountGlosses.f (k : Nat) (l0 : List Int) : Option ((List (S50))) := (spec_DrawIsTier.f k l0).bind fun t204 => (some t204)
theorem spec_DrawCountGlosses.mono : ∀ a0 k, LeO (spec_DrawCountGlosses.f k a0) (spec_DrawCountGlosses.f (k + 1) a0) := by
  intro a0 k
  unfold spec_DrawCountGlosses.f
  repeat' first
      | (with_reducible exact spec_DrawIsTier.mono _ _)
      | (with_reducible exact LeO.refl _)
      | (with_reducible exact LeO.none _)
      | (with_reducible refine LeO.ite ?_ ?_)
      | (with_reducible refine LeO.bind ?_ (fun _ => ?_))
noncomputable def spec_DrawCountGlosses.F (l0 : List Int) : Option ((List (S50))) := lim fun k => spec_DrawCountGlosses.f k l0
theorem spec_DrawCountGlosses.F_lim (l0 : List Int) : Lim (fun k => spec_DrawCountGlosses.f k l0) (spec_DrawCountGlosses.F l0) := ⟨spec_DrawCountGlosses.mono l0, rfl⟩
theorem spec_DrawCountGlosses.F_eq (l0 : List Int) : spec_DrawCountGlosses.F l0 = ((spec_DrawIsTier.F l0).bind fun t204 => (some t204)) := by
  refine Lim.eq_ ?_
  simp only [spec_DrawCountGlosses.f]
  repeat' first
  | (with_reducible exact spec_DrawIsTier.F_lim _)
  | (with_reducible refine Lim.ite ?_ ?_)
  | (with_reducible refine Lim.bind ?_ (fun _ => ?_))
  | (with_reducible exact Lim.const _)
def impl_within.f (a0 : Int) (a1 : Int) (a2 : Int) : Option (Bool) := if a0 ≥ a1 then (some (decide (a0 ≤ a2))) else (some false)
def impl_isFrame.f (a0 : Int) : Option (Bool) := (impl_within.f a0 0 99999).bind fun t207 => (some t207)
def stringslite_IndexByte.f (a0 : ByteArray) (a1 : Int) : Option (Int) := some (Lib.indexByte a0.data.toList a1.toNat.toUInt8)
def strings_IndexByte.f (a0 : ByteArray) (a1 : Int) : Option (Int) := (stringslite_IndexByte.f a0 a1).bind fun t208 => (some t208)
def impl_hasOnly.l0 : Nat → ByteArray → ByteArray → Int → Int → Option (Bool)
  | 0, _, _, _, _ => none
  | k + 1, x0, x1, x7, x8 => if x8 < x7 then (if 0 ≤ x8 then (if x8 < (x0.size : Int) then ((strings_IndexByte.f x1 (bt x0 x8)).bind fun t209 => (if t209 < 0 then (some false) else (impl_hasOnly.l0 k x0 x1 x7 (wrap64 (x8 + 1))))) else (none)) else (none)) else (some true)
def impl_hasOnly.f (k : Nat) (a0 : ByteArray) (a1 : ByteArray) : Option (Bool) := impl_hasOnly.l0 k a0 a1 (a0.size : Int) 0
theorem impl_hasOnly.mono_l : ∀ k, (∀ y0 y1 y2 y3, LeO (impl_hasOnly.l0 k y0 y1 y2 y3) (impl_hasOnly.l0 (k + 1) y0 y1 y2 y3))
  | 0 => fun _ _ _ _ r h => by simp [impl_hasOnly.l0] at h
  | k + 1 => by
    have ih0 := impl_hasOnly.mono_l k
    · intro y0 y1 y2 y3
      unfold impl_hasOnly.l0
      repeat' first
      | (with_reducible exact ih0 _ _ _ _)
      | (with_reducible exact LeO.refl _)
      | (with_reducible exact LeO.none _)
      | (with_reducible refine LeO.ite ?_ ?_)
      | (with_reducible refine LeO.bind ?_ (fun _ => ?_))
theorem impl_hasOnly.mono : ∀ a0 a1 k, LeO (impl_hasOnly.f k a0 a1) (impl_hasOnly.f (k + 1) a0 a1) := by
  intro a0 a1 k
  have ih0 := impl_hasOnly.mono_l k
  unfold impl_hasOnly.f
  repeat' first
      | (with_reducible exact ih0 _ _ _ _)
      | (with_reducible exact LeO.refl _)
      | (with_reducible exact LeO.none _)
      | (with_reducible refine LeO.ite ?_ ?_)
      | (with_reducible refine LeO.bind ?_ (fun _ => ?_))
noncomputable def impl_hasOnly.L0 (x0 : ByteArray) (x1 : ByteArray) (x7 : Int) (x8 : Int) : Option (Bool) := lim fun k => impl_hasOnly.l0 k x0 x1 x7 x8
theorem impl_hasOnly.L0_lim (x0 : ByteArray) (x1 : ByteArray) (x7 : Int) (x8 : Int) : Lim (fun k => impl_hasOnly.l0 k x0 x1 x7 x8) (impl_hasOnly.L0 x0 x1 x7 x8) := ⟨fun k => (impl_hasOnly.mono_l k) x0 x1 x7 x8, rfl⟩
noncomputable def impl_hasOnly.F (a0 : ByteArray) (a1 : ByteArray) : Option (Bool) := lim fun k => impl_hasOnly.f k a0 a1
theorem impl_hasOnly.F_lim (a0 : ByteArray) (a1 : ByteArray) : Lim (fun k => impl_hasOnly.f k a0 a1) (impl_hasOnly.F a0 a1) := ⟨impl_hasOnly.mono a0 a1, rfl⟩
theorem impl_hasOnly.L0_eq (x0 : ByteArray) (x1 : ByteArray) (x7 : Int) (x8 : Int) : impl_hasOnly.L0 x0 x1 x7 x8 = (if x8 < x7 then (if 0 ≤ x8 then (if x8 < (x0.size : Int) then ((strings_IndexByte.f x1 (bt x0 x8)).bind fun t209 => (if t209 < 0 then (some false) else (impl_hasOnly.L0 x0 x1 x7 (wrap64 (x8 + 1))))) else (none)) else (none)) else (some true)) := by
  refine Lim.succ_eq (impl_hasOnly.L0_lim x0 x1 x7 x8).mon ?_
  simp only [impl_hasOnly.l0]
  repeat' first
  | (with_reducible exact impl_hasOnly.L0_lim _ _ _ _)
  | (with_reducible refine Lim.ite ?_ ?_)
  | (with_reducible refine Lim.bind ?_ (fun _ => ?_))
  | (with_reducible exact Lim.const _)
theorem impl_hasOnly.F_eq (a0 : ByteArray) (a1 : ByteArray) : impl_hasOnly.F a0 a1 = (impl_hasOnly.L0 a0 a1 (a0.size : Int) 0) := by
  refine Lim.eq_ ?_
  simp only [impl_hasOnly.f]
  repeat' first
  | (with_reducible exact impl_hasOnly.L0_lim _ _ _ _)
  | (with_reducible refine Lim.ite ?_ ?_)
  | (with_reducible refine Lim.bind ?_ (fun _ => ?_))
  | (with_reducible exact Lim.const _)
def impl_isWordOf.f (k : Nat) (a0 : ByteArray) (a1 : ByteArray) : Option (Bool) := (impl_within.f (a0.size : Int) 1 8).bind fun t210 => (if t210 = true then ((impl_hasOnly.f k a0 a1).bind fun t211 => (some t211)) else (some false))
theorem impl_isWordOf.mono : ∀ a0 a1 k, LeO (impl_isWordOf.f k a0 a1) (impl_isWordOf.f (k + 1) a0 a1) := by
  intro a0 a1 k
  unfold impl_isWordOf.f
  repeat' first
      | (with_reducible exact impl_hasOnly.mono _ _ _)
      | (with_reducible exact LeO.refl _)
      | (with_reducible exact LeO.none _)
      | (with_reducible refine LeO.ite ?_ ?_)
      | (with_reducible refine LeO.bind ?_ (fun _ => ?_))
noncomputable def impl_isWordOf.F (a0 : ByteArray) (a1 : ByteArray) : Option (Bool) := lim fun k => impl_isWordOf.f k a0 a1
theorem impl_isWordOf.F_lim (a0 : ByteArray) (a1 : ByteArray) : Lim (fun k => impl_isWordOf.f k a0 a1) (impl_isWordOf.F a0 a1) := ⟨impl_isWordOf.mono a0 a1, rfl⟩
theorem impl_isWordOf.F_eq (a0 : ByteArray) (a1 : ByteArray) : impl_isWordOf.F a0 a1 = ((impl_within.f (a0.size : Int) 1 8).bind fun t210 => (if t210 = true then ((impl_hasOnly.F a0 a1).bind fun t211 => (some t211)) else (some false))) := by
  refine Lim.eq_ ?_
  simp only [impl_isWordOf.f]
  repeat' first
  | (with_reducible exact impl_hasOnly.F_lim _ _)
  | (with_reducible refine Lim.ite ?_ ?_)
  | (with_reducible refine Lim.bind ?_ (fun _ => ?_))
  | (with_reducible exact Lim.const _)
def impl_IsNote.f (k : Nat) (a0_0 : Int) (a0_1 : Int) (a0_2 : ByteArray) : Option (Bool) := (impl_isFrame.f a0_0).bind fun t213 => (if t213 = true then ((impl_isFrame.f a0_1).bind fun t214 => (if t214 = true then (if a0_0 < a0_1 then ((impl_isWordOf.f k a0_2 (⟨#[65, 66, 67, 68, 69, 70, 71, 72, 73, 74, 75, 76, 77, 78, 79, 80, 81, 82, 83, 84, 85, 86, 87, 88, 89, 90]⟩ : ByteArray)).bind fun t215 => (some t215)) else (some false)) else (some false))) else (some false))
theorem impl_IsNote.mono : ∀ a0 a1 a2 k, LeO (impl_IsNote.f k a0 a1 a2) (impl_IsNote.f (k + 1) a0 a1 a2) := by
  intro a0 a1 a2 k
  unfold impl_IsNote.f
  repeat' first
      | (with_reducible exact impl_isWordOf.mono _ _ _)
      | (with_reducible exact LeO.refl _)
      | (with_reducible exact LeO.none _)
      | (with_reducible refine LeO.ite ?_ ?_)
      | (with_reducible refine LeO.bind ?_ (fun _ => ?_))
noncomputable def impl_IsNote.F (a0_0 : Int) (a0_1 : Int) (a0_2 : ByteArray) : Option (Bool) := lim fun k => impl_IsNote.f k a0_0 a0_1 a0_2
theorem impl_IsNote.F_lim (a0_0 : Int) (a0_1 : Int) (a0_2 : ByteArray) : Lim (fun k => impl_IsNote.f k a0_0 a0_1 a0_2) (impl_IsNote.F a0_0 a0_1 a0_2) := ⟨impl_IsNote.mono a0_0 a0_1 a0_2, rfl⟩
theorem impl_IsNote.F_eq (a0_0 : Int) (a0_1 : Int) (a0_2 : ByteArray) : impl_IsNote.F a0_0 a0_1 a0_2 = ((impl_isFrame.f a0_0).bind fun t213 => (if t213 = true then ((impl_isFrame.f a0_1).bind fun t214 => (if t214 = true then (if a0_0 < a0_1 then ((impl_isWordOf.F a0_2 (⟨#[65, 66, 67, 68, 69, 70, 71, 72, 73, 74, 75, 76, 77, 78, 79, 80, 81, 82, 83, 84, 85, 86, 87, 88, 89, 90]⟩ : ByteArray)).bind fun t215 => (some t215)) else (some false)) else (some false))) else (some false))) := by
  refine Lim.eq_ ?_
  simp only [impl_IsNote.f]
  repeat' first
  | (with_reducible exact impl_isWordOf.F_lim _ _)
  | (with_reducible refine Lim.ite ?_ ?_)
  | (with_reducible refine Lim.bind ?_ (fun _ => ?_))
  | (with_reducible exact Lim.const _)
def impl_IsTier.l0 : Nat → List (S50) → List (S50) → Int → Int → Option (Bool)
  | 0, _, _, _, _ => none
  | k + 1, x0, x5, x6, x7 => if x7 < x6 then (if 0 ≤ x7 then (if x7 < (x5.length : Int) then ((impl_IsNote.f k ((rd_T50 x5 x7).f0) ((rd_T50 x5 x7).f1) ((rd_T50 x5 x7).f2)).bind fun t218 => (if t218 = true then (if x7 > 0 then (if 0 ≤ (wrap64 (x7 - 1)) then (if (wrap64 (x7 - 1)) < (x0.length : Int) then (if ((rd_T50 x0 (wrap64 (x7 - 1))).f1) > ((rd_T50 x5 x7).f0) then (some false) else (impl_IsTier.l0 k x0 x5 x6 (wrap64 (x7 + 1)))) else (none)) else (none)) else (impl_IsTier.l0 k x0 x5 x6 (wrap64 (x7 + 1)))) else (some false))) else (none)) else (none)) else (some (decide ((x0.length : Int) ≤ 40)))
def impl_IsTier.f (k : Nat) (l0 : List (S50)) : Option (Bool) := impl_IsTier.l0 k l0 l0 (l0.length : Int) 0
theorem impl_IsTier.mono_l : ∀ k, (∀ y0 y1 y2 y3, LeO (impl_IsTier.l0 k y0 y1 y2 y3) (impl_IsTier.l0 (k + 1) y0 y1 y2 y3))
  | 0 => fun _ _ _ _ r h => by simp [impl_IsTier.l0] at h
  | k + 1 => by
    have ih0 := impl_IsTier.mono_l k
    · intro y0 y1 y2 y3
      unfold impl_IsTier.l0
      repeat' first
      | (with_reducible exact ih0 _ _ _ _)
      | (with_reducible exact impl_IsNote.mono _ _ _ _)
      | (with_reducible exact LeO.refl _)
      | (with_reducible exact LeO.none _)
      | (with_reducible refine LeO.ite ?_ ?_)
      | (with_reducible refine LeO.bind ?_ (fun _ => ?_))
theorem impl_IsTier.mono : ∀ a0 k, LeO (impl_IsTier.f k a0) (impl_IsTier.f (k + 1) a0) := by
  intro a0 k
  have ih0 := impl_IsTier.mono_l k
  unfold impl_IsTier.f
  repeat' first
      | (with_reducible exact ih0 _ _ _ _)
      | (with_reducible exact impl_IsNote.mono _ _ _ _)
      | (with_reducible exact LeO.refl _)
      | (with_reducible exact LeO.none _)
      | (with_reducible refine LeO.ite ?_ ?_)
      | (with_reducible refine LeO.bind ?_ (fun _ => ?_))
noncomputable def impl_IsTier.L0 (x0 : List (S50)) (x5 : List (S50)) (x6 : Int) (x7 : Int) : Option (Bool) := lim fun k => impl_IsTier.l0 k x0 x5 x6 x7
theorem impl_IsTier.L0_lim (x0 : List (S50)) (x5 : List (S50)) (x6 : Int) (x7 : Int) : Lim (fun k => impl_IsTier.l0 k x0 x5 x6 x7) (impl_IsTier.L0 x0 x5 x6 x7) := ⟨fun k => (impl_IsTier.mono_l k) x0 x5 x6 x7, rfl⟩
noncomputable def impl_IsTier.F (l0 : List (S50)) : Option (Bool) := lim fun k => impl_IsTier.f k l0
theorem impl_IsTier.F_lim (l0 : List (S50)) : Lim (fun k => impl_IsTier.f k l0) (impl_IsTier.F l0) := ⟨impl_IsTier.mono l0, rfl⟩
theorem impl_IsTier.L0_eq (x0 : List (S50)) (x5 : List (S50)) (x6 : Int) (x7 : Int) : impl_IsTier.L0 x0 x5 x6 x7 = (if x7 < x6 then (if 0 ≤ x7 then (if x7 < (x5.length : Int) then ((impl_IsNote.F ((rd_T50 x5 x7).f0) ((rd_T50 x5 x7).f1) ((rd_T50 x5 x7).f2)).bind fun t218 => (if t218 = true then (if x7 > 0 then (if 0 ≤ (wrap64 (x7 - 1)) then (if (wrap64 (x7 - 1)) < (x0.length : Int) then (if ((rd_T50 x0 (wrap64 (x7 - 1))).f1) > ((rd_T50 x5 x7).f0) then (some false) else (impl_IsTier.L0 x0 x5 x6 (wrap64 (x7 + 1)))) else (none)) else (none)) else (impl_IsTier.L0 x0 x5 x6 (wrap64 (x7 + 1)))) else (some false))) else (none)) else (none)) else (some (decide ((x0.length : Int) ≤ 40)))) := by
  refine Lim.succ_eq (impl_IsTier.L0_lim x0 x5 x6 x7).mon ?_
  simp only [impl_IsTier.l0]
  repeat' first
  | (with_reducible exact impl_IsTier.L0_lim _ _ _ _)
  | (with_reducible exact impl_IsNote.F_lim _ _ _)
  | (with_reducible refine Lim.ite ?_ ?_)
  | (with_reducible refine Lim.bind ?_ (fun _ => ?_))
  | (with_reducible exact Lim.const _)
theorem impl_IsTier.F_eq (l0 : List (S50)) : impl_IsTier.F l0 = (impl_IsTier.L0 l0 l0 (l0.length : Int) 0) := by
  refine Lim.eq_ ?_
  simp only [impl_IsTier.f]
  repeat' first
  | (with_reducible exact impl_IsTier.L0_lim _ _ _ _)
  | (with_reducible exact impl_IsNote.F_lim _ _ _)
  | (with_reducible refine Lim.ite ?_ ?_)
  | (with_reducible refine Lim.bind ?_ (fun _ => ?_))
  | (with_reducible exact Lim.const _)
def slices_Clone_string.f (l0 : List ByteArray) : Option (List ByteArray) := (some (([] : List ByteArray) : List ByteArray)).bind fun y220 => (if y220.length + l0.length < 8796093022208 then (some (y220 ++ l0)) else (none))
def slices_Sort_string.f (l0 : List ByteArray) : Option (List ByteArray) := if l0.length < 4611686018427387904 then some (sortTexts l0) else none
def slices_Compact_string.f (l0 : List ByteArray) : Option (List ByteArray) := if l0.length < 4611686018427387904 then some (onceTexts l0) else none
def impl_distinct_string.f (l0 : List ByteArray) : Option (List ByteArray) := (slices_Clone_string.f l0).bind fun t226 => ((slices_Sort_string.f t226).bind fun t229 => ((slices_Compact_string.f t229).bind fun t230 => (some t230)))
def impl_CountGlosses_1.f (a0 : ByteArray) (a1_0 : ByteArray) : Option (Bool) := some (a0.toList == a1_0.toList)
def impl_those_string_impl_CountGlosses_1.l0 : Nat → List Int → List ByteArray → Int → Int → ByteArray → Option (List Int)
  | 0, _, _, _, _, _ => none
  | k + 1, x5, x8, x9, x10, x39000 => if x10 < x9 then (if 0 ≤ x10 then (if x10 < (x8.length : Int) then ((impl_CountGlosses_1.f (rdOf ByteArray.empty x8 x10) x39000).bind fun t234 => (if t234 = true then (if x5.length < 17592186044416 then (impl_those_string_impl_CountGlosses_1.l0 k (x5 ++ [x10]) x8 x9 (wrap64 (x10 + 1)) x39000) else (none)) else (impl_those_string_impl_CountGlosses_1.l0 k x5 x8 x9 (wrap64 (x10 + 1)) x39000))) else (none)) else (none)) else (some x5)
def impl_those_string_impl_CountGlosses_1.f (k : Nat) (l0 : List ByteArray) (a1_0 : ByteArray) : Option (List Int) := impl_those_string_impl_CountGlosses_1.l0 k ([] : List Int) l0 (l0.length : Int) 0 a1_0
theorem impl_those_string_impl_CountGlosses_1.mono_l : ∀ k, (∀ y0 y1 y2 y3 y4, LeO (impl_those_string_impl_CountGlosses_1.l0 k y0 y1 y2 y3 y4) (impl_those_string_impl_CountGlosses_1.l0 (k + 1) y0 y1 y2 y3 y4))
  | 0 => fun _ _ _ _ _ r h => by simp [impl_those_string_impl_CountGlosses_1.l0] at h
  | k + 1 => by
    have ih0 := impl_those_string_impl_CountGlosses_1.mono_l k
    · intro y0 y1 y2 y3 y4
      unfold impl_those_string_impl_CountGlosses_1.l0
      repeat' first
      | (with_reducible exact ih0 _ _ _ _ _)
      | (with_reducible exact LeO.refl _)
      | (with_reducible exact LeO.none _)
      | (with_reducible refine LeO.ite ?_ ?_)
      | (with_reducible refine LeO.bind ?_ (fun _ => ?_))
theorem impl_those_string_impl_CountGlosses_1.mono : ∀ a0 a1 k, LeO (impl_those_string_impl_CountGlosses_1.f k a0 a1) (impl_those_string_impl_CountGlosses_1.f (k + 1) a0 a1) := by
  intro a0 a1 k
  have ih0 := impl_those_string_impl_CountGlosses_1.mono_l k
  unfold impl_those_string_impl_CountGlosses_1.f
  repeat' first
      | (with_reducible exact ih0 _ _ _ _ _)
      | (with_reducible exact LeO.refl _)
      | (with_reducible exact LeO.none _)
      | (with_reducible refine LeO.ite ?_ ?_)
      | (with_reducible refine LeO.bind ?_ (fun _ => ?_))
noncomputable def impl_those_string_impl_CountGlosses_1.L0 (x5 : List Int) (x8 : List ByteArray) (x9 : Int) (x10 : Int) (x39000 : ByteArray) : Option (List Int) := lim fun k => impl_those_string_impl_CountGlosses_1.l0 k x5 x8 x9 x10 x39000
theorem impl_those_string_impl_CountGlosses_1.L0_lim (x5 : List Int) (x8 : List ByteArray) (x9 : Int) (x10 : Int) (x39000 : ByteArray) : Lim (fun k => impl_those_string_impl_CountGlosses_1.l0 k x5 x8 x9 x10 x39000) (impl_those_string_impl_CountGlosses_1.L0 x5 x8 x9 x10 x39000) := ⟨fun k => (impl_those_string_impl_CountGlosses_1.mono_l k) x5 x8 x9 x10 x39000, rfl⟩
noncomputable def impl_those_string_impl_CountGlosses_1.F (l0 : List ByteArray) (a1_0 : ByteArray) : Option (List Int) := lim fun k => impl_those_string_impl_CountGlosses_1.f k l0 a1_0
theorem impl_those_string_impl_CountGlosses_1.F_lim (l0 : List ByteArray) (a1_0 : ByteArray) : Lim (fun k => impl_those_string_impl_CountGlosses_1.f k l0 a1_0) (impl_those_string_impl_CountGlosses_1.F l0 a1_0) := ⟨impl_those_string_impl_CountGlosses_1.mono l0 a1_0, rfl⟩
theorem impl_those_string_impl_CountGlosses_1.L0_eq (x5 : List Int) (x8 : List ByteArray) (x9 : Int) (x10 : Int) (x39000 : ByteArray) : impl_those_string_impl_CountGlosses_1.L0 x5 x8 x9 x10 x39000 = (if x10 < x9 then (if 0 ≤ x10 then (if x10 < (x8.length : Int) then ((impl_CountGlosses_1.f (rdOf ByteArray.empty x8 x10) x39000).bind fun t234 => (if t234 = true then (if x5.length < 17592186044416 then (impl_those_string_impl_CountGlosses_1.L0 (x5 ++ [x10]) x8 x9 (wrap64 (x10 + 1)) x39000) else (none)) else (impl_those_string_impl_CountGlosses_1.L0 x5 x8 x9 (wrap64 (x10 + 1)) x39000))) else (none)) else (none)) else (some x5)) := by
  refine Lim.succ_eq (impl_those_string_impl_CountGlosses_1.L0_lim x5 x8 x9 x10 x39000).mon ?_
  simp only [impl_those_string_impl_CountGlosses_1.l0]
  repeat' first
  | (with_reducible exact impl_those_string_impl_CountGlosses_1.L0_lim _ _ _ _ _)
  | (with_reducible refine Lim.ite ?_ ?_)
  | (with_reducible refine Lim.bind ?_ (fun _ => ?_))
  | (with_reducible exact Lim.const _)
theorem impl_those_string_impl_CountGlosses_1.F_eq (l0 : List ByteArray) (a1_0 : ByteArray) : impl_those_string_impl_CountGlosses_1.F l0 a1_0 = (impl_those_string_impl_CountGlosses_1.L0 ([] : List Int) l0 (l0.length : Int) 0 a1_0) := by
  refine Lim.eq_ ?_
  simp only [impl_those_string_impl_CountGlosses_1.f]
  repeat' first
  | (with_reducible exact impl_those_string_impl_CountGlosses_1.L0_lim _ _ _ _ _)
  | (with_reducible refine Lim.ite ?_ ?_)
  | (with_reducible refine Lim.bind ?_ (fun _ => ?_))
  | (with_reducible exact Lim.const _)
mutual
def impl_CountGlosses.l0 : Nat → List ByteArray → List (S50) → Int → Int → Option (List ByteArray × List Int × Bool)
  | 0, _, _, _, _ => none
  | k + 1, x5, x15, x16, x17 => if x17 < x16 then (if 0 ≤ x17 then (if x17 < (x15.length : Int) then (if x5.length < 8796093022208 then (impl_CountGlosses.l0 k (x5 ++ [(rd_T50 x15 x17).f2]) x15 x16 (wrap64 (x17 + 1))) else (none)) else (none)) else (none)) else ((impl_distinct_string.f x5).bind fun t244 => (impl_CountGlosses.l1 k x5 t244 ([] : List Int) t244 (t244.length : Int) 0))
def impl_CountGlosses.l1 : Nat → List ByteArray → List ByteArray → List Int → List ByteArray → Int → Int → Option (List ByteArray × List Int × Bool)
  | 0, _, _, _, _, _, _ => none
  | k + 1, x5, x8, x9, x29, x30, x31 => if x31 < x30 then (if 0 ≤ x31 then (if x31 < (x29.length : Int) then ((impl_those_string_impl_CountGlosses_1.f k x5 (rdOf ByteArray.empty x29 x31)).bind fun t249 => (if x9.length < 17592186044416 then (impl_CountGlosses.l1 k x5 x8 (x9 ++ [(t249.length : Int)]) x29 x30 (wrap64 (x31 + 1))) else (none))) else (none)) else (none)) else (some (x8, x9, true))
end
def impl_CountGlosses.f (k : Nat) (l0 : List (S50)) : Option (List ByteArray × List Int × Bool) := (impl_IsTier.f k l0).bind fun t238 => (if t238 = true then (impl_CountGlosses.l0 k ([] : List ByteArray) l0 (l0.length : Int) 0) else (some (([] : List ByteArray), ([] : List Int), false)))
theorem impl_CountGlosses.mono_l : ∀ k, (∀ y0 y1 y2 y3, LeO (impl_CountGlosses.l0 k y0 y1 y2 y3) (impl_CountGlosses.l0 (k + 1) y0 y1 y2 y3)) ∧ (∀ y0 y1 y2 y3 y4 y5, LeO (impl_CountGlosses.l1 k y0 y1 y2 y3 y4 y5) (impl_CountGlosses.l1 (k + 1) y0 y1 y2 y3 y4 y5))
  | 0 => ⟨fun _ _ _ _ r h => by simp [impl_CountGlosses.l0] at h, fun _ _ _ _ _ _ r h => by simp [impl_CountGlosses.l1] at h⟩
  | k + 1 => by
    obtain ⟨ih0, ih1⟩ := impl_CountGlosses.mono_l k
    refine ⟨?_, ?_⟩
    · intro y0 y1 y2 y3
      unfold impl_CountGlosses.l0
      repeat' first
      | (with_reducible exact ih0 _ _ _ _)
      | (with_reducible exact ih1 _ _ _ _ _ _)
      | (with_reducible exact impl_IsTier.mono _ _)
      | (with_reducible exact impl_those_string_impl_CountGlosses_1.mono _ _ _)
      | (with_reducible exact LeO.refl _)
      | (with_reducible exact LeO.none _)
      | (with_reducible refine LeO.ite ?_ ?_)
      | (with_reducible refine LeO.bind ?_ (fun _ => ?_))
    · intro y0 y1 y2 y3 y4 y5
      unfold impl_CountGlosses.l1
      repeat' first
      | (with_reducible exact ih0 _ _ _ _)
      | (with_reducible exact ih1 _ _ _ _ _ _)
      | (with_reducible exact impl_IsTier.mono _ _)
      | (with_reducible exact impl_those_string_impl_CountGlosses_1.mono _ _ _)
      | (with_reducible exact LeO.refl _)
      | (with_reducible exact LeO.none _)
      | (with_reducible refine LeO.ite ?_ ?_)
      | (with_reducible refine LeO.bind ?_ (fun _ => ?_))
theorem impl_CountGlosses.mono : ∀ a0 k, LeO (impl_CountGlosses.f k a0) (impl_CountGlosses.f (k + 1) a0) := by
  intro a0 k
  obtain ⟨ih0, ih1⟩ := impl_CountGlosses.mono_l k
  unfold impl_CountGlosses.f
  repeat' first
      | (with_reducible exact ih0 _ _ _ _)
      | (with_reducible exact ih1 _ _ _ _ _ _)
      | (with_reducible exact impl_IsTier.mono _ _)
      | (with_reducible exact impl_those_string_impl_CountGlosses_1.mono _ _ _)
      | (with_reducible exact LeO.refl _)
      | (with_reducible exact LeO.none _)
      | (with_reducible refine LeO.ite ?_ ?_)
      | (with_reducible refine LeO.bind ?_ (fun _ => ?_))
noncomputable def impl_CountGlosses.L0 (x5 : List ByteArray) (x15 : List (S50)) (x16 : Int) (x17 : Int) : Option (List ByteArray × List Int × Bool) := lim fun k => impl_CountGlosses.l0 k x5 x15 x16 x17
theorem impl_CountGlosses.L0_lim (x5 : List ByteArray) (x15 : List (S50)) (x16 : Int) (x17 : Int) : Lim (fun k => impl_CountGlosses.l0 k x5 x15 x16 x17) (impl_CountGlosses.L0 x5 x15 x16 x17) := ⟨fun k => (impl_CountGlosses.mono_l k).1 x5 x15 x16 x17, rfl⟩
noncomputable def impl_CountGlosses.L1 (x5 : List ByteArray) (x8 : List ByteArray) (x9 : List Int) (x29 : List ByteArray) (x30 : Int) (x31 : Int) : Option (List ByteArray × List Int × Bool) := lim fun k => impl_CountGlosses.l1 k x5 x8 x9 x29 x30 x31
theorem impl_CountGlosses.L1_lim (x5 : List ByteArray) (x8 : List ByteArray) (x9 : List Int) (x29 : List ByteArray) (x30 : Int) (x31 : Int) : Lim (fun k => impl_CountGlosses.l1 k x5 x8 x9 x29 x30 x31) (impl_CountGlosses.L1 x5 x8 x9 x29 x30 x31) := ⟨fun k => (impl_CountGlosses.mono_l k).2 x5 x8 x9 x29 x30 x31, rfl⟩
noncomputable def impl_CountGlosses.F (l0 : List (S50)) : Option (List ByteArray × List Int × Bool) := lim fun k => impl_CountGlosses.f k l0
theorem impl_CountGlosses.F_lim (l0 : List (S50)) : Lim (fun k => impl_CountGlosses.f k l0) (impl_CountGlosses.F l0) := ⟨impl_CountGlosses.mono l0, rfl⟩
theorem impl_CountGlosses.L0_eq (x5 : List ByteArray) (x15 : List (S50)) (x16 : Int) (x17 : Int) : impl_CountGlosses.L0 x5 x15 x16 x17 = (if x17 < x16 then (if 0 ≤ x17 then (if x17 < (x15.length : Int) then (if x5.length < 8796093022208 then (impl_CountGlosses.L0 (x5 ++ [(rd_T50 x15 x17).f2]) x15 x16 (wrap64 (x17 + 1))) else (none)) else (none)) else (none)) else ((impl_distinct_string.f x5).bind fun t244 => (impl_CountGlosses.L1 x5 t244 ([] : List Int) t244 (t244.length : Int) 0))) := by
  refine Lim.succ_eq (impl_CountGlosses.L0_lim x5 x15 x16 x17).mon ?_
  simp only [impl_CountGlosses.l0]
  repeat' first
  | (with_reducible exact impl_CountGlosses.L0_lim _ _ _ _)
  | (with_reducible exact impl_CountGlosses.L1_lim _ _ _ _ _ _)
  | (with_reducible exact impl_IsTier.F_lim _)
  | (with_reducible exact impl_those_string_impl_CountGlosses_1.F_lim _ _)
  | (with_reducible refine Lim.ite ?_ ?_)
  | (with_reducible refine Lim.bind ?_ (fun _ => ?_))
  | (with_reducible exact Lim.const _)
theorem impl_CountGlosses.L1_eq (x5 : List ByteArray) (x8 : List ByteArray) (x9 : List Int) (x29 : List ByteArray) (x30 : Int) (x31 : Int) : impl_CountGlosses.L1 x5 x8 x9 x29 x30 x31 = (if x31 < x30 then (if 0 ≤ x31 then (if x31 < (x29.length : Int) then ((impl_those_string_impl_CountGlosses_1.F x5 (rdOf ByteArray.empty x29 x31)).bind fun t249 => (if x9.length < 17592186044416 then (impl_CountGlosses.L1 x5 x8 (x9 ++ [(t249.length : Int)]) x29 x30 (wrap64 (x31 + 1))) else (none))) else (none)) else (none)) else (some (x8, x9, true))) := by
  refine Lim.succ_eq (impl_CountGlosses.L1_lim x5 x8 x9 x29 x30 x31).mon ?_
  simp only [impl_CountGlosses.l1]
  repeat' first
  | (with_reducible exact impl_CountGlosses.L0_lim _ _ _ _)
  | (with_reducible exact impl_CountGlosses.L1_lim _ _ _ _ _ _)
  | (with_reducible exact impl_IsTier.F_lim _)
  | (with_reducible exact impl_those_string_impl_CountGlosses_1.F_lim _ _)
  | (with_reducible refine Lim.ite ?_ ?_)
  | (with_reducible refine Lim.bind ?_ (fun _ => ?_))
  | (with_reducible exact Lim.const _)
theorem impl_CountGlosses.F_eq (l0 : List (S50)) : impl_CountGlosses.F l0 = ((impl_IsTier.F l0).bind fun t238 => (if t238 = true then (impl_CountGlosses.L0 ([] : List ByteArray) l0 (l0.length : Int) 0) else (some (([] : List ByteArray), ([] : List Int), false)))) := by
  refine Lim.eq_ ?_
  simp only [impl_CountGlosses.f]
  repeat' first
  | (with_reducible exact impl_CountGlosses.L0_lim _ _ _ _)
  | (with_reducible exact impl_CountGlosses.L1_lim _ _ _ _ _ _)
  | (with_reducible exact impl_IsTier.F_lim _)
  | (with_reducible exact impl_those_string_impl_CountGlosses_1.F_lim _ _)
  | (with_reducible refine Lim.ite ?_ ?_)
  | (with_reducible refine Lim.bind ?_ (fun _ => ?_))
  | (with_reducible exact Lim.const _)
def spec_l1In.f (a0 : Int) (a1 : Int) (a2 : Int) : Option (Bool) := if a0 ≥ a1 then (some (decide (a0 ≤ a2))) else (some false)
def spec_tiFrame.f (a0 : Int) : Option (Bool) := (spec_l1In.f a0 0 99999).bind fun t255 => (some t255)
def spec_fsWord.l0 : Nat → ByteArray → Int → Option (Bool)
  | 0, _, _ => none
  | k + 1, x0, x3 => if x3 < (x0.size : Int) then (if 0 ≤ x3 then (if (bt x0 x3) < 65 then (some false) else (if (bt x0 x3) > 90 then (some false) else (spec_fsWord.l0 k x0 (wrap64 (x3 + 1))))) else (none)) else ((spec_l1In.f (x0.size : Int) 1 8).bind fun t256 => (some t256))
def spec_fsWord.f (k : Nat) (a0 : ByteArray) : Option (Bool) := spec_fsWord.l0 k a0 0
theorem spec_fsWord.mono_l : ∀ k, (∀ y0 y1, LeO (spec_fsWord.l0 k y0 y1) (spec_fsWord.l0 (k + 1) y0 y1))
  | 0 => fun _ _ r h => by simp [spec_fsWord.l0] at h
  | k + 1 => by
    have ih0 := spec_fsWord.mono_l k
    · intro y0 y1
      unfold spec_fsWord.l0
      repeat' first
      | (with_reducible exact ih0 _ _)
      | (with_reducible exact LeO.refl _)
      | (with_reducible exact LeO.none _)
      | (with_reducible refine LeO.ite ?_ ?_)
      | (with_reducible refine LeO.bind ?_ (fun _ => ?_))
theorem spec_fsWord.mono : ∀ a0 k, LeO (spec_fsWord.f k a0) (spec_fsWord.f (k + 1) a0) := by
  intro a0 k
  have ih0 := spec_fsWord.mono_l k
  unfold spec_fsWord.f
  repeat' first
      | (with_reducible exact ih0 _ _)
      | (with_reducible exact LeO.refl _)
      | (with_reducible exact LeO.none _)
      | (with_reducible refine LeO.ite ?_ ?_)
      | (with_reducible refine LeO.bind ?_ (fun _ => ?_))
noncomputable def spec_fsWord.L0 (x0 : ByteArray) (x3 : Int) : Option (Bool) := lim fun k => spec_fsWord.l0 k x0 x3
theorem spec_fsWord.L0_lim (x0 : ByteArray) (x3 : Int) : Lim (fun k => spec_fsWord.l0 k x0 x3) (spec_fsWord.L0 x0 x3) := ⟨fun k => (spec_fsWord.mono_l k) x0 x3, rfl⟩
noncomputable def spec_fsWord.F (a0 : ByteArray) : Option (Bool) := lim fun k => spec_fsWord.f k a0
theorem spec_fsWord.F_lim (a0 : ByteArray) : Lim (fun k => spec_fsWord.f k a0) (spec_fsWord.F a0) := ⟨spec_fsWord.mono a0, rfl⟩
theorem spec_fsWord.L0_eq (x0 : ByteArray) (x3 : Int) : spec_fsWord.L0 x0 x3 = (if x3 < (x0.size : Int) then (if 0 ≤ x3 then (if (bt x0 x3) < 65 then (some false) else (if (bt x0 x3) > 90 then (some false) else (spec_fsWord.L0 x0 (wrap64 (x3 + 1))))) else (none)) else ((spec_l1In.f (x0.size : Int) 1 8).bind fun t256 => (some t256))) := by
  refine Lim.succ_eq (spec_fsWord.L0_lim x0 x3).mon ?_
  simp only [spec_fsWord.l0]
  repeat' first
  | (with_reducible exact spec_fsWord.L0_lim _ _)
  | (with_reducible refine Lim.ite ?_ ?_)
  | (with_reducible refine Lim.bind ?_ (fun _ => ?_))
  | (with_reducible exact Lim.const _)
theorem spec_fsWord.F_eq (a0 : ByteArray) : spec_fsWord.F a0 = (spec_fsWord.L0 a0 0) := by
  refine Lim.eq_ ?_
  simp only [spec_fsWord.f]
  repeat' first
  | (with_reducible exact spec_fsWord.L0_lim _ _)
  | (with_reducible refine Lim.ite ?_ ?_)
  | (with_reducible refine Lim.bind ?_ (fun _ => ?_))
  | (with_reducible exact Lim.const _)
def spec_tiNote.f (k : Nat) (a0_0 : Int) (a0_1 : Int) (a0_2 : ByteArray) : Option (Bool) := (spec_tiFrame.f a0_0).bind fun t258 => (if t258 = true then ((spec_tiFrame.f a0_1).bind fun t259 => (if t259 = true then (if a0_0 < a0_1 then ((spec_fsWord.f k a0_2).bind fun t260 => (some t260)) else (some false)) else (some false))) else (some false))
theorem spec_tiNote.mono : ∀ a0 a1 a2 k, LeO (spec_tiNote.f k a0 a1 a2) (spec_tiNote.f (k + 1) a0 a1 a2) := by
  intro a0 a1 a2 k
  unfold spec_tiNote.f
  repeat' first
      | (with_reducible exact spec_fsWord.mono _ _)
      | (with_reducible exact LeO.refl _)
      | (with_reducible exact LeO.none _)
      | (with_reducible refine LeO.ite ?_ ?_)
      | (with_reducible refine LeO.bind ?_ (fun _ => ?_))
noncomputable def spec_tiNote.F (a0_0 : Int) (a0_1 : Int) (a0_2 : ByteArray) : Option (Bool) := lim fun k => spec_tiNote.f k a0_0 a0_1 a0_2
theorem spec_tiNote.F_lim (a0_0 : Int) (a0_1 : Int) (a0_2 : ByteArray) : Lim (fun k => spec_tiNote.f k a0_0 a0_1 a0_2) (spec_tiNote.F a0_0 a0_1 a0_2) := ⟨spec_tiNote.mono a0_0 a0_1 a0_2, rfl⟩
theorem spec_tiNote.F_eq (a0_0 : Int) (a0_1 : Int) (a0_2 : ByteArray) : spec_tiNote.F a0_0 a0_1 a0_2 = ((spec_tiFrame.f a0_0).bind fun t258 => (if t258 = true then ((spec_tiFrame.f a0_1).bind fun t259 => (if t259 = true then (if a0_0 < a0_1 then ((spec_fsWord.F a0_2).bind fun t260 => (some t260)) else (some false)) else (some false))) else (some false))) := by
  refine Lim.eq_ ?_
  simp only [spec_tiNote.f]
  repeat' first
  | (with_reducible exact spec_fsWord.F_lim _)
  | (with_reducible refine Lim.ite ?_ ?_)
  | (with_reducible refine Lim.bind ?_ (fun _ => ?_))
  | (with_reducible exact Lim.const _)
def spec_tiGood.l0 : Nat → List (S50) → List (S50) → Int → Int → Option (Bool)
  | 0, _, _, _, _ => none
  | k + 1, x0, x5, x6, x7 => if x7 < x6 then (if 0 ≤ x7 then (if x7 < (x5.length : Int) then ((spec_tiNote.f k ((rd_T50 x5 x7).f0) ((rd_T50 x5 x7).f1) ((rd_T50 x5 x7).f2)).bind fun t263 => (if t263 = true then (if x7 > 0 then (if 0 ≤ (wrap64 (x7 - 1)) then (if (wrap64 (x7 - 1)) < (x0.length : Int) then (if ((rd_T50 x0 (wrap64 (x7 - 1))).f1) > ((rd_T50 x5 x7).f0) then (some false) else (spec_tiGood.l0 k x0 x5 x6 (wrap64 (x7 + 1)))) else (none)) else (none)) else (spec_tiGood.l0 k x0 x5 x6 (wrap64 (x7 + 1)))) else (some false))) else (none)) else (none)) else (some (decide ((x0.length : Int) ≤ 40)))
def spec_tiGood.f (k : Nat) (l0 : List (S50)) : Option (Bool) := spec_tiGood.l0 k l0 l0 (l0.length : Int) 0
theorem spec_tiGood.mono_l : ∀ k, (∀ y0 y1 y2 y3, LeO (spec_tiGood.l0 k y0 y1 y2 y3) (spec_tiGood.l0 (k + 1) y0 y1 y2 y3))
  | 0 => fun _ _ _ _ r h => by simp [spec_tiGood.l0] at h
  | k + 1 => by
    have ih0 := spec_tiGood.mono_l k
    · intro y0 y1 y2 y3
      unfold spec_tiGood.l0
      repeat' first
      | (with_reducible exact ih0 _ _ _ _)
      | (with_reducible exact spec_tiNote.mono _ _ _ _)
      | (with_reducible exact LeO.refl _)
      | (with_reducible exact LeO.none _)
      | (with_reducible refine LeO.ite ?_ ?_)
      | (with_reducible refine LeO.bind ?_ (fun _ => ?_))
theorem spec_tiGood.mono : ∀ a0 k, LeO (spec_tiGood.f k a0) (spec_tiGood.f (k + 1) a0) := by
  intro a0 k
  have ih0 := spec_tiGood.mono_l k
  unfold spec_tiGood.f
  repeat' first
      | (with_reducible exact ih0 _ _ _ _)
      | (with_reducible exact spec_tiNote.mono _ _ _ _)
      | (with_reducible exact LeO.refl _)
      | (with_reducible exact LeO.none _)
      | (with_reducible refine LeO.ite ?_ ?_)
      | (with_reducible refine LeO.bind ?_ (fun _ => ?_))
noncomputable def spec_tiGood.L0 (x0 : List (S50)) (x5 : List (S50)) (x6 : Int) (x7 : Int) : Option (Bool) := lim fun k => spec_tiGood.l0 k x0 x5 x6 x7
theorem spec_tiGood.L0_lim (x0 : List (S50)) (x5 : List (S50)) (x6 : Int) (x7 : Int) : Lim (fun k => spec_tiGood.l0 k x0 x5 x6 x7) (spec_tiGood.L0 x0 x5 x6 x7) := ⟨fun k => (spec_tiGood.mono_l k) x0 x5 x6 x7, rfl⟩
noncomputable def spec_tiGood.F (l0 : List (S50)) : Option (Bool) := lim fun k => spec_tiGood.f k l0
theorem spec_tiGood.F_lim (l0 : List (S50)) : Lim (fun k => spec_tiGood.f k l0) (spec_tiGood.F l0) := ⟨spec_tiGood.mono l0, rfl⟩
theorem spec_tiGood.L0_eq (x0 : List (S50)) (x5 : List (S50)) (x6 : Int) (x7 : Int) : spec_tiGood.L0 x0 x5 x6 x7 = (if x7 < x6 then (if 0 ≤ x7 then (if x7 < (x5.length : Int) then ((spec_tiNote.F ((rd_T50 x5 x7).f0) ((rd_T50 x5 x7).f1) ((rd_T50 x5 x7).f2)).bind fun t263 => (if t263 = true then (if x7 > 0 then (if 0 ≤ (wrap64 (x7 - 1)) then (if (wrap64 (x7 - 1)) < (x0.length : Int) then (if ((rd_T50 x0 (wrap64 (x7 - 1))).f1) > ((rd_T50 x5 x7).f0) then (some false) else (spec_tiGood.L0 x0 x5 x6 (wrap64 (x7 + 1)))) else (none)) else (none)) else (spec_tiGood.L0 x0 x5 x6 (wrap64 (x7 + 1)))) else (some false))) else (none)) else (none)) else (some (decide ((x0.length : Int) ≤ 40)))) := by
  refine Lim.succ_eq (spec_tiGood.L0_lim x0 x5 x6 x7).mon ?_
  simp only [spec_tiGood.l0]
  repeat' first
  | (with_reducible exact spec_tiGood.L0_lim _ _ _ _)
  | (with_reducible exact spec_tiNote.F_lim _ _ _)
  | (with_reducible refine Lim.ite ?_ ?_)
  | (with_reducible refine Lim.bind ?_ (fun _ => ?_))
  | (with_reducible exact Lim.const _)
theorem spec_tiGood.F_eq (l0 : List (S50)) : spec_tiGood.F l0 = (spec_tiGood.L0 l0 l0 (l0.length : Int) 0) := by
  refine Lim.eq_ ?_
  simp only [spec_tiGood.f]
  repeat' first
  | (with_reducible exact spec_tiGood.L0_lim _ _ _ _)
  | (with_reducible exact spec_tiNote.F_lim _ _ _)
  | (with_reducible refine Lim.ite ?_ ?_)
  | (with_reducible refine Lim.bind ?_ (fun _ => ?_))
  | (with_reducible exact Lim.const _)
def spec_l1Own.f (l0 : List Int) : Option (List Int) := (some (([] : List Int) : List Int)).bind fun y265 => (if y265.length + l0.length < 17592186044416 then (some (y265 ++ l0)) else (none))
mutual
def spec_CountGlosses.l0 : Nat → List ByteArray → List Int → List (S50) → Int → Int → Option (List ByteArray × List Int × Bool)
  | 0, _, _, _, _, _ => none
  | k + 1, x5, x6, x13, x14, x15 => if x15 < x14 then (if 0 ≤ x15 then (if x15 < (x13.length : Int) then (spec_CountGlosses.l1 k x5 x6 0 x13 x14 x15 ((rd_T50 x13 x15).f0) ((rd_T50 x13 x15).f1) ((rd_T50 x13 x15).f2)) else (none)) else (none)) else (some (x5, x6, true))
def spec_CountGlosses.l1 : Nat → List ByteArray → List Int → Int → List (S50) → Int → Int → Int → Int → ByteArray → Option (List ByteArray × List Int × Bool)
  | 0, _, _, _, _, _, _, _, _, _ => none
  | k + 1, x5, x6, x9, x13, x14, x15, x274000, x274001, x274002 => if x9 < (x5.length : Int) then (if 0 ≤ x9 then (if (Op.bytesLess ((rdOf ByteArray.empty x5 x9).toList) x274002.toList) = true then (spec_CountGlosses.l1 k x5 x6 (wrap64 (x9 + 1)) x13 x14 x15 x274000 x274001 x274002) else (if (rdOf ByteArray.empty x5 x9).toList = x274002.toList then (if x9 < (x6.length : Int) then (spec_CountGlosses.l0 k x5 (x6.set (x9 : Int).toNat (wrap64 ((rd x6 x9) + 1))) x13 x14 (wrap64 (x15 + 1))) else (none)) else ((some (([] : List ByteArray) : List ByteArray)).bind fun y278 => (if x9 ≤ (x5.length : Int) then ((some (x5.take (x9 : Int).toNat : List ByteArray)).bind fun y281 => (if y278.length + y281.length < 8796093022208 then ((some (y278 ++ y281 : List ByteArray)).bind fun y285 => ((some (([x274002] : List ByteArray) : List ByteArray)).bind fun y288 => (if y285.length + y288.length < 8796093022208 then ((some (y285 ++ y288 : List ByteArray)).bind fun y291 => ((some (x5.drop (x9 : Int).toNat : List ByteArray)).bind fun y294 => (if y291.length + y294.length < 8796093022208 then (if x9 ≤ (x6.length : Int) then ((spec_l1Own.f (x6.take (x9 : Int).toNat)).bind fun t305 => ((some (([1] : List Int) : List Int)).bind fun y308 => (if t305.length + y308.length < 17592186044416 then ((some (t305 ++ y308 : List Int)).bind fun y311 => ((some (x6.drop (x9 : Int).toNat : List Int)).bind fun y314 => (if y311.length + y314.length < 17592186044416 then (spec_CountGlosses.l0 k (y291 ++ y294) (y311 ++ y314) x13 x14 (wrap64 (x15 + 1))) else (none)))) else (none)))) else (none)) else (none)))) else (none)))) else (none))) else (none))))) else (none)) else ((some (([] : List ByteArray) : List ByteArray)).bind fun y321 => (if 0 ≤ x9 then (if x9 ≤ (x5.length : Int) then ((some (x5.take (x9 : Int).toNat : List ByteArray)).bind fun y324 => (if y321.length + y324.length < 8796093022208 then ((some (y321 ++ y324 : List ByteArray)).bind fun y328 => ((some (([x274002] : List ByteArray) : List ByteArray)).bind fun y331 => (if y328.length + y331.length < 8796093022208 then ((some (y328 ++ y331 : List ByteArray)).bind fun y334 => ((some (x5.drop (x9 : Int).toNat : List ByteArray)).bind fun y337 => (if y334.length + y337.length < 8796093022208 then (if x9 ≤ (x6.length : Int) then ((spec_l1Own.f (x6.take (x9 : Int).toNat)).bind fun t348 => ((some (([1] : List Int) : List Int)).bind fun y351 => (if t348.length + y351.length < 17592186044416 then ((some (t348 ++ y351 : List Int)).bind fun y354 => ((some (x6.drop (x9 : Int).toNat : List Int)).bind fun y357 => (if y354.length + y357.length < 17592186044416 then (spec_CountGlosses.l0 k (y334 ++ y337) (y354 ++ y357) x13 x14 (wrap64 (x15 + 1))) else (none)))) else (none)))) else (none)) else (none)))) else (none)))) else (none))) else (none)) else (none)))
end
def spec_CountGlosses.f (k : Nat) (l0 : List (S50)) : Option (List ByteArray × List Int × Bool) := (spec_tiGood.f k l0).bind fun t271 => (if t271 = true then (spec_CountGlosses.l0 k ([] : List ByteArray) ([] : List Int) l0 (l0.length : Int) 0) else (some (([] : List ByteArray), ([] : List Int), false)))
theorem spec_CountGlosses.mono_l : ∀ k, (∀ y0 y1 y2 y3 y4, LeO (spec_CountGlosses.l0 k y0 y1 y2 y3 y4) (spec_CountGlosses.l0 (k + 1) y0 y1 y2 y3 y4)) ∧ (∀ y0 y1 y2 y3 y4 y5 y6 y7 y8, LeO (spec_CountGlosses.l1 k y0 y1 y2 y3 y4 y5 y6 y7 y8) (spec_CountGlosses.l1 (k + 1) y0 y1 y2 y3 y4 y5 y6 y7 y8))
  | 0 => ⟨fun _ _ _ _ _ r h => by simp [spec_CountGlosses.l0] at h, fun _ _ _ _ _ _ _ _ _ r h => by simp [spec_CountGlosses.l1] at h⟩
  | k + 1 => by
    obtain ⟨ih0, ih1⟩ := spec_CountGlosses.mono_l k
    refine ⟨?_, ?_⟩
    · intro y0 y1 y2 y3 y4
      unfold spec_CountGlosses.l0
      repeat' first
      | (with_reducible exact ih0 _ _ _ _ _)
      | (with_reducible exact ih1 _ _ _ _ _ _ _ _ _)
      | (with_reducible exact spec_tiGood.mono _ _)
      | (with_reducible exact LeO.refl _)
      | (with_reducible exact LeO.none _)
      | (with_reducible refine LeO.ite ?_ ?_)
      | (with_reducible refine LeO.bind ?_ (fun _ => ?_))
    · intro y0 y1 y2 y3 y4 y5 y6 y7 y8
      unfold spec_CountGlosses.l1
      repeat' first
      | (with_reducible exact ih0 _ _ _ _ _)
      | (with_reducible exact ih1 _ _ _ _ _ _ _ _ _)
      | (with_reducible exact spec_tiGood.mono _ _)
      | (with_reducible exact LeO.refl _)
      | (with_reducible exact LeO.none _)
      | (with_reducible refine LeO.ite ?_ ?_)
      | (with_reducible refine LeO.bind ?_ (fun _ => ?_))
theorem spec_CountGlosses.mono : ∀ a0 k, LeO (spec_CountGlosses.f k a0) (spec_CountGlosses.f (k + 1) a0) := by
  intro a0 k
  obtain ⟨ih0, ih1⟩ := spec_CountGlosses.mono_l k
  unfold spec_CountGlosses.f
  repeat' first
      | (with_reducible exact ih0 _ _ _ _ _)
      | (with_reducible exact ih1 _ _ _ _ _ _ _ _ _)
      | (with_reducible exact spec_tiGood.mono _ _)
      | (with_reducible exact LeO.refl _)
      | (with_reducible exact LeO.none _)
      | (with_reducible refine LeO.ite ?_ ?_)
      | (with_reducible refine LeO.bind ?_ (fun _ => ?_))
noncomputable def spec_CountGlosses.L0 (x5 : List ByteArray) (x6 : List Int) (x13 : List (S50)) (x14 : Int) (x15 : Int) : Option (List ByteArray × List Int × Bool) := lim fun k => spec_CountGlosses.l0 k x5 x6 x13 x14 x15
theorem spec_CountGlosses.L0_lim (x5 : List ByteArray) (x6 : List Int) (x13 : List (S50)) (x14 : Int) (x15 : Int) : Lim (fun k => spec_CountGlosses.l0 k x5 x6 x13 x14 x15) (spec_CountGlosses.L0 x5 x6 x13 x14 x15) := ⟨fun k => (spec_CountGlosses.mono_l k).1 x5 x6 x13 x14 x15, rfl⟩
noncomputable def spec_CountGlosses.L1 (x5 : List ByteArray) (x6 : List Int) (x9 : Int) (x13 : List (S50)) (x14 : Int) (x15 : Int) (x274000 : Int) (x274001 : Int) (x274002 : ByteArray) : Option (List ByteArray × List Int × Bool) := lim fun k => spec_CountGlosses.l1 k x5 x6 x9 x13 x14 x15 x274000 x274001 x274002
theorem spec_CountGlosses.L1_lim (x5 : List ByteArray) (x6 : List Int) (x9 : Int) (x13 : List (S50)) (x14 : Int) (x15 : Int) (x274000 : Int) (x274001 : Int) (x274002 : ByteArray) : Lim (fun k => spec_CountGlosses.l1 k x5 x6 x9 x13 x14 x15 x274000 x274001 x274002) (spec_CountGlosses.L1 x5 x6 x9 x13 x14 x15 x274000 x274001 x274002) := ⟨fun k => (spec_CountGlosses.mono_l k).2 x5 x6 x9 x13 x14 x15 x274000 x274001 x274002, rfl⟩
noncomputable def spec_CountGlosses.F (l0 : List (S50)) : Option (List ByteArray × List Int × Bool) := lim fun k => spec_CountGlosses.f k l0
theorem spec_CountGlosses.F_lim (l0 : List (S50)) : Lim (fun k => spec_CountGlosses.f k l0) (spec_CountGlosses.F l0) := ⟨spec_CountGlosses.mono l0, rfl⟩
theorem spec_CountGlosses.L0_eq (x5 : List ByteArray) (x6 : List Int) (x13 : List (S50)) (x14 : Int) (x15 : Int) : spec_CountGlosses.L0 x5 x6 x13 x14 x15 = (if x15 < x14 then (if 0 ≤ x15 then (if x15 < (x13.length : Int) then (spec_CountGlosses.L1 x5 x6 0 x13 x14 x15 ((rd_T50 x13 x15).f0) ((rd_T50 x13 x15).f1) ((rd_T50 x13 x15).f2)) else (none)) else (none)) else (some (x5, x6, true))) := by
  refine Lim.succ_eq (spec_CountGlosses.L0_lim x5 x6 x13 x14 x15).mon ?_
  simp only [spec_CountGlosses.l0]
  repeat' first
  | (with_reducible exact spec_CountGlosses.L0_lim _ _ _ _ _)
  | (with_reducible exact spec_CountGlosses.L1_lim _ _ _ _ _ _ _ _ _)
  | (with_reducible exact spec_tiGood.F_lim _)
  | (with_reducible refine Lim.ite ?_ ?_)
  | (with_reducible refine Lim.bind ?_ (fun _ => ?_))
  | (with_reducible exact Lim.const _)
theorem spec_CountGlosses.L1_eq (x5 : List ByteArray) (x6 : List Int) (x9 : Int) (x13 : List (S50)) (x14 : Int) (x15 : Int) (x274000 : Int) (x274001 : Int) (x274002 : ByteArray) : spec_CountGlosses.L1 x5 x6 x9 x13 x14 x15 x274000 x274001 x274002 = (if x9 < (x5.length : Int) then (if 0 ≤ x9 then (if (Op.bytesLess ((rdOf ByteArray.empty x5 x9).toList) x274002.toList) = true then (spec_CountGlosses.L1 x5 x6 (wrap64 (x9 + 1)) x13 x14 x15 x274000 x274001 x274002) else (if (rdOf ByteArray.empty x5 x9).toList = x274002.toList then (if x9 < (x6.length : Int) then (spec_CountGlosses.L0 x5 (x6.set (x9 : Int).toNat (wrap64 ((rd x6 x9) + 1))) x13 x14 (wrap64 (x15 + 1))) else (none)) else ((some (([] : List ByteArray) : List ByteArray)).bind fun y278 => (if x9 ≤ (x5.length : Int) then ((some (x5.take (x9 : Int).toNat : List ByteArray)).bind fun y281 => (if y278.length + y281.length < 8796093022208 then ((some (y278 ++ y281 : List ByteArray)).bind fun y285 => ((some (([x274002] : List ByteArray) : List ByteArray)).bind fun y288 => (if y285.length + y288.length < 8796093022208 then ((some (y285 ++ y288 : List ByteArray)).bind fun y291 => ((some (x5.drop (x9 : Int).toNat : List ByteArray)).bind fun y294 => (if y291.length + y294.length < 8796093022208 then (if x9 ≤ (x6.length : Int) then ((spec_l1Own.f (x6.take (x9 : Int).toNat)).bind fun t305 => ((some (([1] : List Int) : List Int)).bind fun y308 => (if t305.length + y308.length < 17592186044416 then ((some (t305 ++ y308 : List Int)).bind fun y311 => ((some (x6.drop (x9 : Int).toNat : List Int)).bind fun y314 => (if y311.length + y314.length < 17592186044416 then (spec_CountGlosses.L0 (y291 ++ y294) (y311 ++ y314) x13 x14 (wrap64 (x15 + 1))) else (none)))) else (none)))) else (none)) else (none)))) else (none)))) else (none))) else (none))))) else (none)) else ((some (([] : List ByteArray) : List ByteArray)).bind fun y321 => (if 0 ≤ x9 then (if x9 ≤ (x5.length : Int) then ((some (x5.take (x9 : Int).toNat : List ByteArray)).bind fun y324 => (if y321.length + y324.length < 8796093022208 then ((some (y321 ++ y324 : List ByteArray)).bind fun y328 => ((some (([x274002] : List ByteArray) : List ByteArray)).bind fun y331 => (if y328.length + y331.length < 8796093022208 then ((some (y328 ++ y331 : List ByteArray)).bind fun y334 => ((some (x5.drop (x9 : Int).toNat : List ByteArray)).bind fun y337 => (if y334.length + y337.length < 8796093022208 then (if x9 ≤ (x6.length : Int) then ((spec_l1Own.f (x6.take (x9 : Int).toNat)).bind fun t348 => ((some (([1] : List Int) : List Int)).bind fun y351 => (if t348.length + y351.length < 17592186044416 then ((some (t348 ++ y351 : List Int)).bind fun y354 => ((some (x6.drop (x9 : Int).toNat : List Int)).bind fun y357 => (if y354.length + y357.length < 17592186044416 then (spec_CountGlosses.L0 (y334 ++ y337) (y354 ++ y357) x13 x14 (wrap64 (x15 + 1))) else (none)))) else (none)))) else (none)) else (none)))) else (none)))) else (none))) else (none)) else (none)))) := by
  refine Lim.succ_eq (spec_CountGlosses.L1_lim x5 x6 x9 x13 x14 x15 x274000 x274001 x274002).mon ?_
  simp only [spec_CountGlosses.l1]
  repeat' first
  | (with_reducible exact spec_CountGlosses.L0_lim _ _ _ _ _)
  | (with_reducible exact spec_CountGlosses.L1_lim _ _ _ _ _ _ _ _ _)
  | (with_reducible exact spec_tiGood.F_lim _)
  | (with_reducible refine Lim.ite ?_ ?_)
  | (with_reducible refine Lim.bind ?_ (fun _ => ?_))
  | (with_reducible exact Lim.const _)
theorem spec_CountGlosses.F_eq (l0 : List (S50)) : spec_CountGlosses.F l0 = ((spec_tiGood.F l0).bind fun t271 => (if t271 = true then (spec_CountGlosses.L0 ([] : List ByteArray) ([] : List Int) l0 (l0.length : Int) 0) else (some (([] : List ByteArray), ([] : List Int), false)))) := by
  refine Lim.eq_ ?_
  simp only [spec_CountGlosses.f]
  repeat' first
  | (with_reducible exact spec_CountGlosses.L0_lim _ _ _ _ _)
  | (with_reducible exact spec_CountGlosses.L1_lim _ _ _ _ _ _ _ _ _)
  | (with_reducible exact spec_tiGood.F_lim _)
  | (with_reducible refine Lim.ite ?_ ?_)
  | (with_reducible refine Lim.bind ?_ (fun _ => ?_))
  | (with_reducible exact Lim.const _)
def spec_l1Cur_glossPattern.f (s0_0 : List Int) (s0_1 : Int) (s0_2 : Int) : Option (ByteArray × Int × Int) := (spec_l1Cur_of.f s0_0 s0_1 s0_2 (([(⟨#[69, 73, 71, 72, 84, 76, 69, 84]⟩ : ByteArray), (⟨#[78, 73, 78, 69, 76, 69, 84, 84, 82]⟩ : ByteArray), (⟨#[]⟩ : ByteArray), (⟨#[103, 111]⟩ : ByteArray), (⟨#[42, 63, 42]⟩ : ByteArray)] : List ByteArray))).bind fun bt367 => ((spec_l1Cur_of.f s0_0 bt367.2.1 bt367.2.2 (([(⟨#[42]⟩ : ByteArray), (⟨#[71, 79]⟩ : ByteArray), (⟨#[71, 42]⟩ : ByteArray), (⟨#[63, 79]⟩ : ByteArray), (⟨#[42, 79, 42]⟩ : ByteArray), (⟨#[72, 79, 85, 83, 69]⟩ : ByteArray), (⟨#[73]⟩ : ByteArray), (⟨#[63, 63, 63, 63]⟩ : ByteArray), (⟨#[89, 42, 85]⟩ : ByteArray), (⟨#[66, 63, 79, 75]⟩ : ByteArray), bt367.1] : List ByteArray))).bind fun bt373 => (some (bt373.1, bt373.2.1, bt373.2.2)))
def spec_l1Cur_frame.f (s0_0 : List Int) (s0_1 : Int) (s0_2 : Int) : Option (Int × Int × Int) := (spec_l1Cur_pick.f s0_0 s0_1 s0_2 60).bind fun bt376 => ((spec_l1Cur_among.f s0_0 bt376.2.1 bt376.2.2 (([15, (-1), 100000] : List Int))).bind fun bt382 => ((spec_l1Cur_among.f s0_0 bt382.2.1 bt382.2.2 (([0, 5, 10, 12, bt376.1, 99999, bt382.1] : List Int))).bind fun bt388 => (some (bt388.1, bt388.2.1, bt388.2.2))))
def spec_DrawNearestLike.f (k : Nat) (l0 : List Int) : Option ((List (S50)) × ByteArray × Int) := (spec_l1Cur_tier.f k l0 0 0).bind fun bt392 => ((spec_l1Cur_glossPattern.f l0 bt392.2.1 bt392.2.2).bind fun bt397 => ((spec_l1Cur_frame.f l0 bt397.2.1 bt397.2.2).bind fun bt400 => (some (bt392.1, bt397.1, bt400.1))))
theorem spec_DrawNearestLike.mono : ∀ a0 k, LeO (spec_DrawNearestLike.f k a0) (spec_DrawNearestLike.f (k + 1) a0) := by
  intro a0 k
  unfold spec_DrawNearestLike.f
  repeat' first
      | (with_reducible exact spec_l1Cur_tier.mono _ _ _ _)
      | (with_reducible exact LeO.refl _)
      | (with_reducible exact LeO.none _)
      | (with_reducible refine LeO.ite ?_ ?_)
      | (with_reducible refine LeO.bind ?_ (fun _ => ?_))
noncomputable def spec_DrawNearestLike.F (l0 : List Int) : Option ((List (S50)) × ByteArray × Int) := lim fun k => spec_DrawNearestLike.f k l0
theorem spec_DrawNearestLike.F_lim (l0 : List Int) : Lim (fun k => spec_DrawNearestLike.f k l0) (spec_DrawNearestLike.F l0) := ⟨spec_DrawNearestLike.mono l0, rfl⟩
theorem spec_DrawNearestLike.F_eq (l0 : List Int) : spec_DrawNearestLike.F l0 = ((spec_l1Cur_tier.F l0 0 0).bind fun bt392 => ((spec_l1Cur_glossPattern.f l0 bt392.2.1 bt392.2.2).bind fun bt397 => ((spec_l1Cur_frame.f l0 bt397.2.1 bt397.2.2).bind fun bt400 => (some (bt392.1, bt397.1, bt400.1))))) := by
  refine Lim.eq_ ?_
  simp only [spec_DrawNearestLike.f]
  repeat' first
  | (with_reducible exact spec_l1Cur_tier.F_lim _ _ _)
  | (with_reducible refine Lim.ite ?_ ?_)
  | (with_reducible refine Lim.bind ?_ (fun _ => ?_))
  | (with_reducible exact Lim.const _)
def impl_isGlossPattern.f (k : Nat) (a0 : ByteArray) : Option (Bool) := (impl_isWordOf.f k a0 (⟨#[65, 66, 67, 68, 69, 70, 71, 72, 73, 74, 75, 76, 77, 78, 79, 80, 81, 82, 83, 84, 85, 86, 87, 88, 89, 90, 63, 42]⟩ : ByteArray)).bind fun t403 => (some t403)
theorem impl_isGlossPattern.mono : ∀ a0 k, LeO (impl_isGlossPattern.f k a0) (impl_isGlossPattern.f (k + 1) a0) := by
  intro a0 k
  unfold impl_isGlossPattern.f
  repeat' first
      | (with_reducible exact impl_isWordOf.mono _ _ _)
      | (with_reducible exact LeO.refl _)
      | (with_reducible exact LeO.none _)
      | (with_reducible refine LeO.ite ?_ ?_)
      | (with_reducible refine LeO.bind ?_ (fun _ => ?_))
noncomputable def impl_isGlossPattern.F (a0 : ByteArray) : Option (Bool) := lim fun k => impl_isGlossPattern.f k a0
theorem impl_isGlossPattern.F_lim (a0 : ByteArray) : Lim (fun k => impl_isGlossPattern.f k a0) (impl_isGlossPattern.F a0) := ⟨impl_isGlossPattern.mono a0, rfl⟩
theorem impl_isGlossPattern.F_eq (a0 : ByteArray) : impl_isGlossPattern.F a0 = ((impl_isWordOf.F a0 (⟨#[65, 66, 67, 68, 69, 70, 71, 72, 73, 74, 75, 76, 77, 78, 79, 80, 81, 82, 83, 84, 85, 86, 87, 88, 89, 90, 63, 42]⟩ : ByteArray)).bind fun t403 => (some t403)) := by
  refine Lim.eq_ ?_
  simp only [impl_isGlossPattern.f]
  repeat' first
  | (with_reducible exact impl_isWordOf.F_lim _ _)
  | (with_reducible refine Lim.ite ?_ ?_)
  | (with_reducible refine Lim.bind ?_ (fun _ => ?_))
  | (with_reducible exact Lim.const _)
mutual
def impl_fits.l0 : Nat → ByteArray → ByteArray → List Bool → Int → Int → Option (Bool)
  | 0, _, _, _, _, _ => none
  | k + 1, x0, x1, x5, x20, x21 => if x21 < x20 then (if 0 ≤ (x5.length : Int) then (if ((x5.length : Int) : Int).toNat ≤ 281474976710656 then (impl_fits.l1 k x0 x1 x5 x21 (List.replicate ((x5.length : Int) : Int).toNat false) x20 x21 (x5.length : Int) 0) else (none)) else (none)) else (if 0 ≤ (x1.size : Int) then (if (x1.size : Int) < (x5.length : Int) then (some (rdOf false x5 (x1.size : Int))) else (none)) else (none))
def impl_fits.l1 : Nat → ByteArray → ByteArray → List Bool → Int → List Bool → Int → Int → Int → Int → Option (Bool)
  | 0, _, _, _, _, _, _, _, _, _ => none
  | k + 1, x0, x1, x5, x6, x7, x20, x21, x28, x29 => if x29 < x28 then (if 0 ≤ x6 then (if x6 < (x0.size : Int) then (if (bt x0 x6) = 42 then (if 0 ≤ x29 then (if x29 < (x5.length : Int) then (if rdOf false x5 x29 = true then (if x29 < (x7.length : Int) then (impl_fits.l1 k x0 x1 x5 x6 (x7.set (x29 : Int).toNat true) x20 x21 x28 (wrap64 (x29 + 1))) else (none)) else (if x29 > 0 then (if 0 ≤ (wrap64 (x29 - 1)) then (if (wrap64 (x29 - 1)) < (x7.length : Int) then (if x29 < (x7.length : Int) then (impl_fits.l1 k x0 x1 x5 x6 (x7.set (x29 : Int).toNat (rdOf false x7 (wrap64 (x29 - 1)))) x20 x21 x28 (wrap64 (x29 + 1))) else (none)) else (none)) else (none)) else (if x29 < (x7.length : Int) then (impl_fits.l1 k x0 x1 x5 x6 (x7.set (x29 : Int).toNat false) x20 x21 x28 (wrap64 (x29 + 1))) else (none)))) else (none)) else (none)) else (if x29 > 0 then (if 0 ≤ (wrap64 (x29 - 1)) then (if (wrap64 (x29 - 1)) < (x5.length : Int) then (if rdOf false x5 (wrap64 (x29 - 1)) = true then (if (bt x0 x6) = 63 then (if 0 ≤ x29 then (if x29 < (x7.length : Int) then (impl_fits.l1 k x0 x1 x5 x6 (x7.set (x29 : Int).toNat true) x20 x21 x28 (wrap64 (x29 + 1))) else (none)) else (none)) else (if (wrap64 (x29 - 1)) < (x1.size : Int) then (if 0 ≤ x29 then (if x29 < (x7.length : Int) then (impl_fits.l1 k x0 x1 x5 x6 (x7.set (x29 : Int).toNat ((bt x0 x6) == (bt x1 (wrap64 (x29 - 1))))) x20 x21 x28 (wrap64 (x29 + 1))) else (none)) else (none)) else (none))) else (if 0 ≤ x29 then (if x29 < (x7.length : Int) then (impl_fits.l1 k x0 x1 x5 x6 (x7.set (x29 : Int).toNat false) x20 x21 x28 (wrap64 (x29 + 1))) else (none)) else (none))) else (none)) else (none)) else (if 0 ≤ x29 then (if x29 < (x7.length : Int) then (impl_fits.l1 k x0 x1 x5 x6 (x7.set (x29 : Int).toNat false) x20 x21 x28 (wrap64 (x29 + 1))) else (none)) else (none)))) else (none)) else (none)) else (impl_fits.l0 k x0 x1 x7 x20 (wrap64 (x21 + 1)))
end
def impl_fits.f (k : Nat) (a0 : ByteArray) (a1 : ByteArray) : Option (Bool) := if a0.toList = ([] : List UInt8) then (some (a1.toList == ([] : List UInt8))) else (if 0 ≤ (wrap64 ((a1.size : Int) + 1)) then (if (wrap64 ((a1.size : Int) + 1) : Int).toNat ≤ 281474976710656 then ((some (List.replicate (wrap64 ((a1.size : Int) + 1) : Int).toNat false : List Bool)).bind fun y404 => (if 0 < (y404.length : Int) then (impl_fits.l0 k a0 a1 (y404.set (0 : Int).toNat true) (a0.size : Int) 0) else (none))) else (none)) else (none))
theorem impl_fits.mono_l : ∀ k, (∀ y0 y1 y2 y3 y4, LeO (impl_fits.l0 k y0 y1 y2 y3 y4) (impl_fits.l0 (k + 1) y0 y1 y2 y3 y4)) ∧ (∀ y0 y1 y2 y3 y4 y5 y6 y7 y8, LeO (impl_fits.l1 k y0 y1 y2 y3 y4 y5 y6 y7 y8) (impl_fits.l1 (k + 1) y0 y1 y2 y3 y4 y5 y6 y7 y8))
  | 0 => ⟨fun _ _ _ _ _ r h => by simp [impl_fits.l0] at h, fun _ _ _ _ _ _ _ _ _ r h => by simp [impl_fits.l1] at h⟩
  | k + 1 => by
    obtain ⟨ih0, ih1⟩ := impl_fits.mono_l k
    refine ⟨?_, ?_⟩
    · intro y0 y1 y2 y3 y4
      unfold impl_fits.l0
      repeat' first
      | (with_reducible exact ih0 _ _ _ _ _)
      | (with_reducible exact ih1 _ _ _ _ _ _ _ _ _)
      | (with_reducible exact LeO.refl _)
      | (with_reducible exact LeO.none _)
      | (with_reducible refine LeO.ite ?_ ?_)
      | (with_reducible refine LeO.bind ?_ (fun _ => ?_))
    · intro y0 y1 y2 y3 y4 y5 y6 y7 y8
      unfold impl_fits.l1
      repeat' first
      | (with_reducible exact ih0 _ _ _ _ _)
      | (with_reducible exact ih1 _ _ _ _ _ _ _ _ _)
      | (with_reducible exact LeO.refl _)
      | (with_reducible exact LeO.none _)
      | (with_reducible refine LeO.ite ?_ ?_)
      | (with_reducible refine LeO.bind ?_ (fun _ => ?_))
theorem impl_fits.mono : ∀ a0 a1 k, LeO (impl_fits.f k a0 a1) (impl_fits.f (k + 1) a0 a1) := by
  intro a0 a1 k
  obtain ⟨ih0, ih1⟩ := impl_fits.mono_l k
  unfold impl_fits.f
  repeat' first
      | (with_reducible exact ih0 _ _ _ _ _)
      | (with_reducible exact ih1 _ _ _ _ _ _ _ _ _)
      | (with_reducible exact LeO.refl _)
      | (with_reducible exact LeO.none _)
      | (with_reducible refine LeO.ite ?_ ?_)
      | (with_reducible refine LeO.bind ?_ (fun _ => ?_))
noncomputable def impl_fits.L0 (x0 : ByteArray) (x1 : ByteArray) (x5 : List Bool) (x20 : Int) (x21 : Int) : Option (Bool) := lim fun k => impl_fits.l0 k x0 x1 x5 x20 x21
theorem impl_fits.L0_lim (x0 : ByteArray) (x1 : ByteArray) (x5 : List Bool) (x20 : Int) (x21 : Int) : Lim (fun k => impl_fits.l0 k x0 x1 x5 x20 x21) (impl_fits.L0 x0 x1 x5 x20 x21) := ⟨fun k => (impl_fits.mono_l k).1 x0 x1 x5 x20 x21, rfl⟩
noncomputable def impl_fits.L1 (x0 : ByteArray) (x1 : ByteArray) (x5 : List Bool) (x6 : Int) (x7 : List Bool) (x20 : Int) (x21 : Int) (x28 : Int) (x29 : Int) : Option (Bool) := lim fun k => impl_fits.l1 k x0 x1 x5 x6 x7 x20 x21 x28 x29
theorem impl_fits.L1_lim (x0 : ByteArray) (x1 : ByteArray) (x5 : List Bool) (x6 : Int) (x7 : List Bool) (x20 : Int) (x21 : Int) (x28 : Int) (x29 : Int) : Lim (fun k => impl_fits.l1 k x0 x1 x5 x6 x7 x20 x21 x28 x29) (impl_fits.L1 x0 x1 x5 x6 x7 x20 x21 x28 x29) := ⟨fun k => (impl_fits.mono_l k).2 x0 x1 x5 x6 x7 x20 x21 x28 x29, rfl⟩
noncomputable def impl_fits.F (a0 : ByteArray) (a1 : ByteArray) : Option (Bool) := lim fun k => impl_fits.f k a0 a1
theorem impl_fits.F_lim (a0 : ByteArray) (a1 : ByteArray) : Lim (fun k => impl_fits.f k a0 a1) (impl_fits.F a0 a1) := ⟨impl_fits.mono a0 a1, rfl⟩
theorem impl_fits.L0_eq (x0 : ByteArray) (x1 : ByteArray) (x5 : List Bool) (x20 : Int) (x21 : Int) : impl_fits.L0 x0 x1 x5 x20 x21 = (if x21 < x20 then (if 0 ≤ (x5.length : Int) then (if ((x5.length : Int) : Int).toNat ≤ 281474976710656 then (impl_fits.L1 x0 x1 x5 x21 (List.replicate ((x5.length : Int) : Int).toNat false) x20 x21 (x5.length : Int) 0) else (none)) else (none)) else (if 0 ≤ (x1.size : Int) then (if (x1.size : Int) < (x5.length : Int) then (some (rdOf false x5 (x1.size : Int))) else (none)) else (none))) := by
  refine Lim.succ_eq (impl_fits.L0_lim x0 x1 x5 x20 x21).mon ?_
  simp only [impl_fits.l0]
  repeat' first
  | (with_reducible exact impl_fits.L0_lim _ _ _ _ _)
  | (with_reducible exact impl_fits.L1_lim _ _ _ _ _ _ _ _ _)
  | (with_reducible refine Lim.ite ?_ ?_)
  | (with_reducible refine Lim.bind ?_ (fun _ => ?_))
  | (with_reducible exact Lim.const _)
theorem impl_fits.L1_eq (x0 : ByteArray) (x1 : ByteArray) (x5 : List Bool) (x6 : Int) (x7 : List Bool) (x20 : Int) (x21 : Int) (x28 : Int) (x29 : Int) : impl_fits.L1 x0 x1 x5 x6 x7 x20 x21 x28 x29 = (if x29 < x28 then (if 0 ≤ x6 then (if x6 < (x0.size : Int) then (if (bt x0 x6) = 42 then (if 0 ≤ x29 then (if x29 < (x5.length : Int) then (if rdOf false x5 x29 = true then (if x29 < (x7.length : Int) then (impl_fits.L1 x0 x1 x5 x6 (x7.set (x29 : Int).toNat true) x20 x21 x28 (wrap64 (x29 + 1))) else (none)) else (if x29 > 0 then (if 0 ≤ (wrap64 (x29 - 1)) then (if (wrap64 (x29 - 1)) < (x7.length : Int) then (if x29 < (x7.length : Int) then (impl_fits.L1 x0 x1 x5 x6 (x7.set (x29 : Int).toNat (rdOf false x7 (wrap64 (x29 - 1)))) x20 x21 x28 (wrap64 (x29 + 1))) else (none)) else (none)) else (none)) else (if x29 < (x7.length : Int) then (impl_fits.L1 x0 x1 x5 x6 (x7.set (x29 : Int).toNat false) x20 x21 x28 (wrap64 (x29 + 1))) else (none)))) else (none)) else (none)) else (if x29 > 0 then (if 0 ≤ (wrap64 (x29 - 1)) then (if (wrap64 (x29 - 1)) < (x5.length : Int) then (if rdOf false x5 (wrap64 (x29 - 1)) = true then (if (bt x0 x6) = 63 then (if 0 ≤ x29 then (if x29 < (x7.length : Int) then (impl_fits.L1 x0 x1 x5 x6 (x7.set (x29 : Int).toNat true) x20 x21 x28 (wrap64 (x29 + 1))) else (none)) else (none)) else (if (wrap64 (x29 - 1)) < (x1.size : Int) then (if 0 ≤ x29 then (if x29 < (x7.length : Int) then (impl_fits.L1 x0 x1 x5 x6 (x7.set (x29 : Int).toNat ((bt x0 x6) == (bt x1 (wrap64 (x29 - 1))))) x20 x21 x28 (wrap64 (x29 + 1))) else (none)) else (none)) else (none))) else (if 0 ≤ x29 then (if x29 < (x7.length : Int) then (impl_fits.L1 x0 x1 x5 x6 (x7.set (x29 : Int).toNat false) x20 x21 x28 (wrap64 (x29 + 1))) else (none)) else (none))) else (none)) else (none)) else (if 0 ≤ x29 then (if x29 < (x7.length : Int) then (impl_fits.L1 x0 x1 x5 x6 (x7.set (x29 : Int).toNat false) x20 x21 x28 (wrap64 (x29 + 1))) else (none)) else (none)))) else (none)) else (none)) else (impl_fits.L0 x0 x1 x7 x20 (wrap64 (x21 + 1)))) := by
  refine Lim.succ_eq (impl_fits.L1_lim x0 x1 x5 x6 x7 x20 x21 x28 x29).mon ?_
  simp only [impl_fits.l1]
  repeat' first
  | (with_reducible exact impl_fits.L0_lim _ _ _ _ _)
  | (with_reducible exact impl_fits.L1_lim _ _ _ _ _ _ _ _ _)
  | (with_reducible refine Lim.ite ?_ ?_)
  | (with_reducible refine Lim.bind ?_ (fun _ => ?_))
  | (with_reducible exact Lim.const _)
theorem impl_fits.F_eq (a0 : ByteArray) (a1 : ByteArray) : impl_fits.F a0 a1 = (if a0.toList = ([] : List UInt8) then (some (a1.toList == ([] : List UInt8))) else (if 0 ≤ (wrap64 ((a1.size : Int) + 1)) then (if (wrap64 ((a1.size : Int) + 1) : Int).toNat ≤ 281474976710656 then ((some (List.replicate (wrap64 ((a1.size : Int) + 1) : Int).toNat false : List Bool)).bind fun y404 => (if 0 < (y404.length : Int) then (impl_fits.L0 a0 a1 (y404.set (0 : Int).toNat true) (a0.size : Int) 0) else (none))) else (none)) else (none))) := by
  refine Lim.eq_ ?_
  simp only [impl_fits.f]
  repeat' first
  | (with_reducible exact impl_fits.L0_lim _ _ _ _ _)
  | (with_reducible exact impl_fits.L1_lim _ _ _ _ _ _ _ _ _)
  | (with_reducible refine Lim.ite ?_ ?_)
  | (with_reducible refine Lim.bind ?_ (fun _ => ?_))
  | (with_reducible exact Lim.const _)
def impl_NearestLike_1.f (k : Nat) (a0_0 : Int) (a0_1 : Int) (a0_2 : ByteArray) (a1_0 : ByteArray) : Option (Bool) := (impl_fits.f k a1_0 a0_2).bind fun t423 => (some t423)
theorem impl_NearestLike_1.mono : ∀ a0 a1 a2 a3 k, LeO (impl_NearestLike_1.f k a0 a1 a2 a3) (impl_NearestLike_1.f (k + 1) a0 a1 a2 a3) := by
  intro a0 a1 a2 a3 k
  unfold impl_NearestLike_1.f
  repeat' first
      | (with_reducible exact impl_fits.mono _ _ _)
      | (with_reducible exact LeO.refl _)
      | (with_reducible exact LeO.none _)
      | (with_reducible refine LeO.ite ?_ ?_)
      | (with_reducible refine LeO.bind ?_ (fun _ => ?_))
noncomputable def impl_NearestLike_1.F (a0_0 : Int) (a0_1 : Int) (a0_2 : ByteArray) (a1_0 : ByteArray) : Option (Bool) := lim fun k => impl_NearestLike_1.f k a0_0 a0_1 a0_2 a1_0
theorem impl_NearestLike_1.F_lim (a0_0 : Int) (a0_1 : Int) (a0_2 : ByteArray) (a1_0 : ByteArray) : Lim (fun k => impl_NearestLike_1.f k a0_0 a0_1 a0_2 a1_0) (impl_NearestLike_1.F a0_0 a0_1 a0_2 a1_0) := ⟨impl_NearestLike_1.mono a0_0 a0_1 a0_2 a1_0, rfl⟩
theorem impl_NearestLike_1.F_eq (a0_0 : Int) (a0_1 : Int) (a0_2 : ByteArray) (a1_0 : ByteArray) : impl_NearestLike_1.F a0_0 a0_1 a0_2 a1_0 = ((impl_fits.F a1_0 a0_2).bind fun t423 => (some t423)) := by
  refine Lim.eq_ ?_
  simp only [impl_NearestLike_1.f]
  repeat' first
  | (with_reducible exact impl_fits.F_lim _ _)
  | (with_reducible refine Lim.ite ?_ ?_)
  | (with_reducible refine Lim.bind ?_ (fun _ => ?_))
  | (with_reducible exact Lim.const _)
def impl_those_Note_impl_NearestLike_1.l0 : Nat → List Int → List (S50) → Int → Int → ByteArray → Option (List Int)
  | 0, _, _, _, _, _ => none
  | k + 1, x5, x8, x9, x10, x39000 => if x10 < x9 then (if 0 ≤ x10 then (if x10 < (x8.length : Int) then ((impl_NearestLike_1.f k ((rd_T50 x8 x10).f0) ((rd_T50 x8 x10).f1) ((rd_T50 x8 x10).f2) x39000).bind fun t426 => (if t426 = true then (if x5.length < 17592186044416 then (impl_those_Note_impl_NearestLike_1.l0 k (x5 ++ [x10]) x8 x9 (wrap64 (x10 + 1)) x39000) else (none)) else (impl_those_Note_impl_NearestLike_1.l0 k x5 x8 x9 (wrap64 (x10 + 1)) x39000))) else (none)) else (none)) else (some x5)
def impl_those_Note_impl_NearestLike_1.f (k : Nat) (l0 : List (S50)) (a1_0 : ByteArray) : Option (List Int) := impl_those_Note_impl_NearestLike_1.l0 k ([] : List Int) l0 (l0.length : Int) 0 a1_0
theorem impl_those_Note_impl_NearestLike_1.mono_l : ∀ k, (∀ y0 y1 y2 y3 y4, LeO (impl_those_Note_impl_NearestLike_1.l0 k y0 y1 y2 y3 y4) (impl_those_Note_impl_NearestLike_1.l0 (k + 1) y0 y1 y2 y3 y4))
  | 0 => fun _ _ _ _ _ r h => by simp [impl_those_Note_impl_NearestLike_1.l0] at h
  | k + 1 => by
    have ih0 := impl_those_Note_impl_NearestLike_1.mono_l k
    · intro y0 y1 y2 y3 y4
      unfold impl_those_Note_impl_NearestLike_1.l0
      repeat' first
      | (with_reducible exact ih0 _ _ _ _ _)
      | (with_reducible exact impl_NearestLike_1.mono _ _ _ _ _)
      | (with_reducible exact LeO.refl _)
      | (with_reducible exact LeO.none _)
      | (with_reducible refine LeO.ite ?_ ?_)
      | (with_reducible refine LeO.bind ?_ (fun _ => ?_))
theorem impl_those_Note_impl_NearestLike_1.mono : ∀ a0 a1 k, LeO (impl_those_Note_impl_NearestLike_1.f k a0 a1) (impl_those_Note_impl_NearestLike_1.f (k + 1) a0 a1) := by
  intro a0 a1 k
  have ih0 := impl_those_Note_impl_NearestLike_1.mono_l k
  unfold impl_those_Note_impl_NearestLike_1.f
  repeat' first
      | (with_reducible exact ih0 _ _ _ _ _)
      | (with_reducible exact impl_NearestLike_1.mono _ _ _ _ _)
      | (with_reducible exact LeO.refl _)
      | (with_reducible exact LeO.none _)
      | (with_reducible refine LeO.ite ?_ ?_)
      | (with_reducible refine LeO.bind ?_ (fun _ => ?_))
noncomputable def impl_those_Note_impl_NearestLike_1.L0 (x5 : List Int) (x8 : List (S50)) (x9 : Int) (x10 : Int) (x39000 : ByteArray) : Option (List Int) := lim fun k => impl_those_Note_impl_NearestLike_1.l0 k x5 x8 x9 x10 x39000
theorem impl_those_Note_impl_NearestLike_1.L0_lim (x5 : List Int) (x8 : List (S50)) (x9 : Int) (x10 : Int) (x39000 : ByteArray) : Lim (fun k => impl_those_Note_impl_NearestLike_1.l0 k x5 x8 x9 x10 x39000) (impl_those_Note_impl_NearestLike_1.L0 x5 x8 x9 x10 x39000) := ⟨fun k => (impl_those_Note_impl_NearestLike_1.mono_l k) x5 x8 x9 x10 x39000, rfl⟩
noncomputable def impl_those_Note_impl_NearestLike_1.F (l0 : List (S50)) (a1_0 : ByteArray) : Option (List Int) := lim fun k => impl_those_Note_impl_NearestLike_1.f k l0 a1_0
theorem impl_those_Note_impl_NearestLike_1.F_lim (l0 : List (S50)) (a1_0 : ByteArray) : Lim (fun k => impl_those_Note_impl_NearestLike_1.f k l0 a1_0) (impl_those_Note_impl_NearestLike_1.F l0 a1_0) := ⟨impl_those_Note_impl_NearestLike_1.mono l0 a1_0, rfl⟩
theorem impl_those_Note_impl_NearestLike_1.L0_eq (x5 : List Int) (x8 : List (S50)) (x9 : Int) (x10 : Int) (x39000 : ByteArray) : impl_those_Note_impl_NearestLike_1.L0 x5 x8 x9 x10 x39000 = (if x10 < x9 then (if 0 ≤ x10 then (if x10 < (x8.length : Int) then ((impl_NearestLike_1.F ((rd_T50 x8 x10).f0) ((rd_T50 x8 x10).f1) ((rd_T50 x8 x10).f2) x39000).bind fun t426 => (if t426 = true then (if x5.length < 17592186044416 then (impl_those_Note_impl_NearestLike_1.L0 (x5 ++ [x10]) x8 x9 (wrap64 (x10 + 1)) x39000) else (none)) else (impl_those_Note_impl_NearestLike_1.L0 x5 x8 x9 (wrap64 (x10 + 1)) x39000))) else (none)) else (none)) else (some x5)) := by
  refine Lim.succ_eq (impl_those_Note_impl_NearestLike_1.L0_lim x5 x8 x9 x10 x39000).mon ?_
  simp only [impl_those_Note_impl_NearestLike_1.l0]
  repeat' first
  | (with_reducible exact impl_those_Note_impl_NearestLike_1.L0_lim _ _ _ _ _)
  | (with_reducible exact impl_NearestLike_1.F_lim _ _ _ _)
  | (with_reducible refine Lim.ite ?_ ?_)
  | (with_reducible refine Lim.bind ?_ (fun _ => ?_))
  | (with_reducible exact Lim.const _)
theorem impl_those_Note_impl_NearestLike_1.F_eq (l0 : List (S50)) (a1_0 : ByteArray) : impl_those_Note_impl_NearestLike_1.F l0 a1_0 = (impl_those_Note_impl_NearestLike_1.L0 ([] : List Int) l0 (l0.length : Int) 0 a1_0) := by
  refine Lim.eq_ ?_
  simp only [impl_those_Note_impl_NearestLike_1.f]
  repeat' first
  | (with_reducible exact impl_those_Note_impl_NearestLike_1.L0_lim _ _ _ _ _)
  | (with_reducible exact impl_NearestLike_1.F_lim _ _ _ _)
  | (with_reducible refine Lim.ite ?_ ?_)
  | (with_reducible refine Lim.bind ?_ (fun _ => ?_))
  | (with_reducible exact Lim.const _)
mutual
def impl_NearestLike.j0 : Nat → List (S50) → Int → Bool → ByteArray → Option (Int × Bool)
  | 0, _, _, _, _ => none
  | k + 1, x0, x2, x25, x431000 => if x25 = true then (some (0, false)) else ((impl_those_Note_impl_NearestLike_1.f k x0 x431000).bind fun t434 => (impl_NearestLike.l0 k x0 x2 (-1) 0 t434 (t434.length : Int) 0))
def impl_NearestLike.l0 : Nat → List (S50) → Int → Int → Int → List Int → Int → Int → Option (Int × Bool)
  | 0, _, _, _, _, _, _, _ => none
  | k + 1, x0, x2, x8, x9, x28, x29, x30 => if x30 < x29 then (if 0 ≤ x30 then (if x30 < (x28.length : Int) then (if 0 ≤ (rd x28 x30) then (if (rd x28 x30) < (x0.length : Int) then (if x8 < 0 then (impl_NearestLike.l0 k x0 x2 (rd x28 x30) (mx (mx 0 (wrap64 (((rd_T50 x0 (rd x28 x30)).f0) - x2))) (wrap64 (x2 - (wrap64 (((rd_T50 x0 (rd x28 x30)).f1) - 1))))) x28 x29 (wrap64 (x30 + 1))) else (if (mx (mx 0 (wrap64 (((rd_T50 x0 (rd x28 x30)).f0) - x2))) (wrap64 (x2 - (wrap64 (((rd_T50 x0 (rd x28 x30)).f1) - 1))))) < x9 then (impl_NearestLike.l0 k x0 x2 (rd x28 x30) (mx (mx 0 (wrap64 (((rd_T50 x0 (rd x28 x30)).f0) - x2))) (wrap64 (x2 - (wrap64 (((rd_T50 x0 (rd x28 x30)).f1) - 1))))) x28 x29 (wrap64 (x30 + 1))) else (impl_NearestLike.l0 k x0 x2 x8 x9 x28 x29 (wrap64 (x30 + 1))))) else (none)) else (none)) else (none)) else (none)) else (if x8 < 0 then (some (0, false)) else (some (x8, true)))
end
def impl_NearestLike.f (k : Nat) (l0 : List (S50)) (a1 : ByteArray) (a2 : Int) : Option (Int × Bool) := (impl_IsTier.f k l0).bind fun t431 => (if t431 = true then ((impl_isGlossPattern.f k a1).bind fun t432 => (if t432 = true then ((impl_isFrame.f a2).bind fun t433 => (impl_NearestLike.j0 k l0 a2 (!t433) a1)) else (impl_NearestLike.j0 k l0 a2 true a1))) else (impl_NearestLike.j0 k l0 a2 true a1))
theorem impl_NearestLike.mono_l : ∀ k, (∀ y0 y1 y2 y3, LeO (impl_NearestLike.j0 k y0 y1 y2 y3) (impl_NearestLike.j0 (k + 1) y0 y1 y2 y3)) ∧ (∀ y0 y1 y2 y3 y4 y5 y6, LeO (impl_NearestLike.l0 k y0 y1 y2 y3 y4 y5 y6) (impl_NearestLike.l0 (k + 1) y0 y1 y2 y3 y4 y5 y6))
  | 0 => ⟨fun _ _ _ _ r h => by simp [impl_NearestLike.j0] at h, fun _ _ _ _ _ _ _ r h => by simp [impl_NearestLike.l0] at h⟩
  | k + 1 => by
    obtain ⟨ih0, ih1⟩ := impl_NearestLike.mono_l k
    refine ⟨?_, ?_⟩
    · intro y0 y1 y2 y3
      unfold impl_NearestLike.j0
      repeat' first
      | (with_reducible exact ih0 _ _ _ _)
      | (with_reducible exact ih1 _ _ _ _ _ _ _)
      | (with_reducible exact impl_IsTier.mono _ _)
      | (with_reducible exact impl_isGlossPattern.mono _ _)
      | (with_reducible exact impl_those_Note_impl_NearestLike_1.mono _ _ _)
      | (with_reducible exact LeO.refl _)
      | (with_reducible exact LeO.none _)
      | (with_reducible refine LeO.ite ?_ ?_)
      | (with_reducible refine LeO.bind ?_ (fun _ => ?_))
    · intro y0 y1 y2 y3 y4 y5 y6
      unfold impl_NearestLike.l0
      repeat' first
      | (with_reducible exact ih0 _ _ _ _)
      | (with_reducible exact ih1 _ _ _ _ _ _ _)
      | (with_reducible exact impl_IsTier.mono _ _)
      | (with_reducible exact impl_isGlossPattern.mono _ _)
      | (with_reducible exact impl_those_Note_impl_NearestLike_1.mono _ _ _)
      | (with_reducible exact LeO.refl _)
      | (with_reducible exact LeO.none _)
      | (with_reducible refine LeO.ite ?_ ?_)
      | (with_reducible refine LeO.bind ?_ (fun _ => ?_))
theorem impl_NearestLike.mono : ∀ a0 a1 a2 k, LeO (impl_NearestLike.f k a0 a1 a2) (impl_NearestLike.f (k + 1) a0 a1 a2) := by
  intro a0 a1 a2 k
  obtain ⟨ih0, ih1⟩ := impl_NearestLike.mono_l k
  unfold impl_NearestLike.f
  repeat' first
      | (with_reducible exact ih0 _ _ _ _)
      | (with_reducible exact ih1 _ _ _ _ _ _ _)
      | (with_reducible exact impl_IsTier.mono _ _)
      | (with_reducible exact impl_isGlossPattern.mono _ _)
      | (with_reducible exact impl_those_Note_impl_NearestLike_1.mono _ _ _)
      | (with_reducible exact LeO.refl _)
      | (with_reducible exact LeO.none _)
      | (with_reducible refine LeO.ite ?_ ?_)
      | (with_reducible refine LeO.bind ?_ (fun _ => ?_))
noncomputable def impl_NearestLike.J0 (x0 : List (S50)) (x2 : Int) (x25 : Bool) (x431000 : ByteArray) : Option (Int × Bool) := lim fun k => impl_NearestLike.j0 k x0 x2 x25 x431000
theorem impl_NearestLike.J0_lim (x0 : List (S50)) (x2 : Int) (x25 : Bool) (x431000 : ByteArray) : Lim (fun k => impl_NearestLike.j0 k x0 x2 x25 x431000) (impl_NearestLike.J0 x0 x2 x25 x431000) := ⟨fun k => (impl_NearestLike.mono_l k).1 x0 x2 x25 x431000, rfl⟩
noncomputable def impl_NearestLike.L0 (x0 : List (S50)) (x2 : Int) (x8 : Int) (x9 : Int) (x28 : List Int) (x29 : Int) (x30 : Int) : Option (Int × Bool) := lim fun k => impl_NearestLike.l0 k x0 x2 x8 x9 x28 x29 x30
theorem impl_NearestLike.L0_lim (x0 : List (S50)) (x2 : Int) (x8 : Int) (x9 : Int) (x28 : List Int) (x29 : Int) (x30 : Int) : Lim (fun k => impl_NearestLike.l0 k x0 x2 x8 x9 x28 x29 x30) (impl_NearestLike.L0 x0 x2 x8 x9 x28 x29 x30) := ⟨fun k => (impl_NearestLike.mono_l k).2 x0 x2 x8 x9 x28 x29 x30, rfl⟩
noncomputable def impl_NearestLike.F (l0 : List (S50)) (a1 : ByteArray) (a2 : Int) : Option (Int × Bool) := lim fun k => impl_NearestLike.f k l0 a1 a2
theorem impl_NearestLike.F_lim (l0 : List (S50)) (a1 : ByteArray) (a2 : Int) : Lim (fun k => impl_NearestLike.f k l0 a1 a2) (impl_NearestLike.F l0 a1 a2) := ⟨impl_NearestLike.mono l0 a1 a2, rfl⟩
theorem impl_NearestLike.J0_eq (x0 : List (S50)) (x2 : Int) (x25 : Bool) (x431000 : ByteArray) : impl_NearestLike.J0 x0 x2 x25 x431000 = (if x25 = true then (some (0, false)) else ((impl_those_Note_impl_NearestLike_1.F x0 x431000).bind fun t434 => (impl_NearestLike.L0 x0 x2 (-1) 0 t434 (t434.length : Int) 0))) := by
  refine Lim.succ_eq (impl_NearestLike.J0_lim x0 x2 x25 x431000).mon ?_
  simp only [impl_NearestLike.j0]
  repeat' first
  | (with_reducible exact impl_NearestLike.J0_lim _ _ _ _)
  | (with_reducible exact impl_NearestLike.L0_lim _ _ _ _ _ _ _)
  | (with_reducible exact impl_IsTier.F_lim _)
  | (with_reducible exact impl_isGlossPattern.F_lim _)
  | (with_reducible exact impl_those_Note_impl_NearestLike_1.F_lim _ _)
  | (with_reducible refine Lim.ite ?_ ?_)
  | (with_reducible refine Lim.bind ?_ (fun _ => ?_))
  | (with_reducible exact Lim.const _)
theorem impl_NearestLike.L0_eq (x0 : List (S50)) (x2 : Int) (x8 : Int) (x9 : Int) (x28 : List Int) (x29 : Int) (x30 : Int) : impl_NearestLike.L0 x0 x2 x8 x9 x28 x29 x30 = (if x30 < x29 then (if 0 ≤ x30 then (if x30 < (x28.length : Int) then (if 0 ≤ (rd x28 x30) then (if (rd x28 x30) < (x0.length : Int) then (if x8 < 0 then (impl_NearestLike.L0 x0 x2 (rd x28 x30) (mx (mx 0 (wrap64 (((rd_T50 x0 (rd x28 x30)).f0) - x2))) (wrap64 (x2 - (wrap64 (((rd_T50 x0 (rd x28 x30)).f1) - 1))))) x28 x29 (wrap64 (x30 + 1))) else (if (mx (mx 0 (wrap64 (((rd_T50 x0 (rd x28 x30)).f0) - x2))) (wrap64 (x2 - (wrap64 (((rd_T50 x0 (rd x28 x30)).f1) - 1))))) < x9 then (impl_NearestLike.L0 x0 x2 (rd x28 x30) (mx (mx 0 (wrap64 (((rd_T50 x0 (rd x28 x30)).f0) - x2))) (wrap64 (x2 - (wrap64 (((rd_T50 x0 (rd x28 x30)).f1) - 1))))) x28 x29 (wrap64 (x30 + 1))) else (impl_NearestLike.L0 x0 x2 x8 x9 x28 x29 (wrap64 (x30 + 1))))) else (none)) else (none)) else (none)) else (none)) else (if x8 < 0 then (some (0, false)) else (some (x8, true)))) := by
  refine Lim.succ_eq (impl_NearestLike.L0_lim x0 x2 x8 x9 x28 x29 x30).mon ?_
  simp only [impl_NearestLike.l0]
  repeat' first
  | (with_reducible exact impl_NearestLike.J0_lim _ _ _ _)
  | (with_reducible exact impl_NearestLike.L0_lim _ _ _ _ _ _ _)
  | (with_reducible exact impl_IsTier.F_lim _)
  | (with_reducible exact impl_isGlossPattern.F_lim _)
  | (with_reducible exact impl_those_Note_impl_NearestLike_1.F_lim _ _)
  | (with_reducible refine Lim.ite ?_ ?_)
  | (with_reducible refine Lim.bind ?_ (fun _ => ?_))
  | (with_reducible exact Lim.const _)
theorem impl_NearestLike.F_eq (l0 : List (S50)) (a1 : ByteArray) (a2 : Int) : impl_NearestLike.F l0 a1 a2 = ((impl_IsTier.F l0).bind fun t431 => (if t431 = true then ((impl_isGlossPattern.F a1).bind fun t432 => (if t432 = true then ((impl_isFrame.f a2).bind fun t433 => (impl_NearestLike.J0 l0 a2 (!t433) a1)) else (impl_NearestLike.J0 l0 a2 true a1))) else (impl_NearestLike.J0 l0 a2 true a1))) := by
  refine Lim.eq_ ?_
  simp only [impl_NearestLike.f]
  repeat' first
  | (with_reducible exact impl_NearestLike.J0_lim _ _ _ _)
  | (with_reducible exact impl_NearestLike.L0_lim _ _ _ _ _ _ _)
  | (with_reducible exact impl_IsTier.F_lim _)
  | (with_reducible exact impl_isGlossPattern.F_lim _)
  | (with_reducible exact impl_those_Note_impl_NearestLike_1.F_lim _ _)
  | (with_reducible refine Lim.ite ?_ ?_)
  | (with_reducible refine Lim.bind ?_ (fun _ => ?_))
  | (with_reducible exact Lim.const _)
def spec_quPattern.l0 : Nat → ByteArray → Int → Option (Bool)
  | 0, _, _ => none
  | k + 1, x0, x3 => if x3 < (x0.size : Int) then (if 0 ≤ x3 then (if (bt x0 x3) < 65 then (if (bt x0 x3) = 63 then (spec_quPattern.l0 k x0 (wrap64 (x3 + 1))) else (if (bt x0 x3) = 42 then (spec_quPattern.l0 k x0 (wrap64 (x3 + 1))) else (some false))) else (if (bt x0 x3) > 90 then (if (bt x0 x3) = 63 then (spec_quPattern.l0 k x0 (wrap64 (x3 + 1))) else (if (bt x0 x3) = 42 then (spec_quPattern.l0 k x0 (wrap64 (x3 + 1))) else (some false))) else (spec_quPattern.l0 k x0 (wrap64 (x3 + 1))))) else (none)) else ((spec_l1In.f (x0.size : Int) 1 8).bind fun t440 => (some t440))
def spec_quPattern.f (k : Nat) (a0 : ByteArray) : Option (Bool) := spec_quPattern.l0 k a0 0
theorem spec_quPattern.mono_l : ∀ k, (∀ y0 y1, LeO (spec_quPattern.l0 k y0 y1) (spec_quPattern.l0 (k + 1) y0 y1))
  | 0 => fun _ _ r h => by simp [spec_quPattern.l0] at h
  | k + 1 => by
    have ih0 := spec_quPattern.mono_l k
    · intro y0 y1
      unfold spec_quPattern.l0
      repeat' first
      | (with_reducible exact ih0 _ _)
      | (with_reducible exact LeO.refl _)
      | (with_reducible exact LeO.none _)
      | (with_reducible refine LeO.ite ?_ ?_)
      | (with_reducible refine LeO.bind ?_ (fun _ => ?_))
theorem spec_quPattern.mono : ∀ a0 k, LeO (spec_quPattern.f k a0) (spec_quPattern.f (k + 1) a0) := by
  intro a0 k
  have ih0 := spec_quPattern.mono_l k
  unfold spec_quPattern.f
  repeat' first
      | (with_reducible exact ih0 _ _)
      | (with_reducible exact LeO.refl _)
      | (with_reducible exact LeO.none _)
      | (with_reducible refine LeO.ite ?_ ?_)
      | (with_reducible refine LeO.bind ?_ (fun _ => ?_))
noncomputable def spec_quPattern.L0 (x0 : ByteArray) (x3 : Int) : Option (Bool) := lim fun k => spec_quPattern.l0 k x0 x3
theorem spec_quPattern.L0_lim (x0 : ByteArray) (x3 : Int) : Lim (fun k => spec_quPattern.l0 k x0 x3) (spec_quPattern.L0 x0 x3) := ⟨fun k => (spec_quPattern.mono_l k) x0 x3, rfl⟩
noncomputable def spec_quPattern.F (a0 : ByteArray) : Option (Bool) := lim fun k => spec_quPattern.f k a0
theorem spec_quPattern.F_lim (a0 : ByteArray) : Lim (fun k => spec_quPattern.f k a0) (spec_quPattern.F a0) := ⟨spec_quPattern.mono a0, rfl⟩
theorem spec_quPattern.L0_eq (x0 : ByteArray) (x3 : Int) : spec_quPattern.L0 x0 x3 = (if x3 < (x0.size : Int) then (if 0 ≤ x3 then (if (bt x0 x3) < 65 then (if (bt x0 x3) = 63 then (spec_quPattern.L0 x0 (wrap64 (x3 + 1))) else (if (bt x0 x3) = 42 then (spec_quPattern.L0 x0 (wrap64 (x3 + 1))) else (some false))) else (if (bt x0 x3) > 90 then (if (bt x0 x3) = 63 then (spec_quPattern.L0 x0 (wrap64 (x3 + 1))) else (if (bt x0 x3) = 42 then (spec_quPattern.L0 x0 (wrap64 (x3 + 1))) else (some false))) else (spec_quPattern.L0 x0 (wrap64 (x3 + 1))))) else (none)) else ((spec_l1In.f (x0.size : Int) 1 8).bind fun t440 => (some t440))) := by
  refine Lim.succ_eq (spec_quPattern.L0_lim x0 x3).mon ?_
  simp only [spec_quPattern.l0]
  repeat' first
  | (with_reducible exact spec_quPattern.L0_lim _ _)
  | (with_reducible refine Lim.ite ?_ ?_)
  | (with_reducible refine Lim.bind ?_ (fun _ => ?_))
  | (with_reducible exact Lim.const _)
theorem spec_quPattern.F_eq (a0 : ByteArray) : spec_quPattern.F a0 = (spec_quPattern.L0 a0 0) := by
  refine Lim.eq_ ?_
  simp only [spec_quPattern.f]
  repeat' first
  | (with_reducible exact spec_quPattern.L0_lim _ _)
  | (with_reducible refine Lim.ite ?_ ?_)
  | (with_reducible refine Lim.bind ?_ (fun _ => ?_))
  | (with_reducible exact Lim.const _)
def spec_quLike.f : Nat → ByteArray → ByteArray → Option (Bool)
  | 0, _, _ => none
  | k + 1, a0, a1 => if a0.toList = ([] : List UInt8) then (some (a1.toList == ([] : List UInt8))) else (if 0 < (a0.size : Int) then (if (bt a0 0) = 42 then (if 1 ≤ (a0.size : Int) then ((spec_quLike.f k (a0.extract 1 a0.size) a1).bind fun t441 => (if t441 = true then (some true) else (if a1.toList = ([] : List UInt8) then (some false) else (if 1 ≤ (a1.size : Int) then ((spec_quLike.f k a0 (a1.extract 1 a1.size)).bind fun t442 => (some t442)) else (none))))) else (none)) else (if a1.toList = ([] : List UInt8) then (some false) else (if (bt a0 0) = 63 then (if 1 ≤ (a0.size : Int) then (if 1 ≤ (a1.size : Int) then ((spec_quLike.f k (a0.extract 1 a0.size) (a1.extract 1 a1.size)).bind fun t443 => (some t443)) else (none)) else (none)) else (if 0 < (a1.size : Int) then (if (bt a0 0) = (bt a1 0) then (if 1 ≤ (a0.size : Int) then (if 1 ≤ (a1.size : Int) then ((spec_quLike.f k (a0.extract 1 a0.size) (a1.extract 1 a1.size)).bind fun t444 => (some t444)) else (none)) else (none)) else (some false)) else (none))))) else (none))
theorem spec_quLike.mono_l : ∀ k, (∀ y0 y1, LeO (spec_quLike.f k y0 y1) (spec_quLike.f (k + 1) y0 y1))
  | 0 => fun _ _ r h => by simp [spec_quLike.f] at h
  | k + 1 => by
    have ih0 := spec_quLike.mono_l k
    · intro y0 y1
      unfold spec_quLike.f
      repeat' first
      | (with_reducible exact ih0 _ _)
      | (with_reducible exact LeO.refl _)
      | (with_reducible exact LeO.none _)
      | (with_reducible refine LeO.ite ?_ ?_)
      | (with_reducible refine LeO.bind ?_ (fun _ => ?_))
theorem spec_quLike.mono : ∀ a0 a1 k, LeO (spec_quLike.f k a0 a1) (spec_quLike.f (k + 1) a0 a1) := by
  intro a0 a1 k
  have ih0 := spec_quLike.mono_l k
  exact ih0 a0 a1
noncomputable def spec_quLike.F (a0 : ByteArray) (a1 : ByteArray) : Option (Bool) := lim fun k => spec_quLike.f k a0 a1
theorem spec_quLike.F_lim (a0 : ByteArray) (a1 : ByteArray) : Lim (fun k => spec_quLike.f k a0 a1) (spec_quLike.F a0 a1) := ⟨spec_quLike.mono a0 a1, rfl⟩
theorem spec_quLike.F_eq (a0 : ByteArray) (a1 : ByteArray) : spec_quLike.F a0 a1 = (if a0.toList = ([] : List UInt8) then (some (a1.toList == ([] : List UInt8))) else (if 0 < (a0.size : Int) then (if (bt a0 0) = 42 then (if 1 ≤ (a0.size : Int) then ((spec_quLike.F (a0.extract 1 a0.size) a1).bind fun t441 => (if t441 = true then (some true) else (if a1.toList = ([] : List UInt8) then (some false) else (if 1 ≤ (a1.size : Int) then ((spec_quLike.F a0 (a1.extract 1 a1.size)).bind fun t442 => (some t442)) else (none))))) else (none)) else (if a1.toList = ([] : List UInt8) then (some false) else (if (bt a0 0) = 63 then (if 1 ≤ (a0.size : Int) then (if 1 ≤ (a1.size : Int) then ((spec_quLike.F (a0.extract 1 a0.size) (a1.extract 1 a1.size)).bind fun t443 => (some t443)) else (none)) else (none)) else (if 0 < (a1.size : Int) then (if (bt a0 0) = (bt a1 0) then (if 1 ≤ (a0.size : Int) then (if 1 ≤ (a1.size : Int) then ((spec_quLike.F (a0.extract 1 a0.size) (a1.extract 1 a1.size)).bind fun t444 => (some t444)) else (none)) else (none)) else (some false)) else (none))))) else (none))) := by
  refine Lim.succ_eq (spec_quLike.F_lim a0 a1).mon ?_
  simp only [spec_quLike.f]
  repeat' first
  | (with_reducible exact spec_quLike.F_lim _ _)
  | (with_reducible refine Lim.ite ?_ ?_)
  | (with_reducible refine Lim.bind ?_ (fun _ => ?_))
  | (with_reducible exact Lim.const _)
def spec_quAway.f (a0_0 : Int) (a0_1 : Int) (a0_2 : ByteArray) (a1 : Int) : Option (Int) := (spec_l1Most.f (wrap64 (a0_0 - a1)) (wrap64 ((wrap64 (a1 - a0_1)) + 1))).bind fun t446 => ((spec_l1Most.f 0 t446).bind fun t447 => (some t447))
mutual
def spec_NearestLike.j0 : Nat → List (S50) → ByteArray → Int → Bool → Option (Int × Bool)
  | 0, _, _, _, _ => none
  | k + 1, x0, x1, x2, x23 => if x23 = true then (some (0, false)) else (spec_NearestLike.l0 k x0 x1 x2 (-1) x0 (x0.length : Int) 0)
def spec_NearestLike.l0 : Nat → List (S50) → ByteArray → Int → Int → List (S50) → Int → Int → Option (Int × Bool)
  | 0, _, _, _, _, _, _, _ => none
  | k + 1, x0, x1, x2, x8, x24, x25, x26 => if x26 < x25 then (if 0 ≤ x26 then (if x26 < (x24.length : Int) then ((spec_quLike.f k x1 ((rd_T50 x24 x26).f2)).bind fun t453 => (if t453 = true then (if x8 < 0 then (spec_NearestLike.l0 k x0 x1 x2 x26 x24 x25 (wrap64 (x26 + 1))) else ((spec_quAway.f ((rd_T50 x24 x26).f0) ((rd_T50 x24 x26).f1) ((rd_T50 x24 x26).f2) x2).bind fun t454 => (if 0 ≤ x8 then (if x8 < (x0.length : Int) then ((spec_quAway.f ((rd_T50 x0 x8).f0) ((rd_T50 x0 x8).f1) ((rd_T50 x0 x8).f2) x2).bind fun t456 => (if t454 < t456 then (spec_NearestLike.l0 k x0 x1 x2 x26 x24 x25 (wrap64 (x26 + 1))) else (spec_NearestLike.l0 k x0 x1 x2 x8 x24 x25 (wrap64 (x26 + 1))))) else (none)) else (none)))) else (spec_NearestLike.l0 k x0 x1 x2 x8 x24 x25 (wrap64 (x26 + 1))))) else (none)) else (none)) else (if x8 < 0 then (some (0, false)) else (some (x8, true)))
end
def spec_NearestLike.f (k : Nat) (l0 : List (S50)) (a1 : ByteArray) (a2 : Int) : Option (Int × Bool) := (spec_tiGood.f k l0).bind fun t448 => (if t448 = true then ((spec_quPattern.f k a1).bind fun t449 => (if t449 = true then ((spec_tiFrame.f a2).bind fun t450 => (spec_NearestLike.j0 k l0 a1 a2 (!t450))) else (spec_NearestLike.j0 k l0 a1 a2 true))) else (spec_NearestLike.j0 k l0 a1 a2 true))
theorem spec_NearestLike.mono_l : ∀ k, (∀ y0 y1 y2 y3, LeO (spec_NearestLike.j0 k y0 y1 y2 y3) (spec_NearestLike.j0 (k + 1) y0 y1 y2 y3)) ∧ (∀ y0 y1 y2 y3 y4 y5 y6, LeO (spec_NearestLike.l0 k y0 y1 y2 y3 y4 y5 y6) (spec_NearestLike.l0 (k + 1) y0 y1 y2 y3 y4 y5 y6))
  | 0 => ⟨fun _ _ _ _ r h => by simp [spec_NearestLike.j0] at h, fun _ _ _ _ _ _ _ r h => by simp [spec_NearestLike.l0] at h⟩
  | k + 1 => by
    obtain ⟨ih0, ih1⟩ := spec_NearestLike.mono_l k
    refine ⟨?_, ?_⟩
    · intro y0 y1 y2 y3
      unfold spec_NearestLike.j0
      repeat' first
      | (with_reducible exact ih0 _ _ _ _)
      | (with_reducible exact ih1 _ _ _ _ _ _ _)
      | (with_reducible exact spec_quLike.mono _ _ _)
      | (with_reducible exact spec_quPattern.mono _ _)
      | (with_reducible exact spec_tiGood.mono _ _)
      | (with_reducible exact LeO.refl _)
      | (with_reducible exact LeO.none _)
      | (with_reducible refine LeO.ite ?_ ?_)
      | (with_reducible refine LeO.bind ?_ (fun _ => ?_))
    · intro y0 y1 y2 y3 y4 y5 y6
      unfold spec_NearestLike.l0
      repeat' first
      | (with_reducible exact ih0 _ _ _ _)
      | (with_reducible exact ih1 _ _ _ _ _ _ _)
      | (with_reducible exact spec_quLike.mono _ _ _)
      | (with_reducible exact spec_quPattern.mono _ _)
      | (with_reducible exact spec_tiGood.mono _ _)
      | (with_reducible exact LeO.refl _)
      | (with_reducible exact LeO.none _)
      | (with_reducible refine LeO.ite ?_ ?_)
      | (with_reducible refine LeO.bind ?_ (fun _ => ?_))
theorem spec_NearestLike.mono : ∀ a0 a1 a2 k, LeO (spec_NearestLike.f k a0 a1 a2) (spec_NearestLike.f (k + 1) a0 a1 a2) := by
  intro a0 a1 a2 k
  obtain ⟨ih0, ih1⟩ := spec_NearestLike.mono_l k
  unfold spec_NearestLike.f
  repeat' first
      | (with_reducible exact ih0 _ _ _ _)
      | (with_reducible exact ih1 _ _ _ _ _ _ _)
      | (with_reducible exact spec_quLike.mono _ _ _)
      | (with_reducible exact spec_quPattern.mono _ _)
      | (with_reducible exact spec_tiGood.mono _ _)
      | (with_reducible exact LeO.refl _)
      | (with_reducible exact LeO.none _)
      | (with_reducible refine LeO.ite ?_ ?_)
      | (with_reducible refine LeO.bind ?_ (fun _ => ?_))
noncomputable def spec_NearestLike.J0 (x0 : List (S50)) (x1 : ByteArray) (x2 : Int) (x23 : Bool) : Option (Int × Bool) := lim fun k => spec_NearestLike.j0 k x0 x1 x2 x23
theorem spec_NearestLike.J0_lim (x0 : List (S50)) (x1 : ByteArray) (x2 : Int) (x23 : Bool) : Lim (fun k => spec_NearestLike.j0 k x0 x1 x2 x23) (spec_NearestLike.J0 x0 x1 x2 x23) := ⟨fun k => (spec_NearestLike.mono_l k).1 x0 x1 x2 x23, rfl⟩
noncomputable def spec_NearestLike.L0 (x0 : List (S50)) (x1 : ByteArray) (x2 : Int) (x8 : Int) (x24 : List (S50)) (x25 : Int) (x26 : Int) : Option (Int × Bool) := lim fun k => spec_NearestLike.l0 k x0 x1 x2 x8 x24 x25 x26
theorem spec_NearestLike.L0_lim (x0 : List (S50)) (x1 : ByteArray) (x2 : Int) (x8 : Int) (x24 : List (S50)) (x25 : Int) (x26 : Int) : Lim (fun k => spec_NearestLike.l0 k x0 x1 x2 x8 x24 x25 x26) (spec_NearestLike.L0 x0 x1 x2 x8 x24 x25 x26) := ⟨fun k => (spec_NearestLike.mono_l k).2 x0 x1 x2 x8 x24 x25 x26, rfl⟩
noncomputable def spec_NearestLike.F (l0 : List (S50)) (a1 : ByteArray) (a2 : Int) : Option (Int × Bool) := lim fun k => spec_NearestLike.f k l0 a1 a2
theorem spec_NearestLike.F_lim (l0 : List (S50)) (a1 : ByteArray) (a2 : Int) : Lim (fun k => spec_NearestLike.f k l0 a1 a2) (spec_NearestLike.F l0 a1 a2) := ⟨spec_NearestLike.mono l0 a1 a2, rfl⟩
theorem spec_NearestLike.J0_eq (x0 : List (S50)) (x1 : ByteArray) (x2 : Int) (x23 : Bool) : spec_NearestLike.J0 x0 x1 x2 x23 = (if x23 = true then (some (0, false)) else (spec_NearestLike.L0 x0 x1 x2 (-1) x0 (x0.length : Int) 0)) := by
  refine Lim.succ_eq (spec_NearestLike.J0_lim x0 x1 x2 x23).mon ?_
  simp only [spec_NearestLike.j0]
  repeat' first
  | (with_reducible exact spec_NearestLike.J0_lim _ _ _ _)
  | (with_reducible exact spec_NearestLike.L0_lim _ _ _ _ _ _ _)
  | (with_reducible exact spec_quLike.F_lim _ _)
  | (with_reducible exact spec_quPattern.F_lim _)
  | (with_reducible exact spec_tiGood.F_lim _)
  | (with_reducible refine Lim.ite ?_ ?_)
  | (with_reducible refine Lim.bind ?_ (fun _ => ?_))
  | (with_reducible exact Lim.const _)
theorem spec_NearestLike.L0_eq (x0 : List (S50)) (x1 : ByteArray) (x2 : Int) (x8 : Int) (x24 : List (S50)) (x25 : Int) (x26 : Int) : spec_NearestLike.L0 x0 x1 x2 x8 x24 x25 x26 = (if x26 < x25 then (if 0 ≤ x26 then (if x26 < (x24.length : Int) then ((spec_quLike.F x1 ((rd_T50 x24 x26).f2)).bind fun t453 => (if t453 = true then (if x8 < 0 then (spec_NearestLike.L0 x0 x1 x2 x26 x24 x25 (wrap64 (x26 + 1))) else ((spec_quAway.f ((rd_T50 x24 x26).f0) ((rd_T50 x24 x26).f1) ((rd_T50 x24 x26).f2) x2).bind fun t454 => (if 0 ≤ x8 then (if x8 < (x0.length : Int) then ((spec_quAway.f ((rd_T50 x0 x8).f0) ((rd_T50 x0 x8).f1) ((rd_T50 x0 x8).f2) x2).bind fun t456 => (if t454 < t456 then (spec_NearestLike.L0 x0 x1 x2 x26 x24 x25 (wrap64 (x26 + 1))) else (spec_NearestLike.L0 x0 x1 x2 x8 x24 x25 (wrap64 (x26 + 1))))) else (none)) else (none)))) else (spec_NearestLike.L0 x0 x1 x2 x8 x24 x25 (wrap64 (x26 + 1))))) else (none)) else (none)) else (if x8 < 0 then (some (0, false)) else (some (x8, true)))) := by
  refine Lim.succ_eq (spec_NearestLike.L0_lim x0 x1 x2 x8 x24 x25 x26).mon ?_
  simp only [spec_NearestLike.l0]
  repeat' first
  | (with_reducible exact spec_NearestLike.J0_lim _ _ _ _)
  | (with_reducible exact spec_NearestLike.L0_lim _ _ _ _ _ _ _)
  | (with_reducible exact spec_quLike.F_lim _ _)
  | (with_reducible exact spec_quPattern.F_lim _)
  | (with_reducible exact spec_tiGood.F_lim _)
  | (with_reducible refine Lim.ite ?_ ?_)
  | (with_reducible refine Lim.bind ?_ (fun _ => ?_))
  | (with_reducible exact Lim.const _)
theorem spec_NearestLike.F_eq (l0 : List (S50)) (a1 : ByteArray) (a2 : Int) : spec_NearestLike.F l0 a1 a2 = ((spec_tiGood.F l0).bind fun t448 => (if t448 = true then ((spec_quPattern.F a1).bind fun t449 => (if t449 = true then ((spec_tiFrame.f a2).bind fun t450 => (spec_NearestLike.J0 l0 a1 a2 (!t450))) else (spec_NearestLike.J0 l0 a1 a2 true))) else (spec_NearestLike.J0 l0 a1 a2 true))) := by
  refine Lim.eq_ ?_
  simp only [spec_NearestLike.f]
  repeat' first
  | (with_reducible exact spec_NearestLike.J0_lim _ _ _ _)
  | (with_reducible exact spec_NearestLike.L0_lim _ _ _ _ _ _ _)
  | (with_reducible exact spec_quLike.F_lim _ _)
  | (with_reducible exact spec_quPattern.F_lim _)
  | (with_reducible exact spec_tiGood.F_lim _)
  | (with_reducible refine Lim.ite ?_ ?_)
  | (with_reducible refine Lim.bind ?_ (fun _ => ?_))
  | (with_reducible exact Lim.const _)
mutual
def spec_l1Cur_changed.l0 : Nat → List (S50) → List (S50) → Int → Int → List Int → Int → Int → Option ((List (S50)) × Int × Int)
  | 0, _, _, _, _, _, _, _ => none
  | k + 1, x5, x10, x11, x12, x1000, x1001, x1002 => if x12 < x11 then (if 0 ≤ x12 then (if x12 < (x10.length : Int) then ((spec_l1Cur_pick.f x1000 x1001 x1002 6).bind fun bt459 => (if bt459.1 = 0 then (spec_l1Cur_changed.l0 k x5 x10 x11 (wrap64 (x12 + 1)) x1000 bt459.2.1 bt459.2.2) else (if bt459.1 = 1 then ((spec_l1Cur_of.f x1000 bt459.2.1 bt459.2.2 (([(⟨#[71, 79]⟩ : ByteArray), (⟨#[73]⟩ : ByteArray), (⟨#[66, 79, 79, 75]⟩ : ByteArray)] : List ByteArray))).bind fun bt465 => (if (x5.length : Int) = 0 then (if x5.length < 4398046511104 then (spec_l1Cur_changed.l0 k (x5 ++ [(⟨(rd_T50 x10 x12).f0, (rd_T50 x10 x12).f1, bt465.1⟩ : S50)]) x10 x11 (wrap64 (x12 + 1)) x1000 bt465.2.1 bt465.2.2) else (none)) else (if 0 ≤ (wrap64 ((x5.length : Int) - 1)) then (if (wrap64 ((x5.length : Int) - 1)) < (x5.length : Int) then (if ((rd_T50 x5 (wrap64 ((x5.length : Int) - 1))).f1) ≤ ((rd_T50 x10 x12).f0) then (if x5.length < 4398046511104 then (spec_l1Cur_changed.l0 k (x5 ++ [(⟨(rd_T50 x10 x12).f0, (rd_T50 x10 x12).f1, bt465.1⟩ : S50)]) x10 x11 (wrap64 (x12 + 1)) x1000 bt465.2.1 bt465.2.2) else (none)) else (spec_l1Cur_changed.l0 k x5 x10 x11 (wrap64 (x12 + 1)) x1000 bt465.2.1 bt465.2.2)) else (none)) else (none)))) else (if bt459.1 = 2 then ((spec_l1Cur_pick.f x1000 bt459.2.1 bt459.2.2 3).bind fun bt475 => ((spec_l1Most.f (wrap64 (((rd_T50 x10 x12).f0) + 1)) (wrap64 (((rd_T50 x10 x12).f1) - bt475.1))).bind fun t478 => (if (x5.length : Int) = 0 then (if x5.length < 4398046511104 then (spec_l1Cur_changed.l0 k (x5 ++ [(⟨(rd_T50 x10 x12).f0, t478, (rd_T50 x10 x12).f2⟩ : S50)]) x10 x11 (wrap64 (x12 + 1)) x1000 bt475.2.1 bt475.2.2) else (none)) else (if 0 ≤ (wrap64 ((x5.length : Int) - 1)) then (if (wrap64 ((x5.length : Int) - 1)) < (x5.length : Int) then (if ((rd_T50 x5 (wrap64 ((x5.length : Int) - 1))).f1) ≤ ((rd_T50 x10 x12).f0) then (if x5.length < 4398046511104 then (spec_l1Cur_changed.l0 k (x5 ++ [(⟨(rd_T50 x10 x12).f0, t478, (rd_T50 x10 x12).f2⟩ : S50)]) x10 x11 (wrap64 (x12 + 1)) x1000 bt475.2.1 bt475.2.2) else (none)) else (spec_l1Cur_changed.l0 k x5 x10 x11 (wrap64 (x12 + 1)) x1000 bt475.2.1 bt475.2.2)) else (none)) else (none))))) else (if (x5.length : Int) = 0 then (if x5.length < 4398046511104 then (spec_l1Cur_changed.l0 k (x5 ++ [(⟨(rd_T50 x10 x12).f0, (rd_T50 x10 x12).f1, (rd_T50 x10 x12).f2⟩ : S50)]) x10 x11 (wrap64 (x12 + 1)) x1000 bt459.2.1 bt459.2.2) else (none)) else (if 0 ≤ (wrap64 ((x5.length : Int) - 1)) then (if (wrap64 ((x5.length : Int) - 1)) < (x5.length : Int) then (if ((rd_T50 x5 (wrap64 ((x5.length : Int) - 1))).f1) ≤ ((rd_T50 x10 x12).f0) then (if x5.length < 4398046511104 then (spec_l1Cur_changed.l0 k (x5 ++ [(⟨(rd_T50 x10 x12).f0, (rd_T50 x10 x12).f1, (rd_T50 x10 x12).f2⟩ : S50)]) x10 x11 (wrap64 (x12 + 1)) x1000 bt459.2.1 bt459.2.2) else (none)) else (spec_l1Cur_changed.l0 k x5 x10 x11 (wrap64 (x12 + 1)) x1000 bt459.2.1 bt459.2.2)) else (none)) else (none))))))) else (none)) else (none)) else (if (x5.length : Int) > 0 then (if (x5.length : Int) < 40 then ((spec_l1Cur_one.f x1000 x1001 x1002 2).bind fun bt493 => (spec_l1Cur_changed.j1 k x5 (x5.length : Int) bt493.1 x1000 bt493.2.1 bt493.2.2)) else (spec_l1Cur_changed.j1 k x5 (x5.length : Int) false x1000 x1001 x1002)) else (spec_l1Cur_changed.j1 k x5 (x5.length : Int) false x1000 x1001 x1002))
def spec_l1Cur_changed.j1 : Nat → List (S50) → Int → Bool → List Int → Int → Int → Option ((List (S50)) × Int × Int)
  | 0, _, _, _, _, _, _ => none
  | k + 1, x5, x9, x69, x1000, x1001, x1002 => if x69 = true then (if 0 ≤ (wrap64 (x9 - 1)) then (if (wrap64 (x9 - 1)) < (x5.length : Int) then ((spec_l1Cur_pick.f x1000 x1001 x1002 4).bind fun bt497 => ((spec_l1Cur_note.f x1000 bt497.2.1 bt497.2.2 (wrap64 (((rd_T50 x5 (wrap64 (x9 - 1))).f1) + bt497.1))).bind fun bt500 => (if x5.length < 4398046511104 then (some ((x5 ++ [(⟨bt500.1, bt500.2.1, bt500.2.2.1⟩ : S50)]), bt500.2.2.2.1, bt500.2.2.2.2)) else (none)))) else (none)) else (none)) else (some (x5, x1001, x1002))
end
def spec_l1Cur_changed.f (k : Nat) (s0_0 : List Int) (s0_1 : Int) (s0_2 : Int) (l1 : List (S50)) : Option ((List (S50)) × Int × Int) := spec_l1Cur_changed.l0 k ([] : List (S50)) l1 (l1.length : Int) 0 s0_0 s0_1 s0_2
theorem spec_l1Cur_changed.mono_l : ∀ k, (∀ y0 y1 y2 y3 y4 y5 y6, LeO (spec_l1Cur_changed.l0 k y0 y1 y2 y3 y4 y5 y6) (spec_l1Cur_changed.l0 (k + 1) y0 y1 y2 y3 y4 y5 y6)) ∧ (∀ y0 y1 y2 y3 y4 y5, LeO (spec_l1Cur_changed.j1 k y0 y1 y2 y3 y4 y5) (spec_l1Cur_changed.j1 (k + 1) y0 y1 y2 y3 y4 y5))
  | 0 => ⟨fun _ _ _ _ _ _ _ r h => by simp [spec_l1Cur_changed.l0] at h, fun _ _ _ _ _ _ r h => by simp [spec_l1Cur_changed.j1] at h⟩
  | k + 1 => by
    obtain ⟨ih0, ih1⟩ := spec_l1Cur_changed.mono_l k
    refine ⟨?_, ?_⟩
    · intro y0 y1 y2 y3 y4 y5 y6
      unfold spec_l1Cur_changed.l0
      repeat' first
      | (with_reducible exact ih0 _ _ _ _ _ _ _)
      | (with_reducible exact ih1 _ _ _ _ _ _)
      | (with_reducible exact LeO.refl _)
      | (with_reducible exact LeO.none _)
      | (with_reducible refine LeO.ite ?_ ?_)
      | (with_reducible refine LeO.bind ?_ (fun _ => ?_))
    · intro y0 y1 y2 y3 y4 y5
      unfold spec_l1Cur_changed.j1
      repeat' first
      | (with_reducible exact ih0 _ _ _ _ _ _ _)
      | (with_reducible exact ih1 _ _ _ _ _ _)
      | (with_reducible exact LeO.refl _)
      | (with_reducible exact LeO.none _)
      | (with_reducible refine LeO.ite ?_ ?_)
      | (with_reducible refine LeO.bind ?_ (fun _ => ?_))
theorem spec_l1Cur_changed.mono : ∀ a0 a1 a2 a3 k, LeO (spec_l1Cur_changed.f k a0 a1 a2 a3) (spec_l1Cur_changed.f (k + 1) a0 a1 a2 a3) := by
  intro a0 a1 a2 a3 k
  obtain ⟨ih0, ih1⟩ := spec_l1Cur_changed.mono_l k
  unfold spec_l1Cur_changed.f
  repeat' first
      | (with_reducible exact ih0 _ _ _ _ _ _ _)
      | (with_reducible exact ih1 _ _ _ _ _ _)
      | (with_reducible exact LeO.refl _)
      | (with_reducible exact LeO.none _)
      | (with_reducible refine LeO.ite ?_ ?_)
      | (with_reducible refine LeO.bind ?_ (fun _ => ?_))
noncomputable def spec_l1Cur_changed.L0 (x5 : List (S50)) (x10 : List (S50)) (x11 : Int) (x12 : Int) (x1000 : List Int) (x1001 : Int) (x1002 : Int) : Option ((List (S50)) × Int × Int) := lim fun k => spec_l1Cur_changed.l0 k x5 x10 x11 x12 x1000 x1001 x1002
theorem spec_l1Cur_changed.L0_lim (x5 : List (S50)) (x10 : List (S50)) (x11 : Int) (x12 : Int) (x1000 : List Int) (x1001 : Int) (x1002 : Int) : Lim (fun k => spec_l1Cur_changed.l0 k x5 x10 x11 x12 x1000 x1001 x1002) (spec_l1Cur_changed.L0 x5 x10 x11 x12 x1000 x1001 x1002) := ⟨fun k => (spec_l1Cur_changed.mono_l k).1 x5 x10 x11 x12 x1000 x1001 x1002, rfl⟩
noncomputable def spec_l1Cur_changed.J1 (x5 : List (S50)) (x9 : Int) (x69 : Bool) (x1000 : List Int) (x1001 : Int) (x1002 : Int) : Option ((List (S50)) × Int × Int) := lim fun k => spec_l1Cur_changed.j1 k x5 x9 x69 x1000 x1001 x1002
theorem spec_l1Cur_changed.J1_lim (x5 : List (S50)) (x9 : Int) (x69 : Bool) (x1000 : List Int) (x1001 : Int) (x1002 : Int) : Lim (fun k => spec_l1Cur_changed.j1 k x5 x9 x69 x1000 x1001 x1002) (spec_l1Cur_changed.J1 x5 x9 x69 x1000 x1001 x1002) := ⟨fun k => (spec_l1Cur_changed.mono_l k).2 x5 x9 x69 x1000 x1001 x1002, rfl⟩
noncomputable def spec_l1Cur_changed.F (s0_0 : List Int) (s0_1 : Int) (s0_2 : Int) (l1 : List (S50)) : Option ((List (S50)) × Int × Int) := lim fun k => spec_l1Cur_changed.f k s0_0 s0_1 s0_2 l1
theorem spec_l1Cur_changed.F_lim (s0_0 : List Int) (s0_1 : Int) (s0_2 : Int) (l1 : List (S50)) : Lim (fun k => spec_l1Cur_changed.f k s0_0 s0_1 s0_2 l1) (spec_l1Cur_changed.F s0_0 s0_1 s0_2 l1) := ⟨spec_l1Cur_changed.mono s0_0 s0_1 s0_2 l1, rfl⟩
theorem spec_l1Cur_changed.L0_eq (x5 : List (S50)) (x10 : List (S50)) (x11 : Int) (x12 : Int) (x1000 : List Int) (x1001 : Int) (x1002 : Int) : spec_l1Cur_changed.L0 x5 x10 x11 x12 x1000 x1001 x1002 = (if x12 < x11 then (if 0 ≤ x12 then (if x12 < (x10.length : Int) then ((spec_l1Cur_pick.f x1000 x1001 x1002 6).bind fun bt459 => (if bt459.1 = 0 then (spec_l1Cur_changed.L0 x5 x10 x11 (wrap64 (x12 + 1)) x1000 bt459.2.1 bt459.2.2) else (if bt459.1 = 1 then ((spec_l1Cur_of.f x1000 bt459.2.1 bt459.2.2 (([(⟨#[71, 79]⟩ : ByteArray), (⟨#[73]⟩ : ByteArray), (⟨#[66, 79, 79, 75]⟩ : ByteArray)] : List ByteArray))).bind fun bt465 => (if (x5.length : Int) = 0 then (if x5.length < 4398046511104 then (spec_l1Cur_changed.L0 (x5 ++ [(⟨(rd_T50 x10 x12).f0, (rd_T50 x10 x12).f1, bt465.1⟩ : S50)]) x10 x11 (wrap64 (x12 + 1)) x1000 bt465.2.1 bt465.2.2) else (none)) else (if 0 ≤ (wrap64 ((x5.length : Int) - 1)) then (if (wrap64 ((x5.length : Int) - 1)) < (x5.length : Int) then (if ((rd_T50 x5 (wrap64 ((x5.length : Int) - 1))).f1) ≤ ((rd_T50 x10 x12).f0) then (if x5.length < 4398046511104 then (spec_l1Cur_changed.L0 (x5 ++ [(⟨(rd_T50 x10 x12).f0, (rd_T50 x10 x12).f1, bt465.1⟩ : S50)]) x10 x11 (wrap64 (x12 + 1)) x1000 bt465.2.1 bt465.2.2) else (none)) else (spec_l1Cur_changed.L0 x5 x10 x11 (wrap64 (x12 + 1)) x1000 bt465.2.1 bt465.2.2)) else (none)) else (none)))) else (if bt459.1 = 2 then ((spec_l1Cur_pick.f x1000 bt459.2.1 bt459.2.2 3).bind fun bt475 => ((spec_l1Most.f (wrap64 (((rd_T50 x10 x12).f0) + 1)) (wrap64 (((rd_T50 x10 x12).f1) - bt475.1))).bind fun t478 => (if (x5.length : Int) = 0 then (if x5.length < 4398046511104 then (spec_l1Cur_changed.L0 (x5 ++ [(⟨(rd_T50 x10 x12).f0, t478, (rd_T50 x10 x12).f2⟩ : S50)]) x10 x11 (wrap64 (x12 + 1)) x1000 bt475.2.1 bt475.2.2) else (none)) else (if 0 ≤ (wrap64 ((x5.length : Int) - 1)) then (if (wrap64 ((x5.length : Int) - 1)) < (x5.length : Int) then (if ((rd_T50 x5 (wrap64 ((x5.length : Int) - 1))).f1) ≤ ((rd_T50 x10 x12).f0) then (if x5.length < 4398046511104 then (spec_l1Cur_changed.L0 (x5 ++ [(⟨(rd_T50 x10 x12).f0, t478, (rd_T50 x10 x12).f2⟩ : S50)]) x10 x11 (wrap64 (x12 + 1)) x1000 bt475.2.1 bt475.2.2) else (none)) else (spec_l1Cur_changed.L0 x5 x10 x11 (wrap64 (x12 + 1)) x1000 bt475.2.1 bt475.2.2)) else (none)) else (none))))) else (if (x5.length : Int) = 0 then (if x5.length < 4398046511104 then (spec_l1Cur_changed.L0 (x5 ++ [(⟨(rd_T50 x10 x12).f0, (rd_T50 x10 x12).f1, (rd_T50 x10 x12).f2⟩ : S50)]) x10 x11 (wrap64 (x12 + 1)) x1000 bt459.2.1 bt459.2.2) else (none)) else (if 0 ≤ (wrap64 ((x5.length : Int) - 1)) then (if (wrap64 ((x5.length : Int) - 1)) < (x5.length : Int) then (if ((rd_T50 x5 (wrap64 ((x5.length : Int) - 1))).f1) ≤ ((rd_T50 x10 x12).f0) then (if x5.length < 4398046511104 then (spec_l1Cur_changed.L0 (x5 ++ [(⟨(rd_T50 x10 x12).f0, (rd_T50 x10 x12).f1, (rd_T50 x10 x12).f2⟩ : S50)]) x10 x11 (wrap64 (x12 + 1)) x1000 bt459.2.1 bt459.2.2) else (none)) else (spec_l1Cur_changed.L0 x5 x10 x11 (wrap64 (x12 + 1)) x1000 bt459.2.1 bt459.2.2)) else (none)) else (none))))))) else (none)) else (none)) else (if (x5.length : Int) > 0 then (if (x5.length : Int) < 40 then ((spec_l1Cur_one.f x1000 x1001 x1002 2).bind fun bt493 => (spec_l1Cur_changed.J1 x5 (x5.length : Int) bt493.1 x1000 bt493.2.1 bt493.2.2)) else (spec_l1Cur_changed.J1 x5 (x5.length : Int) false x1000 x1001 x1002)) else (spec_l1Cur_changed.J1 x5 (x5.length : Int) false x1000 x1001 x1002))) := by
  refine Lim.succ_eq (spec_l1Cur_changed.L0_lim x5 x10 x11 x12 x1000 x1001 x1002).mon ?_
  simp only [spec_l1Cur_changed.l0]
  repeat' first
  | (with_reducible exact spec_l1Cur_changed.L0_lim _ _ _ _ _ _ _)
  | (with_reducible exact spec_l1Cur_changed.J1_lim _ _ _ _ _ _)
  | (with_reducible refine Lim.ite ?_ ?_)
  | (with_reducible refine Lim.bind ?_ (fun _ => ?_))
  | (with_reducible exact Lim.const _)
theorem spec_l1Cur_changed.J1_eq (x5 : List (S50)) (x9 : Int) (x69 : Bool) (x1000 : List Int) (x1001 : Int) (x1002 : Int) : spec_l1Cur_changed.J1 x5 x9 x69 x1000 x1001 x1002 = (if x69 = true then (if 0 ≤ (wrap64 (x9 - 1)) then (if (wrap64 (x9 - 1)) < (x5.length : Int) then ((spec_l1Cur_pick.f x1000 x1001 x1002 4).bind fun bt497 => ((spec_l1Cur_note.f x1000 bt497.2.1 bt497.2.2 (wrap64 (((rd_T50 x5 (wrap64 (x9 - 1))).f1) + bt497.1))).bind fun bt500 => (if x5.length < 4398046511104 then (some ((x5 ++ [(⟨bt500.1, bt500.2.1, bt500.2.2.1⟩ : S50)]), bt500.2.2.2.1, bt500.2.2.2.2)) else (none)))) else (none)) else (none)) else (some (x5, x1001, x1002))) := by
  refine Lim.succ_eq (spec_l1Cur_changed.J1_lim x5 x9 x69 x1000 x1001 x1002).mon ?_
  simp only [spec_l1Cur_changed.j1]
  repeat' first
  | (with_reducible exact spec_l1Cur_changed.L0_lim _ _ _ _ _ _ _)
  | (with_reducible exact spec_l1Cur_changed.J1_lim _ _ _ _ _ _)
  | (with_reducible refine Lim.ite ?_ ?_)
  | (with_reducible refine Lim.bind ?_ (fun _ => ?_))
  | (with_reducible exact Lim.const _)
theorem spec_l1Cur_changed.F_eq (s0_0 : List Int) (s0_1 : Int) (s0_2 : Int) (l1 : List (S50)) : spec_l1Cur_changed.F s0_0 s0_1 s0_2 l1 = (spec_l1Cur_changed.L0 ([] : List (S50)) l1 (l1.length : Int) 0 s0_0 s0_1 s0_2) := by
  refine Lim.eq_ ?_
  simp only [spec_l1Cur_changed.f]
  repeat' first
  | (with_reducible exact spec_l1Cur_changed.L0_lim _ _ _ _ _ _ _)
  | (with_reducible exact spec_l1Cur_changed.J1_lim _ _ _ _ _ _)
  | (with_reducible refine Lim.ite ?_ ?_)
  | (with_reducible refine Lim.bind ?_ (fun _ => ?_))
  | (with_reducible exact Lim.const _)
def spec_DrawCommonNotes.j0 : Nat → List (S50) → Bool → List Int → Int → Int → Option ((List (S50)) × (List (S50)))
  | 0, _, _, _, _, _ => none
  | k + 1, x5, x17, x509000, x509001, x509002 => if x17 = true then ((spec_l1Cur_changed.f k x509000 x509001 x509002 x5).bind fun bt518 => (some (x5, bt518.1))) else ((spec_l1Cur_tier.f k x509000 x509001 x509002).bind fun bt523 => (some (x5, bt523.1)))
def spec_DrawCommonNotes.f (k : Nat) (l0 : List Int) : Option ((List (S50)) × (List (S50))) := (spec_l1Cur_tier.f k l0 0 0).bind fun bt509 => ((spec_tiGood.f k bt509.1).bind fun t514 => (if t514 = true then ((spec_l1Cur_one.f l0 bt509.2.1 bt509.2.2 6).bind fun bt515 => (spec_DrawCommonNotes.j0 k bt509.1 (!bt515.1) l0 bt515.2.1 bt515.2.2)) else (spec_DrawCommonNotes.j0 k bt509.1 false l0 bt509.2.1 bt509.2.2)))
theorem spec_DrawCommonNotes.mono_l : ∀ k, (∀ y0 y1 y2 y3 y4, LeO (spec_DrawCommonNotes.j0 k y0 y1 y2 y3 y4) (spec_DrawCommonNotes.j0 (k + 1) y0 y1 y2 y3 y4))
  | 0 => fun _ _ _ _ _ r h => by simp [spec_DrawCommonNotes.j0] at h
  | k + 1 => by
    have ih0 := spec_DrawCommonNotes.mono_l k
    · intro y0 y1 y2 y3 y4
      unfold spec_DrawCommonNotes.j0
      repeat' first
      | (with_reducible exact ih0 _ _ _ _ _)
      | (with_reducible exact spec_l1Cur_changed.mono _ _ _ _ _)
      | (with_reducible exact spec_l1Cur_tier.mono _ _ _ _)
      | (with_reducible exact spec_tiGood.mono _ _)
      | (with_reducible exact LeO.refl _)
      | (with_reducible exact LeO.none _)
      | (with_reducible refine LeO.ite ?_ ?_)
      | (with_reducible refine LeO.bind ?_ (fun _ => ?_))
theorem spec_DrawCommonNotes.mono : ∀ a0 k, LeO (spec_DrawCommonNotes.f k a0) (spec_DrawCommonNotes.f (k + 1) a0) := by
  intro a0 k
  have ih0 := spec_DrawCommonNotes.mono_l k
  unfold spec_DrawCommonNotes.f
  repeat' first
      | (with_reducible exact ih0 _ _ _ _ _)
      | (with_reducible exact spec_l1Cur_changed.mono _ _ _ _ _)
      | (with_reducible exact spec_l1Cur_tier.mono _ _ _ _)
      | (with_reducible exact spec_tiGood.mono _ _)
      | (with_reducible exact LeO.refl _)
      | (with_reducible exact LeO.none _)
      | (with_reducible refine LeO.ite ?_ ?_)
      | (with_reducible refine LeO.bind ?_ (fun _ => ?_))
noncomputable def spec_DrawCommonNotes.J0 (x5 : List (S50)) (x17 : Bool) (x509000 : List Int) (x509001 : Int) (x509002 : Int) : Option ((List (S50)) × (List (S50))) := lim fun k => spec_DrawCommonNotes.j0 k x5 x17 x509000 x509001 x509002
theorem spec_DrawCommonNotes.J0_lim (x5 : List (S50)) (x17 : Bool) (x509000 : List Int) (x509001 : Int) (x509002 : Int) : Lim (fun k => spec_DrawCommonNotes.j0 k x5 x17 x509000 x509001 x509002) (spec_DrawCommonNotes.J0 x5 x17 x509000 x509001 x509002) := ⟨fun k => (spec_DrawCommonNotes.mono_l k) x5 x17 x509000 x509001 x509002, rfl⟩
noncomputable def spec_DrawCommonNotes.F (l0 : List Int) : Option ((List (S50)) × (List (S50))) := lim fun k => spec_DrawCommonNotes.f k l0
theorem spec_DrawCommonNotes.F_lim (l0 : List Int) : Lim (fun k => spec_DrawCommonNotes.f k l0) (spec_DrawCommonNotes.F l0) := ⟨spec_DrawCommonNotes.mono l0, rfl⟩
theorem spec_DrawCommonNotes.J0_eq (x5 : List (S50)) (x17 : Bool) (x509000 : List Int) (x509001 : Int) (x509002 : Int) : spec_DrawCommonNotes.J0 x5 x17 x509000 x509001 x509002 = (if x17 = true then ((spec_l1Cur_changed.F x509000 x509001 x509002 x5).bind fun bt518 => (some (x5, bt518.1))) else ((spec_l1Cur_tier.F x509000 x509001 x509002).bind fun bt523 => (some (x5, bt523.1)))) := by
  refine Lim.succ_eq (spec_DrawCommonNotes.J0_lim x5 x17 x509000 x509001 x509002).mon ?_
  simp only [spec_DrawCommonNotes.j0]
  repeat' first
  | (with_reducible exact spec_DrawCommonNotes.J0_lim _ _ _ _ _)
  | (with_reducible exact spec_l1Cur_changed.F_lim _ _ _ _)
  | (with_reducible exact spec_l1Cur_tier.F_lim _ _ _)
  | (with_reducible exact spec_tiGood.F_lim _)
  | (with_reducible refine Lim.ite ?_ ?_)
  | (with_reducible refine Lim.bind ?_ (fun _ => ?_))
  | (with_reducible exact Lim.const _)
theorem spec_DrawCommonNotes.F_eq (l0 : List Int) : spec_DrawCommonNotes.F l0 = ((spec_l1Cur_tier.F l0 0 0).bind fun bt509 => ((spec_tiGood.F bt509.1).bind fun t514 => (if t514 = true then ((spec_l1Cur_one.f l0 bt509.2.1 bt509.2.2 6).bind fun bt515 => (spec_DrawCommonNotes.J0 bt509.1 (!bt515.1) l0 bt515.2.1 bt515.2.2)) else (spec_DrawCommonNotes.J0 bt509.1 false l0 bt509.2.1 bt509.2.2)))) := by
  refine Lim.eq_ ?_
  simp only [spec_DrawCommonNotes.f]
  repeat' first
  | (with_reducible exact spec_DrawCommonNotes.J0_lim _ _ _ _ _)
  | (with_reducible exact spec_l1Cur_changed.F_lim _ _ _ _)
  | (with_reducible exact spec_l1Cur_tier.F_lim _ _ _)
  | (with_reducible exact spec_tiGood.F_lim _)
  | (with_reducible refine Lim.ite ?_ ?_)
  | (with_reducible refine Lim.bind ?_ (fun _ => ?_))
  | (with_reducible exact Lim.const _)
def spec_DrawNotesInside.f (k : Nat) (l0 : List Int) : Option ((List (S50)) × (List (S50))) := (spec_DrawCommonNotes.f k l0).bind fun bt528 => (some (bt528.1, bt528.2))
theorem spec_DrawNotesInside.mono : ∀ a0 k, LeO (spec_DrawNotesInside.f k a0) (spec_DrawNotesInside.f (k + 1) a0) := by
  intro a0 k
  unfold spec_DrawNotesInside.f
  repeat' first
      | (with_reducible exact spec_DrawCommonNotes.mono _ _)
      | (with_reducible exact LeO.refl _)
      | (with_reducible exact LeO.none _)
      | (with_reducible refine LeO.ite ?_ ?_)
      | (with_reducible refine LeO.bind ?_ (fun _ => ?_))
noncomputable def spec_DrawNotesInside.F (l0 : List Int) : Option ((List (S50)) × (List (S50))) := lim fun k => spec_DrawNotesInside.f k l0
theorem spec_DrawNotesInside.F_lim (l0 : List Int) : Lim (fun k => spec_DrawNotesInside.f k l0) (spec_DrawNotesInside.F l0) := ⟨spec_DrawNotesInside.mono l0, rfl⟩
theorem spec_DrawNotesInside.F_eq (l0 : List Int) : spec_DrawNotesInside.F l0 = ((spec_DrawCommonNotes.F l0).bind fun bt528 => (some (bt528.1, bt528.2))) := by
  refine Lim.eq_ ?_
  simp only [spec_DrawNotesInside.f]
  repeat' first
  | (with_reducible exact spec_DrawCommonNotes.F_lim _)
  | (with_reducible refine Lim.ite ?_ ?_)
  | (with_reducible refine Lim.bind ?_ (fun _ => ?_))
  | (with_reducible exact Lim.const _)
mutual
def impl_NotesInside.j0 : Nat → List (S50) → List (S50) → Bool → Option ((List (List Int)) × Bool)
  | 0, _, _, _ => none
  | k + 1, x0, x1, x18 => if x18 = true then (some (([] : List (List Int)), false)) else (impl_NotesInside.l0 k x1 ([] : List (List Int)) x0 (x0.length : Int) 0)
def impl_NotesInside.l0 : Nat → List (S50) → List (List Int) → List (S50) → Int → Int → Option ((List (List Int)) × Bool)
  | 0, _, _, _, _, _ => none
  | k + 1, x1, x6, x19, x20, x21 => if x21 < x20 then (if 0 ≤ x21 then (if x21 < (x19.length : Int) then (impl_NotesInside.l1 k x1 x6 x21 x19 x20 x21 x1 (x1.length : Int) 0 ((rd_T50 x19 x21).f0) ((rd_T50 x19 x21).f1) ((rd_T50 x19 x21).f2)) else (none)) else (none)) else (some (x6, true))
def impl_NotesInside.l1 : Nat → List (S50) → List (List Int) → Int → List (S50) → Int → Int → List (S50) → Int → Int → Int → Int → ByteArray → Option ((List (List Int)) × Bool)
  | 0, _, _, _, _, _, _, _, _, _, _, _, _ => none
  | k + 1, x1, x6, x7, x19, x20, x21, x26, x27, x28, x538000, x538001, x538002 => if x28 < x27 then (if 0 ≤ x28 then (if x28 < (x26.length : Int) then (if ((rd_T50 x26 x28).f0) ≤ x538000 then (if x538001 ≤ ((rd_T50 x26 x28).f1) then (if x6.length < 5864062014805 then (impl_NotesInside.l1 k x1 (x6 ++ [(([x7, x28] : List Int))]) x7 x19 x20 x21 x26 x27 (wrap64 (x28 + 1)) x538000 x538001 x538002) else (none)) else (impl_NotesInside.l1 k x1 x6 x7 x19 x20 x21 x26 x27 (wrap64 (x28 + 1)) x538000 x538001 x538002)) else (impl_NotesInside.l1 k x1 x6 x7 x19 x20 x21 x26 x27 (wrap64 (x28 + 1)) x538000 x538001 x538002)) else (none)) else (none)) else (impl_NotesInside.l0 k x1 x6 x19 x20 (wrap64 (x21 + 1)))
end
def impl_NotesInside.f (k : Nat) (l0 : List (S50)) (l1 : List (S50)) : Option ((List (List Int)) × Bool) := (impl_IsTier.f k l0).bind fun t534 => (if t534 = true then ((impl_IsTier.f k l1).bind fun t535 => (impl_NotesInside.j0 k l0 l1 (!t535))) else (impl_NotesInside.j0 k l0 l1 true))
theorem impl_NotesInside.mono_l : ∀ k, (∀ y0 y1 y2, LeO (impl_NotesInside.j0 k y0 y1 y2) (impl_NotesInside.j0 (k + 1) y0 y1 y2)) ∧ (∀ y0 y1 y2 y3 y4, LeO (impl_NotesInside.l0 k y0 y1 y2 y3 y4) (impl_NotesInside.l0 (k + 1) y0 y1 y2 y3 y4)) ∧ (∀ y0 y1 y2 y3 y4 y5 y6 y7 y8 y9 y10 y11, LeO (impl_NotesInside.l1 k y0 y1 y2 y3 y4 y5 y6 y7 y8 y9 y10 y11) (impl_NotesInside.l1 (k + 1) y0 y1 y2 y3 y4 y5 y6 y7 y8 y9 y10 y11))
  | 0 => ⟨fun _ _ _ r h => by simp [impl_NotesInside.j0] at h, fun _ _ _ _ _ r h => by simp [impl_NotesInside.l0] at h, fun _ _ _ _ _ _ _ _ _ _ _ _ r h => by simp [impl_NotesInside.l1] at h⟩
  | k + 1 => by
    obtain ⟨ih0, ih1, ih2⟩ := impl_NotesInside.mono_l k
    refine ⟨?_, ?_, ?_⟩
    · intro y0 y1 y2
      unfold impl_NotesInside.j0
      repeat' first
      | (with_reducible exact ih0 _ _ _)
      | (with_reducible exact ih1 _ _ _ _ _)
      | (with_reducible exact ih2 _ _ _ _ _ _ _ _ _ _ _ _)
      | (with_reducible exact impl_IsTier.mono _ _)
      | (with_reducible exact LeO.refl _)
      | (with_reducible exact LeO.none _)
      | (with_reducible refine LeO.ite ?_ ?_)
      | (with_reducible refine LeO.bind ?_ (fun _ => ?_))
    · intro y0 y1 y2 y3 y4
      unfold impl_NotesInside.l0
      repeat' first
      | (with_reducible exact ih0 _ _ _)
      | (with_reducible exact ih1 _ _ _ _ _)
      | (with_reducible exact ih2 _ _ _ _ _ _ _ _ _ _ _ _)
      | (with_reducible exact impl_IsTier.mono _ _)
      | (with_reducible exact LeO.refl _)
      | (with_reducible exact LeO.none _)
      | (with_reducible refine LeO.ite ?_ ?_)
      | (with_reducible refine LeO.bind ?_ (fun _ => ?_))
    · intro y0 y1 y2 y3 y4 y5 y6 y7 y8 y9 y10 y11
      unfold impl_NotesInside.l1
      repeat' first
      | (with_reducible exact ih0 _ _ _)
      | (with_reducible exact ih1 _ _ _ _ _)
      | (with_reducible exact ih2 _ _ _ _ _ _ _ _ _ _ _ _)
      | (with_reducible exact impl_IsTier.mono _ _)
      | (with_reducible exact LeO.refl _)
      | (with_reducible exact LeO.none _)
      | (with_reducible refine LeO.ite ?_ ?_)
      | (with_reducible refine LeO.bind ?_ (fun _ => ?_))
theorem impl_NotesInside.mono : ∀ a0 a1 k, LeO (impl_NotesInside.f k a0 a1) (impl_NotesInside.f (k + 1) a0 a1) := by
  intro a0 a1 k
  obtain ⟨ih0, ih1, ih2⟩ := impl_NotesInside.mono_l k
  unfold impl_NotesInside.f
  repeat' first
      | (with_reducible exact ih0 _ _ _)
      | (with_reducible exact ih1 _ _ _ _ _)
      | (with_reducible exact ih2 _ _ _ _ _ _ _ _ _ _ _ _)
      | (with_reducible exact impl_IsTier.mono _ _)
      | (with_reducible exact LeO.refl _)
      | (with_reducible exact LeO.none _)
      | (with_reducible refine LeO.ite ?_ ?_)
      | (with_reducible refine LeO.bind ?_ (fun _ => ?_))
noncomputable def impl_NotesInside.J0 (x0 : List (S50)) (x1 : List (S50)) (x18 : Bool) : Option ((List (List Int)) × Bool) := lim fun k => impl_NotesInside.j0 k x0 x1 x18
theorem impl_NotesInside.J0_lim (x0 : List (S50)) (x1 : List (S50)) (x18 : Bool) : Lim (fun k => impl_NotesInside.j0 k x0 x1 x18) (impl_NotesInside.J0 x0 x1 x18) := ⟨fun k => (impl_NotesInside.mono_l k).1 x0 x1 x18, rfl⟩
noncomputable def impl_NotesInside.L0 (x1 : List (S50)) (x6 : List (List Int)) (x19 : List (S50)) (x20 : Int) (x21 : Int) : Option ((List (List Int)) × Bool) := lim fun k => impl_NotesInside.l0 k x1 x6 x19 x20 x21
theorem impl_NotesInside.L0_lim (x1 : List (S50)) (x6 : List (List Int)) (x19 : List (S50)) (x20 : Int) (x21 : Int) : Lim (fun k => impl_NotesInside.l0 k x1 x6 x19 x20 x21) (impl_NotesInside.L0 x1 x6 x19 x20 x21) := ⟨fun k => (impl_NotesInside.mono_l k).2.1 x1 x6 x19 x20 x21, rfl⟩
noncomputable def impl_NotesInside.L1 (x1 : List (S50)) (x6 : List (List Int)) (x7 : Int) (x19 : List (S50)) (x20 : Int) (x21 : Int) (x26 : List (S50)) (x27 : Int) (x28 : Int) (x538000 : Int) (x538001 : Int) (x538002 : ByteArray) : Option ((List (List Int)) × Bool) := lim fun k => impl_NotesInside.l1 k x1 x6 x7 x19 x20 x21 x26 x27 x28 x538000 x538001 x538002
theorem impl_NotesInside.L1_lim (x1 : List (S50)) (x6 : List (List Int)) (x7 : Int) (x19 : List (S50)) (x20 : Int) (x21 : Int) (x26 : List (S50)) (x27 : Int) (x28 : Int) (x538000 : Int) (x538001 : Int) (x538002 : ByteArray) : Lim (fun k => impl_NotesInside.l1 k x1 x6 x7 x19 x20 x21 x26 x27 x28 x538000 x538001 x538002) (impl_NotesInside.L1 x1 x6 x7 x19 x20 x21 x26 x27 x28 x538000 x538001 x538002) := ⟨fun k => (impl_NotesInside.mono_l k).2.2 x1 x6 x7 x19 x20 x21 x26 x27 x28 x538000 x538001 x538002, rfl⟩
noncomputable def impl_NotesInside.F (l0 : List (S50)) (l1 : List (S50)) : Option ((List (List Int)) × Bool) := lim fun k => impl_NotesInside.f k l0 l1
theorem impl_NotesInside.F_lim (l0 : List (S50)) (l1 : List (S50)) : Lim (fun k => impl_NotesInside.f k l0 l1) (impl_NotesInside.F l0 l1) := ⟨impl_NotesInside.mono l0 l1, rfl⟩
theorem impl_NotesInside.J0_eq (x0 : List (S50)) (x1 : List (S50)) (x18 : Bool) : impl_NotesInside.J0 x0 x1 x18 = (if x18 = true then (some (([] : List (List Int)), false)) else (impl_NotesInside.L0 x1 ([] : List (List Int)) x0 (x0.length : Int) 0)) := by
  refine Lim.succ_eq (impl_NotesInside.J0_lim x0 x1 x18).mon ?_
  simp only [impl_NotesInside.j0]
  repeat' first
  | (with_reducible exact impl_NotesInside.J0_lim _ _ _)
  | (with_reducible exact impl_NotesInside.L0_lim _ _ _ _ _)
  | (with_reducible exact impl_NotesInside.L1_lim _ _ _ _ _ _ _ _ _ _ _ _)
  | (with_reducible exact impl_IsTier.F_lim _)
  | (with_reducible refine Lim.ite ?_ ?_)
  | (with_reducible refine Lim.bind ?_ (fun _ => ?_))
  | (with_reducible exact Lim.const _)
theorem impl_NotesInside.L0_eq (x1 : List (S50)) (x6 : List (List Int)) (x19 : List (S50)) (x20 : Int) (x21 : Int) : impl_NotesInside.L0 x1 x6 x19 x20 x21 = (if x21 < x20 then (if 0 ≤ x21 then (if x21 < (x19.length : Int) then (impl_NotesInside.L1 x1 x6 x21 x19 x20 x21 x1 (x1.length : Int) 0 ((rd_T50 x19 x21).f0) ((rd_T50 x19 x21).f1) ((rd_T50 x19 x21).f2)) else (none)) else (none)) else (some (x6, true))) := by
  refine Lim.succ_eq (impl_NotesInside.L0_lim x1 x6 x19 x20 x21).mon ?_
  simp only [impl_NotesInside.l0]
  repeat' first
  | (with_reducible exact impl_NotesInside.J0_lim _ _ _)
  | (with_reducible exact impl_NotesInside.L0_lim _ _ _ _ _)
  | (with_reducible exact impl_NotesInside.L1_lim _ _ _ _ _ _ _ _ _ _ _ _)
  | (with_reducible exact impl_IsTier.F_lim _)
  | (with_reducible refine Lim.ite ?_ ?_)
  | (with_reducible refine Lim.bind ?_ (fun _ => ?_))
  | (with_reducible exact Lim.const _)
theorem impl_NotesInside.L1_eq (x1 : List (S50)) (x6 : List (List Int)) (x7 : Int) (x19 : List (S50)) (x20 : Int) (x21 : Int) (x26 : List (S50)) (x27 : Int) (x28 : Int) (x538000 : Int) (x538001 : Int) (x538002 : ByteArray) : impl_NotesInside.L1 x1 x6 x7 x19 x20 x21 x26 x27 x28 x538000 x538001 x538002 = (if x28 < x27 then (if 0 ≤ x28 then (if x28 < (x26.length : Int) then (if ((rd_T50 x26 x28).f0) ≤ x538000 then (if x538001 ≤ ((rd_T50 x26 x28).f1) then (if x6.length < 5864062014805 then (impl_NotesInside.L1 x1 (x6 ++ [(([x7, x28] : List Int))]) x7 x19 x20 x21 x26 x27 (wrap64 (x28 + 1)) x538000 x538001 x538002) else (none)) else (impl_NotesInside.L1 x1 x6 x7 x19 x20 x21 x26 x27 (wrap64 (x28 + 1)) x538000 x538001 x538002)) else (impl_NotesInside.L1 x1 x6 x7 x19 x20 x21 x26 x27 (wrap64 (x28 + 1)) x538000 x538001 x538002)) else (none)) else (none)) else (impl_NotesInside.L0 x1 x6 x19 x20 (wrap64 (x21 + 1)))) := by
  refine Lim.succ_eq (impl_NotesInside.L1_lim x1 x6 x7 x19 x20 x21 x26 x27 x28 x538000 x538001 x538002).mon ?_
  simp only [impl_NotesInside.l1]
  repeat' first
  | (with_reducible exact impl_NotesInside.J0_lim _ _ _)
  | (with_reducible exact impl_NotesInside.L0_lim _ _ _ _ _)
  | (with_reducible exact impl_NotesInside.L1_lim _ _ _ _ _ _ _ _ _ _ _ _)
  | (with_reducible exact impl_IsTier.F_lim _)
  | (with_reducible refine Lim.ite ?_ ?_)
  | (with_reducible refine Lim.bind ?_ (fun _ => ?_))
  | (with_reducible exact Lim.const _)
theorem impl_NotesInside.F_eq (l0 : List (S50)) (l1 : List (S50)) : impl_NotesInside.F l0 l1 = ((impl_IsTier.F l0).bind fun t534 => (if t534 = true then ((impl_IsTier.F l1).bind fun t535 => (impl_NotesInside.J0 l0 l1 (!t535))) else (impl_NotesInside.J0 l0 l1 true))) := by
  refine Lim.eq_ ?_
  simp only [impl_NotesInside.f]
  repeat' first
  | (with_reducible exact impl_NotesInside.J0_lim _ _ _)
  | (with_reducible exact impl_NotesInside.L0_lim _ _ _ _ _)
  | (with_reducible exact impl_NotesInside.L1_lim _ _ _ _ _ _ _ _ _ _ _ _)
  | (with_reducible exact impl_IsTier.F_lim _)
  | (with_reducible refine Lim.ite ?_ ?_)
  | (with_reducible refine Lim.bind ?_ (fun _ => ?_))
  | (with_reducible exact Lim.const _)
def spec_meBoth.f (k : Nat) (l0 : List (S50)) (l1 : List (S50)) : Option (Bool) := (spec_tiGood.f k l0).bind fun t546 => (if t546 = true then ((spec_tiGood.f k l1).bind fun t547 => (some t547)) else (some false))
theorem spec_meBoth.mono : ∀ a0 a1 k, LeO (spec_meBoth.f k a0 a1) (spec_meBoth.f (k + 1) a0 a1) := by
  intro a0 a1 k
  unfold spec_meBoth.f
  repeat' first
      | (with_reducible exact spec_tiGood.mono _ _)
      | (with_reducible exact LeO.refl _)
      | (with_reducible exact LeO.none _)
      | (with_reducible refine LeO.ite ?_ ?_)
      | (with_reducible refine LeO.bind ?_ (fun _ => ?_))
noncomputable def spec_meBoth.F (l0 : List (S50)) (l1 : List (S50)) : Option (Bool) := lim fun k => spec_meBoth.f k l0 l1
theorem spec_meBoth.F_lim (l0 : List (S50)) (l1 : List (S50)) : Lim (fun k => spec_meBoth.f k l0 l1) (spec_meBoth.F l0 l1) := ⟨spec_meBoth.mono l0 l1, rfl⟩
theorem spec_meBoth.F_eq (l0 : List (S50)) (l1 : List (S50)) : spec_meBoth.F l0 l1 = ((spec_tiGood.F l0).bind fun t546 => (if t546 = true then ((spec_tiGood.F l1).bind fun t547 => (some t547)) else (some false))) := by
  refine Lim.eq_ ?_
  simp only [spec_meBoth.f]
  repeat' first
  | (with_reducible exact spec_tiGood.F_lim _)
  | (with_reducible refine Lim.ite ?_ ?_)
  | (with_reducible refine Lim.bind ?_ (fun _ => ?_))
  | (with_reducible exact Lim.const _)
mutual
def spec_NotesInside.l0 : Nat → List (S50) → List (List Int) → List (S50) → Int → Int → Option ((List (List Int)) × Bool)
  | 0, _, _, _, _, _ => none
  | k + 1, x1, x6, x15, x16, x17 => if x17 < x16 then (if 0 ≤ x17 then (if x17 < (x15.length : Int) then (spec_NotesInside.l1 k x1 x6 x17 x15 x16 x17 x1 (x1.length : Int) 0 ((rd_T50 x15 x17).f0) ((rd_T50 x15 x17).f1) ((rd_T50 x15 x17).f2)) else (none)) else (none)) else (some (x6, true))
def spec_NotesInside.l1 : Nat → List (S50) → List (List Int) → Int → List (S50) → Int → Int → List (S50) → Int → Int → Int → Int → ByteArray → Option ((List (List Int)) × Bool)
  | 0, _, _, _, _, _, _, _, _, _, _, _, _ => none
  | k + 1, x1, x6, x7, x15, x16, x17, x22, x23, x24, x551000, x551001, x551002 => if x24 < x23 then (if 0 ≤ x24 then (if x24 < (x22.length : Int) then (if x551000 ≥ ((rd_T50 x22 x24).f0) then (if x551001 ≤ ((rd_T50 x22 x24).f1) then (if x6.length < 5864062014805 then (spec_NotesInside.l1 k x1 (x6 ++ [(([x7, x24] : List Int))]) x7 x15 x16 x17 x22 x23 (wrap64 (x24 + 1)) x551000 x551001 x551002) else (none)) else (spec_NotesInside.l1 k x1 x6 x7 x15 x16 x17 x22 x23 (wrap64 (x24 + 1)) x551000 x551001 x551002)) else (spec_NotesInside.l1 k x1 x6 x7 x15 x16 x17 x22 x23 (wrap64 (x24 + 1)) x551000 x551001 x551002)) else (none)) else (none)) else (spec_NotesInside.l0 k x1 x6 x15 x16 (wrap64 (x17 + 1)))
end
def spec_NotesInside.f (k : Nat) (l0 : List (S50)) (l1 : List (S50)) : Option ((List (List Int)) × Bool) := (spec_meBoth.f k l0 l1).bind fun t548 => (if t548 = true then (spec_NotesInside.l0 k l1 ([] : List (List Int)) l0 (l0.length : Int) 0) else (some (([] : List (List Int)), false)))
theorem spec_NotesInside.mono_l : ∀ k, (∀ y0 y1 y2 y3 y4, LeO (spec_NotesInside.l0 k y0 y1 y2 y3 y4) (spec_NotesInside.l0 (k + 1) y0 y1 y2 y3 y4)) ∧ (∀ y0 y1 y2 y3 y4 y5 y6 y7 y8 y9 y10 y11, LeO (spec_NotesInside.l1 k y0 y1 y2 y3 y4 y5 y6 y7 y8 y9 y10 y11) (spec_NotesInside.l1 (k + 1) y0 y1 y2 y3 y4 y5 y6 y7 y8 y9 y10 y11))
  | 0 => ⟨fun _ _ _ _ _ r h => by simp [spec_NotesInside.l0] at h, fun _ _ _ _ _ _ _ _ _ _ _ _ r h => by simp [spec_NotesInside.l1] at h⟩
  | k + 1 => by
    obtain ⟨ih0, ih1⟩ := spec_NotesInside.mono_l k
    refine ⟨?_, ?_⟩
    · intro y0 y1 y2 y3 y4
      unfold spec_NotesInside.l0
      repeat' first
      | (with_reducible exact ih0 _ _ _ _ _)
      | (with_reducible exact ih1 _ _ _ _ _ _ _ _ _ _ _ _)
      | (with_reducible exact spec_meBoth.mono _ _ _)
      | (with_reducible exact LeO.refl _)
      | (with_reducible exact LeO.none _)
      | (with_reducible refine LeO.ite ?_ ?_)
      | (with_reducible refine LeO.bind ?_ (fun _ => ?_))
    · intro y0 y1 y2 y3 y4 y5 y6 y7 y8 y9 y10 y11
      unfold spec_NotesInside.l1
      repeat' first
      | (with_reducible exact ih0 _ _ _ _ _)
      | (with_reducible exact ih1 _ _ _ _ _ _ _ _ _ _ _ _)
      | (with_reducible exact spec_meBoth.mono _ _ _)
      | (with_reducible exact LeO.refl _)
      | (with_reducible exact LeO.none _)
      | (with_reducible refine LeO.ite ?_ ?_)
      | (with_reducible refine LeO.bind ?_ (fun _ => ?_))
theorem spec_NotesInside.mono : ∀ a0 a1 k, LeO (spec_NotesInside.f k a0 a1) (spec_NotesInside.f (k + 1) a0 a1) := by
  intro a0 a1 k
  obtain ⟨ih0, ih1⟩ := spec_NotesInside.mono_l k
  unfold spec_NotesInside.f
  repeat' first
      | (with_reducible exact ih0 _ _ _ _ _)
      | (with_reducible exact ih1 _ _ _ _ _ _ _ _ _ _ _ _)
      | (with_reducible exact spec_meBoth.mono _ _ _)
      | (with_reducible exact LeO.refl _)
      | (with_reducible exact LeO.none _)
      | (with_reducible refine LeO.ite ?_ ?_)
      | (with_reducible refine LeO.bind ?_ (fun _ => ?_))
noncomputable def spec_NotesInside.L0 (x1 : List (S50)) (x6 : List (List Int)) (x15 : List (S50)) (x16 : Int) (x17 : Int) : Option ((List (List Int)) × Bool) := lim fun k => spec_NotesInside.l0 k x1 x6 x15 x16 x17
theorem spec_NotesInside.L0_lim (x1 : List (S50)) (x6 : List (List Int)) (x15 : List (S50)) (x16 : Int) (x17 : Int) : Lim (fun k => spec_NotesInside.l0 k x1 x6 x15 x16 x17) (spec_NotesInside.L0 x1 x6 x15 x16 x17) := ⟨fun k => (spec_NotesInside.mono_l k).1 x1 x6 x15 x16 x17, rfl⟩
noncomputable def spec_NotesInside.L1 (x1 : List (S50)) (x6 : List (List Int)) (x7 : Int) (x15 : List (S50)) (x16 : Int) (x17 : Int) (x22 : List (S50)) (x23 : Int) (x24 : Int) (x551000 : Int) (x551001 : Int) (x551002 : ByteArray) : Option ((List (List Int)) × Bool) := lim fun k => spec_NotesInside.l1 k x1 x6 x7 x15 x16 x17 x22 x23 x24 x551000 x551001 x551002
theorem spec_NotesInside.L1_lim (x1 : List (S50)) (x6 : List (List Int)) (x7 : Int) (x15 : List (S50)) (x16 : Int) (x17 : Int) (x22 : List (S50)) (x23 : Int) (x24 : Int) (x551000 : Int) (x551001 : Int) (x551002 : ByteArray) : Lim (fun k => spec_NotesInside.l1 k x1 x6 x7 x15 x16 x17 x22 x23 x24 x551000 x551001 x551002) (spec_NotesInside.L1 x1 x6 x7 x15 x16 x17 x22 x23 x24 x551000 x551001 x551002) := ⟨fun k => (spec_NotesInside.mono_l k).2 x1 x6 x7 x15 x16 x17 x22 x23 x24 x551000 x551001 x551002, rfl⟩
noncomputable def spec_NotesInside.F (l0 : List (S50)) (l1 : List (S50)) : Option ((List (List Int)) × Bool) := lim fun k => spec_NotesInside.f k l0 l1
theorem spec_NotesInside.F_lim (l0 : List (S50)) (l1 : List (S50)) : Lim (fun k => spec_NotesInside.f k l0 l1) (spec_NotesInside.F l0 l1) := ⟨spec_NotesInside.mono l0 l1, rfl⟩
theorem spec_NotesInside.L0_eq (x1 : List (S50)) (x6 : List (List Int)) (x15 : List (S50)) (x16 : Int) (x17 : Int) : spec_NotesInside.L0 x1 x6 x15 x16 x17 = (if x17 < x16 then (if 0 ≤ x17 then (if x17 < (x15.length : Int) then (spec_NotesInside.L1 x1 x6 x17 x15 x16 x17 x1 (x1.length : Int) 0 ((rd_T50 x15 x17).f0) ((rd_T50 x15 x17).f1) ((rd_T50 x15 x17).f2)) else (none)) else (none)) else (some (x6, true))) := by
  refine Lim.succ_eq (spec_NotesInside.L0_lim x1 x6 x15 x16 x17).mon ?_
  simp only [spec_NotesInside.l0]
  repeat' first
  | (with_reducible exact spec_NotesInside.L0_lim _ _ _ _ _)
  | (with_reducible exact spec_NotesInside.L1_lim _ _ _ _ _ _ _ _ _ _ _ _)
  | (with_reducible exact spec_meBoth.F_lim _ _)
  | (with_reducible refine Lim.ite ?_ ?_)
  | (with_reducible refine Lim.bind ?_ (fun _ => ?_))
  | (with_reducible exact Lim.const _)
theorem spec_NotesInside.L1_eq (x1 : List (S50)) (x6 : List (List Int)) (x7 : Int) (x15 : List (S50)) (x16 : Int) (x17 : Int) (x22 : List (S50)) (x23 : Int) (x24 : Int) (x551000 : Int) (x551001 : Int) (x551002 : ByteArray) : spec_NotesInside.L1 x1 x6 x7 x15 x16 x17 x22 x23 x24 x551000 x551001 x551002 = (if x24 < x23 then (if 0 ≤ x24 then (if x24 < (x22.length : Int) then (if x551000 ≥ ((rd_T50 x22 x24).f0) then (if x551001 ≤ ((rd_T50 x22 x24).f1) then (if x6.length < 5864062014805 then (spec_NotesInside.L1 x1 (x6 ++ [(([x7, x24] : List Int))]) x7 x15 x16 x17 x22 x23 (wrap64 (x24 + 1)) x551000 x551001 x551002) else (none)) else (spec_NotesInside.L1 x1 x6 x7 x15 x16 x17 x22 x23 (wrap64 (x24 + 1)) x551000 x551001 x551002)) else (spec_NotesInside.L1 x1 x6 x7 x15 x16 x17 x22 x23 (wrap64 (x24 + 1)) x551000 x551001 x551002)) else (none)) else (none)) else (spec_NotesInside.L0 x1 x6 x15 x16 (wrap64 (x17 + 1)))) := by
  refine Lim.succ_eq (spec_NotesInside.L1_lim x1 x6 x7 x15 x16 x17 x22 x23 x24 x551000 x551001 x551002).mon ?_
  simp only [spec_NotesInside.l1]
  repeat' first
  | (with_reducible exact spec_NotesInside.L0_lim _ _ _ _ _)
  | (with_reducible exact spec_NotesInside.L1_lim _ _ _ _ _ _ _ _ _ _ _ _)
  | (with_reducible exact spec_meBoth.F_lim _ _)
  | (with_reducible refine Lim.ite ?_ ?_)
  | (with_reducible refine Lim.bind ?_ (fun _ => ?_))
  | (with_reducible exact Lim.const _)
theorem spec_NotesInside.F_eq (l0 : List (S50)) (l1 : List (S50)) : spec_NotesInside.F l0 l1 = ((spec_meBoth.F l0 l1).bind fun t548 => (if t548 = true then (spec_NotesInside.L0 l1 ([] : List (List Int)) l0 (l0.length : Int) 0) else (some (([] : List (List Int)), false)))) := by
  refine Lim.eq_ ?_
  simp only [spec_NotesInside.f]
  repeat' first
  | (with_reducible exact spec_NotesInside.L0_lim _ _ _ _ _)
  | (with_reducible exact spec_NotesInside.L1_lim _ _ _ _ _ _ _ _ _ _ _ _)
  | (with_reducible exact spec_meBoth.F_lim _ _)
  | (with_reducible refine Lim.ite ?_ ?_)
  | (with_reducible refine Lim.bind ?_ (fun _ => ?_))
  | (with_reducible exact Lim.const _)
def spec_DrawLongNotes.f (k : Nat) (l0 : List Int) : Option ((List (S50)) × Int) := (spec_l1Cur_tier.f k l0 0 0).bind fun bt560 => ((spec_l1Cur_among.f l0 bt560.2.1 bt560.2.2 (([8, (-1), 100000] : List Int))).bind fun bt568 => ((spec_l1Cur_among.f l0 bt568.2.1 bt568.2.2 (([0, 1, 5, 6, 20, 99999, bt568.1] : List Int))).bind fun bt574 => (some (bt560.1, bt574.1))))
theorem spec_DrawLongNotes.mono : ∀ a0 k, LeO (spec_DrawLongNotes.f k a0) (spec_DrawLongNotes.f (k + 1) a0) := by
  intro a0 k
  unfold spec_DrawLongNotes.f
  repeat' first
      | (with_reducible exact spec_l1Cur_tier.mono _ _ _ _)
      | (with_reducible exact LeO.refl _)
      | (with_reducible exact LeO.none _)
      | (with_reducible refine LeO.ite ?_ ?_)
      | (with_reducible refine LeO.bind ?_ (fun _ => ?_))
noncomputable def spec_DrawLongNotes.F (l0 : List Int) : Option ((List (S50)) × Int) := lim fun k => spec_DrawLongNotes.f k l0
theorem spec_DrawLongNotes.F_lim (l0 : List Int) : Lim (fun k => spec_DrawLongNotes.f k l0) (spec_DrawLongNotes.F l0) := ⟨spec_DrawLongNotes.mono l0, rfl⟩
theorem spec_DrawLongNotes.F_eq (l0 : List Int) : spec_DrawLongNotes.F l0 = ((spec_l1Cur_tier.F l0 0 0).bind fun bt560 => ((spec_l1Cur_among.f l0 bt560.2.1 bt560.2.2 (([8, (-1), 100000] : List Int))).bind fun bt568 => ((spec_l1Cur_among.f l0 bt568.2.1 bt568.2.2 (([0, 1, 5, 6, 20, 99999, bt568.1] : List Int))).bind fun bt574 => (some (bt560.1, bt574.1))))) := by
  refine Lim.eq_ ?_
  simp only [spec_DrawLongNotes.f]
  repeat' first
  | (with_reducible exact spec_l1Cur_tier.F_lim _ _ _)
  | (with_reducible refine Lim.ite ?_ ?_)
  | (with_reducible refine Lim.bind ?_ (fun _ => ?_))
  | (with_reducible exact Lim.const _)
def impl_LongNotes_1.f (a0_0 : Int) (a0_1 : Int) (a0_2 : ByteArray) (a1_0 : Int) : Option (Bool) := some (decide ((wrap64 (a0_1 - a0_0)) ≥ a1_0))
def impl_those_Note_impl_LongNotes_1.l0 : Nat → List Int → List (S50) → Int → Int → Int → Option (List Int)
  | 0, _, _, _, _, _ => none
  | k + 1, x5, x8, x9, x10, x39000 => if x10 < x9 then (if 0 ≤ x10 then (if x10 < (x8.length : Int) then ((impl_LongNotes_1.f ((rd_T50 x8 x10).f0) ((rd_T50 x8 x10).f1) ((rd_T50 x8 x10).f2) x39000).bind fun t580 => (if t580 = true then (if x5.length < 17592186044416 then (impl_those_Note_impl_LongNotes_1.l0 k (x5 ++ [x10]) x8 x9 (wrap64 (x10 + 1)) x39000) else (none)) else (impl_those_Note_impl_LongNotes_1.l0 k x5 x8 x9 (wrap64 (x10 + 1)) x39000))) else (none)) else (none)) else (some x5)
def impl_those_Note_impl_LongNotes_1.f (k : Nat) (l0 : List (S50)) (a1_0 : Int) : Option (List Int) := impl_those_Note_impl_LongNotes_1.l0 k ([] : List Int) l0 (l0.length : Int) 0 a1_0
theorem impl_those_Note_impl_LongNotes_1.mono_l : ∀ k, (∀ y0 y1 y2 y3 y4, LeO (impl_those_Note_impl_LongNotes_1.l0 k y0 y1 y2 y3 y4) (impl_those_Note_impl_LongNotes_1.l0 (k + 1) y0 y1 y2 y3 y4))
  | 0 => fun _ _ _ _ _ r h => by simp [impl_those_Note_impl_LongNotes_1.l0] at h
  | k + 1 => by
    have ih0 := impl_those_Note_impl_LongNotes_1.mono_l k
    · intro y0 y1 y2 y3 y4
      unfold impl_those_Note_impl_LongNotes_1.l0
      repeat' first
      | (with_reducible exact ih0 _ _ _ _ _)
      | (with_reducible exact LeO.refl _)
      | (with_reducible exact LeO.none _)
      | (with_reducible refine LeO.ite ?_ ?_)
      | (with_reducible refine LeO.bind ?_ (fun _ => ?_))
theorem impl_those_Note_impl_LongNotes_1.mono : ∀ a0 a1 k, LeO (impl_those_Note_impl_LongNotes_1.f k a0 a1) (impl_those_Note_impl_LongNotes_1.f (k + 1) a0 a1) := by
  intro a0 a1 k
  have ih0 := impl_those_Note_impl_LongNotes_1.mono_l k
  unfold impl_those_Note_impl_LongNotes_1.f
  repeat' first
      | (with_reducible exact ih0 _ _ _ _ _)
      | (with_reducible exact LeO.refl _)
      | (with_reducible exact LeO.none _)
      | (with_reducible refine LeO.ite ?_ ?_)
      | (with_reducible refine LeO.bind ?_ (fun _ => ?_))
noncomputable def impl_those_Note_impl_LongNotes_1.L0 (x5 : List Int) (x8 : List (S50)) (x9 : Int) (x10 : Int) (x39000 : Int) : Option (List Int) := lim fun k => impl_those_Note_impl_LongNotes_1.l0 k x5 x8 x9 x10 x39000
theorem impl_those_Note_impl_LongNotes_1.L0_lim (x5 : List Int) (x8 : List (S50)) (x9 : Int) (x10 : Int) (x39000 : Int) : Lim (fun k => impl_those_Note_impl_LongNotes_1.l0 k x5 x8 x9 x10 x39000) (impl_those_Note_impl_LongNotes_1.L0 x5 x8 x9 x10 x39000) := ⟨fun k => (impl_those_Note_impl_LongNotes_1.mono_l k) x5 x8 x9 x10 x39000, rfl⟩
noncomputable def impl_those_Note_impl_LongNotes_1.F (l0 : List (S50)) (a1_0 : Int) : Option (List Int) := lim fun k => impl_those_Note_impl_LongNotes_1.f k l0 a1_0
theorem impl_those_Note_impl_LongNotes_1.F_lim (l0 : List (S50)) (a1_0 : Int) : Lim (fun k => impl_those_Note_impl_LongNotes_1.f k l0 a1_0) (impl_those_Note_impl_LongNotes_1.F l0 a1_0) := ⟨impl_those_Note_impl_LongNotes_1.mono l0 a1_0, rfl⟩
theorem impl_those_Note_impl_LongNotes_1.L0_eq (x5 : List Int) (x8 : List (S50)) (x9 : Int) (x10 : Int) (x39000 : Int) : impl_those_Note_impl_LongNotes_1.L0 x5 x8 x9 x10 x39000 = (if x10 < x9 then (if 0 ≤ x10 then (if x10 < (x8.length : Int) then ((impl_LongNotes_1.f ((rd_T50 x8 x10).f0) ((rd_T50 x8 x10).f1) ((rd_T50 x8 x10).f2) x39000).bind fun t580 => (if t580 = true then (if x5.length < 17592186044416 then (impl_those_Note_impl_LongNotes_1.L0 (x5 ++ [x10]) x8 x9 (wrap64 (x10 + 1)) x39000) else (none)) else (impl_those_Note_impl_LongNotes_1.L0 x5 x8 x9 (wrap64 (x10 + 1)) x39000))) else (none)) else (none)) else (some x5)) := by
  refine Lim.succ_eq (impl_those_Note_impl_LongNotes_1.L0_lim x5 x8 x9 x10 x39000).mon ?_
  simp only [impl_those_Note_impl_LongNotes_1.l0]
  repeat' first
  | (with_reducible exact impl_those_Note_impl_LongNotes_1.L0_lim _ _ _ _ _)
  | (with_reducible refine Lim.ite ?_ ?_)
  | (with_reducible refine Lim.bind ?_ (fun _ => ?_))
  | (with_reducible exact Lim.const _)
theorem impl_those_Note_impl_LongNotes_1.F_eq (l0 : List (S50)) (a1_0 : Int) : impl_those_Note_impl_LongNotes_1.F l0 a1_0 = (impl_those_Note_impl_LongNotes_1.L0 ([] : List Int) l0 (l0.length : Int) 0 a1_0) := by
  refine Lim.eq_ ?_
  simp only [impl_those_Note_impl_LongNotes_1.f]
  repeat' first
  | (with_reducible exact impl_those_Note_impl_LongNotes_1.L0_lim _ _ _ _ _)
  | (with_reducible refine Lim.ite ?_ ?_)
  | (with_reducible refine Lim.bind ?_ (fun _ => ?_))
  | (with_reducible exact Lim.const _)
def impl_LongNotes.f (k : Nat) (l0 : List (S50)) (a1 : Int) : Option (List Int × Bool) := (impl_IsTier.f k l0).bind fun t585 => (if t585 = true then ((impl_isFrame.f a1).bind fun t586 => (if t586 = true then ((impl_those_Note_impl_LongNotes_1.f k l0 a1).bind fun t587 => (some (t587, true))) else (some (([] : List Int), false)))) else (some (([] : List Int), false)))
theorem impl_LongNotes.mono : ∀ a0 a1 k, LeO (impl_LongNotes.f k a0 a1) (impl_LongNotes.f (k + 1) a0 a1) := by
  intro a0 a1 k
  unfold impl_LongNotes.f
  repeat' first
      | (with_reducible exact impl_IsTier.mono _ _)
      | (with_reducible exact impl_those_Note_impl_LongNotes_1.mono _ _ _)
      | (with_reducible exact LeO.refl _)
      | (with_reducible exact LeO.none _)
      | (with_reducible refine LeO.ite ?_ ?_)
      | (with_reducible refine LeO.bind ?_ (fun _ => ?_))
noncomputable def impl_LongNotes.F (l0 : List (S50)) (a1 : Int) : Option (List Int × Bool) := lim fun k => impl_LongNotes.f k l0 a1
theorem impl_LongNotes.F_lim (l0 : List (S50)) (a1 : Int) : Lim (fun k => impl_LongNotes.f k l0 a1) (impl_LongNotes.F l0 a1) := ⟨impl_LongNotes.mono l0 a1, rfl⟩
theorem impl_LongNotes.F_eq (l0 : List (S50)) (a1 : Int) : impl_LongNotes.F l0 a1 = ((impl_IsTier.F l0).bind fun t585 => (if t585 = true then ((impl_isFrame.f a1).bind fun t586 => (if t586 = true then ((impl_those_Note_impl_LongNotes_1.F l0 a1).bind fun t587 => (some (t587, true))) else (some (([] : List Int), false)))) else (some (([] : List Int), false)))) := by
  refine Lim.eq_ ?_
  simp only [impl_LongNotes.f]
  repeat' first
  | (with_reducible exact impl_IsTier.F_lim _)
  | (with_reducible exact impl_those_Note_impl_LongNotes_1.F_lim _ _)
  | (with_reducible refine Lim.ite ?_ ?_)
  | (with_reducible refine Lim.bind ?_ (fun _ => ?_))
  | (with_reducible exact Lim.const _)
mutual
def spec_LongNotes.j0 : Nat → List (S50) → Int → Bool → Option (List Int × Bool)
  | 0, _, _, _ => none
  | k + 1, x0, x1, x16 => if x16 = true then (some (([] : List Int), false)) else (spec_LongNotes.l0 k x1 ([] : List Int) x0 (x0.length : Int) 0)
def spec_LongNotes.l0 : Nat → Int → List Int → List (S50) → Int → Int → Option (List Int × Bool)
  | 0, _, _, _, _, _ => none
  | k + 1, x1, x6, x17, x18, x19 => if x19 < x18 then (if 0 ≤ x19 then (if x19 < (x17.length : Int) then (if (wrap64 (((rd_T50 x17 x19).f1) - ((rd_T50 x17 x19).f0))) ≥ x1 then (if x6.length < 17592186044416 then (spec_LongNotes.l0 k x1 (x6 ++ [x19]) x17 x18 (wrap64 (x19 + 1))) else (none)) else (spec_LongNotes.l0 k x1 x6 x17 x18 (wrap64 (x19 + 1)))) else (none)) else (none)) else (some (x6, true))
end
def spec_LongNotes.f (k : Nat) (l0 : List (S50)) (a1 : Int) : Option (List Int × Bool) := (spec_tiGood.f k l0).bind fun t590 => (if t590 = true then ((spec_tiFrame.f a1).bind fun t591 => (spec_LongNotes.j0 k l0 a1 (!t591))) else (spec_LongNotes.j0 k l0 a1 true))
theorem spec_LongNotes.mono_l : ∀ k, (∀ y0 y1 y2, LeO (spec_LongNotes.j0 k y0 y1 y2) (spec_LongNotes.j0 (k + 1) y0 y1 y2)) ∧ (∀ y0 y1 y2 y3 y4, LeO (spec_LongNotes.l0 k y0 y1 y2 y3 y4) (spec_LongNotes.l0 (k + 1) y0 y1 y2 y3 y4))
  | 0 => ⟨fun _ _ _ r h => by simp [spec_LongNotes.j0] at h, fun _ _ _ _ _ r h => by simp [spec_LongNotes.l0] at h⟩
  | k + 1 => by
    obtain ⟨ih0, ih1⟩ := spec_LongNotes.mono_l k
    refine ⟨?_, ?_⟩
    · intro y0 y1 y2
      unfold spec_LongNotes.j0
      repeat' first
      | (with_reducible exact ih0 _ _ _)
      | (with_reducible exact ih1 _ _ _ _ _)
      | (with_reducible exact spec_tiGood.mono _ _)
      | (with_reducible exact LeO.refl _)
      | (with_reducible exact LeO.none _)
      | (with_reducible refine LeO.ite ?_ ?_)
      | (with_reducible refine LeO.bind ?_ (fun _ => ?_))
    · intro y0 y1 y2 y3 y4
      unfold spec_LongNotes.l0
      repeat' first
      | (with_reducible exact ih0 _ _ _)
      | (with_reducible exact ih1 _ _ _ _ _)
      | (with_reducible exact spec_tiGood.mono _ _)
      | (with_reducible exact LeO.refl _)
      | (with_reducible exact LeO.none _)
      | (with_reducible refine LeO.ite ?_ ?_)
      | (with_reducible refine LeO.bind ?_ (fun _ => ?_))
theorem spec_LongNotes.mono : ∀ a0 a1 k, LeO (spec_LongNotes.f k a0 a1) (spec_LongNotes.f (k + 1) a0 a1) := by
  intro a0 a1 k
  obtain ⟨ih0, ih1⟩ := spec_LongNotes.mono_l k
  unfold spec_LongNotes.f
  repeat' first
      | (with_reducible exact ih0 _ _ _)
      | (with_reducible exact ih1 _ _ _ _ _)
      | (with_reducible exact spec_tiGood.mono _ _)
      | (with_reducible exact LeO.refl _)
      | (with_reducible exact LeO.none _)
      | (with_reducible refine LeO.ite ?_ ?_)
      | (with_reducible refine LeO.bind ?_ (fun _ => ?_))
noncomputable def spec_LongNotes.J0 (x0 : List (S50)) (x1 : Int) (x16 : Bool) : Option (List Int × Bool) := lim fun k => spec_LongNotes.j0 k x0 x1 x16
theorem spec_LongNotes.J0_lim (x0 : List (S50)) (x1 : Int) (x16 : Bool) : Lim (fun k => spec_LongNotes.j0 k x0 x1 x16) (spec_LongNotes.J0 x0 x1 x16) := ⟨fun k => (spec_LongNotes.mono_l k).1 x0 x1 x16, rfl⟩
noncomputable def spec_LongNotes.L0 (x1 : Int) (x6 : List Int) (x17 : List (S50)) (x18 : Int) (x19 : Int) : Option (List Int × Bool) := lim fun k => spec_LongNotes.l0 k x1 x6 x17 x18 x19
theorem spec_LongNotes.L0_lim (x1 : Int) (x6 : List Int) (x17 : List (S50)) (x18 : Int) (x19 : Int) : Lim (fun k => spec_LongNotes.l0 k x1 x6 x17 x18 x19) (spec_LongNotes.L0 x1 x6 x17 x18 x19) := ⟨fun k => (spec_LongNotes.mono_l k).2 x1 x6 x17 x18 x19, rfl⟩
noncomputable def spec_LongNotes.F (l0 : List (S50)) (a1 : Int) : Option (List Int × Bool) := lim fun k => spec_LongNotes.f k l0 a1
theorem spec_LongNotes.F_lim (l0 : List (S50)) (a1 : Int) : Lim (fun k => spec_LongNotes.f k l0 a1) (spec_LongNotes.F l0 a1) := ⟨spec_LongNotes.mono l0 a1, rfl⟩
theorem spec_LongNotes.J0_eq (x0 : List (S50)) (x1 : Int) (x16 : Bool) : spec_LongNotes.J0 x0 x1 x16 = (if x16 = true then (some (([] : List Int), false)) else (spec_LongNotes.L0 x1 ([] : List Int) x0 (x0.length : Int) 0)) := by
  refine Lim.succ_eq (spec_LongNotes.J0_lim x0 x1 x16).mon ?_
  simp only [spec_LongNotes.j0]
  repeat' first
  | (with_reducible exact spec_LongNotes.J0_lim _ _ _)
  | (with_reducible exact spec_LongNotes.L0_lim _ _ _ _ _)
  | (with_reducible exact spec_tiGood.F_lim _)
  | (with_reducible refine Lim.ite ?_ ?_)
  | (with_reducible refine Lim.bind ?_ (fun _ => ?_))
  | (with_reducible exact Lim.const _)
theorem spec_LongNotes.L0_eq (x1 : Int) (x6 : List Int) (x17 : List (S50)) (x18 : Int) (x19 : Int) : spec_LongNotes.L0 x1 x6 x17 x18 x19 = (if x19 < x18 then (if 0 ≤ x19 then (if x19 < (x17.length : Int) then (if (wrap64 (((rd_T50 x17 x19).f1) - ((rd_T50 x17 x19).f0))) ≥ x1 then (if x6.length < 17592186044416 then (spec_LongNotes.L0 x1 (x6 ++ [x19]) x17 x18 (wrap64 (x19 + 1))) else (none)) else (spec_LongNotes.L0 x1 x6 x17 x18 (wrap64 (x19 + 1)))) else (none)) else (none)) else (some (x6, true))) := by
  refine Lim.succ_eq (spec_LongNotes.L0_lim x1 x6 x17 x18 x19).mon ?_
  simp only [spec_LongNotes.l0]
  repeat' first
  | (with_reducible exact spec_LongNotes.J0_lim _ _ _)
  | (with_reducible exact spec_LongNotes.L0_lim _ _ _ _ _)
  | (with_reducible exact spec_tiGood.F_lim _)
  | (with_reducible refine Lim.ite ?_ ?_)
  | (with_reducible refine Lim.bind ?_ (fun _ => ?_))
  | (with_reducible exact Lim.const _)
theorem spec_LongNotes.F_eq (l0 : List (S50)) (a1 : Int) : spec_LongNotes.F l0 a1 = ((spec_tiGood.F l0).bind fun t590 => (if t590 = true then ((spec_tiFrame.f a1).bind fun t591 => (spec_LongNotes.J0 l0 a1 (!t591))) else (spec_LongNotes.J0 l0 a1 true))) := by
  refine Lim.eq_ ?_
  simp only [spec_LongNotes.f]
  repeat' first
  | (with_reducible exact spec_LongNotes.J0_lim _ _ _)
  | (with_reducible exact spec_LongNotes.L0_lim _ _ _ _ _)
  | (with_reducible exact spec_tiGood.F_lim _)
  | (with_reducible refine Lim.ite ?_ ?_)
  | (with_reducible refine Lim.bind ?_ (fun _ => ?_))
  | (with_reducible exact Lim.const _)
def spec_DrawLongestGap.f (k : Nat) (l0 : List Int) : Option ((List (S50))) := (spec_DrawIsTier.f k l0).bind fun t597 => (some t597)
theorem spec_DrawLongestGap.mono : ∀ a0 k, LeO (spec_DrawLongestGap.f k a0) (spec_DrawLongestGap.f (k + 1) a0) := by
  intro a0 k
  unfold spec_DrawLongestGap.f
  repeat' first
      | (with_reducible exact spec_DrawIsTier.mono _ _)
      | (with_reducible exact LeO.refl _)
      | (with_reducible exact LeO.none _)
      | (with_reducible refine LeO.ite ?_ ?_)
      | (with_reducible refine LeO.bind ?_ (fun _ => ?_))
noncomputable def spec_DrawLongestGap.F (l0 : List Int) : Option ((List (S50))) := lim fun k => spec_DrawLongestGap.f k l0
theorem spec_DrawLongestGap.F_lim (l0 : List Int) : Lim (fun k => spec_DrawLongestGap.f k l0) (spec_DrawLongestGap.F l0) := ⟨spec_DrawLongestGap.mono l0, rfl⟩
theorem spec_DrawLongestGap.F_eq (l0 : List Int) : spec_DrawLongestGap.F l0 = ((spec_DrawIsTier.F l0).bind fun t597 => (some t597)) := by
  refine Lim.eq_ ?_
  simp only [spec_DrawLongestGap.f]
  repeat' first
  | (with_reducible exact spec_DrawIsTier.F_lim _)
  | (with_reducible refine Lim.ite ?_ ?_)
  | (with_reducible refine Lim.bind ?_ (fun _ => ?_))
  | (with_reducible exact Lim.const _)
def impl_LongestGap_1.f (a0 : Int) (l1_0 : List (S50)) : Option (Int) := if 0 ≤ (wrap64 (a0 + 1)) then (if (wrap64 (a0 + 1)) < (l1_0.length : Int) then (if 0 ≤ a0 then (if a0 < (l1_0.length : Int) then (some (wrap64 (((rd_T50 l1_0 (wrap64 (a0 + 1))).f0) - ((rd_T50 l1_0 a0).f1)))) else (none)) else (none)) else (none)) else (none)
mutual
def impl_LongestGap.j0 : Nat → Bool → List (S50) → Option (Int × Int × Bool)
  | 0, _, _ => none
  | k + 1, x15, x603000 => if x15 = true then (some (0, 0, false)) else (impl_LongestGap.l0 k 0 (wrap64 ((x603000.length : Int) - 1)) 0 x603000)
def impl_LongestGap.l0 : Nat → Int → Int → Int → List (S50) → Option (Int × Int × Bool)
  | 0, _, _, _, _ => none
  | k + 1, x5, x19, x20, x603000 => if x20 < x19 then ((impl_LongestGap_1.f x20 x603000).bind fun t605 => ((impl_LongestGap_1.f x5 x603000).bind fun t606 => (if t605 > t606 then (impl_LongestGap.l0 k x20 x19 (wrap64 (x20 + 1)) x603000) else (impl_LongestGap.l0 k x5 x19 (wrap64 (x20 + 1)) x603000)))) else ((impl_LongestGap_1.f x5 x603000).bind fun t604 => (some (x5, t604, true)))
end
def impl_LongestGap.f (k : Nat) (l0 : List (S50)) : Option (Int × Int × Bool) := (impl_IsTier.f k l0).bind fun t603 => (if t603 = true then (impl_LongestGap.j0 k (decide ((l0.length : Int) < 2)) l0) else (impl_LongestGap.j0 k true l0))
theorem impl_LongestGap.mono_l : ∀ k, (∀ y0 y1, LeO (impl_LongestGap.j0 k y0 y1) (impl_LongestGap.j0 (k + 1) y0 y1)) ∧ (∀ y0 y1 y2 y3, LeO (impl_LongestGap.l0 k y0 y1 y2 y3) (impl_LongestGap.l0 (k + 1) y0 y1 y2 y3))
  | 0 => ⟨fun _ _ r h => by simp [impl_LongestGap.j0] at h, fun _ _ _ _ r h => by simp [impl_LongestGap.l0] at h⟩
  | k + 1 => by
    obtain ⟨ih0, ih1⟩ := impl_LongestGap.mono_l k
    refine ⟨?_, ?_⟩
    · intro y0 y1
      unfold impl_LongestGap.j0
      repeat' first
      | (with_reducible exact ih0 _ _)
      | (with_reducible exact ih1 _ _ _ _)
      | (with_reducible exact impl_IsTier.mono _ _)
      | (with_reducible exact LeO.refl _)
      | (with_reducible exact LeO.none _)
      | (with_reducible refine LeO.ite ?_ ?_)
      | (with_reducible refine LeO.bind ?_ (fun _ => ?_))
    · intro y0 y1 y2 y3
      unfold impl_LongestGap.l0
      repeat' first
      | (with_reducible exact ih0 _ _)
      | (with_reducible exact ih1 _ _ _ _)
      | (with_reducible exact impl_IsTier.mono _ _)
      | (with_reducible exact LeO.refl _)
      | (with_reducible exact LeO.none _)
      | (with_reducible refine LeO.ite ?_ ?_)
      | (with_reducible refine LeO.bind ?_ (fun _ => ?_))
theorem impl_LongestGap.mono : ∀ a0 k, LeO (impl_LongestGap.f k a0) (impl_LongestGap.f (k + 1) a0) := by
  intro a0 k
  obtain ⟨ih0, ih1⟩ := impl_LongestGap.mono_l k
  unfold impl_LongestGap.f
  repeat' first
      | (with_reducible exact ih0 _ _)
      | (with_reducible exact ih1 _ _ _ _)
      | (with_reducible exact impl_IsTier.mono _ _)
      | (with_reducible exact LeO.refl _)
      | (with_reducible exact LeO.none _)
      | (with_reducible refine LeO.ite ?_ ?_)
      | (with_reducible refine LeO.bind ?_ (fun _ => ?_))
noncomputable def impl_LongestGap.J0 (x15 : Bool) (x603000 : List (S50)) : Option (Int × Int × Bool) := lim fun k => impl_LongestGap.j0 k x15 x603000
theorem impl_LongestGap.J0_lim (x15 : Bool) (x603000 : List (S50)) : Lim (fun k => impl_LongestGap.j0 k x15 x603000) (impl_LongestGap.J0 x15 x603000) := ⟨fun k => (impl_LongestGap.mono_l k).1 x15 x603000, rfl⟩
noncomputable def impl_LongestGap.L0 (x5 : Int) (x19 : Int) (x20 : Int) (x603000 : List (S50)) : Option (Int × Int × Bool) := lim fun k => impl_LongestGap.l0 k x5 x19 x20 x603000
theorem impl_LongestGap.L0_lim (x5 : Int) (x19 : Int) (x20 : Int) (x603000 : List (S50)) : Lim (fun k => impl_LongestGap.l0 k x5 x19 x20 x603000) (impl_LongestGap.L0 x5 x19 x20 x603000) := ⟨fun k => (impl_LongestGap.mono_l k).2 x5 x19 x20 x603000, rfl⟩
noncomputable def impl_LongestGap.F (l0 : List (S50)) : Option (Int × Int × Bool) := lim fun k => impl_LongestGap.f k l0
theorem impl_LongestGap.F_lim (l0 : List (S50)) : Lim (fun k => impl_LongestGap.f k l0) (impl_LongestGap.F l0) := ⟨impl_LongestGap.mono l0, rfl⟩
theorem impl_LongestGap.J0_eq (x15 : Bool) (x603000 : List (S50)) : impl_LongestGap.J0 x15 x603000 = (if x15 = true then (some (0, 0, false)) else (impl_LongestGap.L0 0 (wrap64 ((x603000.length : Int) - 1)) 0 x603000)) := by
  refine Lim.succ_eq (impl_LongestGap.J0_lim x15 x603000).mon ?_
  simp only [impl_LongestGap.j0]
  repeat' first
  | (with_reducible exact impl_LongestGap.J0_lim _ _)
  | (with_reducible exact impl_LongestGap.L0_lim _ _ _ _)
  | (with_reducible exact impl_IsTier.F_lim _)
  | (with_reducible refine Lim.ite ?_ ?_)
  | (with_reducible refine Lim.bind ?_ (fun _ => ?_))
  | (with_reducible exact Lim.const _)
theorem impl_LongestGap.L0_eq (x5 : Int) (x19 : Int) (x20 : Int) (x603000 : List (S50)) : impl_LongestGap.L0 x5 x19 x20 x603000 = (if x20 < x19 then ((impl_LongestGap_1.f x20 x603000).bind fun t605 => ((impl_LongestGap_1.f x5 x603000).bind fun t606 => (if t605 > t606 then (impl_LongestGap.L0 x20 x19 (wrap64 (x20 + 1)) x603000) else (impl_LongestGap.L0 x5 x19 (wrap64 (x20 + 1)) x603000)))) else ((impl_LongestGap_1.f x5 x603000).bind fun t604 => (some (x5, t604, true)))) := by
  refine Lim.succ_eq (impl_LongestGap.L0_lim x5 x19 x20 x603000).mon ?_
  simp only [impl_LongestGap.l0]
  repeat' first
  | (with_reducible exact impl_LongestGap.J0_lim _ _)
  | (with_reducible exact impl_LongestGap.L0_lim _ _ _ _)
  | (with_reducible exact impl_IsTier.F_lim _)
  | (with_reducible refine Lim.ite ?_ ?_)
  | (with_reducible refine Lim.bind ?_ (fun _ => ?_))
  | (with_reducible exact Lim.const _)
theorem impl_LongestGap.F_eq (l0 : List (S50)) : impl_LongestGap.F l0 = ((impl_IsTier.F l0).bind fun t603 => (if t603 = true then (impl_LongestGap.J0 (decide ((l0.length : Int) < 2)) l0) else (impl_LongestGap.J0 true l0))) := by
  refine Lim.eq_ ?_
  simp only [impl_LongestGap.f]
  repeat' first
  | (with_reducible exact impl_LongestGap.J0_lim _ _)
  | (with_reducible exact impl_LongestGap.L0_lim _ _ _ _)
  | (with_reducible exact impl_IsTier.F_lim _)
  | (with_reducible refine Lim.ite ?_ ?_)
  | (with_reducible refine Lim.bind ?_ (fun _ => ?_))
  | (with_reducible exact Lim.const _)
mutual
def spec_LongestGap.j0 : Nat → List (S50) → Bool → Option (Int × Int × Bool)
  | 0, _, _ => none
  | k + 1, x0, x16 => if x16 = true then (some (0, 0, false)) else (spec_LongestGap.l0 k x0 0 (-1) 0)
def spec_LongestGap.l0 : Nat → List (S50) → Int → Int → Int → Option (Int × Int × Bool)
  | 0, _, _, _, _ => none
  | k + 1, x0, x5, x6, x7 => if (wrap64 (x7 + 1)) < (x0.length : Int) then (if 0 ≤ (wrap64 (x7 + 1)) then (if 0 ≤ x7 then (if x7 < (x0.length : Int) then (if (wrap64 (((rd_T50 x0 (wrap64 (x7 + 1))).f0) - ((rd_T50 x0 x7).f1))) > x6 then (spec_LongestGap.l0 k x0 x7 (wrap64 (((rd_T50 x0 (wrap64 (x7 + 1))).f0) - ((rd_T50 x0 x7).f1))) (wrap64 (x7 + 1))) else (spec_LongestGap.l0 k x0 x5 x6 (wrap64 (x7 + 1)))) else (none)) else (none)) else (none)) else (some (x5, x6, true))
end
def spec_LongestGap.f (k : Nat) (l0 : List (S50)) : Option (Int × Int × Bool) := (spec_tiGood.f k l0).bind fun t607 => (if t607 = true then (spec_LongestGap.j0 k l0 (decide ((l0.length : Int) < 2))) else (spec_LongestGap.j0 k l0 true))
theorem spec_LongestGap.mono_l : ∀ k, (∀ y0 y1, LeO (spec_LongestGap.j0 k y0 y1) (spec_LongestGap.j0 (k + 1) y0 y1)) ∧ (∀ y0 y1 y2 y3, LeO (spec_LongestGap.l0 k y0 y1 y2 y3) (spec_LongestGap.l0 (k + 1) y0 y1 y2 y3))
  | 0 => ⟨fun _ _ r h => by simp [spec_LongestGap.j0] at h, fun _ _ _ _ r h => by simp [spec_LongestGap.l0] at h⟩
  | k + 1 => by
    obtain ⟨ih0, ih1⟩ := spec_LongestGap.mono_l k
    refine ⟨?_, ?_⟩
    · intro y0 y1
      unfold spec_LongestGap.j0
      repeat' first
      | (with_reducible exact ih0 _ _)
      | (with_reducible exact ih1 _ _ _ _)
      | (with_reducible exact spec_tiGood.mono _ _)
      | (with_reducible exact LeO.refl _)
      | (with_reducible exact LeO.none _)
      | (with_reducible refine LeO.ite ?_ ?_)
      | (with_reducible refine LeO.bind ?_ (fun _ => ?_))
    · intro y0 y1 y2 y3
      unfold spec_LongestGap.l0
      repeat' first
      | (with_reducible exact ih0 _ _)
      | (with_reducible exact ih1 _ _ _ _)
      | (with_reducible exact spec_tiGood.mono _ _)
      | (with_reducible exact LeO.refl _)
      | (with_reducible exact LeO.none _)
      | (with_reducible refine LeO.ite ?_ ?_)
      | (with_reducible refine LeO.bind ?_ (fun _ => ?_))
theorem spec_LongestGap.mono : ∀ a0 k, LeO (spec_LongestGap.f k a0) (spec_LongestGap.f (k + 1) a0) := by
  intro a0 k
  obtain ⟨ih0, ih1⟩ := spec_LongestGap.mono_l k
  unfold spec_LongestGap.f
  repeat' first
      | (with_reducible exact ih0 _ _)
      | (with_reducible exact ih1 _ _ _ _)
      | (with_reducible exact spec_tiGood.mono _ _)
      | (with_reducible exact LeO.refl _)
      | (with_reducible exact LeO.none _)
      | (with_reducible refine LeO.ite ?_ ?_)
      | (with_reducible refine LeO.bind ?_ (fun _ => ?_))
noncomputable def spec_LongestGap.J0 (x0 : List (S50)) (x16 : Bool) : Option (Int × Int × Bool) := lim fun k => spec_LongestGap.j0 k x0 x16
theorem spec_LongestGap.J0_lim (x0 : List (S50)) (x16 : Bool) : Lim (fun k => spec_LongestGap.j0 k x0 x16) (spec_LongestGap.J0 x0 x16) := ⟨fun k => (spec_LongestGap.mono_l k).1 x0 x16, rfl⟩
noncomputable def spec_LongestGap.L0 (x0 : List (S50)) (x5 : Int) (x6 : Int) (x7 : Int) : Option (Int × Int × Bool) := lim fun k => spec_LongestGap.l0 k x0 x5 x6 x7
theorem spec_LongestGap.L0_lim (x0 : List (S50)) (x5 : Int) (x6 : Int) (x7 : Int) : Lim (fun k => spec_LongestGap.l0 k x0 x5 x6 x7) (spec_LongestGap.L0 x0 x5 x6 x7) := ⟨fun k => (spec_LongestGap.mono_l k).2 x0 x5 x6 x7, rfl⟩
noncomputable def spec_LongestGap.F (l0 : List (S50)) : Option (Int × Int × Bool) := lim fun k => spec_LongestGap.f k l0
theorem spec_LongestGap.F_lim (l0 : List (S50)) : Lim (fun k => spec_LongestGap.f k l0) (spec_LongestGap.F l0) := ⟨spec_LongestGap.mono l0, rfl⟩
theorem spec_LongestGap.J0_eq (x0 : List (S50)) (x16 : Bool) : spec_LongestGap.J0 x0 x16 = (if x16 = true then (some (0, 0, false)) else (spec_LongestGap.L0 x0 0 (-1) 0)) := by
  refine Lim.succ_eq (spec_LongestGap.J0_lim x0 x16).mon ?_
  simp only [spec_LongestGap.j0]
  repeat' first
  | (with_reducible exact spec_LongestGap.J0_lim _ _)
  | (with_reducible exact spec_LongestGap.L0_lim _ _ _ _)
  | (with_reducible exact spec_tiGood.F_lim _)
  | (with_reducible refine Lim.ite ?_ ?_)
  | (with_reducible refine Lim.bind ?_ (fun _ => ?_))
  | (with_reducible exact Lim.const _)
theorem spec_LongestGap.L0_eq (x0 : List (S50)) (x5 : Int) (x6 : Int) (x7 : Int) : spec_LongestGap.L0 x0 x5 x6 x7 = (if (wrap64 (x7 + 1)) < (x0.length : Int) then (if 0 ≤ (wrap64 (x7 + 1)) then (if 0 ≤ x7 then (if x7 < (x0.length : Int) then (if (wrap64 (((rd_T50 x0 (wrap64 (x7 + 1))).f0) - ((rd_T50 x0 x7).f1))) > x6 then (spec_LongestGap.L0 x0 x7 (wrap64 (((rd_T50 x0 (wrap64 (x7 + 1))).f0) - ((rd_T50 x0 x7).f1))) (wrap64 (x7 + 1))) else (spec_LongestGap.L0 x0 x5 x6 (wrap64 (x7 + 1)))) else (none)) else (none)) else (none)) else (some (x5, x6, true))) := by
  refine Lim.succ_eq (spec_LongestGap.L0_lim x0 x5 x6 x7).mon ?_
  simp only [spec_LongestGap.l0]
  repeat' first
  | (with_reducible exact spec_LongestGap.J0_lim _ _)
  | (with_reducible exact spec_LongestGap.L0_lim _ _ _ _)
  | (with_reducible exact spec_tiGood.F_lim _)
  | (with_reducible refine Lim.ite ?_ ?_)
  | (with_reducible refine Lim.bind ?_ (fun _ => ?_))
  | (with_reducible exact Lim.const _)
theorem spec_LongestGap.F_eq (l0 : List (S50)) : spec_LongestGap.F l0 = ((spec_tiGood.F l0).bind fun t607 => (if t607 = true then (spec_LongestGap.J0 l0 (decide ((l0.length : Int) < 2))) else (spec_LongestGap.J0 l0 true))) := by
  refine Lim.eq_ ?_
  simp only [spec_LongestGap.f]
  repeat' first
  | (with_reducible exact spec_LongestGap.J0_lim _ _)
  | (with_reducible exact spec_LongestGap.L0_lim _ _ _ _)
  | (with_reducible exact spec_tiGood.F_lim _)
  | (with_reducible refine Lim.ite ?_ ?_)
  | (with_reducible refine Lim.bind ?_ (fun _ => ?_))
  | (with_reducible exact Lim.const _)
def laws_qTexts.l0 : Nat → List ByteArray → List ByteArray → Int → Int → Option (Bool)
  | 0, _, _, _, _ => none
  | k + 1, x0, x1, x12, x13 => if x13 < x12 then (if 0 ≤ x13 then (if x13 < (x0.length : Int) then (if x13 < (x1.length : Int) then (if (rdOf ByteArray.empty x0 x13).toList = (rdOf ByteArray.empty x1 x13).toList then (laws_qTexts.l0 k x0 x1 x12 (wrap64 (x13 + 1))) else (some false)) else (none)) else (none)) else (none)) else (some true)
def laws_qTexts.f (k : Nat) (l0 : List ByteArray) (l1 : List ByteArray) : Option (Bool) := if (l0.length : Int) = (l1.length : Int) then (laws_qTexts.l0 k l0 l1 (l0.length : Int) 0) else (some false)
theorem laws_qTexts.mono_l : ∀ k, (∀ y0 y1 y2 y3, LeO (laws_qTexts.l0 k y0 y1 y2 y3) (laws_qTexts.l0 (k + 1) y0 y1 y2 y3))
  | 0 => fun _ _ _ _ r h => by simp [laws_qTexts.l0] at h
  | k + 1 => by
    have ih0 := laws_qTexts.mono_l k
    · intro y0 y1 y2 y3
      unfold laws_qTexts.l0
      repeat' first
      | (with_reducible exact ih0 _ _ _ _)
      | (with_reducible exact LeO.refl _)
      | (with_reducible exact LeO.none _)
      | (with_reducible refine LeO.ite ?_ ?_)
      | (with_reducible refine LeO.bind ?_ (fun _ => ?_))
theorem laws_qTexts.mono : ∀ a0 a1 k, LeO (laws_qTexts.f k a0 a1) (laws_qTexts.f (k + 1) a0 a1) := by
  intro a0 a1 k
  have ih0 := laws_qTexts.mono_l k
  unfold laws_qTexts.f
  repeat' first
      | (with_reducible exact ih0 _ _ _ _)
      | (with_reducible exact LeO.refl _)
      | (with_reducible exact LeO.none _)
      | (with_reducible refine LeO.ite ?_ ?_)
      | (with_reducible refine LeO.bind ?_ (fun _ => ?_))
noncomputable def laws_qTexts.L0 (x0 : List ByteArray) (x1 : List ByteArray) (x12 : Int) (x13 : Int) : Option (Bool) := lim fun k => laws_qTexts.l0 k x0 x1 x12 x13
theorem laws_qTexts.L0_lim (x0 : List ByteArray) (x1 : List ByteArray) (x12 : Int) (x13 : Int) : Lim (fun k => laws_qTexts.l0 k x0 x1 x12 x13) (laws_qTexts.L0 x0 x1 x12 x13) := ⟨fun k => (laws_qTexts.mono_l k) x0 x1 x12 x13, rfl⟩
noncomputable def laws_qTexts.F (l0 : List ByteArray) (l1 : List ByteArray) : Option (Bool) := lim fun k => laws_qTexts.f k l0 l1
theorem laws_qTexts.F_lim (l0 : List ByteArray) (l1 : List ByteArray) : Lim (fun k => laws_qTexts.f k l0 l1) (laws_qTexts.F l0 l1) := ⟨laws_qTexts.mono l0 l1, rfl⟩
theorem laws_qTexts.L0_eq (x0 : List ByteArray) (x1 : List ByteArray) (x12 : Int) (x13 : Int) : laws_qTexts.L0 x0 x1 x12 x13 = (if x13 < x12 then (if 0 ≤ x13 then (if x13 < (x0.length : Int) then (if x13 < (x1.length : Int) then (if (rdOf ByteArray.empty x0 x13).toList = (rdOf ByteArray.empty x1 x13).toList then (laws_qTexts.L0 x0 x1 x12 (wrap64 (x13 + 1))) else (some false)) else (none)) else (none)) else (none)) else (some true)) := by
  refine Lim.succ_eq (laws_qTexts.L0_lim x0 x1 x12 x13).mon ?_
  simp only [laws_qTexts.l0]
  repeat' first
  | (with_reducible exact laws_qTexts.L0_lim _ _ _ _)
  | (with_reducible refine Lim.ite ?_ ?_)
  | (with_reducible refine Lim.bind ?_ (fun _ => ?_))
  | (with_reducible exact Lim.const _)
theorem laws_qTexts.F_eq (l0 : List ByteArray) (l1 : List ByteArray) : laws_qTexts.F l0 l1 = (if (l0.length : Int) = (l1.length : Int) then (laws_qTexts.L0 l0 l1 (l0.length : Int) 0) else (some false)) := by
  refine Lim.eq_ ?_
  simp only [laws_qTexts.f]
  repeat' first
  | (with_reducible exact laws_qTexts.L0_lim _ _ _ _)
  | (with_reducible refine Lim.ite ?_ ?_)
  | (with_reducible refine Lim.bind ?_ (fun _ => ?_))
  | (with_reducible exact Lim.const _)
def laws_qInts.l0 : Nat → List Int → List Int → Int → Int → Option (Bool)
  | 0, _, _, _, _ => none
  | k + 1, x0, x1, x12, x13 => if x13 < x12 then (if 0 ≤ x13 then (if x13 < (x0.length : Int) then (if x13 < (x1.length : Int) then (if (rd x0 x13) = (rd x1 x13) then (laws_qInts.l0 k x0 x1 x12 (wrap64 (x13 + 1))) else (some false)) else (none)) else (none)) else (none)) else (some true)
def laws_qInts.f (k : Nat) (l0 : List Int) (l1 : List Int) : Option (Bool) := if (l0.length : Int) = (l1.length : Int) then (laws_qInts.l0 k l0 l1 (l0.length : Int) 0) else (some false)
theorem laws_qInts.mono_l : ∀ k, (∀ y0 y1 y2 y3, LeO (laws_qInts.l0 k y0 y1 y2 y3) (laws_qInts.l0 (k + 1) y0 y1 y2 y3))
  | 0 => fun _ _ _ _ r h => by simp [laws_qInts.l0] at h
  | k + 1 => by
    have ih0 := laws_qInts.mono_l k
    · intro y0 y1 y2 y3
      unfold laws_qInts.l0
      repeat' first
      | (with_reducible exact ih0 _ _ _ _)
      | (with_reducible exact LeO.refl _)
      | (with_reducible exact LeO.none _)
      | (with_reducible refine LeO.ite ?_ ?_)
      | (with_reducible refine LeO.bind ?_ (fun _ => ?_))
theorem laws_qInts.mono : ∀ a0 a1 k, LeO (laws_qInts.f k a0 a1) (laws_qInts.f (k + 1) a0 a1) := by
  intro a0 a1 k
  have ih0 := laws_qInts.mono_l k
  unfold laws_qInts.f
  repeat' first
      | (with_reducible exact ih0 _ _ _ _)
      | (with_reducible exact LeO.refl _)
      | (with_reducible exact LeO.none _)
      | (with_reducible refine LeO.ite ?_ ?_)
      | (with_reducible refine LeO.bind ?_ (fun _ => ?_))
noncomputable def laws_qInts.L0 (x0 : List Int) (x1 : List Int) (x12 : Int) (x13 : Int) : Option (Bool) := lim fun k => laws_qInts.l0 k x0 x1 x12 x13
theorem laws_qInts.L0_lim (x0 : List Int) (x1 : List Int) (x12 : Int) (x13 : Int) : Lim (fun k => laws_qInts.l0 k x0 x1 x12 x13) (laws_qInts.L0 x0 x1 x12 x13) := ⟨fun k => (laws_qInts.mono_l k) x0 x1 x12 x13, rfl⟩
noncomputable def laws_qInts.F (l0 : List Int) (l1 : List Int) : Option (Bool) := lim fun k => laws_qInts.f k l0 l1
theorem laws_qInts.F_lim (l0 : List Int) (l1 : List Int) : Lim (fun k => laws_qInts.f k l0 l1) (laws_qInts.F l0 l1) := ⟨laws_qInts.mono l0 l1, rfl⟩
theorem laws_qInts.L0_eq (x0 : List Int) (x1 : List Int) (x12 : Int) (x13 : Int) : laws_qInts.L0 x0 x1 x12 x13 = (if x13 < x12 then (if 0 ≤ x13 then (if x13 < (x0.length : Int) then (if x13 < (x1.length : Int) then (if (rd x0 x13) = (rd x1 x13) then (laws_qInts.L0 x0 x1 x12 (wrap64 (x13 + 1))) else (some false)) else (none)) else (none)) else (none)) else (some true)) := by
  refine Lim.succ_eq (laws_qInts.L0_lim x0 x1 x12 x13).mon ?_
  simp only [laws_qInts.l0]
  repeat' first
  | (with_reducible exact laws_qInts.L0_lim _ _ _ _)
  | (with_reducible refine Lim.ite ?_ ?_)
  | (with_reducible refine Lim.bind ?_ (fun _ => ?_))
  | (with_reducible exact Lim.const _)
theorem laws_qInts.F_eq (l0 : List Int) (l1 : List Int) : laws_qInts.F l0 l1 = (if (l0.length : Int) = (l1.length : Int) then (laws_qInts.L0 l0 l1 (l0.length : Int) 0) else (some false)) := by
  refine Lim.eq_ ?_
  simp only [laws_qInts.f]
  repeat' first
  | (with_reducible exact laws_qInts.L0_lim _ _ _ _)
  | (with_reducible refine Lim.ite ?_ ?_)
  | (with_reducible refine Lim.bind ?_ (fun _ => ?_))
  | (with_reducible exact Lim.const _)
def laws_qLists.l0 : Nat → List (List Int) → List (List Int) → Int → Int → Option (Bool)
  | 0, _, _, _, _ => none
  | k + 1, x0, x1, x12, x13 => if x13 < x12 then (if 0 ≤ x13 then (if x13 < (x0.length : Int) then (if x13 < (x1.length : Int) then ((laws_qInts.f k (rd_L5 x0 x13) (rd_L5 x1 x13)).bind fun t616 => (if t616 = true then (laws_qLists.l0 k x0 x1 x12 (wrap64 (x13 + 1))) else (some false))) else (none)) else (none)) else (none)) else (some true)
def laws_qLists.f (k : Nat) (l0 : List (List Int)) (l1 : List (List Int)) : Option (Bool) := if (l0.length : Int) = (l1.length : Int) then (laws_qLists.l0 k l0 l1 (l0.length : Int) 0) else (some false)
theorem laws_qLists.mono_l : ∀ k, (∀ y0 y1 y2 y3, LeO (laws_qLists.l0 k y0 y1 y2 y3) (laws_qLists.l0 (k + 1) y0 y1 y2 y3))
  | 0 => fun _ _ _ _ r h => by simp [laws_qLists.l0] at h
  | k + 1 => by
    have ih0 := laws_qLists.mono_l k
    · intro y0 y1 y2 y3
      unfold laws_qLists.l0
      repeat' first
      | (with_reducible exact ih0 _ _ _ _)
      | (with_reducible exact laws_qInts.mono _ _ _)
      | (with_reducible exact LeO.refl _)
      | (with_reducible exact LeO.none _)
      | (with_reducible refine LeO.ite ?_ ?_)
      | (with_reducible refine LeO.bind ?_ (fun _ => ?_))
theorem laws_qLists.mono : ∀ a0 a1 k, LeO (laws_qLists.f k a0 a1) (laws_qLists.f (k + 1) a0 a1) := by
  intro a0 a1 k
  have ih0 := laws_qLists.mono_l k
  unfold laws_qLists.f
  repeat' first
      | (with_reducible exact ih0 _ _ _ _)
      | (with_reducible exact laws_qInts.mono _ _ _)
      | (with_reducible exact LeO.refl _)
      | (with_reducible exact LeO.none _)
      | (with_reducible refine LeO.ite ?_ ?_)
      | (with_reducible refine LeO.bind ?_ (fun _ => ?_))
noncomputable def laws_qLists.L0 (x0 : List (List Int)) (x1 : List (List Int)) (x12 : Int) (x13 : Int) : Option (Bool) := lim fun k => laws_qLists.l0 k x0 x1 x12 x13
theorem laws_qLists.L0_lim (x0 : List (List Int)) (x1 : List (List Int)) (x12 : Int) (x13 : Int) : Lim (fun k => laws_qLists.l0 k x0 x1 x12 x13) (laws_qLists.L0 x0 x1 x12 x13) := ⟨fun k => (laws_qLists.mono_l k) x0 x1 x12 x13, rfl⟩
noncomputable def laws_qLists.F (l0 : List (List Int)) (l1 : List (List Int)) : Option (Bool) := lim fun k => laws_qLists.f k l0 l1
theorem laws_qLists.F_lim (l0 : List (List Int)) (l1 : List (List Int)) : Lim (fun k => laws_qLists.f k l0 l1) (laws_qLists.F l0 l1) := ⟨laws_qLists.mono l0 l1, rfl⟩
theorem laws_qLists.L0_eq (x0 : List (List Int)) (x1 : List (List Int)) (x12 : Int) (x13 : Int) : laws_qLists.L0 x0 x1 x12 x13 = (if x13 < x12 then (if 0 ≤ x13 then (if x13 < (x0.length : Int) then (if x13 < (x1.length : Int) then ((laws_qInts.F (rd_L5 x0 x13) (rd_L5 x1 x13)).bind fun t616 => (if t616 = true then (laws_qLists.L0 x0 x1 x12 (wrap64 (x13 + 1))) else (some false))) else (none)) else (none)) else (none)) else (some true)) := by
  refine Lim.succ_eq (laws_qLists.L0_lim x0 x1 x12 x13).mon ?_
  simp only [laws_qLists.l0]
  repeat' first
  | (with_reducible exact laws_qLists.L0_lim _ _ _ _)
  | (with_reducible exact laws_qInts.F_lim _ _)
  | (with_reducible refine Lim.ite ?_ ?_)
  | (with_reducible refine Lim.bind ?_ (fun _ => ?_))
  | (with_reducible exact Lim.const _)
theorem laws_qLists.F_eq (l0 : List (List Int)) (l1 : List (List Int)) : laws_qLists.F l0 l1 = (if (l0.length : Int) = (l1.length : Int) then (laws_qLists.L0 l0 l1 (l0.length : Int) 0) else (some false)) := by
  refine Lim.eq_ ?_
  simp only [laws_qLists.f]
  repeat' first
  | (with_reducible exact laws_qLists.L0_lim _ _ _ _)
  | (with_reducible exact laws_qInts.F_lim _ _)
  | (with_reducible refine Lim.ite ?_ ?_)
  | (with_reducible refine Lim.bind ?_ (fun _ => ?_))
  | (with_reducible exact Lim.const _)
def impl_IsGloss.f (k : Nat) (a0 : ByteArray) : Option (Bool) := (impl_isWordOf.f k a0 (⟨#[65, 66, 67, 68, 69, 70, 71, 72, 73, 74, 75, 76, 77, 78, 79, 80, 81, 82, 83, 84, 85, 86, 87, 88, 89, 90]⟩ : ByteArray)).bind fun t617 => (some t617)
theorem impl_IsGloss.mono : ∀ a0 k, LeO (impl_IsGloss.f k a0) (impl_IsGloss.f (k + 1) a0) := by
  intro a0 k
  unfold impl_IsGloss.f
  repeat' first
      | (with_reducible exact impl_isWordOf.mono _ _ _)
      | (with_reducible exact LeO.refl _)
      | (with_reducible exact LeO.none _)
      | (with_reducible refine LeO.ite ?_ ?_)
      | (with_reducible refine LeO.bind ?_ (fun _ => ?_))
noncomputable def impl_IsGloss.F (a0 : ByteArray) : Option (Bool) := lim fun k => impl_IsGloss.f k a0
theorem impl_IsGloss.F_lim (a0 : ByteArray) : Lim (fun k => impl_IsGloss.f k a0) (impl_IsGloss.F a0) := ⟨impl_IsGloss.mono a0, rfl⟩
theorem impl_IsGloss.F_eq (a0 : ByteArray) : impl_IsGloss.F a0 = ((impl_isWordOf.F a0 (⟨#[65, 66, 67, 68, 69, 70, 71, 72, 73, 74, 75, 76, 77, 78, 79, 80, 81, 82, 83, 84, 85, 86, 87, 88, 89, 90]⟩ : ByteArray)).bind fun t617 => (some t617)) := by
  refine Lim.eq_ ?_
  simp only [impl_IsGloss.f]
  repeat' first
  | (with_reducible exact impl_isWordOf.F_lim _ _)
  | (with_reducible refine Lim.ite ?_ ?_)
  | (with_reducible refine Lim.bind ?_ (fun _ => ?_))
  | (with_reducible exact Lim.const _)
def impl_MatchesGloss.f (k : Nat) (a0 : ByteArray) (a1 : ByteArray) : Option (Bool × Bool) := (impl_isGlossPattern.f k a0).bind fun t618 => (if t618 = true then ((impl_IsGloss.f k a1).bind fun t619 => (if t619 = true then ((impl_fits.f k a0 a1).bind fun t620 => (some (t620, true))) else (some (false, false)))) else (some (false, false)))
theorem impl_MatchesGloss.mono : ∀ a0 a1 k, LeO (impl_MatchesGloss.f k a0 a1) (impl_MatchesGloss.f (k + 1) a0 a1) := by
  intro a0 a1 k
  unfold impl_MatchesGloss.f
  repeat' first
      | (with_reducible exact impl_IsGloss.mono _ _)
      | (with_reducible exact impl_fits.mono _ _ _)
      | (with_reducible exact impl_isGlossPattern.mono _ _)
      | (with_reducible exact LeO.refl _)
      | (with_reducible exact LeO.none _)
      | (with_reducible refine LeO.ite ?_ ?_)
      | (with_reducible refine LeO.bind ?_ (fun _ => ?_))
noncomputable def impl_MatchesGloss.F (a0 : ByteArray) (a1 : ByteArray) : Option (Bool × Bool) := lim fun k => impl_MatchesGloss.f k a0 a1
theorem impl_MatchesGloss.F_lim (a0 : ByteArray) (a1 : ByteArray) : Lim (fun k => impl_MatchesGloss.f k a0 a1) (impl_MatchesGloss.F a0 a1) := ⟨impl_MatchesGloss.mono a0 a1, rfl⟩
theorem impl_MatchesGloss.F_eq (a0 : ByteArray) (a1 : ByteArray) : impl_MatchesGloss.F a0 a1 = ((impl_isGlossPattern.F a0).bind fun t618 => (if t618 = true then ((impl_IsGloss.F a1).bind fun t619 => (if t619 = true then ((impl_fits.F a0 a1).bind fun t620 => (some (t620, true))) else (some (false, false)))) else (some (false, false)))) := by
  refine Lim.eq_ ?_
  simp only [impl_MatchesGloss.f]
  repeat' first
  | (with_reducible exact impl_IsGloss.F_lim _)
  | (with_reducible exact impl_fits.F_lim _ _)
  | (with_reducible exact impl_isGlossPattern.F_lim _)
  | (with_reducible refine Lim.ite ?_ ?_)
  | (with_reducible refine Lim.bind ?_ (fun _ => ?_))
  | (with_reducible exact Lim.const _)
def spec_tiAt.l0 : Nat → Int → List (S50) → Int → Int → Option (Int)
  | 0, _, _, _, _ => none
  | k + 1, x1, x7, x8, x9 => if x9 < x8 then (if 0 ≤ x9 then (if x9 < (x7.length : Int) then ((spec_l1In.f x1 ((rd_T50 x7 x9).f0) (wrap64 (((rd_T50 x7 x9).f1) - 1))).bind fun t623 => (if t623 = true then (some x9) else (spec_tiAt.l0 k x1 x7 x8 (wrap64 (x9 + 1))))) else (none)) else (none)) else (some (-1))
def spec_tiAt.f (k : Nat) (l0 : List (S50)) (a1 : Int) : Option (Int) := spec_tiAt.l0 k a1 l0 (l0.length : Int) 0
theorem spec_tiAt.mono_l : ∀ k, (∀ y0 y1 y2 y3, LeO (spec_tiAt.l0 k y0 y1 y2 y3) (spec_tiAt.l0 (k + 1) y0 y1 y2 y3))
  | 0 => fun _ _ _ _ r h => by simp [spec_tiAt.l0] at h
  | k + 1 => by
    have ih0 := spec_tiAt.mono_l k
    · intro y0 y1 y2 y3
      unfold spec_tiAt.l0
      repeat' first
      | (with_reducible exact ih0 _ _ _ _)
      | (with_reducible exact LeO.refl _)
      | (with_reducible exact LeO.none _)
      | (with_reducible refine LeO.ite ?_ ?_)
      | (with_reducible refine LeO.bind ?_ (fun _ => ?_))
theorem spec_tiAt.mono : ∀ a0 a1 k, LeO (spec_tiAt.f k a0 a1) (spec_tiAt.f (k + 1) a0 a1) := by
  intro a0 a1 k
  have ih0 := spec_tiAt.mono_l k
  unfold spec_tiAt.f
  repeat' first
      | (with_reducible exact ih0 _ _ _ _)
      | (with_reducible exact LeO.refl _)
      | (with_reducible exact LeO.none _)
      | (with_reducible refine LeO.ite ?_ ?_)
      | (with_reducible refine LeO.bind ?_ (fun _ => ?_))
noncomputable def spec_tiAt.L0 (x1 : Int) (x7 : List (S50)) (x8 : Int) (x9 : Int) : Option (Int) := lim fun k => spec_tiAt.l0 k x1 x7 x8 x9
theorem spec_tiAt.L0_lim (x1 : Int) (x7 : List (S50)) (x8 : Int) (x9 : Int) : Lim (fun k => spec_tiAt.l0 k x1 x7 x8 x9) (spec_tiAt.L0 x1 x7 x8 x9) := ⟨fun k => (spec_tiAt.mono_l k) x1 x7 x8 x9, rfl⟩
noncomputable def spec_tiAt.F (l0 : List (S50)) (a1 : Int) : Option (Int) := lim fun k => spec_tiAt.f k l0 a1
theorem spec_tiAt.F_lim (l0 : List (S50)) (a1 : Int) : Lim (fun k => spec_tiAt.f k l0 a1) (spec_tiAt.F l0 a1) := ⟨spec_tiAt.mono l0 a1, rfl⟩
theorem spec_tiAt.L0_eq (x1 : Int) (x7 : List (S50)) (x8 : Int) (x9 : Int) : spec_tiAt.L0 x1 x7 x8 x9 = (if x9 < x8 then (if 0 ≤ x9 then (if x9 < (x7.length : Int) then ((spec_l1In.f x1 ((rd_T50 x7 x9).f0) (wrap64 (((rd_T50 x7 x9).f1) - 1))).bind fun t623 => (if t623 = true then (some x9) else (spec_tiAt.L0 x1 x7 x8 (wrap64 (x9 + 1))))) else (none)) else (none)) else (some (-1))) := by
  refine Lim.succ_eq (spec_tiAt.L0_lim x1 x7 x8 x9).mon ?_
  simp only [spec_tiAt.l0]
  repeat' first
  | (with_reducible exact spec_tiAt.L0_lim _ _ _ _)
  | (with_reducible refine Lim.ite ?_ ?_)
  | (with_reducible refine Lim.bind ?_ (fun _ => ?_))
  | (with_reducible exact Lim.const _)
theorem spec_tiAt.F_eq (l0 : List (S50)) (a1 : Int) : spec_tiAt.F l0 a1 = (spec_tiAt.L0 a1 l0 (l0.length : Int) 0) := by
  refine Lim.eq_ ?_
  simp only [spec_tiAt.f]
  repeat' first
  | (with_reducible exact spec_tiAt.L0_lim _ _ _ _)
  | (with_reducible refine Lim.ite ?_ ?_)
  | (with_reducible refine Lim.bind ?_ (fun _ => ?_))
  | (with_reducible exact Lim.const _)
def spec_NoteAt.f (k : Nat) (l0 : List (S50)) (a1 : Int) : Option (Int × Bool) := (spec_tiGood.f k l0).bind fun t624 => (if t624 = true then ((spec_tiFrame.f a1).bind fun t625 => (if t625 = true then ((spec_tiAt.f k l0 a1).bind fun t626 => (if t626 < 0 then (some (0, false)) else ((spec_tiAt.f k l0 a1).bind fun t627 => (some (t627, true))))) else (some (0, false)))) else (some (0, false)))
theorem spec_NoteAt.mono : ∀ a0 a1 k, LeO (spec_NoteAt.f k a0 a1) (spec_NoteAt.f (k + 1) a0 a1) := by
  intro a0 a1 k
  unfold spec_NoteAt.f
  repeat' first
      | (with_reducible exact spec_tiAt.mono _ _ _)
      | (with_reducible exact spec_tiGood.mono _ _)
      | (with_reducible exact LeO.refl _)
      | (with_reducible exact LeO.none _)
      | (with_reducible refine LeO.ite ?_ ?_)
      | (with_reducible refine LeO.bind ?_ (fun _ => ?_))
noncomputable def spec_NoteAt.F (l0 : List (S50)) (a1 : Int) : Option (Int × Bool) := lim fun k => spec_NoteAt.f k l0 a1
theorem spec_NoteAt.F_lim (l0 : List (S50)) (a1 : Int) : Lim (fun k => spec_NoteAt.f k l0 a1) (spec_NoteAt.F l0 a1) := ⟨spec_NoteAt.mono l0 a1, rfl⟩
theorem spec_NoteAt.F_eq (l0 : List (S50)) (a1 : Int) : spec_NoteAt.F l0 a1 = ((spec_tiGood.F l0).bind fun t624 => (if t624 = true then ((spec_tiFrame.f a1).bind fun t625 => (if t625 = true then ((spec_tiAt.F l0 a1).bind fun t626 => (if t626 < 0 then (some (0, false)) else ((spec_tiAt.F l0 a1).bind fun t627 => (some (t627, true))))) else (some (0, false)))) else (some (0, false)))) := by
  refine Lim.eq_ ?_
  simp only [spec_NoteAt.f]
  repeat' first
  | (with_reducible exact spec_tiAt.F_lim _ _)
  | (with_reducible exact spec_tiGood.F_lim _)
  | (with_reducible refine Lim.ite ?_ ?_)
  | (with_reducible refine Lim.bind ?_ (fun _ => ?_))
  | (with_reducible exact Lim.const _)
def spec_MatchesGloss.f (k : Nat) (a0 : ByteArray) (a1 : ByteArray) : Option (Bool × Bool) := (spec_quPattern.f k a0).bind fun t628 => (if t628 = true then ((spec_fsWord.f k a1).bind fun t629 => (if t629 = true then ((spec_quLike.f k a0 a1).bind fun t630 => (some (t630, true))) else (some (false, false)))) else (some (false, false)))
theorem spec_MatchesGloss.mono : ∀ a0 a1 k, LeO (spec_MatchesGloss.f k a0 a1) (spec_MatchesGloss.f (k + 1) a0 a1) := by
  intro a0 a1 k
  unfold spec_MatchesGloss.f
  repeat' first
      | (with_reducible exact spec_fsWord.mono _ _)
      | (with_reducible exact spec_quLike.mono _ _ _)
      | (with_reducible exact spec_quPattern.mono _ _)
      | (with_reducible exact LeO.refl _)
      | (with_reducible exact LeO.none _)
      | (with_reducible refine LeO.ite ?_ ?_)
      | (with_reducible refine LeO.bind ?_ (fun _ => ?_))
noncomputable def spec_MatchesGloss.F (a0 : ByteArray) (a1 : ByteArray) : Option (Bool × Bool) := lim fun k => spec_MatchesGloss.f k a0 a1
theorem spec_MatchesGloss.F_lim (a0 : ByteArray) (a1 : ByteArray) : Lim (fun k => spec_MatchesGloss.f k a0 a1) (spec_MatchesGloss.F a0 a1) := ⟨spec_MatchesGloss.mono a0 a1, rfl⟩
theorem spec_MatchesGloss.F_eq (a0 : ByteArray) (a1 : ByteArray) : spec_MatchesGloss.F a0 a1 = ((spec_quPattern.F a0).bind fun t628 => (if t628 = true then ((spec_fsWord.F a1).bind fun t629 => (if t629 = true then ((spec_quLike.F a0 a1).bind fun t630 => (some (t630, true))) else (some (false, false)))) else (some (false, false)))) := by
  refine Lim.eq_ ?_
  simp only [spec_MatchesGloss.f]
  repeat' first
  | (with_reducible exact spec_fsWord.F_lim _)
  | (with_reducible exact spec_quLike.F_lim _ _)
  | (with_reducible exact spec_quPattern.F_lim _)
  | (with_reducible refine Lim.ite ?_ ?_)
  | (with_reducible refine Lim.bind ?_ (fun _ => ?_))
  | (with_reducible exact Lim.const _)
def laws_qHas.l0 : Nat → Int → List Int → Int → Int → Option (Bool)
  | 0, _, _, _, _ => none
  | k + 1, x1, x7, x8, x9 => if x9 < x8 then (if 0 ≤ x9 then (if x9 < (x7.length : Int) then (if (rd x7 x9) = x1 then (some true) else (laws_qHas.l0 k x1 x7 x8 (wrap64 (x9 + 1)))) else (none)) else (none)) else (some false)
def laws_qHas.f (k : Nat) (l0 : List Int) (a1 : Int) : Option (Bool) := laws_qHas.l0 k a1 l0 (l0.length : Int) 0
theorem laws_qHas.mono_l : ∀ k, (∀ y0 y1 y2 y3, LeO (laws_qHas.l0 k y0 y1 y2 y3) (laws_qHas.l0 (k + 1) y0 y1 y2 y3))
  | 0 => fun _ _ _ _ r h => by simp [laws_qHas.l0] at h
  | k + 1 => by
    have ih0 := laws_qHas.mono_l k
    · intro y0 y1 y2 y3
      unfold laws_qHas.l0
      repeat' first
      | (with_reducible exact ih0 _ _ _ _)
      | (with_reducible exact LeO.refl _)
      | (with_reducible exact LeO.none _)
      | (with_reducible refine LeO.ite ?_ ?_)
      | (with_reducible refine LeO.bind ?_ (fun _ => ?_))
theorem laws_qHas.mono : ∀ a0 a1 k, LeO (laws_qHas.f k a0 a1) (laws_qHas.f (k + 1) a0 a1) := by
  intro a0 a1 k
  have ih0 := laws_qHas.mono_l k
  unfold laws_qHas.f
  repeat' first
      | (with_reducible exact ih0 _ _ _ _)
      | (with_reducible exact LeO.refl _)
      | (with_reducible exact LeO.none _)
      | (with_reducible refine LeO.ite ?_ ?_)
      | (with_reducible refine LeO.bind ?_ (fun _ => ?_))
noncomputable def laws_qHas.L0 (x1 : Int) (x7 : List Int) (x8 : Int) (x9 : Int) : Option (Bool) := lim fun k => laws_qHas.l0 k x1 x7 x8 x9
theorem laws_qHas.L0_lim (x1 : Int) (x7 : List Int) (x8 : Int) (x9 : Int) : Lim (fun k => laws_qHas.l0 k x1 x7 x8 x9) (laws_qHas.L0 x1 x7 x8 x9) := ⟨fun k => (laws_qHas.mono_l k) x1 x7 x8 x9, rfl⟩
noncomputable def laws_qHas.F (l0 : List Int) (a1 : Int) : Option (Bool) := lim fun k => laws_qHas.f k l0 a1
theorem laws_qHas.F_lim (l0 : List Int) (a1 : Int) : Lim (fun k => laws_qHas.f k l0 a1) (laws_qHas.F l0 a1) := ⟨laws_qHas.mono l0 a1, rfl⟩
theorem laws_qHas.L0_eq (x1 : Int) (x7 : List Int) (x8 : Int) (x9 : Int) : laws_qHas.L0 x1 x7 x8 x9 = (if x9 < x8 then (if 0 ≤ x9 then (if x9 < (x7.length : Int) then (if (rd x7 x9) = x1 then (some true) else (laws_qHas.L0 x1 x7 x8 (wrap64 (x9 + 1)))) else (none)) else (none)) else (some false)) := by
  refine Lim.succ_eq (laws_qHas.L0_lim x1 x7 x8 x9).mon ?_
  simp only [laws_qHas.l0]
  repeat' first
  | (with_reducible exact laws_qHas.L0_lim _ _ _ _)
  | (with_reducible refine Lim.ite ?_ ?_)
  | (with_reducible refine Lim.bind ?_ (fun _ => ?_))
  | (with_reducible exact Lim.const _)
theorem laws_qHas.F_eq (l0 : List Int) (a1 : Int) : laws_qHas.F l0 a1 = (laws_qHas.L0 a1 l0 (l0.length : Int) 0) := by
  refine Lim.eq_ ?_
  simp only [laws_qHas.f]
  repeat' first
  | (with_reducible exact laws_qHas.L0_lim _ _ _ _)
  | (with_reducible refine Lim.ite ?_ ?_)
  | (with_reducible refine Lim.bind ?_ (fun _ => ?_))
  | (with_reducible exact Lim.const _)
end Go.Proofs.Ytbfkpgmdbafmhaa.PFnTierCounts
