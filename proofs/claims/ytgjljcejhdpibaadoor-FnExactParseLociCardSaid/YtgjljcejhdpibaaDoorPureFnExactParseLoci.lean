/- The pure statement of the law FnExactParseLoci: for all arguments within their bounds its Lean function answers true. -/
import Derived.Test.YtgjljcejhdpibaaDoorPFnExactParseLocixD0
namespace Go.Proofs.YtgjljcejhdpibaaDoor.Pure
open Go.RowKit Go.Proofs.YtgjljcejhdpibaaDoor.PFnExactParseLoci Go.Proofs.YtgjljcejhdpibaaDoorW.PrintWords Go.Proofs.YtgjljcejhdpibaaDoorW.PrintLast
set_option linter.unusedVariables false
set_option linter.unusedSimpArgs false
/-! ### Numbers, loops, letters -/
theorem wrap_in {x : Int} (h0 : -9223372036854775808 ≤ x) (h1 : x ≤ 9223372036854775807) : wrap64 x = x := by
 unfold wrap64; omega
theorem wf_i64 {n : Int} (h : (Lit.int .i64 n).wf = true) : -9223372036854775808 ≤ n ∧ n ≤ 9223372036854775807 := by
 simpa [Lit.wf, IntKind.min, IntKind.max, IntKind.signed, IntKind.bits] using h
/-- A loop over a list, from its end. L: what the loop tells from place i on. -/
theorem each {α γ : Type} (L : Int → γ) (l : List α) (z : α) (R : Nat → List α → γ → Prop) (nil : R l.length [] (L l.length))
 (cons : ∀ (i : Nat) (x : α) (t : List α), i < l.length → l.getD i z = x → l.drop i = x :: t → l.drop (i + 1) = t → R (i + 1) t (L ((i : Int) + 1)) → R i (x :: t) (L i)) : R 0 l (L 0) := by
 have key : ∀ (t : List α) (i : Nat), l.drop i = t → i ≤ l.length → R i t (L i) := by
  intro t
  induction t with
  | nil =>
   intro i h hi
   have : l.length ≤ i := by simpa [List.drop_eq_nil_iff] using h
   obtain rfl : i = l.length := by omega
   exact nil
  | cons x t ih =>
   intro i h hi
   have hlt : i < l.length := by
    rcases Nat.lt_or_ge i l.length with h' | h'
    ·exact h'
    ·rw [List.drop_eq_nil_of_le h'] at h; cases h
   have h2 := List.drop_eq_getElem_cons hlt
   rw [h] at h2
   injection h2 with h3 h4
   refine cons i x t hlt ?_ h h4.symm ?_
   ·rw [List.getD_eq_getElem?_getD, List.getElem?_eq_getElem hlt]; exact h3.symm
   ·have := ih (i + 1) h4.symm (by omega)
    rwa [show ((i + 1 : Nat) : Int) = (i : Int) + 1 from by omega] at this
 have := key l 0 rfl (Nat.zero_le _)
 rwa [show ((0 : Nat) : Int) = 0 from rfl] at this
theorem bt_data (s : ByteArray) (i : Nat) (h : i < s.size) : bt s (i : Int) = ((s.data.toList.getD i 0).toNat : Int) := by
 obtain ⟨d⟩ := s
 have h' : i < d.size := h
 have : bt ⟨d⟩ (i : Int) = ((d[i]).toNat : Int) := by
  unfold bt
  rw [dif_pos (show ((i : Int)).toNat < (⟨d⟩ : ByteArray).size from by simpa using h)]
  rfl
 rw [this]
 simp [h']
theorem size_data (s : ByteArray) : s.size = s.data.toList.length := by
 obtain ⟨d⟩ := s; simp [ByteArray.size]
theorem toList_data (s : ByteArray) : s.toList = s.data.toList := by
 rw [ByteArray.toList_eq]
theorem ext_data {s t : ByteArray} (h : s.toList = t.toList) : s = t := by
 rw [toList_data, toList_data] at h
 obtain ⟨⟨a⟩⟩ := s
 obtain ⟨⟨b⟩⟩ := t
 simp at h
 rw [h]
theorem toList_iff {s t : ByteArray} : s.toList = t.toList ↔ s = t := ⟨ext_data, fun h => by rw [h]⟩
theorem mem_drop {α : Type} {l t : List α} {x : α} {i : Nat} (h : l.drop i = x :: t) : x ∈ l := List.mem_of_mem_drop (i := i) (by rw [h]; simp)

theorem l1In_some (a b c : Int) : spec_l1In.f a b c = some (decide (b ≤ a ∧ a ≤ c)) := by
 unfold spec_l1In.f
 by_cases h : a ≥ b
 ·rw [if_pos h]; congr 1; simp; omega
 ·rw [if_neg h]; congr 1; symm; simp; omega

/-! ### Words of letters; angles -/
theorem within_some (a b c : Int) : impl_within.f a b c = some (decide (b ≤ a ∧ a ≤ c)) := by
 unfold impl_within.f
 by_cases h : b ≤ a
 ·rw [if_pos h]; simp [h]
 ·rw [if_neg h]; simp [h]
/-- All letters between two. -/
def inRange (lo hi : Nat) (l : List UInt8) : Bool := l.all fun c => decide (lo ≤ c.toNat ∧ c.toNat ≤ hi)
/-- One to eight letters between two. -/
def isWord (lo hi : Nat) (s : ByteArray) : Bool := decide (1 ≤ s.size ∧ s.size ≤ 8) && inRange lo hi s.data.toList
theorem dec_size (s : ByteArray) : decide ((1 : Int) ≤ s.size ∧ (s.size : Int) ≤ 8) = decide (1 ≤ s.size ∧ s.size ≤ 8) := by
 by_cases h : 1 ≤ s.size ∧ s.size ≤ 8
 ·rw [decide_eq_true h, decide_eq_true (by omega)]
 ·rw [decide_eq_false h, decide_eq_false (by omega)]

/-- What 'letters' says of a list of letters: they are those from lo to hi. -/
def Letters (lo hi : Nat) (m : ByteArray) : Prop := ∀ n, n < 256 → (decide (Lib.indexByte m.data.toList n.toUInt8 < 0)) = !decide (lo ≤ n ∧ n ≤ hi)
instance (lo hi : Nat) (m : ByteArray) : Decidable (Letters lo hi m) := by unfold Letters; infer_instance
theorem hasOnly_some (lo hi : Nat) (s m : ByteArray) (hs : s.size ≤ 9223372036854775807) (hm : Letters lo hi m) : impl_hasOnly.F s m = some (inRange lo hi s.data.toList) := by
 rw [impl_hasOnly.F_eq]
 refine each (L := fun i => impl_hasOnly.L0 s m s.size i) s.data.toList 0 (fun _ t o => o = some (inRange lo hi t)) ?_ ?_
 ·show impl_hasOnly.L0 s m _ _ = _
  rw [impl_hasOnly.L0_eq, if_neg (by rw [← size_data]; omega)]; rfl
 ·intro i x t hi' hx _ _ ih
  have hi2 : i < s.size := by rw [size_data]; exact hi'
  have hb := hm x.toNat x.toNat_lt
  show impl_hasOnly.L0 s m _ _ = _
  rw [impl_hasOnly.L0_eq, if_pos (by omega), if_pos (by omega), if_pos (by omega), bt_data s i hi2, hx, wrap_in (by omega) (by omega)]
  simp only [strings_IndexByte.f, stringslite_IndexByte.f, Option.bind_some, Int.toNat_natCast]
  by_cases h1 : lo ≤ x.toNat ∧ x.toNat ≤ hi
  ·rw [if_neg (by simp [h1] at hb; simpa using hb), ih]
   simp [inRange, h1]
  ·rw [if_pos (by simpa [h1] using hb)]
   simp [inRange, h1]
theorem isWordOf_some (lo hi : Nat) (s m : ByteArray) (hs : s.size ≤ 9223372036854775807) (hm : Letters lo hi m) : impl_isWordOf.F s m = some (isWord lo hi s) := by
 rw [impl_isWordOf.F_eq, within_some, hasOnly_some lo hi s m hs hm]
 simp only [Option.bind_some, isWord]
 by_cases h : 1 ≤ s.size ∧ s.size ≤ 8
 ·have : (1 : Int) ≤ s.size ∧ (s.size : Int) ≤ 8 := by omega
  simp [h, this]
 ·have : ¬ ((1 : Int) ≤ s.size ∧ (s.size : Int) ≤ 8) := by omega
  simp [h, this]


theorem isAngle_some (a : Int) : impl_isAngle.f a = some (decide (-90 ≤ a ∧ a ≤ 90)) := by
 unfold impl_isAngle.f; rw [within_some]; rfl
theorem loAngle_some (a : Int) : spec_loAngle.f a = some (decide (-90 ≤ a ∧ a ≤ 90)) := by
 unfold spec_loAngle.f; rw [l1In_some]; rfl

/-! ### Loci -/
abbrev Loc := S40
theorem rd_loc (l : List Loc) (i : Nat) : rd_T40 l (i : Int) = l.getD i z40 := by simp [rd_T40]
theorem naName_some (s : ByteArray) (hs : s.size ≤ 9223372036854775807) : spec_naName.F s = some (isWord 97 122 s) := by
 rw [spec_naName.F_eq]
 have := each (L := fun i => spec_naName.L0 s i) s.data.toList 0 (fun _ t o => o = some (inRange 97 122 t && decide (1 ≤ s.size ∧ s.size ≤ 8))) ?_ ?_
 ·rw [this, isWord, Bool.and_comm]
 ·show spec_naName.L0 s _ = _
  rw [spec_naName.L0_eq, if_neg (by rw [← size_data]; omega), l1In_some]
  simp only [Option.bind_some, inRange, List.all_nil, Bool.true_and, dec_size]
 ·intro i x t hi hx _ _ ih
  have hi' : i < s.size := by rw [size_data]; exact hi
  show spec_naName.L0 s _ = _
  rw [spec_naName.L0_eq, if_pos (by omega), if_pos (by omega), bt_data s i hi', hx, wrap_in (by omega) (by omega)]
  by_cases h1 : x.toNat < 97
  ·rw [if_pos (by omega)]; simp [inRange]; omega
  ·rw [if_neg (by omega)]
   by_cases h2 : 122 < x.toNat
   ·rw [if_pos (by omega)]; simp [inRange]; omega
   ·rw [if_neg (by omega), ih]
    have h3 : 97 ≤ x.toNat := by omega
    have h4 : x.toNat ≤ 122 := by omega
    simp [inRange, h3, h4]
/-- The first place of a referent from place i on, or -1. -/
def idxFrom (a : ByteArray) : List Loc → Nat → Int
 | [], _ => -1
 | x :: t, i => if x.f0.toList = a.toList then i else idxFrom a t (i + 1)
theorem idxFrom_cases (a : ByteArray) : ∀ (t : List Loc) (i : Nat), (idxFrom a t i = -1 ∧ ∀ x ∈ t, x.f0 ≠ a) ∨ ∃ j, j < t.length ∧ idxFrom a t i = (i + j : Nat) ∧ (t.getD j z40).f0 = a
 | [], _ => .inl ⟨rfl, by simp⟩
 | x :: t, i => by
  unfold idxFrom
  by_cases h : x.f0.toList = a.toList
  ·rw [if_pos h]
   exact .inr ⟨0, by simp, by simp, by simpa using ext_data h⟩
  ·rw [if_neg h]
   rcases idxFrom_cases a t (i + 1) with ⟨h1, h2⟩ | ⟨j, h1, h2, h3⟩
   ·refine .inl ⟨h1, fun y hy => ?_⟩
    rcases List.mem_cons.1 hy with rfl | hy
    ·exact fun e => h (by rw [e])
    ·exact h2 y hy
   ·exact .inr ⟨j + 1, by simpa using h1, by rw [h2]; omega, by simpa using h3⟩
theorem loFind_some (l : List Loc) (a : ByteArray) (hl : l.length ≤ 9223372036854775807) : spec_loFind.F l a = some (idxFrom a l 0) := by
 rw [spec_loFind.F_eq]
 refine each (L := fun i => spec_loFind.L0 a l l.length i) l z40 (fun i t o => o = some (idxFrom a t i)) ?_ ?_
 ·show spec_loFind.L0 a l _ _ = _
  rw [spec_loFind.L0_eq, if_neg (by omega)]; rfl
 ·intro i x t hi hx _ _ ih
  show spec_loFind.L0 a l _ _ = _
  rw [spec_loFind.L0_eq, if_pos (by omega), if_pos (by omega), if_pos (by omega), rd_loc, hx, wrap_in (by omega) (by omega)]
  unfold idxFrom
  split
  ·rfl
  ·exact ih
theorem locusOf_some (l : List Loc) (a : ByteArray) (hl : l.length ≤ 9223372036854775807) : impl_locusOf.F l a = some (idxFrom a l 0) := by
 rw [impl_locusOf.F_eq, slices_IndexFunc_Locus_impl_locusOf_1.F_eq]
 rw [show slices_IndexFunc_Locus_impl_locusOf_1.L0 l (l.length : Int) 0 a = some (idxFrom a l 0) from ?_]; rfl
 refine each (L := fun i => slices_IndexFunc_Locus_impl_locusOf_1.L0 l l.length i a) l z40 (fun i t o => o = some (idxFrom a t i)) ?_ ?_
 ·show slices_IndexFunc_Locus_impl_locusOf_1.L0 l _ _ a = _
  rw [slices_IndexFunc_Locus_impl_locusOf_1.L0_eq, if_neg (by omega)]; rfl
 ·intro i x t hi hx _ _ ih
  show slices_IndexFunc_Locus_impl_locusOf_1.L0 l _ _ a = _
  rw [slices_IndexFunc_Locus_impl_locusOf_1.L0_eq, if_pos (by omega), if_pos (by omega), if_pos (by omega), rd_loc, hx, wrap_in (by omega) (by omega)]
  unfold idxFrom impl_locusOf_1.f
  simp only [Option.bind_some, beq_iff_eq]
  split
  ·rfl
  ·exact ih
/-- Is element i as it should be, for those ahead of it? -/
def okAt (l : List Loc) (i : Nat) (x : Loc) : Bool :=
 isWord 97 122 x.f0 && (decide (-90 ≤ x.f1 ∧ x.f1 ≤ 90) && (decide (i = 0 ∨ (l.getD (i - 1) z40).f1 < x.f1) && decide (idxFrom x.f0 (l.take i) 0 < 0)))
def goodFrom (l : List Loc) : Nat → List Loc → Bool
 | _, [] => decide (l.length ≤ 8)
 | i, x :: t => okAt l i x && goodFrom l (i + 1) t
def good (l : List Loc) : Bool := goodFrom l 0 l
/-- The letters' lengths are lengths. -/
def Sized (l : List Loc) : Prop := l.length ≤ 9223372036854775807 ∧ ∀ x ∈ l, x.f0.size ≤ 9223372036854775807
theorem Sized.take {l : List Loc} (h : Sized l) (i : Nat) : (l.take i).length ≤ 9223372036854775807 := Nat.le_trans (List.length_take_le' ..) h.1
theorem loGood_some (l : List Loc) (hl : Sized l) : spec_loGood.F l = some (good l) := by
 rw [spec_loGood.F_eq]
 have hl1 := hl.1
 refine each (L := fun i => spec_loGood.L0 l l l.length i) l z40 (fun i t o => o = some (goodFrom l i t)) ?_ ?_
 ·show spec_loGood.L0 l l _ _ = _
  rw [spec_loGood.L0_eq, if_neg (by omega)]
  simp only [goodFrom, Option.some.injEq, decide_eq_decide]; omega
 ·intro i x t hi hx hd _ ih
  have hs : x.f0.size ≤ 9223372036854775807 := hl.2 x (mem_drop hd)
  show spec_loGood.L0 l l _ _ = _
  rw [spec_loGood.L0_eq, if_pos (by omega), if_pos (by omega), if_pos (by omega), rd_loc, hx]
  try simp only [spec_loGood.J1_eq, decide_eq_true_eq, eq_self, if_true]
  rw [wrap_in (x := (i : Int) + 1) (by omega) (by omega), naName_some _ hs, loAngle_some, Int.toNat_natCast, loFind_some _ _ (hl.take i)]
  simp only [Option.bind_some, goodFrom, okAt]
  cases isWord 97 122 x.f0
  ·simp
  by_cases ha : -90 ≤ x.f1 ∧ x.f1 ≤ 90
  case neg => simp [ha]
  rw [decide_eq_true ha]
  simp only [if_true, Bool.true_and]
  by_cases h0 : i = 0
  ·subst h0
   simp only [List.take_zero, Int.natCast_zero, gt_iff_lt, Int.lt_irrefl, if_false, true_or, decide_true, Bool.true_and]
   rw [if_pos (by omega)]
   simp [idxFrom]
   simpa using ih
  ·have h1 : (i : Int) - 1 = ((i - 1 : Nat) : Int) := by omega
   rw [if_pos (by omega), wrap_in (by omega) (by omega), h1, if_pos (by omega), if_pos (by omega), rd_loc, if_pos (show (i : Int) ≤ (l.length : Int) by omega)]
   by_cases h2 : (l.getD (i - 1) z40).f1 < x.f1
   ·rw [if_neg (by omega)]
    simp only [h2, or_true, decide_true, Bool.true_and]
    by_cases h3 : idxFrom x.f0 (l.take i) 0 < 0
    ·rw [if_neg (by omega), ih]; simp [h3]
    ·rw [if_pos (by omega)]; simp [h3]
   ·rw [if_pos (by omega), decide_eq_false (p := i = 0 ∨ _) (by simp only [h0, h2, or_self, not_false_eq_true])]; simp
theorem areLoci_some (l : List Loc) (hl : Sized l) : impl_AreLoci.F l = some (good l) := by
 rw [impl_AreLoci.F_eq]
 have hl1 := hl.1
 refine each (L := fun i => impl_AreLoci.L0 l l l.length i) l z40 (fun i t o => o = some (goodFrom l i t)) ?_ ?_
 ·show impl_AreLoci.L0 l l _ _ = _
  rw [impl_AreLoci.L0_eq, if_neg (by omega)]
  simp only [goodFrom, Option.some.injEq, decide_eq_decide]; omega
 ·intro i x t hi hx hd _ ih
  have hs : x.f0.size ≤ 9223372036854775807 := hl.2 x (mem_drop hd)
  show impl_AreLoci.L0 l l _ _ = _
  rw [impl_AreLoci.L0_eq, if_pos (by omega), if_pos (by omega), if_pos (by omega), rd_loc, hx]
  try simp only [impl_AreLoci.J1_eq, decide_eq_true_eq, eq_self, if_true]
  rw [wrap_in (x := (i : Int) + 1) (by omega) (by omega), isWordOf_some 97 122 _ _ hs (by decide +kernel), isAngle_some, Int.toNat_natCast, locusOf_some _ _ (hl.take i)]
  simp only [Option.bind_some, goodFrom, okAt]
  cases isWord 97 122 x.f0
  ·simp
  by_cases ha : -90 ≤ x.f1 ∧ x.f1 ≤ 90
  case neg => simp [ha]
  rw [decide_eq_true ha]
  simp only [if_true, Bool.true_and]
  by_cases h0 : i = 0
  ·subst h0
   simp only [List.take_zero, Int.natCast_zero, gt_iff_lt, Int.lt_irrefl, if_false, true_or, decide_true, Bool.true_and]
   rw [if_pos (by omega)]
   simp [idxFrom]
   simpa using ih
  ·have h1 : (i : Int) - 1 = ((i - 1 : Nat) : Int) := by omega
   rw [if_pos (by omega), wrap_in (by omega) (by omega), h1, if_pos (by omega), if_pos (by omega), rd_loc, if_pos (show (i : Int) ≤ (l.length : Int) by omega)]
   by_cases h2 : (l.getD (i - 1) z40).f1 < x.f1
   ·rw [if_neg (by omega)]
    simp only [h2, or_true, decide_true, Bool.true_and]
    by_cases h3 : idxFrom x.f0 (l.take i) 0 < 0
    ·rw [if_neg (by omega), ih]; simp [h3]
    ·rw [if_pos (by omega)]; simp [h3]
   ·rw [if_pos (by omega), decide_eq_false (p := i = 0 ∨ _) (by simp only [h0, h2, or_self, not_false_eq_true])]; simp
theorem good_from (l : List Loc) : ∀ (t : List Loc) (i : Nat), goodFrom l i t = true → l.length ≤ 8 ∧ ∀ x ∈ t, (-90 ≤ x.f1 ∧ x.f1 ≤ 90) ∧ 1 ≤ x.f0.size
 | [], _, h => ⟨by simpa [goodFrom] using h, by simp⟩
 | x :: t, i, h => by
  simp only [goodFrom, okAt, isWord, Bool.and_eq_true, decide_eq_true_eq] at h
  obtain ⟨h1, h2⟩ := h
  obtain ⟨h3, h4⟩ := good_from l t (i + 1) h2
  refine ⟨h3, fun y hy => ?_⟩
  rcases List.mem_cons.1 hy with rfl | hy
  ·exact ⟨h1.2.1, h1.1.1.1⟩
  ·exact h4 y hy
theorem good_facts {l : List Loc} (h : good l = true) : l.length ≤ 8 ∧ ∀ x ∈ l, (-90 ≤ x.f1 ∧ x.f1 ≤ 90) ∧ 1 ≤ x.f0.size := good_from l l 0 h


theorem good_short {l : List Loc} (h : good l = true) : ∀ x ∈ l, x.f0.size ≤ 8 := by
 have key : ∀ (t : List Loc) (i : Nat), goodFrom l i t = true → ∀ x ∈ t, x.f0.size ≤ 8 := by
  intro t
  induction t with
  | nil => intro _ _ x hx; simp at hx
  | cons y t ih =>
   intro i h x hx
   simp only [goodFrom, okAt, isWord, Bool.and_eq_true, decide_eq_true_eq] at h
   rcases List.mem_cons.1 hx with rfl | hx
   ·exact h.1.1.1.2
   ·exact ih _ h.2 x hx
 exact key l 0 h


/-! ### Decimal digits -/
theorem dec_length (n : Nat) : (Lib.decDigits n).length ≤ n + 1 := by
 induction n using Nat.strongRecOn with
 | ind n ih =>
  rw [Lib.decDigits]
  split
  ·simp
  ·have := ih (n / 10) (by omega)
   rw [List.length_append]
   simp only [List.length_cons, List.length_nil]
   omega

/-! ### Numbers in decimal -/
theorem digit_fin : ∀ n : Fin 10, strOfNums [(wrap64 (48 + (n.val : Int))) % 256] = ⟨#[UInt8.ofNat (48 + n.val)]⟩ := by decide +kernel
theorem digit_some {n : Nat} (h : n < 10) : strOfNums [(wrap64 (48 + (n : Int))) % 256] = ⟨#[UInt8.ofNat (48 + n)]⟩ := digit_fin ⟨n, h⟩
theorem num_some (n : Nat) : n < 4611686018427387904 → spec_l1Num.F (n : Int) = some ⟨(Lib.decDigits n).toArray⟩ := by
 induction n using Nat.strongRecOn with
 | ind n ih =>
  intro hn
  rw [spec_l1Num.F_eq]
  by_cases c : n < 10
  ·rw [if_pos (by omega), Lib.decDigits_one c, digit_some c]
  ·have t1 : (n : Int).tdiv 10 = ((n / 10 : Nat) : Int) := by rw [Int.tdiv_eq_ediv_of_nonneg (by omega)]; omega
   have t2 : (n : Int).tmod 10 = ((n % 10 : Nat) : Int) := by rw [Int.tmod_eq_emod_of_nonneg (by omega)]; omega
   have hl := dec_length (n / 10)
   rw [if_neg (by omega), t1, wrap_in (by omega) (by omega), ih (n / 10) (by omega) (by omega), Option.bind_some, Option.bind_some, t2, digit_some (by omega)]
   have e : Lib.decDigits n = Lib.decDigits (n / 10) ++ [UInt8.ofNat (48 + n % 10)] := by rw [Lib.decDigits, dif_neg c]
   rw [if_pos (by simp only [ByteArray.size, List.size_toArray, List.length_cons, List.length_nil]; omega), e]
   first
   | rfl
   | (congr 1; done)
   | (congr 1; apply ext_data; rw [toList_data, toList_data]; simp)

/-! ### Small numbers with a sign, as texts -/
def it (n : Int) : ByteArray := ⟨(Lib.itoa n).toArray⟩
theorem it_data (n : Int) : (it n).data.toList = Lib.itoa n := rfl
theorem it_spec {n : Int} (h : -90 ≤ n ∧ n ≤ 90) : spec_l1Int.F n = some (it n) := by
 rw [spec_l1Int.F_eq]
 by_cases c : n < 0
 ·obtain ⟨m, rfl⟩ : ∃ m : Nat, n = -(m : Int) := ⟨n.natAbs, by omega⟩
  have hl := dec_length m
  have e : - -(m : Int) = (m : Int) := by omega
  have hd : (⟨(Lib.decDigits m).toArray⟩ : ByteArray).size = (Lib.decDigits m).length := by simp [ByteArray.size]
  rw [if_pos c, e, wrap_in (by omega) (by omega), num_some m (by omega), Option.bind_some, if_pos (by omega)]
  congr 1
  apply ext_data
  rw [toList_data, toList_data, it_data]
  unfold Lib.itoa
  rw [if_pos c]
  simp
 ·obtain ⟨m, rfl⟩ := Int.eq_ofNat_of_zero_le (show 0 ≤ n by omega)
  have e : it (m : Int) = ⟨(Lib.decDigits m).toArray⟩ := by
   unfold it Lib.itoa
   rw [if_neg c, Int.toNat_natCast]
  rw [if_neg c, num_some m (by omega), Option.bind_some, e]
theorem it_size {n : Int} (h : -90 ≤ n ∧ n ≤ 90) : (it n).size ≤ 92 := by
 rw [size_data, it_data]
 unfold Lib.itoa
 split
 ·have := dec_length n.natAbs
  rw [List.length_cons]; omega
 ·have := dec_length n.toNat
  omega

theorem it_impl {n : Int} (h : -90 ≤ n ∧ n ≤ 90) : strconv_Itoa.f n = some (it n) := by
 unfold strconv_Itoa.f; rw [if_pos (by omega)]; rfl

/-! ### Loci as texts -/
def lcTx (x : Loc) : ByteArray := ((x.f0 ++ ⟨#[64]⟩) ++ it x.f1) ++ ⟨#[59]⟩
def loTx (l : List Loc) (s : ByteArray) : ByteArray := l.foldl (fun s x => s ++ lcTx x) s
theorem lo_loop (l : List Loc) (hl : l.length ≤ 100) (hx : ∀ x ∈ l, x.f0.size ≤ 8 ∧ -90 ≤ x.f1 ∧ x.f1 ≤ 90) : spec_loText.F l = some (loTx l ⟨#[]⟩) ∧ impl_lociText.F l = some (loTx l ⟨#[]⟩) := by
 rw [spec_loText.F_eq, impl_lociText.F_eq]
 have n0 : ((⟨#[]⟩ : ByteArray)).size = 0 := rfl
 have := each (L := fun i => ((fun s => spec_loText.L0 s l l.length i : ByteArray → _), (fun s => impl_lociText.L0 s l l.length i : ByteArray → _))) l z40
  (fun i t f => (∀ x ∈ t, x ∈ l) → ∀ s : ByteArray, s.size ≤ 200 * i → f.1 s = some (loTx t s) ∧ f.2 s = some (loTx t s)) ?_ ?_ (fun _ h => h) ⟨#[]⟩ (by omega)
 ·exact this
 ·intro _ s _
  have hn : ¬ ((l.length : Int) < (l.length : Int)) := by omega
  show spec_loText.L0 s l _ _ = _ ∧ impl_lociText.L0 s l _ _ = _
  rw [spec_loText.L0_eq, impl_lociText.L0_eq, if_neg hn, if_neg hn]
  exact ⟨rfl, rfl⟩
 ·intro i x t hi hx' hd _ ih hm s hs
  obtain ⟨h8, h9⟩ := hx x (hm x (by simp))
  have hz := it_size h9
  have n1 : ((⟨#[64]⟩ : ByteArray)).size = 1 := rfl
  have n2 : ((⟨#[59]⟩ : ByteArray)).size = 1 := rfl
  have i1 : (i : Int) < (l.length : Int) := by omega
  have i2 : (0 : Int) ≤ (i : Int) := by omega
  have k1 : x.f0.size + 1 ≤ 9223372036854775807 := by omega
  have k2 : (x.f0 ++ (⟨#[64]⟩ : ByteArray)).size + (it x.f1).size ≤ 9223372036854775807 := by simp only [ByteArray.size_append, n1]; omega
  have k3 : ((x.f0 ++ (⟨#[64]⟩ : ByteArray)) ++ it x.f1).size + 1 ≤ 9223372036854775807 := by simp only [ByteArray.size_append, n1]; omega
  have k5 : (lcTx x).size ≤ 102 := by unfold lcTx; simp only [ByteArray.size_append, n1, n2]; omega
  have k4 : s.size + (((x.f0 ++ (⟨#[64]⟩ : ByteArray)) ++ it x.f1) ++ (⟨#[59]⟩ : ByteArray)).size ≤ 9223372036854775807 := by
   have : (((x.f0 ++ (⟨#[64]⟩ : ByteArray)) ++ it x.f1) ++ (⟨#[59]⟩ : ByteArray)) = lcTx x := rfl
   rw [this]; omega
  show spec_loText.L0 s l _ _ = _ ∧ impl_lociText.L0 s l _ _ = _
  rw [spec_loText.L0_eq, impl_lociText.L0_eq]
  simp only [i1, i2, if_true, rd_loc, hx', k1, k2, k3, k4, it_spec h9, it_impl h9, Option.bind_some, wrap_in (x := (i : Int) + 1) (by omega) (by omega)]
  exact ih (fun y hy => hm y (by simp [hy])) _ (by
   show (s ++ lcTx x).size ≤ _
   rw [ByteArray.size_append]; omega)
theorem lo_texts {l : List Loc} (h : good l = true) : spec_loText.F l = some (loTx l ⟨#[]⟩) ∧ impl_lociText.F l = some (loTx l ⟨#[]⟩) := by
 obtain ⟨g1, g2⟩ := good_facts h
 exact lo_loop l (by omega) (fun x hx => ⟨good_short h x hx, (g2 x hx).1⟩)



theorem itoa_facts : ∀ k : Fin 181, Lib.atoiAll (Lib.itoa ((k.val : Int) - 90)) = .ok ((k.val : Int) - 90) ∧ (Lib.itoa ((k.val : Int) - 90)).all (fun c => decide (c.toNat = 45 ∨ (48 ≤ c.toNat ∧ c.toNat ≤ 57))) = true := by decide +kernel
theorem itoa_at {n : Int} (h : -90 ≤ n ∧ n ≤ 90) : Lib.atoiAll (Lib.itoa n) = .ok n ∧ (Lib.itoa n).all (fun c => decide (c.toNat = 45 ∨ (48 ≤ c.toNat ∧ c.toNat ≤ 57))) = true := by
 have := itoa_facts ⟨(n + 90).toNat, by omega⟩
 have e : (((n + 90).toNat : Nat) : Int) - 90 = n := by omega
 simp only [e] at this
 exact this
theorem itoa_not {n : Int} (h : -90 ≤ n ∧ n ≤ 90) (c : UInt8) (hc : ¬ (c.toNat = 45 ∨ (48 ≤ c.toNat ∧ c.toNat ≤ 57))) : c ∉ Lib.itoa n := by
 intro hm
 have := List.all_eq_true.1 (itoa_at h).2 c hm
 simp only [decide_eq_true_eq] at this
 exact hc this
theorem decimal_it {n : Int} (h : -90 ≤ n ∧ n ≤ 90) : impl_decimal.f (it n) = some (n, true) := by
 have hz := it_size h
 unfold impl_decimal.f
 rw [if_pos (by omega), it_data, (itoa_at h).1]
 simp
theorem dec_some (t : ByteArray) (h : t.size ≤ 281474976710656) : ∃ v b, impl_decimal.f t = some (v, b) := by
 unfold impl_decimal.f
 rw [if_pos h]
 exact ⟨_, _, rfl⟩



/-! ### Texts cut and read -/
theorem cut_data (s : ByteArray) (a b : Nat) : (s.extract a b).data.toList = (s.data.toList.drop a).take (b - a) := by
 simp [List.take_drop]
def mkB (l : List UInt8) : ByteArray := ⟨l.toArray⟩
theorem mkB_data (s : ByteArray) : mkB s.data.toList = s := by
 obtain ⟨⟨l⟩⟩ := s; rfl
theorem data_mkB (l : List UInt8) : (mkB l).data.toList = l := rfl
theorem mkB_size (l : List UInt8) : (mkB l).size = l.length := by simp [mkB, ByteArray.size]
theorem data_inj {s t : ByteArray} (h : s.data.toList = t.data.toList) : s = t := by
 rw [← mkB_data s, ← mkB_data t, h]
theorem mkB_inj {l m : List UInt8} (h : mkB l = mkB m) : l = m := by
 rw [← data_mkB l, h, data_mkB]
theorem cut_mkB (s : ByteArray) (a b : Nat) : s.extract a b = mkB ((s.data.toList.drop a).take (b - a)) := data_inj (by rw [cut_data, data_mkB])
/-- The parts between a byte. -/
def splitFrom (b : UInt8) (cur : List UInt8) : List UInt8 → List (List UInt8)
 | [] => [cur]
 | c :: t => if c = b then cur :: splitFrom b [] t else splitFrom b (cur ++ [c]) t
theorem split_cons (b : UInt8) (cur : List UInt8) (c : UInt8) (t : List UInt8) : splitFrom b cur (c :: t) = if c = b then cur :: splitFrom b [] t else splitFrom b (cur ++ [c]) t := rfl
theorem split_none (b : UInt8) : ∀ (xs cur : List UInt8), b ∉ xs → splitFrom b cur xs = [cur ++ xs]
 | [], cur, _ => by simp [splitFrom]
 | c :: t, cur, h => by
  simp only [List.mem_cons, not_or] at h
  rw [split_cons, if_neg (fun e => h.1 e.symm), split_none b t _ h.2]; simp
theorem split_app (b : UInt8) : ∀ (p cur t : List UInt8), b ∉ p → splitFrom b cur (p ++ b :: t) = (cur ++ p) :: splitFrom b [] t
 | [], cur, t, _ => by rw [List.nil_append, split_cons, if_pos rfl, List.append_nil]
 | c :: p, cur, t, h => by
  simp only [List.mem_cons, not_or] at h
  rw [List.cons_append, split_cons, if_neg (fun e => h.1 e.symm), split_app b p _ t h.2]; simp
theorem split_ne (b : UInt8) : ∀ (xs cur : List UInt8), splitFrom b cur xs ≠ []
 | [], cur => by simp [splitFrom]
 | c :: t, cur => by
  rw [split_cons]
  split
  ·simp
  ·exact split_ne b t _
theorem split_one (b : UInt8) : ∀ (xs cur p : List UInt8), splitFrom b cur xs = [p] → p = cur ++ xs ∧ b ∉ xs
 | [], cur, p, h => by
  simp only [splitFrom, List.cons.injEq, and_true] at h
  simp [h]
 | c :: t, cur, p, h => by
  rw [split_cons] at h
  split at h
  ·simp only [List.cons.injEq] at h
   exact absurd h.2 (split_ne b t [])
  ·rename_i hc
   obtain ⟨h1, h2⟩ := split_one b t _ p h
   refine ⟨by rw [h1]; simp, ?_⟩
   simp only [List.mem_cons, not_or]
   exact ⟨fun e => hc e.symm, h2⟩
theorem split_more (b : UInt8) : ∀ (xs cur p : List UInt8) (ps : List (List UInt8)), splitFrom b cur xs = p :: ps → ps ≠ [] → ∃ r t, p = cur ++ r ∧ b ∉ r ∧ xs = r ++ b :: t ∧ splitFrom b [] t = ps
 | [], cur, p, ps, h, hp => by
  simp only [splitFrom, List.cons.injEq] at h
  exact absurd h.2.symm hp
 | c :: t, cur, p, ps, h, hp => by
  rw [split_cons] at h
  split at h
  ·rename_i hc
   simp only [List.cons.injEq] at h
   exact ⟨[], t, by simp [h.1], by simp, by simp [hc], h.2⟩
  ·rename_i hc
   obtain ⟨r, u, h1, h2, h3, h4⟩ := split_more b t _ p ps h hp
   refine ⟨c :: r, u, by rw [h1]; simp, ?_, by rw [h3]; rfl, h4⟩
   simp only [List.mem_cons, not_or]
   exact ⟨fun e => hc e.symm, h2⟩
theorem split_count (b : UInt8) : ∀ (xs cur : List UInt8), (splitFrom b cur xs).length ≤ xs.length + 1
 | [], cur => by simp [splitFrom]
 | c :: t, cur => by
  rw [split_cons]
  split
  ·have := split_count b t []
   simp only [List.length_cons]; omega
  ·have := split_count b t (cur ++ [c])
   simp only [List.length_cons]; omega
theorem split_some (s : ByteArray) (b : UInt8) (hs : s.size ≤ 1048576) : spec_l1Split.F s (b.toNat : Int) = some ((splitFrom b [] s.data.toList).map mkB) := by
 rw [spec_l1Split.F_eq]
 have hn := size_data s
 have key : ∀ (t : List UInt8) (i fr : Nat) (acc : List ByteArray), s.data.toList.drop i = t → fr ≤ i → i ≤ s.size → acc.length ≤ i → spec_l1Split.L0 s (b.toNat : Int) acc (fr : Int) (i : Int) = some (acc ++ (splitFrom b ((s.data.toList.drop fr).take (i - fr)) t).map mkB) := by
  intro t
  induction t with
  | nil =>
   intro i fr acc hd hf hi ha
   have : s.data.toList.length ≤ i := by simpa [List.drop_eq_nil_iff] using hd
   obtain rfl : i = s.size := by omega
   rw [spec_l1Split.L0_eq, if_neg (by omega), if_pos (by omega), if_pos (by omega), if_pos (by omega), Int.toNat_natCast, cut_mkB]
   rfl
  | cons c t ih =>
   intro i fr acc hd hf hi ha
   have hlt : i < s.data.toList.length := by
    rcases Nat.lt_or_ge i s.data.toList.length with h' | h'
    ·exact h'
    ·rw [List.drop_eq_nil_of_le h'] at hd; cases hd
   have h2 := List.drop_eq_getElem_cons hlt
   rw [hd] at h2
   injection h2 with h3 h4
   have hb : bt s (i : Int) = (c.toNat : Int) := by
    rw [bt_data s i (by omega), List.getD_eq_getElem?_getD, List.getElem?_eq_getElem hlt, ← h3]
    rfl
   rw [spec_l1Split.L0_eq, if_pos (by omega), if_pos (by omega), hb, wrap_in (x := (i : Int) + 1) (by omega) (by omega), split_cons]
   have hi1 : ((i : Int) + 1) = ((i + 1 : Nat) : Int) := by omega
   by_cases hc : c = b
   ·subst hc
    rw [if_pos rfl, if_pos (by omega), if_pos (by omega), if_pos (by omega), if_pos (by omega), if_pos rfl, hi1, ih (i + 1) (i + 1) _ h4.symm (by omega) (by omega) (by simp; omega), Int.toNat_natCast, Int.toNat_natCast, cut_mkB]
    simp
   ·have hne : ¬ ((c.toNat : Int) = (b.toNat : Int)) := fun e => hc (UInt8.toNat_inj.1 (by omega))
    rw [if_neg hne, if_neg hc, hi1, ih (i + 1) fr acc h4.symm (by omega) (by omega) (by omega)]
    congr 4
    rw [show i + 1 - fr = (i - fr) + 1 from by omega, List.take_add_one]
    congr 1
    rw [List.getElem?_drop, show fr + (i - fr) = i from by omega, List.getElem?_eq_getElem hlt, ← h3]
    rfl
 have := key s.data.toList 0 0 [] rfl (by omega) (by omega) (by simp)
 simpa using this
/-! ### Numbers read -/
def dig (c : UInt8) : Bool := decide (48 ≤ c.toNat ∧ c.toNat ≤ 57)
def valF (n : Nat) (l : List UInt8) : Nat := l.foldl (fun n c => 10 * n + (c.toNat - 48)) n
/-- A canonical decimal number of at most six digits, or -1. -/
def readV (l : List UInt8) : Int := if (1 ≤ l.length ∧ l.length ≤ 6) ∧ l.all dig = true ∧ (l.length > 1 → l.head? ≠ some 48) then (valF 0 l : Int) else -1
theorem read_loop (s : ByteArray) (hs : s.size ≤ 6) : spec_l1Read.L0 s 0 0 = some (if s.data.toList.all dig = true then (valF 0 s.data.toList : Int) else -1) := by
 have hn := size_data s
 refine each (L := fun i => fun n => spec_l1Read.L0 s n i) s.data.toList 0 (fun i t f => ∀ n : Nat, n < 10 ^ i → i + t.length ≤ 6 → f (n : Int) = some (if t.all dig = true then (valF n t : Int) else -1)) ?_ ?_ 0 (by decide) (by omega)
 ·intro n h1 h2
  show spec_l1Read.L0 s _ _ = _
  rw [spec_l1Read.L0_eq, if_neg (by omega)]; rfl
 ·intro i c t hi hc _ _ ih n h1 h2
  show spec_l1Read.L0 s _ _ = _
  have hb : bt s (i : Int) = (c.toNat : Int) := by rw [bt_data s i (by omega), hc]
  have h10 : (10 : Nat) ^ i ≤ 10 ^ 6 := Nat.pow_le_pow_right (by omega) (by omega)
  simp only [List.length_cons] at h2
  rw [spec_l1Read.L0_eq, if_pos (by omega), if_pos (by omega), hb]
  by_cases c1 : (c.toNat : Int) < 48
  ·have : dig c = false := by unfold dig; simp; omega
   rw [if_pos c1]; simp [this]
  rw [if_neg c1]
  by_cases c2 : (c.toNat : Int) > 57
  ·have : dig c = false := by unfold dig; simp; omega
   rw [if_pos c2]; simp [this]
  have hd : dig c = true := by unfold dig; simp; omega
  rw [if_neg c2, wrap_in (x := 10 * (n : Int)) (by omega) (by omega), wrap_in (x := (i : Int) + 1) (by omega) (by omega)]
  have e : (10 * (n : Int) + ((c.toNat : Int) - 48) % 256) = ((10 * n + (c.toNat - 48) : Nat) : Int) := by omega
  rw [wrap_in (by omega) (by omega), e]
  refine (ih (10 * n + (c.toNat - 48)) (by rw [Nat.pow_succ]; omega) (by omega)).trans ?_
  simp [hd, valF]
theorem read_some (s : ByteArray) (hs : s.size ≤ 1048576) : spec_l1Read.F s = some (readV s.data.toList) := by
 have hn := size_data s
 rw [spec_l1Read.F_eq, l1In_some, Option.bind_some]
 unfold readV
 rw [← hn]
 by_cases h : 1 ≤ s.size ∧ s.size ≤ 6
 case neg =>
  rw [if_neg (by simp; omega), spec_l1Read.J0_eq, if_pos rfl, if_neg (fun q => h q.1)]
 rw [if_pos (by simp; omega), if_pos (by omega)]
 have hh : bt s 0 = ((s.data.toList.getD 0 0).toNat : Int) := bt_data s 0 (by omega)
 have hd : s.data.toList.head? = some (s.data.toList.getD 0 0) := by
  cases he : s.data.toList with
  | nil => rw [he] at hn; have : s.size = 0 := hn; omega
  | cons x t => rfl
 have hz : (bt s 0 = 48) ↔ s.data.toList.head? = some 48 := by
  rw [hh, hd]
  constructor
  ·intro q
   congr 1
   exact UInt8.toNat_inj.1 (by rw [show (48 : UInt8).toNat = 48 from rfl]; omega)
  ·intro q
   rw [Option.some.inj q]; rfl
 have hl := read_loop s h.2
 by_cases c : bt s 0 = 48
 ·rw [if_pos c]
  by_cases c2 : (s.size : Int) > 1
  ·rw [decide_eq_true c2, spec_l1Read.J0_eq, if_pos rfl, if_neg]
   rintro ⟨_, _, q⟩
   exact q (by omega) (hz.1 c)
  ·rw [decide_eq_false c2, spec_l1Read.J0_eq, if_neg (by simp), hl]
   congr 1
   by_cases a : s.data.toList.all dig = true
   ·rw [if_pos a, if_pos ⟨h, a, fun q => absurd q (by omega)⟩]
   ·rw [if_neg a, if_neg (fun q => a q.2.1)]
 ·rw [if_neg c, spec_l1Read.J0_eq, if_neg (by simp), hl]
  congr 1
  by_cases a : s.data.toList.all dig = true
  ·rw [if_pos a, if_pos ⟨h, a, fun _ q => c (hz.2 q)⟩]
  ·rw [if_neg a, if_neg (fun q => a q.2.1)]
theorem head_app {l m : List UInt8} (h : l ≠ []) : (l ++ m).head? = l.head? := by
 cases l with
 | nil => exact absurd rfl h
 | cons a l => rfl
theorem val_snoc (l : List UInt8) (c : UInt8) (n : Nat) : valF n (l ++ [c]) = 10 * valF n l + (c.toNat - 48) := by
 simp [valF]
theorem dig_back {c : UInt8} (h : dig c = true) : UInt8.ofNat (48 + (c.toNat - 48)) = c := by
 unfold dig at h
 simp only [decide_eq_true_eq] at h
 rw [show 48 + (c.toNat - 48) = c.toNat from by omega]
 simp
/-- What is read canonically is the number's text. -/
theorem val_back (l : List UInt8) : l ≠ [] → l.all dig = true → (l.length > 1 → l.head? ≠ some 48) → Lib.decDigits (valF 0 l) = l ∧ (l.head? ≠ some 48 → 1 ≤ valF 0 l) := by
 have key : ∀ (n : Nat) (l : List UInt8), l.length = n → l ≠ [] → l.all dig = true → (l.length > 1 → l.head? ≠ some 48) → Lib.decDigits (valF 0 l) = l ∧ (l.head? ≠ some 48 → 1 ≤ valF 0 l) := by
  intro n
  induction n with
  | zero => intro l hn hl; exact absurd (List.eq_nil_of_length_eq_zero hn) hl
  | succ n ih =>
   intro l hn hl ha hh
   obtain ⟨m, c, rfl⟩ : ∃ m c, l = m ++ [c] := ⟨l.dropLast, l.getLast hl, (List.dropLast_concat_getLast hl).symm⟩
   simp only [List.length_append, List.length_cons, List.length_nil] at hn
   simp only [List.all_append, List.all_cons, List.all_nil, Bool.and_true, Bool.and_eq_true] at ha
   have hc := ha.2
   have hc2 := hc
   unfold dig at hc2
   simp only [decide_eq_true_eq] at hc2
   rw [val_snoc]
   by_cases hm : m = []
   ·subst hm
    simp only [List.nil_append]
    have e : valF 0 [] = 0 := rfl
    rw [e, Nat.mul_zero, Nat.zero_add, Lib.decDigits_one (by omega), dig_back hc]
    refine ⟨rfl, fun q => ?_⟩
    rcases Nat.lt_or_ge 48 c.toNat with h | h
    ·omega
    ·exfalso
     apply q
     simp only [List.head?_cons]
     congr 1
     exact UInt8.toNat_inj.1 (by rw [show (48 : UInt8).toNat = 48 from rfl]; omega)
   ·have hp : 0 < m.length := List.length_pos_iff.2 hm
    have h0 : m.head? ≠ some 48 := by
     have := hh (by simp; omega)
     rwa [head_app hm] at this
    obtain ⟨i1, i2⟩ := ih m (by omega) hm ha.1 (fun _ => h0)
    have i3 := i2 h0
    have e1 : (10 * valF 0 m + (c.toNat - 48)) / 10 = valF 0 m := by omega
    have e2 : (10 * valF 0 m + (c.toNat - 48)) % 10 = c.toNat - 48 := by omega
    refine ⟨?_, fun _ => by omega⟩
    rw [Lib.decDigits, dif_neg (by omega), e1, e2, i1, dig_back hc]
 exact key l.length l rfl
theorem ofNat_dig {n : Nat} (h : n < 10) : dig (UInt8.ofNat (48 + n)) = true ∧ (UInt8.ofNat (48 + n)).toNat = 48 + n := by
 have : (UInt8.ofNat (48 + n)).toNat = 48 + n := by rw [UInt8.toNat_ofNat']; omega
 refine ⟨?_, this⟩
 unfold dig
 rw [this]
 simp
 omega
theorem dec_facts (n : Nat) : (Lib.decDigits n).all dig = true ∧ valF 0 (Lib.decDigits n) = n ∧ Lib.decDigits n ≠ [] ∧ (1 ≤ n → (Lib.decDigits n).head? ≠ some 48) ∧ ((Lib.decDigits n).length > 1 → 1 ≤ n) := by
 induction n using Nat.strongRecOn with
 | ind n ih =>
  by_cases c : n < 10
  ·obtain ⟨d1, d2⟩ := ofNat_dig c
   rw [Lib.decDigits_one c]
   refine ⟨by rw [List.all_cons, List.all_nil, d1]; rfl, by rw [show valF 0 [UInt8.ofNat (48 + n)] = 10 * 0 + ((UInt8.ofNat (48 + n)).toNat - 48) from rfl, d2]; omega, by simp, fun h q => ?_, fun h => by simp at h⟩
   simp only [List.head?_cons, Option.some.injEq] at q
   have := congrArg UInt8.toNat q
   rw [d2] at this
   simp at this
   omega
  ·obtain ⟨i1, i2, i3, i4, i5⟩ := ih (n / 10) (by omega)
   obtain ⟨d1, d2⟩ := ofNat_dig (n := n % 10) (by omega)
   have e : Lib.decDigits n = Lib.decDigits (n / 10) ++ [UInt8.ofNat (48 + n % 10)] := by rw [Lib.decDigits, dif_neg c]
   rw [e, val_snoc, i2, d2]
   refine ⟨by rw [List.all_append, i1, List.all_cons, List.all_nil, d1]; rfl, by omega, by simp, fun _ => ?_, fun _ => by omega⟩
   rw [head_app i3]
   exact i4 (by omega)
theorem dec_len (k : Nat) : ∀ n : Nat, n < 10 ^ (k + 1) → (Lib.decDigits n).length ≤ k + 1 := by
 induction k with
 | zero => intro n hn; rw [Lib.decDigits_one (by simpa using hn)]; simp
 | succ k ih =>
  intro n hn
  by_cases c : n < 10
  ·rw [Lib.decDigits_one c]; simp
  ·have := ih (n / 10) (by rw [Nat.pow_succ] at hn; omega)
   rw [Lib.decDigits, dif_neg c, List.length_append]
   simp only [List.length_cons, List.length_nil]
   omega
theorem read_dec {n : Nat} (h : n < 1000000) : readV (Lib.decDigits n) = n := by
 obtain ⟨h1, h2, h3, h4, h5⟩ := dec_facts n
 have hl := dec_len 5 n (by simpa using h)
 have hp : 0 < (Lib.decDigits n).length := List.length_pos_iff.2 h3
 unfold readV
 rw [if_pos ⟨⟨by omega, hl⟩, h1, fun q => h4 (h5 q)⟩, h2]
theorem read_back {l : List UInt8} (h : 0 ≤ readV l) : l = Lib.decDigits (readV l).toNat ∧ readV l < 1000000 := by
 unfold readV at h ⊢
 split at h
 case isFalse => omega
 case isTrue q =>
  have hne : l ≠ [] := fun e => by subst e; simp at q
  have := (val_back l hne q.2.1 q.2.2).1
  rw [if_pos q, Int.toNat_natCast, this]
  refine ⟨rfl, ?_⟩
  have bound : ∀ (t : List UInt8) (n i : Nat), n < 10 ^ i → t.all dig = true → valF n t < 10 ^ (i + t.length) := by
   intro t
   induction t with
   | nil => intro n i hn _; simpa [valF] using hn
   | cons c t ih =>
    intro n i hn ha
    simp only [List.all_cons, Bool.and_eq_true] at ha
    have hc := ha.1
    unfold dig at hc
    simp only [decide_eq_true_eq] at hc
    have := ih (10 * n + (c.toNat - 48)) (i + 1) (by rw [Nat.pow_succ]; omega) ha.2
    rw [List.length_cons, show i + (t.length + 1) = i + 1 + t.length from by omega]
    exact this
  have b := bound l 0 0 (by decide) q.2.1
  have : (10 : Nat) ^ (0 + l.length) ≤ 10 ^ 6 := Nat.pow_le_pow_right (by omega) (by omega)
  have e : (10 : Nat) ^ 6 = 1000000 := rfl
  omega

/-! ### Texts cut at a byte -/
theorem idx_none (c : UInt8) : ∀ l : List UInt8, c ∉ l → Lib.indexByte l c = -1
 | [], _ => rfl
 | b :: l, h => by
  simp only [List.mem_cons, not_or] at h
  have hb : (b == c) = false := by simpa using fun e : b = c => h.1 e.symm
  rw [Lib.indexByte, hb, idx_none c l h.2]; rfl
theorem idx_at (c : UInt8) (t : List UInt8) : ∀ p : List UInt8, c ∉ p → Lib.indexByte (p ++ c :: t) c = p.length
 | [], _ => by simp [Lib.indexByte]
 | b :: p, h => by
  simp only [List.mem_cons, not_or] at h
  have hb : (b == c) = false := by simpa using fun e : b = c => h.1 e.symm
  have hn : (((p.length : Int)) == -1) = false := by
   rw [beq_eq_false_iff_ne]; omega
  rw [List.cons_append, Lib.indexByte, hb, idx_at c t p h.2, hn]
  simp
theorem cut_none (s : ByteArray) (c : UInt8) (h : c ∉ s.data.toList) : strings_Cut.f s ⟨#[c]⟩ = some (s, ⟨#[]⟩, false) := by
 unfold strings_Cut.f stringslite_Cut.f stringslite_Index.f
 rw [if_pos (show (⟨#[c]⟩ : ByteArray).size = 1 from rfl), show (⟨#[c]⟩ : ByteArray).data.toList.getD 0 0 = c from rfl, idx_none c _ h]
 rfl
theorem cut_at (s : ByteArray) (c : UInt8) (p t : List UInt8) (hs : s.size ≤ 4611686018427387904) (h : s.data.toList = p ++ c :: t) (hp : c ∉ p) : strings_Cut.f s ⟨#[c]⟩ = some (mkB p, mkB t, true) := by
 have hn := size_data s
 have hl : s.data.toList.length = p.length + (t.length + 1) := by rw [h]; simp
 unfold strings_Cut.f stringslite_Cut.f stringslite_Index.f
 have one : (⟨#[c]⟩ : ByteArray).size = 1 := rfl
 rw [if_pos one, show (⟨#[c]⟩ : ByteArray).data.toList.getD 0 0 = c from rfl, h, idx_at c t p hp, one]
 simp only [Option.bind_some]
 have e1 : ((p.length : Int)) + ((1 : Nat) : Int) = ((p.length + 1 : Nat) : Int) := by omega
 rw [if_pos (by omega), if_pos (by omega), if_pos (by omega), e1, wrap_in (by omega) (by omega), if_pos (by omega), if_pos (by omega), Int.toNat_natCast, Int.toNat_natCast, cut_mkB, cut_mkB, h]
 have e2 : ((p ++ c :: t).drop 0).take (p.length - 0) = p := by simp
 have e3 : ((p ++ c :: t).drop (p.length + 1)).take (s.size - (p.length + 1)) = t := by
  rw [← List.drop_drop, List.drop_left, List.drop_succ_cons, List.drop_zero]
  exact List.take_of_length_le (by omega)
 rw [e2, e3]
 rfl
/-- Where a byte is first. -/
theorem first_at (c : UInt8) : ∀ l : List UInt8, c ∈ l → ∃ p t, l = p ++ c :: t ∧ c ∉ p
 | [], h => by cases h
 | b :: l, h => by
  by_cases hb : b = c
  ·exact ⟨[], l, by rw [hb]; rfl, by simp⟩
  ·obtain ⟨p, t, h1, h2⟩ := first_at c l (by
    rcases List.mem_cons.1 h with h | h
    ·exact absurd h.symm hb
    ·exact h)
   exact ⟨b :: p, t, by rw [h1]; rfl, by simp only [List.mem_cons, not_or]; exact ⟨fun e => hb e.symm, h2⟩⟩

theorem cut_any (s : ByteArray) (c : UInt8) (hs : s.size ≤ 4611686018427387904) : ∃ x y b, strings_Cut.f s ⟨#[c]⟩ = some (x, y, b) ∧ x.size ≤ s.size ∧ y.size ≤ s.size := by
 by_cases hm : c ∈ s.data.toList
 ·obtain ⟨p, t, h1, h2⟩ := first_at c _ hm
  have hn := size_data s
  have hl : s.data.toList.length = p.length + (t.length + 1) := by rw [h1]; simp
  exact ⟨_, _, _, cut_at s c p t hs h1 h2, by rw [mkB_size]; omega, by rw [mkB_size]; omega⟩
 ·exact ⟨_, _, _, cut_none s c hm, Nat.le_refl _, by show 0 ≤ _; omega⟩
/-- Two readers that read just what is written agree. -/
theorem parse_agree {α ρ : Type} {E : α → ρ} {V : α → Prop} {z : ρ} {S I : Option ρ}
 (S1 : ∀ v, V v → S = some (E v)) (S2 : S = some z ∨ ∃ v, V v ∧ S = some (E v)) (I1 : ∀ v, V v → I = some (E v)) (I2 : I = some z ∨ ∃ v, V v ∧ I = some (E v)) : ∃ R, S = some R ∧ I = some R := by
 rcases S2 with h | ⟨v, hv, h⟩
 ·rcases I2 with h2 | ⟨v, hv, h2⟩
  ·exact ⟨z, h, h2⟩
  ·exact ⟨_, S1 v hv, h2⟩
 ·exact ⟨_, h, I1 v hv⟩




theorem read_lt (l : List UInt8) : readV l < 1000000 := by
 by_cases h : 0 ≤ readV l
 ·exact (read_back h).2
 ·omega
theorem read_ge (l : List UInt8) : -1 ≤ readV l := by
 unfold readV
 split <;> omega
theorem tail_cut (s : ByteArray) : s.extract 1 s.size = mkB s.data.toList.tail := by
 rw [cut_mkB]
 congr 1
 have hn := size_data s
 cases h : s.data.toList with
 | nil => simp
 | cons c t =>
  rw [h] at hn
  simp only [List.length_cons] at hn
  rw [List.drop_succ_cons, List.drop_zero, List.tail_cons]
  exact List.take_of_length_le (by omega)
theorem head_bt (s : ByteArray) (h : 0 < s.size) : bt s 0 = 45 ↔ s.data.toList.head? = some 45 := by
 have hb : bt s 0 = ((s.data.toList.getD 0 0).toNat : Int) := bt_data s 0 h
 have hn := size_data s
 rw [hb]
 clear hb
 generalize s.data.toList = l at hn ⊢
 cases l with
 | nil => rw [List.length_nil] at hn; omega
 | cons c t =>
  rw [List.head?_cons, List.getD_cons_zero]
  constructor
  ·intro k
   have k2 : c.toNat = 45 := Int.ofNat_inj.1 (show ((c.toNat : Nat) : Int) = ((45 : Nat) : Int) from k)
   have : c = 45 := UInt8.toNat_inj.1 (k2.trans rfl)
   rw [this]
  ·intro k
   simp only [Option.some.injEq] at k
   rw [k]; rfl

/-! ### An angle read -/
theorem int_text {n : Int} (h : -1000000 ≤ n ∧ n ≤ 1000000) : spec_l1Int.F n = some (it n) := by
 rw [spec_l1Int.F_eq]
 by_cases c : n < 0
 ·obtain ⟨m, rfl⟩ : ∃ m : Nat, n = -(m : Int) := ⟨n.natAbs, by omega⟩
  have hl := dec_length m
  have e : - -(m : Int) = (m : Int) := by omega
  have hd : (⟨(Lib.decDigits m).toArray⟩ : ByteArray).size = (Lib.decDigits m).length := by simp [ByteArray.size]
  rw [if_pos c, e, wrap_in (by omega) (by omega), num_some m (by omega), Option.bind_some, if_pos (by omega)]
  congr 1
  apply ext_data
  rw [toList_data, toList_data, it_data]
  unfold Lib.itoa
  rw [if_pos c]
  simp
 ·obtain ⟨m, rfl⟩ := Int.eq_ofNat_of_zero_le (show 0 ≤ n by omega)
  have e : it (m : Int) = ⟨(Lib.decDigits m).toArray⟩ := by
   unfold it Lib.itoa
   rw [if_neg c, Int.toNat_natCast]
  rw [if_neg c, num_some m (by omega), Option.bind_some, e]
def loV (l : List UInt8) : Int := if 1 < l.length ∧ l.head? = some 45 then (if Lib.itoa (-(readV l.tail)) = l then -(readV l.tail) else 1000) else (if Lib.itoa (readV l) = l then readV l else 1000)
theorem it_toList (n : Int) (s : ByteArray) : (it n).toList = s.toList ↔ Lib.itoa n = s.data.toList := by rw [toList_data, toList_data, it_data]
theorem loRead_some (s : ByteArray) (hs : s.size ≤ 1048576) : spec_loRead.F s = some (loV s.data.toList) := by
 have hn := size_data s
 have h1 := read_lt s.data.toList.tail
 have h2 := read_ge s.data.toList.tail
 have h3 := read_lt s.data.toList
 have h4 := read_ge s.data.toList
 have htz : (mkB s.data.toList.tail).size ≤ 1048576 := by rw [mkB_size, List.length_tail]; omega
 have rest : spec_loRead.J0 s (readV s.data.toList) false = some (if Lib.itoa (readV s.data.toList) = s.data.toList then readV s.data.toList else 1000) := by
  rw [spec_loRead.J0_eq, if_neg (by simp), int_text (by omega), Option.bind_some]
  by_cases c : Lib.itoa (readV s.data.toList) = s.data.toList
  ·rw [if_pos c, if_pos ((it_toList _ _).2 c)]
  ·rw [if_neg c, if_neg (fun h => c ((it_toList _ _).1 h))]
 rw [spec_loRead.F_eq, read_some s hs, Option.bind_some]
 unfold loV
 by_cases c1 : (s.size : Int) > 1
 case neg => rw [if_neg c1, rest]; exact congrArg some (if_neg (fun h => by omega)).symm
 rw [if_pos c1, if_pos (by omega)]
 by_cases c2 : s.data.toList.head? = some 45
 case neg =>
  have : (bt s 0 == 45) = false := by rw [beq_eq_false_iff_ne]; exact fun h => c2 ((head_bt s (by omega)).1 h)
  rw [this, rest]; exact congrArg some (if_neg (fun h => c2 h.2)).symm
 have : (bt s 0 == 45) = true := by rw [beq_iff_eq]; exact (head_bt s (by omega)).2 c2
 rw [this, spec_loRead.J0_eq, if_pos rfl, if_pos (by omega), tail_cut, read_some _ htz, data_mkB, Option.bind_some, wrap_in (by omega) (by omega), int_text (by omega), Option.bind_some, if_pos (show 1 < s.data.toList.length ∧ s.data.toList.head? = some 45 from ⟨by omega, c2⟩)]
 by_cases c : Lib.itoa (-(readV s.data.toList.tail)) = s.data.toList
 ·rw [if_pos c, if_pos ((it_toList _ _).2 c)]
 ·rw [if_neg c, if_neg (fun h => c ((it_toList _ _).1 h))]
theorem loV_back {l : List UInt8} (h : -90 ≤ loV l ∧ loV l ≤ 90) : Lib.itoa (loV l) = l := by
 unfold loV at h ⊢
 split at h
 ·rename_i h1
  rw [if_pos h1]
  split at h
  ·rename_i h2; rw [if_pos h2]; exact h2
  ·omega
 ·rename_i h1
  rw [if_neg h1]
  split at h
  ·rename_i h2; rw [if_pos h2]; exact h2
  ·omega
theorem loV_facts : ∀ k : Fin 181, loV (Lib.itoa ((k.val : Int) - 90)) = (k.val : Int) - 90 := by decide +kernel
theorem loV_it {n : Int} (h : -90 ≤ n ∧ n ≤ 90) : loV (Lib.itoa n) = n := by
 have := loV_facts ⟨(n + 90).toNat, by omega⟩
 have e : (((n + 90).toNat : Nat) : Int) - 90 = n := by omega
 simpa only [e] using this
theorem decimal_back {t : ByteArray} {v : Int} (h : impl_decimal.f t = some (v, true)) : Lib.itoa v = t.data.toList := by
 unfold impl_decimal.f at h
 split at h
 ·rename_i h0
  injection h with h
  split at h
  ·rename_i u hu
   split at h
   ·rename_i h2
    injection h with h3 h4
    rw [← h3]; exact h2
   ·injection h with _ h4; cases h4
  ·injection h with _ h4; cases h4
 ·cases h
/-- Both readers read an angle where one is written, and none elsewhere. -/
theorem read_angle (t : ByteArray) (ht : t.size ≤ 1048576) : ∃ a v b, spec_loRead.F t = some a ∧ impl_decimal.f t = some (v, b) ∧ ((-90 ≤ a ∧ a ≤ 90) ↔ (b = true ∧ -90 ≤ v ∧ v ≤ 90)) ∧ ((-90 ≤ a ∧ a ≤ 90) → v = a) := by
 obtain ⟨v, b, hd⟩ := dec_some t (by omega)
 refine ⟨loV t.data.toList, v, b, loRead_some t ht, hd, ⟨fun h => ?_, fun h => ?_⟩, fun h => ?_⟩
 ·have e := loV_back h
  have e2 : it (loV t.data.toList) = t := by rw [← mkB_data t]; show mkB (Lib.itoa _) = _; rw [data_mkB, e]
  have := decimal_it h
  rw [e2, hd] at this
  injection this with this
  injection this with h1 h2
  exact ⟨h2, by rw [h1]; exact h⟩
 ·obtain ⟨rfl, h1⟩ := h
  have e := decimal_back hd
  rw [← e, loV_it h1]; exact h1
 ·have e := loV_back h
  have e2 : it (loV t.data.toList) = t := by rw [← mkB_data t]; show mkB (Lib.itoa _) = _; rw [data_mkB, e]
  have := decimal_it h
  rw [e2, hd] at this
  injection this with this
  injection this with h1 h2


theorem take_set {α : Type} (l : List α) (i : Nat) (v : α) (h : i < l.length) : (l.set i v).take (i + 1) = l.take i ++ [v] := by
 rw [List.take_succ_eq_append_getElem (by simpa using h), List.take_set_of_le (Nat.le_refl i)]
 simp


/-! ### Marks -/
theorem strOfNums_one (x : Int) : (strOfNums [x]).size = 1 := by simp [strOfNums, ByteArray.size]
theorem markText_total (a : Int) (ha : 0 ≤ a ∧ a ≤ 9223372036854775807) : ∃ s, laws_markText.F a = some s := by
 have key : ∀ (d : Nat) (a : Int) (s : ByteArray), 0 ≤ a → a < 10 ^ d → a ≤ 9223372036854775807 → s.size + d ≤ 1000 → ∃ r, laws_markText.L0 a s = some r := by
  intro d
  induction d with
  | zero =>
   intro a s h0 h1 _ h2
   rw [laws_markText.L0_eq, if_neg (by simp at h1; omega), if_pos (by omega)]
   exact ⟨_, rfl⟩
  | succ d ih =>
   intro a s h0 h1 h3 h2
   rw [laws_markText.L0_eq]
   by_cases h : a > 0
   ·rw [if_pos h, Option.bind_some, strOfNums_one, if_pos (by omega), Int.tdiv_eq_ediv_of_nonneg h0, wrap_in (by omega) (by omega)]
    refine ih _ _ (by omega) ?_ (by omega) (by rw [ByteArray.size_append, strOfNums_one]; omega)
    rw [Int.pow_succ] at h1
    omega
   ·rw [if_neg h, if_pos (by omega)]
    exact ⟨_, rfl⟩
 rw [laws_markText.F_eq]
 split
 ·exact ⟨_, rfl⟩
 ·exact key 19 a _ ha.1 (by have := ha.2; omega) ha.2 (by decide +kernel)


theorem set_take {α : Type} (l : List α) (i : Nat) (v : α) (h : i < l.length) : (l.set i v).take (i + 1) = l.take i ++ [v] := by
 rw [List.take_succ_eq_append_getElem (by simpa using h), List.take_set_of_le (Nat.le_refl i)]
 simp

/-! ### Slices of texts -/
theorem rd_txt (l : List ByteArray) (i : Nat) : rdOf ByteArray.empty l (i : Int) = l.getD i ByteArray.empty := by simp [rdOf]
noncomputable def mk (a : Int) : ByteArray := (laws_markText.F a).getD ⟨#[]⟩
theorem markText_some (a : Int) (ha : 0 ≤ a ∧ a ≤ 9223372036854775807) : laws_markText.F a = some (mk a) := by
 obtain ⟨s, hs⟩ := markText_total a ha
 unfold mk; rw [hs]; rfl
noncomputable def marks (a : Int) : Nat → List ByteArray
 | 0 => []
 | n + 1 => mk a :: marks (a + 1) n
theorem marks_length (a : Int) : ∀ n, (marks a n).length = n
 | 0 => rfl
 | n + 1 => by rw [marks, List.length_cons, marks_length]

noncomputable def lmarks (a : Int) : Nat → List Loc
 | 0 => []
 | n + 1 => ⟨mk a, a + 1⟩ :: lmarks (a + 2) n
theorem lmarks_length (a : Int) : ∀ n, (lmarks a n).length = n
 | 0 => rfl
 | n + 1 => by rw [lmarks, List.length_cons, lmarks_length]
theorem getD_set_self {α : Type} (l : List α) (i : Nat) (v z : α) (h : i < l.length) : (l.set i v).getD i z = v := by
 rw [List.getD_eq_getElem?_getD, List.getElem?_set_self h]; rfl
theorem markLocus_some (l : List Loc) (a : Int) (hl : l.length ≤ 1048576) (ha : 0 ≤ a ∧ a ≤ 4194304) : laws_markLocusS.F l a = some (a + 2 * l.length, lmarks a l.length) := by
 rw [laws_markLocusS.F_eq]
 have := each (L := fun i => fun y b => laws_markLocusS.L0 y b i) l z40 (fun i t f => ∀ (y : List Loc) (b : Int), y.length = l.length → b = a + 2 * i → f y b = some (b + 2 * t.length, y.take i ++ lmarks b t.length)) ?_ ?_ l a rfl (by omega)
 ·simpa using this
 ·intro y b hy hb
  show laws_markLocusS.L0 y b _ = _
  rw [laws_markLocusS.L0_eq, if_neg (by omega)]
  simp [lmarks, ← hy]
 ·intro i x t hi _ hd _ ih y b hy hb
  have := congrArg List.length hd
  simp only [List.length_drop, List.length_cons] at this
  show laws_markLocusS.L0 y b _ = _
  rw [laws_markLocusS.L0_eq, if_pos (by omega), markText_some b (by omega), Option.bind_some, if_pos (by omega), Option.bind_some, wrap_in (x := (i : Int) + 1) (by omega) (by omega), wrap_in (x := b + 1) (by omega) (by omega), wrap_in (x := b + 1 + 1) (by omega) (by omega), Int.toNat_natCast, rd_loc, rd_loc, getD_set_self _ _ _ _ (by omega), List.set_set]
  refine (ih _ _ (by simpa using hy) (by omega)).trans ?_
  rw [take_set _ _ _ (by omega), show b + 1 + 1 = b + 2 from by omega]
  simp [lmarks]; omega
theorem heldLocus_some (n : Nat) (a : Int) (hn : n ≤ 1048576) (ha : 0 ≤ a ∧ a ≤ 4194304) : laws_heldLocusS.F (lmarks a n) a = some (a + 2 * n) := by
 rw [laws_heldLocusS.F_eq]
 have hl := lmarks_length a n
 have := each (L := fun i => fun b => laws_heldLocusS.L0 (lmarks a n) b i) (lmarks a n) z40 (fun i t f => ∀ (b : Int), b = a + 2 * i → t = lmarks b t.length → f b = some (b + 2 * t.length)) ?_ ?_ a (by omega) (by rw [hl])
 ·simpa [hl] using this
 ·intro b hb _
  show laws_heldLocusS.L0 _ b _ = _
  rw [laws_heldLocusS.L0_eq, if_neg (by omega)]; simp
 ·intro i x t hi hx hd _ ih b hb ht
  rw [List.length_cons, lmarks] at ht
  injection ht with h1 h2
  show laws_heldLocusS.L0 _ b _ = _
  rw [laws_heldLocusS.L0_eq, if_pos (by omega), if_pos (by omega), markText_some b (by omega), Option.bind_some, rd_loc, hx, h1, if_pos rfl, wrap_in (x := b + 1) (by omega) (by omega), if_pos rfl, wrap_in (x := (i : Int) + 1) (by omega) (by omega), wrap_in (x := b + 1 + 1) (by omega) (by omega), show b + 1 + 1 = b + 2 from by omega]
  refine (ih _ (by omega) h2).trans ?_
  rw [List.length_cons]; congr 1; omega


theorem eqLocus_refl (l : List Loc) (hl : l.length ≤ 9223372036854775807) : laws_eqLocusS.F l l = some true := by
 rw [laws_eqLocusS.F_eq, if_pos rfl]
 refine each (L := fun i => laws_eqLocusS.L0 l l i) l z40 (fun _ _ o => o = some true) ?_ ?_
 ·show laws_eqLocusS.L0 l l _ = _
  rw [laws_eqLocusS.L0_eq, if_neg (by omega)]
 ·intro i x t hi hx _ _ ih
  show laws_eqLocusS.L0 l l _ = _
  rw [laws_eqLocusS.L0_eq, if_pos (by omega), if_pos (by omega), if_pos (by omega), rd_loc, hx, wrap_in (x := (i : Int) + 1) (by omega) (by omega)]
  unfold laws_eqLocus.f
  rw [if_pos rfl, if_pos rfl, Option.bind_some, if_pos rfl]
  exact ih


theorem cuts_ne (e : Nat) (c : UInt8) : ∀ xs : List UInt8, cutsAt e c xs ≠ []
 | [] => by simp [cutsAt]
 | x :: t => by rw [cutsAt]; split <;> simp
theorem cuts_split (c : UInt8) : ∀ (xs cur : List UInt8), splitFrom c cur xs = (cur ++ (cutsAt 0 c xs).headD []) :: (cutsAt 0 c xs).tail
 | [], cur => by simp [splitFrom, cutsAt]
 | x :: t, cur => by
  rw [split_cons, cutsAt]
  have ih := cuts_split c t
  have hne := cuts_ne 0 c t
  by_cases hx : x = c
  ·rw [if_pos hx, if_pos hx, ih []]
   cases h : cutsAt 0 c t with
   | nil => exact absurd h hne
   | cons p ps => simp
  ·rw [if_neg hx, if_neg hx, ih (cur ++ [x])]
   simp
theorem cuts_eq (c : UInt8) (xs : List UInt8) : cutsAt 0 c xs = splitFrom c [] xs := by
 rw [cuts_split]
 cases h : cutsAt 0 c xs with
 | nil => exact absurd h (cuts_ne 0 c xs)
 | cons p ps => simp
theorem cuts_size {e : Nat} (he : e ≤ 1) (c : UInt8) : ∀ (xs : List UInt8), ∀ p ∈ cutsAt e c xs, p.length ≤ xs.length
 | [], p, hp => by simp [cutsAt] at hp; simp [hp]
 | x :: t, p, hp => by
  rw [cutsAt] at hp
  have ih := cuts_size he c t
  rw [List.length_cons]
  by_cases hx : x = c
  ·rw [if_pos hx] at hp
   rcases List.mem_cons.1 hp with rfl | hp
   ·rw [List.length_replicate]; omega
   ·have := ih p hp; omega
  ·rw [if_neg hx] at hp
   cases h : cutsAt e c t with
   | nil => exact absurd h (cuts_ne e c t)
   | cons q qs =>
    rw [h] at hp ih
    rcases List.mem_cons.1 hp with rfl | hp
    ·have := ih q (by simp); simp; omega
    ·have := ih p (List.mem_cons_of_mem _ hp); omega

theorem lower_from (l : List Loc) : ∀ (t : List Loc) (i : Nat), goodFrom l i t = true → ∀ x ∈ t, isWord 97 122 x.f0 = true
 | [], _, _ => by simp
 | x :: t, i, h => by
  simp only [goodFrom, okAt, Bool.and_eq_true] at h
  intro y hy
  rcases List.mem_cons.1 hy with rfl | hy
  ·exact h.1.1
  ·exact lower_from l t (i + 1) h.2 y hy
theorem lower_not {g : ByteArray} (h : isWord 97 122 g = true) (c : UInt8) (hc : ¬ (97 ≤ c.toNat ∧ c.toNat ≤ 122)) : c ∉ g.data.toList := by
 intro hm
 simp only [isWord, inRange, Bool.and_eq_true] at h
 have := List.all_eq_true.1 h.2 c hm
 simp only [decide_eq_true_eq] at this
 exact hc this
def lcL (x : Loc) : List UInt8 := x.f0.data.toList ++ 64 :: Lib.itoa x.f1
theorem lcTx_data (x : Loc) : (lcTx x).data.toList = lcL x ++ [59] := by
 unfold lcTx lcL
 simp [it_data]
theorem loTx_data : ∀ (l : List Loc) (s : ByteArray), (loTx l s).data.toList = s.data.toList ++ l.flatMap (fun x => lcL x ++ [59])
 | [], s => by simp [loTx]
 | x :: l, s => by
  have := loTx_data l (s ++ lcTx x)
  show (loTx l (s ++ lcTx x)).data.toList = _
  rw [this, ByteArray.data_append, Array.toList_append, lcTx_data, List.flatMap_cons, List.append_assoc]
/-- What is told of each locus of a good list. -/
def Okl (x : Loc) : Prop := isWord 97 122 x.f0 = true ∧ -90 ≤ x.f1 ∧ x.f1 ≤ 90
theorem okl_of {l : List Loc} (h : good l = true) : ∀ x ∈ l, Okl x := fun x hx => ⟨lower_from l l 0 h x hx, ((good_facts h).2 x hx).1⟩
theorem lcL_not {x : Loc} (h : Okl x) : (59 : UInt8) ∉ lcL x := by
 unfold lcL
 simp only [List.mem_append, List.mem_cons, not_or]
 exact ⟨lower_not h.1 59 (by decide), by decide, itoa_not h.2 59 (by decide)⟩
theorem lcL_size {x : Loc} (h : Okl x) : (lcL x).length ≤ 200 := by
 have h1 := h.1
 simp only [isWord, Bool.and_eq_true, decide_eq_true_eq] at h1
 have h2 := it_size h.2
 rw [size_data, it_data] at h2
 have h3 := size_data x.f0
 unfold lcL
 rw [List.length_append, List.length_cons]
 omega
theorem split_loci : ∀ l : List Loc, (∀ x ∈ l, Okl x) → splitFrom 59 [] (l.flatMap fun x => lcL x ++ [59]) = l.map lcL ++ [[]]
 | [], _ => rfl
 | x :: l, h => by
  rw [List.flatMap_cons, List.append_assoc, List.singleton_append, split_app 59 (lcL x) [] _ (lcL_not (h x (by simp))), split_loci l (fun y hy => h y (by simp [hy]))]
  rfl
theorem cuts_app (e : Nat) (c : UInt8) (t : List UInt8) : ∀ p : List UInt8, c ∉ p → cutsAt e c (p ++ c :: t) = (p ++ List.replicate e c) :: cutsAt e c t
 | [], _ => by
  show cutsAt e c (c :: t) = _
  rw [cutsAt, if_pos rfl]; rfl
 | x :: p, h => by
  simp only [List.mem_cons, not_or] at h
  rw [List.cons_append, cutsAt, if_neg (fun hx => h.1 hx.symm), cuts_app e c t p h.2]
  rfl
theorem cuts_loci : ∀ l : List Loc, (∀ x ∈ l, Okl x) → cutsAt 1 59 (l.flatMap fun x => lcL x ++ [59]) = l.map (fun x => lcL x ++ [59]) ++ [[]]
 | [], _ => rfl
 | x :: l, h => by
  rw [List.flatMap_cons, List.append_assoc, List.singleton_append, cuts_app 1 59 _ (lcL x) (lcL_not (h x (by simp))), cuts_loci l (fun y hy => h y (by simp [hy]))]
  rfl
theorem trim_any (x : ByteArray) (hx : x.size ≤ 4611686018427387904) : ∃ y, strings_TrimSuffix.f x ⟨#[59]⟩ = some y ∧ y.size ≤ x.size := by
 unfold strings_TrimSuffix.f stringslite_TrimSuffix.f stringslite_HasSuffix.f
 have one : (⟨#[59]⟩ : ByteArray).size = 1 := rfl
 rw [one]
 by_cases h1 : (x.size : Int) ≥ ((1 : Nat) : Int)
 ·rw [if_pos h1, wrap_in (x := (x.size : Int) - ((1 : Nat) : Int)) (by omega) (by omega), if_pos (by omega), if_pos (by omega), Option.bind_some]
  split
  ·rw [if_pos (by omega), if_pos (by omega), Option.bind_some]
   exact ⟨_, rfl, by rw [ByteArray.size_extract]; omega⟩
  ·exact ⟨_, rfl, Nat.le_refl _⟩
 ·rw [if_neg h1, Option.bind_some, if_neg (by simp), Option.bind_some]
  exact ⟨_, rfl, Nat.le_refl _⟩
theorem trim_at (q : List UInt8) (hq : q.length ≤ 1000) : strings_TrimSuffix.f (mkB (q ++ [59])) ⟨#[59]⟩ = some (mkB q) := by
 unfold strings_TrimSuffix.f stringslite_TrimSuffix.f stringslite_HasSuffix.f
 have one : (⟨#[59]⟩ : ByteArray).size = 1 := rfl
 have hz : (mkB (q ++ [59])).size = q.length + 1 := by rw [mkB_size, List.length_append]; rfl
 have e0 : ((q.length + 1 : Nat) : Int) - ((1 : Nat) : Int) = (q.length : Int) := by omega
 have e1 : ((mkB (q ++ [59])).extract q.length (q.length + 1)).toList = (⟨#[59]⟩ : ByteArray).toList := by
  rw [cut_mkB, data_mkB, toList_data, data_mkB, toList_data]
  simp
 have e2 : (mkB (q ++ [59])).extract 0 q.length = mkB q := by
  rw [cut_mkB, data_mkB]
  congr 1
  simp
 rw [one, hz, e0, wrap_in (by omega) (by omega), if_pos (by omega), if_pos (by omega), if_pos (by omega), Option.bind_some, Int.toNat_natCast, e1, if_pos (by simp), if_pos (by omega), if_pos (by omega), Option.bind_some, e2]
def LoV (s : ByteArray) (v : List Loc) : Prop := good v = true ∧ (loTx v ⟨#[]⟩).toList = s.toList
theorem lov_data {s : ByteArray} {v : List Loc} (h : LoV s v) : s.data.toList = v.flatMap fun x => lcL x ++ [59] := by
 have := loTx_data v ⟨#[]⟩
 rw [← toList_data, h.2, toList_data] at this
 simpa using this
theorem spec_tail (s : ByteArray) (W : List ByteArray) (out : List Loc) (hs : Sized out) : (spec_ParseLoci.L0 s out W W.length W.length = some ([], false) ∨ ∃ v, LoV s v ∧ spec_ParseLoci.L0 s out W W.length W.length = some (v, true)) ∧ (LoV s out → spec_ParseLoci.L0 s out W W.length W.length = some (out, true)) := by
 rw [spec_ParseLoci.L0_eq, if_neg (by omega), loGood_some _ hs, Option.bind_some]
 cases hg : good out
 ·exact ⟨.inl rfl, fun h => by rw [h.1] at hg; cases hg⟩
 ·rw [if_pos rfl, (lo_texts hg).1, Option.bind_some]
  by_cases hx : (loTx out ⟨#[]⟩).toList = s.toList
  ·rw [if_pos hx]; exact ⟨.inr ⟨out, ⟨hg, hx⟩, rfl⟩, fun _ => rfl⟩
  ·rw [if_neg hx]; exact ⟨.inl rfl, fun h => absurd h.2 hx⟩
theorem at_split {q : List UInt8} {p1 p2 : List UInt8} (h : splitFrom 64 [] q = [p1, p2]) : p1.length ≤ q.length ∧ p2.length ≤ q.length := by
 obtain ⟨r, t, e1, _, x1, h1⟩ := split_more 64 q [] p1 [p2] h (by simp)
 obtain ⟨e2, _⟩ := split_one 64 t [] p2 h1
 simp only [List.nil_append] at e1 e2
 rw [x1, e1, e2]
 simp only [List.length_append, List.length_cons]
 omega
theorem spec_any (s : ByteArray) (W : List ByteArray) (hW : W.length ≤ 100) (hp : ∀ p ∈ W, p.size ≤ 1048576) : spec_ParseLoci.L0 s [] W W.length 0 = some ([], false) ∨ ∃ v, LoV s v ∧ spec_ParseLoci.L0 s [] W W.length 0 = some (v, true) := by
 refine each (L := fun i => fun out => spec_ParseLoci.L0 s out W W.length i) W ByteArray.empty (fun i t f => ∀ out : List Loc, out.length + t.length ≤ 100 → (∀ x ∈ out, x.f0.size ≤ 1048576) → f out = some ([], false) ∨ ∃ v, LoV s v ∧ f out = some (v, true)) ?_ ?_ [] (by simpa using hW) (by simp)
 ·intro out ho hs
  exact (spec_tail s W out ⟨by simp at ho; omega, fun x hx => by have := hs x hx; omega⟩).1
 ·intro i x t hi hx hd _ ih out ho hs
  show spec_ParseLoci.L0 s out W _ _ = _ ∨ ∃ v, LoV s v ∧ spec_ParseLoci.L0 s out W _ _ = _
  rw [List.length_cons] at ho
  have hxs := hp x (mem_drop hd)
  have hn := size_data x
  rw [spec_ParseLoci.L0_eq, if_pos (by omega), if_pos (by omega), if_pos (by omega), rd_txt, hx, show (64 : Int) = (((64 : UInt8).toNat : Nat) : Int) from rfl, split_some x 64 hxs, Option.bind_some, wrap_in (x := (i : Int) + 1) (by omega) (by omega)]
  cases hw : splitFrom 64 [] x.data.toList with
  | nil => rw [if_neg (by simp)]; exact .inl rfl
  | cons p ps =>
   cases ps with
   | nil => rw [if_neg (by simp)]; exact .inl rfl
   | cons q qs =>
    cases qs with
    | cons _ _ => rw [if_neg (by simp; omega)]; exact .inl rfl
    | nil =>
     obtain ⟨z1, z2⟩ := at_split hw
     simp only [List.map_cons, List.map_nil]
     rw [if_pos (by simp), if_pos (by simp), if_pos (by simp), show rdOf ByteArray.empty [mkB p, mkB q] 1 = mkB q from rfl, show rdOf ByteArray.empty [mkB p, mkB q] 0 = mkB p from rfl, loRead_some _ (by rw [mkB_size]; omega), Option.bind_some, if_pos (show out.length < 5864062014805 by omega)]
     refine ih _ (by rw [List.length_append, List.length_singleton]; omega) (fun y hy => ?_)
     rcases List.mem_append.1 hy with hy | hy
     ·exact hs y hy
     ·rw [List.mem_singleton] at hy; subst hy
      show (mkB p).size ≤ _
      rw [mkB_size]; omega
theorem spec_at (s : ByteArray) (v : List Loc) (h : LoV s v) : spec_ParseLoci.L0 s [] (v.map fun x => mkB (lcL x)) (v.map fun x => mkB (lcL x)).length 0 = some (v, true) := by
 have ok := okl_of h.1
 have h8 := (good_facts h.1).1
 obtain ⟨W, hW⟩ : ∃ W, W = v.map fun x => mkB (lcL x) := ⟨_, rfl⟩
 have hWl : W.length = v.length := by rw [hW, List.length_map]
 rw [← hW]
 refine each (L := fun i => fun out => spec_ParseLoci.L0 s out W W.length i) W ByteArray.empty (fun i t f => ∀ (m out : List Loc), t = m.map (fun x => mkB (lcL x)) → out ++ m = v → f out = some (v, true)) ?_ ?_ v [] hW rfl
 ·intro m out hm hv
  obtain rfl : m = [] := List.map_eq_nil_iff.1 hm.symm
  rw [List.append_nil] at hv
  subst hv
  exact (spec_tail s W out ⟨by omega, fun x hx => by
   have := (ok x hx).1
   simp only [isWord, Bool.and_eq_true, decide_eq_true_eq] at this
   omega⟩).2 h
 ·intro i x t hi hx hd _ ih m out hm hv
  show spec_ParseLoci.L0 s out W _ _ = _
  cases m with
  | nil => cases hm
  | cons y m =>
   rw [List.map_cons] at hm
   injection hm with hm1 hm2
   have hy := ok y (by rw [← hv]; simp)
   have hyz := lcL_size hy
   have hol : out.length ≤ 8 := by have := congrArg List.length hv; rw [List.length_append] at this; omega
   rw [spec_ParseLoci.L0_eq, if_pos (by omega), if_pos (by omega), if_pos (by omega), rd_txt, hx, hm1, show (64 : Int) = (((64 : UInt8).toNat : Nat) : Int) from rfl, split_some _ 64 (by rw [mkB_size]; omega), data_mkB, Option.bind_some, wrap_in (x := (i : Int) + 1) (by omega) (by omega)]
   unfold lcL
   rw [split_app 64 y.f0.data.toList [] _ (lower_not hy.1 64 (by decide)), split_none 64 _ [] (itoa_not hy.2 64 (by decide))]
   simp only [List.nil_append, List.map_cons, List.map_nil]
   have hz := it_size hy.2
   rw [if_pos (by simp), if_pos (by simp), if_pos (by simp), show rdOf ByteArray.empty [mkB y.f0.data.toList, mkB (Lib.itoa y.f1)] 1 = it y.f1 from rfl, show rdOf ByteArray.empty [mkB y.f0.data.toList, mkB (Lib.itoa y.f1)] 0 = mkB y.f0.data.toList from rfl, loRead_some _ (by omega), it_data, loV_it hy.2, Option.bind_some, if_pos (show out.length < 5864062014805 by omega), mkB_data]
   exact ih m (out ++ [y]) hm2 (by rw [List.append_assoc, List.singleton_append]; exact hv)
theorem impl_tail (s : ByteArray) (hs0 : s.size ≤ 1048576) (out : List Loc) (hs : Sized out) (hrun : impl_ParseLoci.run (impl_ParseLoci.pieces s 59 1) [] = some out) : (impl_ParseLoci.G s = some ([], false) ∨ ∃ v, LoV s v ∧ impl_ParseLoci.G s = some (v, true)) ∧ (LoV s out → impl_ParseLoci.G s = some (out, true)) := by
 rw [impl_ParseLoci.G, if_pos hs0, hrun, Option.bind_some, areLoci_some _ hs, Option.bind_some]
 cases hg : good out
 ·exact ⟨.inl rfl, fun h => by rw [h.1] at hg; cases hg⟩
 ·rw [if_pos rfl, (lo_texts hg).2, Option.bind_some]
  by_cases hx : (loTx out ⟨#[]⟩).toList = s.toList
  ·rw [if_pos hx]; exact ⟨.inr ⟨out, ⟨hg, hx⟩, rfl⟩, fun _ => rfl⟩
  ·rw [if_neg hx]; exact ⟨.inl rfl, fun h => absurd h.2 hx⟩
theorem impl_any : ∀ (ps : List ByteArray) (out : List Loc), (∀ p ∈ ps, p.size ≤ 1048576) → out.length ≤ 9 → (∀ x ∈ out, x.f0.size ≤ 1048576) → ∃ o, impl_ParseLoci.run ps out = some o ∧ o.length ≤ 9 ∧ ∀ x ∈ o, x.f0.size ≤ 1048576
 | [], out, _, h1, h2 => ⟨out, rfl, h1, h2⟩
 | p :: ps, out, h0, h1, h2 => by
  have hp := h0 p (by simp)
  obtain ⟨o, k1, k2, k3⟩ : ∃ o, impl_ParseLoci.one out p = some o ∧ o.length ≤ 9 ∧ ∀ x ∈ o, x.f0.size ≤ 1048576 := by
   unfold impl_ParseLoci.one
   by_cases c1 : p.toList = []
   ·rw [if_pos c1]; exact ⟨out, rfl, h1, h2⟩
   rw [if_neg c1]
   by_cases c2 : 8 < out.length
   ·rw [if_pos c2]; exact ⟨out, rfl, h1, h2⟩
   rw [if_neg c2]
   obtain ⟨y, y1, y2⟩ := trim_any p (by omega)
   obtain ⟨a, b, c, q1, q2, q3⟩ := cut_any y 64 (by omega)
   obtain ⟨n, k, d1⟩ := dec_some b (by omega)
   rw [y1, Option.bind_some, q1, Option.bind_some]
   dsimp only
   rw [d1, Option.bind_some]
   refine ⟨_, rfl, by rw [List.length_append, List.length_singleton]; omega, fun x hx => ?_⟩
   rcases List.mem_append.1 hx with hx | hx
   ·exact h2 x hx
   ·rw [List.mem_singleton] at hx; subst hx
    show a.size ≤ _
    omega
  rw [impl_ParseLoci.run, k1, Option.bind_some]
  exact impl_any ps o (fun q hq => h0 q (by simp [hq])) k2 k3
theorem impl_at : ∀ (m out : List Loc), (∀ x ∈ m, Okl x) → out.length + m.length ≤ 8 → impl_ParseLoci.run (m.map (fun x => mkB (lcL x ++ [59])) ++ [mkB []]) out = some (out ++ m)
 | [], out, _, _ => by
  have h0 : (mkB []).toList = [] := by rw [toList_data]; rfl
  rw [List.map_nil, List.nil_append, impl_ParseLoci.run, impl_ParseLoci.one, if_pos h0, Option.bind_some, impl_ParseLoci.run, List.append_nil]
 | x :: m, out, ok, hl => by
  rw [List.length_cons] at hl
  have hx := ok x (by simp)
  have hz := lcL_size hx
  have h0 : ¬ (mkB (lcL x ++ [59])).toList = [] := by rw [toList_data, data_mkB]; simp
  have hc := cut_at (mkB (lcL x)) 64 x.f0.data.toList (Lib.itoa x.f1) (by rw [mkB_size]; omega) (data_mkB _) (lower_not hx.1 64 (by decide))
  have hd : impl_decimal.f (mkB (Lib.itoa x.f1)) = some (x.f1, true) := decimal_it hx.2
  rw [List.map_cons, List.cons_append, impl_ParseLoci.run, impl_ParseLoci.one, if_neg h0, if_neg (by omega), trim_at _ (by omega), Option.bind_some, hc, Option.bind_some]
  dsimp only
  rw [hd, Option.bind_some, Option.bind_some, mkB_data]
  have := impl_at m (out ++ [x]) (fun y hy => ok y (by simp [hy])) (by rw [List.length_append, List.length_singleton]; omega)
  rw [List.append_assoc, List.singleton_append] at this
  exact this
theorem spec_two (s : ByteArray) (hs : s.size ≤ 1048576) : spec_ParseLoci.F s = some ([], false) ∨ ∃ v, LoV s v ∧ spec_ParseLoci.F s = some (v, true) := by
 have hn := size_data s
 rw [spec_ParseLoci.F_eq, show (59 : Int) = (((59 : UInt8).toNat : Nat) : Int) from rfl, split_some s 59 hs, Option.bind_some]
 have hsz : ∀ q ∈ (splitFrom 59 [] s.data.toList).map mkB, q.size ≤ 1048576 := by
  intro q hq
  obtain ⟨u, hu, rfl⟩ := List.mem_map.1 hq
  rw [← cuts_eq] at hu
  have := cuts_size (by omega) 59 _ u hu
  rw [mkB_size]; omega
 have hne : 1 ≤ ((splitFrom 59 [] s.data.toList).map mkB).length := by
  rw [List.length_map]
  exact List.length_pos_iff.2 (split_ne 59 _ _)
 generalize (splitFrom 59 [] s.data.toList).map mkB = T at hsz hne
 by_cases c : (T.length : Int) > 9
 ·rw [if_pos c]; exact .inl rfl
 rw [if_neg c, wrap_in (x := (T.length : Int) - 1) (by omega) (by omega), if_pos (by omega), if_pos (by omega), Option.bind_some]
 exact spec_any s _ (by rw [List.length_take]; omega) (fun p hp => hsz p (List.mem_of_mem_take hp))
theorem parse_same (s : ByteArray) (hs : s.size ≤ 1048576) : ∃ R, spec_ParseLoci.F s = some R ∧ impl_ParseLoci.F s = some R := by
 have hn := size_data s
 refine parse_agree (E := fun v => (v, true)) (V := LoV s) (z := ([], false)) ?_ ?_ ?_ ?_
 ·intro v hv
  have h8 := (good_facts hv.1).1
  rw [spec_ParseLoci.F_eq, show (59 : Int) = (((59 : UInt8).toNat : Nat) : Int) from rfl, split_some s 59 hs, lov_data hv, split_loci v (okl_of hv.1), Option.bind_some]
  have hl : ((v.map lcL ++ [[]]).map mkB).length = v.length + 1 := by simp
  have ht : ((v.map lcL ++ [[]]).map mkB).take v.length = v.map fun x => mkB (lcL x) := by
   rw [List.map_append, List.map_map]
   exact List.take_left' (by simp)
  have e0 : ((v.length + 1 : Nat) : Int) - 1 = (v.length : Int) := by omega
  rw [hl, e0, wrap_in (by omega) (by omega), if_neg (by omega), if_pos (by omega), if_pos (by omega), Option.bind_some, Int.toNat_natCast, ht]
  exact spec_at s v hv
 ·exact spec_two s hs
 ·intro v hv
  have h8 := (good_facts hv.1).1
  rw [impl_ParseLoci.F_eq]
  refine (impl_tail s hs v ⟨by omega, fun x hx => ?_⟩ ?_).2 hv
  ·have := (okl_of hv.1 x hx).1
   simp only [isWord, Bool.and_eq_true, decide_eq_true_eq] at this
   omega
  ·unfold impl_ParseLoci.pieces
   rw [lov_data hv, cuts_loci v (okl_of hv.1), List.map_append, List.map_map]
   exact impl_at v [] (okl_of hv.1) (by simpa using h8)
 ·rw [impl_ParseLoci.F_eq]
  obtain ⟨o, k1, k2, k3⟩ := impl_any (impl_ParseLoci.pieces s 59 1) [] (fun q hq => by
   obtain ⟨u, hu, rfl⟩ := List.mem_map.1 hq
   have := cuts_size (by omega) 59 _ u hu
   show (mkB u).size ≤ _
   rw [mkB_size]; omega) (by simp) (by simp)
  exact (impl_tail s hs o ⟨by omega, fun x hx => by have := k3 x hx; omega⟩ k1).1
theorem FnExactParseLoci : laws_FnExactParseLoci.Pure := by
 intro s hs0
 refine lim_rounds (?_ : laws_FnExactParseLoci.F s = some true)
 rw [laws_FnExactParseLoci.F_eq]
 by_cases h : (s.size : Int) > 1048576
 ·rw [if_pos h]
 rw [if_neg h]
 obtain ⟨⟨r, b⟩, r1, r2⟩ := parse_same s (by omega)
 have hr : r.length ≤ 8 := by
  rcases spec_two s (by omega) with h1 | ⟨v, hv, h1⟩
  ·rw [r1] at h1
   injection h1 with h1
   injection h1 with h1 _
   rw [h1]; simp
  ·rw [r1] at h1
   injection h1 with h1
   injection h1 with h1 _
   rw [h1]; exact (good_facts hv.1).1
 have m1 := markLocus_some r 1 (by omega) (by omega)
 have m2 := heldLocus_some r.length 1 (by omega) (by omega)
 have e1 := eqLocus_refl r (by omega)
 have q1 : ¬ (1 + 2 * (r.length : Int) < 0) := by omega
 simp only [Option.bind_some, r1, r2, laws_FnExactParseLoci.J0_eq, laws_FnExactParseLoci.J1_eq, m1, m2, e1, q1, if_true, if_false, bne_self_eq_false, Bool.false_eq_true]

end Go.Proofs.YtgjljcejhdpibaaDoor.Pure
