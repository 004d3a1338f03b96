/- The pure statement of the law FnExactNearestTo: for all arguments within their bounds its Lean function answers true. -/
import Derived.Test.YtlnafgjjliincaaPFnExactNearestToxD0
namespace Go.Proofs.Ytlnafgjjliincaa.Pure
open Go.RowKit Go.Proofs.Ytlnafgjjliincaa.PFnExactNearestTo Go.Proofs.YtlnafgjjliincaaW.PrintWords Go.Proofs.YtlnafgjjliincaaW.PrintLast
set_option linter.unusedVariables false
set_option linter.unusedSimpArgs false
/-! ### Numbers, loops, letters -/
theorem wrap_in {x : Int} (h0 : -9223372036854775808 ≤ x) (h1 : x ≤ 9223372036854775807) : wrap64 x = x := by
  unfold wrap64; omega
theorem wf_i64 {n : Int} (h : (Lit.int .i64 n).wf = true) : -9223372036854775808 ≤ n ∧ n ≤ 9223372036854775807 := by
  simpa [Lit.wf, IntKind.min, IntKind.max, IntKind.signed, IntKind.bits] using h
/-- A loop over a list, from its end. L: what the loop tells from place i on. -/
theorem each {α γ : Type} (L : Int → γ) (l : List α) (z : α) (R : Nat → List α → γ → Prop) (nil : R l.length [] (L l.length))
    (cons : ∀ (i : Nat) (x : α) (t : List α), i < l.length → l.getD i z = x → l.drop i = x :: t → l.drop (i + 1) = t → R (i + 1) t (L ((i : Int) + 1)) → R i (x :: t) (L i)) : R 0 l (L 0) := by
  have key : ∀ (t : List α) (i : Nat), l.drop i = t → i ≤ l.length → R i t (L i) := by
    intro t
    induction t with
    | nil =>
      intro i h hi
      have : l.length ≤ i := by simpa [List.drop_eq_nil_iff] using h
      obtain rfl : i = l.length := by omega
      exact nil
    | cons x t ih =>
      intro i h hi
      have hlt : i < l.length := by
        rcases Nat.lt_or_ge i l.length with h' | h'
        · exact h'
        · rw [List.drop_eq_nil_of_le h'] at h; cases h
      have h2 := List.drop_eq_getElem_cons hlt
      rw [h] at h2
      injection h2 with h3 h4
      refine cons i x t hlt ?_ h h4.symm ?_
      · rw [List.getD_eq_getElem?_getD, List.getElem?_eq_getElem hlt]; exact h3.symm
      · have := ih (i + 1) h4.symm (by omega)
        rwa [show ((i + 1 : Nat) : Int) = (i : Int) + 1 from by omega] at this
  have := key l 0 rfl (Nat.zero_le _)
  rwa [show ((0 : Nat) : Int) = 0 from rfl] at this
theorem bt_data (s : ByteArray) (i : Nat) (h : i < s.size) : bt s (i : Int) = ((s.data.toList.getD i 0).toNat : Int) := by
  obtain ⟨d⟩ := s
  have h' : i < d.size := h
  have : bt ⟨d⟩ (i : Int) = ((d[i]).toNat : Int) := by
    unfold bt
    rw [dif_pos (show ((i : Int)).toNat < (⟨d⟩ : ByteArray).size from by simpa using h)]
    rfl
  rw [this]
  simp [h']
theorem size_data (s : ByteArray) : s.size = s.data.toList.length := by
  obtain ⟨d⟩ := s; simp [ByteArray.size]
theorem toList_data (s : ByteArray) : s.toList = s.data.toList := by
  rw [ByteArray.toList_eq]
theorem ext_data {s t : ByteArray} (h : s.toList = t.toList) : s = t := by
  rw [toList_data, toList_data] at h
  obtain ⟨⟨a⟩⟩ := s
  obtain ⟨⟨b⟩⟩ := t
  simp at h
  rw [h]
theorem toList_iff {s t : ByteArray} : s.toList = t.toList ↔ s = t := ⟨ext_data, fun h => by rw [h]⟩
theorem mem_drop {α : Type} {l t : List α} {x : α} {i : Nat} (h : l.drop i = x :: t) : x ∈ l := List.mem_of_mem_drop (i := i) (by rw [h]; simp)

/-! ### Words of letters; angles -/
theorem within_some (a b c : Int) : impl_within.f a b c = some (decide (b ≤ a ∧ a ≤ c)) := by
  unfold impl_within.f
  by_cases h : b ≤ a
  · rw [if_pos h]; simp [h]
  · rw [if_neg h]; simp [h]
theorem l1In_some (a b c : Int) : spec_l1In.f a b c = some (decide (b ≤ a ∧ a ≤ c)) := by
  unfold spec_l1In.f
  by_cases h : b ≤ a
  · rw [if_pos h]; simp [h]
  · rw [if_neg h]; simp [h]
/-- All letters between two. -/
def inRange (lo hi : Nat) (l : List UInt8) : Bool := l.all fun c => decide (lo ≤ c.toNat ∧ c.toNat ≤ hi)
/-- One to eight letters between two. -/
def isWord (lo hi : Nat) (s : ByteArray) : Bool := decide (1 ≤ s.size ∧ s.size ≤ 8) && inRange lo hi s.data.toList
theorem dec_size (s : ByteArray) : decide ((1 : Int) ≤ s.size ∧ (s.size : Int) ≤ 8) = decide (1 ≤ s.size ∧ s.size ≤ 8) := by
  by_cases h : 1 ≤ s.size ∧ s.size ≤ 8
  · rw [decide_eq_true h, decide_eq_true (by omega)]
  · rw [decide_eq_false h, decide_eq_false (by omega)]

/-- What 'letters' says of a list of letters: they are those from lo to hi. -/
def Letters (lo hi : Nat) (m : ByteArray) : Prop := ∀ n, n < 256 → (decide (Lib.indexByte m.data.toList n.toUInt8 < 0)) = !decide (lo ≤ n ∧ n ≤ hi)
instance (lo hi : Nat) (m : ByteArray) : Decidable (Letters lo hi m) := by unfold Letters; infer_instance
theorem hasOnly_some (lo hi : Nat) (s m : ByteArray) (hs : s.size ≤ 9223372036854775807) (hm : Letters lo hi m) : impl_hasOnly.F s m = some (inRange lo hi s.data.toList) := by
  rw [impl_hasOnly.F_eq]
  refine each (L := fun i => impl_hasOnly.L0 s m s.size i) s.data.toList 0 (fun _ t o => o = some (inRange lo hi t)) ?_ ?_
  · show impl_hasOnly.L0 s m _ _ = _
    rw [impl_hasOnly.L0_eq, if_neg (by rw [← size_data]; omega)]; rfl
  · intro i x t hi' hx _ _ ih
    have hi2 : i < s.size := by rw [size_data]; exact hi'
    have hb := hm x.toNat x.toNat_lt
    show impl_hasOnly.L0 s m _ _ = _
    rw [impl_hasOnly.L0_eq, if_pos (by omega), if_pos (by omega), if_pos (by omega), bt_data s i hi2, hx, wrap_in (by omega) (by omega)]
    simp only [strings_IndexByte.f, stringslite_IndexByte.f, Option.bind_some, Int.toNat_natCast]
    by_cases h1 : lo ≤ x.toNat ∧ x.toNat ≤ hi
    · rw [if_neg (by simp [h1] at hb; simpa using hb), ih]
      simp [inRange, h1]
    · rw [if_pos (by simpa [h1] using hb)]
      simp [inRange, h1]
theorem isWordOf_some (lo hi : Nat) (s m : ByteArray) (hs : s.size ≤ 9223372036854775807) (hm : Letters lo hi m) : impl_isWordOf.F s m = some (isWord lo hi s) := by
  rw [impl_isWordOf.F_eq, within_some, hasOnly_some lo hi s m hs hm]
  simp only [Option.bind_some, isWord]
  by_cases h : 1 ≤ s.size ∧ s.size ≤ 8
  · have : (1 : Int) ≤ s.size ∧ (s.size : Int) ≤ 8 := by omega
    simp [h, this]
  · have : ¬ ((1 : Int) ≤ s.size ∧ (s.size : Int) ≤ 8) := by omega
    simp [h, this]


theorem isAngle_some (a : Int) : impl_isAngle.f a = some (decide (-90 ≤ a ∧ a ≤ 90)) := by
  unfold impl_isAngle.f; rw [within_some]; rfl
theorem loAngle_some (a : Int) : spec_loAngle.f a = some (decide (-90 ≤ a ∧ a ≤ 90)) := by
  unfold spec_loAngle.f; rw [l1In_some]; rfl

/-! ### Loci -/
abbrev Loc := S82
abbrev LocL := S78
theorem rd_loc (l : List Loc) (i : Nat) : rd_T82 l (i : Int) = l.getD i z82 := by simp [rd_T82]
theorem rd_locL (l : List LocL) (i : Nat) : rd_T78 l (i : Int) = l.getD i z78 := by simp [rd_T78]
theorem naName_some (s : ByteArray) (hs : s.size ≤ 9223372036854775807) : spec_naName.F s = some (isWord 97 122 s) := by
  rw [spec_naName.F_eq]
  have := each (L := fun i => spec_naName.L0 s i) s.data.toList 0 (fun _ t o => o = some (inRange 97 122 t && decide (1 ≤ s.size ∧ s.size ≤ 8))) ?_ ?_
  · rw [this, isWord, Bool.and_comm]
  · show spec_naName.L0 s _ = _
    rw [spec_naName.L0_eq, if_neg (by rw [← size_data]; omega), l1In_some]
    simp only [Option.bind_some, inRange, List.all_nil, Bool.true_and, dec_size]
  · intro i x t hi hx _ _ ih
    have hi' : i < s.size := by rw [size_data]; exact hi
    show spec_naName.L0 s _ = _
    rw [spec_naName.L0_eq, if_pos (by omega), if_pos (by omega), bt_data s i hi', hx, wrap_in (by omega) (by omega)]
    by_cases h1 : x.toNat < 97
    · rw [if_pos (by omega)]; simp [inRange]; omega
    · rw [if_neg (by omega)]
      by_cases h2 : 122 < x.toNat
      · rw [if_pos (by omega)]; simp [inRange]; omega
      · rw [if_neg (by omega), ih]
        have h3 : 97 ≤ x.toNat := by omega
        have h4 : x.toNat ≤ 122 := by omega
        simp [inRange, h3, h4]
/-- The first place of a referent from place i on, or -1. -/
def idxFrom (a : ByteArray) : List Loc → Nat → Int
  | [], _ => -1
  | x :: t, i => if x.f0.toList = a.toList then i else idxFrom a t (i + 1)
theorem idxFrom_cases (a : ByteArray) : ∀ (t : List Loc) (i : Nat), (idxFrom a t i = -1 ∧ ∀ x ∈ t, x.f0 ≠ a) ∨ ∃ j, j < t.length ∧ idxFrom a t i = (i + j : Nat) ∧ (t.getD j z82).f0 = a
  | [], _ => .inl ⟨rfl, by simp⟩
  | x :: t, i => by
    unfold idxFrom
    by_cases h : x.f0.toList = a.toList
    · rw [if_pos h]
      exact .inr ⟨0, by simp, by simp, by simpa using ext_data h⟩
    · rw [if_neg h]
      rcases idxFrom_cases a t (i + 1) with ⟨h1, h2⟩ | ⟨j, h1, h2, h3⟩
      · refine .inl ⟨h1, fun y hy => ?_⟩
        rcases List.mem_cons.1 hy with rfl | hy
        · exact fun e => h (by rw [e])
        · exact h2 y hy
      · exact .inr ⟨j + 1, by simpa using h1, by rw [h2]; omega, by simpa using h3⟩
theorem loFind_some (l : List Loc) (a : ByteArray) (hl : l.length ≤ 9223372036854775807) : spec_loFind.F l a = some (idxFrom a l 0) := by
  rw [spec_loFind.F_eq]
  refine each (L := fun i => spec_loFind.L0 a l l.length i) l z82 (fun i t o => o = some (idxFrom a t i)) ?_ ?_
  · show spec_loFind.L0 a l _ _ = _
    rw [spec_loFind.L0_eq, if_neg (by omega)]; rfl
  · intro i x t hi hx _ _ ih
    show spec_loFind.L0 a l _ _ = _
    rw [spec_loFind.L0_eq, if_pos (by omega), if_pos (by omega), if_pos (by omega), rd_loc, hx, wrap_in (by omega) (by omega)]
    unfold idxFrom
    split
    · rfl
    · exact ih
theorem locusOf_some (l : List Loc) (a : ByteArray) (hl : l.length ≤ 9223372036854775807) : impl_locusOf.F l a = some (idxFrom a l 0) := by
  rw [impl_locusOf.F_eq, slices_IndexFunc_Locus_impl_locusOf_1.F_eq]
  rw [show slices_IndexFunc_Locus_impl_locusOf_1.L0 l (l.length : Int) 0 a = some (idxFrom a l 0) from ?_]; rfl
  refine each (L := fun i => slices_IndexFunc_Locus_impl_locusOf_1.L0 l l.length i a) l z82 (fun i t o => o = some (idxFrom a t i)) ?_ ?_
  · show slices_IndexFunc_Locus_impl_locusOf_1.L0 l _ _ a = _
    rw [slices_IndexFunc_Locus_impl_locusOf_1.L0_eq, if_neg (by omega)]; rfl
  · intro i x t hi hx _ _ ih
    show slices_IndexFunc_Locus_impl_locusOf_1.L0 l _ _ a = _
    rw [slices_IndexFunc_Locus_impl_locusOf_1.L0_eq, if_pos (by omega), if_pos (by omega), if_pos (by omega), rd_loc, hx, wrap_in (by omega) (by omega)]
    unfold idxFrom impl_locusOf_1.f
    simp only [Option.bind_some, beq_iff_eq]
    split
    · rfl
    · exact ih
/-- Is element i as it should be, for those ahead of it? -/
def okAt (l : List Loc) (i : Nat) (x : Loc) : Bool :=
  isWord 97 122 x.f0 && (decide (-90 ≤ x.f1 ∧ x.f1 ≤ 90) && (decide (i = 0 ∨ (l.getD (i - 1) z82).f1 < x.f1) && decide (idxFrom x.f0 (l.take i) 0 < 0)))
def goodFrom (l : List Loc) : Nat → List Loc → Bool
  | _, [] => decide (l.length ≤ 8)
  | i, x :: t => okAt l i x && goodFrom l (i + 1) t
def good (l : List Loc) : Bool := goodFrom l 0 l
/-- The letters' lengths are lengths. -/
def Sized (l : List Loc) : Prop := l.length ≤ 9223372036854775807 ∧ ∀ x ∈ l, x.f0.size ≤ 9223372036854775807
theorem Sized.take {l : List Loc} (h : Sized l) (i : Nat) : (l.take i).length ≤ 9223372036854775807 := Nat.le_trans (List.length_take_le' ..) h.1
theorem loGood_some (l : List Loc) (hl : Sized l) : spec_loGood.F l = some (good l) := by
  rw [spec_loGood.F_eq]
  have hl1 := hl.1
  refine each (L := fun i => spec_loGood.L0 l l l.length i) l z82 (fun i t o => o = some (goodFrom l i t)) ?_ ?_
  · show spec_loGood.L0 l l _ _ = _
    rw [spec_loGood.L0_eq, if_neg (by omega)]
    simp only [goodFrom, Option.some.injEq, decide_eq_decide]; omega
  · intro i x t hi hx hd _ ih
    have hs : x.f0.size ≤ 9223372036854775807 := hl.2 x (mem_drop hd)
    show spec_loGood.L0 l l _ _ = _
    rw [spec_loGood.L0_eq, if_pos (by omega), if_pos (by omega), if_pos (by omega), rd_loc, hx, wrap_in (x := (i : Int) + 1) (by omega) (by omega), naName_some _ hs, loAngle_some, Int.toNat_natCast, loFind_some _ _ (hl.take i)]
    simp only [Option.bind_some, goodFrom, okAt]
    cases isWord 97 122 x.f0
    · simp
    by_cases ha : -90 ≤ x.f1 ∧ x.f1 ≤ 90
    case neg => simp [ha]
    rw [decide_eq_true ha]
    simp only [if_true, Bool.true_and]
    by_cases h0 : i = 0
    · subst h0
      simp only [List.take_zero, Int.natCast_zero, gt_iff_lt, Int.lt_irrefl, if_false, true_or, decide_true, Bool.true_and]
      rw [if_pos (by omega)]
      simp [idxFrom]
      simpa using ih
    · have h1 : (i : Int) - 1 = ((i - 1 : Nat) : Int) := by omega
      rw [if_pos (by omega), wrap_in (by omega) (by omega), h1, if_pos (by omega), if_pos (by omega), rd_loc, if_pos (show (i : Int) ≤ (l.length : Int) by omega)]
      by_cases h2 : (l.getD (i - 1) z82).f1 < x.f1
      · rw [if_neg (by omega)]
        simp only [h2, or_true, decide_true, Bool.true_and]
        by_cases h3 : idxFrom x.f0 (l.take i) 0 < 0
        · rw [if_neg (by omega), ih]; simp [h3]
        · rw [if_pos (by omega)]; simp [h3]
      · rw [if_pos (by omega), decide_eq_false (p := i = 0 ∨ _) (by simp only [h0, h2, or_self, not_false_eq_true])]; simp
theorem areLoci_some (l : List Loc) (hl : Sized l) : impl_AreLoci.F l = some (good l) := by
  rw [impl_AreLoci.F_eq]
  have hl1 := hl.1
  refine each (L := fun i => impl_AreLoci.L0 l l l.length i) l z82 (fun i t o => o = some (goodFrom l i t)) ?_ ?_
  · show impl_AreLoci.L0 l l _ _ = _
    rw [impl_AreLoci.L0_eq, if_neg (by omega)]
    simp only [goodFrom, Option.some.injEq, decide_eq_decide]; omega
  · intro i x t hi hx hd _ ih
    have hs : x.f0.size ≤ 9223372036854775807 := hl.2 x (mem_drop hd)
    show impl_AreLoci.L0 l l _ _ = _
    rw [impl_AreLoci.L0_eq, if_pos (by omega), if_pos (by omega), if_pos (by omega), rd_loc, hx, wrap_in (x := (i : Int) + 1) (by omega) (by omega), isWordOf_some 97 122 _ _ hs (by decide +kernel), isAngle_some, Int.toNat_natCast, locusOf_some _ _ (hl.take i)]
    simp only [Option.bind_some, goodFrom, okAt]
    cases isWord 97 122 x.f0
    · simp
    by_cases ha : -90 ≤ x.f1 ∧ x.f1 ≤ 90
    case neg => simp [ha]
    rw [decide_eq_true ha]
    simp only [if_true, Bool.true_and]
    by_cases h0 : i = 0
    · subst h0
      simp only [List.take_zero, Int.natCast_zero, gt_iff_lt, Int.lt_irrefl, if_false, true_or, decide_true, Bool.true_and]
      rw [if_pos (by omega)]
      simp [idxFrom]
      simpa using ih
    · have h1 : (i : Int) - 1 = ((i - 1 : Nat) : Int) := by omega
      rw [if_pos (by omega), wrap_in (by omega) (by omega), h1, if_pos (by omega), if_pos (by omega), rd_loc, if_pos (show (i : Int) ≤ (l.length : Int) by omega)]
      by_cases h2 : (l.getD (i - 1) z82).f1 < x.f1
      · rw [if_neg (by omega)]
        simp only [h2, or_true, decide_true, Bool.true_and]
        by_cases h3 : idxFrom x.f0 (l.take i) 0 < 0
        · rw [if_neg (by omega), ih]; simp [h3]
        · rw [if_pos (by omega)]; simp [h3]
      · rw [if_pos (by omega), decide_eq_false (p := i = 0 ∨ _) (by simp only [h0, h2, or_self, not_false_eq_true])]; simp
theorem good_from (l : List Loc) : ∀ (t : List Loc) (i : Nat), goodFrom l i t = true → l.length ≤ 8 ∧ ∀ x ∈ t, (-90 ≤ x.f1 ∧ x.f1 ≤ 90) ∧ 1 ≤ x.f0.size
  | [], _, h => ⟨by simpa [goodFrom] using h, by simp⟩
  | x :: t, i, h => by
    simp only [goodFrom, okAt, isWord, Bool.and_eq_true, decide_eq_true_eq] at h
    obtain ⟨h1, h2⟩ := h
    obtain ⟨h3, h4⟩ := good_from l t (i + 1) h2
    refine ⟨h3, fun y hy => ?_⟩
    rcases List.mem_cons.1 hy with rfl | hy
    · exact ⟨h1.2.1, h1.1.1.1⟩
    · exact h4 y hy
theorem good_facts {l : List Loc} (h : good l = true) : l.length ≤ 8 ∧ ∀ x ∈ l, (-90 ≤ x.f1 ∧ x.f1 ≤ 90) ∧ 1 ≤ x.f0.size := good_from l l 0 h
/-! ### What the statements do with loci -/
def conv (x : LocL) : Loc := ⟨x.f0, x.f1⟩
theorem szLocus_tells (l : List LocL) (a : Int) (hl : l.length ≤ 9223372036854775807) (hw : ∀ x ∈ l, Wf78 x) (ha : 0 ≤ a ∧ a ≤ 1048576) : ∃ t, laws_szLocusS.F l a = some t ∧ (t < 0 ∨ (0 ≤ t ∧ t ≤ a ∧ l.length ≤ a)) := by
  rw [laws_szLocusS.F_eq, wrap_in (by omega) (by omega)]
  by_cases h0 : a - (l.length : Int) < 0
  · rw [if_pos h0]; exact ⟨-1, rfl, .inl (by omega)⟩
  · rw [if_neg h0]
    have := each (L := fun i => fun b => laws_szLocusS.L0 l b i) l z78 (fun _ t f => (∀ x ∈ t, x ∈ l) → ∀ b : Int, 0 ≤ b → b ≤ 1048576 → ∃ t, f b = some t ∧ (t < 0 ∨ (0 ≤ t ∧ t ≤ b))) ?_ ?_ (fun _ h => h) (a - l.length) (by omega) (by omega)
    · obtain ⟨t, h1, h2⟩ := this
      exact ⟨t, h1, by omega⟩
    · intro _ b h1 h2
      refine ⟨b, ?_, by omega⟩
      show laws_szLocusS.L0 l b _ = _
      rw [laws_szLocusS.L0_eq, if_neg (by omega)]
    · intro i x t hi hx hd _ ih hm b h1 h2
      have hz : x.f0.size ≤ 9223372036854775807 := (hw x (hm x (by simp))).1
      show ∃ t, laws_szLocusS.L0 l b _ = some t ∧ _
      rw [laws_szLocusS.L0_eq, if_pos (by omega), if_pos (by omega), rd_locL, hx, wrap_in (x := (i : Int) + 1) (by omega) (by omega)]
      unfold laws_szLocus.f
      rw [wrap_in (by omega) (by omega)]
      by_cases h3 : b - (x.f0.size : Int) < 0
      · rw [if_pos h3]; exact ⟨-1, rfl, .inl (by omega)⟩
      · rw [if_neg h3, Option.bind_some, if_neg h3]
        obtain ⟨t, h4, h5⟩ := ih (fun y hy => hm y (by simp [hy])) (b - x.f0.size) (by omega) (by omega)
        exact ⟨t, h4, by omega⟩
theorem take_set {α : Type} (l : List α) (i : Nat) (v : α) (h : i < l.length) : (l.set i v).take (i + 1) = l.take i ++ [v] := by
  rw [List.take_succ_eq_append_getElem (by simpa using h), List.take_set_of_le (Nat.le_refl i)]
  simp
theorem toLocus_some (l : List LocL) (hl : l.length ≤ 1048576) : laws_toLocusS.F l = some (l.map conv) := by
  rw [laws_toLocusS.F_eq, if_pos (by omega), if_pos (by omega)]
  have := each (L := fun i => fun y => laws_toLocusS.L0 l y i) l z78 (fun i t f => ∀ y : List Loc, y.length = l.length → f y = some (y.take i ++ t.map conv)) ?_ ?_ (List.replicate ((l.length : Int)).toNat z82) (by simp)
  · show laws_toLocusS.L0 l _ _ = _
    exact this.trans (by simp)
  · intro y hy
    show laws_toLocusS.L0 l y _ = _
    rw [laws_toLocusS.L0_eq, if_neg (by omega)]
    simp [← hy]
  · intro i x t hi hx _ _ ih y hy
    show laws_toLocusS.L0 l y _ = _
    rw [laws_toLocusS.L0_eq, if_pos (by omega), if_pos (by omega), rd_locL, hx, wrap_in (x := (i : Int) + 1) (by omega) (by omega)]
    unfold laws_toLocus.f
    rw [Option.bind_some, if_pos (by omega)]
    refine (ih _ (by simpa using hy)).trans ?_
    rw [Int.toNat_natCast, take_set _ _ _ (by omega)]
    simp [conv]
theorem eqLocus_refl (l : List Loc) (hl : l.length ≤ 9223372036854775807) : laws_eqLocusS.F l l = some true := by
  rw [laws_eqLocusS.F_eq, if_pos rfl]
  refine each (L := fun i => laws_eqLocusS.L0 l l i) l z82 (fun _ _ o => o = some true) ?_ ?_
  · show laws_eqLocusS.L0 l l _ = _
    rw [laws_eqLocusS.L0_eq, if_neg (by omega)]
  · intro i x t hi hx _ _ ih
    show laws_eqLocusS.L0 l l _ = _
    rw [laws_eqLocusS.L0_eq, if_pos (by omega), if_pos (by omega), if_pos (by omega), rd_loc, hx, wrap_in (x := (i : Int) + 1) (by omega) (by omega)]
    unfold laws_eqLocus.f
    rw [if_pos rfl, if_pos rfl, Option.bind_some, if_pos rfl]
    exact ih
theorem sized_conv {l : List LocL} (hl : l.length ≤ 9223372036854775807) (hw : ∀ x ∈ l, Wf78 x) : Sized (l.map conv) :=
  ⟨by simpa using hl, fun x hx => by
    obtain ⟨y, hy, rfl⟩ := List.mem_map.1 hx
    exact (hw y hy).1⟩

/-! ### Loci without a referent -/
theorem eachAt {α γ : Type} (L : Int → γ) (l : List α) (z : α) (R : Nat → List α → γ → Prop) (nil : R l.length [] (L l.length))
    (cons : ∀ (i : Nat) (x : α) (t : List α), i < l.length → l.getD i z = x → l.drop i = x :: t → l.drop (i + 1) = t → R (i + 1) t (L ((i : Int) + 1)) → R i (x :: t) (L i)) (i : Nat) (hi : i ≤ l.length) : R i (l.drop i) (L i) := by
  have key : ∀ (t : List α) (i : Nat), l.drop i = t → i ≤ l.length → R i t (L i) := by
    intro t
    induction t with
    | nil =>
      intro i h hi
      have : l.length ≤ i := by simpa [List.drop_eq_nil_iff] using h
      obtain rfl : i = l.length := by omega
      exact nil
    | cons x t ih =>
      intro i h hi
      have hlt : i < l.length := by
        rcases Nat.lt_or_ge i l.length with h' | h'
        · exact h'
        · rw [List.drop_eq_nil_of_le h'] at h; cases h
      have h2 := List.drop_eq_getElem_cons hlt
      rw [h] at h2
      injection h2 with h3 h4
      refine cons i x t hlt ?_ h h4.symm ?_
      · rw [List.getD_eq_getElem?_getD, List.getElem?_eq_getElem hlt]; exact h3.symm
      · have := ih (i + 1) h4.symm (by omega)
        rwa [show ((i + 1 : Nat) : Int) = (i : Int) + 1 from by omega] at this
  exact key _ i rfl hi
def keep (a : ByteArray) (x : Loc) : Bool := !(x.f0.toList == a.toList)
theorem clone_some (l : List Loc) (hl : l.length ≤ 1048576) : slices_Clone_Locus.f l = some l := by
  unfold slices_Clone_Locus.f
  rw [Option.bind_some, if_pos (by simp; omega)]; rfl
theorem idxW_some (l : List Loc) (a : ByteArray) (hl : l.length ≤ 9223372036854775807) : slices_IndexFunc_Locus_impl_without_1.F l a = some (idxFrom a l 0) := by
  rw [slices_IndexFunc_Locus_impl_without_1.F_eq]
  refine each (L := fun i => slices_IndexFunc_Locus_impl_without_1.L0 l l.length i a) l z82 (fun i t o => o = some (idxFrom a t i)) ?_ ?_
  · show slices_IndexFunc_Locus_impl_without_1.L0 l _ _ a = _
    rw [slices_IndexFunc_Locus_impl_without_1.L0_eq, if_neg (by omega)]; rfl
  · intro i x t hi hx _ _ ih
    show slices_IndexFunc_Locus_impl_without_1.L0 l _ _ a = _
    rw [slices_IndexFunc_Locus_impl_without_1.L0_eq, if_pos (by omega), if_pos (by omega), if_pos (by omega), rd_loc, hx, wrap_in (by omega) (by omega)]
    unfold idxFrom impl_without_1.f
    simp only [Option.bind_some, beq_iff_eq]
    split
    · rfl
    · exact ih
theorem idx_split (a : ByteArray) : ∀ (t : List Loc) (i : Nat), (idxFrom a t i = -1 ∧ t.filter (keep a) = t) ∨ ∃ k : Nat, k < t.length ∧ idxFrom a t i = ((i + k : Nat) : Int) ∧ t.filter (keep a) = t.take k ++ (t.drop (k + 1)).filter (keep a)
  | [], _ => .inl ⟨rfl, rfl⟩
  | x :: t, i => by
    unfold idxFrom
    by_cases h : x.f0.toList = a.toList
    · rw [if_pos h]
      exact .inr ⟨0, by simp, by simp, by simp [keep, h]⟩
    · rw [if_neg h]
      have hk : keep a x = true := by simp [keep, h]
      rcases idx_split a t (i + 1) with ⟨h1, h2⟩ | ⟨k, h1, h2, h3⟩
      · exact .inl ⟨h1, by rw [List.filter_cons_of_pos hk, h2]⟩
      · exact .inr ⟨k + 1, by simpa using h1, by rw [h2]; omega, by rw [List.filter_cons_of_pos hk, h3]; simp⟩
theorem delete_some (l : List Loc) (a : ByteArray) (hl : l.length ≤ 1048576) : slices_DeleteFunc_Locus_impl_without_1.F l a = some (l.filter (keep a)) := by
  rw [slices_DeleteFunc_Locus_impl_without_1.F_eq, idxW_some l a (by omega), Option.bind_some]
  rcases idx_split a l 0 with ⟨h1, h2⟩ | ⟨k, h1, h2, h3⟩
  · rw [h1, if_pos rfl, h2]
  · rw [h2, Nat.zero_add, if_neg (by omega), wrap_in (by omega) (by omega), h3]
    have := eachAt (L := fun j => fun xs i => slices_DeleteFunc_Locus_impl_without_1.L0 xs i j a) l z82 (fun j t f => ∀ (xs : List Loc) (i : Nat), xs.length = l.length → i ≤ j → xs.drop j = t → f xs (i : Int) = some (xs.take i ++ t.filter (keep a))) ?_ ?_ (k + 1) (by omega) l k rfl (by omega) rfl
    · simpa using this
    · intro xs i hxs hi _
      show slices_DeleteFunc_Locus_impl_without_1.L0 xs _ _ a = _
      rw [slices_DeleteFunc_Locus_impl_without_1.L0_eq, if_neg (by omega), if_pos (by omega), if_pos (by omega), Int.toNat_natCast]
      rw [List.take_append_of_le_length (by simp; omega)]
      simp [List.take_take]
    · intro j x t hj _ _ _ ih xs i hxs hi hd
      have hjx : j < xs.length := by omega
      have hd2 := List.drop_eq_getElem_cons hjx
      rw [hd] at hd2
      injection hd2 with h4 h5
      have hg : xs.getD j z82 = x := by rw [List.getD_eq_getElem?_getD, List.getElem?_eq_getElem hjx]; exact h4.symm
      show slices_DeleteFunc_Locus_impl_without_1.L0 xs _ _ a = _
      rw [slices_DeleteFunc_Locus_impl_without_1.L0_eq, if_pos (by omega), if_pos (by omega), rd_loc, hg, wrap_in (x := (j : Int) + 1) (by omega) (by omega), wrap_in (x := (i : Int) + 1) (by omega) (by omega)]
      unfold impl_without_1.f
      rw [Option.bind_some]
      by_cases h : x.f0.toList = a.toList
      · rw [if_pos (by simpa using h), List.filter_cons_of_neg (by simp [keep, h])]
        exact ih xs i hxs (by omega) h5.symm
      · rw [if_neg (by simpa using h), if_pos (by omega), if_pos (by omega), List.filter_cons_of_pos (by simp [keep, h]), Int.toNat_natCast]
        have := ih (xs.set i x) (i + 1) (by simpa using hxs) (by omega) (by rw [List.drop_set_of_lt (by omega)]; exact h5.symm)
        rw [show ((i + 1 : Nat) : Int) = (i : Int) + 1 from by omega] at this
        refine this.trans ?_
        rw [take_set _ _ _ (by omega)]
        simp
theorem without_some (l : List Loc) (a : ByteArray) (hl : l.length ≤ 1048576) : impl_without.F l a = some (l.filter (keep a)) := by
  rw [impl_without.F_eq, clone_some l hl, Option.bind_some, delete_some l a hl]; rfl


/-! ### How far apart -/
def dst (a b : Int) : Int := if a < b then b - a else a - b
theorem distance_some (a b : Int) (ha : -1000000 ≤ a ∧ a ≤ 1000000) (hb : -1000000 ≤ b ∧ b ≤ 1000000) : impl_distance.f a b = some (dst a b) := by
  unfold impl_distance.f
  rw [wrap_in (by omega) (by omega), wrap_in (by omega) (by omega)]
  unfold mx dst
  congr 1
  split <;> split <;> omega
theorem abs_some (a b : Int) (ha : -1000000 ≤ a ∧ a ≤ 1000000) (hb : -1000000 ≤ b ∧ b ≤ 1000000) : spec_l1Abs.f (wrap64 (a - b)) = some (dst a b) := by
  unfold spec_l1Abs.f spec_l1Most.f
  rw [wrap_in (x := a - b) (by omega) (by omega), wrap_in (by omega) (by omega)]
  unfold dst
  split <;> split <;> simp <;> omega

/-! ### The nearest loci -/
def nearStep (a : Int) (s : Int × List ByteArray) (x : Loc) : Int × List ByteArray :=
  if dst x.f1 a < s.1 then (dst x.f1 a, [x.f0]) else if dst x.f1 a = s.1 then (s.1, s.2 ++ [x.f0]) else s
def near (l : List Loc) (a : Int) : Int × List ByteArray := l.foldl (nearStep a) (181, [])
theorem nearest_some (l : List Loc) (a : Int) (hl : l.length ≤ 8) (hx : ∀ x ∈ l, (-90 ≤ x.f1 ∧ x.f1 ≤ 90) ∧ 1 ≤ x.f0.size) (ha : -90 ≤ a ∧ a ≤ 90) : impl_nearestLoci.F l a = some (near l a) := by
  rw [impl_nearestLoci.F_eq]
  refine each (L := fun i => fun x6 x7 => impl_nearestLoci.L0 a x6 x7 l l.length i) l z82 (fun i t f => (∀ x ∈ t, x ∈ l) → ∀ s : Int × List ByteArray, s.2.length ≤ i → f s.1 s.2 = some (t.foldl (nearStep a) s)) ?_ ?_ (fun _ h => h) (181, []) (by simp)
  · intro _ s _
    show impl_nearestLoci.L0 a _ _ l _ _ = _
    rw [impl_nearestLoci.L0_eq, if_neg (by omega)]; rfl
  · intro i x t hi hxi _ _ ih hm s hs
    have h1 := (hx x (hm x (by simp))).1
    have ih' := ih (fun y hy => hm y (by simp [hy]))
    show impl_nearestLoci.L0 a _ _ l _ _ = _
    rw [impl_nearestLoci.L0_eq, if_pos (by omega), if_pos (by omega), if_pos (by omega), rd_loc, hxi, wrap_in (x := (i : Int) + 1) (by omega) (by omega), distance_some _ _ (by omega) (by omega), Option.bind_some, List.foldl_cons]
    by_cases h2 : dst x.f1 a < s.1
    · rw [if_pos h2, if_pos rfl, if_pos (by decide)]
      refine (ih' (dst x.f1 a, [x.f0]) (by simp)).trans ?_
      rw [nearStep, if_pos h2]
    · rw [if_neg h2]
      by_cases h3 : dst x.f1 a = s.1
      · rw [if_pos h3, if_pos (by omega)]
        refine (ih' (s.1, s.2 ++ [x.f0]) (by simp; omega)).trans ?_
        rw [nearStep, if_neg h2, if_pos h3]
      · rw [if_neg h3]
        refine (ih' s (by omega)).trans ?_
        rw [nearStep, if_neg h2, if_neg h3]
theorem near_inv (a : Int) : ∀ (t p : List Loc) (s : Int × List ByteArray), s.2 = (p.filter fun x => decide (dst x.f1 a = s.1)).map (·.f0) → (∀ x ∈ p, s.1 ≤ dst x.f1 a) →
    (t.foldl (nearStep a) s).2 = ((p ++ t).filter fun x => decide (dst x.f1 a = (t.foldl (nearStep a) s).1)).map (·.f0) ∧ ∀ x ∈ p ++ t, (t.foldl (nearStep a) s).1 ≤ dst x.f1 a
  | [], p, s, h1, h2 => by simpa using ⟨h1, h2⟩
  | x :: t, p, s, h1, h2 => by
    rw [List.foldl_cons, show p ++ x :: t = (p ++ [x]) ++ t from by simp]
    refine near_inv a t (p ++ [x]) (nearStep a s x) ?_ ?_
    · unfold nearStep
      by_cases h3 : dst x.f1 a < s.1
      · rw [if_pos h3]
        have : p.filter (fun y => decide (dst y.f1 a = dst x.f1 a)) = [] := by
          rw [List.filter_eq_nil_iff]
          intro y hy
          have := h2 y hy
          simp; omega
        simp [List.filter_append, this]
      · rw [if_neg h3]
        by_cases h4 : dst x.f1 a = s.1
        · rw [if_pos h4]; simp [List.filter_append, h4, h1]
        · rw [if_neg h4]; simp [List.filter_append, h4, h1]
    · intro y hy
      unfold nearStep
      rcases List.mem_append.1 hy with hy | hy
      · have := h2 y hy
        split
        · show dst x.f1 a ≤ _; omega
        · split <;> exact this
      · obtain rfl : y = x := by simpa using hy
        split
        · exact Int.le_refl _
        · split
          · show s.1 ≤ _; omega
          · omega
theorem near_spec (l : List Loc) (a : Int) : (near l a).2 = (l.filter fun x => decide (dst x.f1 a = (near l a).1)).map (·.f0) ∧ ∀ x ∈ l, (near l a).1 ≤ dst x.f1 a := by
  have := near_inv a l [] (181, []) (by simp) (by simp)
  rw [List.nil_append] at this; exact this

/-! ### The first of the nearest -/
def fmStep (a : Int) (o : Option Loc) (x : Loc) : Option Loc :=
  match o with
  | none => some x
  | some y => if dst x.f1 a < dst y.f1 a then some x else some y
theorem fm_some (a : Int) : ∀ (t : List Loc) (y : Loc), ∃ m, t.foldl (fmStep a) (some y) = some m
  | [], y => ⟨y, rfl⟩
  | x :: t, y => by
    simp only [List.foldl_cons, fmStep]
    split
    · exact fm_some a t x
    · exact fm_some a t y
theorem near_fm (a : Int) (ha : -90 ≤ a ∧ a ≤ 90) : ∀ (t : List Loc) (o : Option Loc) (s : Int × List ByteArray), (∀ x ∈ t, -90 ≤ x.f1 ∧ x.f1 ≤ 90) →
    (match o with | none => s = (181, []) | some y => s.1 = dst y.f1 a ∧ ∃ r, s.2 = y.f0 :: r) →
    (match t.foldl (fmStep a) o with | none => True | some m => (t.foldl (nearStep a) s).1 = dst m.f1 a ∧ ∃ r, (t.foldl (nearStep a) s).2 = m.f0 :: r)
  | [], o, s, _, h => by
    cases o with
    | none => trivial
    | some y => exact h
  | x :: t, o, s, hx, h => by
    have h1 := hx x (by simp)
    have hd : dst x.f1 a < 181 := by unfold dst; split <;> omega
    simp only [List.foldl_cons]
    refine near_fm a ha t _ _ (fun y hy => hx y (by simp [hy])) ?_
    cases o with
    | none =>
      simp only at h
      subst h
      simp only [fmStep, nearStep, if_pos hd]
      first | exact ⟨rfl, _, rfl⟩ | exact ⟨trivial, _, rfl⟩ | simp
    | some y =>
      obtain ⟨h2, r, h3⟩ := h
      simp only [fmStep, nearStep]
      by_cases c : dst x.f1 a < dst y.f1 a
      · rw [if_pos c, if_pos (by omega)]
        first | exact ⟨rfl, _, rfl⟩ | exact ⟨trivial, _, rfl⟩ | simp
      · rw [if_neg c, if_neg (by omega)]
        by_cases c2 : dst x.f1 a = s.1
        · rw [if_pos c2]
          exact ⟨h2, r ++ [x.f0], by simp [h3]⟩
        · rw [if_neg c2]
          exact ⟨h2, r, h3⟩
theorem good_each {l : List Loc} : ∀ (t : List Loc) (i : Nat), goodFrom l i t = true → ∀ k, (hk : k < t.length) → okAt l (i + k) t[k] = true
  | [], _, _, k, hk => absurd hk (by simp)
  | x :: t, i, h, k, hk => by
    simp only [goodFrom, Bool.and_eq_true] at h
    cases k with
    | zero => exact h.1
    | succ k =>
      have := good_each t (i + 1) h.2 k (by simpa using hk)
      simpa [Nat.add_assoc, Nat.add_comm 1 k] using this
theorem name_unique {l : List Loc} {a : ByteArray} (hg : good l = true) (i j k : Nat) (hij : idxFrom a l 0 = (i : Int)) (hk : k < l.length) (hn : (l.getD k z82).f0 = a) : k = i := by
  rcases idxFrom_cases a l 0 with ⟨h1, _⟩ | ⟨m, h1, h2, h3⟩
  · omega
  obtain rfl : m = i := by omega
  rcases Nat.lt_trichotomy k m with h | h | h
  · exfalso
    have ok := good_each l 0 hg m h1
    simp only [okAt, Bool.and_eq_true, Nat.zero_add] at ok
    have h4 := of_decide_eq_true ok.2.2.2
    rw [List.getD_eq_getElem?_getD, List.getElem?_eq_getElem h1, Option.getD_some] at h3
    rcases idxFrom_cases l[m].f0 (l.take m) 0 with ⟨_, h5⟩ | ⟨q, _, h6, _⟩
    · rw [List.getD_eq_getElem?_getD, List.getElem?_eq_getElem hk, Option.getD_some] at hn
      exact h5 l[k] (List.mem_take_iff_getElem.2 ⟨k, by omega, rfl⟩) (by rw [hn, h3])
    · omega
  · exact h
  · exfalso
    have ok := good_each l 0 hg k hk
    simp only [okAt, Bool.and_eq_true, Nat.zero_add] at ok
    have h4 := of_decide_eq_true ok.2.2.2
    rw [List.getD_eq_getElem?_getD, List.getElem?_eq_getElem hk, Option.getD_some] at hn
    rw [List.getD_eq_getElem?_getD, List.getElem?_eq_getElem h1, Option.getD_some] at h3
    rcases idxFrom_cases l[k].f0 (l.take k) 0 with ⟨_, h5⟩ | ⟨q, _, h6, _⟩
    · exact h5 l[m] (List.mem_take_iff_getElem.2 ⟨m, by omega, rfl⟩) (by rw [hn, h3])
    · omega

theorem nearTo_some (l : List Loc) (a : ByteArray) (i : Nat) (hg : good l = true) (hi : idxFrom a l 0 = (i : Int)) (hl : i < l.length) : spec_NearestTo.L0 l i (-1) l l.length 0 = (match (l.filter (keep a)).foldl (fmStep (l.getD i z82).f1) none with | none => none | some m => some (m.f0, dst m.f1 (l.getD i z82).f1, true)) := by
  obtain ⟨g1, g2⟩ := good_facts hg
  have hat := (g2 (l.getD i z82) (by rw [List.getD_eq_getElem?_getD, List.getElem?_eq_getElem hl, Option.getD_some]; exact List.getElem_mem hl)).1
  have hia : (l.getD i z82).f0 = a := by
    rcases idxFrom_cases a l 0 with ⟨h1, _⟩ | ⟨m, h1, h2, h3⟩
    · omega
    · obtain rfl : m = i := by omega
      exact h3
  refine each (L := fun k => fun x8 => spec_NearestTo.L0 l i x8 l l.length k) l z82 (fun k t f => (∀ x ∈ t, x ∈ l) → ∀ (x8 : Int) (o : Option Loc), ((o = none ∧ x8 = -1) ∨ ∃ j : Nat, j < l.length ∧ x8 = j ∧ o = some (l.getD j z82)) → f x8 = (match (t.filter (keep a)).foldl (fmStep (l.getD i z82).f1) o with | none => none | some m => some (m.f0, dst m.f1 (l.getD i z82).f1, true))) ?_ ?_ (fun _ h => h) (-1) none (.inl ⟨rfl, rfl⟩)
  · intro _ x8 o ho
    show spec_NearestTo.L0 l i x8 l l.length _ = _
    rw [spec_NearestTo.L0_eq, if_neg (by omega)]
    rcases ho with ⟨rfl, rfl⟩ | ⟨j, hj, rfl, rfl⟩
    · rw [if_neg (by omega)]; rfl
    · have hjm : l.getD j z82 ∈ l := by rw [List.getD_eq_getElem?_getD, List.getElem?_eq_getElem hj, Option.getD_some]; exact List.getElem_mem hj
      have hj1 := (g2 _ hjm).1
      rw [if_pos (by omega), if_pos (by omega), if_pos (by omega), if_pos (by omega), rd_loc, rd_loc, abs_some _ _ (by omega) (by omega)]
      rfl
  · intro k x t hk hx _ _ ih hm x8 o ho
    have ih' := ih (fun y hy => hm y (by simp [hy]))
    have hx1 := (g2 x (hm x (by simp))).1
    show spec_NearestTo.L0 l i x8 l l.length _ = _
    rw [spec_NearestTo.L0_eq, if_pos (by omega), if_pos (by omega), if_pos (by omega), wrap_in (x := (k : Int) + 1) (by omega) (by omega)]
    by_cases hki : k = i
    · subst hki
      rw [if_pos rfl]
      have : keep a x = false := by rw [hx] at hia; simp [keep, hia]
      rw [List.filter_cons_of_neg (by simp [this])]
      exact ih' x8 o ho
    · rw [if_neg (by omega)]
      have hne : x.f0 ≠ a := fun h => hki (name_unique hg i 0 k hi hk (by rw [hx]; exact h))
      have : keep a x = true := by
        unfold keep
        rw [Bool.not_eq_true', beq_eq_false_iff_ne]
        exact fun h => hne (ext_data (by simpa using h))
      rw [List.filter_cons_of_pos this, List.foldl_cons]
      rcases ho with ⟨rfl, rfl⟩ | ⟨j, hj, rfl, rfl⟩
      · rw [if_pos (by omega)]
        refine ih' k (some x) (.inr ⟨k, hk, rfl, by rw [hx]⟩)
      · have hjm : l.getD j z82 ∈ l := by rw [List.getD_eq_getElem?_getD, List.getElem?_eq_getElem hj, Option.getD_some]; exact List.getElem_mem hj
        have hj1 := (g2 _ hjm).1
        rw [if_neg (by omega), if_pos (by omega), if_pos (by omega), rd_loc, rd_loc, hx, abs_some _ _ (by omega) (by omega), Option.bind_some, if_pos (by omega), if_pos (by omega), rd_loc, abs_some _ _ (by omega) (by omega), Option.bind_some]
        simp only [fmStep]
        by_cases c : dst x.f1 (l.getD i z82).f1 < dst (l.getD j z82).f1 (l.getD i z82).f1
        · rw [if_pos c, if_pos c]
          exact ih' k (some x) (.inr ⟨k, hk, rfl, by rw [hx]⟩)
        · rw [if_neg c, if_neg c]
          exact ih' j _ (.inr ⟨j, hj, rfl, rfl⟩)
theorem FnExactNearestTo : laws_FnExactNearestTo.Pure := by
  intro l a hl ha
  obtain ⟨hl1, hw⟩ := hl
  refine lim_rounds (?_ : laws_FnExactNearestTo.F l a = some true)
  rw [laws_FnExactNearestTo.F_eq]
  split
  · rfl
  obtain ⟨t, h1, h2⟩ := szLocus_tells l 1048576 hl1 hw (by omega)
  rw [h1, Option.bind_some]
  by_cases h3 : t < 0
  · rw [if_pos h3]
  rw [if_neg h3]
  have hl2 : l.length ≤ 1048576 := by omega
  have hz := sized_conv hl1 hw
  have key : ∃ r, spec_NearestTo.F (l.map conv) a = some r ∧ impl_NearestTo.F (l.map conv) a = some r := by
    have hlm : (l.map conv).length ≤ 1048576 := by simpa using hl2
    generalize l.map conv = L at hz hlm
    rw [spec_NearestTo.F_eq, impl_NearestTo.F_eq, loGood_some _ hz, areLoci_some _ hz, loFind_some _ _ hz.1, locusOf_some _ _ hz.1]
    simp only [Option.bind_some, spec_NearestTo.J0_eq, impl_NearestTo.J0_eq]
    cases hg : good L
    · simp
    rw [if_pos rfl, if_pos rfl]
    rcases idxFrom_cases a L 0 with ⟨h4, _⟩ | ⟨i, h4, h5, h6⟩
    · rw [h4]; simp
    rw [Nat.zero_add] at h5
    rw [h5]
    simp only [show ¬ ((i : Int) < 0) from by omega, if_false]
    by_cases h7 : L.length = 1
    · simp [h7]
    have h8 : ((L.length : Int) == 1) = false := by
      rw [beq_eq_false_iff_ne]; omega
    rw [h8, if_neg (by simp), if_neg (by simp)]
    obtain ⟨g1, g2⟩ := good_facts hg
    have him : L.getD i z82 ∈ L := by rw [List.getD_eq_getElem?_getD, List.getElem?_eq_getElem h4, Option.getD_some]; exact List.getElem_mem h4
    have hat := (g2 _ him).1
    rw [nearTo_some L a i hg h5 h4, without_some L a hlm, Option.bind_some, if_pos (by omega), if_pos (by omega), rd_loc]
    have hW : ∀ x ∈ L.filter (keep a), (-90 ≤ x.f1 ∧ x.f1 ≤ 90) ∧ 1 ≤ x.f0.size := fun x hx => g2 x (List.mem_filter.1 hx).1
    rw [nearest_some _ _ (Nat.le_trans (List.length_filter_le _ _) g1) hW hat, Option.bind_some]
    have hne : L.filter (keep a) ≠ [] := by
      intro h9
      obtain ⟨k, hk, hki⟩ : ∃ k, k < L.length ∧ k ≠ i := by
        rcases Nat.eq_zero_or_pos i with h | h
        · exact ⟨1, by omega, by omega⟩
        · exact ⟨0, by omega, by omega⟩
      have hkm : L[k] ∈ L.filter (keep a) := by
        rw [List.mem_filter]
        refine ⟨List.getElem_mem hk, ?_⟩
        unfold keep
        rw [Bool.not_eq_true', beq_eq_false_iff_ne]
        intro h
        exact hki (name_unique hg i 0 k h5 hk (by rw [List.getD_eq_getElem?_getD, List.getElem?_eq_getElem hk, Option.getD_some]; exact ext_data (by simpa using h)))
      rw [h9] at hkm
      simp at hkm
    have hf := near_fm (L.getD i z82).f1 hat (L.filter (keep a)) none (181, []) (fun x hx => (hW x hx).1) (by trivial)
    obtain ⟨x, t, hxt⟩ := List.exists_cons_of_ne_nil hne
    obtain ⟨m, hm⟩ := fm_some (L.getD i z82).f1 t x
    have hm' : (L.filter (keep a)).foldl (fmStep (L.getD i z82).f1) none = some m := by rw [hxt]; exact hm
    rw [hm'] at hf
    obtain ⟨f1, r, f2⟩ := hf
    rw [hm']
    have f2' : (near (L.filter (keep a)) (L.getD i z82).f1).2 = m.f0 :: r := f2
    have f1' : (near (L.filter (keep a)) (L.getD i z82).f1).1 = dst m.f1 (L.getD i z82).f1 := f1
    rw [f2', f1', if_pos (by simp)]
    exact ⟨_, rfl, rfl⟩
  obtain ⟨r, k1, k2⟩ := key
  simp only [toLocus_some l hl2, Option.bind_some, k1, k2, laws_FnExactNearestTo.J0_eq, eqLocus_refl _ hz.1]
  simp

end Go.Proofs.Ytlnafgjjliincaa.Pure
