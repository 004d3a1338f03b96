/- The pure statement of the law FnExactClosestVerb: for all arguments within their bounds its Lean function answers true. -/
import Derived.Test.YtlnafgjjliincaaPFnExactClosestVerbxD0
namespace Go.Proofs.Ytlnafgjjliincaa.Pure
open Go.RowKit Go.Proofs.Ytlnafgjjliincaa.PFnExactClosestVerb Go.Proofs.YtlnafgjjliincaaW.PrintWords Go.Proofs.YtlnafgjjliincaaW.PrintLast
set_option linter.unusedVariables false
set_option linter.unusedSimpArgs false
/-! ### Numbers, loops, letters -/
theorem wrap_in {x : Int} (h0 : -9223372036854775808 ≤ x) (h1 : x ≤ 9223372036854775807) : wrap64 x = x := by
  unfold wrap64; omega
theorem wf_i64 {n : Int} (h : (Lit.int .i64 n).wf = true) : -9223372036854775808 ≤ n ∧ n ≤ 9223372036854775807 := by
  simpa [Lit.wf, IntKind.min, IntKind.max, IntKind.signed, IntKind.bits] using h
/-- A loop over a list, from its end. L: what the loop tells from place i on. -/
theorem each {α γ : Type} (L : Int → γ) (l : List α) (z : α) (R : Nat → List α → γ → Prop) (nil : R l.length [] (L l.length))
    (cons : ∀ (i : Nat) (x : α) (t : List α), i < l.length → l.getD i z = x → l.drop i = x :: t → l.drop (i + 1) = t → R (i + 1) t (L ((i : Int) + 1)) → R i (x :: t) (L i)) : R 0 l (L 0) := by
  have key : ∀ (t : List α) (i : Nat), l.drop i = t → i ≤ l.length → R i t (L i) := by
    intro t
    induction t with
    | nil =>
      intro i h hi
      have : l.length ≤ i := by simpa [List.drop_eq_nil_iff] using h
      obtain rfl : i = l.length := by omega
      exact nil
    | cons x t ih =>
      intro i h hi
      have hlt : i < l.length := by
        rcases Nat.lt_or_ge i l.length with h' | h'
        · exact h'
        · rw [List.drop_eq_nil_of_le h'] at h; cases h
      have h2 := List.drop_eq_getElem_cons hlt
      rw [h] at h2
      injection h2 with h3 h4
      refine cons i x t hlt ?_ h h4.symm ?_
      · rw [List.getD_eq_getElem?_getD, List.getElem?_eq_getElem hlt]; exact h3.symm
      · have := ih (i + 1) h4.symm (by omega)
        rwa [show ((i + 1 : Nat) : Int) = (i : Int) + 1 from by omega] at this
  have := key l 0 rfl (Nat.zero_le _)
  rwa [show ((0 : Nat) : Int) = 0 from rfl] at this
theorem bt_data (s : ByteArray) (i : Nat) (h : i < s.size) : bt s (i : Int) = ((s.data.toList.getD i 0).toNat : Int) := by
  obtain ⟨d⟩ := s
  have h' : i < d.size := h
  have : bt ⟨d⟩ (i : Int) = ((d[i]).toNat : Int) := by
    unfold bt
    rw [dif_pos (show ((i : Int)).toNat < (⟨d⟩ : ByteArray).size from by simpa using h)]
    rfl
  rw [this]
  simp [h']
theorem size_data (s : ByteArray) : s.size = s.data.toList.length := by
  obtain ⟨d⟩ := s; simp [ByteArray.size]
theorem toList_data (s : ByteArray) : s.toList = s.data.toList := by
  rw [ByteArray.toList_eq]
theorem ext_data {s t : ByteArray} (h : s.toList = t.toList) : s = t := by
  rw [toList_data, toList_data] at h
  obtain ⟨⟨a⟩⟩ := s
  obtain ⟨⟨b⟩⟩ := t
  simp at h
  rw [h]
theorem toList_iff {s t : ByteArray} : s.toList = t.toList ↔ s = t := ⟨ext_data, fun h => by rw [h]⟩
theorem mem_drop {α : Type} {l t : List α} {x : α} {i : Nat} (h : l.drop i = x :: t) : x ∈ l := List.mem_of_mem_drop (i := i) (by rw [h]; simp)

/-! ### Words of letters; angles -/
theorem within_some (a b c : Int) : impl_within.f a b c = some (decide (b ≤ a ∧ a ≤ c)) := by
  unfold impl_within.f
  by_cases h : b ≤ a
  · rw [if_pos h]; simp [h]
  · rw [if_neg h]; simp [h]
theorem l1In_some (a b c : Int) : spec_l1In.f a b c = some (decide (b ≤ a ∧ a ≤ c)) := by
  unfold spec_l1In.f
  by_cases h : b ≤ a
  · rw [if_pos h]; simp [h]
  · rw [if_neg h]; simp [h]
/-- All letters between two. -/
def inRange (lo hi : Nat) (l : List UInt8) : Bool := l.all fun c => decide (lo ≤ c.toNat ∧ c.toNat ≤ hi)
/-- One to eight letters between two. -/
def isWord (lo hi : Nat) (s : ByteArray) : Bool := decide (1 ≤ s.size ∧ s.size ≤ 8) && inRange lo hi s.data.toList
theorem dec_size (s : ByteArray) : decide ((1 : Int) ≤ s.size ∧ (s.size : Int) ≤ 8) = decide (1 ≤ s.size ∧ s.size ≤ 8) := by
  by_cases h : 1 ≤ s.size ∧ s.size ≤ 8
  · rw [decide_eq_true h, decide_eq_true (by omega)]
  · rw [decide_eq_false h, decide_eq_false (by omega)]

/-- What 'letters' says of a list of letters: they are those from lo to hi. -/
def Letters (lo hi : Nat) (m : ByteArray) : Prop := ∀ n, n < 256 → (decide (Lib.indexByte m.data.toList n.toUInt8 < 0)) = !decide (lo ≤ n ∧ n ≤ hi)
instance (lo hi : Nat) (m : ByteArray) : Decidable (Letters lo hi m) := by unfold Letters; infer_instance
theorem hasOnly_some (lo hi : Nat) (s m : ByteArray) (hs : s.size ≤ 9223372036854775807) (hm : Letters lo hi m) : impl_hasOnly.F s m = some (inRange lo hi s.data.toList) := by
  rw [impl_hasOnly.F_eq]
  refine each (L := fun i => impl_hasOnly.L0 s m s.size i) s.data.toList 0 (fun _ t o => o = some (inRange lo hi t)) ?_ ?_
  · show impl_hasOnly.L0 s m _ _ = _
    rw [impl_hasOnly.L0_eq, if_neg (by rw [← size_data]; omega)]; rfl
  · intro i x t hi' hx _ _ ih
    have hi2 : i < s.size := by rw [size_data]; exact hi'
    have hb := hm x.toNat x.toNat_lt
    show impl_hasOnly.L0 s m _ _ = _
    rw [impl_hasOnly.L0_eq, if_pos (by omega), if_pos (by omega), if_pos (by omega), bt_data s i hi2, hx, wrap_in (by omega) (by omega)]
    simp only [strings_IndexByte.f, stringslite_IndexByte.f, Option.bind_some, Int.toNat_natCast]
    by_cases h1 : lo ≤ x.toNat ∧ x.toNat ≤ hi
    · rw [if_neg (by simp [h1] at hb; simpa using hb), ih]
      simp [inRange, h1]
    · rw [if_pos (by simpa [h1] using hb)]
      simp [inRange, h1]
theorem isWordOf_some (lo hi : Nat) (s m : ByteArray) (hs : s.size ≤ 9223372036854775807) (hm : Letters lo hi m) : impl_isWordOf.F s m = some (isWord lo hi s) := by
  rw [impl_isWordOf.F_eq, within_some, hasOnly_some lo hi s m hs hm]
  simp only [Option.bind_some, isWord]
  by_cases h : 1 ≤ s.size ∧ s.size ≤ 8
  · have : (1 : Int) ≤ s.size ∧ (s.size : Int) ≤ 8 := by omega
    simp [h, this]
  · have : ¬ ((1 : Int) ≤ s.size ∧ (s.size : Int) ≤ 8) := by omega
    simp [h, this]


theorem isAngle_some (a : Int) : impl_isAngle.f a = some (decide (-90 ≤ a ∧ a ≤ 90)) := by
  unfold impl_isAngle.f; rw [within_some]; rfl
theorem loAngle_some (a : Int) : spec_loAngle.f a = some (decide (-90 ≤ a ∧ a ≤ 90)) := by
  unfold spec_loAngle.f; rw [l1In_some]; rfl

/-! ### Loci -/
abbrev Loc := S82
abbrev LocL := S78
theorem rd_loc (l : List Loc) (i : Nat) : rd_T82 l (i : Int) = l.getD i z82 := by simp [rd_T82]
theorem rd_locL (l : List LocL) (i : Nat) : rd_T78 l (i : Int) = l.getD i z78 := by simp [rd_T78]
theorem naName_some (s : ByteArray) (hs : s.size ≤ 9223372036854775807) : spec_naName.F s = some (isWord 97 122 s) := by
  rw [spec_naName.F_eq]
  have := each (L := fun i => spec_naName.L0 s i) s.data.toList 0 (fun _ t o => o = some (inRange 97 122 t && decide (1 ≤ s.size ∧ s.size ≤ 8))) ?_ ?_
  · rw [this, isWord, Bool.and_comm]
  · show spec_naName.L0 s _ = _
    rw [spec_naName.L0_eq, if_neg (by rw [← size_data]; omega), l1In_some]
    simp only [Option.bind_some, inRange, List.all_nil, Bool.true_and, dec_size]
  · intro i x t hi hx _ _ ih
    have hi' : i < s.size := by rw [size_data]; exact hi
    show spec_naName.L0 s _ = _
    rw [spec_naName.L0_eq, if_pos (by omega), if_pos (by omega), bt_data s i hi', hx, wrap_in (by omega) (by omega)]
    by_cases h1 : x.toNat < 97
    · rw [if_pos (by omega)]; simp [inRange]; omega
    · rw [if_neg (by omega)]
      by_cases h2 : 122 < x.toNat
      · rw [if_pos (by omega)]; simp [inRange]; omega
      · rw [if_neg (by omega), ih]
        have h3 : 97 ≤ x.toNat := by omega
        have h4 : x.toNat ≤ 122 := by omega
        simp [inRange, h3, h4]
/-- The first place of a referent from place i on, or -1. -/
def idxFrom (a : ByteArray) : List Loc → Nat → Int
  | [], _ => -1
  | x :: t, i => if x.f0.toList = a.toList then i else idxFrom a t (i + 1)
theorem idxFrom_cases (a : ByteArray) : ∀ (t : List Loc) (i : Nat), (idxFrom a t i = -1 ∧ ∀ x ∈ t, x.f0 ≠ a) ∨ ∃ j, j < t.length ∧ idxFrom a t i = (i + j : Nat) ∧ (t.getD j z82).f0 = a
  | [], _ => .inl ⟨rfl, by simp⟩
  | x :: t, i => by
    unfold idxFrom
    by_cases h : x.f0.toList = a.toList
    · rw [if_pos h]
      exact .inr ⟨0, by simp, by simp, by simpa using ext_data h⟩
    · rw [if_neg h]
      rcases idxFrom_cases a t (i + 1) with ⟨h1, h2⟩ | ⟨j, h1, h2, h3⟩
      · refine .inl ⟨h1, fun y hy => ?_⟩
        rcases List.mem_cons.1 hy with rfl | hy
        · exact fun e => h (by rw [e])
        · exact h2 y hy
      · exact .inr ⟨j + 1, by simpa using h1, by rw [h2]; omega, by simpa using h3⟩
theorem loFind_some (l : List Loc) (a : ByteArray) (hl : l.length ≤ 9223372036854775807) : spec_loFind.F l a = some (idxFrom a l 0) := by
  rw [spec_loFind.F_eq]
  refine each (L := fun i => spec_loFind.L0 a l l.length i) l z82 (fun i t o => o = some (idxFrom a t i)) ?_ ?_
  · show spec_loFind.L0 a l _ _ = _
    rw [spec_loFind.L0_eq, if_neg (by omega)]; rfl
  · intro i x t hi hx _ _ ih
    show spec_loFind.L0 a l _ _ = _
    rw [spec_loFind.L0_eq, if_pos (by omega), if_pos (by omega), if_pos (by omega), rd_loc, hx, wrap_in (by omega) (by omega)]
    unfold idxFrom
    split
    · rfl
    · exact ih
theorem locusOf_some (l : List Loc) (a : ByteArray) (hl : l.length ≤ 9223372036854775807) : impl_locusOf.F l a = some (idxFrom a l 0) := by
  rw [impl_locusOf.F_eq, slices_IndexFunc_Locus_impl_locusOf_1.F_eq]
  rw [show slices_IndexFunc_Locus_impl_locusOf_1.L0 l (l.length : Int) 0 a = some (idxFrom a l 0) from ?_]; rfl
  refine each (L := fun i => slices_IndexFunc_Locus_impl_locusOf_1.L0 l l.length i a) l z82 (fun i t o => o = some (idxFrom a t i)) ?_ ?_
  · show slices_IndexFunc_Locus_impl_locusOf_1.L0 l _ _ a = _
    rw [slices_IndexFunc_Locus_impl_locusOf_1.L0_eq, if_neg (by omega)]; rfl
  · intro i x t hi hx _ _ ih
    show slices_IndexFunc_Locus_impl_locusOf_1.L0 l _ _ a = _
    rw [slices_IndexFunc_Locus_impl_locusOf_1.L0_eq, if_pos (by omega), if_pos (by omega), if_pos (by omega), rd_loc, hx, wrap_in (by omega) (by omega)]
    unfold idxFrom impl_locusOf_1.f
    simp only [Option.bind_some, beq_iff_eq]
    split
    · rfl
    · exact ih
/-- Is element i as it should be, for those ahead of it? -/
def okAt (l : List Loc) (i : Nat) (x : Loc) : Bool :=
  isWord 97 122 x.f0 && (decide (-90 ≤ x.f1 ∧ x.f1 ≤ 90) && (decide (i = 0 ∨ (l.getD (i - 1) z82).f1 < x.f1) && decide (idxFrom x.f0 (l.take i) 0 < 0)))
def goodFrom (l : List Loc) : Nat → List Loc → Bool
  | _, [] => decide (l.length ≤ 8)
  | i, x :: t => okAt l i x && goodFrom l (i + 1) t
def good (l : List Loc) : Bool := goodFrom l 0 l
/-- The letters' lengths are lengths. -/
def Sized (l : List Loc) : Prop := l.length ≤ 9223372036854775807 ∧ ∀ x ∈ l, x.f0.size ≤ 9223372036854775807
theorem Sized.take {l : List Loc} (h : Sized l) (i : Nat) : (l.take i).length ≤ 9223372036854775807 := Nat.le_trans (List.length_take_le' ..) h.1
theorem loGood_some (l : List Loc) (hl : Sized l) : spec_loGood.F l = some (good l) := by
  rw [spec_loGood.F_eq]
  have hl1 := hl.1
  refine each (L := fun i => spec_loGood.L0 l l l.length i) l z82 (fun i t o => o = some (goodFrom l i t)) ?_ ?_
  · show spec_loGood.L0 l l _ _ = _
    rw [spec_loGood.L0_eq, if_neg (by omega)]
    simp only [goodFrom, Option.some.injEq, decide_eq_decide]; omega
  · intro i x t hi hx hd _ ih
    have hs : x.f0.size ≤ 9223372036854775807 := hl.2 x (mem_drop hd)
    show spec_loGood.L0 l l _ _ = _
    rw [spec_loGood.L0_eq, if_pos (by omega), if_pos (by omega), if_pos (by omega), rd_loc, hx, wrap_in (x := (i : Int) + 1) (by omega) (by omega), naName_some _ hs, loAngle_some, Int.toNat_natCast, loFind_some _ _ (hl.take i)]
    simp only [Option.bind_some, goodFrom, okAt]
    cases isWord 97 122 x.f0
    · simp
    by_cases ha : -90 ≤ x.f1 ∧ x.f1 ≤ 90
    case neg => simp [ha]
    rw [decide_eq_true ha]
    simp only [if_true, Bool.true_and]
    by_cases h0 : i = 0
    · subst h0
      simp only [List.take_zero, Int.natCast_zero, gt_iff_lt, Int.lt_irrefl, if_false, true_or, decide_true, Bool.true_and]
      rw [if_pos (by omega)]
      simp [idxFrom]
      simpa using ih
    · have h1 : (i : Int) - 1 = ((i - 1 : Nat) : Int) := by omega
      rw [if_pos (by omega), wrap_in (by omega) (by omega), h1, if_pos (by omega), if_pos (by omega), rd_loc, if_pos (show (i : Int) ≤ (l.length : Int) by omega)]
      by_cases h2 : (l.getD (i - 1) z82).f1 < x.f1
      · rw [if_neg (by omega)]
        simp only [h2, or_true, decide_true, Bool.true_and]
        by_cases h3 : idxFrom x.f0 (l.take i) 0 < 0
        · rw [if_neg (by omega), ih]; simp [h3]
        · rw [if_pos (by omega)]; simp [h3]
      · rw [if_pos (by omega), decide_eq_false (p := i = 0 ∨ _) (by simp only [h0, h2, or_self, not_false_eq_true])]; simp
theorem areLoci_some (l : List Loc) (hl : Sized l) : impl_AreLoci.F l = some (good l) := by
  rw [impl_AreLoci.F_eq]
  have hl1 := hl.1
  refine each (L := fun i => impl_AreLoci.L0 l l l.length i) l z82 (fun i t o => o = some (goodFrom l i t)) ?_ ?_
  · show impl_AreLoci.L0 l l _ _ = _
    rw [impl_AreLoci.L0_eq, if_neg (by omega)]
    simp only [goodFrom, Option.some.injEq, decide_eq_decide]; omega
  · intro i x t hi hx hd _ ih
    have hs : x.f0.size ≤ 9223372036854775807 := hl.2 x (mem_drop hd)
    show impl_AreLoci.L0 l l _ _ = _
    rw [impl_AreLoci.L0_eq, if_pos (by omega), if_pos (by omega), if_pos (by omega), rd_loc, hx, wrap_in (x := (i : Int) + 1) (by omega) (by omega), isWordOf_some 97 122 _ _ hs (by decide +kernel), isAngle_some, Int.toNat_natCast, locusOf_some _ _ (hl.take i)]
    simp only [Option.bind_some, goodFrom, okAt]
    cases isWord 97 122 x.f0
    · simp
    by_cases ha : -90 ≤ x.f1 ∧ x.f1 ≤ 90
    case neg => simp [ha]
    rw [decide_eq_true ha]
    simp only [if_true, Bool.true_and]
    by_cases h0 : i = 0
    · subst h0
      simp only [List.take_zero, Int.natCast_zero, gt_iff_lt, Int.lt_irrefl, if_false, true_or, decide_true, Bool.true_and]
      rw [if_pos (by omega)]
      simp [idxFrom]
      simpa using ih
    · have h1 : (i : Int) - 1 = ((i - 1 : Nat) : Int) := by omega
      rw [if_pos (by omega), wrap_in (by omega) (by omega), h1, if_pos (by omega), if_pos (by omega), rd_loc, if_pos (show (i : Int) ≤ (l.length : Int) by omega)]
      by_cases h2 : (l.getD (i - 1) z82).f1 < x.f1
      · rw [if_neg (by omega)]
        simp only [h2, or_true, decide_true, Bool.true_and]
        by_cases h3 : idxFrom x.f0 (l.take i) 0 < 0
        · rw [if_neg (by omega), ih]; simp [h3]
        · rw [if_pos (by omega)]; simp [h3]
      · rw [if_pos (by omega), decide_eq_false (p := i = 0 ∨ _) (by simp only [h0, h2, or_self, not_false_eq_true])]; simp
theorem good_from (l : List Loc) : ∀ (t : List Loc) (i : Nat), goodFrom l i t = true → l.length ≤ 8 ∧ ∀ x ∈ t, (-90 ≤ x.f1 ∧ x.f1 ≤ 90) ∧ 1 ≤ x.f0.size
  | [], _, h => ⟨by simpa [goodFrom] using h, by simp⟩
  | x :: t, i, h => by
    simp only [goodFrom, okAt, isWord, Bool.and_eq_true, decide_eq_true_eq] at h
    obtain ⟨h1, h2⟩ := h
    obtain ⟨h3, h4⟩ := good_from l t (i + 1) h2
    refine ⟨h3, fun y hy => ?_⟩
    rcases List.mem_cons.1 hy with rfl | hy
    · exact ⟨h1.2.1, h1.1.1.1⟩
    · exact h4 y hy
theorem good_facts {l : List Loc} (h : good l = true) : l.length ≤ 8 ∧ ∀ x ∈ l, (-90 ≤ x.f1 ∧ x.f1 ≤ 90) ∧ 1 ≤ x.f0.size := good_from l l 0 h
/-! ### What the statements do with loci -/
def conv (x : LocL) : Loc := ⟨x.f0, x.f1⟩
theorem szLocus_tells (l : List LocL) (a : Int) (hl : l.length ≤ 9223372036854775807) (hw : ∀ x ∈ l, Wf78 x) (ha : 0 ≤ a ∧ a ≤ 1048576) : ∃ t, laws_szLocusS.F l a = some t ∧ (t < 0 ∨ (0 ≤ t ∧ t ≤ a ∧ l.length ≤ a)) := by
  rw [laws_szLocusS.F_eq, wrap_in (by omega) (by omega)]
  by_cases h0 : a - (l.length : Int) < 0
  · rw [if_pos h0]; exact ⟨-1, rfl, .inl (by omega)⟩
  · rw [if_neg h0]
    have := each (L := fun i => fun b => laws_szLocusS.L0 l b i) l z78 (fun _ t f => (∀ x ∈ t, x ∈ l) → ∀ b : Int, 0 ≤ b → b ≤ 1048576 → ∃ t, f b = some t ∧ (t < 0 ∨ (0 ≤ t ∧ t ≤ b))) ?_ ?_ (fun _ h => h) (a - l.length) (by omega) (by omega)
    · obtain ⟨t, h1, h2⟩ := this
      exact ⟨t, h1, by omega⟩
    · intro _ b h1 h2
      refine ⟨b, ?_, by omega⟩
      show laws_szLocusS.L0 l b _ = _
      rw [laws_szLocusS.L0_eq, if_neg (by omega)]
    · intro i x t hi hx hd _ ih hm b h1 h2
      have hz : x.f0.size ≤ 9223372036854775807 := (hw x (hm x (by simp))).1
      show ∃ t, laws_szLocusS.L0 l b _ = some t ∧ _
      rw [laws_szLocusS.L0_eq, if_pos (by omega), if_pos (by omega), rd_locL, hx, wrap_in (x := (i : Int) + 1) (by omega) (by omega)]
      unfold laws_szLocus.f
      rw [wrap_in (by omega) (by omega)]
      by_cases h3 : b - (x.f0.size : Int) < 0
      · rw [if_pos h3]; exact ⟨-1, rfl, .inl (by omega)⟩
      · rw [if_neg h3, Option.bind_some, if_neg h3]
        obtain ⟨t, h4, h5⟩ := ih (fun y hy => hm y (by simp [hy])) (b - x.f0.size) (by omega) (by omega)
        exact ⟨t, h4, by omega⟩
theorem take_set {α : Type} (l : List α) (i : Nat) (v : α) (h : i < l.length) : (l.set i v).take (i + 1) = l.take i ++ [v] := by
  rw [List.take_succ_eq_append_getElem (by simpa using h), List.take_set_of_le (Nat.le_refl i)]
  simp
theorem toLocus_some (l : List LocL) (hl : l.length ≤ 1048576) : laws_toLocusS.F l = some (l.map conv) := by
  rw [laws_toLocusS.F_eq, if_pos (by omega), if_pos (by omega)]
  have := each (L := fun i => fun y => laws_toLocusS.L0 l y i) l z78 (fun i t f => ∀ y : List Loc, y.length = l.length → f y = some (y.take i ++ t.map conv)) ?_ ?_ (List.replicate ((l.length : Int)).toNat z82) (by simp)
  · show laws_toLocusS.L0 l _ _ = _
    exact this.trans (by simp)
  · intro y hy
    show laws_toLocusS.L0 l y _ = _
    rw [laws_toLocusS.L0_eq, if_neg (by omega)]
    simp [← hy]
  · intro i x t hi hx _ _ ih y hy
    show laws_toLocusS.L0 l y _ = _
    rw [laws_toLocusS.L0_eq, if_pos (by omega), if_pos (by omega), rd_locL, hx, wrap_in (x := (i : Int) + 1) (by omega) (by omega)]
    unfold laws_toLocus.f
    rw [Option.bind_some, if_pos (by omega)]
    refine (ih _ (by simpa using hy)).trans ?_
    rw [Int.toNat_natCast, take_set _ _ _ (by omega)]
    simp [conv]
theorem eqLocus_refl (l : List Loc) (hl : l.length ≤ 9223372036854775807) : laws_eqLocusS.F l l = some true := by
  rw [laws_eqLocusS.F_eq, if_pos rfl]
  refine each (L := fun i => laws_eqLocusS.L0 l l i) l z82 (fun _ _ o => o = some true) ?_ ?_
  · show laws_eqLocusS.L0 l l _ = _
    rw [laws_eqLocusS.L0_eq, if_neg (by omega)]
  · intro i x t hi hx _ _ ih
    show laws_eqLocusS.L0 l l _ = _
    rw [laws_eqLocusS.L0_eq, if_pos (by omega), if_pos (by omega), if_pos (by omega), rd_loc, hx, wrap_in (x := (i : Int) + 1) (by omega) (by omega)]
    unfold laws_eqLocus.f
    rw [if_pos rfl, if_pos rfl, Option.bind_some, if_pos rfl]
    exact ih
theorem sized_conv {l : List LocL} (hl : l.length ≤ 9223372036854775807) (hw : ∀ x ∈ l, Wf78 x) : Sized (l.map conv) :=
  ⟨by simpa using hl, fun x hx => by
    obtain ⟨y, hy, rfl⟩ := List.mem_map.1 hx
    exact (hw y hy).1⟩


theorem fsWord_some (s : ByteArray) (hs : s.size ≤ 9223372036854775807) : spec_fsWord.F s = some (isWord 65 90 s) := by
  rw [spec_fsWord.F_eq]
  have := each (L := fun i => spec_fsWord.L0 s i) s.data.toList 0 (fun _ t o => o = some (inRange 65 90 t && decide (1 ≤ s.size ∧ s.size ≤ 8))) ?_ ?_
  · rw [this, isWord, Bool.and_comm]
  · show spec_fsWord.L0 s _ = _
    rw [spec_fsWord.L0_eq, if_neg (by rw [← size_data]; omega), l1In_some]
    simp only [Option.bind_some, inRange, List.all_nil, Bool.true_and, dec_size]
  · intro i x t hi hx _ _ ih
    have hi' : i < s.size := by rw [size_data]; exact hi
    show spec_fsWord.L0 s _ = _
    rw [spec_fsWord.L0_eq, if_pos (by omega), if_pos (by omega), bt_data s i hi', hx, wrap_in (by omega) (by omega)]
    by_cases h1 : x.toNat < 65
    · rw [if_pos (by omega)]; simp [inRange]; omega
    · rw [if_neg (by omega)]
      by_cases h2 : 90 < x.toNat
      · rw [if_pos (by omega)]; simp [inRange]; omega
      · rw [if_neg (by omega), ih]
        have h3 : 65 ≤ x.toNat := by omega
        have h4 : x.toNat ≤ 90 := by omega
        simp [inRange, h3, h4]

theorem isGloss_some (s : ByteArray) (hs : s.size ≤ 9223372036854775807) : impl_IsGloss.F s = some (isWord 65 90 s) := by
  rw [impl_IsGloss.F_eq, isWordOf_some 65 90 s _ hs (by decide +kernel)]; rfl


/-- Is it a verb? -/
def isVerb (g : ByteArray) (a b : Int) : Bool := isWord 65 90 g && (decide (-90 ≤ a ∧ a ≤ 90) && (decide (-90 ≤ b ∧ b ≤ 90) && (a != b)))
theorem isVerb_some (g : ByteArray) (a b : Int) (hg : g.size ≤ 9223372036854775807) : impl_IsVerb.F g a b = some (isVerb g a b) := by
  rw [impl_IsVerb.F_eq, isGloss_some g hg, isAngle_some, isAngle_some]
  unfold isVerb
  cases isWord 65 90 g <;> cases decide (-90 ≤ a ∧ a ≤ 90) <;> cases decide (-90 ≤ b ∧ b ≤ 90) <;> simp
theorem veOne_some (g : ByteArray) (a b : Int) (hg : g.size ≤ 9223372036854775807) : spec_veOne.F g a b = some (isVerb g a b) := by
  rw [spec_veOne.F_eq, fsWord_some g hg, loAngle_some, loAngle_some]
  unfold isVerb
  cases isWord 65 90 g <;> cases decide (-90 ≤ a ∧ a ≤ 90) <;> cases decide (-90 ≤ b ∧ b ≤ 90) <;> simp

/-! ### Slices of verbs -/
abbrev Ver := S25
abbrev VerL := S46
theorem rd_ver (l : List Ver) (i : Nat) : rd_T25 l (i : Int) = l.getD i z25 := by simp [rd_T25]
theorem rd_verL (l : List VerL) (i : Nat) : rd_T46 l (i : Int) = l.getD i z46 := by simp [rd_T46]
def convV (x : VerL) : Ver := ⟨x.f0, x.f1, x.f2⟩
def SizedV (l : List Ver) : Prop := l.length ≤ 9223372036854775807 ∧ ∀ x ∈ l, x.f0.size ≤ 9223372036854775807
theorem sized_convV {l : List VerL} (hl : l.length ≤ 9223372036854775807) (hw : ∀ x ∈ l, Wf46 x) : SizedV (l.map convV) :=
  ⟨by simpa using hl, fun x hx => by
    obtain ⟨y, hy, rfl⟩ := List.mem_map.1 hx
    exact (hw y hy).1⟩
theorem szVerb_tells (l : List VerL) (a : Int) (hl : l.length ≤ 9223372036854775807) (hw : ∀ x ∈ l, Wf46 x) (ha : 0 ≤ a ∧ a ≤ 1048576) : ∃ t, laws_szVerbS.F l a = some t ∧ (t < 0 ∨ (0 ≤ t ∧ t ≤ a ∧ l.length ≤ a)) := by
  rw [laws_szVerbS.F_eq, wrap_in (by omega) (by omega)]
  by_cases h0 : a - (l.length : Int) < 0
  · rw [if_pos h0]; exact ⟨-1, rfl, .inl (by omega)⟩
  · rw [if_neg h0]
    have := each (L := fun i => fun b => laws_szVerbS.L0 l b i) l z46 (fun _ t f => (∀ x ∈ t, x ∈ l) → ∀ b : Int, 0 ≤ b → b ≤ 1048576 → ∃ t, f b = some t ∧ (t < 0 ∨ (0 ≤ t ∧ t ≤ b))) ?_ ?_ (fun _ h => h) (a - l.length) (by omega) (by omega)
    · obtain ⟨t, h1, h2⟩ := this
      exact ⟨t, h1, by omega⟩
    · intro _ b h1 h2
      refine ⟨b, ?_, by omega⟩
      show laws_szVerbS.L0 l b _ = _
      rw [laws_szVerbS.L0_eq, if_neg (by omega)]
    · intro i x t hi hx hd _ ih hm b h1 h2
      have hz : x.f0.size ≤ 9223372036854775807 := (hw x (hm x (by simp))).1
      show ∃ t, laws_szVerbS.L0 l b _ = some t ∧ _
      rw [laws_szVerbS.L0_eq, if_pos (by omega), if_pos (by omega), rd_verL, hx, wrap_in (x := (i : Int) + 1) (by omega) (by omega)]
      unfold laws_szVerb.f
      rw [wrap_in (by omega) (by omega)]
      by_cases h3 : b - (x.f0.size : Int) < 0
      · rw [if_pos h3]; exact ⟨-1, rfl, .inl (by omega)⟩
      · rw [if_neg h3, Option.bind_some, if_neg h3]
        obtain ⟨t, h4, h5⟩ := ih (fun y hy => hm y (by simp [hy])) (b - x.f0.size) (by omega) (by omega)
        exact ⟨t, h4, by omega⟩
theorem toVerb_some (l : List VerL) (hl : l.length ≤ 1048576) : laws_toVerbS.F l = some (l.map convV) := by
  rw [laws_toVerbS.F_eq, if_pos (by omega), if_pos (by omega)]
  have := each (L := fun i => fun y => laws_toVerbS.L0 l y i) l z46 (fun i t f => ∀ y : List Ver, y.length = l.length → f y = some (y.take i ++ t.map convV)) ?_ ?_ (List.replicate ((l.length : Int)).toNat z25) (by simp)
  · show laws_toVerbS.L0 l _ _ = _
    exact this.trans (by simp)
  · intro y hy
    show laws_toVerbS.L0 l y _ = _
    rw [laws_toVerbS.L0_eq, if_neg (by omega)]
    simp [← hy]
  · intro i x t hi hx _ _ ih y hy
    show laws_toVerbS.L0 l y _ = _
    rw [laws_toVerbS.L0_eq, if_pos (by omega), if_pos (by omega), rd_verL, hx, wrap_in (x := (i : Int) + 1) (by omega) (by omega)]
    unfold laws_toVerb.f
    rw [Option.bind_some, if_pos (by omega)]
    refine (ih _ (by simpa using hy)).trans ?_
    rw [Int.toNat_natCast, take_set _ _ _ (by omega)]
    simp [convV]
theorem eqVerb_refl (g : ByteArray) (a b : Int) : laws_eqVerb.f g a b g a b = some true := by
  unfold laws_eqVerb.f; rw [if_pos rfl, if_pos rfl, if_pos rfl]
theorem eqVerbS_refl (l : List Ver) (hl : l.length ≤ 9223372036854775807) : laws_eqVerbS.F l l = some true := by
  rw [laws_eqVerbS.F_eq, if_pos rfl]
  refine each (L := fun i => laws_eqVerbS.L0 l l i) l z25 (fun _ _ o => o = some true) ?_ ?_
  · show laws_eqVerbS.L0 l l _ = _
    rw [laws_eqVerbS.L0_eq, if_neg (by omega)]
  · intro i x t hi hx _ _ ih
    show laws_eqVerbS.L0 l l _ = _
    rw [laws_eqVerbS.L0_eq, if_pos (by omega), if_pos (by omega), if_pos (by omega), rd_ver, hx, wrap_in (x := (i : Int) + 1) (by omega) (by omega), eqVerb_refl, Option.bind_some, if_pos rfl]
    exact ih
def isV (x : Ver) : Bool := isVerb x.f0 x.f1 x.f2
/-- Are they verbs, and few enough? -/
def goodV (l : List Ver) : Bool := l.all isV && decide (l.length ≤ 20)
theorem veGood_some (l : List Loc) (v : List Ver) (hl : Sized l) (hv : SizedV v) : spec_veGood.F l v = some (good l && goodV v) := by
  have hv1 := hv.1
  rw [spec_veGood.F_eq]
  rw [show (good l && goodV v) = (v.all isV && (good l && decide (v.length ≤ 20))) from by unfold goodV; cases good l <;> cases v.all isV <;> rfl]
  refine each (L := fun i => spec_veGood.L0 l v v v.length i) v z25 (fun _ t o => o = some (t.all isV && (good l && decide (v.length ≤ 20)))) ?_ ?_
  · show spec_veGood.L0 l v v _ _ = _
    rw [spec_veGood.L0_eq, if_neg (by omega), loGood_some l hl, Option.bind_some]
    have : decide ((v.length : Int) ≤ 20) = decide (v.length ≤ 20) := by simp only [decide_eq_decide]; omega
    cases good l <;> simp [this]
  · intro i x t hi hx hd _ ih
    have hs := hv.2 x (mem_drop hd)
    show spec_veGood.L0 l v v _ _ = _
    rw [spec_veGood.L0_eq, if_pos (by omega), if_pos (by omega), if_pos (by omega), rd_ver, hx, wrap_in (x := (i : Int) + 1) (by omega) (by omega), veOne_some _ _ _ hs, Option.bind_some, List.all_cons, show isVerb x.f0 x.f1 x.f2 = isV x from rfl]
    cases isV x
    · rfl
    · rw [if_pos rfl, Bool.true_and]; exact ih
theorem areVerbs_some (v : List Ver) (hv : SizedV v) : impl_areVerbs.F v = some (goodV v) := by
  have hv1 := hv.1
  rw [impl_areVerbs.F_eq]
  by_cases h : (v.length : Int) ≤ 20
  case neg => rw [if_neg h, goodV, decide_eq_false (by omega), Bool.and_false]
  rw [if_pos h, goodV, decide_eq_true (by omega), Bool.and_true, impl_allOf_Verb_impl_IsVerb.F_eq, slices_ContainsFunc_Verb_impl_allOf_Verb_1_impl_IsVerb.F_eq, slices_IndexFunc_Verb_impl_allOf_Verb_1_impl_IsVerb.F_eq]
  have := each (L := fun i => slices_IndexFunc_Verb_impl_allOf_Verb_1_impl_IsVerb.L0 v v.length i) v z25 (fun _ t o => ∃ r, o = some r ∧ decide (r ≥ 0) = !(t.all isV)) ?_ ?_
  · obtain ⟨r, h1, h2⟩ := this
    rw [h1]; simp [h2]
  · refine ⟨-1, ?_, by simp⟩
    show slices_IndexFunc_Verb_impl_allOf_Verb_1_impl_IsVerb.L0 v _ _ = _
    rw [slices_IndexFunc_Verb_impl_allOf_Verb_1_impl_IsVerb.L0_eq, if_neg (by omega)]
  · intro i x t hi hx hd _ ih
    have hs := hv.2 x (mem_drop hd)
    show ∃ r, slices_IndexFunc_Verb_impl_allOf_Verb_1_impl_IsVerb.L0 v _ _ = _ ∧ _
    rw [slices_IndexFunc_Verb_impl_allOf_Verb_1_impl_IsVerb.L0_eq, if_pos (by omega), if_pos (by omega), if_pos (by omega), rd_ver, hx, wrap_in (x := (i : Int) + 1) (by omega) (by omega), impl_allOf_Verb_1_impl_IsVerb.F_eq, isVerb_some _ _ _ hs]
    simp only [Option.bind_some, List.all_cons, show isVerb x.f0 x.f1 x.f2 = isV x from rfl]
    cases isV x
    · rw [if_pos (by simp)]; exact ⟨i, rfl, by simp⟩
    · rw [if_neg (by simp), Bool.true_and]; exact ih
theorem goodV_facts {v : List Ver} (h : goodV v = true) : v.length ≤ 20 ∧ ∀ x ∈ v, (-90 ≤ x.f1 ∧ x.f1 ≤ 90) ∧ (-90 ≤ x.f2 ∧ x.f2 ≤ 90) ∧ x.f0.size ≤ 8 := by
  simp only [goodV, Bool.and_eq_true, List.all_eq_true, decide_eq_true_eq] at h
  refine ⟨h.2, fun x hx => ?_⟩
  have := h.1 x hx
  simp only [isV, isVerb, isWord, Bool.and_eq_true, decide_eq_true_eq] at this
  exact ⟨this.2.1, this.2.2.1, this.1.1.2⟩


/-! ### How far apart -/
def dst (a b : Int) : Int := if a < b then b - a else a - b
theorem distance_some (a b : Int) (ha : -1000000 ≤ a ∧ a ≤ 1000000) (hb : -1000000 ≤ b ∧ b ≤ 1000000) : impl_distance.f a b = some (dst a b) := by
  unfold impl_distance.f
  rw [wrap_in (by omega) (by omega), wrap_in (by omega) (by omega)]
  unfold mx dst
  congr 1
  split <;> split <;> omega
theorem abs_some (a b : Int) (ha : -1000000 ≤ a ∧ a ≤ 1000000) (hb : -1000000 ≤ b ∧ b ≤ 1000000) : spec_l1Abs.f (wrap64 (a - b)) = some (dst a b) := by
  unfold spec_l1Abs.f spec_l1Most.f
  rw [wrap_in (x := a - b) (by omega) (by omega), wrap_in (by omega) (by omega)]
  unfold dst
  split <;> split <;> simp <;> omega


/-! ### Referents -/
def isRef (l : List Loc) (s : ByteArray) : Bool := decide (0 ≤ idxFrom s l 0)
theorem rd_text (l : List ByteArray) (i : Nat) : rdOf ByteArray.empty l (i : Int) = l.getD i ByteArray.empty := by simp [rdOf]
theorem areRefs_some (l : List Loc) (w : List ByteArray) (hl : Sized l) (hw : w.length ≤ 9223372036854775807) : impl_areReferents.F l w = some (good l && w.all (isRef l)) := by
  have hl1 := hl.1
  rw [impl_areReferents.F_eq, areLoci_some l hl, Option.bind_some]
  cases good l
  · rfl
  rw [if_pos rfl, Bool.true_and, impl_allOf_string_impl_areReferents_1.F_eq, slices_ContainsFunc_string_impl_allOf_string_1_impl_areReferents_1.F_eq, slices_IndexFunc_string_impl_allOf_string_1_impl_areReferents_1.F_eq]
  have := each (L := fun i => slices_IndexFunc_string_impl_allOf_string_1_impl_areReferents_1.L0 w w.length i l) w ByteArray.empty (fun _ t o => ∃ r, o = some r ∧ decide (r ≥ 0) = !(t.all (isRef l))) ?_ ?_
  · obtain ⟨r, h1, h2⟩ := this
    rw [h1]; simp [h2]
  · refine ⟨-1, ?_, by simp⟩
    show slices_IndexFunc_string_impl_allOf_string_1_impl_areReferents_1.L0 w _ _ l = _
    rw [slices_IndexFunc_string_impl_allOf_string_1_impl_areReferents_1.L0_eq, if_neg (by omega)]
  · intro i x t hi hx _ _ ih
    show ∃ r, slices_IndexFunc_string_impl_allOf_string_1_impl_areReferents_1.L0 w _ _ l = _ ∧ _
    rw [slices_IndexFunc_string_impl_allOf_string_1_impl_areReferents_1.L0_eq, if_pos (by omega), if_pos (by omega), if_pos (by omega), rd_text, hx, wrap_in (x := (i : Int) + 1) (by omega) (by omega), impl_allOf_string_1_impl_areReferents_1.F_eq, impl_areReferents_1.F_eq, locusOf_some l x hl1]
    simp only [Option.bind_some, List.all_cons]
    by_cases h : 0 ≤ idxFrom x l 0
    · have h2 : isRef l x = true := by simp [isRef, h]
      rw [if_neg (by simp [h]), h2, Bool.true_and]; exact ih
    · have h2 : isRef l x = false := by simp [isRef, h]
      rw [if_pos (by simp; omega), h2]; exact ⟨i, rfl, by simp⟩
theorem ref_long {l : List Loc} {s : ByteArray} (hx : ∀ x ∈ l, (-90 ≤ x.f1 ∧ x.f1 ≤ 90) ∧ 1 ≤ x.f0.size) (h : isRef l s = true) : 1 ≤ s.size := by
  rcases idxFrom_cases s l 0 with ⟨h1, _⟩ | ⟨j, h1, _, h3⟩
  · simp [isRef, h1] at h
  · rw [List.getD_eq_getElem?_getD, List.getElem?_eq_getElem h1, Option.getD_some] at h3
    rw [← h3]; exact (hx _ (List.getElem_mem h1)).2

theorem idx_at {l : List Loc} {s : ByteArray} (h : isRef l s = true) : ∃ j, j < l.length ∧ idxFrom s l 0 = (j : Int) ∧ (l.getD j z82).f0 = s ∧ l.getD j z82 ∈ l := by
  rcases idxFrom_cases s l 0 with ⟨h1, _⟩ | ⟨j, h1, h2, h3⟩
  · simp [isRef, h1] at h
  · refine ⟨j, h1, by rw [h2]; omega, h3, ?_⟩
    rw [List.getD_eq_getElem?_getD, List.getElem?_eq_getElem h1, Option.getD_some]
    exact List.getElem_mem h1

def dv (x : Ver) (p q : Int) : Int := dst x.f1 p + dst x.f2 q
theorem dst_in (a b : Int) (ha : -90 ≤ a ∧ a ≤ 90) (hb : -90 ≤ b ∧ b ≤ 90) : 0 ≤ dst a b ∧ dst a b ≤ 180 := by unfold dst; split <;> omega
theorem dv_in {x : Ver} {p q : Int} (h1 : -90 ≤ x.f1 ∧ x.f1 ≤ 90) (h2 : -90 ≤ x.f2 ∧ x.f2 ≤ 90) (hp : -90 ≤ p ∧ p ≤ 90) (hq : -90 ≤ q ∧ q ≤ 90) : 0 ≤ dv x p q ∧ dv x p q ≤ 360 := by
  have := dst_in _ _ h1 hp
  have := dst_in _ _ h2 hq
  unfold dv; omega
theorem dv_impl {x : Ver} {p q : Int} (h1 : -90 ≤ x.f1 ∧ x.f1 ≤ 90) (h2 : -90 ≤ x.f2 ∧ x.f2 ≤ 90) (hp : -90 ≤ p ∧ p ≤ 90) (hq : -90 ≤ q ∧ q ≤ 90) : impl_ClosestVerb_1.f x.f0 x.f1 x.f2 p q = some (dv x p q) := by
  have := dv_in h1 h2 hp hq
  unfold impl_ClosestVerb_1.f
  rw [distance_some _ _ (by omega) (by omega), distance_some _ _ (by omega) (by omega), Option.bind_some, Option.bind_some]
  unfold dv at this ⊢
  rw [wrap_in (by omega) (by omega)]
theorem closest_same (v : List Ver) (g : ByteArray) (p q : Int) (h0 : 0 < v.length) (hv : v.length ≤ 20 ∧ ∀ x ∈ v, (-90 ≤ x.f1 ∧ x.f1 ≤ 90) ∧ (-90 ≤ x.f2 ∧ x.f2 ≤ 90) ∧ x.f0.size ≤ 8) (hp : -90 ≤ p ∧ p ≤ 90) (hq : -90 ≤ q ∧ q ≤ 90) : ∃ r, spec_ClosestVerb.L0 (-1) 0 v v.length 0 g p q = some r ∧ impl_ClosestVerb.L0 v 0 v v.length 0 p q = some r := by
  obtain ⟨hv1, hv2⟩ := hv
  have hat : ∀ k : Nat, k < v.length → v.getD k z25 ∈ v := by
    intro k hk
    rw [List.getD_eq_getElem?_getD, List.getElem?_eq_getElem hk, Option.getD_some]
    exact List.getElem_mem hk
  have key := each (L := fun i => ((fun a m => spec_ClosestVerb.L0 a m v v.length i g p q : Int → Int → _), (fun a => impl_ClosestVerb.L0 v a v v.length i p q : Int → _))) v z25 (fun i t f => (∀ k : Nat, k < v.length → ∃ r, f.1 k (dv (v.getD k z25) p q) = some r ∧ f.2 k = some r) ∧ (i = 0 → t ≠ [] → ∃ r, f.1 (-1) 0 = some r ∧ f.2 0 = some r)) ?_ ?_
  · exact key.2 rfl (by intro h; rw [h] at h0; simp at h0)
  · refine ⟨fun k hk => ?_, fun _ h => absurd rfl h⟩
    have hx := hv2 _ (hat k hk)
    show ∃ r, spec_ClosestVerb.L0 _ _ v _ _ g p q = _ ∧ impl_ClosestVerb.L0 v _ v _ _ p q = _
    rw [spec_ClosestVerb.L0_eq, impl_ClosestVerb.L0_eq, if_neg (by omega), if_neg (by omega), if_pos (by omega), if_pos (by omega), rd_ver, dv_impl hx.1 hx.2.1 hp hq]
    exact ⟨_, rfl, rfl⟩
  · intro i x t hi hxi hd _ ih
    have hx := hv2 x (mem_drop hd)
    have hxd := dv_in hx.1 hx.2.1 hp hq
    have hxe : dv x p q = dst x.f1 p + dst x.f2 q := rfl
    constructor
    · intro k hk
      have hy := hv2 _ (hat k hk)
      show ∃ r, spec_ClosestVerb.L0 _ _ v _ _ g p q = _ ∧ impl_ClosestVerb.L0 v _ v _ _ p q = _
      rw [spec_ClosestVerb.L0_eq, impl_ClosestVerb.L0_eq, if_pos (by omega), if_pos (by omega), if_pos (by omega), if_pos (by omega), if_pos (by omega), if_pos (by omega), rd_ver, rd_ver, hxi, wrap_in (x := (i : Int) + 1) (by omega) (by omega), abs_some _ _ (by omega) (by omega), abs_some _ _ (by omega) (by omega), dv_impl hx.1 hx.2.1 hp hq, dv_impl hy.1 hy.2.1 hp hq]
      simp only [Option.bind_some]
      rw [if_neg (show ¬ ((k : Int) < 0) by omega), wrap_in (by omega) (by omega), if_pos (show 0 ≤ (k : Int) by omega), if_pos (show (k : Int) < (v.length : Int) by omega), ← hxe]
      have ih1 := ih.1 i hi
      have ih2 := ih.1 k hk
      rw [hxi] at ih1
      split
      · exact ih1
      · exact ih2
    · intro hi0 _
      subst hi0
      show ∃ r, spec_ClosestVerb.L0 _ _ v _ _ g p q = _ ∧ impl_ClosestVerb.L0 v _ v _ _ p q = _
      rw [spec_ClosestVerb.L0_eq, impl_ClosestVerb.L0_eq, if_pos (by omega), if_pos (by omega), if_pos (by omega), if_pos (by omega), if_pos (by omega), if_pos (by omega), rd_ver, show (0 : Int) = ((0 : Nat) : Int) from rfl, rd_ver, hxi, wrap_in (x := ((0 : Nat) : Int) + 1) (by omega) (by omega), abs_some _ _ (by omega) (by omega), abs_some _ _ (by omega) (by omega), dv_impl hx.1 hx.2.1 hp hq]
      simp only [Option.bind_some]
      rw [if_pos (by omega), wrap_in (by omega) (by omega), if_pos (by omega), if_pos (by omega), if_neg (by omega), ← hxe]
      have ih1 := ih.1 0 hi
      rw [hxi] at ih1
      exact ih1
theorem FnExactClosestVerb : laws_FnExactClosestVerb.Pure := by
  intro l vs u w hl hvs hu hw'
  obtain ⟨hl1, hw⟩ := hl
  obtain ⟨hv1, hvw⟩ := hvs
  refine lim_rounds (?_ : laws_FnExactClosestVerb.F l vs u w = some true)
  rw [laws_FnExactClosestVerb.F_eq]
  split
  · rfl
  split
  · rfl
  obtain ⟨t, h1, h2⟩ := szLocus_tells l 1048576 hl1 hw (by omega)
  rw [h1, Option.bind_some]
  by_cases h3 : t < 0
  · rw [if_pos h3]
  rw [if_neg h3]
  obtain ⟨t2, h4, h5⟩ := szVerb_tells vs t hv1 hvw (by omega)
  rw [h4, Option.bind_some]
  by_cases h6 : t2 < 0
  · rw [if_pos h6]
  rw [if_neg h6]
  have hl2 : l.length ≤ 1048576 := by omega
  have hv2 : vs.length ≤ 1048576 := by omega
  have hz := sized_conv hl1 hw
  have hzv := sized_convV hv1 hvw
  have key : ∃ r, spec_ClosestVerb.F (l.map conv) (vs.map convV) u w = some r ∧ impl_ClosestVerb.F (l.map conv) (vs.map convV) u w = some r := by
    generalize l.map conv = L at hz
    generalize vs.map convV = V at hzv
    have hzv1 := hzv.1
    rw [spec_ClosestVerb.F_eq, impl_ClosestVerb.F_eq, spec_VerbFor.F_eq, loGood_some _ hz, fsWord_some _ (by decide), areRefs_some _ _ hz (by simp), loFind_some _ _ hz.1, loFind_some _ _ hz.1, veGood_some _ _ hz hzv, areVerbs_some _ hzv]
    simp only [Option.bind_some, impl_ClosestVerb.J0_eq, spec_ClosestVerb.J0_eq, locusOf_some _ _ hz.1]
    rw [show isWord 65 90 ⟨#[65]⟩ = true from by decide +kernel]
    cases hg : good L
    · cases goodV V <;> simp
    obtain ⟨g1, g2⟩ := good_facts hg
    by_cases c1 : isRef L u = true
    case neg =>
      have : idxFrom u L 0 < 0 := by simpa [isRef] using c1
      cases goodV V <;> simp [c1, this]
    obtain ⟨i, i1, i2, i3, i4⟩ := idx_at c1
    have i5 : ¬ ((i : Int) < 0) := by omega
    have i6 : (i : Int) < (L.length : Int) := by omega
    by_cases c2 : isRef L w = true
    case neg =>
      have : idxFrom w L 0 < 0 := by simpa [isRef] using c2
      cases goodV V <;> simp [c2, this, i2, i5]
    obtain ⟨j, j1, j2, j3, j4⟩ := idx_at c2
    have j5 : ¬ ((j : Int) < 0) := by omega
    have j6 : (j : Int) < (L.length : Int) := by omega
    rw [i2, j2]
    have hij : ((i : Int) = (j : Int)) ↔ u.toList = w.toList := by
      constructor
      · intro h
        obtain rfl : i = j := by omega
        rw [← i3, ← j3]
      · intro h
        have := ext_data h
        subst this
        omega
    by_cases c3 : u.toList = w.toList
    · have := hij.2 c3
      cases goodV V <;> simp [c1, c2, c3, this]
    have c4 : ¬ (i : Int) = (j : Int) := fun h => c3 (hij.1 h)
    cases hgv : goodV V
    · simp only [c1, c2, c3, c4, i5, j5, i6, j6, if_true, if_false, List.all_cons, List.all_nil, Bool.true_and, Bool.and_true, Bool.and_false, beq_iff_eq, Int.natCast_nonneg, if_pos, if_neg, not_false_eq_true, Bool.false_eq_true]
      refine ⟨_, rfl, ?_⟩
      split <;> rfl
    have gv := goodV_facts hgv
    simp only [c1, c2, c3, c4, i5, j5, i6, j6, if_true, if_false, List.all_cons, List.all_nil, Bool.true_and, Bool.and_true, beq_iff_eq, Int.natCast_nonneg, if_pos, if_neg, not_false_eq_true]
    by_cases c5 : (V.length : Int) = 0
    · simp [c5]
    · rw [if_neg c5, rd_loc, rd_loc]
      obtain ⟨r, k1, k2⟩ := closest_same V ⟨#[65]⟩ (L.getD i z82).f1 (L.getD j z82).f1 (by omega) gv (g2 _ i4).1 (g2 _ j4).1
      refine ⟨r, ?_, k2⟩
      rw [Option.bind_some, if_pos rfl, if_neg c5]; exact k1
  obtain ⟨r, k1, k2⟩ := key
  simp only [toLocus_some l hl2, toVerb_some vs hv2, Option.bind_some, k1, k2, laws_FnExactClosestVerb.J0_eq, eqLocus_refl _ hz.1, eqVerbS_refl _ hzv.1]
  simp

end Go.Proofs.Ytlnafgjjliincaa.Pure
