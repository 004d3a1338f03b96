/- The pure statement of the law FnExactDoersOf: for all arguments within their bounds its Lean function answers true. -/
import Derived.Test.YtbheajjagkdjmaaPFnExactDoersOfxD0
namespace Go.Proofs.Ytbheajjagkdjmaa.Pure
open Go.RowKit Go.Proofs.Ytbheajjagkdjmaa.PFnExactDoersOf Go.Proofs.YtbheajjagkdjmaaW.PrintWords Go.Proofs.YtbheajjagkdjmaaW.PrintLast
set_option linter.unusedVariables false
set_option linter.unusedSimpArgs false
/-! ### Numbers, loops, letters -/
theorem wrap_in {x : Int} (h0 : -9223372036854775808 ≤ x) (h1 : x ≤ 9223372036854775807) : wrap64 x = x := by
  unfold wrap64; omega
theorem wf_i64 {n : Int} (h : (Lit.int .i64 n).wf = true) : -9223372036854775808 ≤ n ∧ n ≤ 9223372036854775807 := by
  simpa [Lit.wf, IntKind.min, IntKind.max, IntKind.signed, IntKind.bits] using h
/-- A loop over a list, from its end. L: what the loop tells from place i on. -/
theorem each {α γ : Type} (L : Int → γ) (l : List α) (z : α) (R : Nat → List α → γ → Prop) (nil : R l.length [] (L l.length))
    (cons : ∀ (i : Nat) (x : α) (t : List α), i < l.length → l.getD i z = x → l.drop i = x :: t → l.drop (i + 1) = t → R (i + 1) t (L ((i : Int) + 1)) → R i (x :: t) (L i)) : R 0 l (L 0) := by
  have key : ∀ (t : List α) (i : Nat), l.drop i = t → i ≤ l.length → R i t (L i) := by
    intro t
    induction t with
    | nil =>
      intro i h hi
      have : l.length ≤ i := by simpa [List.drop_eq_nil_iff] using h
      obtain rfl : i = l.length := by omega
      exact nil
    | cons x t ih =>
      intro i h hi
      have hlt : i < l.length := by
        rcases Nat.lt_or_ge i l.length with h' | h'
        · exact h'
        · rw [List.drop_eq_nil_of_le h'] at h; cases h
      have h2 := List.drop_eq_getElem_cons hlt
      rw [h] at h2
      injection h2 with h3 h4
      refine cons i x t hlt ?_ h h4.symm ?_
      · rw [List.getD_eq_getElem?_getD, List.getElem?_eq_getElem hlt]; exact h3.symm
      · have := ih (i + 1) h4.symm (by omega)
        rwa [show ((i + 1 : Nat) : Int) = (i : Int) + 1 from by omega] at this
  have := key l 0 rfl (Nat.zero_le _)
  rwa [show ((0 : Nat) : Int) = 0 from rfl] at this
theorem bt_data (s : ByteArray) (i : Nat) (h : i < s.size) : bt s (i : Int) = ((s.data.toList.getD i 0).toNat : Int) := by
  obtain ⟨d⟩ := s
  have h' : i < d.size := h
  have : bt ⟨d⟩ (i : Int) = ((d[i]).toNat : Int) := by
    unfold bt
    rw [dif_pos (show ((i : Int)).toNat < (⟨d⟩ : ByteArray).size from by simpa using h)]
    rfl
  rw [this]
  simp [h']
theorem size_data (s : ByteArray) : s.size = s.data.toList.length := by
  obtain ⟨d⟩ := s; simp [ByteArray.size]
theorem toList_data (s : ByteArray) : s.toList = s.data.toList := by
  rw [ByteArray.toList_eq]
theorem ext_data {s t : ByteArray} (h : s.toList = t.toList) : s = t := by
  rw [toList_data, toList_data] at h
  obtain ⟨⟨a⟩⟩ := s
  obtain ⟨⟨b⟩⟩ := t
  simp at h
  rw [h]
theorem toList_iff {s t : ByteArray} : s.toList = t.toList ↔ s = t := ⟨ext_data, fun h => by rw [h]⟩
theorem mem_drop {α : Type} {l t : List α} {x : α} {i : Nat} (h : l.drop i = x :: t) : x ∈ l := List.mem_of_mem_drop (i := i) (by rw [h]; simp)

/-! ### Words of letters; angles -/
theorem within_some (a b c : Int) : impl_within.f a b c = some (decide (b ≤ a ∧ a ≤ c)) := by
  unfold impl_within.f
  by_cases h : b ≤ a
  · rw [if_pos h]; simp [h]
  · rw [if_neg h]; simp [h]
theorem l1In_some (a b c : Int) : spec_l1In.f a b c = some (decide (b ≤ a ∧ a ≤ c)) := by
  unfold spec_l1In.f
  by_cases h : b ≤ a
  · rw [if_pos h]; simp [h]
  · rw [if_neg h]; simp [h]
/-- All letters between two. -/
def inRange (lo hi : Nat) (l : List UInt8) : Bool := l.all fun c => decide (lo ≤ c.toNat ∧ c.toNat ≤ hi)
/-- One to eight letters between two. -/
def isWord (lo hi : Nat) (s : ByteArray) : Bool := decide (1 ≤ s.size ∧ s.size ≤ 8) && inRange lo hi s.data.toList
theorem dec_size (s : ByteArray) : decide ((1 : Int) ≤ s.size ∧ (s.size : Int) ≤ 8) = decide (1 ≤ s.size ∧ s.size ≤ 8) := by
  by_cases h : 1 ≤ s.size ∧ s.size ≤ 8
  · rw [decide_eq_true h, decide_eq_true (by omega)]
  · rw [decide_eq_false h, decide_eq_false (by omega)]

/-- What 'letters' says of a list of letters: they are those from lo to hi. -/
def Letters (lo hi : Nat) (m : ByteArray) : Prop := ∀ n, n < 256 → (decide (Lib.indexByte m.data.toList n.toUInt8 < 0)) = !decide (lo ≤ n ∧ n ≤ hi)
instance (lo hi : Nat) (m : ByteArray) : Decidable (Letters lo hi m) := by unfold Letters; infer_instance
theorem hasOnly_some (lo hi : Nat) (s m : ByteArray) (hs : s.size ≤ 9223372036854775807) (hm : Letters lo hi m) : impl_hasOnly.F s m = some (inRange lo hi s.data.toList) := by
  rw [impl_hasOnly.F_eq]
  refine each (L := fun i => impl_hasOnly.L0 s m s.size i) s.data.toList 0 (fun _ t o => o = some (inRange lo hi t)) ?_ ?_
  · show impl_hasOnly.L0 s m _ _ = _
    rw [impl_hasOnly.L0_eq, if_neg (by rw [← size_data]; omega)]; rfl
  · intro i x t hi' hx _ _ ih
    have hi2 : i < s.size := by rw [size_data]; exact hi'
    have hb := hm x.toNat x.toNat_lt
    show impl_hasOnly.L0 s m _ _ = _
    rw [impl_hasOnly.L0_eq, if_pos (by omega), if_pos (by omega), if_pos (by omega), bt_data s i hi2, hx, wrap_in (by omega) (by omega)]
    simp only [strings_IndexByte.f, stringslite_IndexByte.f, Option.bind_some, Int.toNat_natCast]
    by_cases h1 : lo ≤ x.toNat ∧ x.toNat ≤ hi
    · rw [if_neg (by simp [h1] at hb; simpa using hb), ih]
      simp [inRange, h1]
    · rw [if_pos (by simpa [h1] using hb)]
      simp [inRange, h1]
theorem isWordOf_some (lo hi : Nat) (s m : ByteArray) (hs : s.size ≤ 9223372036854775807) (hm : Letters lo hi m) : impl_isWordOf.F s m = some (isWord lo hi s) := by
  rw [impl_isWordOf.F_eq, within_some, hasOnly_some lo hi s m hs hm]
  simp only [Option.bind_some, isWord]
  by_cases h : 1 ≤ s.size ∧ s.size ≤ 8
  · have : (1 : Int) ≤ s.size ∧ (s.size : Int) ≤ 8 := by omega
    simp [h, this]
  · have : ¬ ((1 : Int) ≤ s.size ∧ (s.size : Int) ≤ 8) := by omega
    simp [h, this]


theorem isAngle_some (a : Int) : impl_isAngle.f a = some (decide (-90 ≤ a ∧ a ≤ 90)) := by
  unfold impl_isAngle.f; rw [within_some]; rfl
theorem loAngle_some (a : Int) : spec_loAngle.f a = some (decide (-90 ≤ a ∧ a ≤ 90)) := by
  unfold spec_loAngle.f; rw [l1In_some]; rfl

/-! ### Loci -/
abbrev Loc := S55
abbrev LocL := S62
theorem rd_loc (l : List Loc) (i : Nat) : rd_T55 l (i : Int) = l.getD i z55 := by simp [rd_T55]
theorem rd_locL (l : List LocL) (i : Nat) : rd_T62 l (i : Int) = l.getD i z62 := by simp [rd_T62]
theorem naName_some (s : ByteArray) (hs : s.size ≤ 9223372036854775807) : spec_naName.F s = some (isWord 97 122 s) := by
  rw [spec_naName.F_eq]
  have := each (L := fun i => spec_naName.L0 s i) s.data.toList 0 (fun _ t o => o = some (inRange 97 122 t && decide (1 ≤ s.size ∧ s.size ≤ 8))) ?_ ?_
  · rw [this, isWord, Bool.and_comm]
  · show spec_naName.L0 s _ = _
    rw [spec_naName.L0_eq, if_neg (by rw [← size_data]; omega), l1In_some]
    simp only [Option.bind_some, inRange, List.all_nil, Bool.true_and, dec_size]
  · intro i x t hi hx _ _ ih
    have hi' : i < s.size := by rw [size_data]; exact hi
    show spec_naName.L0 s _ = _
    rw [spec_naName.L0_eq, if_pos (by omega), if_pos (by omega), bt_data s i hi', hx, wrap_in (by omega) (by omega)]
    by_cases h1 : x.toNat < 97
    · rw [if_pos (by omega)]; simp [inRange]; omega
    · rw [if_neg (by omega)]
      by_cases h2 : 122 < x.toNat
      · rw [if_pos (by omega)]; simp [inRange]; omega
      · rw [if_neg (by omega), ih]
        have h3 : 97 ≤ x.toNat := by omega
        have h4 : x.toNat ≤ 122 := by omega
        simp [inRange, h3, h4]
/-- The first place of a referent from place i on, or -1. -/
def idxFrom (a : ByteArray) : List Loc → Nat → Int
  | [], _ => -1
  | x :: t, i => if x.f0.toList = a.toList then i else idxFrom a t (i + 1)
theorem idxFrom_cases (a : ByteArray) : ∀ (t : List Loc) (i : Nat), (idxFrom a t i = -1 ∧ ∀ x ∈ t, x.f0 ≠ a) ∨ ∃ j, j < t.length ∧ idxFrom a t i = (i + j : Nat) ∧ (t.getD j z55).f0 = a
  | [], _ => .inl ⟨rfl, by simp⟩
  | x :: t, i => by
    unfold idxFrom
    by_cases h : x.f0.toList = a.toList
    · rw [if_pos h]
      exact .inr ⟨0, by simp, by simp, by simpa using ext_data h⟩
    · rw [if_neg h]
      rcases idxFrom_cases a t (i + 1) with ⟨h1, h2⟩ | ⟨j, h1, h2, h3⟩
      · refine .inl ⟨h1, fun y hy => ?_⟩
        rcases List.mem_cons.1 hy with rfl | hy
        · exact fun e => h (by rw [e])
        · exact h2 y hy
      · exact .inr ⟨j + 1, by simpa using h1, by rw [h2]; omega, by simpa using h3⟩
theorem loFind_some (l : List Loc) (a : ByteArray) (hl : l.length ≤ 9223372036854775807) : spec_loFind.F l a = some (idxFrom a l 0) := by
  rw [spec_loFind.F_eq]
  refine each (L := fun i => spec_loFind.L0 a l l.length i) l z55 (fun i t o => o = some (idxFrom a t i)) ?_ ?_
  · show spec_loFind.L0 a l _ _ = _
    rw [spec_loFind.L0_eq, if_neg (by omega)]; rfl
  · intro i x t hi hx _ _ ih
    show spec_loFind.L0 a l _ _ = _
    rw [spec_loFind.L0_eq, if_pos (by omega), if_pos (by omega), if_pos (by omega), rd_loc, hx, wrap_in (by omega) (by omega)]
    unfold idxFrom
    split
    · rfl
    · exact ih
theorem locusOf_some (l : List Loc) (a : ByteArray) (hl : l.length ≤ 9223372036854775807) : impl_locusOf.F l a = some (idxFrom a l 0) := by
  rw [impl_locusOf.F_eq, slices_IndexFunc_Locus_impl_locusOf_1.F_eq]
  rw [show slices_IndexFunc_Locus_impl_locusOf_1.L0 l (l.length : Int) 0 a = some (idxFrom a l 0) from ?_]; rfl
  refine each (L := fun i => slices_IndexFunc_Locus_impl_locusOf_1.L0 l l.length i a) l z55 (fun i t o => o = some (idxFrom a t i)) ?_ ?_
  · show slices_IndexFunc_Locus_impl_locusOf_1.L0 l _ _ a = _
    rw [slices_IndexFunc_Locus_impl_locusOf_1.L0_eq, if_neg (by omega)]; rfl
  · intro i x t hi hx _ _ ih
    show slices_IndexFunc_Locus_impl_locusOf_1.L0 l _ _ a = _
    rw [slices_IndexFunc_Locus_impl_locusOf_1.L0_eq, if_pos (by omega), if_pos (by omega), if_pos (by omega), rd_loc, hx, wrap_in (by omega) (by omega)]
    unfold idxFrom impl_locusOf_1.f
    simp only [Option.bind_some, beq_iff_eq]
    split
    · rfl
    · exact ih
/-- Is element i as it should be, for those ahead of it? -/
def okAt (l : List Loc) (i : Nat) (x : Loc) : Bool :=
  isWord 97 122 x.f0 && (decide (-90 ≤ x.f1 ∧ x.f1 ≤ 90) && (decide (i = 0 ∨ (l.getD (i - 1) z55).f1 < x.f1) && decide (idxFrom x.f0 (l.take i) 0 < 0)))
def goodFrom (l : List Loc) : Nat → List Loc → Bool
  | _, [] => decide (l.length ≤ 8)
  | i, x :: t => okAt l i x && goodFrom l (i + 1) t
def good (l : List Loc) : Bool := goodFrom l 0 l
/-- The letters' lengths are lengths. -/
def Sized (l : List Loc) : Prop := l.length ≤ 9223372036854775807 ∧ ∀ x ∈ l, x.f0.size ≤ 9223372036854775807
theorem Sized.take {l : List Loc} (h : Sized l) (i : Nat) : (l.take i).length ≤ 9223372036854775807 := Nat.le_trans (List.length_take_le' ..) h.1
theorem loGood_some (l : List Loc) (hl : Sized l) : spec_loGood.F l = some (good l) := by
  rw [spec_loGood.F_eq]
  have hl1 := hl.1
  refine each (L := fun i => spec_loGood.L0 l l l.length i) l z55 (fun i t o => o = some (goodFrom l i t)) ?_ ?_
  · show spec_loGood.L0 l l _ _ = _
    rw [spec_loGood.L0_eq, if_neg (by omega)]
    simp only [goodFrom, Option.some.injEq, decide_eq_decide]; omega
  · intro i x t hi hx hd _ ih
    have hs : x.f0.size ≤ 9223372036854775807 := hl.2 x (mem_drop hd)
    show spec_loGood.L0 l l _ _ = _
    rw [spec_loGood.L0_eq, if_pos (by omega), if_pos (by omega), if_pos (by omega), rd_loc, hx]
    try simp only [spec_loGood.J1_eq, decide_eq_true_eq, eq_self, if_true]
    rw [wrap_in (x := (i : Int) + 1) (by omega) (by omega), naName_some _ hs, loAngle_some, Int.toNat_natCast, loFind_some _ _ (hl.take i)]
    simp only [Option.bind_some, goodFrom, okAt]
    cases isWord 97 122 x.f0
    · simp
    by_cases ha : -90 ≤ x.f1 ∧ x.f1 ≤ 90
    case neg => simp [ha]
    rw [decide_eq_true ha]
    simp only [if_true, Bool.true_and]
    by_cases h0 : i = 0
    · subst h0
      simp only [List.take_zero, Int.natCast_zero, gt_iff_lt, Int.lt_irrefl, if_false, true_or, decide_true, Bool.true_and]
      rw [if_pos (by omega)]
      simp [idxFrom]
      simpa using ih
    · have h1 : (i : Int) - 1 = ((i - 1 : Nat) : Int) := by omega
      rw [if_pos (by omega), wrap_in (by omega) (by omega), h1, if_pos (by omega), if_pos (by omega), rd_loc, if_pos (show (i : Int) ≤ (l.length : Int) by omega)]
      by_cases h2 : (l.getD (i - 1) z55).f1 < x.f1
      · rw [if_neg (by omega)]
        simp only [h2, or_true, decide_true, Bool.true_and]
        by_cases h3 : idxFrom x.f0 (l.take i) 0 < 0
        · rw [if_neg (by omega), ih]; simp [h3]
        · rw [if_pos (by omega)]; simp [h3]
      · rw [if_pos (by omega), decide_eq_false (p := i = 0 ∨ _) (by simp only [h0, h2, or_self, not_false_eq_true])]; simp
theorem areLoci_some (l : List Loc) (hl : Sized l) : impl_AreLoci.F l = some (good l) := by
  rw [impl_AreLoci.F_eq]
  have hl1 := hl.1
  refine each (L := fun i => impl_AreLoci.L0 l l l.length i) l z55 (fun i t o => o = some (goodFrom l i t)) ?_ ?_
  · show impl_AreLoci.L0 l l _ _ = _
    rw [impl_AreLoci.L0_eq, if_neg (by omega)]
    simp only [goodFrom, Option.some.injEq, decide_eq_decide]; omega
  · intro i x t hi hx hd _ ih
    have hs : x.f0.size ≤ 9223372036854775807 := hl.2 x (mem_drop hd)
    show impl_AreLoci.L0 l l _ _ = _
    rw [impl_AreLoci.L0_eq, if_pos (by omega), if_pos (by omega), if_pos (by omega), rd_loc, hx]
    try simp only [impl_AreLoci.J1_eq, decide_eq_true_eq, eq_self, if_true]
    rw [wrap_in (x := (i : Int) + 1) (by omega) (by omega), isWordOf_some 97 122 _ _ hs (by decide +kernel), isAngle_some, Int.toNat_natCast, locusOf_some _ _ (hl.take i)]
    simp only [Option.bind_some, goodFrom, okAt]
    cases isWord 97 122 x.f0
    · simp
    by_cases ha : -90 ≤ x.f1 ∧ x.f1 ≤ 90
    case neg => simp [ha]
    rw [decide_eq_true ha]
    simp only [if_true, Bool.true_and]
    by_cases h0 : i = 0
    · subst h0
      simp only [List.take_zero, Int.natCast_zero, gt_iff_lt, Int.lt_irrefl, if_false, true_or, decide_true, Bool.true_and]
      rw [if_pos (by omega)]
      simp [idxFrom]
      simpa using ih
    · have h1 : (i : Int) - 1 = ((i - 1 : Nat) : Int) := by omega
      rw [if_pos (by omega), wrap_in (by omega) (by omega), h1, if_pos (by omega), if_pos (by omega), rd_loc, if_pos (show (i : Int) ≤ (l.length : Int) by omega)]
      by_cases h2 : (l.getD (i - 1) z55).f1 < x.f1
      · rw [if_neg (by omega)]
        simp only [h2, or_true, decide_true, Bool.true_and]
        by_cases h3 : idxFrom x.f0 (l.take i) 0 < 0
        · rw [if_neg (by omega), ih]; simp [h3]
        · rw [if_pos (by omega)]; simp [h3]
      · rw [if_pos (by omega), decide_eq_false (p := i = 0 ∨ _) (by simp only [h0, h2, or_self, not_false_eq_true])]; simp
theorem good_from (l : List Loc) : ∀ (t : List Loc) (i : Nat), goodFrom l i t = true → l.length ≤ 8 ∧ ∀ x ∈ t, (-90 ≤ x.f1 ∧ x.f1 ≤ 90) ∧ 1 ≤ x.f0.size
  | [], _, h => ⟨by simpa [goodFrom] using h, by simp⟩
  | x :: t, i, h => by
    simp only [goodFrom, okAt, isWord, Bool.and_eq_true, decide_eq_true_eq] at h
    obtain ⟨h1, h2⟩ := h
    obtain ⟨h3, h4⟩ := good_from l t (i + 1) h2
    refine ⟨h3, fun y hy => ?_⟩
    rcases List.mem_cons.1 hy with rfl | hy
    · exact ⟨h1.2.1, h1.1.1.1⟩
    · exact h4 y hy
theorem good_facts {l : List Loc} (h : good l = true) : l.length ≤ 8 ∧ ∀ x ∈ l, (-90 ≤ x.f1 ∧ x.f1 ≤ 90) ∧ 1 ≤ x.f0.size := good_from l l 0 h
/-! ### What the statements do with loci -/
def conv (x : LocL) : Loc := ⟨x.f0, x.f1⟩
theorem szLocus_tells (l : List LocL) (a : Int) (hl : l.length ≤ 9223372036854775807) (hw : ∀ x ∈ l, Wf62 x) (ha : 0 ≤ a ∧ a ≤ 1048576) : ∃ t, laws_szLocusS.F l a = some t ∧ (t < 0 ∨ (0 ≤ t ∧ t ≤ a ∧ l.length ≤ a)) := by
  rw [laws_szLocusS.F_eq, wrap_in (by omega) (by omega)]
  by_cases h0 : a - (l.length : Int) < 0
  · rw [if_pos h0]; exact ⟨-1, rfl, .inl (by omega)⟩
  · rw [if_neg h0]
    have := each (L := fun i => fun b => laws_szLocusS.L0 l b i) l z62 (fun _ t f => (∀ x ∈ t, x ∈ l) → ∀ b : Int, 0 ≤ b → b ≤ 1048576 → ∃ t, f b = some t ∧ (t < 0 ∨ (0 ≤ t ∧ t ≤ b))) ?_ ?_ (fun _ h => h) (a - l.length) (by omega) (by omega)
    · obtain ⟨t, h1, h2⟩ := this
      exact ⟨t, h1, by omega⟩
    · intro _ b h1 h2
      refine ⟨b, ?_, by omega⟩
      show laws_szLocusS.L0 l b _ = _
      rw [laws_szLocusS.L0_eq, if_neg (by omega)]
    · intro i x t hi hx hd _ ih hm b h1 h2
      have hz : x.f0.size ≤ 9223372036854775807 := (hw x (hm x (by simp))).1
      show ∃ t, laws_szLocusS.L0 l b _ = some t ∧ _
      rw [laws_szLocusS.L0_eq, if_pos (by omega), if_pos (by omega), rd_locL, hx, wrap_in (x := (i : Int) + 1) (by omega) (by omega)]
      unfold laws_szLocus.f
      rw [wrap_in (by omega) (by omega)]
      by_cases h3 : b - (x.f0.size : Int) < 0
      · rw [if_pos h3]; exact ⟨-1, rfl, .inl (by omega)⟩
      · rw [if_neg h3, Option.bind_some, if_neg h3]
        obtain ⟨t, h4, h5⟩ := ih (fun y hy => hm y (by simp [hy])) (b - x.f0.size) (by omega) (by omega)
        exact ⟨t, h4, by omega⟩
theorem take_set {α : Type} (l : List α) (i : Nat) (v : α) (h : i < l.length) : (l.set i v).take (i + 1) = l.take i ++ [v] := by
  rw [List.take_succ_eq_append_getElem (by simpa using h), List.take_set_of_le (Nat.le_refl i)]
  simp
theorem toLocus_some (l : List LocL) (hl : l.length ≤ 1048576) : laws_toLocusS.F l = some (l.map conv) := by
  rw [laws_toLocusS.F_eq, if_pos (by omega), if_pos (by omega)]
  have := each (L := fun i => fun y => laws_toLocusS.L0 l y i) l z62 (fun i t f => ∀ y : List Loc, y.length = l.length → f y = some (y.take i ++ t.map conv)) ?_ ?_ (List.replicate ((l.length : Int)).toNat z55) (by simp)
  · show laws_toLocusS.L0 l _ _ = _
    exact this.trans (by simp)
  · intro y hy
    show laws_toLocusS.L0 l y _ = _
    rw [laws_toLocusS.L0_eq, if_neg (by omega)]
    simp [← hy]
  · intro i x t hi hx _ _ ih y hy
    show laws_toLocusS.L0 l y _ = _
    rw [laws_toLocusS.L0_eq, if_pos (by omega), if_pos (by omega), rd_locL, hx, wrap_in (x := (i : Int) + 1) (by omega) (by omega)]
    unfold laws_toLocus.f
    rw [Option.bind_some, if_pos (by omega)]
    refine (ih _ (by simpa using hy)).trans ?_
    rw [Int.toNat_natCast, take_set _ _ _ (by omega)]
    simp [conv]
theorem eqLocus_refl (l : List Loc) (hl : l.length ≤ 9223372036854775807) : laws_eqLocusS.F l l = some true := by
  rw [laws_eqLocusS.F_eq, if_pos rfl]
  refine each (L := fun i => laws_eqLocusS.L0 l l i) l z55 (fun _ _ o => o = some true) ?_ ?_
  · show laws_eqLocusS.L0 l l _ = _
    rw [laws_eqLocusS.L0_eq, if_neg (by omega)]
  · intro i x t hi hx _ _ ih
    show laws_eqLocusS.L0 l l _ = _
    rw [laws_eqLocusS.L0_eq, if_pos (by omega), if_pos (by omega), if_pos (by omega), rd_loc, hx, wrap_in (x := (i : Int) + 1) (by omega) (by omega)]
    unfold laws_eqLocus.f
    rw [if_pos rfl, if_pos rfl, Option.bind_some, if_pos rfl]
    exact ih
theorem sized_conv {l : List LocL} (hl : l.length ≤ 9223372036854775807) (hw : ∀ x ∈ l, Wf62 x) : Sized (l.map conv) :=
  ⟨by simpa using hl, fun x hx => by
    obtain ⟨y, hy, rfl⟩ := List.mem_map.1 hx
    exact (hw y hy).1⟩


theorem fsWord_some (s : ByteArray) (hs : s.size ≤ 9223372036854775807) : spec_fsWord.F s = some (isWord 65 90 s) := by
  rw [spec_fsWord.F_eq]
  have := each (L := fun i => spec_fsWord.L0 s i) s.data.toList 0 (fun _ t o => o = some (inRange 65 90 t && decide (1 ≤ s.size ∧ s.size ≤ 8))) ?_ ?_
  · rw [this, isWord, Bool.and_comm]
  · show spec_fsWord.L0 s _ = _
    rw [spec_fsWord.L0_eq, if_neg (by rw [← size_data]; omega), l1In_some]
    simp only [Option.bind_some, inRange, List.all_nil, Bool.true_and, dec_size]
  · intro i x t hi hx _ _ ih
    have hi' : i < s.size := by rw [size_data]; exact hi
    show spec_fsWord.L0 s _ = _
    rw [spec_fsWord.L0_eq, if_pos (by omega), if_pos (by omega), bt_data s i hi', hx, wrap_in (by omega) (by omega)]
    by_cases h1 : x.toNat < 65
    · rw [if_pos (by omega)]; simp [inRange]; omega
    · rw [if_neg (by omega)]
      by_cases h2 : 90 < x.toNat
      · rw [if_pos (by omega)]; simp [inRange]; omega
      · rw [if_neg (by omega), ih]
        have h3 : 65 ≤ x.toNat := by omega
        have h4 : x.toNat ≤ 90 := by omega
        simp [inRange, h3, h4]


theorem isGloss_some (s : ByteArray) (hs : s.size ≤ 9223372036854775807) : impl_IsGloss.F s = some (isWord 65 90 s) := by
  rw [impl_IsGloss.F_eq, isWordOf_some 65 90 s _ hs (by decide +kernel)]; rfl


/-- Is it a verb? -/
def isVerb (g : ByteArray) (a b : Int) : Bool := isWord 65 90 g && (decide (-90 ≤ a ∧ a ≤ 90) && (decide (-90 ≤ b ∧ b ≤ 90) && (a != b)))
theorem isVerb_some (g : ByteArray) (a b : Int) (hg : g.size ≤ 9223372036854775807) : impl_IsVerb.F g a b = some (isVerb g a b) := by
  rw [impl_IsVerb.F_eq, isGloss_some g hg, isAngle_some, isAngle_some]
  unfold isVerb
  cases isWord 65 90 g <;> cases decide (-90 ≤ a ∧ a ≤ 90) <;> cases decide (-90 ≤ b ∧ b ≤ 90) <;> simp
theorem veOne_some (g : ByteArray) (a b : Int) (hg : g.size ≤ 9223372036854775807) : spec_veOne.F g a b = some (isVerb g a b) := by
  rw [spec_veOne.F_eq, fsWord_some g hg, loAngle_some, loAngle_some]
  unfold isVerb
  cases isWord 65 90 g <;> cases decide (-90 ≤ a ∧ a ≤ 90) <;> cases decide (-90 ≤ b ∧ b ≤ 90) <;> simp

/-! ### Slices of verbs -/
abbrev Ver := S78
abbrev VerL := S76
theorem rd_ver (l : List Ver) (i : Nat) : rd_T78 l (i : Int) = l.getD i z78 := by simp [rd_T78]
theorem rd_verL (l : List VerL) (i : Nat) : rd_T76 l (i : Int) = l.getD i z76 := by simp [rd_T76]
def convV (x : VerL) : Ver := ⟨x.f0, x.f1, x.f2⟩
def SizedV (l : List Ver) : Prop := l.length ≤ 9223372036854775807 ∧ ∀ x ∈ l, x.f0.size ≤ 9223372036854775807
theorem sized_convV {l : List VerL} (hl : l.length ≤ 9223372036854775807) (hw : ∀ x ∈ l, Wf76 x) : SizedV (l.map convV) :=
  ⟨by simpa using hl, fun x hx => by
    obtain ⟨y, hy, rfl⟩ := List.mem_map.1 hx
    exact (hw y hy).1⟩
theorem szVerb_tells (l : List VerL) (a : Int) (hl : l.length ≤ 9223372036854775807) (hw : ∀ x ∈ l, Wf76 x) (ha : 0 ≤ a ∧ a ≤ 1048576) : ∃ t, laws_szVerbS.F l a = some t ∧ (t < 0 ∨ (0 ≤ t ∧ t ≤ a ∧ l.length ≤ a)) := by
  rw [laws_szVerbS.F_eq, wrap_in (by omega) (by omega)]
  by_cases h0 : a - (l.length : Int) < 0
  · rw [if_pos h0]; exact ⟨-1, rfl, .inl (by omega)⟩
  · rw [if_neg h0]
    have := each (L := fun i => fun b => laws_szVerbS.L0 l b i) l z76 (fun _ t f => (∀ x ∈ t, x ∈ l) → ∀ b : Int, 0 ≤ b → b ≤ 1048576 → ∃ t, f b = some t ∧ (t < 0 ∨ (0 ≤ t ∧ t ≤ b))) ?_ ?_ (fun _ h => h) (a - l.length) (by omega) (by omega)
    · obtain ⟨t, h1, h2⟩ := this
      exact ⟨t, h1, by omega⟩
    · intro _ b h1 h2
      refine ⟨b, ?_, by omega⟩
      show laws_szVerbS.L0 l b _ = _
      rw [laws_szVerbS.L0_eq, if_neg (by omega)]
    · intro i x t hi hx hd _ ih hm b h1 h2
      have hz : x.f0.size ≤ 9223372036854775807 := (hw x (hm x (by simp))).1
      show ∃ t, laws_szVerbS.L0 l b _ = some t ∧ _
      rw [laws_szVerbS.L0_eq, if_pos (by omega), if_pos (by omega), rd_verL, hx, wrap_in (x := (i : Int) + 1) (by omega) (by omega)]
      unfold laws_szVerb.f
      rw [wrap_in (by omega) (by omega)]
      by_cases h3 : b - (x.f0.size : Int) < 0
      · rw [if_pos h3]; exact ⟨-1, rfl, .inl (by omega)⟩
      · rw [if_neg h3, Option.bind_some, if_neg h3]
        obtain ⟨t, h4, h5⟩ := ih (fun y hy => hm y (by simp [hy])) (b - x.f0.size) (by omega) (by omega)
        exact ⟨t, h4, by omega⟩
theorem toVerb_some (l : List VerL) (hl : l.length ≤ 1048576) : laws_toVerbS.F l = some (l.map convV) := by
  rw [laws_toVerbS.F_eq, if_pos (by omega), if_pos (by omega)]
  have := each (L := fun i => fun y => laws_toVerbS.L0 l y i) l z76 (fun i t f => ∀ y : List Ver, y.length = l.length → f y = some (y.take i ++ t.map convV)) ?_ ?_ (List.replicate ((l.length : Int)).toNat z78) (by simp)
  · show laws_toVerbS.L0 l _ _ = _
    exact this.trans (by simp)
  · intro y hy
    show laws_toVerbS.L0 l y _ = _
    rw [laws_toVerbS.L0_eq, if_neg (by omega)]
    simp [← hy]
  · intro i x t hi hx _ _ ih y hy
    show laws_toVerbS.L0 l y _ = _
    rw [laws_toVerbS.L0_eq, if_pos (by omega), if_pos (by omega), rd_verL, hx, wrap_in (x := (i : Int) + 1) (by omega) (by omega)]
    unfold laws_toVerb.f
    rw [Option.bind_some, if_pos (by omega)]
    refine (ih _ (by simpa using hy)).trans ?_
    rw [Int.toNat_natCast, take_set _ _ _ (by omega)]
    simp [convV]
theorem eqVerb_refl (g : ByteArray) (a b : Int) : laws_eqVerb.f g a b g a b = some true := by
  unfold laws_eqVerb.f; rw [if_pos rfl, if_pos rfl, if_pos rfl]
theorem eqVerbS_refl (l : List Ver) (hl : l.length ≤ 9223372036854775807) : laws_eqVerbS.F l l = some true := by
  rw [laws_eqVerbS.F_eq, if_pos rfl]
  refine each (L := fun i => laws_eqVerbS.L0 l l i) l z78 (fun _ _ o => o = some true) ?_ ?_
  · show laws_eqVerbS.L0 l l _ = _
    rw [laws_eqVerbS.L0_eq, if_neg (by omega)]
  · intro i x t hi hx _ _ ih
    show laws_eqVerbS.L0 l l _ = _
    rw [laws_eqVerbS.L0_eq, if_pos (by omega), if_pos (by omega), if_pos (by omega), rd_ver, hx, wrap_in (x := (i : Int) + 1) (by omega) (by omega), eqVerb_refl, Option.bind_some, if_pos rfl]
    exact ih
def isV (x : Ver) : Bool := isVerb x.f0 x.f1 x.f2
/-- Are they verbs, and few enough? -/
def goodV (l : List Ver) : Bool := l.all isV && decide (l.length ≤ 20)
theorem veGood_some (l : List Loc) (v : List Ver) (hl : Sized l) (hv : SizedV v) : spec_veGood.F l v = some (good l && goodV v) := by
  have hv1 := hv.1
  rw [spec_veGood.F_eq]
  rw [show (good l && goodV v) = (v.all isV && (good l && decide (v.length ≤ 20))) from by unfold goodV; cases good l <;> cases v.all isV <;> rfl]
  refine each (L := fun i => spec_veGood.L0 l v v v.length i) v z78 (fun _ t o => o = some (t.all isV && (good l && decide (v.length ≤ 20)))) ?_ ?_
  · show spec_veGood.L0 l v v _ _ = _
    rw [spec_veGood.L0_eq, if_neg (by omega), loGood_some l hl, Option.bind_some]
    have : decide ((v.length : Int) ≤ 20) = decide (v.length ≤ 20) := by simp only [decide_eq_decide]; omega
    cases good l <;> simp [this]
  · intro i x t hi hx hd _ ih
    have hs := hv.2 x (mem_drop hd)
    show spec_veGood.L0 l v v _ _ = _
    rw [spec_veGood.L0_eq, if_pos (by omega), if_pos (by omega), if_pos (by omega), rd_ver, hx, wrap_in (x := (i : Int) + 1) (by omega) (by omega), veOne_some _ _ _ hs, Option.bind_some, List.all_cons, show isVerb x.f0 x.f1 x.f2 = isV x from rfl]
    cases isV x
    · rfl
    · rw [if_pos rfl, Bool.true_and]; exact ih
theorem areVerbs_some (v : List Ver) (hv : SizedV v) : impl_areVerbs.F v = some (goodV v) := by
  have hv1 := hv.1
  rw [impl_areVerbs.F_eq]
  by_cases h : (v.length : Int) ≤ 20
  case neg => rw [if_neg h, goodV, decide_eq_false (by omega), Bool.and_false]
  rw [if_pos h, goodV, decide_eq_true (by omega), Bool.and_true, impl_allOf_Verb_impl_IsVerb.F_eq, slices_ContainsFunc_Verb_impl_allOf_Verb_1_impl_IsVerb.F_eq, slices_IndexFunc_Verb_impl_allOf_Verb_1_impl_IsVerb.F_eq]
  have := each (L := fun i => slices_IndexFunc_Verb_impl_allOf_Verb_1_impl_IsVerb.L0 v v.length i) v z78 (fun _ t o => ∃ r, o = some r ∧ decide (r ≥ 0) = !(t.all isV)) ?_ ?_
  · obtain ⟨r, h1, h2⟩ := this
    rw [h1]; simp [h2]
  · refine ⟨-1, ?_, by simp⟩
    show slices_IndexFunc_Verb_impl_allOf_Verb_1_impl_IsVerb.L0 v _ _ = _
    rw [slices_IndexFunc_Verb_impl_allOf_Verb_1_impl_IsVerb.L0_eq, if_neg (by omega)]
  · intro i x t hi hx hd _ ih
    have hs := hv.2 x (mem_drop hd)
    show ∃ r, slices_IndexFunc_Verb_impl_allOf_Verb_1_impl_IsVerb.L0 v _ _ = _ ∧ _
    rw [slices_IndexFunc_Verb_impl_allOf_Verb_1_impl_IsVerb.L0_eq, if_pos (by omega), if_pos (by omega), if_pos (by omega), rd_ver, hx, wrap_in (x := (i : Int) + 1) (by omega) (by omega), impl_allOf_Verb_1_impl_IsVerb.F_eq, isVerb_some _ _ _ hs]
    simp only [Option.bind_some, List.all_cons, show isVerb x.f0 x.f1 x.f2 = isV x from rfl]
    cases isV x
    · rw [if_pos (by simp)]; exact ⟨i, rfl, by simp⟩
    · rw [if_neg (by simp), Bool.true_and]; exact ih
theorem goodV_facts {v : List Ver} (h : goodV v = true) : v.length ≤ 20 ∧ ∀ x ∈ v, (-90 ≤ x.f1 ∧ x.f1 ≤ 90) ∧ (-90 ≤ x.f2 ∧ x.f2 ≤ 90) ∧ x.f0.size ≤ 8 := by
  simp only [goodV, Bool.and_eq_true, List.all_eq_true, decide_eq_true_eq] at h
  refine ⟨h.2, fun x hx => ?_⟩
  have := h.1 x hx
  simp only [isV, isVerb, isWord, Bool.and_eq_true, decide_eq_true_eq] at this
  exact ⟨this.2.1, this.2.2.1, this.1.1.2⟩


/-! ### How far apart -/
def dst (a b : Int) : Int := if a < b then b - a else a - b
theorem distance_some (a b : Int) (ha : -1000000 ≤ a ∧ a ≤ 1000000) (hb : -1000000 ≤ b ∧ b ≤ 1000000) : impl_distance.f a b = some (dst a b) := by
  unfold impl_distance.f
  rw [wrap_in (by omega) (by omega), wrap_in (by omega) (by omega)]
  unfold mx dst
  congr 1
  split <;> split <;> omega
theorem abs_some (a b : Int) (ha : -1000000 ≤ a ∧ a ≤ 1000000) (hb : -1000000 ≤ b ∧ b ≤ 1000000) : spec_l1Abs.f (wrap64 (a - b)) = some (dst a b) := by
  unfold spec_l1Abs.f spec_l1Most.f
  rw [wrap_in (x := a - b) (by omega) (by omega), wrap_in (by omega) (by omega)]
  unfold dst
  split <;> split <;> simp <;> omega

/-! ### The nearest loci -/
def nearStep (a : Int) (s : Int × List ByteArray) (x : Loc) : Int × List ByteArray :=
  if dst x.f1 a < s.1 then (dst x.f1 a, [x.f0]) else if dst x.f1 a = s.1 then (s.1, s.2 ++ [x.f0]) else s
def near (l : List Loc) (a : Int) : Int × List ByteArray := l.foldl (nearStep a) (181, [])
theorem nearest_some (l : List Loc) (a : Int) (hl : l.length ≤ 8) (hx : ∀ x ∈ l, (-90 ≤ x.f1 ∧ x.f1 ≤ 90) ∧ 1 ≤ x.f0.size) (ha : -90 ≤ a ∧ a ≤ 90) : impl_nearestLoci.F l a = some (near l a) := by
  rw [impl_nearestLoci.F_eq]
  refine each (L := fun i => fun x6 x7 => impl_nearestLoci.L0 a x6 x7 l l.length i) l z55 (fun i t f => (∀ x ∈ t, x ∈ l) → ∀ s : Int × List ByteArray, s.2.length ≤ i → f s.1 s.2 = some (t.foldl (nearStep a) s)) ?_ ?_ (fun _ h => h) (181, []) (by simp)
  · intro _ s _
    show impl_nearestLoci.L0 a _ _ l _ _ = _
    rw [impl_nearestLoci.L0_eq, if_neg (by omega)]; rfl
  · intro i x t hi hxi _ _ ih hm s hs
    have h1 := (hx x (hm x (by simp))).1
    have ih' := ih (fun y hy => hm y (by simp [hy]))
    show impl_nearestLoci.L0 a _ _ l _ _ = _
    rw [impl_nearestLoci.L0_eq, if_pos (by omega), if_pos (by omega), if_pos (by omega), rd_loc, hxi, wrap_in (x := (i : Int) + 1) (by omega) (by omega), distance_some _ _ (by omega) (by omega), Option.bind_some, List.foldl_cons]
    by_cases h2 : dst x.f1 a < s.1
    · rw [if_pos h2, if_pos rfl, if_pos (by decide)]
      refine (ih' (dst x.f1 a, [x.f0]) (by simp)).trans ?_
      rw [nearStep, if_pos h2]
    · rw [if_neg h2]
      by_cases h3 : dst x.f1 a = s.1
      · rw [if_pos h3, if_pos (by omega)]
        refine (ih' (s.1, s.2 ++ [x.f0]) (by simp; omega)).trans ?_
        rw [nearStep, if_neg h2, if_pos h3]
      · rw [if_neg h3]
        refine (ih' s (by omega)).trans ?_
        rw [nearStep, if_neg h2, if_neg h3]
theorem near_inv (a : Int) : ∀ (t p : List Loc) (s : Int × List ByteArray), s.2 = (p.filter fun x => decide (dst x.f1 a = s.1)).map (·.f0) → (∀ x ∈ p, s.1 ≤ dst x.f1 a) →
    (t.foldl (nearStep a) s).2 = ((p ++ t).filter fun x => decide (dst x.f1 a = (t.foldl (nearStep a) s).1)).map (·.f0) ∧ ∀ x ∈ p ++ t, (t.foldl (nearStep a) s).1 ≤ dst x.f1 a
  | [], p, s, h1, h2 => by simpa using ⟨h1, h2⟩
  | x :: t, p, s, h1, h2 => by
    rw [List.foldl_cons, show p ++ x :: t = (p ++ [x]) ++ t from by simp]
    refine near_inv a t (p ++ [x]) (nearStep a s x) ?_ ?_
    · unfold nearStep
      by_cases h3 : dst x.f1 a < s.1
      · rw [if_pos h3]
        have : p.filter (fun y => decide (dst y.f1 a = dst x.f1 a)) = [] := by
          rw [List.filter_eq_nil_iff]
          intro y hy
          have := h2 y hy
          simp; omega
        simp [List.filter_append, this]
      · rw [if_neg h3]
        by_cases h4 : dst x.f1 a = s.1
        · rw [if_pos h4]; simp [List.filter_append, h4, h1]
        · rw [if_neg h4]; simp [List.filter_append, h4, h1]
    · intro y hy
      unfold nearStep
      rcases List.mem_append.1 hy with hy | hy
      · have := h2 y hy
        split
        · show dst x.f1 a ≤ _; omega
        · split <;> exact this
      · obtain rfl : y = x := by simpa using hy
        split
        · exact Int.le_refl _
        · split
          · show s.1 ≤ _; omega
          · omega
theorem near_spec (l : List Loc) (a : Int) : (near l a).2 = (l.filter fun x => decide (dst x.f1 a = (near l a).1)).map (·.f0) ∧ ∀ x ∈ l, (near l a).1 ≤ dst x.f1 a := by
  have := near_inv a l [] (181, []) (by simp) (by simp)
  rw [List.nil_append] at this; exact this

theorem least_some (l : List Loc) (a : Int) (hl : l.length ≤ 8) (hx : ∀ x ∈ l, (-90 ≤ x.f1 ∧ x.f1 ≤ 90) ∧ 1 ≤ x.f0.size) (ha : -90 ≤ a ∧ a ≤ 90) : spec_loLeast.F l a = some ((near l a).1, ((near l a).2.length : Int)) := by
  rw [spec_loLeast.F_eq]
  refine each (L := fun i => fun x6 x7 => spec_loLeast.L0 a x6 x7 l l.length i) l z55 (fun i t f => (∀ x ∈ t, x ∈ l) → ∀ s : Int × List ByteArray, s.2.length ≤ i → f s.1 s.2.length = some ((t.foldl (nearStep a) s).1, ((t.foldl (nearStep a) s).2.length : Int))) ?_ ?_ (fun _ h => h) (181, []) (by simp)
  · intro _ s _
    show spec_loLeast.L0 a _ _ l _ _ = _
    rw [spec_loLeast.L0_eq, if_neg (by omega)]; rfl
  · intro i x t hi hxi _ _ ih hm s hs
    have h1 := (hx x (hm x (by simp))).1
    have ih' := ih (fun y hy => hm y (by simp [hy]))
    show spec_loLeast.L0 a _ _ l _ _ = _
    rw [spec_loLeast.L0_eq, if_pos (by omega), if_pos (by omega), if_pos (by omega), rd_loc, hxi, wrap_in (x := (i : Int) + 1) (by omega) (by omega), abs_some _ _ (by omega) (by omega), Option.bind_some, List.foldl_cons]
    by_cases h2 : dst x.f1 a < s.1
    · rw [if_pos h2]
      refine (ih' (dst x.f1 a, [x.f0]) (by simp)).trans ?_
      rw [nearStep, if_pos h2]
    · rw [if_neg h2]
      by_cases h3 : dst x.f1 a = s.1
      · rw [if_pos h3, wrap_in (by omega) (by omega)]
        have := ih' (s.1, s.2 ++ [x.f0]) (by simp; omega)
        simp only [List.length_append, List.length_singleton] at this
        rw [show (((s.2.length + 1 : Nat)) : Int) = (s.2.length : Int) + 1 from by omega] at this
        refine this.trans ?_
        rw [nearStep, if_neg h2, if_pos h3]
      · rw [if_neg h3]
        refine (ih' s (by omega)).trans ?_
        rw [nearStep, if_neg h2, if_neg h3]

/-- Whom an angle means; the empty text for nobody. -/
def mt (l : List Loc) (a : Int) : ByteArray := if (near l a).1 > 20 then ⟨#[]⟩ else if (near l a).2.length = 1 then rdOf ByteArray.empty (near l a).2 0 else ⟨#[]⟩
theorem pointsAt_some (l : List Loc) (a : Int) (hl : l.length ≤ 8) (hx : ∀ x ∈ l, (-90 ≤ x.f1 ∧ x.f1 ≤ 90) ∧ 1 ≤ x.f0.size) (ha : -90 ≤ a ∧ a ≤ 90) : impl_pointsAt.F l a = some (mt l a) := by
  rw [impl_pointsAt.F_eq, nearest_some l a hl hx ha, Option.bind_some]
  unfold mt
  by_cases h1 : (near l a).1 > 20
  · rw [if_pos h1, if_pos h1]
  · rw [if_neg h1, if_neg h1]
    by_cases h2 : (near l a).2.length = 1
    · rw [if_pos (by omega), if_pos (by omega), if_pos h2]
    · rw [if_neg (by omega), if_neg h2]
theorem loMeans_some (l : List Loc) (a : Int) (hl : l.length ≤ 8) (hx : ∀ x ∈ l, (-90 ≤ x.f1 ∧ x.f1 ≤ 90) ∧ 1 ≤ x.f0.size) (ha : -90 ≤ a ∧ a ≤ 90) : spec_loMeans.F l a = some (mt l a, ((mt l a).toList != [])) := by
  have he : ((⟨#[]⟩ : ByteArray).toList != []) = false := by rw [toList_data]; rfl
  rw [spec_loMeans.F_eq, least_some l a hl hx ha, Option.bind_some]
  unfold mt
  by_cases h1 : (near l a).1 > 20
  · rw [if_pos h1, if_pos h1, spec_loMeans.J0_eq, if_pos rfl, he]
  · rw [if_neg h1, if_neg h1, spec_loMeans.J0_eq]
    by_cases h2 : (near l a).2.length = 1
    · rw [if_neg (by simp [h2]), if_pos h2]
      obtain ⟨w, hw⟩ := List.length_eq_one_iff.1 h2
      have hw2 : rdOf ByteArray.empty (near l a).2 0 = w := by rw [hw]; rfl
      rw [hw2]
      have h3 := (near_spec l a).1
      rw [hw] at h3
      refine each (L := fun i => spec_loMeans.L0 a (near l a).1 l l.length i) l z55 (fun i t o => (∀ x ∈ t, x ∈ l) → [w] = (t.filter fun x => decide (dst x.f1 a = (near l a).1)).map (·.f0) → o = some (w, (w.toList != []))) ?_ ?_ (fun _ h => h) h3
      · intro _ h4; simp at h4
      · intro i x t hi hxi _ _ ih hm h4
        have h5 := hx x (hm x (by simp))
        show spec_loMeans.L0 a _ l _ _ = _
        rw [spec_loMeans.L0_eq, if_pos (by omega), if_pos (by omega), if_pos (by omega), rd_loc, hxi, wrap_in (x := (i : Int) + 1) (by omega) (by omega), abs_some _ _ (by omega) (by omega), Option.bind_some]
        by_cases h6 : dst x.f1 a = (near l a).1
        · rw [if_pos h6]
          have h7 : w = x.f0 := by
            rw [List.filter_cons_of_pos (by simp [h6])] at h4
            simp at h4
            exact h4.1
          subst h7
          have h8 : (x.f0.toList != []) = true := by
            rw [toList_data, bne_iff_ne]
            intro e
            have := h5.2
            rw [size_data, e] at this
            simp at this
          rw [h8]
        · rw [if_neg h6]
          rw [List.filter_cons_of_neg (by simp [h6])] at h4
          exact ih (fun y hy => hm y (by simp [hy])) h4
    · rw [if_pos (by simp; omega), if_neg h2, he]

/-! ### What verbs mean -/
def meaning (l : List Loc) (a b : Int) : ByteArray × ByteArray :=
  if (mt l a).toList = [] then (⟨#[]⟩, ⟨#[]⟩) else if (mt l b).toList = [] then (⟨#[]⟩, ⟨#[]⟩) else if (mt l a).toList = (mt l b).toList then (⟨#[]⟩, ⟨#[]⟩) else (mt l a, mt l b)
theorem noText : (⟨#[]⟩ : ByteArray).toList = [] := by rw [toList_data]
theorem meaning_some (l : List Loc) (g : ByteArray) (a b : Int) (hl : l.length ≤ 8) (hx : ∀ x ∈ l, (-90 ≤ x.f1 ∧ x.f1 ≤ 90) ∧ 1 ≤ x.f0.size) (ha : -90 ≤ a ∧ a ≤ 90) (hb : -90 ≤ b ∧ b ≤ 90) : impl_Verb_meaning.F g a b l = some (meaning l a b) := by
  rw [impl_Verb_meaning.F_eq, pointsAt_some _ _ hl hx ha, pointsAt_some _ _ hl hx hb, Option.bind_some, Option.bind_some]
  unfold meaning
  split
  · rfl
  · split
    · rfl
    · split <;> rfl
theorem veMeans_some (l : List Loc) (g : ByteArray) (a b : Int) (hl : l.length ≤ 8) (hx : ∀ x ∈ l, (-90 ≤ x.f1 ∧ x.f1 ≤ 90) ∧ 1 ≤ x.f0.size) (ha : -90 ≤ a ∧ a ≤ 90) (hb : -90 ≤ b ∧ b ≤ 90) : spec_veMeans.F l g a b = some ((meaning l a b).1, (meaning l a b).2, ((meaning l a b).1.toList != [])) := by
  rw [spec_veMeans.F_eq, loMeans_some _ _ hl hx ha, loMeans_some _ _ hl hx hb, Option.bind_some, Option.bind_some]
  unfold meaning
  by_cases c1 : (mt l a).toList = []
  · simp [c1, noText]
  by_cases c2 : (mt l b).toList = []
  · simp [c1, c2, noText]
  by_cases c3 : (mt l a).toList = (mt l b).toList
  · simp [c2, c3, noText]
  · simp [c1, c2, c3, noText]

theorem good_short {l : List Loc} (h : good l = true) : ∀ x ∈ l, x.f0.size ≤ 8 := by
  have key : ∀ (t : List Loc) (i : Nat), goodFrom l i t = true → ∀ x ∈ t, x.f0.size ≤ 8 := by
    intro t
    induction t with
    | nil => intro _ _ x hx; simp at hx
    | cons y t ih =>
      intro i h x hx
      simp only [goodFrom, okAt, isWord, Bool.and_eq_true, decide_eq_true_eq] at h
      rcases List.mem_cons.1 hx with rfl | hx
      · exact h.1.1.1.2
      · exact ih _ h.2 x hx
  exact key l 0 h
theorem mt_short {l : List Loc} (h : good l = true) (a : Int) : (mt l a).size ≤ 8 := by
  unfold mt
  split
  · show 0 ≤ 8; omega
  · split
    · rename_i h2
      obtain ⟨w, hw⟩ := List.length_eq_one_iff.1 h2
      have h3 := (near_spec l a).1
      rw [hw] at h3 ⊢
      show w.size ≤ 8
      have h4 : w ∈ [w] := by simp
      rw [h3] at h4
      obtain ⟨x, hx, rfl⟩ := List.mem_map.1 h4
      exact good_short h x (List.mem_filter.1 hx).1
    · show 0 ≤ 8; omega
theorem meaning_short {l : List Loc} (h : good l = true) (a b : Int) : (meaning l a b).1.size ≤ 8 ∧ (meaning l a b).2.size ≤ 8 := by
  unfold meaning
  split
  · exact ⟨by show 0 ≤ 8; omega, by show 0 ≤ 8; omega⟩
  · split
    · exact ⟨by show 0 ≤ 8; omega, by show 0 ≤ 8; omega⟩
    · split
      · exact ⟨by show 0 ≤ 8; omega, by show 0 ≤ 8; omega⟩
      · exact ⟨mt_short h a, mt_short h b⟩



/-! ### Marks -/
theorem strOfNums_one (x : Int) : (strOfNums [x]).size = 1 := by simp [strOfNums, ByteArray.size]
theorem markText_total (a : Int) (ha : 0 ≤ a ∧ a ≤ 9223372036854775807) : ∃ s, laws_markText.F a = some s := by
  have key : ∀ (d : Nat) (a : Int) (s : ByteArray), 0 ≤ a → a < 10 ^ d → a ≤ 9223372036854775807 → s.size + d ≤ 1000 → ∃ r, laws_markText.L0 a s = some r := by
    intro d
    induction d with
    | zero =>
      intro a s h0 h1 _ h2
      rw [laws_markText.L0_eq, if_neg (by simp at h1; omega), if_pos (by omega)]
      exact ⟨_, rfl⟩
    | succ d ih =>
      intro a s h0 h1 h3 h2
      rw [laws_markText.L0_eq]
      by_cases h : a > 0
      · rw [if_pos h, Option.bind_some, strOfNums_one, if_pos (by omega), Int.tdiv_eq_ediv_of_nonneg h0, wrap_in (by omega) (by omega)]
        refine ih _ _ (by omega) ?_ (by omega) (by rw [ByteArray.size_append, strOfNums_one]; omega)
        rw [Int.pow_succ] at h1
        omega
      · rw [if_neg h, if_pos (by omega)]
        exact ⟨_, rfl⟩
  rw [laws_markText.F_eq]
  split
  · exact ⟨_, rfl⟩
  · exact key 19 a _ ha.1 (by have := ha.2; omega) ha.2 (by decide +kernel)

theorem markLocus_tells (l : List Loc) (a : Int) (hl : l.length ≤ 1048576) (ha : 0 ≤ a ∧ a ≤ 1048576) : ∃ r, laws_markLocusS.F l a = some r ∧ 0 ≤ r.1 ∧ r.1 ≤ a + 2 * l.length := by
  rw [laws_markLocusS.F_eq]
  refine each (L := fun i => fun y b => laws_markLocusS.L0 y b i) l z55 (fun i t f => ∀ (y : List Loc) (b : Int), y.length = l.length → b = a + 2 * i → ∃ r, f y b = some r ∧ 0 ≤ r.1 ∧ r.1 ≤ a + 2 * l.length) ?_ ?_ l a rfl (by omega)
  · intro y b hy hb
    show ∃ r, laws_markLocusS.L0 y b _ = _ ∧ _
    rw [laws_markLocusS.L0_eq, if_neg (by omega)]
    exact ⟨_, rfl, by show 0 ≤ b; omega, by show b ≤ _; omega⟩
  · intro i x t hi _ _ _ ih y b hy hb
    show ∃ r, laws_markLocusS.L0 y b _ = _ ∧ _
    obtain ⟨s, hs⟩ := markText_total b (by omega)
    rw [laws_markLocusS.L0_eq, if_pos (by omega), hs, Option.bind_some, if_pos (by omega), Option.bind_some, wrap_in (x := (i : Int) + 1) (by omega) (by omega), wrap_in (x := b + 1) (by omega) (by omega), wrap_in (x := b + 1 + 1) (by omega) (by omega)]
    exact ih _ _ (by simpa using hy) (by omega)



theorem set_take {α : Type} (l : List α) (i : Nat) (v : α) (h : i < l.length) : (l.set i v).take (i + 1) = l.take i ++ [v] := by
  rw [List.take_succ_eq_append_getElem (by simpa using h), List.take_set_of_le (Nat.le_refl i)]
  simp

/-! ### Slices of texts -/
theorem rd_txt (l : List ByteArray) (i : Nat) : rdOf ByteArray.empty l (i : Int) = l.getD i ByteArray.empty := by simp [rdOf]
noncomputable def mk (a : Int) : ByteArray := (laws_markText.F a).getD ⟨#[]⟩
theorem markText_some (a : Int) (ha : 0 ≤ a ∧ a ≤ 9223372036854775807) : laws_markText.F a = some (mk a) := by
  obtain ⟨s, hs⟩ := markText_total a ha
  unfold mk; rw [hs]; rfl
noncomputable def marks (a : Int) : Nat → List ByteArray
  | 0 => []
  | n + 1 => mk a :: marks (a + 1) n
theorem marks_length (a : Int) : ∀ n, (marks a n).length = n
  | 0 => rfl
  | n + 1 => by rw [marks, List.length_cons, marks_length]

theorem eqText_refl (l : List ByteArray) (hl : l.length ≤ 9223372036854775807) : laws_eqStringS.F l l = some true := by
  rw [laws_eqStringS.F_eq, if_pos rfl]
  refine each (L := fun i => laws_eqStringS.L0 l l i) l ⟨#[]⟩ (fun _ _ o => o = some true) ?_ ?_
  · show laws_eqStringS.L0 l l _ = _
    rw [laws_eqStringS.L0_eq, if_neg (by omega)]
  · intro i x t hi hx _ _ ih
    show laws_eqStringS.L0 l l _ = _
    rw [laws_eqStringS.L0_eq, if_pos (by omega), if_pos (by omega), if_pos (by omega), if_pos rfl, wrap_in (x := (i : Int) + 1) (by omega) (by omega)]
    exact ih
theorem markTexts_some (l : List ByteArray) (a : Int) (hl : l.length ≤ 1048576) (ha : 0 ≤ a ∧ a ≤ 4194304) : laws_markStringS.F l a = some (a + l.length, marks a l.length) := by
  rw [laws_markStringS.F_eq]
  have := each (L := fun i => fun y b => laws_markStringS.L0 y b i) l ⟨#[]⟩ (fun i t f => ∀ (y : List ByteArray) (b : Int), y.length = l.length → b = a + i → f y b = some (b + t.length, y.take i ++ marks b t.length)) ?_ ?_ l a rfl (by omega)
  · simpa using this
  · intro y b hy hb
    show laws_markStringS.L0 y b _ = _
    rw [laws_markStringS.L0_eq, if_neg (by omega)]
    simp [marks, ← hy]
  · intro i x t hi _ hd _ ih y b hy hb
    have := congrArg List.length hd
    simp only [List.length_drop, List.length_cons] at this
    show laws_markStringS.L0 y b _ = _
    rw [laws_markStringS.L0_eq, if_pos (by omega), markText_some b (by omega), Option.bind_some, if_pos (by omega), wrap_in (x := (i : Int) + 1) (by omega) (by omega), wrap_in (by omega) (by omega), Int.toNat_natCast]
    refine (ih _ _ (by simpa using hy) (by omega)).trans ?_
    rw [set_take _ _ _ (by omega)]
    simp [marks]; omega

theorem heldTexts_some (n : Nat) (a : Int) (hn : n ≤ 1048576) (ha : 0 ≤ a ∧ a ≤ 1048576) : laws_heldStringS.F (marks a n) a = some (a + n) := by
  rw [laws_heldStringS.F_eq]
  have hl := marks_length a n
  have := each (L := fun i => fun b => laws_heldStringS.L0 (marks a n) b i) (marks a n) ByteArray.empty (fun i t f => ∀ (b : Int), b = a + i → t = marks b t.length → f b = some (b + t.length)) ?_ ?_ a (by omega) (by rw [hl])
  · simpa [hl] using this
  · intro b hb _
    show laws_heldStringS.L0 _ b _ = _
    rw [laws_heldStringS.L0_eq, if_neg (by omega)]; simp
  · intro i x t hi hx hd _ ih b hb ht
    rw [List.length_cons, marks] at ht
    injection ht with h1 h2
    show laws_heldStringS.L0 _ b _ = _
    rw [laws_heldStringS.L0_eq, if_pos (by omega), if_pos (by omega), markText_some b (by omega), Option.bind_some, rd_txt, hx, if_pos (by rw [h1]), wrap_in (x := (i : Int) + 1) (by omega) (by omega), wrap_in (by omega) (by omega)]
    refine (ih _ (by omega) h2).trans ?_
    rw [List.length_cons]; congr 1; omega


/-! ### Texts in their order, each once -/
def Strict (l : List ByteArray) : Prop := l.Pairwise (fun a b => a.toList < b.toList)
theorem lsOf_toList (s : ByteArray) : lsOf s = s.toList := by rw [lsOf, toList_data]
theorem strict_ext {l m : List ByteArray} (hl : Strict l) (hm : Strict m) (h : ∀ x, x ∈ l ↔ x ∈ m) : l = m := by
  have nd : ∀ {l : List ByteArray}, Strict l → l.Nodup := fun hl => List.Pairwise.imp (fun {a b} h e => by subst e; exact List.lt_irrefl _ h) hl
  refine List.Perm.eq_of_pairwise (le := fun a b : ByteArray => a.toList < b.toList) (fun a b _ _ h1 h2 => ?_) hl hm ((List.perm_ext_iff_of_nodup (nd hl) (nd hm)).2 h)
  exact absurd (List.lt_trans h1 h2) (List.lt_irrefl _)
def putText (w : ByteArray) : List ByteArray → List ByteArray
  | [] => [w]
  | y :: t => if y.toList < w.toList then y :: putText w t else if y.toList = w.toList then y :: t else w :: y :: t
theorem putText_mem (w x : ByteArray) : ∀ l : List ByteArray, x ∈ putText w l ↔ x = w ∨ x ∈ l
  | [] => by simp [putText]
  | y :: t => by
    unfold putText
    split
    · rw [List.mem_cons, putText_mem w x t, List.mem_cons]
      constructor
      · rintro (h | h | h)
        · exact .inr (.inl h)
        · exact .inl h
        · exact .inr (.inr h)
      · rintro (h | h | h)
        · exact .inr (.inl h)
        · exact .inl h
        · exact .inr (.inr h)
    · split
      · rename_i h
        have : y = w := ext_data h
        subst this
        rw [List.mem_cons]
        constructor
        · exact fun h => .inr h
        · rintro (h | h)
          · exact .inl h
          · exact h
      · rw [List.mem_cons]
theorem text_lt {a b : ByteArray} (h1 : ¬ a.toList < b.toList) (h2 : ¬ a.toList = b.toList) : b.toList < a.toList :=
  Classical.byContradiction fun h3 => h2 (List.le_antisymm (List.not_lt.1 h3) (List.not_lt.1 h1))
theorem putText_strict (w : ByteArray) : ∀ {l : List ByteArray}, Strict l → Strict (putText w l)
  | [], _ => by simp [putText, Strict]
  | y :: t, h => by
    have h1 := List.pairwise_cons.1 h
    unfold putText
    split
    · rename_i hy
      refine List.pairwise_cons.2 ⟨fun b hb => ?_, putText_strict w h1.2⟩
      rcases (putText_mem w b t).1 hb with rfl | hb
      · exact hy
      · exact h1.1 b hb
    · split
      · exact h
      · rename_i hy he
        have hwy := text_lt hy he
        refine List.pairwise_cons.2 ⟨fun b hb => ?_, h⟩
        rcases List.mem_cons.1 hb with rfl | hb
        · exact hwy
        · exact List.lt_trans hwy (h1.1 b hb)
theorem putText_length (w : ByteArray) : ∀ l : List ByteArray, (putText w l).length ≤ l.length + 1
  | [] => by simp [putText]
  | y :: t => by
    have := putText_length w t
    unfold putText
    split
    · simp only [List.length_cons]; omega
    · split <;> simp only [List.length_cons] <;> omega
/-- Runs of a sorted row, each once. -/
theorem compact_strict (S : List (List UInt8)) (h : S.Pairwise (fun a b => a ≤ b)) : (Lib.compact S).Pairwise (fun a b => a < b) := by
  unfold Lib.compact Lib.compactUpTo
  rw [List.pairwise_map, List.pairwise_filter]
  refine List.Pairwise.imp_of_mem (R := fun a b => a < b) (fun {i j} hi hj hij _ kj => ?_) List.pairwise_lt_range
  have hi' : i < S.length := List.mem_range.1 hi
  have hj' : j < S.length := List.mem_range.1 hj
  have kj2 : j = 0 ∨ S.toArray[j]! ≠ S.toArray[j - 1]! := by simpa [Lib.keeps] using kj
  have hne : S.toArray[j]! ≠ S.toArray[j - 1]! := by
    rcases kj2 with h0 | h0
    · omega
    · exact h0
  have g : ∀ k, (hk : k < S.length) → S.toArray[k]! = S[k] := fun k hk => by simp [hk]
  rw [g j hj', g (j - 1) (by omega)] at hne
  rw [g i hi', g j hj']
  rw [List.pairwise_iff_getElem] at h
  have h1 : S[j - 1] ≤ S[j] := h (j - 1) j (by omega) hj' (by omega)
  have h2 : S[i] ≤ S[j - 1] := by
    rcases Nat.lt_or_ge i (j - 1) with h3 | h3
    · exact h i (j - 1) hi' (by omega) h3
    · have e : i = j - 1 := by omega
      subst e
      exact List.le_refl _
  refine List.lt_of_le_of_lt h2 ?_
  exact Classical.byContradiction fun h3 => hne (List.le_antisymm (List.not_lt.1 h3) h1)
theorem compact_mem {α : Type} [Inhabited α] [DecidableEq α] (S : List α) (x : α) : x ∈ Lib.compact S ↔ x ∈ S := by
  unfold Lib.compact Lib.compactUpTo
  have g : ∀ k, (hk : k < S.length) → S.toArray[k]! = S[k] := fun k hk => by simp [hk]
  constructor
  · intro h
    obtain ⟨j, hj, rfl⟩ := List.mem_map.1 h
    have hj' : j < S.length := List.mem_range.1 (List.mem_filter.1 hj).1
    rw [g j hj']
    exact List.getElem_mem hj'
  · intro h
    obtain ⟨i, hi, rfl⟩ := List.getElem_of_mem h
    have key : ∀ i, (hi : i < S.length) → ∃ j, j < S.length ∧ Lib.keeps S.toArray j = true ∧ S.toArray[j]! = S[i] := by
      intro i
      induction i with
      | zero => intro hi; exact ⟨0, hi, by simp [Lib.keeps], g 0 hi⟩
      | succ i ih =>
        intro hi
        by_cases hk : Lib.keeps S.toArray (i + 1) = true
        · exact ⟨i + 1, hi, hk, g _ hi⟩
        · obtain ⟨j, h1, h2, h3⟩ := ih (by omega)
          refine ⟨j, h1, h2, ?_⟩
          have : S.toArray[i + 1]! = S.toArray[i]! := by
            apply Classical.byContradiction
            intro h4
            exact hk (by simp [Lib.keeps]; simpa using h4)
          rw [g _ hi, g i (by omega)] at this
          rw [h3, this]
    obtain ⟨j, h1, h2, h3⟩ := key i hi
    exact List.mem_map.2 ⟨j, List.mem_filter.2 ⟨List.mem_range.2 h1, h2⟩, h3⟩
theorem bs_ls (s : ByteArray) : bsOf (lsOf s) = s := by cases s; rfl
def uniq (l : List ByteArray) : List ByteArray := onceTexts (sortTexts l)
theorem bsOf_toList (l : List UInt8) : (bsOf l).toList = l := by rw [toList_data]; simp [bsOf]
theorem uniq_eq (l : List ByteArray) : uniq l = (Lib.compact ((l.map lsOf).mergeSort fun x y => decide (x ≤ y))).map bsOf := by
  unfold uniq onceTexts sortTexts
  rw [List.map_map, show (lsOf ∘ bsOf) = id from funext fun l => by simp [lsOf, bsOf], List.map_id]
theorem uniq_strict (l : List ByteArray) : Strict (uniq l) := by
  rw [uniq_eq, Strict, List.pairwise_map]
  refine List.Pairwise.imp (fun {a b} h => ?_) (compact_strict _ (List.Pairwise.imp (fun {a b} h => of_decide_eq_true h) (List.pairwise_mergeSort (le := fun x y : List UInt8 => decide (x ≤ y)) (fun a b c h1 h2 => ?_) (fun a b => ?_) (l.map lsOf))))
  · rw [bsOf_toList, bsOf_toList]; exact h
  · exact decide_eq_true (List.le_trans (of_decide_eq_true h1) (of_decide_eq_true h2))
  · rcases List.le_total a b with h | h
    · simp [h]
    · simp [h]
theorem uniq_mem (l : List ByteArray) (x : ByteArray) : x ∈ uniq l ↔ x ∈ l := by
  rw [uniq_eq]
  constructor
  · intro h
    obtain ⟨y, hy, rfl⟩ := List.mem_map.1 h
    rw [compact_mem, List.mem_mergeSort] at hy
    obtain ⟨z, hz, rfl⟩ := List.mem_map.1 hy
    rw [bs_ls]
    exact hz
  · intro h
    refine List.mem_map.2 ⟨lsOf x, ?_, bs_ls x⟩
    rw [compact_mem, List.mem_mergeSort]
    exact List.mem_map.2 ⟨x, h, rfl⟩
theorem uniq_length (l : List ByteArray) : (uniq l).length ≤ l.length :=
  Nat.le_trans (onceTexts_length _) (by rw [sortTexts_length]; exact Nat.le_refl _)
theorem fold_put (l : List ByteArray) : ∀ o : List ByteArray, Strict o → Strict (l.foldl (fun o w => putText w o) o) ∧ ∀ x, x ∈ l.foldl (fun o w => putText w o) o ↔ x ∈ o ∨ x ∈ l := by
  induction l with
  | nil => intro o h; exact ⟨h, fun x => by simp⟩
  | cons w t ih =>
    intro o h
    obtain ⟨h1, h2⟩ := ih _ (putText_strict w h)
    refine ⟨h1, fun x => ?_⟩
    rw [List.foldl_cons, h2, putText_mem, List.mem_cons]
    constructor
    · rintro ((h | h) | h)
      · exact .inr (.inl h)
      · exact .inl h
      · exact .inr (.inr h)
    · rintro (h | h | h)
      · exact .inl (.inr h)
      · exact .inl (.inl h)
      · exact .inr h
theorem uniq_fold (l : List ByteArray) : l.foldl (fun o w => putText w o) [] = uniq l := by
  obtain ⟨h1, h2⟩ := fold_put l [] (by simp [Strict])
  exact strict_ext h1 (uniq_strict l) (fun x => by rw [h2, uniq_mem]; simp)
theorem distinct_some (l : List ByteArray) (hl : l.length ≤ 1048576) : impl_distinct_string.f l = some (uniq l) := by
  unfold impl_distinct_string.f slices_Clone_string.f slices_Sort_string.f slices_Compact_string.f
  have h1 := sortTexts_length l
  simp only [Option.bind_some, List.length_nil, List.nil_append]
  rw [if_pos (by omega), Option.bind_some, if_pos (by omega), Option.bind_some, if_pos (by omega)]
  rfl

theorem markVerb_tells (l : List Ver) (a : Int) (hl : l.length ≤ 1048576) (ha : 0 ≤ a ∧ a ≤ 4194304) : ∃ r, laws_markVerbS.F l a = some r ∧ 0 ≤ r.1 := by
  rw [laws_markVerbS.F_eq]
  refine each (L := fun i => fun y b => laws_markVerbS.L0 y b i) l z78 (fun i t f => ∀ (y : List Ver) (b : Int), y.length = l.length → b = a + 3 * i → ∃ r, f y b = some r ∧ 0 ≤ r.1) ?_ ?_ l a rfl (by omega)
  · intro y b hy hb
    show ∃ r, laws_markVerbS.L0 y b _ = _ ∧ _
    rw [laws_markVerbS.L0_eq, if_neg (by omega)]
    exact ⟨_, rfl, by show 0 ≤ b; omega⟩
  · intro i x t hi _ _ _ ih y b hy hb
    show ∃ r, laws_markVerbS.L0 y b _ = _ ∧ _
    obtain ⟨s, hs⟩ := markText_total b (by omega)
    rw [laws_markVerbS.L0_eq, if_pos (by omega), hs, Option.bind_some, if_pos (by omega), Option.bind_some, Option.bind_some, wrap_in (x := (i : Int) + 1) (by omega) (by omega), wrap_in (x := b + 1) (by omega) (by omega), wrap_in (x := b + 1 + 1) (by omega) (by omega), wrap_in (x := b + 1 + 1 + 1) (by omega) (by omega)]
    exact ih _ _ (by simpa using hy) (by omega)
/-- Who does a verb with a gloss, verb by verb. -/
def doer (L : List Loc) (g : ByteArray) (v : Ver) : Option ByteArray := if (meaning L v.f1 v.f2).1.toList = [] then none else if v.f0.toList = g.toList then some (meaning L v.f1 v.f2).1 else none
theorem implDoers (L : List Loc) (V : List Ver) (g : ByteArray) (hg : good L = true) (hv : goodV V = true) : impl_DoersOf.L0 L g [] V V.length 0 = some (uniq (V.filterMap (doer L g)), true) := by
  obtain ⟨g1, g2⟩ := good_facts hg
  obtain ⟨v1, v2⟩ := goodV_facts hv
  refine each (L := fun i => fun o => impl_DoersOf.L0 L g o V V.length i) V z78 (fun i t f => ∀ o : List ByteArray, o.length ≤ i → f o = some (uniq (o ++ t.filterMap (doer L g)), true)) ?_ ?_ [] (by simp)
  · intro o ho
    show impl_DoersOf.L0 L g o V _ _ = _
    rw [impl_DoersOf.L0_eq, if_neg (by omega), distinct_some o (by omega), Option.bind_some]
    simp
  · intro i x t hi hxi hd _ ih o ho
    have hx := v2 x (mem_drop hd)
    show impl_DoersOf.L0 L g o V _ _ = _
    rw [impl_DoersOf.L0_eq, if_pos (by omega), if_pos (by omega), if_pos (by omega), rd_ver, hxi, meaning_some _ _ _ _ g1 g2 hx.1 hx.2.1, Option.bind_some, wrap_in (x := (i : Int) + 1) (by omega) (by omega)]
    by_cases c : (meaning L x.f1 x.f2).1.toList = []
    · rw [if_pos c, List.filterMap_cons_none (by rw [doer, if_pos c])]
      exact ih o (by omega)
    · rw [if_neg c]
      by_cases c2 : x.f0.toList = g.toList
      · rw [if_pos c2, if_pos (by omega), List.filterMap_cons_some (by rw [doer, if_neg c, if_pos c2])]
        refine (ih _ (by simp; omega)).trans ?_
        simp
      · rw [if_neg c2, List.filterMap_cons_none (by rw [doer, if_neg c, if_neg c2])]
        exact ih o (by omega)
theorem specPut (L : List Loc) (g w : ByteArray) (V : List Ver) (n i : Int) (o : List ByteArray) (ho : o.length ≤ 20) : spec_DoersOf.L1 L g o w 0 V n i = spec_DoersOf.L0 L g (putText w o) V n (wrap64 (i + 1)) := by
  have := each (L := fun k => spec_DoersOf.L1 L g o w k V n i) o ByteArray.empty (fun k t f => k + t.length = o.length → f = spec_DoersOf.L0 L g (o.take k ++ putText w t) V n (wrap64 (i + 1))) ?_ ?_ (by simp)
  · simpa using this
  · intro _
    show spec_DoersOf.L1 L g o w _ V n i = _
    rw [spec_DoersOf.L1_eq, if_neg (by omega), spec_DoersOf.J4_eq, if_neg (by simp), if_pos rfl, spec_DoersOf.J5_eq, if_pos rfl]
    simp only [Option.bind_some, Int.toNat_natCast, List.take_length, List.drop_length, List.nil_append, List.length_nil, List.length_cons, List.append_nil, putText]
    rw [if_pos (by omega), if_pos (by omega), if_pos (by omega), if_pos (by simp; omega), if_pos (by simp; omega)]
  · intro k y t hk hy hd _ ih hlen
    have hyk : o.take (k + 1) = o.take k ++ [y] := by
      rw [List.take_succ_eq_append_getElem hk]
      rw [List.getD_eq_getElem?_getD, List.getElem?_eq_getElem hk, Option.getD_some] at hy
      rw [hy]
    have h4 : (o.take k).length = k := by simp; omega
    show spec_DoersOf.L1 L g o w _ V n i = _
    rw [spec_DoersOf.L1_eq, if_pos (by omega), if_pos (by omega), rd_txt, hy, bytesLess_eq, spec_DoersOf.J4_eq, wrap_in (x := (k : Int) + 1) (by omega) (by omega)]
    by_cases c : y.toList < w.toList
    · rw [if_pos (decide_eq_true c), ih (by simpa [Nat.add_assoc, Nat.add_comm 1] using hlen), hyk]
      have hp : putText w (y :: t) = y :: putText w t := by rw [putText, if_pos c]
      rw [hp]
      simp
    · rw [if_neg (by simpa using c), if_neg (by omega), if_pos (by omega), if_pos (by omega), rd_txt, hy, spec_DoersOf.J5_eq]
      by_cases c2 : y.toList = w.toList
      · have hp : putText w (y :: t) = y :: t := by rw [putText, if_neg c, if_pos c2]
        rw [if_neg (by simpa using c2), hp, ← hd, List.take_append_drop]
      · have hp : putText w (y :: t) = w :: y :: t := by rw [putText, if_neg c, if_neg c2]
        rw [if_pos (by simpa using c2)]
        simp only [Option.bind_some, Int.toNat_natCast, hd, List.nil_append, List.length_nil, List.length_cons, List.length_append]
        rw [if_pos (by omega), if_pos (by omega), if_pos (by omega), if_pos (by omega), if_pos (by simp at hlen ⊢; omega), hp]
        simp
theorem specDoers (L : List Loc) (V : List Ver) (g : ByteArray) (hg : good L = true) (hv : goodV V = true) : spec_DoersOf.L0 L g [] V V.length 0 = some ((V.filterMap (doer L g)).foldl (fun o w => putText w o) [], true) := by
  obtain ⟨g1, g2⟩ := good_facts hg
  obtain ⟨v1, v2⟩ := goodV_facts hv
  refine each (L := fun i => fun o => spec_DoersOf.L0 L g o V V.length i) V z78 (fun i t f => ∀ o : List ByteArray, o.length ≤ i → f o = some ((t.filterMap (doer L g)).foldl (fun o w => putText w o) o, true)) ?_ ?_ [] (by simp)
  · intro o ho
    show spec_DoersOf.L0 L g o V _ _ = _
    rw [spec_DoersOf.L0_eq, if_neg (by omega)]
    simp
  · intro i x t hi hxi hd _ ih o ho
    have hx := v2 x (mem_drop hd)
    show spec_DoersOf.L0 L g o V _ _ = _
    rw [spec_DoersOf.L0_eq, if_pos (by omega), if_pos (by omega), if_pos (by omega), rd_ver, hxi, veMeans_some _ _ _ _ g1 g2 hx.1 hx.2.1, Option.bind_some]
    simp only [spec_DoersOf.J2_eq]
    have hw : wrap64 ((i : Int) + 1) = (i : Int) + 1 := wrap_in (by omega) (by omega)
    by_cases c : (meaning L x.f1 x.f2).1.toList = []
    · have c1 : ((meaning L x.f1 x.f2).1.toList != []) = false := by simpa using c
      simp only [c1, Bool.false_eq_true, if_true, if_false]
      rw [hw, List.filterMap_cons_none (by rw [doer, if_pos c])]
      exact ih o (by omega)
    · have c1 : ((meaning L x.f1 x.f2).1.toList != []) = true := by simpa using c
      simp only [c1, if_true]
      by_cases c2 : x.f0.toList = g.toList
      · have c3 : (x.f0.toList != g.toList) = false := by simpa using c2
        have hl := putText_length (meaning L x.f1 x.f2).1 o
        simp only [c3, Bool.false_eq_true, if_false]
        rw [specPut _ _ _ _ _ _ _ (by omega), hw, List.filterMap_cons_some (by rw [doer, if_neg c, if_pos c2])]
        exact ih _ (by omega)
      · have c3 : (x.f0.toList != g.toList) = true := by simpa using c2
        simp only [c3, if_true]
        rw [hw, List.filterMap_cons_none (by rw [doer, if_neg c, if_neg c2])]
        exact ih o (by omega)
theorem FnExactDoersOf : laws_FnExactDoersOf.Pure := by
  intro l vs g hl hvs hg0
  obtain ⟨hl1, hw⟩ := hl
  obtain ⟨hv1, hvw⟩ := hvs
  refine lim_rounds (?_ : laws_FnExactDoersOf.F l vs g = some true)
  rw [laws_FnExactDoersOf.F_eq]
  split
  · rfl
  obtain ⟨t, h1, h2⟩ := szLocus_tells l 1048576 hl1 hw (by omega)
  rw [h1, Option.bind_some]
  by_cases h3 : t < 0
  · rw [if_pos h3]
  rw [if_neg h3]
  obtain ⟨t2, h4, h5⟩ := szVerb_tells vs t hv1 hvw (by omega)
  rw [h4, Option.bind_some]
  by_cases h6 : t2 < 0
  · rw [if_pos h6]
  rw [if_neg h6]
  have hl2 : l.length ≤ 1048576 := by omega
  have hv2 : vs.length ≤ 1048576 := by omega
  have hz := sized_conv hl1 hw
  have hzv := sized_convV hv1 hvw
  have key : ∃ r b, spec_DoersOf.F (l.map conv) (vs.map convV) g = some (r, b) ∧ impl_DoersOf.F (l.map conv) (vs.map convV) g = some (r, b) ∧ r.length ≤ 20 := by
    generalize l.map conv = L at hz
    generalize vs.map convV = V at hzv
    rw [spec_DoersOf.F_eq, impl_DoersOf.F_eq, areLoci_some _ hz, veGood_some _ _ hz hzv, areVerbs_some _ hzv, isGloss_some _ hg0, fsWord_some _ hg0]
    simp only [Option.bind_some, impl_DoersOf.J0_eq, spec_DoersOf.J0_eq]
    cases hg : good L
    · exact ⟨_, _, rfl, rfl, by simp⟩
    cases hgv : goodV V
    · exact ⟨_, _, rfl, rfl, by simp⟩
    cases hgg : isWord 65 90 g
    · exact ⟨_, _, rfl, rfl, by simp⟩
    simp only [Bool.and_self, if_true, Bool.not_true, Bool.false_eq_true, if_false]
    rw [implDoers L V g hg hgv, specDoers L V g hg hgv, uniq_fold]
    refine ⟨_, _, rfl, rfl, ?_⟩
    have := uniq_length (V.filterMap (doer L g))
    have h7 := List.length_filterMap_le (doer L g) V
    have h8 := (goodV_facts hgv).1
    omega
  obtain ⟨r, b, k1, k2, k3⟩ := key
  obtain ⟨m, m1, m2, m3⟩ := markLocus_tells (l.map conv) 1 (by simpa using hl2) (by omega)
  have hlm : (l.map conv).length = l.length := by simp
  rw [hlm] at m3
  obtain ⟨n, n1, n2⟩ := markVerb_tells (vs.map convV) m.1 (by simpa using hv2) (by omega)
  have e2 := eqText_refl r (by omega)
  have e3 := markTexts_some r 1 (by omega) (by omega)
  have e5 := heldTexts_some r.length 1 (by omega) (by omega)
  simp only [toLocus_some l hl2, toVerb_some vs hv2, Option.bind_some, k1, k2, laws_FnExactDoersOf.J0_eq, laws_FnExactDoersOf.J1_eq, laws_FnExactDoersOf.J2_eq, eqLocus_refl _ hz.1, eqVerbS_refl _ hzv.1, m1, n1, e2, e3, e5, if_true, bne_self_eq_false, Bool.false_eq_true]
  have q1 : ¬ n.1 < 0 := by omega
  have q2 : ¬ (1 + (r.length : Int) < 0) := by omega
  simp only [q1, q2, if_false, if_true, Bool.false_eq_true]

end Go.Proofs.Ytbheajjagkdjmaa.Pure
