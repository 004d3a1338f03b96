/- The pure statement of the law FnExactShiftRole: for all arguments within their bounds its Lean function answers true. -/
import Derived.Test.YtbheajjagkdjmaaPFnExactShiftRolexD0
namespace Go.Proofs.Ytbheajjagkdjmaa.Pure
open Go.RowKit Go.Proofs.Ytbheajjagkdjmaa.PFnExactShiftRole Go.Proofs.YtbheajjagkdjmaaW.PrintWords Go.Proofs.YtbheajjagkdjmaaW.PrintLast
set_option linter.unusedVariables false
set_option linter.unusedSimpArgs false
/-! ### Numbers, loops, letters -/
theorem wrap_in {x : Int} (h0 : -9223372036854775808 ≤ x) (h1 : x ≤ 9223372036854775807) : wrap64 x = x := by
  unfold wrap64; omega
theorem wf_i64 {n : Int} (h : (Lit.int .i64 n).wf = true) : -9223372036854775808 ≤ n ∧ n ≤ 9223372036854775807 := by
  simpa [Lit.wf, IntKind.min, IntKind.max, IntKind.signed, IntKind.bits] using h
/-- A loop over a list, from its end. L: what the loop tells from place i on. -/
theorem each {α γ : Type} (L : Int → γ) (l : List α) (z : α) (R : Nat → List α → γ → Prop) (nil : R l.length [] (L l.length))
    (cons : ∀ (i : Nat) (x : α) (t : List α), i < l.length → l.getD i z = x → l.drop i = x :: t → l.drop (i + 1) = t → R (i + 1) t (L ((i : Int) + 1)) → R i (x :: t) (L i)) : R 0 l (L 0) := by
  have key : ∀ (t : List α) (i : Nat), l.drop i = t → i ≤ l.length → R i t (L i) := by
    intro t
    induction t with
    | nil =>
      intro i h hi
      have : l.length ≤ i := by simpa [List.drop_eq_nil_iff] using h
      obtain rfl : i = l.length := by omega
      exact nil
    | cons x t ih =>
      intro i h hi
      have hlt : i < l.length := by
        rcases Nat.lt_or_ge i l.length with h' | h'
        · exact h'
        · rw [List.drop_eq_nil_of_le h'] at h; cases h
      have h2 := List.drop_eq_getElem_cons hlt
      rw [h] at h2
      injection h2 with h3 h4
      refine cons i x t hlt ?_ h h4.symm ?_
      · rw [List.getD_eq_getElem?_getD, List.getElem?_eq_getElem hlt]; exact h3.symm
      · have := ih (i + 1) h4.symm (by omega)
        rwa [show ((i + 1 : Nat) : Int) = (i : Int) + 1 from by omega] at this
  have := key l 0 rfl (Nat.zero_le _)
  rwa [show ((0 : Nat) : Int) = 0 from rfl] at this
theorem bt_data (s : ByteArray) (i : Nat) (h : i < s.size) : bt s (i : Int) = ((s.data.toList.getD i 0).toNat : Int) := by
  obtain ⟨d⟩ := s
  have h' : i < d.size := h
  have : bt ⟨d⟩ (i : Int) = ((d[i]).toNat : Int) := by
    unfold bt
    rw [dif_pos (show ((i : Int)).toNat < (⟨d⟩ : ByteArray).size from by simpa using h)]
    rfl
  rw [this]
  simp [h']
theorem size_data (s : ByteArray) : s.size = s.data.toList.length := by
  obtain ⟨d⟩ := s; simp [ByteArray.size]
theorem toList_data (s : ByteArray) : s.toList = s.data.toList := by
  rw [ByteArray.toList_eq]
theorem ext_data {s t : ByteArray} (h : s.toList = t.toList) : s = t := by
  rw [toList_data, toList_data] at h
  obtain ⟨⟨a⟩⟩ := s
  obtain ⟨⟨b⟩⟩ := t
  simp at h
  rw [h]
theorem toList_iff {s t : ByteArray} : s.toList = t.toList ↔ s = t := ⟨ext_data, fun h => by rw [h]⟩
theorem mem_drop {α : Type} {l t : List α} {x : α} {i : Nat} (h : l.drop i = x :: t) : x ∈ l := List.mem_of_mem_drop (i := i) (by rw [h]; simp)

/-! ### Words of letters; angles -/
theorem within_some (a b c : Int) : impl_within.f a b c = some (decide (b ≤ a ∧ a ≤ c)) := by
  unfold impl_within.f
  by_cases h : b ≤ a
  · rw [if_pos h]; simp [h]
  · rw [if_neg h]; simp [h]
theorem l1In_some (a b c : Int) : spec_l1In.f a b c = some (decide (b ≤ a ∧ a ≤ c)) := by
  unfold spec_l1In.f
  by_cases h : b ≤ a
  · rw [if_pos h]; simp [h]
  · rw [if_neg h]; simp [h]
/-- All letters between two. -/
def inRange (lo hi : Nat) (l : List UInt8) : Bool := l.all fun c => decide (lo ≤ c.toNat ∧ c.toNat ≤ hi)
/-- One to eight letters between two. -/
def isWord (lo hi : Nat) (s : ByteArray) : Bool := decide (1 ≤ s.size ∧ s.size ≤ 8) && inRange lo hi s.data.toList
theorem dec_size (s : ByteArray) : decide ((1 : Int) ≤ s.size ∧ (s.size : Int) ≤ 8) = decide (1 ≤ s.size ∧ s.size ≤ 8) := by
  by_cases h : 1 ≤ s.size ∧ s.size ≤ 8
  · rw [decide_eq_true h, decide_eq_true (by omega)]
  · rw [decide_eq_false h, decide_eq_false (by omega)]

theorem isAngle_some (a : Int) : impl_isAngle.f a = some (decide (-90 ≤ a ∧ a ≤ 90)) := by
  unfold impl_isAngle.f; rw [within_some]; rfl
theorem loAngle_some (a : Int) : spec_loAngle.f a = some (decide (-90 ≤ a ∧ a ≤ 90)) := by
  unfold spec_loAngle.f; rw [l1In_some]; rfl


/-- What 'letters' says of a list of letters: they are those from lo to hi. -/
def Letters (lo hi : Nat) (m : ByteArray) : Prop := ∀ n, n < 256 → (decide (Lib.indexByte m.data.toList n.toUInt8 < 0)) = !decide (lo ≤ n ∧ n ≤ hi)
instance (lo hi : Nat) (m : ByteArray) : Decidable (Letters lo hi m) := by unfold Letters; infer_instance
theorem hasOnly_some (lo hi : Nat) (s m : ByteArray) (hs : s.size ≤ 9223372036854775807) (hm : Letters lo hi m) : impl_hasOnly.F s m = some (inRange lo hi s.data.toList) := by
  rw [impl_hasOnly.F_eq]
  refine each (L := fun i => impl_hasOnly.L0 s m s.size i) s.data.toList 0 (fun _ t o => o = some (inRange lo hi t)) ?_ ?_
  · show impl_hasOnly.L0 s m _ _ = _
    rw [impl_hasOnly.L0_eq, if_neg (by rw [← size_data]; omega)]; rfl
  · intro i x t hi' hx _ _ ih
    have hi2 : i < s.size := by rw [size_data]; exact hi'
    have hb := hm x.toNat x.toNat_lt
    show impl_hasOnly.L0 s m _ _ = _
    rw [impl_hasOnly.L0_eq, if_pos (by omega), if_pos (by omega), if_pos (by omega), bt_data s i hi2, hx, wrap_in (by omega) (by omega)]
    simp only [strings_IndexByte.f, stringslite_IndexByte.f, Option.bind_some, Int.toNat_natCast]
    by_cases h1 : lo ≤ x.toNat ∧ x.toNat ≤ hi
    · rw [if_neg (by simp [h1] at hb; simpa using hb), ih]
      simp [inRange, h1]
    · rw [if_pos (by simpa [h1] using hb)]
      simp [inRange, h1]
theorem isWordOf_some (lo hi : Nat) (s m : ByteArray) (hs : s.size ≤ 9223372036854775807) (hm : Letters lo hi m) : impl_isWordOf.F s m = some (isWord lo hi s) := by
  rw [impl_isWordOf.F_eq, within_some, hasOnly_some lo hi s m hs hm]
  simp only [Option.bind_some, isWord]
  by_cases h : 1 ≤ s.size ∧ s.size ≤ 8
  · have : (1 : Int) ≤ s.size ∧ (s.size : Int) ≤ 8 := by omega
    simp [h, this]
  · have : ¬ ((1 : Int) ≤ s.size ∧ (s.size : Int) ≤ 8) := by omega
    simp [h, this]


/-! ### Loci -/
abbrev Loc := S55
abbrev LocL := S62
theorem rd_loc (l : List Loc) (i : Nat) : rd_T55 l (i : Int) = l.getD i z55 := by simp [rd_T55]
theorem rd_locL (l : List LocL) (i : Nat) : rd_T62 l (i : Int) = l.getD i z62 := by simp [rd_T62]
theorem naName_some (s : ByteArray) (hs : s.size ≤ 9223372036854775807) : spec_naName.F s = some (isWord 97 122 s) := by
  rw [spec_naName.F_eq]
  have := each (L := fun i => spec_naName.L0 s i) s.data.toList 0 (fun _ t o => o = some (inRange 97 122 t && decide (1 ≤ s.size ∧ s.size ≤ 8))) ?_ ?_
  · rw [this, isWord, Bool.and_comm]
  · show spec_naName.L0 s _ = _
    rw [spec_naName.L0_eq, if_neg (by rw [← size_data]; omega), l1In_some]
    simp only [Option.bind_some, inRange, List.all_nil, Bool.true_and, dec_size]
  · intro i x t hi hx _ _ ih
    have hi' : i < s.size := by rw [size_data]; exact hi
    show spec_naName.L0 s _ = _
    rw [spec_naName.L0_eq, if_pos (by omega), if_pos (by omega), bt_data s i hi', hx, wrap_in (by omega) (by omega)]
    by_cases h1 : x.toNat < 97
    · rw [if_pos (by omega)]; simp [inRange]; omega
    · rw [if_neg (by omega)]
      by_cases h2 : 122 < x.toNat
      · rw [if_pos (by omega)]; simp [inRange]; omega
      · rw [if_neg (by omega), ih]
        have h3 : 97 ≤ x.toNat := by omega
        have h4 : x.toNat ≤ 122 := by omega
        simp [inRange, h3, h4]
/-- The first place of a referent from place i on, or -1. -/
def idxFrom (a : ByteArray) : List Loc → Nat → Int
  | [], _ => -1
  | x :: t, i => if x.f0.toList = a.toList then i else idxFrom a t (i + 1)
theorem idxFrom_cases (a : ByteArray) : ∀ (t : List Loc) (i : Nat), (idxFrom a t i = -1 ∧ ∀ x ∈ t, x.f0 ≠ a) ∨ ∃ j, j < t.length ∧ idxFrom a t i = (i + j : Nat) ∧ (t.getD j z55).f0 = a
  | [], _ => .inl ⟨rfl, by simp⟩
  | x :: t, i => by
    unfold idxFrom
    by_cases h : x.f0.toList = a.toList
    · rw [if_pos h]
      exact .inr ⟨0, by simp, by simp, by simpa using ext_data h⟩
    · rw [if_neg h]
      rcases idxFrom_cases a t (i + 1) with ⟨h1, h2⟩ | ⟨j, h1, h2, h3⟩
      · refine .inl ⟨h1, fun y hy => ?_⟩
        rcases List.mem_cons.1 hy with rfl | hy
        · exact fun e => h (by rw [e])
        · exact h2 y hy
      · exact .inr ⟨j + 1, by simpa using h1, by rw [h2]; omega, by simpa using h3⟩
theorem loFind_some (l : List Loc) (a : ByteArray) (hl : l.length ≤ 9223372036854775807) : spec_loFind.F l a = some (idxFrom a l 0) := by
  rw [spec_loFind.F_eq]
  refine each (L := fun i => spec_loFind.L0 a l l.length i) l z55 (fun i t o => o = some (idxFrom a t i)) ?_ ?_
  · show spec_loFind.L0 a l _ _ = _
    rw [spec_loFind.L0_eq, if_neg (by omega)]; rfl
  · intro i x t hi hx _ _ ih
    show spec_loFind.L0 a l _ _ = _
    rw [spec_loFind.L0_eq, if_pos (by omega), if_pos (by omega), if_pos (by omega), rd_loc, hx, wrap_in (by omega) (by omega)]
    unfold idxFrom
    split
    · rfl
    · exact ih
theorem locusOf_some (l : List Loc) (a : ByteArray) (hl : l.length ≤ 9223372036854775807) : impl_locusOf.F l a = some (idxFrom a l 0) := by
  rw [impl_locusOf.F_eq, slices_IndexFunc_Locus_impl_locusOf_1.F_eq]
  rw [show slices_IndexFunc_Locus_impl_locusOf_1.L0 l (l.length : Int) 0 a = some (idxFrom a l 0) from ?_]; rfl
  refine each (L := fun i => slices_IndexFunc_Locus_impl_locusOf_1.L0 l l.length i a) l z55 (fun i t o => o = some (idxFrom a t i)) ?_ ?_
  · show slices_IndexFunc_Locus_impl_locusOf_1.L0 l _ _ a = _
    rw [slices_IndexFunc_Locus_impl_locusOf_1.L0_eq, if_neg (by omega)]; rfl
  · intro i x t hi hx _ _ ih
    show slices_IndexFunc_Locus_impl_locusOf_1.L0 l _ _ a = _
    rw [slices_IndexFunc_Locus_impl_locusOf_1.L0_eq, if_pos (by omega), if_pos (by omega), if_pos (by omega), rd_loc, hx, wrap_in (by omega) (by omega)]
    unfold idxFrom impl_locusOf_1.f
    simp only [Option.bind_some, beq_iff_eq]
    split
    · rfl
    · exact ih
/-- Is element i as it should be, for those ahead of it? -/
def okAt (l : List Loc) (i : Nat) (x : Loc) : Bool :=
  isWord 97 122 x.f0 && (decide (-90 ≤ x.f1 ∧ x.f1 ≤ 90) && (decide (i = 0 ∨ (l.getD (i - 1) z55).f1 < x.f1) && decide (idxFrom x.f0 (l.take i) 0 < 0)))
def goodFrom (l : List Loc) : Nat → List Loc → Bool
  | _, [] => decide (l.length ≤ 8)
  | i, x :: t => okAt l i x && goodFrom l (i + 1) t
def good (l : List Loc) : Bool := goodFrom l 0 l
/-- The letters' lengths are lengths. -/
def Sized (l : List Loc) : Prop := l.length ≤ 9223372036854775807 ∧ ∀ x ∈ l, x.f0.size ≤ 9223372036854775807
theorem Sized.take {l : List Loc} (h : Sized l) (i : Nat) : (l.take i).length ≤ 9223372036854775807 := Nat.le_trans (List.length_take_le' ..) h.1
theorem loGood_some (l : List Loc) (hl : Sized l) : spec_loGood.F l = some (good l) := by
  rw [spec_loGood.F_eq]
  have hl1 := hl.1
  refine each (L := fun i => spec_loGood.L0 l l l.length i) l z55 (fun i t o => o = some (goodFrom l i t)) ?_ ?_
  · show spec_loGood.L0 l l _ _ = _
    rw [spec_loGood.L0_eq, if_neg (by omega)]
    simp only [goodFrom, Option.some.injEq, decide_eq_decide]; omega
  · intro i x t hi hx hd _ ih
    have hs : x.f0.size ≤ 9223372036854775807 := hl.2 x (mem_drop hd)
    show spec_loGood.L0 l l _ _ = _
    rw [spec_loGood.L0_eq, if_pos (by omega), if_pos (by omega), if_pos (by omega), rd_loc, hx, wrap_in (x := (i : Int) + 1) (by omega) (by omega), naName_some _ hs, loAngle_some, Int.toNat_natCast, loFind_some _ _ (hl.take i)]
    simp only [Option.bind_some, goodFrom, okAt]
    cases isWord 97 122 x.f0
    · simp
    by_cases ha : -90 ≤ x.f1 ∧ x.f1 ≤ 90
    case neg => simp [ha]
    rw [decide_eq_true ha]
    simp only [if_true, Bool.true_and]
    by_cases h0 : i = 0
    · subst h0
      simp only [List.take_zero, Int.natCast_zero, gt_iff_lt, Int.lt_irrefl, if_false, true_or, decide_true, Bool.true_and]
      rw [if_pos (by omega)]
      simp [idxFrom]
      simpa using ih
    · have h1 : (i : Int) - 1 = ((i - 1 : Nat) : Int) := by omega
      rw [if_pos (by omega), wrap_in (by omega) (by omega), h1, if_pos (by omega), if_pos (by omega), rd_loc, if_pos (show (i : Int) ≤ (l.length : Int) by omega)]
      by_cases h2 : (l.getD (i - 1) z55).f1 < x.f1
      · rw [if_neg (by omega)]
        simp only [h2, or_true, decide_true, Bool.true_and]
        by_cases h3 : idxFrom x.f0 (l.take i) 0 < 0
        · rw [if_neg (by omega), ih]; simp [h3]
        · rw [if_pos (by omega)]; simp [h3]
      · rw [if_pos (by omega), decide_eq_false (p := i = 0 ∨ _) (by simp only [h0, h2, or_self, not_false_eq_true])]; simp
theorem areLoci_some (l : List Loc) (hl : Sized l) : impl_AreLoci.F l = some (good l) := by
  rw [impl_AreLoci.F_eq]
  have hl1 := hl.1
  refine each (L := fun i => impl_AreLoci.L0 l l l.length i) l z55 (fun i t o => o = some (goodFrom l i t)) ?_ ?_
  · show impl_AreLoci.L0 l l _ _ = _
    rw [impl_AreLoci.L0_eq, if_neg (by omega)]
    simp only [goodFrom, Option.some.injEq, decide_eq_decide]; omega
  · intro i x t hi hx hd _ ih
    have hs : x.f0.size ≤ 9223372036854775807 := hl.2 x (mem_drop hd)
    show impl_AreLoci.L0 l l _ _ = _
    rw [impl_AreLoci.L0_eq, if_pos (by omega), if_pos (by omega), if_pos (by omega), rd_loc, hx, wrap_in (x := (i : Int) + 1) (by omega) (by omega), isWordOf_some 97 122 _ _ hs (by decide +kernel), isAngle_some, Int.toNat_natCast, locusOf_some _ _ (hl.take i)]
    simp only [Option.bind_some, goodFrom, okAt]
    cases isWord 97 122 x.f0
    · simp
    by_cases ha : -90 ≤ x.f1 ∧ x.f1 ≤ 90
    case neg => simp [ha]
    rw [decide_eq_true ha]
    simp only [if_true, Bool.true_and]
    by_cases h0 : i = 0
    · subst h0
      simp only [List.take_zero, Int.natCast_zero, gt_iff_lt, Int.lt_irrefl, if_false, true_or, decide_true, Bool.true_and]
      rw [if_pos (by omega)]
      simp [idxFrom]
      simpa using ih
    · have h1 : (i : Int) - 1 = ((i - 1 : Nat) : Int) := by omega
      rw [if_pos (by omega), wrap_in (by omega) (by omega), h1, if_pos (by omega), if_pos (by omega), rd_loc, if_pos (show (i : Int) ≤ (l.length : Int) by omega)]
      by_cases h2 : (l.getD (i - 1) z55).f1 < x.f1
      · rw [if_neg (by omega)]
        simp only [h2, or_true, decide_true, Bool.true_and]
        by_cases h3 : idxFrom x.f0 (l.take i) 0 < 0
        · rw [if_neg (by omega), ih]; simp [h3]
        · rw [if_pos (by omega)]; simp [h3]
      · rw [if_pos (by omega), decide_eq_false (p := i = 0 ∨ _) (by simp only [h0, h2, or_self, not_false_eq_true])]; simp
theorem good_from (l : List Loc) : ∀ (t : List Loc) (i : Nat), goodFrom l i t = true → l.length ≤ 8 ∧ ∀ x ∈ t, (-90 ≤ x.f1 ∧ x.f1 ≤ 90) ∧ 1 ≤ x.f0.size
  | [], _, h => ⟨by simpa [goodFrom] using h, by simp⟩
  | x :: t, i, h => by
    simp only [goodFrom, okAt, isWord, Bool.and_eq_true, decide_eq_true_eq] at h
    obtain ⟨h1, h2⟩ := h
    obtain ⟨h3, h4⟩ := good_from l t (i + 1) h2
    refine ⟨h3, fun y hy => ?_⟩
    rcases List.mem_cons.1 hy with rfl | hy
    · exact ⟨h1.2.1, h1.1.1.1⟩
    · exact h4 y hy
theorem good_facts {l : List Loc} (h : good l = true) : l.length ≤ 8 ∧ ∀ x ∈ l, (-90 ≤ x.f1 ∧ x.f1 ≤ 90) ∧ 1 ≤ x.f0.size := good_from l l 0 h
/-! ### What the statements do with loci -/
def conv (x : LocL) : Loc := ⟨x.f0, x.f1⟩
theorem szLocus_tells (l : List LocL) (a : Int) (hl : l.length ≤ 9223372036854775807) (hw : ∀ x ∈ l, Wf62 x) (ha : 0 ≤ a ∧ a ≤ 1048576) : ∃ t, laws_szLocusS.F l a = some t ∧ (t < 0 ∨ (0 ≤ t ∧ t ≤ a ∧ l.length ≤ a)) := by
  rw [laws_szLocusS.F_eq, wrap_in (by omega) (by omega)]
  by_cases h0 : a - (l.length : Int) < 0
  · rw [if_pos h0]; exact ⟨-1, rfl, .inl (by omega)⟩
  · rw [if_neg h0]
    have := each (L := fun i => fun b => laws_szLocusS.L0 l b i) l z62 (fun _ t f => (∀ x ∈ t, x ∈ l) → ∀ b : Int, 0 ≤ b → b ≤ 1048576 → ∃ t, f b = some t ∧ (t < 0 ∨ (0 ≤ t ∧ t ≤ b))) ?_ ?_ (fun _ h => h) (a - l.length) (by omega) (by omega)
    · obtain ⟨t, h1, h2⟩ := this
      exact ⟨t, h1, by omega⟩
    · intro _ b h1 h2
      refine ⟨b, ?_, by omega⟩
      show laws_szLocusS.L0 l b _ = _
      rw [laws_szLocusS.L0_eq, if_neg (by omega)]
    · intro i x t hi hx hd _ ih hm b h1 h2
      have hz : x.f0.size ≤ 9223372036854775807 := (hw x (hm x (by simp))).1
      show ∃ t, laws_szLocusS.L0 l b _ = some t ∧ _
      rw [laws_szLocusS.L0_eq, if_pos (by omega), if_pos (by omega), rd_locL, hx, wrap_in (x := (i : Int) + 1) (by omega) (by omega)]
      unfold laws_szLocus.f
      rw [wrap_in (by omega) (by omega)]
      by_cases h3 : b - (x.f0.size : Int) < 0
      · rw [if_pos h3]; exact ⟨-1, rfl, .inl (by omega)⟩
      · rw [if_neg h3, Option.bind_some, if_neg h3]
        obtain ⟨t, h4, h5⟩ := ih (fun y hy => hm y (by simp [hy])) (b - x.f0.size) (by omega) (by omega)
        exact ⟨t, h4, by omega⟩
theorem take_set {α : Type} (l : List α) (i : Nat) (v : α) (h : i < l.length) : (l.set i v).take (i + 1) = l.take i ++ [v] := by
  rw [List.take_succ_eq_append_getElem (by simpa using h), List.take_set_of_le (Nat.le_refl i)]
  simp
theorem toLocus_some (l : List LocL) (hl : l.length ≤ 1048576) : laws_toLocusS.F l = some (l.map conv) := by
  rw [laws_toLocusS.F_eq, if_pos (by omega), if_pos (by omega)]
  have := each (L := fun i => fun y => laws_toLocusS.L0 l y i) l z62 (fun i t f => ∀ y : List Loc, y.length = l.length → f y = some (y.take i ++ t.map conv)) ?_ ?_ (List.replicate ((l.length : Int)).toNat z55) (by simp)
  · show laws_toLocusS.L0 l _ _ = _
    exact this.trans (by simp)
  · intro y hy
    show laws_toLocusS.L0 l y _ = _
    rw [laws_toLocusS.L0_eq, if_neg (by omega)]
    simp [← hy]
  · intro i x t hi hx _ _ ih y hy
    show laws_toLocusS.L0 l y _ = _
    rw [laws_toLocusS.L0_eq, if_pos (by omega), if_pos (by omega), rd_locL, hx, wrap_in (x := (i : Int) + 1) (by omega) (by omega)]
    unfold laws_toLocus.f
    rw [Option.bind_some, if_pos (by omega)]
    refine (ih _ (by simpa using hy)).trans ?_
    rw [Int.toNat_natCast, take_set _ _ _ (by omega)]
    simp [conv]
theorem eqLocus_refl (l : List Loc) (hl : l.length ≤ 9223372036854775807) : laws_eqLocusS.F l l = some true := by
  rw [laws_eqLocusS.F_eq, if_pos rfl]
  refine each (L := fun i => laws_eqLocusS.L0 l l i) l z55 (fun _ _ o => o = some true) ?_ ?_
  · show laws_eqLocusS.L0 l l _ = _
    rw [laws_eqLocusS.L0_eq, if_neg (by omega)]
  · intro i x t hi hx _ _ ih
    show laws_eqLocusS.L0 l l _ = _
    rw [laws_eqLocusS.L0_eq, if_pos (by omega), if_pos (by omega), if_pos (by omega), rd_loc, hx, wrap_in (x := (i : Int) + 1) (by omega) (by omega)]
    unfold laws_eqLocus.f
    rw [if_pos rfl, if_pos rfl, Option.bind_some, if_pos rfl]
    exact ih
theorem sized_conv {l : List LocL} (hl : l.length ≤ 9223372036854775807) (hw : ∀ x ∈ l, Wf62 x) : Sized (l.map conv) :=
  ⟨by simpa using hl, fun x hx => by
    obtain ⟨y, hy, rfl⟩ := List.mem_map.1 hx
    exact (hw y hy).1⟩


/-! ### Marks -/
theorem strOfNums_one (x : Int) : (strOfNums [x]).size = 1 := by simp [strOfNums, ByteArray.size]
theorem markText_total (a : Int) (ha : 0 ≤ a ∧ a ≤ 9223372036854775807) : ∃ s, laws_markText.F a = some s := by
  have key : ∀ (d : Nat) (a : Int) (s : ByteArray), 0 ≤ a → a < 10 ^ d → a ≤ 9223372036854775807 → s.size + d ≤ 1000 → ∃ r, laws_markText.L0 a s = some r := by
    intro d
    induction d with
    | zero =>
      intro a s h0 h1 _ h2
      rw [laws_markText.L0_eq, if_neg (by simp at h1; omega), if_pos (by omega)]
      exact ⟨_, rfl⟩
    | succ d ih =>
      intro a s h0 h1 h3 h2
      rw [laws_markText.L0_eq]
      by_cases h : a > 0
      · rw [if_pos h, Option.bind_some, strOfNums_one, if_pos (by omega), Int.tdiv_eq_ediv_of_nonneg h0, wrap_in (by omega) (by omega)]
        refine ih _ _ (by omega) ?_ (by omega) (by rw [ByteArray.size_append, strOfNums_one]; omega)
        rw [Int.pow_succ] at h1
        omega
      · rw [if_neg h, if_pos (by omega)]
        exact ⟨_, rfl⟩
  rw [laws_markText.F_eq]
  split
  · exact ⟨_, rfl⟩
  · exact key 19 a _ ha.1 (by have := ha.2; omega) ha.2 (by decide +kernel)


theorem set_take {α : Type} (l : List α) (i : Nat) (v : α) (h : i < l.length) : (l.set i v).take (i + 1) = l.take i ++ [v] := by
  rw [List.take_succ_eq_append_getElem (by simpa using h), List.take_set_of_le (Nat.le_refl i)]
  simp

/-! ### Slices of texts -/
theorem rd_txt (l : List ByteArray) (i : Nat) : rdOf ByteArray.empty l (i : Int) = l.getD i ByteArray.empty := by simp [rdOf]
noncomputable def mk (a : Int) : ByteArray := (laws_markText.F a).getD ⟨#[]⟩
theorem markText_some (a : Int) (ha : 0 ≤ a ∧ a ≤ 9223372036854775807) : laws_markText.F a = some (mk a) := by
  obtain ⟨s, hs⟩ := markText_total a ha
  unfold mk; rw [hs]; rfl
noncomputable def marks (a : Int) : Nat → List ByteArray
  | 0 => []
  | n + 1 => mk a :: marks (a + 1) n
theorem marks_length (a : Int) : ∀ n, (marks a n).length = n
  | 0 => rfl
  | n + 1 => by rw [marks, List.length_cons, marks_length]

noncomputable def lmarks (a : Int) : Nat → List Loc
  | 0 => []
  | n + 1 => ⟨mk a, a + 1⟩ :: lmarks (a + 2) n
theorem lmarks_length (a : Int) : ∀ n, (lmarks a n).length = n
  | 0 => rfl
  | n + 1 => by rw [lmarks, List.length_cons, lmarks_length]
theorem getD_set_self {α : Type} (l : List α) (i : Nat) (v z : α) (h : i < l.length) : (l.set i v).getD i z = v := by
  rw [List.getD_eq_getElem?_getD, List.getElem?_set_self h]; rfl
theorem markLocus_some (l : List Loc) (a : Int) (hl : l.length ≤ 1048576) (ha : 0 ≤ a ∧ a ≤ 4194304) : laws_markLocusS.F l a = some (a + 2 * l.length, lmarks a l.length) := by
  rw [laws_markLocusS.F_eq]
  have := each (L := fun i => fun y b => laws_markLocusS.L0 y b i) l z55 (fun i t f => ∀ (y : List Loc) (b : Int), y.length = l.length → b = a + 2 * i → f y b = some (b + 2 * t.length, y.take i ++ lmarks b t.length)) ?_ ?_ l a rfl (by omega)
  · simpa using this
  · intro y b hy hb
    show laws_markLocusS.L0 y b _ = _
    rw [laws_markLocusS.L0_eq, if_neg (by omega)]
    simp [lmarks, ← hy]
  · intro i x t hi _ hd _ ih y b hy hb
    have := congrArg List.length hd
    simp only [List.length_drop, List.length_cons] at this
    show laws_markLocusS.L0 y b _ = _
    rw [laws_markLocusS.L0_eq, if_pos (by omega), markText_some b (by omega), Option.bind_some, if_pos (by omega), Option.bind_some, wrap_in (x := (i : Int) + 1) (by omega) (by omega), wrap_in (x := b + 1) (by omega) (by omega), wrap_in (x := b + 1 + 1) (by omega) (by omega), Int.toNat_natCast, rd_loc, rd_loc, getD_set_self _ _ _ _ (by omega), List.set_set]
    refine (ih _ _ (by simpa using hy) (by omega)).trans ?_
    rw [take_set _ _ _ (by omega), show b + 1 + 1 = b + 2 from by omega]
    simp [lmarks]; omega
theorem heldLocus_some (n : Nat) (a : Int) (hn : n ≤ 1048576) (ha : 0 ≤ a ∧ a ≤ 4194304) : laws_heldLocusS.F (lmarks a n) a = some (a + 2 * n) := by
  rw [laws_heldLocusS.F_eq]
  have hl := lmarks_length a n
  have := each (L := fun i => fun b => laws_heldLocusS.L0 (lmarks a n) b i) (lmarks a n) z55 (fun i t f => ∀ (b : Int), b = a + 2 * i → t = lmarks b t.length → f b = some (b + 2 * t.length)) ?_ ?_ a (by omega) (by rw [hl])
  · simpa [hl] using this
  · intro b hb _
    show laws_heldLocusS.L0 _ b _ = _
    rw [laws_heldLocusS.L0_eq, if_neg (by omega)]; simp
  · intro i x t hi hx hd _ ih b hb ht
    rw [List.length_cons, lmarks] at ht
    injection ht with h1 h2
    show laws_heldLocusS.L0 _ b _ = _
    rw [laws_heldLocusS.L0_eq, if_pos (by omega), if_pos (by omega), markText_some b (by omega), Option.bind_some, rd_loc, hx, h1, if_pos rfl, wrap_in (x := b + 1) (by omega) (by omega), if_pos rfl, wrap_in (x := (i : Int) + 1) (by omega) (by omega), wrap_in (x := b + 1 + 1) (by omega) (by omega), show b + 1 + 1 = b + 2 from by omega]
    refine (ih _ (by omega) h2).trans ?_
    rw [List.length_cons]; congr 1; omega


/-! ### Loci without a referent -/
theorem eachAt {α γ : Type} (L : Int → γ) (l : List α) (z : α) (R : Nat → List α → γ → Prop) (nil : R l.length [] (L l.length))
    (cons : ∀ (i : Nat) (x : α) (t : List α), i < l.length → l.getD i z = x → l.drop i = x :: t → l.drop (i + 1) = t → R (i + 1) t (L ((i : Int) + 1)) → R i (x :: t) (L i)) (i : Nat) (hi : i ≤ l.length) : R i (l.drop i) (L i) := by
  have key : ∀ (t : List α) (i : Nat), l.drop i = t → i ≤ l.length → R i t (L i) := by
    intro t
    induction t with
    | nil =>
      intro i h hi
      have : l.length ≤ i := by simpa [List.drop_eq_nil_iff] using h
      obtain rfl : i = l.length := by omega
      exact nil
    | cons x t ih =>
      intro i h hi
      have hlt : i < l.length := by
        rcases Nat.lt_or_ge i l.length with h' | h'
        · exact h'
        · rw [List.drop_eq_nil_of_le h'] at h; cases h
      have h2 := List.drop_eq_getElem_cons hlt
      rw [h] at h2
      injection h2 with h3 h4
      refine cons i x t hlt ?_ h h4.symm ?_
      · rw [List.getD_eq_getElem?_getD, List.getElem?_eq_getElem hlt]; exact h3.symm
      · have := ih (i + 1) h4.symm (by omega)
        rwa [show ((i + 1 : Nat) : Int) = (i : Int) + 1 from by omega] at this
  exact key _ i rfl hi
def keep (a : ByteArray) (x : Loc) : Bool := !(x.f0.toList == a.toList)
theorem clone_some (l : List Loc) (hl : l.length ≤ 1048576) : slices_Clone_Locus.f l = some l := by
  unfold slices_Clone_Locus.f
  rw [Option.bind_some, if_pos (by simp; omega)]; rfl
theorem idxW_some (l : List Loc) (a : ByteArray) (hl : l.length ≤ 9223372036854775807) : slices_IndexFunc_Locus_impl_without_1.F l a = some (idxFrom a l 0) := by
  rw [slices_IndexFunc_Locus_impl_without_1.F_eq]
  refine each (L := fun i => slices_IndexFunc_Locus_impl_without_1.L0 l l.length i a) l z55 (fun i t o => o = some (idxFrom a t i)) ?_ ?_
  · show slices_IndexFunc_Locus_impl_without_1.L0 l _ _ a = _
    rw [slices_IndexFunc_Locus_impl_without_1.L0_eq, if_neg (by omega)]; rfl
  · intro i x t hi hx _ _ ih
    show slices_IndexFunc_Locus_impl_without_1.L0 l _ _ a = _
    rw [slices_IndexFunc_Locus_impl_without_1.L0_eq, if_pos (by omega), if_pos (by omega), if_pos (by omega), rd_loc, hx, wrap_in (by omega) (by omega)]
    unfold idxFrom impl_without_1.f
    simp only [Option.bind_some, beq_iff_eq]
    split
    · rfl
    · exact ih
theorem idx_split (a : ByteArray) : ∀ (t : List Loc) (i : Nat), (idxFrom a t i = -1 ∧ t.filter (keep a) = t) ∨ ∃ k : Nat, k < t.length ∧ idxFrom a t i = ((i + k : Nat) : Int) ∧ t.filter (keep a) = t.take k ++ (t.drop (k + 1)).filter (keep a)
  | [], _ => .inl ⟨rfl, rfl⟩
  | x :: t, i => by
    unfold idxFrom
    by_cases h : x.f0.toList = a.toList
    · rw [if_pos h]
      exact .inr ⟨0, by simp, by simp, by simp [keep, h]⟩
    · rw [if_neg h]
      have hk : keep a x = true := by simp [keep, h]
      rcases idx_split a t (i + 1) with ⟨h1, h2⟩ | ⟨k, h1, h2, h3⟩
      · exact .inl ⟨h1, by rw [List.filter_cons_of_pos hk, h2]⟩
      · exact .inr ⟨k + 1, by simpa using h1, by rw [h2]; omega, by rw [List.filter_cons_of_pos hk, h3]; simp⟩
theorem delete_some (l : List Loc) (a : ByteArray) (hl : l.length ≤ 1048576) : slices_DeleteFunc_Locus_impl_without_1.F l a = some (l.filter (keep a)) := by
  rw [slices_DeleteFunc_Locus_impl_without_1.F_eq, idxW_some l a (by omega), Option.bind_some]
  rcases idx_split a l 0 with ⟨h1, h2⟩ | ⟨k, h1, h2, h3⟩
  · rw [h1, if_pos rfl, h2]
  · rw [h2, Nat.zero_add, if_neg (by omega), wrap_in (by omega) (by omega), h3]
    have := eachAt (L := fun j => fun xs i => slices_DeleteFunc_Locus_impl_without_1.L0 xs i j a) l z55 (fun j t f => ∀ (xs : List Loc) (i : Nat), xs.length = l.length → i ≤ j → xs.drop j = t → f xs (i : Int) = some (xs.take i ++ t.filter (keep a))) ?_ ?_ (k + 1) (by omega) l k rfl (by omega) rfl
    · simpa using this
    · intro xs i hxs hi _
      show slices_DeleteFunc_Locus_impl_without_1.L0 xs _ _ a = _
      rw [slices_DeleteFunc_Locus_impl_without_1.L0_eq, if_neg (by omega), if_pos (by omega), if_pos (by omega), Int.toNat_natCast]
      rw [List.take_append_of_le_length (by simp; omega)]
      simp [List.take_take]
    · intro j x t hj _ _ _ ih xs i hxs hi hd
      have hjx : j < xs.length := by omega
      have hd2 := List.drop_eq_getElem_cons hjx
      rw [hd] at hd2
      injection hd2 with h4 h5
      have hg : xs.getD j z55 = x := by rw [List.getD_eq_getElem?_getD, List.getElem?_eq_getElem hjx]; exact h4.symm
      show slices_DeleteFunc_Locus_impl_without_1.L0 xs _ _ a = _
      rw [slices_DeleteFunc_Locus_impl_without_1.L0_eq, if_pos (by omega), if_pos (by omega), rd_loc, hg, wrap_in (x := (j : Int) + 1) (by omega) (by omega), wrap_in (x := (i : Int) + 1) (by omega) (by omega)]
      unfold impl_without_1.f
      rw [Option.bind_some]
      by_cases h : x.f0.toList = a.toList
      · rw [if_pos (by simpa using h), List.filter_cons_of_neg (by simp [keep, h])]
        exact ih xs i hxs (by omega) h5.symm
      · rw [if_neg (by simpa using h), if_pos (by omega), if_pos (by omega), List.filter_cons_of_pos (by simp [keep, h]), Int.toNat_natCast]
        have := ih (xs.set i x) (i + 1) (by simpa using hxs) (by omega) (by rw [List.drop_set_of_lt (by omega)]; exact h5.symm)
        rw [show ((i + 1 : Nat) : Int) = (i : Int) + 1 from by omega] at this
        refine this.trans ?_
        rw [take_set _ _ _ (by omega)]
        simp
theorem without_some (l : List Loc) (a : ByteArray) (hl : l.length ≤ 1048576) : impl_without.F l a = some (l.filter (keep a)) := by
  rw [impl_without.F_eq, clone_some l hl, Option.bind_some, delete_some l a hl]; rfl

theorem loWithout_some (l : List Loc) (a : ByteArray) (hl : l.length ≤ 1048576) : spec_loWithout.F l a = some (l.filter (keep a)) := by
  rw [spec_loWithout.F_eq]
  have := each (L := fun i => fun o => spec_loWithout.L0 a o l l.length i) l z55 (fun i t f => ∀ o : List Loc, o.length ≤ i → f o = some (o ++ t.filter (keep a))) ?_ ?_ [] (by simp)
  · simpa using this
  · intro o _
    show spec_loWithout.L0 a o l _ _ = _
    rw [spec_loWithout.L0_eq, if_neg (by omega)]; simp
  · intro i x t hi hx _ _ ih o ho
    show spec_loWithout.L0 a o l _ _ = _
    rw [spec_loWithout.L0_eq, if_pos (by omega), if_pos (by omega), if_pos (by omega), rd_loc, hx, wrap_in (x := (i : Int) + 1) (by omega) (by omega)]
    by_cases h : x.f0.toList = a.toList
    · rw [if_pos h, List.filter_cons_of_neg (by simp [keep, h])]
      exact ih o (by omega)
    · rw [if_neg h, if_pos (by omega), List.filter_cons_of_pos (by simp [keep, h])]
      refine (ih (o ++ [x]) (by simp; omega)).trans ?_
      simp


theorem good_each {l : List Loc} : ∀ (t : List Loc) (i : Nat), goodFrom l i t = true → ∀ k, (hk : k < t.length) → okAt l (i + k) t[k] = true
  | [], _, _, k, hk => absurd hk (by simp)
  | x :: t, i, h, k, hk => by
    simp only [goodFrom, Bool.and_eq_true] at h
    cases k with
    | zero => exact h.1
    | succ k =>
      have := good_each t (i + 1) h.2 k (by simpa using hk)
      simpa [Nat.add_assoc, Nat.add_comm 1 k] using this

/-! ### Loci in their order -/
def putAt (x : Loc) : List Loc → List Loc
  | [] => [x]
  | y :: t => if y.f1 < x.f1 then y :: putAt x t else x :: y :: t
theorem putAt_perm (x : Loc) : ∀ l : List Loc, (putAt x l).Perm (x :: l)
  | [] => .refl _
  | y :: t => by
    unfold putAt
    split
    · exact ((putAt_perm x t).cons y).trans (.swap x y t)
    · exact .refl _
def Rising (l : List Loc) : Prop := l.Pairwise (fun a b => a.f1 ≤ b.f1)
theorem putAt_rising (x : Loc) : ∀ {l : List Loc}, Rising l → Rising (putAt x l)
  | [], _ => by simp [putAt, Rising]
  | y :: t, h => by
    have h1 := List.pairwise_cons.1 h
    unfold putAt
    split
    · rename_i hy
      refine List.pairwise_cons.2 ⟨fun b hb => ?_, putAt_rising x h1.2⟩
      rcases List.mem_cons.1 ((putAt_perm x t).mem_iff.1 hb) with rfl | hb
      · exact Int.le_of_lt hy
      · exact h1.1 b hb
    · rename_i hy
      refine List.pairwise_cons.2 ⟨fun b hb => ?_, h⟩
      rcases List.mem_cons.1 hb with rfl | hb
      · omega
      · have := h1.1 b hb; omega
theorem loPut_some (l : List Loc) (b : ByteArray) (c : Int) (hl : l.length ≤ 1048576) : spec_loPut.F l b c = some (putAt ⟨b, c⟩ l) := by
  rw [spec_loPut.F_eq]
  have := each (L := fun i => spec_loPut.L0 l i b c) l z55 (fun i t o => i + t.length = l.length → o = some (l.take i ++ putAt ⟨b, c⟩ t)) ?_ ?_ (by simp)
  · simpa using this
  · intro _
    show spec_loPut.L0 l _ b c = _
    rw [spec_loPut.L0_eq, if_neg (by omega)]
    simp only [Option.bind_some, Int.toNat_natCast, List.take_length, List.drop_length, List.nil_append, List.length_nil, List.length_cons, List.append_nil, putAt]
    rw [if_pos (by omega), if_pos (by omega), if_pos (by omega), if_pos (by simp; omega), if_pos (by simp; omega)]
  · intro i x t hi hx hd _ ih hlen
    show spec_loPut.L0 l _ b c = _
    rw [spec_loPut.L0_eq, if_pos (by omega), if_pos (by omega), rd_loc, hx, wrap_in (by omega) (by omega)]
    by_cases h : x.f1 < c
    · rw [if_pos h, ih (by simpa [Nat.add_assoc, Nat.add_comm 1] using hlen)]
      have ht : l.take (i + 1) = l.take i ++ [x] := by
        rw [List.take_succ_eq_append_getElem hi]
        rw [List.getD_eq_getElem?_getD, List.getElem?_eq_getElem hi, Option.getD_some] at hx
        rw [hx]
      have hp : putAt ⟨b, c⟩ (x :: t) = x :: putAt ⟨b, c⟩ t := by rw [putAt, if_pos h]
      rw [ht, hp]
      simp
    · have hp : putAt ⟨b, c⟩ (x :: t) = ⟨b, c⟩ :: x :: t := by rw [putAt, if_neg h]
      have h3 : (l.take i).length ≤ 1048576 := by simp; omega
      have h4 : (l.take i).length = i := by simp; omega
      simp only [if_neg h, Option.bind_some, Int.toNat_natCast, hd, List.nil_append, List.length_nil, List.length_cons, List.length_append]
      rw [if_pos (by omega), if_pos (by omega), if_pos (by omega), if_pos (by simp at hlen ⊢; omega), hp]
      simp
theorem loIf_some (l : List Loc) (hl : Sized l) : spec_loIf.F l = some (if good l then (l, true) else ([], false)) := by
  rw [spec_loIf.F_eq, loGood_some _ hl, Option.bind_some]
  cases good l <;> rfl
theorem good_strict {l : List Loc} (hg : good l = true) : l.Pairwise (fun a b => a.f1 < b.f1) := by
  have adj : ∀ i, (h : i + 1 < l.length) → l[i].f1 < l[i + 1].f1 := by
    intro i h
    have ok := good_each l 0 hg (i + 1) h
    simp only [okAt, Bool.and_eq_true, Nat.zero_add] at ok
    have := of_decide_eq_true ok.2.2.1
    rcases this with h0 | h1
    · omega
    · rwa [Nat.add_sub_cancel, List.getD_eq_getElem?_getD, List.getElem?_eq_getElem (by omega), Option.getD_some] at h1
  have far : ∀ k i, (h : i + k + 1 < l.length) → l[i].f1 < l[i + k + 1].f1 := by
    intro k
    induction k with
    | zero => intro i h; exact adj i h
    | succ k ih =>
      intro i h
      have h1 := ih i (by omega)
      have h2 := adj (i + k + 1) (by omega)
      have e : i + (k + 1) + 1 = i + k + 1 + 1 := by omega
      simp only [e]
      omega
  rw [List.pairwise_iff_getElem]
  intro i j hi hj hij
  have := far (j - i - 1) i (by omega)
  have e : i + (j - i - 1) + 1 = j := by omega
  simpa only [e] using this
theorem strict_rising {l : List Loc} (h : l.Pairwise (fun a b => a.f1 < b.f1)) : Rising l := h.imp (fun h => Int.le_of_lt h)
/-- Two orders of the same loci: if one is good they are one. -/
theorem order_one {l m : List Loc} (hp : l.Perm m) (hl : Rising l) (hm : Rising m) (hg : good l = true) : l = m := by
  have hs := good_strict hg
  refine List.Perm.eq_of_pairwise (le := fun a b : Loc => a.f1 ≤ b.f1) (fun a b ha hb h1 h2 => ?_) hl hm hp
  have hb' := hp.mem_iff.2 hb
  obtain ⟨i, hi, rfl⟩ := List.getElem_of_mem ha
  obtain ⟨j, hj, rfl⟩ := List.getElem_of_mem hb'
  rw [List.pairwise_iff_getElem] at hs
  rcases Nat.lt_trichotomy i j with h | h | h
  · have := hs i j hi hj h; omega
  · subst h; rfl
  · have := hs j i hj hi h; omega
theorem order_same {l m : List Loc} (hp : l.Perm m) (hl : Rising l) (hm : Rising m) : (if good l then (l, true) else ([], false)) = (if good m then (m, true) else (([] : List Loc), false)) := by
  cases h : good l
  · cases h2 : good m
    · rfl
    · have := order_one hp.symm hm hl h2
      rw [this, h] at h2
      cases h2
  · have := order_one hp hl hm h
    subst this
    rw [h]
theorem sortedLoci_some (l : List Loc) (hl : Sized l) (h0 : 0 < l.length) (h12 : l.length ≤ 12) (hk : ∀ x ∈ l, -1000000 ≤ x.f1 ∧ x.f1 ≤ 1000000) : ∃ m, m.Perm l ∧ Rising m ∧ impl_sortedLoci.F l = some (if good m then (m, true) else ([], false)) := by
  have hkey : ∀ x ∈ l, InKey slices_SortFunc_Locus_impl_sortedLoci_1.key x := fun x hx => by
    have := hk x hx
    simp only [InKey, slices_SortFunc_Locus_impl_sortedLoci_1.key]
    omega
  obtain ⟨s1, s2⟩ := sortKey_spec slices_SortFunc_Locus_impl_sortedLoci_1.key l hkey
  refine ⟨sortKey slices_SortFunc_Locus_impl_sortedLoci_1.key l, s1, s2, ?_⟩
  have hz : Sized (sortKey slices_SortFunc_Locus_impl_sortedLoci_1.key l) := ⟨by rw [s1.length_eq]; exact hl.1, fun x hx => hl.2 x (s1.mem_iff.1 hx)⟩
  rw [impl_sortedLoci.F_eq, slices_SortFunc_Locus_impl_sortedLoci_1.f, if_pos ⟨h0, h12, hkey⟩, Option.bind_some, areLoci_some _ hz, Option.bind_some]
  cases good (sortKey slices_SortFunc_Locus_impl_sortedLoci_1.key l) <;> rfl

/-- A locus seen from a new place. -/
def clamp (t : Int) : Int := if t < -90 then -90 else if 90 < t then 90 else t
def moved (b : Int) (x : Loc) : Loc := ⟨x.f0, clamp (x.f1 - b)⟩
theorem shifted_some (a b : Int) (ha : -90 ≤ a ∧ a ≤ 90) (hb : -90 ≤ b ∧ b ≤ 90) : impl_shifted.f a b = some (clamp (a - b)) := by
  unfold impl_shifted.f clamp mn mx
  rw [wrap_in (by omega) (by omega)]
  congr 1
  repeat' split
  all_goals omega
theorem most_some (a b : Int) (ha : -90 ≤ a ∧ a ≤ 90) (hb : -90 ≤ b ∧ b ≤ 90) : ((spec_l1Least.f 90 (wrap64 (a - b))).bind fun t => (spec_l1Most.f (-90) t)) = some (clamp (a - b)) := by
  unfold spec_l1Least.f spec_l1Most.f clamp
  rw [wrap_in (by omega) (by omega)]
  by_cases h1 : 90 < a - b
  · rw [if_pos h1, Option.bind_some, if_neg (by omega), if_neg (by omega), if_pos h1]
  · rw [if_neg h1, Option.bind_some, if_neg h1]
    by_cases h2 : a - b < -90
    · rw [if_pos h2, if_pos h2]
    · rw [if_neg h2, if_neg h2]
theorem implShift_some (L W : List Loc) (i : Nat) (o : List Loc) (hi : i < L.length) (hW : W.length ≤ 8) (ho : o.length ≤ 8) (hb : -90 ≤ (L.getD i z55).f1 ∧ (L.getD i z55).f1 ≤ 90) (hx : ∀ x ∈ W, -90 ≤ x.f1 ∧ x.f1 ≤ 90) :
    impl_ShiftRole.L0 L i o W W.length 0 = (impl_sortedLoci.F (o ++ W.map (moved (L.getD i z55).f1))).bind fun b => some (b.1, b.2) := by
  refine each (L := fun k => fun o => impl_ShiftRole.L0 L i o W W.length k) W z55 (fun k t f => (∀ x ∈ t, x ∈ W) → ∀ o : List Loc, o.length ≤ 8 + k → f o = (impl_sortedLoci.F (o ++ t.map (moved (L.getD i z55).f1))).bind fun b => some (b.1, b.2)) ?_ ?_ (fun _ h => h) o ho
  · intro _ o _
    show impl_ShiftRole.L0 L i o W _ _ = _
    rw [impl_ShiftRole.L0_eq, if_neg (by omega)]
    simp
  · intro k x t hk hxk _ _ ih hm o ho
    have h1 := hx x (hm x (by simp))
    show impl_ShiftRole.L0 L i o W _ _ = _
    rw [impl_ShiftRole.L0_eq, if_pos (by omega), if_pos (by omega), if_pos (by omega), if_pos (by omega), if_pos (by omega), rd_loc, rd_loc, hxk, shifted_some _ _ h1 hb, Option.bind_some, if_pos (by omega), wrap_in (x := (k : Int) + 1) (by omega) (by omega)]
    refine (ih (fun y hy => hm y (by simp [hy])) _ (by simp; omega)).trans ?_
    simp [moved]
theorem specShift_some (W : List Loc) (b : Int) (o : List Loc) (hW : W.length ≤ 8) (ho : o.length ≤ 8) (hb : -90 ≤ b ∧ b ≤ 90) (hx : ∀ x ∈ W, -90 ≤ x.f1 ∧ x.f1 ≤ 90) :
    spec_ShiftRole.L0 b o W W.length 0 = (spec_loIf.F (W.foldl (fun o x => putAt (moved b x) o) o)).bind fun b => some (b.1, b.2) := by
  refine each (L := fun k => fun o => spec_ShiftRole.L0 b o W W.length k) W z55 (fun k t f => (∀ x ∈ t, x ∈ W) → ∀ o : List Loc, o.length ≤ 8 + k → f o = (spec_loIf.F (t.foldl (fun o x => putAt (moved b x) o) o)).bind fun b => some (b.1, b.2)) ?_ ?_ (fun _ h => h) o ho
  · intro _ o _
    show spec_ShiftRole.L0 b o W _ _ = _
    rw [spec_ShiftRole.L0_eq, if_neg (by omega)]
    simp
  · intro k x t hk hxk _ _ ih hm o ho
    have h1 := hx x (hm x (by simp))
    show spec_ShiftRole.L0 b o W _ _ = _
    have hmost := most_some x.f1 b h1 hb
    rw [spec_ShiftRole.L0_eq, if_pos (by omega), if_pos (by omega), if_pos (by omega), rd_loc, hxk]
    have hre : ∀ (F : Int → Option (List Loc × Bool)), ((spec_l1Least.f 90 (wrap64 (x.f1 - b))).bind fun t213 => ((spec_l1Most.f (-90) t213).bind F)) = (((spec_l1Least.f 90 (wrap64 (x.f1 - b))).bind fun t => (spec_l1Most.f (-90) t))).bind F := fun F => by rw [Option.bind_assoc]
    rw [hre, hmost, Option.bind_some, loPut_some _ _ _ (by omega), Option.bind_some, wrap_in (x := (k : Int) + 1) (by omega) (by omega)]
    exact ih (fun y hy => hm y (by simp [hy])) _ (by rw [(putAt_perm _ _).length_eq]; simp; omega)
theorem fold_perm (b : Int) : ∀ (W o : List Loc), (W.foldl (fun o x => putAt (moved b x) o) o).Perm (o ++ W.map (moved b))
  | [], o => by simp
  | x :: t, o => by
    simp only [List.foldl_cons, List.map_cons]
    refine (fold_perm b t _).trans ?_
    refine ((putAt_perm _ o).append_right _).trans ?_
    simpa using List.perm_middle.symm
theorem fold_rising (b : Int) : ∀ (W o : List Loc), Rising o → Rising (W.foldl (fun o x => putAt (moved b x) o) o)
  | [], _, h => h
  | x :: t, _, h => fold_rising b t _ (putAt_rising _ h)
theorem FnExactShiftRole : laws_FnExactShiftRole.Pure := by
  intro l a hl ha
  obtain ⟨hl1, hw⟩ := hl
  refine lim_rounds (?_ : laws_FnExactShiftRole.F l a = some true)
  rw [laws_FnExactShiftRole.F_eq]
  split
  · rfl
  obtain ⟨t, h1, h2⟩ := szLocus_tells l 1048576 hl1 hw (by omega)
  rw [h1, Option.bind_some]
  by_cases h3 : t < 0
  · rw [if_pos h3]
  rw [if_neg h3]
  have hl2 : l.length ≤ 1048576 := by omega
  have hz := sized_conv hl1 hw
  have key : ∃ r b, spec_ShiftRole.F (l.map conv) a = some (r, b) ∧ impl_ShiftRole.F (l.map conv) a = some (r, b) ∧ r.length ≤ 1048576 := by
    have hlm : (l.map conv).length ≤ 1048576 := by simpa using hl2
    generalize l.map conv = L at hz hlm
    rw [spec_ShiftRole.F_eq, impl_ShiftRole.F_eq, loGood_some _ hz, areLoci_some _ hz, loFind_some _ _ hz.1, locusOf_some _ _ hz.1]
    simp only [Option.bind_some, spec_ShiftRole.J0_eq, impl_ShiftRole.J0_eq]
    cases hg : good L
    · exact ⟨_, _, rfl, rfl, by simp⟩
    rcases idxFrom_cases a L 0 with ⟨h4, _⟩ | ⟨i, h4, h5, h6⟩
    · rw [h4]; exact ⟨_, _, rfl, rfl, by simp⟩
    rw [Nat.zero_add] at h5
    rw [h5]
    obtain ⟨g1, g2⟩ := good_facts hg
    have him : L.getD i z55 ∈ L := by rw [List.getD_eq_getElem?_getD, List.getElem?_eq_getElem h4, Option.getD_some]; exact List.getElem_mem h4
    have hat := (g2 _ him).1
    have hW : (L.filter (keep a)).length ≤ 8 := Nat.le_trans (List.length_filter_le _ _) g1
    have hWf : ∀ x ∈ L.filter (keep a), x ∈ L := fun x hx => (List.mem_filter.1 hx).1
    have hn : decide ((i : Int) < 0) = false := decide_eq_false (by omega)
    simp only [hn, if_true, Bool.false_eq_true, if_false]
    rw [loFind_some _ _ hz.1, h5, Option.bind_some, if_pos (by omega), if_pos (by omega), loWithout_some L a hlm, without_some L a hlm, Option.bind_some, Option.bind_some, rd_loc,
      implShift_some L _ i _ h4 hW (by simp) hat (fun x hx => (g2 x (hWf x hx)).1), specShift_some _ _ _ hW (by simp) hat (fun x hx => (g2 x (hWf x hx)).1)]
    generalize (L.getD i z55).f1 = b at hat ⊢
    generalize hs0 : (⟨(⟨#[115, 105, 103, 110, 101, 114]⟩ : ByteArray), 0⟩ : Loc) = s0
    have hsz : s0.f0.size ≤ 8 := by rw [← hs0]; decide
    have hsk : s0.f1 = 0 := by rw [← hs0]
    have hO : ∀ x ∈ [s0] ++ (L.filter (keep a)).map (moved b), (-1000000 ≤ x.f1 ∧ x.f1 ≤ 1000000) ∧ x.f0.size ≤ 9223372036854775807 := by
      intro x hx
      rcases List.mem_append.1 hx with hx | hx
      · obtain rfl := List.mem_singleton.1 hx
        omega
      · obtain ⟨y, hy, rfl⟩ := List.mem_map.1 hx
        have := hz.2 y (hWf y hy)
        refine ⟨?_, this⟩
        simp only [moved, clamp]
        repeat' split
        all_goals omega
    have hOl : ([s0] ++ (L.filter (keep a)).map (moved b)).length = 1 + (L.filter (keep a)).length := by simp; omega
    have hzO : Sized ([s0] ++ (L.filter (keep a)).map (moved b)) := ⟨by omega, fun x hx => (hO x hx).2⟩
    have hp := fold_perm b (L.filter (keep a)) [s0]
    have hr := fold_rising b (L.filter (keep a)) [s0] (by simp [Rising])
    generalize (L.filter (keep a)).foldl (fun o x => putAt (moved b x) o) [s0] = Q at hp hr ⊢
    have hzP : Sized Q := ⟨by rw [hp.length_eq]; exact hzO.1, fun x hx => hzO.2 x (hp.mem_iff.1 hx)⟩
    obtain ⟨m, m1, m2, m3⟩ := sortedLoci_some _ hzO (by omega) (by omega) (fun x hx => (hO x hx).1)
    have ho := order_same (hp.trans m1.symm) hr m2
    have hlen := hp.length_eq
    rw [← ho] at m3
    have hzi := loIf_some _ hzP
    generalize hr2 : (if good Q then (Q, true) else (([] : List Loc), false)) = r2 at m3 hzi
    rw [hzi, m3, Option.bind_some]
    refine ⟨r2.1, r2.2, rfl, rfl, ?_⟩
    rw [← hr2]
    cases good Q
    · simp
    · simp only [if_true]; omega
  obtain ⟨r, b, k1, k2, k3⟩ := key
  have m0 := markLocus_some (l.map conv) 1 (by simpa using hl2) (by omega)
  have m1 := markLocus_some r 1 (by omega) (by omega)
  have m2 := heldLocus_some r.length 1 (by omega) (by omega)
  have e1 := eqLocus_refl r (by omega)
  have q0 : ¬ (1 + 2 * ((l.map conv).length : Int) < 0) := by omega
  have q1 : ¬ (1 + 2 * (r.length : Int) < 0) := by omega
  simp only [toLocus_some l hl2, Option.bind_some, k1, k2, laws_FnExactShiftRole.J0_eq, laws_FnExactShiftRole.J1_eq, laws_FnExactShiftRole.J2_eq, eqLocus_refl _ hz.1, m0, m1, m2, e1, q0, q1, if_true, if_false, bne_self_eq_false, Bool.false_eq_true]

end Go.Proofs.Ytbheajjagkdjmaa.Pure
