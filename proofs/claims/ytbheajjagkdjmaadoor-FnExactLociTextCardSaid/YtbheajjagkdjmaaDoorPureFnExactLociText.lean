/- The pure statement of the law FnExactLociText: for all arguments within their bounds its Lean function answers true. -/
import Derived.Test.YtbheajjagkdjmaaDoorPFnExactLociTextxD0
namespace Go.Proofs.YtbheajjagkdjmaaDoor.Pure
open Go.RowKit Go.Proofs.YtbheajjagkdjmaaDoor.PFnExactLociText Go.Proofs.YtbheajjagkdjmaaDoorW.PrintWords Go.Proofs.YtbheajjagkdjmaaDoorW.PrintLast
set_option linter.unusedVariables false
set_option linter.unusedSimpArgs false
/-! ### Numbers, loops, letters -/
theorem wrap_in {x : Int} (h0 : -9223372036854775808 ≤ x) (h1 : x ≤ 9223372036854775807) : wrap64 x = x := by
  unfold wrap64; omega
theorem wf_i64 {n : Int} (h : (Lit.int .i64 n).wf = true) : -9223372036854775808 ≤ n ∧ n ≤ 9223372036854775807 := by
  simpa [Lit.wf, IntKind.min, IntKind.max, IntKind.signed, IntKind.bits] using h
/-- A loop over a list, from its end. L: what the loop tells from place i on. -/
theorem each {α γ : Type} (L : Int → γ) (l : List α) (z : α) (R : Nat → List α → γ → Prop) (nil : R l.length [] (L l.length))
    (cons : ∀ (i : Nat) (x : α) (t : List α), i < l.length → l.getD i z = x → l.drop i = x :: t → l.drop (i + 1) = t → R (i + 1) t (L ((i : Int) + 1)) → R i (x :: t) (L i)) : R 0 l (L 0) := by
  have key : ∀ (t : List α) (i : Nat), l.drop i = t → i ≤ l.length → R i t (L i) := by
    intro t
    induction t with
    | nil =>
      intro i h hi
      have : l.length ≤ i := by simpa [List.drop_eq_nil_iff] using h
      obtain rfl : i = l.length := by omega
      exact nil
    | cons x t ih =>
      intro i h hi
      have hlt : i < l.length := by
        rcases Nat.lt_or_ge i l.length with h' | h'
        · exact h'
        · rw [List.drop_eq_nil_of_le h'] at h; cases h
      have h2 := List.drop_eq_getElem_cons hlt
      rw [h] at h2
      injection h2 with h3 h4
      refine cons i x t hlt ?_ h h4.symm ?_
      · rw [List.getD_eq_getElem?_getD, List.getElem?_eq_getElem hlt]; exact h3.symm
      · have := ih (i + 1) h4.symm (by omega)
        rwa [show ((i + 1 : Nat) : Int) = (i : Int) + 1 from by omega] at this
  have := key l 0 rfl (Nat.zero_le _)
  rwa [show ((0 : Nat) : Int) = 0 from rfl] at this
theorem bt_data (s : ByteArray) (i : Nat) (h : i < s.size) : bt s (i : Int) = ((s.data.toList.getD i 0).toNat : Int) := by
  obtain ⟨d⟩ := s
  have h' : i < d.size := h
  have : bt ⟨d⟩ (i : Int) = ((d[i]).toNat : Int) := by
    unfold bt
    rw [dif_pos (show ((i : Int)).toNat < (⟨d⟩ : ByteArray).size from by simpa using h)]
    rfl
  rw [this]
  simp [h']
theorem size_data (s : ByteArray) : s.size = s.data.toList.length := by
  obtain ⟨d⟩ := s; simp [ByteArray.size]
theorem toList_data (s : ByteArray) : s.toList = s.data.toList := by
  rw [ByteArray.toList_eq]
theorem ext_data {s t : ByteArray} (h : s.toList = t.toList) : s = t := by
  rw [toList_data, toList_data] at h
  obtain ⟨⟨a⟩⟩ := s
  obtain ⟨⟨b⟩⟩ := t
  simp at h
  rw [h]
theorem toList_iff {s t : ByteArray} : s.toList = t.toList ↔ s = t := ⟨ext_data, fun h => by rw [h]⟩
theorem mem_drop {α : Type} {l t : List α} {x : α} {i : Nat} (h : l.drop i = x :: t) : x ∈ l := List.mem_of_mem_drop (i := i) (by rw [h]; simp)

theorem l1In_some (a b c : Int) : spec_l1In.f a b c = some (decide (b ≤ a ∧ a ≤ c)) := by
  unfold spec_l1In.f
  by_cases h : a ≥ b
  · rw [if_pos h]; congr 1; simp; omega
  · rw [if_neg h]; congr 1; symm; simp; omega

/-! ### Words of letters; angles -/
theorem within_some (a b c : Int) : impl_within.f a b c = some (decide (b ≤ a ∧ a ≤ c)) := by
  unfold impl_within.f
  by_cases h : b ≤ a
  · rw [if_pos h]; simp [h]
  · rw [if_neg h]; simp [h]
/-- All letters between two. -/
def inRange (lo hi : Nat) (l : List UInt8) : Bool := l.all fun c => decide (lo ≤ c.toNat ∧ c.toNat ≤ hi)
/-- One to eight letters between two. -/
def isWord (lo hi : Nat) (s : ByteArray) : Bool := decide (1 ≤ s.size ∧ s.size ≤ 8) && inRange lo hi s.data.toList
theorem dec_size (s : ByteArray) : decide ((1 : Int) ≤ s.size ∧ (s.size : Int) ≤ 8) = decide (1 ≤ s.size ∧ s.size ≤ 8) := by
  by_cases h : 1 ≤ s.size ∧ s.size ≤ 8
  · rw [decide_eq_true h, decide_eq_true (by omega)]
  · rw [decide_eq_false h, decide_eq_false (by omega)]

/-- What 'letters' says of a list of letters: they are those from lo to hi. -/
def Letters (lo hi : Nat) (m : ByteArray) : Prop := ∀ n, n < 256 → (decide (Lib.indexByte m.data.toList n.toUInt8 < 0)) = !decide (lo ≤ n ∧ n ≤ hi)
instance (lo hi : Nat) (m : ByteArray) : Decidable (Letters lo hi m) := by unfold Letters; infer_instance
theorem hasOnly_some (lo hi : Nat) (s m : ByteArray) (hs : s.size ≤ 9223372036854775807) (hm : Letters lo hi m) : impl_hasOnly.F s m = some (inRange lo hi s.data.toList) := by
  rw [impl_hasOnly.F_eq]
  refine each (L := fun i => impl_hasOnly.L0 s m s.size i) s.data.toList 0 (fun _ t o => o = some (inRange lo hi t)) ?_ ?_
  · show impl_hasOnly.L0 s m _ _ = _
    rw [impl_hasOnly.L0_eq, if_neg (by rw [← size_data]; omega)]; rfl
  · intro i x t hi' hx _ _ ih
    have hi2 : i < s.size := by rw [size_data]; exact hi'
    have hb := hm x.toNat x.toNat_lt
    show impl_hasOnly.L0 s m _ _ = _
    rw [impl_hasOnly.L0_eq, if_pos (by omega), if_pos (by omega), if_pos (by omega), bt_data s i hi2, hx, wrap_in (by omega) (by omega)]
    simp only [strings_IndexByte.f, stringslite_IndexByte.f, Option.bind_some, Int.toNat_natCast]
    by_cases h1 : lo ≤ x.toNat ∧ x.toNat ≤ hi
    · rw [if_neg (by simp [h1] at hb; simpa using hb), ih]
      simp [inRange, h1]
    · rw [if_pos (by simpa [h1] using hb)]
      simp [inRange, h1]
theorem isWordOf_some (lo hi : Nat) (s m : ByteArray) (hs : s.size ≤ 9223372036854775807) (hm : Letters lo hi m) : impl_isWordOf.F s m = some (isWord lo hi s) := by
  rw [impl_isWordOf.F_eq, within_some, hasOnly_some lo hi s m hs hm]
  simp only [Option.bind_some, isWord]
  by_cases h : 1 ≤ s.size ∧ s.size ≤ 8
  · have : (1 : Int) ≤ s.size ∧ (s.size : Int) ≤ 8 := by omega
    simp [h, this]
  · have : ¬ ((1 : Int) ≤ s.size ∧ (s.size : Int) ≤ 8) := by omega
    simp [h, this]


theorem isAngle_some (a : Int) : impl_isAngle.f a = some (decide (-90 ≤ a ∧ a ≤ 90)) := by
  unfold impl_isAngle.f; rw [within_some]; rfl
theorem loAngle_some (a : Int) : spec_loAngle.f a = some (decide (-90 ≤ a ∧ a ≤ 90)) := by
  unfold spec_loAngle.f; rw [l1In_some]; rfl

/-! ### Loci -/
abbrev Loc := S58
theorem rd_loc (l : List Loc) (i : Nat) : rd_T58 l (i : Int) = l.getD i z58 := by simp [rd_T58]
theorem naName_some (s : ByteArray) (hs : s.size ≤ 9223372036854775807) : spec_naName.F s = some (isWord 97 122 s) := by
  rw [spec_naName.F_eq]
  have := each (L := fun i => spec_naName.L0 s i) s.data.toList 0 (fun _ t o => o = some (inRange 97 122 t && decide (1 ≤ s.size ∧ s.size ≤ 8))) ?_ ?_
  · rw [this, isWord, Bool.and_comm]
  · show spec_naName.L0 s _ = _
    rw [spec_naName.L0_eq, if_neg (by rw [← size_data]; omega), l1In_some]
    simp only [Option.bind_some, inRange, List.all_nil, Bool.true_and, dec_size]
  · intro i x t hi hx _ _ ih
    have hi' : i < s.size := by rw [size_data]; exact hi
    show spec_naName.L0 s _ = _
    rw [spec_naName.L0_eq, if_pos (by omega), if_pos (by omega), bt_data s i hi', hx, wrap_in (by omega) (by omega)]
    by_cases h1 : x.toNat < 97
    · rw [if_pos (by omega)]; simp [inRange]; omega
    · rw [if_neg (by omega)]
      by_cases h2 : 122 < x.toNat
      · rw [if_pos (by omega)]; simp [inRange]; omega
      · rw [if_neg (by omega), ih]
        have h3 : 97 ≤ x.toNat := by omega
        have h4 : x.toNat ≤ 122 := by omega
        simp [inRange, h3, h4]
/-- The first place of a referent from place i on, or -1. -/
def idxFrom (a : ByteArray) : List Loc → Nat → Int
  | [], _ => -1
  | x :: t, i => if x.f0.toList = a.toList then i else idxFrom a t (i + 1)
theorem idxFrom_cases (a : ByteArray) : ∀ (t : List Loc) (i : Nat), (idxFrom a t i = -1 ∧ ∀ x ∈ t, x.f0 ≠ a) ∨ ∃ j, j < t.length ∧ idxFrom a t i = (i + j : Nat) ∧ (t.getD j z58).f0 = a
  | [], _ => .inl ⟨rfl, by simp⟩
  | x :: t, i => by
    unfold idxFrom
    by_cases h : x.f0.toList = a.toList
    · rw [if_pos h]
      exact .inr ⟨0, by simp, by simp, by simpa using ext_data h⟩
    · rw [if_neg h]
      rcases idxFrom_cases a t (i + 1) with ⟨h1, h2⟩ | ⟨j, h1, h2, h3⟩
      · refine .inl ⟨h1, fun y hy => ?_⟩
        rcases List.mem_cons.1 hy with rfl | hy
        · exact fun e => h (by rw [e])
        · exact h2 y hy
      · exact .inr ⟨j + 1, by simpa using h1, by rw [h2]; omega, by simpa using h3⟩
theorem loFind_some (l : List Loc) (a : ByteArray) (hl : l.length ≤ 9223372036854775807) : spec_loFind.F l a = some (idxFrom a l 0) := by
  rw [spec_loFind.F_eq]
  refine each (L := fun i => spec_loFind.L0 a l l.length i) l z58 (fun i t o => o = some (idxFrom a t i)) ?_ ?_
  · show spec_loFind.L0 a l _ _ = _
    rw [spec_loFind.L0_eq, if_neg (by omega)]; rfl
  · intro i x t hi hx _ _ ih
    show spec_loFind.L0 a l _ _ = _
    rw [spec_loFind.L0_eq, if_pos (by omega), if_pos (by omega), if_pos (by omega), rd_loc, hx, wrap_in (by omega) (by omega)]
    unfold idxFrom
    split
    · rfl
    · exact ih
theorem locusOf_some (l : List Loc) (a : ByteArray) (hl : l.length ≤ 9223372036854775807) : impl_locusOf.F l a = some (idxFrom a l 0) := by
  rw [impl_locusOf.F_eq, slices_IndexFunc_Locus_impl_locusOf_1.F_eq]
  rw [show slices_IndexFunc_Locus_impl_locusOf_1.L0 l (l.length : Int) 0 a = some (idxFrom a l 0) from ?_]; rfl
  refine each (L := fun i => slices_IndexFunc_Locus_impl_locusOf_1.L0 l l.length i a) l z58 (fun i t o => o = some (idxFrom a t i)) ?_ ?_
  · show slices_IndexFunc_Locus_impl_locusOf_1.L0 l _ _ a = _
    rw [slices_IndexFunc_Locus_impl_locusOf_1.L0_eq, if_neg (by omega)]; rfl
  · intro i x t hi hx _ _ ih
    show slices_IndexFunc_Locus_impl_locusOf_1.L0 l _ _ a = _
    rw [slices_IndexFunc_Locus_impl_locusOf_1.L0_eq, if_pos (by omega), if_pos (by omega), if_pos (by omega), rd_loc, hx, wrap_in (by omega) (by omega)]
    unfold idxFrom impl_locusOf_1.f
    simp only [Option.bind_some, beq_iff_eq]
    split
    · rfl
    · exact ih
/-- Is element i as it should be, for those ahead of it? -/
def okAt (l : List Loc) (i : Nat) (x : Loc) : Bool :=
  isWord 97 122 x.f0 && (decide (-90 ≤ x.f1 ∧ x.f1 ≤ 90) && (decide (i = 0 ∨ (l.getD (i - 1) z58).f1 < x.f1) && decide (idxFrom x.f0 (l.take i) 0 < 0)))
def goodFrom (l : List Loc) : Nat → List Loc → Bool
  | _, [] => decide (l.length ≤ 8)
  | i, x :: t => okAt l i x && goodFrom l (i + 1) t
def good (l : List Loc) : Bool := goodFrom l 0 l
/-- The letters' lengths are lengths. -/
def Sized (l : List Loc) : Prop := l.length ≤ 9223372036854775807 ∧ ∀ x ∈ l, x.f0.size ≤ 9223372036854775807
theorem Sized.take {l : List Loc} (h : Sized l) (i : Nat) : (l.take i).length ≤ 9223372036854775807 := Nat.le_trans (List.length_take_le' ..) h.1
theorem loGood_some (l : List Loc) (hl : Sized l) : spec_loGood.F l = some (good l) := by
  rw [spec_loGood.F_eq]
  have hl1 := hl.1
  refine each (L := fun i => spec_loGood.L0 l l l.length i) l z58 (fun i t o => o = some (goodFrom l i t)) ?_ ?_
  · show spec_loGood.L0 l l _ _ = _
    rw [spec_loGood.L0_eq, if_neg (by omega)]
    simp only [goodFrom, Option.some.injEq, decide_eq_decide]; omega
  · intro i x t hi hx hd _ ih
    have hs : x.f0.size ≤ 9223372036854775807 := hl.2 x (mem_drop hd)
    show spec_loGood.L0 l l _ _ = _
    rw [spec_loGood.L0_eq, if_pos (by omega), if_pos (by omega), if_pos (by omega), rd_loc, hx]
    try simp only [spec_loGood.J1_eq, decide_eq_true_eq, eq_self, if_true]
    rw [wrap_in (x := (i : Int) + 1) (by omega) (by omega), naName_some _ hs, loAngle_some, Int.toNat_natCast, loFind_some _ _ (hl.take i)]
    simp only [Option.bind_some, goodFrom, okAt]
    cases isWord 97 122 x.f0
    · simp
    by_cases ha : -90 ≤ x.f1 ∧ x.f1 ≤ 90
    case neg => simp [ha]
    rw [decide_eq_true ha]
    simp only [if_true, Bool.true_and]
    by_cases h0 : i = 0
    · subst h0
      simp only [List.take_zero, Int.natCast_zero, gt_iff_lt, Int.lt_irrefl, if_false, true_or, decide_true, Bool.true_and]
      rw [if_pos (by omega)]
      simp [idxFrom]
      simpa using ih
    · have h1 : (i : Int) - 1 = ((i - 1 : Nat) : Int) := by omega
      rw [if_pos (by omega), wrap_in (by omega) (by omega), h1, if_pos (by omega), if_pos (by omega), rd_loc, if_pos (show (i : Int) ≤ (l.length : Int) by omega)]
      by_cases h2 : (l.getD (i - 1) z58).f1 < x.f1
      · rw [if_neg (by omega)]
        simp only [h2, or_true, decide_true, Bool.true_and]
        by_cases h3 : idxFrom x.f0 (l.take i) 0 < 0
        · rw [if_neg (by omega), ih]; simp [h3]
        · rw [if_pos (by omega)]; simp [h3]
      · rw [if_pos (by omega), decide_eq_false (p := i = 0 ∨ _) (by simp only [h0, h2, or_self, not_false_eq_true])]; simp
theorem areLoci_some (l : List Loc) (hl : Sized l) : impl_AreLoci.F l = some (good l) := by
  rw [impl_AreLoci.F_eq]
  have hl1 := hl.1
  refine each (L := fun i => impl_AreLoci.L0 l l l.length i) l z58 (fun i t o => o = some (goodFrom l i t)) ?_ ?_
  · show impl_AreLoci.L0 l l _ _ = _
    rw [impl_AreLoci.L0_eq, if_neg (by omega)]
    simp only [goodFrom, Option.some.injEq, decide_eq_decide]; omega
  · intro i x t hi hx hd _ ih
    have hs : x.f0.size ≤ 9223372036854775807 := hl.2 x (mem_drop hd)
    show impl_AreLoci.L0 l l _ _ = _
    rw [impl_AreLoci.L0_eq, if_pos (by omega), if_pos (by omega), if_pos (by omega), rd_loc, hx]
    try simp only [impl_AreLoci.J1_eq, decide_eq_true_eq, eq_self, if_true]
    rw [wrap_in (x := (i : Int) + 1) (by omega) (by omega), isWordOf_some 97 122 _ _ hs (by decide +kernel), isAngle_some, Int.toNat_natCast, locusOf_some _ _ (hl.take i)]
    simp only [Option.bind_some, goodFrom, okAt]
    cases isWord 97 122 x.f0
    · simp
    by_cases ha : -90 ≤ x.f1 ∧ x.f1 ≤ 90
    case neg => simp [ha]
    rw [decide_eq_true ha]
    simp only [if_true, Bool.true_and]
    by_cases h0 : i = 0
    · subst h0
      simp only [List.take_zero, Int.natCast_zero, gt_iff_lt, Int.lt_irrefl, if_false, true_or, decide_true, Bool.true_and]
      rw [if_pos (by omega)]
      simp [idxFrom]
      simpa using ih
    · have h1 : (i : Int) - 1 = ((i - 1 : Nat) : Int) := by omega
      rw [if_pos (by omega), wrap_in (by omega) (by omega), h1, if_pos (by omega), if_pos (by omega), rd_loc, if_pos (show (i : Int) ≤ (l.length : Int) by omega)]
      by_cases h2 : (l.getD (i - 1) z58).f1 < x.f1
      · rw [if_neg (by omega)]
        simp only [h2, or_true, decide_true, Bool.true_and]
        by_cases h3 : idxFrom x.f0 (l.take i) 0 < 0
        · rw [if_neg (by omega), ih]; simp [h3]
        · rw [if_pos (by omega)]; simp [h3]
      · rw [if_pos (by omega), decide_eq_false (p := i = 0 ∨ _) (by simp only [h0, h2, or_self, not_false_eq_true])]; simp
theorem good_from (l : List Loc) : ∀ (t : List Loc) (i : Nat), goodFrom l i t = true → l.length ≤ 8 ∧ ∀ x ∈ t, (-90 ≤ x.f1 ∧ x.f1 ≤ 90) ∧ 1 ≤ x.f0.size
  | [], _, h => ⟨by simpa [goodFrom] using h, by simp⟩
  | x :: t, i, h => by
    simp only [goodFrom, okAt, isWord, Bool.and_eq_true, decide_eq_true_eq] at h
    obtain ⟨h1, h2⟩ := h
    obtain ⟨h3, h4⟩ := good_from l t (i + 1) h2
    refine ⟨h3, fun y hy => ?_⟩
    rcases List.mem_cons.1 hy with rfl | hy
    · exact ⟨h1.2.1, h1.1.1.1⟩
    · exact h4 y hy
theorem good_facts {l : List Loc} (h : good l = true) : l.length ≤ 8 ∧ ∀ x ∈ l, (-90 ≤ x.f1 ∧ x.f1 ≤ 90) ∧ 1 ≤ x.f0.size := good_from l l 0 h


abbrev LocL := S55
theorem rd_locL (l : List LocL) (i : Nat) : rd_T55 l (i : Int) = l.getD i z55 := by simp [rd_T55]
/-! ### What the statements do with loci -/
def conv (x : LocL) : Loc := ⟨x.f0, x.f1⟩
theorem szLocus_tells (l : List LocL) (a : Int) (hl : l.length ≤ 9223372036854775807) (hw : ∀ x ∈ l, Wf55 x) (ha : 0 ≤ a ∧ a ≤ 1048576) : ∃ t, laws_szLocusS.F l a = some t ∧ (t < 0 ∨ (0 ≤ t ∧ t ≤ a ∧ l.length ≤ a)) := by
  rw [laws_szLocusS.F_eq, wrap_in (by omega) (by omega)]
  by_cases h0 : a - (l.length : Int) < 0
  · rw [if_pos h0]; exact ⟨-1, rfl, .inl (by omega)⟩
  · rw [if_neg h0]
    have := each (L := fun i => fun b => laws_szLocusS.L0 l b i) l z55 (fun _ t f => (∀ x ∈ t, x ∈ l) → ∀ b : Int, 0 ≤ b → b ≤ 1048576 → ∃ t, f b = some t ∧ (t < 0 ∨ (0 ≤ t ∧ t ≤ b))) ?_ ?_ (fun _ h => h) (a - l.length) (by omega) (by omega)
    · obtain ⟨t, h1, h2⟩ := this
      exact ⟨t, h1, by omega⟩
    · intro _ b h1 h2
      refine ⟨b, ?_, by omega⟩
      show laws_szLocusS.L0 l b _ = _
      rw [laws_szLocusS.L0_eq, if_neg (by omega)]
    · intro i x t hi hx hd _ ih hm b h1 h2
      have hz : x.f0.size ≤ 9223372036854775807 := (hw x (hm x (by simp))).1
      show ∃ t, laws_szLocusS.L0 l b _ = some t ∧ _
      rw [laws_szLocusS.L0_eq, if_pos (by omega), if_pos (by omega), rd_locL, hx, wrap_in (x := (i : Int) + 1) (by omega) (by omega)]
      unfold laws_szLocus.f
      rw [wrap_in (by omega) (by omega)]
      by_cases h3 : b - (x.f0.size : Int) < 0
      · rw [if_pos h3]; exact ⟨-1, rfl, .inl (by omega)⟩
      · rw [if_neg h3, Option.bind_some, if_neg h3]
        obtain ⟨t, h4, h5⟩ := ih (fun y hy => hm y (by simp [hy])) (b - x.f0.size) (by omega) (by omega)
        exact ⟨t, h4, by omega⟩
theorem take_set {α : Type} (l : List α) (i : Nat) (v : α) (h : i < l.length) : (l.set i v).take (i + 1) = l.take i ++ [v] := by
  rw [List.take_succ_eq_append_getElem (by simpa using h), List.take_set_of_le (Nat.le_refl i)]
  simp
theorem toLocus_some (l : List LocL) (hl : l.length ≤ 1048576) : laws_toLocusS.F l = some (l.map conv) := by
  rw [laws_toLocusS.F_eq, if_pos (by omega), if_pos (by omega)]
  have := each (L := fun i => fun y => laws_toLocusS.L0 l y i) l z55 (fun i t f => ∀ y : List Loc, y.length = l.length → f y = some (y.take i ++ t.map conv)) ?_ ?_ (List.replicate ((l.length : Int)).toNat z58) (by simp)
  · show laws_toLocusS.L0 l _ _ = _
    exact this.trans (by simp)
  · intro y hy
    show laws_toLocusS.L0 l y _ = _
    rw [laws_toLocusS.L0_eq, if_neg (by omega)]
    simp [← hy]
  · intro i x t hi hx _ _ ih y hy
    show laws_toLocusS.L0 l y _ = _
    rw [laws_toLocusS.L0_eq, if_pos (by omega), if_pos (by omega), rd_locL, hx, wrap_in (x := (i : Int) + 1) (by omega) (by omega)]
    unfold laws_toLocus.f
    rw [Option.bind_some, if_pos (by omega)]
    refine (ih _ (by simpa using hy)).trans ?_
    rw [Int.toNat_natCast, take_set _ _ _ (by omega)]
    simp [conv]
theorem eqLocus_refl (l : List Loc) (hl : l.length ≤ 9223372036854775807) : laws_eqLocusS.F l l = some true := by
  rw [laws_eqLocusS.F_eq, if_pos rfl]
  refine each (L := fun i => laws_eqLocusS.L0 l l i) l z58 (fun _ _ o => o = some true) ?_ ?_
  · show laws_eqLocusS.L0 l l _ = _
    rw [laws_eqLocusS.L0_eq, if_neg (by omega)]
  · intro i x t hi hx _ _ ih
    show laws_eqLocusS.L0 l l _ = _
    rw [laws_eqLocusS.L0_eq, if_pos (by omega), if_pos (by omega), if_pos (by omega), rd_loc, hx, wrap_in (x := (i : Int) + 1) (by omega) (by omega)]
    unfold laws_eqLocus.f
    rw [if_pos rfl, if_pos rfl, Option.bind_some, if_pos rfl]
    exact ih
theorem sized_conv {l : List LocL} (hl : l.length ≤ 9223372036854775807) (hw : ∀ x ∈ l, Wf55 x) : Sized (l.map conv) :=
  ⟨by simpa using hl, fun x hx => by
    obtain ⟨y, hy, rfl⟩ := List.mem_map.1 hx
    exact (hw y hy).1⟩



theorem good_short {l : List Loc} (h : good l = true) : ∀ x ∈ l, x.f0.size ≤ 8 := by
  have key : ∀ (t : List Loc) (i : Nat), goodFrom l i t = true → ∀ x ∈ t, x.f0.size ≤ 8 := by
    intro t
    induction t with
    | nil => intro _ _ x hx; simp at hx
    | cons y t ih =>
      intro i h x hx
      simp only [goodFrom, okAt, isWord, Bool.and_eq_true, decide_eq_true_eq] at h
      rcases List.mem_cons.1 hx with rfl | hx
      · exact h.1.1.1.2
      · exact ih _ h.2 x hx
  exact key l 0 h


/-! ### Decimal digits -/
theorem dec_length (n : Nat) : (Lib.decDigits n).length ≤ n + 1 := by
  induction n using Nat.strongRecOn with
  | ind n ih =>
    rw [Lib.decDigits]
    split
    · simp
    · have := ih (n / 10) (by omega)
      rw [List.length_append]
      simp only [List.length_cons, List.length_nil]
      omega

/-! ### Numbers in decimal -/
theorem digit_fin : ∀ n : Fin 10, strOfNums [(wrap64 (48 + (n.val : Int))) % 256] = ⟨#[UInt8.ofNat (48 + n.val)]⟩ := by decide +kernel
theorem digit_some {n : Nat} (h : n < 10) : strOfNums [(wrap64 (48 + (n : Int))) % 256] = ⟨#[UInt8.ofNat (48 + n)]⟩ := digit_fin ⟨n, h⟩
theorem num_some (n : Nat) : n < 4611686018427387904 → spec_l1Num.F (n : Int) = some ⟨(Lib.decDigits n).toArray⟩ := by
  induction n using Nat.strongRecOn with
  | ind n ih =>
    intro hn
    rw [spec_l1Num.F_eq]
    by_cases c : n < 10
    · rw [if_pos (by omega), Lib.decDigits_one c, digit_some c]
    · have t1 : (n : Int).tdiv 10 = ((n / 10 : Nat) : Int) := by rw [Int.tdiv_eq_ediv_of_nonneg (by omega)]; omega
      have t2 : (n : Int).tmod 10 = ((n % 10 : Nat) : Int) := by rw [Int.tmod_eq_emod_of_nonneg (by omega)]; omega
      have hl := dec_length (n / 10)
      rw [if_neg (by omega), t1, wrap_in (by omega) (by omega), ih (n / 10) (by omega) (by omega), Option.bind_some, Option.bind_some, t2, digit_some (by omega)]
      have e : Lib.decDigits n = Lib.decDigits (n / 10) ++ [UInt8.ofNat (48 + n % 10)] := by rw [Lib.decDigits, dif_neg c]
      rw [if_pos (by simp only [ByteArray.size, List.size_toArray, List.length_cons, List.length_nil]; omega), e]
      first
      | rfl
      | (congr 1; done)
      | (congr 1; apply ext_data; rw [toList_data, toList_data]; simp)

/-! ### Small numbers with a sign, as texts -/
def it (n : Int) : ByteArray := ⟨(Lib.itoa n).toArray⟩
theorem it_data (n : Int) : (it n).data.toList = Lib.itoa n := rfl
theorem it_impl {n : Int} (h : -90 ≤ n ∧ n ≤ 90) : strconv_Itoa.f n = some (it n) := by
  unfold strconv_Itoa.f; rw [if_pos (by omega)]; rfl
theorem it_spec {n : Int} (h : -90 ≤ n ∧ n ≤ 90) : spec_l1Int.F n = some (it n) := by
  rw [spec_l1Int.F_eq]
  by_cases c : n < 0
  · obtain ⟨m, rfl⟩ : ∃ m : Nat, n = -(m : Int) := ⟨n.natAbs, by omega⟩
    have hl := dec_length m
    have e : - -(m : Int) = (m : Int) := by omega
    have hd : (⟨(Lib.decDigits m).toArray⟩ : ByteArray).size = (Lib.decDigits m).length := by simp [ByteArray.size]
    rw [if_pos c, e, wrap_in (by omega) (by omega), num_some m (by omega), Option.bind_some, if_pos (by omega)]
    congr 1
    apply ext_data
    rw [toList_data, toList_data, it_data]
    unfold Lib.itoa
    rw [if_pos c]
    simp
  · obtain ⟨m, rfl⟩ := Int.eq_ofNat_of_zero_le (show 0 ≤ n by omega)
    have e : it (m : Int) = ⟨(Lib.decDigits m).toArray⟩ := by
      unfold it Lib.itoa
      rw [if_neg c, Int.toNat_natCast]
    rw [if_neg c, num_some m (by omega), Option.bind_some, e]
theorem it_size {n : Int} (h : -90 ≤ n ∧ n ≤ 90) : (it n).size ≤ 92 := by
  rw [size_data, it_data]
  unfold Lib.itoa
  split
  · have := dec_length n.natAbs
    rw [List.length_cons]; omega
  · have := dec_length n.toNat
    omega

/-! ### Loci as texts -/
def lcTx (x : Loc) : ByteArray := ((x.f0 ++ ⟨#[64]⟩) ++ it x.f1) ++ ⟨#[59]⟩
def loTx (l : List Loc) (s : ByteArray) : ByteArray := l.foldl (fun s x => s ++ lcTx x) s
theorem lo_loop (l : List Loc) (hl : l.length ≤ 100) (hx : ∀ x ∈ l, x.f0.size ≤ 8 ∧ -90 ≤ x.f1 ∧ x.f1 ≤ 90) : spec_loText.F l = some (loTx l ⟨#[]⟩) ∧ impl_lociText.F l = some (loTx l ⟨#[]⟩) := by
  rw [spec_loText.F_eq, impl_lociText.F_eq]
  have n0 : ((⟨#[]⟩ : ByteArray)).size = 0 := rfl
  have := each (L := fun i => ((fun s => spec_loText.L0 s l l.length i : ByteArray → _), (fun s => impl_lociText.L0 s l l.length i : ByteArray → _))) l z58
    (fun i t f => (∀ x ∈ t, x ∈ l) → ∀ s : ByteArray, s.size ≤ 200 * i → f.1 s = some (loTx t s) ∧ f.2 s = some (loTx t s)) ?_ ?_ (fun _ h => h) ⟨#[]⟩ (by omega)
  · exact this
  · intro _ s _
    have hn : ¬ ((l.length : Int) < (l.length : Int)) := by omega
    show spec_loText.L0 s l _ _ = _ ∧ impl_lociText.L0 s l _ _ = _
    rw [spec_loText.L0_eq, impl_lociText.L0_eq, if_neg hn, if_neg hn]
    exact ⟨rfl, rfl⟩
  · intro i x t hi hx' hd _ ih hm s hs
    obtain ⟨h8, h9⟩ := hx x (hm x (by simp))
    have hz := it_size h9
    have n1 : ((⟨#[64]⟩ : ByteArray)).size = 1 := rfl
    have n2 : ((⟨#[59]⟩ : ByteArray)).size = 1 := rfl
    have i1 : (i : Int) < (l.length : Int) := by omega
    have i2 : (0 : Int) ≤ (i : Int) := by omega
    have k1 : x.f0.size + 1 ≤ 9223372036854775807 := by omega
    have k2 : (x.f0 ++ (⟨#[64]⟩ : ByteArray)).size + (it x.f1).size ≤ 9223372036854775807 := by simp only [ByteArray.size_append, n1]; omega
    have k3 : ((x.f0 ++ (⟨#[64]⟩ : ByteArray)) ++ it x.f1).size + 1 ≤ 9223372036854775807 := by simp only [ByteArray.size_append, n1]; omega
    have k5 : (lcTx x).size ≤ 102 := by unfold lcTx; simp only [ByteArray.size_append, n1, n2]; omega
    have k4 : s.size + (((x.f0 ++ (⟨#[64]⟩ : ByteArray)) ++ it x.f1) ++ (⟨#[59]⟩ : ByteArray)).size ≤ 9223372036854775807 := by
      have : (((x.f0 ++ (⟨#[64]⟩ : ByteArray)) ++ it x.f1) ++ (⟨#[59]⟩ : ByteArray)) = lcTx x := rfl
      rw [this]; omega
    show spec_loText.L0 s l _ _ = _ ∧ impl_lociText.L0 s l _ _ = _
    rw [spec_loText.L0_eq, impl_lociText.L0_eq]
    simp only [i1, i2, if_true, rd_loc, hx', k1, k2, k3, k4, it_spec h9, it_impl h9, Option.bind_some, wrap_in (x := (i : Int) + 1) (by omega) (by omega)]
    exact ih (fun y hy => hm y (by simp [hy])) _ (by
      show (s ++ lcTx x).size ≤ _
      rw [ByteArray.size_append]; omega)
theorem lo_texts {l : List Loc} (h : good l = true) : spec_loText.F l = some (loTx l ⟨#[]⟩) ∧ impl_lociText.F l = some (loTx l ⟨#[]⟩) := by
  obtain ⟨g1, g2⟩ := good_facts h
  exact lo_loop l (by omega) (fun x hx => ⟨good_short h x hx, (g2 x hx).1⟩)

theorem FnExactLociText : laws_FnExactLociText.Pure := by
  intro l hw
  obtain ⟨hl, hwf⟩ := hw
  refine lim_rounds (?_ : laws_FnExactLociText.F l = some true)
  obtain ⟨t, ht, h⟩ := szLocus_tells l 1048576 hl hwf (by omega)
  rw [laws_FnExactLociText.F_eq, ht, Option.bind_some]
  by_cases h3 : t < 0
  · rw [if_pos h3]
  rw [if_neg h3]
  have hl2 : l.length ≤ 1048576 := by omega
  have hz := sized_conv hl hwf
  have hcl : (l.map conv).length ≤ 9223372036854775807 := by rw [List.length_map]; omega
  simp only [toLocus_some l hl2, Option.bind_some]
  rw [spec_LociText.F_eq, impl_LociText.F_eq, loGood_some _ hz, areLoci_some _ hz, Option.bind_some, Option.bind_some]
  cases hg : good (l.map conv)
  · simp only [Bool.false_eq_true, if_false, Option.bind_some, if_true, laws_FnExactLociText.J0_eq, bne_self_eq_false, toLocus_some l hl2, eqLocus_refl _ hcl]
  · obtain ⟨h1, h2⟩ := lo_texts hg
    simp only [h1, h2, Bool.false_eq_true, if_false, Option.bind_some, if_true, laws_FnExactLociText.J0_eq, bne_self_eq_false, toLocus_some l hl2, eqLocus_refl _ hcl]

end Go.Proofs.YtbheajjagkdjmaaDoor.Pure
