/- The pure statement of the law FnLoci: for all arguments within their bounds its Lean function answers true. -/
import Derived.Test.YtbheajjagkdjmaaPFnLocixD0
namespace Go.Proofs.Ytbheajjagkdjmaa.Pure
open Go.RowKit Go.Proofs.Ytbheajjagkdjmaa.PFnLoci Go.Proofs.YtbheajjagkdjmaaW.PrintWords Go.Proofs.YtbheajjagkdjmaaW.PrintLast
set_option linter.unusedVariables false
set_option linter.unusedSimpArgs false
/-! ### Numbers, loops, letters -/
theorem wrap_in {x : Int} (h0 : -9223372036854775808 ≤ x) (h1 : x ≤ 9223372036854775807) : wrap64 x = x := by
 unfold wrap64; omega
theorem wf_i64 {n : Int} (h : (Lit.int .i64 n).wf = true) : -9223372036854775808 ≤ n ∧ n ≤ 9223372036854775807 := by
 simpa [Lit.wf, IntKind.min, IntKind.max, IntKind.signed, IntKind.bits] using h
/-- A loop over a list, from its end. L: what the loop tells from place i on. -/
theorem each {α γ : Type} (L : Int → γ) (l : List α) (z : α) (R : Nat → List α → γ → Prop) (nil : R l.length [] (L l.length))
 (cons : ∀ (i : Nat) (x : α) (t : List α), i < l.length → l.getD i z = x → l.drop i = x :: t → l.drop (i + 1) = t → R (i + 1) t (L ((i : Int) + 1)) → R i (x :: t) (L i)) : R 0 l (L 0) := by
 have key : ∀ (t : List α) (i : Nat), l.drop i = t → i ≤ l.length → R i t (L i) := by
  intro t
  induction t with
  | nil =>
   intro i h hi
   have : l.length ≤ i := by simpa [List.drop_eq_nil_iff] using h
   obtain rfl : i = l.length := by omega
   exact nil
  | cons x t ih =>
   intro i h hi
   have hlt : i < l.length := by
    rcases Nat.lt_or_ge i l.length with h' | h'
    ·exact h'
    ·rw [List.drop_eq_nil_of_le h'] at h; cases h
   have h2 := List.drop_eq_getElem_cons hlt
   rw [h] at h2
   injection h2 with h3 h4
   refine cons i x t hlt ?_ h h4.symm ?_
   ·rw [List.getD_eq_getElem?_getD, List.getElem?_eq_getElem hlt]; exact h3.symm
   ·have := ih (i + 1) h4.symm (by omega)
    rwa [show ((i + 1 : Nat) : Int) = (i : Int) + 1 from by omega] at this
 have := key l 0 rfl (Nat.zero_le _)
 rwa [show ((0 : Nat) : Int) = 0 from rfl] at this
theorem bt_data (s : ByteArray) (i : Nat) (h : i < s.size) : bt s (i : Int) = ((s.data.toList.getD i 0).toNat : Int) := by
 obtain ⟨d⟩ := s
 have h' : i < d.size := h
 have : bt ⟨d⟩ (i : Int) = ((d[i]).toNat : Int) := by
  unfold bt
  rw [dif_pos (show ((i : Int)).toNat < (⟨d⟩ : ByteArray).size from by simpa using h)]
  rfl
 rw [this]
 simp [h']
theorem size_data (s : ByteArray) : s.size = s.data.toList.length := by
 obtain ⟨d⟩ := s; simp [ByteArray.size]
theorem toList_data (s : ByteArray) : s.toList = s.data.toList := by
 rw [ByteArray.toList_eq]
theorem ext_data {s t : ByteArray} (h : s.toList = t.toList) : s = t := by
 rw [toList_data, toList_data] at h
 obtain ⟨⟨a⟩⟩ := s
 obtain ⟨⟨b⟩⟩ := t
 simp at h
 rw [h]
theorem toList_iff {s t : ByteArray} : s.toList = t.toList ↔ s = t := ⟨ext_data, fun h => by rw [h]⟩
theorem mem_drop {α : Type} {l t : List α} {x : α} {i : Nat} (h : l.drop i = x :: t) : x ∈ l := List.mem_of_mem_drop (i := i) (by rw [h]; simp)

/-! ### What is drawn -/
def Bytes (l : List Int) : Prop := l.length ≤ 1048576 ∧ ∀ x ∈ l, 0 ≤ x ∧ x < 256
theorem bytes_of {l : List Int} (h : l.length ≤ 1048576) (hw : ∀ x ∈ l, (Lit.int .u8 x).wf = true) : Bytes l := ⟨h, fun x hx => by
 have := hw x hx
 simp [Lit.wf, IntKind.min, IntKind.max, IntKind.signed, IntKind.bits] at this
 omega⟩
theorem and_byte (z : Int) (h0 : 0 ≤ z) (h1 : z < 18446744073709551616) : 0 ≤ Go.bits .and .u64 z 255 ∧ Go.bits .and .u64 z 255 < 256 := by
 obtain ⟨n, rfl⟩ := Int.eq_ofNat_of_zero_le h0
 have h := bits_and_u64_nat n 255 (by omega) (by omega)
 have e : (((255 : Nat) : Int)) = 255 := rfl
 rw [e] at h
 rw [h]
 have : n &&& 255 ≤ 255 := Nat.and_le_right
 omega
theorem next_tells (l : List Int) (hl : Bytes l) (a s : Int) (ha : 0 ≤ a ∧ a ≤ 2000000000) : ∃ r b t, spec_l1Cur_next.f l a s = some (r, b, t) ∧ (0 ≤ r ∧ r < 256) ∧ 0 ≤ b ∧ b ≤ a + 1 := by
 have hu : ∀ y : Int, 0 ≤ IntKind.u64.wrap y ∧ IntKind.u64.wrap y < 18446744073709551616 := fun y => by
  simp only [IntKind.wrap, IntKind.signed, IntKind.bits]
  simp
  omega
 have tail : ∀ y : Int, 0 ≤ wrap64 (Go.bits .and .u64 ((IntKind.u64.wrap y) / 1099511627776) 255) ∧ wrap64 (Go.bits .and .u64 ((IntKind.u64.wrap y) / 1099511627776) 255) < 256 := fun y => by
  have h1 := hu y
  have h2 := and_byte (IntKind.u64.wrap y / 1099511627776) (by omega) (by omega)
  rw [wrap_in (by omega) (by omega)]
  exact h2
 unfold spec_l1Cur_next.f
 rw [wrap_in (x := a + 1) (by omega) (by omega)]
 by_cases h : a < (l.length : Int)
 ·rw [if_pos h, if_pos ha.1]
  have hr : 0 ≤ rd l a ∧ rd l a < 256 := by
   obtain ⟨n, rfl⟩ := Int.eq_ofNat_of_zero_le ha.1
   have hn : n < l.length := by omega
   have := hl.2 l[n] (List.getElem_mem hn)
   have e : rd l (n : Int) = l[n] := by simp [rd, hn]
   rw [e]
   exact this
  split
  ·refine ⟨_, _, _, rfl, ?_, by omega, by omega⟩
   rw [wrap_in (by omega) (by omega)]
   exact hr
  ·exact ⟨_, _, _, rfl, tail _, by omega, by omega⟩
 ·rw [if_neg h]
  split
  ·exact ⟨_, _, _, rfl, by omega, by omega, by omega⟩
  ·exact ⟨_, _, _, rfl, tail _, by omega, by omega⟩
theorem pick_tells (l : List Int) (hl : Bytes l) (a s n : Int) (ha : 0 ≤ a ∧ a ≤ 1000000000) (hn : n ≤ 1048576) : ∃ r b t, spec_l1Cur_pick.f l a s n = some (r, b, t) ∧ 0 ≤ r ∧ (1 ≤ n → r < n) ∧ 0 ≤ b ∧ b ≤ a + 2 := by
 unfold spec_l1Cur_pick.f
 by_cases h : n ≤ 1
 ·rw [if_pos h]
  exact ⟨_, _, _, rfl, by omega, by omega, by omega, by omega⟩
 rw [if_neg h]
 obtain ⟨r, b, t, h1, h2, h3, h4⟩ := next_tells l hl a s (by omega)
 rw [h1, Option.bind_some]
 dsimp only
 by_cases h5 : n > 200
 ·rw [if_pos h5]
  obtain ⟨r2, b2, t2, k1, k2, k3, k4⟩ := next_tells l hl b t (by omega)
  rw [k1, Option.bind_some]
  dsimp only
  rw [if_neg (by omega), wrap_in (x := r * 256) (by omega) (by omega), wrap_in (x := r * 256 + r2) (by omega) (by omega)]
  refine ⟨_, _, _, rfl, Int.tmod_nonneg _ (by omega), fun _ => Int.tmod_lt_of_pos _ (by omega), by omega, by omega⟩
 ·rw [if_neg h5, if_neg (by omega)]
  refine ⟨_, _, _, rfl, Int.tmod_nonneg _ (by omega), fun _ => Int.tmod_lt_of_pos _ (by omega), by omega, by omega⟩
theorem of_tells (l : List Int) (hl : Bytes l) (a s : Int) (m : List ByteArray) (ha : 0 ≤ a ∧ a ≤ 1000000000) (hm : m ≠ [] ∧ m.length ≤ 1048576) : ∃ r b t, spec_l1Cur_of.f l a s m = some (r, b, t) ∧ r ∈ m ∧ 0 ≤ b ∧ b ≤ a + 2 := by
 have h0 : 0 < m.length := List.length_pos_iff.2 hm.1
 obtain ⟨r, b, t, h1, h2, h3, h4, h5⟩ := pick_tells l hl a s m.length ha (by omega)
 obtain ⟨n, rfl⟩ := Int.eq_ofNat_of_zero_le h2
 have hn : n < m.length := by omega
 unfold spec_l1Cur_of.f
 rw [h1, Option.bind_some]
 dsimp only
 rw [if_pos (by omega), if_pos (by omega)]
 refine ⟨_, _, _, rfl, ?_, h4, h5⟩
 have e : rdOf ByteArray.empty m (n : Int) = m[n] := by simp [rdOf, hn]
 show rdOf ByteArray.empty m (n : Int) ∈ m
 rw [e]
 exact List.getElem_mem hn
theorem among_tells (l : List Int) (hl : Bytes l) (a s : Int) (m : List Int) (ha : 0 ≤ a ∧ a ≤ 1000000000) (hm : m ≠ [] ∧ m.length ≤ 1048576) : ∃ r b t, spec_l1Cur_among.f l a s m = some (r, b, t) ∧ r ∈ m ∧ 0 ≤ b ∧ b ≤ a + 2 := by
 have h0 : 0 < m.length := List.length_pos_iff.2 hm.1
 obtain ⟨r, b, t, h1, h2, h3, h4, h5⟩ := pick_tells l hl a s m.length ha (by omega)
 obtain ⟨n, rfl⟩ := Int.eq_ofNat_of_zero_le h2
 have hn : n < m.length := by omega
 unfold spec_l1Cur_among.f
 rw [h1, Option.bind_some]
 dsimp only
 rw [if_pos (by omega), if_pos (by omega)]
 refine ⟨_, _, _, rfl, ?_, h4, h5⟩
 have e : rd m (n : Int) = m[n] := by simp [rd, hn]
 show rd m (n : Int) ∈ m
 rw [e]
 exact List.getElem_mem hn

theorem one_tells (l : List Int) (hl : Bytes l) (a s n : Int) (ha : 0 ≤ a ∧ a ≤ 1000000000) (hn : n ≤ 1048576) : ∃ r b t, spec_l1Cur_one.f l a s n = some (r, b, t) ∧ 0 ≤ b ∧ b ≤ a + 2 := by
 obtain ⟨r, b, t, h1, h2, h3, h4, h5⟩ := pick_tells l hl a s n ha hn
 unfold spec_l1Cur_one.f
 rw [h1, Option.bind_some]
 exact ⟨_, _, _, rfl, h4, h5⟩


theorem l1In_some (a b c : Int) : spec_l1In.f a b c = some (decide (b ≤ a ∧ a ≤ c)) := by
 unfold spec_l1In.f
 by_cases h : a ≥ b
 ·rw [if_pos h]; congr 1; simp; omega
 ·rw [if_neg h]; congr 1; symm; simp; omega

/-! ### Words of letters; angles -/
theorem within_some (a b c : Int) : impl_within.f a b c = some (decide (b ≤ a ∧ a ≤ c)) := by
 unfold impl_within.f
 by_cases h : b ≤ a
 ·rw [if_pos h]; simp [h]
 ·rw [if_neg h]; simp [h]
/-- All letters between two. -/
def inRange (lo hi : Nat) (l : List UInt8) : Bool := l.all fun c => decide (lo ≤ c.toNat ∧ c.toNat ≤ hi)
/-- One to eight letters between two. -/
def isWord (lo hi : Nat) (s : ByteArray) : Bool := decide (1 ≤ s.size ∧ s.size ≤ 8) && inRange lo hi s.data.toList
theorem dec_size (s : ByteArray) : decide ((1 : Int) ≤ s.size ∧ (s.size : Int) ≤ 8) = decide (1 ≤ s.size ∧ s.size ≤ 8) := by
 by_cases h : 1 ≤ s.size ∧ s.size ≤ 8
 ·rw [decide_eq_true h, decide_eq_true (by omega)]
 ·rw [decide_eq_false h, decide_eq_false (by omega)]

/-- What 'letters' says of a list of letters: they are those from lo to hi. -/
def Letters (lo hi : Nat) (m : ByteArray) : Prop := ∀ n, n < 256 → (decide (Lib.indexByte m.data.toList n.toUInt8 < 0)) = !decide (lo ≤ n ∧ n ≤ hi)
instance (lo hi : Nat) (m : ByteArray) : Decidable (Letters lo hi m) := by unfold Letters; infer_instance
theorem hasOnly_some (lo hi : Nat) (s m : ByteArray) (hs : s.size ≤ 9223372036854775807) (hm : Letters lo hi m) : impl_hasOnly.F s m = some (inRange lo hi s.data.toList) := by
 rw [impl_hasOnly.F_eq]
 refine each (L := fun i => impl_hasOnly.L0 s m s.size i) s.data.toList 0 (fun _ t o => o = some (inRange lo hi t)) ?_ ?_
 ·show impl_hasOnly.L0 s m _ _ = _
  rw [impl_hasOnly.L0_eq, if_neg (by rw [← size_data]; omega)]; rfl
 ·intro i x t hi' hx _ _ ih
  have hi2 : i < s.size := by rw [size_data]; exact hi'
  have hb := hm x.toNat x.toNat_lt
  show impl_hasOnly.L0 s m _ _ = _
  rw [impl_hasOnly.L0_eq, if_pos (by omega), if_pos (by omega), if_pos (by omega), bt_data s i hi2, hx, wrap_in (by omega) (by omega)]
  simp only [strings_IndexByte.f, stringslite_IndexByte.f, Option.bind_some, Int.toNat_natCast]
  by_cases h1 : lo ≤ x.toNat ∧ x.toNat ≤ hi
  ·rw [if_neg (by simp [h1] at hb; simpa using hb), ih]
   simp [inRange, h1]
  ·rw [if_pos (by simpa [h1] using hb)]
   simp [inRange, h1]
theorem isWordOf_some (lo hi : Nat) (s m : ByteArray) (hs : s.size ≤ 9223372036854775807) (hm : Letters lo hi m) : impl_isWordOf.F s m = some (isWord lo hi s) := by
 rw [impl_isWordOf.F_eq, within_some, hasOnly_some lo hi s m hs hm]
 simp only [Option.bind_some, isWord]
 by_cases h : 1 ≤ s.size ∧ s.size ≤ 8
 ·have : (1 : Int) ≤ s.size ∧ (s.size : Int) ≤ 8 := by omega
  simp [h, this]
 ·have : ¬ ((1 : Int) ≤ s.size ∧ (s.size : Int) ≤ 8) := by omega
  simp [h, this]


theorem isAngle_some (a : Int) : impl_isAngle.f a = some (decide (-90 ≤ a ∧ a ≤ 90)) := by
 unfold impl_isAngle.f; rw [within_some]; rfl
theorem loAngle_some (a : Int) : spec_loAngle.f a = some (decide (-90 ≤ a ∧ a ≤ 90)) := by
 unfold spec_loAngle.f; rw [l1In_some]; rfl

/-! ### Loci -/
abbrev Loc := S55
theorem rd_loc (l : List Loc) (i : Nat) : rd_T55 l (i : Int) = l.getD i z55 := by simp [rd_T55]
theorem naName_some (s : ByteArray) (hs : s.size ≤ 9223372036854775807) : spec_naName.F s = some (isWord 97 122 s) := by
 rw [spec_naName.F_eq]
 have := each (L := fun i => spec_naName.L0 s i) s.data.toList 0 (fun _ t o => o = some (inRange 97 122 t && decide (1 ≤ s.size ∧ s.size ≤ 8))) ?_ ?_
 ·rw [this, isWord, Bool.and_comm]
 ·show spec_naName.L0 s _ = _
  rw [spec_naName.L0_eq, if_neg (by rw [← size_data]; omega), l1In_some]
  simp only [Option.bind_some, inRange, List.all_nil, Bool.true_and, dec_size]
 ·intro i x t hi hx _ _ ih
  have hi' : i < s.size := by rw [size_data]; exact hi
  show spec_naName.L0 s _ = _
  rw [spec_naName.L0_eq, if_pos (by omega), if_pos (by omega), bt_data s i hi', hx, wrap_in (by omega) (by omega)]
  by_cases h1 : x.toNat < 97
  ·rw [if_pos (by omega)]; simp [inRange]; omega
  ·rw [if_neg (by omega)]
   by_cases h2 : 122 < x.toNat
   ·rw [if_pos (by omega)]; simp [inRange]; omega
   ·rw [if_neg (by omega), ih]
    have h3 : 97 ≤ x.toNat := by omega
    have h4 : x.toNat ≤ 122 := by omega
    simp [inRange, h3, h4]
/-- The first place of a referent from place i on, or -1. -/
def idxFrom (a : ByteArray) : List Loc → Nat → Int
 | [], _ => -1
 | x :: t, i => if x.f0.toList = a.toList then i else idxFrom a t (i + 1)
theorem idxFrom_cases (a : ByteArray) : ∀ (t : List Loc) (i : Nat), (idxFrom a t i = -1 ∧ ∀ x ∈ t, x.f0 ≠ a) ∨ ∃ j, j < t.length ∧ idxFrom a t i = (i + j : Nat) ∧ (t.getD j z55).f0 = a
 | [], _ => .inl ⟨rfl, by simp⟩
 | x :: t, i => by
  unfold idxFrom
  by_cases h : x.f0.toList = a.toList
  ·rw [if_pos h]
   exact .inr ⟨0, by simp, by simp, by simpa using ext_data h⟩
  ·rw [if_neg h]
   rcases idxFrom_cases a t (i + 1) with ⟨h1, h2⟩ | ⟨j, h1, h2, h3⟩
   ·refine .inl ⟨h1, fun y hy => ?_⟩
    rcases List.mem_cons.1 hy with rfl | hy
    ·exact fun e => h (by rw [e])
    ·exact h2 y hy
   ·exact .inr ⟨j + 1, by simpa using h1, by rw [h2]; omega, by simpa using h3⟩
theorem loFind_some (l : List Loc) (a : ByteArray) (hl : l.length ≤ 9223372036854775807) : spec_loFind.F l a = some (idxFrom a l 0) := by
 rw [spec_loFind.F_eq]
 refine each (L := fun i => spec_loFind.L0 a l l.length i) l z55 (fun i t o => o = some (idxFrom a t i)) ?_ ?_
 ·show spec_loFind.L0 a l _ _ = _
  rw [spec_loFind.L0_eq, if_neg (by omega)]; rfl
 ·intro i x t hi hx _ _ ih
  show spec_loFind.L0 a l _ _ = _
  rw [spec_loFind.L0_eq, if_pos (by omega), if_pos (by omega), if_pos (by omega), rd_loc, hx, wrap_in (by omega) (by omega)]
  unfold idxFrom
  split
  ·rfl
  ·exact ih
theorem locusOf_some (l : List Loc) (a : ByteArray) (hl : l.length ≤ 9223372036854775807) : impl_locusOf.F l a = some (idxFrom a l 0) := by
 rw [impl_locusOf.F_eq, slices_IndexFunc_Locus_impl_locusOf_1.F_eq]
 rw [show slices_IndexFunc_Locus_impl_locusOf_1.L0 l (l.length : Int) 0 a = some (idxFrom a l 0) from ?_]; rfl
 refine each (L := fun i => slices_IndexFunc_Locus_impl_locusOf_1.L0 l l.length i a) l z55 (fun i t o => o = some (idxFrom a t i)) ?_ ?_
 ·show slices_IndexFunc_Locus_impl_locusOf_1.L0 l _ _ a = _
  rw [slices_IndexFunc_Locus_impl_locusOf_1.L0_eq, if_neg (by omega)]; rfl
 ·intro i x t hi hx _ _ ih
  show slices_IndexFunc_Locus_impl_locusOf_1.L0 l _ _ a = _
  rw [slices_IndexFunc_Locus_impl_locusOf_1.L0_eq, if_pos (by omega), if_pos (by omega), if_pos (by omega), rd_loc, hx, wrap_in (by omega) (by omega)]
  unfold idxFrom impl_locusOf_1.f
  simp only [Option.bind_some, beq_iff_eq]
  split
  ·rfl
  ·exact ih
/-- Is element i as it should be, for those ahead of it? -/
def okAt (l : List Loc) (i : Nat) (x : Loc) : Bool :=
 isWord 97 122 x.f0 && (decide (-90 ≤ x.f1 ∧ x.f1 ≤ 90) && (decide (i = 0 ∨ (l.getD (i - 1) z55).f1 < x.f1) && decide (idxFrom x.f0 (l.take i) 0 < 0)))
def goodFrom (l : List Loc) : Nat → List Loc → Bool
 | _, [] => decide (l.length ≤ 8)
 | i, x :: t => okAt l i x && goodFrom l (i + 1) t
def good (l : List Loc) : Bool := goodFrom l 0 l
/-- The letters' lengths are lengths. -/
def Sized (l : List Loc) : Prop := l.length ≤ 9223372036854775807 ∧ ∀ x ∈ l, x.f0.size ≤ 9223372036854775807
theorem Sized.take {l : List Loc} (h : Sized l) (i : Nat) : (l.take i).length ≤ 9223372036854775807 := Nat.le_trans (List.length_take_le' ..) h.1
theorem loGood_some (l : List Loc) (hl : Sized l) : spec_loGood.F l = some (good l) := by
 rw [spec_loGood.F_eq]
 have hl1 := hl.1
 refine each (L := fun i => spec_loGood.L0 l l l.length i) l z55 (fun i t o => o = some (goodFrom l i t)) ?_ ?_
 ·show spec_loGood.L0 l l _ _ = _
  rw [spec_loGood.L0_eq, if_neg (by omega)]
  simp only [goodFrom, Option.some.injEq, decide_eq_decide]; omega
 ·intro i x t hi hx hd _ ih
  have hs : x.f0.size ≤ 9223372036854775807 := hl.2 x (mem_drop hd)
  show spec_loGood.L0 l l _ _ = _
  rw [spec_loGood.L0_eq, if_pos (by omega), if_pos (by omega), if_pos (by omega), rd_loc, hx]
  try simp only [spec_loGood.J1_eq, decide_eq_true_eq, eq_self, if_true]
  rw [wrap_in (x := (i : Int) + 1) (by omega) (by omega), naName_some _ hs, loAngle_some, Int.toNat_natCast, loFind_some _ _ (hl.take i)]
  simp only [Option.bind_some, goodFrom, okAt]
  cases isWord 97 122 x.f0
  ·simp
  by_cases ha : -90 ≤ x.f1 ∧ x.f1 ≤ 90
  case neg => simp [ha]
  rw [decide_eq_true ha]
  simp only [if_true, Bool.true_and]
  by_cases h0 : i = 0
  ·subst h0
   simp only [List.take_zero, Int.natCast_zero, gt_iff_lt, Int.lt_irrefl, if_false, true_or, decide_true, Bool.true_and]
   rw [if_pos (by omega)]
   simp [idxFrom]
   simpa using ih
  ·have h1 : (i : Int) - 1 = ((i - 1 : Nat) : Int) := by omega
   rw [if_pos (by omega), wrap_in (by omega) (by omega), h1, if_pos (by omega), if_pos (by omega), rd_loc, if_pos (show (i : Int) ≤ (l.length : Int) by omega)]
   by_cases h2 : (l.getD (i - 1) z55).f1 < x.f1
   ·rw [if_neg (by omega)]
    simp only [h2, or_true, decide_true, Bool.true_and]
    by_cases h3 : idxFrom x.f0 (l.take i) 0 < 0
    ·rw [if_neg (by omega), ih]; simp [h3]
    ·rw [if_pos (by omega)]; simp [h3]
   ·rw [if_pos (by omega), decide_eq_false (p := i = 0 ∨ _) (by simp only [h0, h2, or_self, not_false_eq_true])]; simp
theorem areLoci_some (l : List Loc) (hl : Sized l) : impl_AreLoci.F l = some (good l) := by
 rw [impl_AreLoci.F_eq]
 have hl1 := hl.1
 refine each (L := fun i => impl_AreLoci.L0 l l l.length i) l z55 (fun i t o => o = some (goodFrom l i t)) ?_ ?_
 ·show impl_AreLoci.L0 l l _ _ = _
  rw [impl_AreLoci.L0_eq, if_neg (by omega)]
  simp only [goodFrom, Option.some.injEq, decide_eq_decide]; omega
 ·intro i x t hi hx hd _ ih
  have hs : x.f0.size ≤ 9223372036854775807 := hl.2 x (mem_drop hd)
  show impl_AreLoci.L0 l l _ _ = _
  rw [impl_AreLoci.L0_eq, if_pos (by omega), if_pos (by omega), if_pos (by omega), rd_loc, hx]
  try simp only [impl_AreLoci.J1_eq, decide_eq_true_eq, eq_self, if_true]
  rw [wrap_in (x := (i : Int) + 1) (by omega) (by omega), isWordOf_some 97 122 _ _ hs (by decide +kernel), isAngle_some, Int.toNat_natCast, locusOf_some _ _ (hl.take i)]
  simp only [Option.bind_some, goodFrom, okAt]
  cases isWord 97 122 x.f0
  ·simp
  by_cases ha : -90 ≤ x.f1 ∧ x.f1 ≤ 90
  case neg => simp [ha]
  rw [decide_eq_true ha]
  simp only [if_true, Bool.true_and]
  by_cases h0 : i = 0
  ·subst h0
   simp only [List.take_zero, Int.natCast_zero, gt_iff_lt, Int.lt_irrefl, if_false, true_or, decide_true, Bool.true_and]
   rw [if_pos (by omega)]
   simp [idxFrom]
   simpa using ih
  ·have h1 : (i : Int) - 1 = ((i - 1 : Nat) : Int) := by omega
   rw [if_pos (by omega), wrap_in (by omega) (by omega), h1, if_pos (by omega), if_pos (by omega), rd_loc, if_pos (show (i : Int) ≤ (l.length : Int) by omega)]
   by_cases h2 : (l.getD (i - 1) z55).f1 < x.f1
   ·rw [if_neg (by omega)]
    simp only [h2, or_true, decide_true, Bool.true_and]
    by_cases h3 : idxFrom x.f0 (l.take i) 0 < 0
    ·rw [if_neg (by omega), ih]; simp [h3]
    ·rw [if_pos (by omega)]; simp [h3]
   ·rw [if_pos (by omega), decide_eq_false (p := i = 0 ∨ _) (by simp only [h0, h2, or_self, not_false_eq_true])]; simp
theorem good_from (l : List Loc) : ∀ (t : List Loc) (i : Nat), goodFrom l i t = true → l.length ≤ 8 ∧ ∀ x ∈ t, (-90 ≤ x.f1 ∧ x.f1 ≤ 90) ∧ 1 ≤ x.f0.size
 | [], _, h => ⟨by simpa [goodFrom] using h, by simp⟩
 | x :: t, i, h => by
  simp only [goodFrom, okAt, isWord, Bool.and_eq_true, decide_eq_true_eq] at h
  obtain ⟨h1, h2⟩ := h
  obtain ⟨h3, h4⟩ := good_from l t (i + 1) h2
  refine ⟨h3, fun y hy => ?_⟩
  rcases List.mem_cons.1 hy with rfl | hy
  ·exact ⟨h1.2.1, h1.1.1.1⟩
  ·exact h4 y hy
theorem good_facts {l : List Loc} (h : good l = true) : l.length ≤ 8 ∧ ∀ x ∈ l, (-90 ≤ x.f1 ∧ x.f1 ≤ 90) ∧ 1 ≤ x.f0.size := good_from l l 0 h

theorem take_set {α : Type} (l : List α) (i : Nat) (v : α) (h : i < l.length) : (l.set i v).take (i + 1) = l.take i ++ [v] := by
 rw [List.take_succ_eq_append_getElem (by simpa using h), List.take_set_of_le (Nat.le_refl i)]
 simp

/-! ### Loci without a referent -/
theorem eachAt {α γ : Type} (L : Int → γ) (l : List α) (z : α) (R : Nat → List α → γ → Prop) (nil : R l.length [] (L l.length))
 (cons : ∀ (i : Nat) (x : α) (t : List α), i < l.length → l.getD i z = x → l.drop i = x :: t → l.drop (i + 1) = t → R (i + 1) t (L ((i : Int) + 1)) → R i (x :: t) (L i)) (i : Nat) (hi : i ≤ l.length) : R i (l.drop i) (L i) := by
 have key : ∀ (t : List α) (i : Nat), l.drop i = t → i ≤ l.length → R i t (L i) := by
  intro t
  induction t with
  | nil =>
   intro i h hi
   have : l.length ≤ i := by simpa [List.drop_eq_nil_iff] using h
   obtain rfl : i = l.length := by omega
   exact nil
  | cons x t ih =>
   intro i h hi
   have hlt : i < l.length := by
    rcases Nat.lt_or_ge i l.length with h' | h'
    ·exact h'
    ·rw [List.drop_eq_nil_of_le h'] at h; cases h
   have h2 := List.drop_eq_getElem_cons hlt
   rw [h] at h2
   injection h2 with h3 h4
   refine cons i x t hlt ?_ h h4.symm ?_
   ·rw [List.getD_eq_getElem?_getD, List.getElem?_eq_getElem hlt]; exact h3.symm
   ·have := ih (i + 1) h4.symm (by omega)
    rwa [show ((i + 1 : Nat) : Int) = (i : Int) + 1 from by omega] at this
 exact key _ i rfl hi
def keep (a : ByteArray) (x : Loc) : Bool := !(x.f0.toList == a.toList)
theorem clone_some (l : List Loc) (hl : l.length ≤ 1048576) : slices_Clone_Locus.f l = some l := by
 unfold slices_Clone_Locus.f
 rw [Option.bind_some, if_pos (by simp; omega)]; rfl
theorem idxW_some (l : List Loc) (a : ByteArray) (hl : l.length ≤ 9223372036854775807) : slices_IndexFunc_Locus_impl_without_1.F l a = some (idxFrom a l 0) := by
 rw [slices_IndexFunc_Locus_impl_without_1.F_eq]
 refine each (L := fun i => slices_IndexFunc_Locus_impl_without_1.L0 l l.length i a) l z55 (fun i t o => o = some (idxFrom a t i)) ?_ ?_
 ·show slices_IndexFunc_Locus_impl_without_1.L0 l _ _ a = _
  rw [slices_IndexFunc_Locus_impl_without_1.L0_eq, if_neg (by omega)]; rfl
 ·intro i x t hi hx _ _ ih
  show slices_IndexFunc_Locus_impl_without_1.L0 l _ _ a = _
  rw [slices_IndexFunc_Locus_impl_without_1.L0_eq, if_pos (by omega), if_pos (by omega), if_pos (by omega), rd_loc, hx, wrap_in (by omega) (by omega)]
  unfold idxFrom impl_without_1.f
  simp only [Option.bind_some, beq_iff_eq]
  split
  ·rfl
  ·exact ih
theorem idx_split (a : ByteArray) : ∀ (t : List Loc) (i : Nat), (idxFrom a t i = -1 ∧ t.filter (keep a) = t) ∨ ∃ k : Nat, k < t.length ∧ idxFrom a t i = ((i + k : Nat) : Int) ∧ t.filter (keep a) = t.take k ++ (t.drop (k + 1)).filter (keep a)
 | [], _ => .inl ⟨rfl, rfl⟩
 | x :: t, i => by
  unfold idxFrom
  by_cases h : x.f0.toList = a.toList
  ·rw [if_pos h]
   exact .inr ⟨0, by simp, by simp, by simp [keep, h]⟩
  ·rw [if_neg h]
   have hk : keep a x = true := by simp [keep, h]
   rcases idx_split a t (i + 1) with ⟨h1, h2⟩ | ⟨k, h1, h2, h3⟩
   ·exact .inl ⟨h1, by rw [List.filter_cons_of_pos hk, h2]⟩
   ·exact .inr ⟨k + 1, by simpa using h1, by rw [h2]; omega, by rw [List.filter_cons_of_pos hk, h3]; simp⟩
theorem delete_some (l : List Loc) (a : ByteArray) (hl : l.length ≤ 1048576) : slices_DeleteFunc_Locus_impl_without_1.F l a = some (l.filter (keep a)) := by
 rw [slices_DeleteFunc_Locus_impl_without_1.F_eq, idxW_some l a (by omega), Option.bind_some]
 rcases idx_split a l 0 with ⟨h1, h2⟩ | ⟨k, h1, h2, h3⟩
 ·rw [h1, if_pos rfl, h2]
 ·rw [h2, Nat.zero_add, if_neg (by omega), wrap_in (by omega) (by omega), h3]
  have := eachAt (L := fun j => fun xs i => slices_DeleteFunc_Locus_impl_without_1.L0 xs i j a) l z55 (fun j t f => ∀ (xs : List Loc) (i : Nat), xs.length = l.length → i ≤ j → xs.drop j = t → f xs (i : Int) = some (xs.take i ++ t.filter (keep a))) ?_ ?_ (k + 1) (by omega) l k rfl (by omega) rfl
  ·simpa using this
  ·intro xs i hxs hi _
   show slices_DeleteFunc_Locus_impl_without_1.L0 xs _ _ a = _
   rw [slices_DeleteFunc_Locus_impl_without_1.L0_eq, if_neg (by omega), if_pos (by omega), if_pos (by omega), Int.toNat_natCast]
   rw [List.take_append_of_le_length (by simp; omega)]
   simp [List.take_take]
  ·intro j x t hj _ _ _ ih xs i hxs hi hd
   have hjx : j < xs.length := by omega
   have hd2 := List.drop_eq_getElem_cons hjx
   rw [hd] at hd2
   injection hd2 with h4 h5
   have hg : xs.getD j z55 = x := by rw [List.getD_eq_getElem?_getD, List.getElem?_eq_getElem hjx]; exact h4.symm
   show slices_DeleteFunc_Locus_impl_without_1.L0 xs _ _ a = _
   rw [slices_DeleteFunc_Locus_impl_without_1.L0_eq, if_pos (by omega), if_pos (by omega), rd_loc, hg, wrap_in (x := (j : Int) + 1) (by omega) (by omega), wrap_in (x := (i : Int) + 1) (by omega) (by omega)]
   unfold impl_without_1.f
   rw [Option.bind_some]
   by_cases h : x.f0.toList = a.toList
   ·rw [if_pos (by simpa using h), List.filter_cons_of_neg (by simp [keep, h])]
    exact ih xs i hxs (by omega) h5.symm
   ·rw [if_neg (by simpa using h), if_pos (by omega), if_pos (by omega), List.filter_cons_of_pos (by simp [keep, h]), Int.toNat_natCast]
    have := ih (xs.set i x) (i + 1) (by simpa using hxs) (by omega) (by rw [List.drop_set_of_lt (by omega)]; exact h5.symm)
    rw [show ((i + 1 : Nat) : Int) = (i : Int) + 1 from by omega] at this
    refine this.trans ?_
    rw [take_set _ _ _ (by omega)]
    simp
theorem without_some (l : List Loc) (a : ByteArray) (hl : l.length ≤ 1048576) : impl_without.F l a = some (l.filter (keep a)) := by
 rw [impl_without.F_eq, clone_some l hl, Option.bind_some, delete_some l a hl]; rfl

theorem loWithout_some (l : List Loc) (a : ByteArray) (hl : l.length ≤ 1048576) : spec_loWithout.F l a = some (l.filter (keep a)) := by
 rw [spec_loWithout.F_eq]
 have := each (L := fun i => fun o => spec_loWithout.L0 a o l l.length i) l z55 (fun i t f => ∀ o : List Loc, o.length ≤ i → f o = some (o ++ t.filter (keep a))) ?_ ?_ [] (by simp)
 ·simpa using this
 ·intro o _
  show spec_loWithout.L0 a o l _ _ = _
  rw [spec_loWithout.L0_eq, if_neg (by omega)]; simp
 ·intro i x t hi hx _ _ ih o ho
  show spec_loWithout.L0 a o l _ _ = _
  rw [spec_loWithout.L0_eq, if_pos (by omega), if_pos (by omega), if_pos (by omega), rd_loc, hx, wrap_in (x := (i : Int) + 1) (by omega) (by omega)]
  by_cases h : x.f0.toList = a.toList
  ·rw [if_pos h, List.filter_cons_of_neg (by simp [keep, h])]
   exact ih o (by omega)
  ·rw [if_neg h, if_pos (by omega), List.filter_cons_of_pos (by simp [keep, h])]
   refine (ih (o ++ [x]) (by simp; omega)).trans ?_
   simp


theorem good_each {l : List Loc} : ∀ (t : List Loc) (i : Nat), goodFrom l i t = true → ∀ k, (hk : k < t.length) → okAt l (i + k) t[k] = true
 | [], _, _, k, hk => absurd hk (by simp)
 | x :: t, i, h, k, hk => by
  simp only [goodFrom, Bool.and_eq_true] at h
  cases k with
  | zero => exact h.1
  | succ k =>
   have := good_each t (i + 1) h.2 k (by simpa using hk)
   simpa [Nat.add_assoc, Nat.add_comm 1 k] using this


/-! ### Loci in their order -/
def putAt (x : Loc) : List Loc → List Loc
 | [] => [x]
 | y :: t => if y.f1 < x.f1 then y :: putAt x t else x :: y :: t
theorem putAt_perm (x : Loc) : ∀ l : List Loc, (putAt x l).Perm (x :: l)
 | [] => .refl _
 | y :: t => by
  unfold putAt
  split
  ·exact ((putAt_perm x t).cons y).trans (.swap x y t)
  ·exact .refl _
def Rising (l : List Loc) : Prop := l.Pairwise (fun a b => a.f1 ≤ b.f1)
theorem putAt_rising (x : Loc) : ∀ {l : List Loc}, Rising l → Rising (putAt x l)
 | [], _ => by simp [putAt, Rising]
 | y :: t, h => by
  have h1 := List.pairwise_cons.1 h
  unfold putAt
  split
  ·rename_i hy
   refine List.pairwise_cons.2 ⟨fun b hb => ?_, putAt_rising x h1.2⟩
   rcases List.mem_cons.1 ((putAt_perm x t).mem_iff.1 hb) with rfl | hb
   ·exact Int.le_of_lt hy
   ·exact h1.1 b hb
  ·rename_i hy
   refine List.pairwise_cons.2 ⟨fun b hb => ?_, h⟩
   rcases List.mem_cons.1 hb with rfl | hb
   ·omega
   ·have := h1.1 b hb; omega
theorem loPut_some (l : List Loc) (b : ByteArray) (c : Int) (hl : l.length ≤ 1048576) : spec_loPut.F l b c = some (putAt ⟨b, c⟩ l) := by
 rw [spec_loPut.F_eq]
 have := each (L := fun i => spec_loPut.L0 l i b c) l z55 (fun i t o => i + t.length = l.length → o = some (l.take i ++ putAt ⟨b, c⟩ t)) ?_ ?_ (by simp)
 ·simpa using this
 ·intro _
  show spec_loPut.L0 l _ b c = _
  rw [spec_loPut.L0_eq, if_neg (by omega)]
  simp only [Option.bind_some, Int.toNat_natCast, List.take_length, List.drop_length, List.nil_append, List.length_nil, List.length_cons, List.append_nil, putAt]
  rw [if_pos (by omega), if_pos (by omega), if_pos (by omega), if_pos (by simp; omega), if_pos (by simp; omega)]
 ·intro i x t hi hx hd _ ih hlen
  show spec_loPut.L0 l _ b c = _
  rw [spec_loPut.L0_eq, if_pos (by omega), if_pos (by omega), rd_loc, hx, wrap_in (by omega) (by omega)]
  by_cases h : x.f1 < c
  ·rw [if_pos h, ih (by simpa [Nat.add_assoc, Nat.add_comm 1] using hlen)]
   have ht : l.take (i + 1) = l.take i ++ [x] := by
    rw [List.take_succ_eq_append_getElem hi]
    rw [List.getD_eq_getElem?_getD, List.getElem?_eq_getElem hi, Option.getD_some] at hx
    rw [hx]
   have hp : putAt ⟨b, c⟩ (x :: t) = x :: putAt ⟨b, c⟩ t := by rw [putAt, if_pos h]
   rw [ht, hp]
   simp
  ·have hp : putAt ⟨b, c⟩ (x :: t) = ⟨b, c⟩ :: x :: t := by rw [putAt, if_neg h]
   have h3 : (l.take i).length ≤ 1048576 := by simp; omega
   have h4 : (l.take i).length = i := by simp; omega
   simp only [if_neg h, Option.bind_some, Int.toNat_natCast, hd, List.nil_append, List.length_nil, List.length_cons, List.length_append]
   rw [if_pos (by omega), if_pos (by omega), if_pos (by omega), if_pos (by simp at hlen ⊢; omega), hp]
   simp
theorem loIf_some (l : List Loc) (hl : Sized l) : spec_loIf.F l = some (if good l then (l, true) else ([], false)) := by
 rw [spec_loIf.F_eq, loGood_some _ hl, Option.bind_some]
 cases good l <;> rfl
theorem good_strict {l : List Loc} (hg : good l = true) : l.Pairwise (fun a b => a.f1 < b.f1) := by
 have adj : ∀ i, (h : i + 1 < l.length) → l[i].f1 < l[i + 1].f1 := by
  intro i h
  have ok := good_each l 0 hg (i + 1) h
  simp only [okAt, Bool.and_eq_true, Nat.zero_add] at ok
  have := of_decide_eq_true ok.2.2.1
  rcases this with h0 | h1
  ·omega
  ·rwa [Nat.add_sub_cancel, List.getD_eq_getElem?_getD, List.getElem?_eq_getElem (by omega), Option.getD_some] at h1
 have far : ∀ k i, (h : i + k + 1 < l.length) → l[i].f1 < l[i + k + 1].f1 := by
  intro k
  induction k with
  | zero => intro i h; exact adj i h
  | succ k ih =>
   intro i h
   have h1 := ih i (by omega)
   have h2 := adj (i + k + 1) (by omega)
   have e : i + (k + 1) + 1 = i + k + 1 + 1 := by omega
   simp only [e]
   omega
 rw [List.pairwise_iff_getElem]
 intro i j hi hj hij
 have := far (j - i - 1) i (by omega)
 have e : i + (j - i - 1) + 1 = j := by omega
 simpa only [e] using this
theorem strict_rising {l : List Loc} (h : l.Pairwise (fun a b => a.f1 < b.f1)) : Rising l := h.imp (fun h => Int.le_of_lt h)
/-- Two orders of the same loci: if one is good they are one. -/
theorem order_one {l m : List Loc} (hp : l.Perm m) (hl : Rising l) (hm : Rising m) (hg : good l = true) : l = m := by
 have hs := good_strict hg
 refine List.Perm.eq_of_pairwise (le := fun a b : Loc => a.f1 ≤ b.f1) (fun a b ha hb h1 h2 => ?_) hl hm hp
 have hb' := hp.mem_iff.2 hb
 obtain ⟨i, hi, rfl⟩ := List.getElem_of_mem ha
 obtain ⟨j, hj, rfl⟩ := List.getElem_of_mem hb'
 rw [List.pairwise_iff_getElem] at hs
 rcases Nat.lt_trichotomy i j with h | h | h
 ·have := hs i j hi hj h; omega
 ·subst h; rfl
 ·have := hs j i hj hi h; omega
theorem order_same {l m : List Loc} (hp : l.Perm m) (hl : Rising l) (hm : Rising m) : (if good l then (l, true) else ([], false)) = (if good m then (m, true) else (([] : List Loc), false)) := by
 cases h : good l
 ·cases h2 : good m
  ·rfl
  ·have := order_one hp.symm hm hl h2
   rw [this, h] at h2
   cases h2
 ·have := order_one hp hl hm h
  subst this
  rw [h]
theorem sortedLoci_some (l : List Loc) (hl : Sized l) (h0 : 0 < l.length) (h12 : l.length ≤ 12) (hk : ∀ x ∈ l, -1000000 ≤ x.f1 ∧ x.f1 ≤ 1000000) : ∃ m, m.Perm l ∧ Rising m ∧ impl_sortedLoci.F l = some (if good m then (m, true) else ([], false)) := by
 have hkey : ∀ x ∈ l, InKey slices_SortFunc_Locus_impl_sortedLoci_1.key x := fun x hx => by
  have := hk x hx
  simp only [InKey, slices_SortFunc_Locus_impl_sortedLoci_1.key]
  omega
 obtain ⟨s1, s2⟩ := sortKey_spec slices_SortFunc_Locus_impl_sortedLoci_1.key l hkey
 refine ⟨sortKey slices_SortFunc_Locus_impl_sortedLoci_1.key l, s1, s2, ?_⟩
 have hz : Sized (sortKey slices_SortFunc_Locus_impl_sortedLoci_1.key l) := ⟨by rw [s1.length_eq]; exact hl.1, fun x hx => hl.2 x (s1.mem_iff.1 hx)⟩
 rw [impl_sortedLoci.F_eq, slices_SortFunc_Locus_impl_sortedLoci_1.f, if_pos ⟨h0, h12, hkey⟩, Option.bind_some, areLoci_some _ hz, Option.bind_some]
 cases good (sortKey slices_SortFunc_Locus_impl_sortedLoci_1.key l) <;> rfl

/-! ### Drawn loci -/
def Drawn (L : List Loc) : Prop := L.length ≤ 9 ∧ ∀ x ∈ L, x.f0.size ≤ 9
theorem Drawn.sized {L : List Loc} (h : Drawn L) : Sized L := ⟨by have := h.1; omega, fun x hx => by have := h.2 x hx; omega⟩
theorem referent_tells (l : List Int) (hl : Bytes l) (a s : Int) (ha : 0 ≤ a ∧ a ≤ 1000000) : ∃ r b t, spec_l1Cur_referent.f l a s = some (r, b, t) ∧ r.size ≤ 9 ∧ 0 ≤ b ∧ b ≤ a + 10 := by
 unfold spec_l1Cur_referent.f
 generalize hm : ([(⟨#[109, 97, 114, 121]⟩ : ByteArray), (⟨#[106, 111, 104, 110]⟩ : ByteArray), (⟨#[100, 111, 103]⟩ : ByteArray), (⟨#[99, 97, 116]⟩ : ByteArray), (⟨#[115, 105, 103, 110, 101, 114]⟩ : ByteArray)] : List ByteArray) = m
 have hmm : ∀ x ∈ m, x.size ≤ 9 := by rw [← hm]; simp only [List.mem_cons, List.not_mem_nil, or_false]; rintro x (rfl | rfl | rfl | rfl | rfl) <;> decide
 obtain ⟨r, b, t, h1, h2, h3, h4⟩ := of_tells l hl a s m (by omega) (by rw [← hm]; simp)
 rw [h1, Option.bind_some]
 dsimp only
 exact ⟨_, _, _, rfl, hmm _ h2, h3, by omega⟩
theorem anyReferent_tells (l : List Int) (hl : Bytes l) (a s : Int) (ha : 0 ≤ a ∧ a ≤ 1000000) : ∃ r b t, spec_l1Cur_anyReferent.f l a s = some (r, b, t) ∧ r.size ≤ 9 ∧ 0 ≤ b ∧ b ≤ a + 10 := by
 unfold spec_l1Cur_anyReferent.f
 generalize hm : ([(⟨#[115, 105, 103, 110, 101, 114]⟩ : ByteArray), (⟨#[]⟩ : ByteArray), (⟨#[77, 97, 114, 121]⟩ : ByteArray), (⟨#[110, 105, 110, 101, 99, 104, 97, 114, 115]⟩ : ByteArray), (⟨#[122, 122]⟩ : ByteArray)] : List ByteArray) = m
 have hmm : ∀ x ∈ m, x.size ≤ 9 := by rw [← hm]; simp only [List.mem_cons, List.not_mem_nil, or_false]; rintro x (rfl | rfl | rfl | rfl | rfl) <;> decide
 obtain ⟨r, b, t, h1, h2, h3, h4⟩ := of_tells l hl a s m (by omega) (by rw [← hm]; simp)
 rw [h1, Option.bind_some]
 have hr := hmm _ h2
 simp only
 generalize hq : ([(⟨#[109, 97, 114, 121]⟩ : ByteArray), (⟨#[106, 111, 104, 110]⟩ : ByteArray), (⟨#[100, 111, 103]⟩ : ByteArray), (⟨#[109, 97, 114, 121]⟩ : ByteArray), r] : List ByteArray) = q
 have hqq : ∀ x ∈ q, x.size ≤ 9 := by rw [← hq]; simp only [List.mem_cons, List.not_mem_nil, or_false]; rintro x (rfl | rfl | rfl | rfl | rfl) <;> first | exact hr | decide
 obtain ⟨r2, b2, t2, k1, k2, k3, k4⟩ := of_tells l hl b t q (by omega) (by rw [← hq]; simp)
 rw [k1, Option.bind_some]
 dsimp only
 exact ⟨_, _, _, rfl, hqq _ k2, k3, by omega⟩
theorem angleOf_tells (l : List Int) (hl : Bytes l) (a s : Int) (ha : 0 ≤ a ∧ a ≤ 1000000) : ∃ r b t, spec_l1Cur_angleOf.f l a s = some (r, b, t) ∧ 0 ≤ b ∧ b ≤ a + 10 := by
 unfold spec_l1Cur_angleOf.f
 obtain ⟨r, b, t, h1, h2, h3, h4, h5⟩ := pick_tells l hl a s 181 (by omega) (by omega)
 rw [h1, Option.bind_some]
 obtain ⟨r2, b2, t2, k1, k2, k3, k4⟩ := among_tells l hl b t [5, 91, -91, -9223372036854775808] (by omega) (by simp)
 simp only [k1, Option.bind_some]
 obtain ⟨r3, b3, t3, m1, m2, m3, m4⟩ := among_tells l hl b2 t2 [0, -40, 30, 25, 10, wrap64 (r - 90), 90, -90, r2] (by omega) (by simp)
 simp only [m1, Option.bind_some]
 exact ⟨_, _, _, rfl, m3, by omega⟩
/-- What PutReferent tells, both ways. -/
theorem put_same (L : List Loc) (a : ByteArray) (c : Int) (hz : Sized L) (hlm : L.length ≤ 1048576) (ha : a.size ≤ 9223372036854775807) : ∃ r b, spec_PutReferent.F L a c = some (r, b) ∧ impl_PutReferent.F L a c = some (r, b) ∧ (b = false → r = []) ∧ (b = true → good r = true ∧ good L = true ∧ isWord 97 122 a = true ∧ (-90 ≤ c ∧ c ≤ 90) ∧ r.Perm (L.filter (keep a) ++ [⟨a, c⟩])) := by
 rw [spec_PutReferent.F_eq, impl_PutReferent.F_eq, loGood_some _ hz, areLoci_some _ hz, isWordOf_some 97 122 _ _ ha (by decide +kernel), naName_some _ ha, isAngle_some, loAngle_some]
 simp only [Option.bind_some, spec_PutReferent.J0_eq, impl_PutReferent.J0_eq]
 cases hg : good L
 ·exact ⟨_, _, rfl, rfl, fun _ => rfl, fun h => by cases h⟩
 cases hn : isWord 97 122 a
 ·exact ⟨_, _, rfl, rfl, fun _ => rfl, fun h => by cases h⟩
 by_cases hc : -90 ≤ c ∧ c ≤ 90
 ·obtain ⟨g1, g2⟩ := good_facts hg
  have hW : (L.filter (keep a)).length ≤ 8 := Nat.le_trans (List.length_filter_le _ _) g1
  have hWf : ∀ x ∈ L.filter (keep a), x ∈ L := fun x hx => (List.mem_filter.1 hx).1
  have hzO : Sized (L.filter (keep a) ++ [⟨a, c⟩]) := ⟨by simp; omega, fun x hx => by
   rcases List.mem_append.1 hx with hx | hx
   ·exact hz.2 x (hWf x hx)
   ·obtain rfl := List.mem_singleton.1 hx
    exact ha⟩
  have hp : (putAt ⟨a, c⟩ (L.filter (keep a))).Perm (L.filter (keep a) ++ [⟨a, c⟩]) := (putAt_perm _ _).trans (List.perm_append_singleton _ _).symm
  have hzP : Sized (putAt ⟨a, c⟩ (L.filter (keep a))) := ⟨by rw [hp.length_eq]; exact hzO.1, fun x hx => hzO.2 x (hp.mem_iff.1 hx)⟩
  obtain ⟨m, m1, m2, m3⟩ := sortedLoci_some (L.filter (keep a) ++ [⟨a, c⟩]) hzO (by simp) (by simp; omega) (fun x hx => by
   rcases List.mem_append.1 hx with hx | hx
   ·have := (g2 x (hWf x hx)).1; omega
   ·obtain rfl := List.mem_singleton.1 hx
    simp only; omega)
  have hr : Rising (putAt ⟨a, c⟩ (L.filter (keep a))) := putAt_rising _ ((strict_rising (good_strict hg)).filter _)
  have ho := order_same (hp.trans m1.symm) hr m2
  simp only [hc, decide_true, Bool.not_true, Bool.false_eq_true, if_false, if_true, and_self]
  have hlen := hp.length_eq
  simp only [List.length_append, List.length_cons, List.length_nil] at hlen
  rw [← ho] at m3
  have hzi := loIf_some _ hzP
  rw [loWithout_some L a hlm, without_some L a hlm, Option.bind_some, Option.bind_some, loPut_some _ _ _ (by omega), Option.bind_some, hzi, Option.bind_some, if_pos (show (L.filter (keep a)).length < 5864062014805 by omega), m3, Option.bind_some]
  cases hgp : good (putAt ⟨a, c⟩ (L.filter (keep a)))
  ·exact ⟨_, _, rfl, rfl, fun _ => rfl, fun h => by cases h⟩
  ·exact ⟨_, _, rfl, rfl, fun h => (by cases h), fun _ => ⟨hgp, by first | rfl | trivial, by first | rfl | trivial, by first | trivial | exact hc, hp⟩⟩
 ·simp only [hc, decide_false, Bool.not_false, if_true]
  exact ⟨_, _, rfl, rfl, fun _ => rfl, fun h => by cases h⟩
theorem loci_rounds (l : List Int) (hl : Bytes l) : ∀ (n : Nat) (L : List Loc) (k a s : Int), k = n → n ≤ 6 → Drawn L ∧ L.length ≤ 8 → (0 ≤ a ∧ a ≤ 1000 - 100 * n) → ∃ L' b t, spec_l1Cur_loci.L0 L k l a s = some (L', b, t) ∧ Drawn L' ∧ 0 ≤ b ∧ b ≤ 1100 := by
 intro n
 induction n with
 | zero =>
  intro L k a s hk _ hL ha
  obtain ⟨r, b, t, h1, h2, h3, h4, h5⟩ := pick_tells l hl a s 24 (by omega) (by omega)
  rw [spec_l1Cur_loci.L0_eq, if_neg (by omega), h1, Option.bind_some]
  simp only
  by_cases c0 : r = 0
  ·rw [if_pos c0]
   obtain ⟨w, b2, t2, k1, k2, k3, k4⟩ := anyReferent_tells l hl b t (by omega)
   simp only [k1, Option.bind_some]
   obtain ⟨c, b3, t3, m1, m2, m3⟩ := angleOf_tells l hl b2 t2 (by omega)
   simp only [m1, Option.bind_some]
   rw [if_pos (by omega)]
   refine ⟨_, _, _, rfl, ⟨by simp; omega, fun x hx => ?_⟩, m2, by omega⟩
   rcases List.mem_append.1 hx with hx | hx
   ·exact hL.1.2 x hx
   ·obtain rfl := List.mem_singleton.1 hx
    exact k2
  rw [if_neg c0]
  by_cases c1 : r = 1
  ·rw [if_pos c1]
   obtain ⟨q, b2, t2, k1, k2, k3, k4, k5⟩ := pick_tells l hl b t 2 (by omega) (by omega)
   simp only [k1, Option.bind_some]
   rw [wrap_in (x := 8 + q) (by omega) (by omega)]
   have many : ∀ (m : Nat) (o : List Loc), (o.length : Int) + m = 8 + q → Drawn o → ∃ L' b' t', spec_l1Cur_loci.L1 o (8 + q) l b2 t2 = some (L', b', t') ∧ Drawn L' ∧ 0 ≤ b' ∧ b' ≤ 1100 := by
    intro m
    induction m with
    | zero =>
     intro o hm ho
     rw [spec_l1Cur_loci.L1_eq, if_neg (by omega)]
     exact ⟨_, _, _, rfl, ho, by omega, by omega⟩
    | succ m ih =>
     intro o hm ho
     have k9 := k3 (by omega)
     have hs : ((⟨#[97, 98, 99, 100, 101, 102, 103, 104, 105]⟩ : ByteArray).extract ((o.length : Int)).toNat ((o.length : Int) + 1).toNat).size ≤ 8 := by
      rw [ByteArray.size_extract]
      have e : ((o.length : Int) + 1).toNat = o.length + 1 := by omega
      rw [e, Int.toNat_natCast]
      omega
     rw [spec_l1Cur_loci.L1_eq, if_pos (by omega), if_pos (by omega), wrap_in (x := (o.length : Int) + 1) (by omega) (by omega), if_pos (by omega), if_pos (by omega), if_pos (by omega), if_pos (by omega)]
     refine ih _ (by simp; omega) ⟨by simp; omega, fun x hx => ?_⟩
     rcases List.mem_append.1 hx with hx | hx
     ·exact ho.2 x hx
     ·obtain rfl := List.mem_singleton.1 hx
      show (_ ++ _ : ByteArray).size ≤ 9
      rw [ByteArray.size_append]
      have : (⟨#[120]⟩ : ByteArray).size = 1 := rfl
      omega
   exact many (8 + q).toNat [] (by simp; omega) ⟨by simp, by simp⟩
  ·rw [if_neg c1]
   exact ⟨_, _, _, rfl, hL.1, by omega, by omega⟩
 | succ n ih =>
  intro L k a s hk hn hL ha
  obtain ⟨w, b, t, h1, h2, h3, h4⟩ := referent_tells l hl a s (by omega)
  rw [spec_l1Cur_loci.L0_eq, if_pos (by omega), h1, Option.bind_some]
  obtain ⟨c, b2, t2, k1, k2, k3⟩ := angleOf_tells l hl b t (by omega)
  simp only [k1, Option.bind_some]
  obtain ⟨r, ok, p1, _, p3, p4⟩ := put_same L w c hL.1.sized (by omega) (by omega)
  simp only [p1, Option.bind_some]
  rw [wrap_in (x := k - 1) (by omega) (by omega)]
  cases ok
  ·rw [if_neg (by simp)]
   exact ih L (k - 1) b2 t2 (by omega) (by omega) hL (by omega)
  ·obtain ⟨q1, _, _, _, q5⟩ := p4 rfl
   rw [if_pos rfl]
   refine ih r (k - 1) b2 t2 (by omega) (by omega) ⟨⟨by have := (good_facts q1).1; omega, fun x hx => ?_⟩, (good_facts q1).1⟩ (by omega)
   rcases List.mem_append.1 (q5.mem_iff.1 hx) with hx | hx
   ·exact hL.1.2 x (List.mem_filter.1 hx).1
   ·obtain rfl := List.mem_singleton.1 hx
    exact h2
theorem loci_tells (l : List Int) (hl : Bytes l) : ∃ L b t, spec_l1Cur_loci.F l 0 0 = some (L, b, t) ∧ Drawn L ∧ 0 ≤ b ∧ b ≤ 1100 := by
 obtain ⟨r, b, t, h1, h2, h3, h4, h5⟩ := pick_tells l hl 0 0 6 (by omega) (by omega)
 have h6 := h3 (by omega)
 obtain ⟨n, rfl⟩ := Int.eq_ofNat_of_zero_le h2
 rw [spec_l1Cur_loci.F_eq, h1, Option.bind_some]
 exact loci_rounds l hl n [] n b t rfl (by omega) ⟨⟨by simp, by simp⟩, by simp⟩ (by omega)



/-- A locus seen from a new place. -/
def clamp (t : Int) : Int := if t < -90 then -90 else if 90 < t then 90 else t
def moved (b : Int) (x : Loc) : Loc := ⟨x.f0, clamp (x.f1 - b)⟩
theorem shifted_some (a b : Int) (ha : -90 ≤ a ∧ a ≤ 90) (hb : -90 ≤ b ∧ b ≤ 90) : impl_shifted.f a b = some (clamp (a - b)) := by
 unfold impl_shifted.f clamp mn mx
 rw [wrap_in (by omega) (by omega)]
 congr 1
 repeat' split
 all_goals omega
theorem most_some (a b : Int) (ha : -90 ≤ a ∧ a ≤ 90) (hb : -90 ≤ b ∧ b ≤ 90) : ((spec_l1Least.f 90 (wrap64 (a - b))).bind fun t => (spec_l1Most.f (-90) t)) = some (clamp (a - b)) := by
 unfold spec_l1Least.f spec_l1Most.f clamp
 rw [wrap_in (by omega) (by omega)]
 by_cases h1 : 90 < a - b
 ·rw [if_pos h1, Option.bind_some, if_neg (by omega), if_neg (by omega), if_pos h1]
 ·rw [if_neg h1, Option.bind_some, if_neg h1]
  by_cases h2 : a - b < -90
  ·rw [if_pos h2, if_pos h2]
  ·rw [if_neg h2, if_neg h2]
theorem implShift_some (L W : List Loc) (i : Nat) (o : List Loc) (hi : i < L.length) (hW : W.length ≤ 8) (ho : o.length ≤ 8) (hb : -90 ≤ (L.getD i z55).f1 ∧ (L.getD i z55).f1 ≤ 90) (hx : ∀ x ∈ W, -90 ≤ x.f1 ∧ x.f1 ≤ 90) :
 impl_ShiftRole.L0 L i o W W.length 0 = (impl_sortedLoci.F (o ++ W.map (moved (L.getD i z55).f1))).bind fun b => some (b.1, b.2) := by
 refine each (L := fun k => fun o => impl_ShiftRole.L0 L i o W W.length k) W z55 (fun k t f => (∀ x ∈ t, x ∈ W) → ∀ o : List Loc, o.length ≤ 8 + k → f o = (impl_sortedLoci.F (o ++ t.map (moved (L.getD i z55).f1))).bind fun b => some (b.1, b.2)) ?_ ?_ (fun _ h => h) o ho
 ·intro _ o _
  show impl_ShiftRole.L0 L i o W _ _ = _
  rw [impl_ShiftRole.L0_eq, if_neg (by omega)]
  simp
 ·intro k x t hk hxk _ _ ih hm o ho
  have h1 := hx x (hm x (by simp))
  show impl_ShiftRole.L0 L i o W _ _ = _
  rw [impl_ShiftRole.L0_eq, if_pos (by omega), if_pos (by omega), if_pos (by omega), if_pos (by omega), if_pos (by omega), rd_loc, rd_loc, hxk, shifted_some _ _ h1 hb, Option.bind_some, if_pos (by omega), wrap_in (x := (k : Int) + 1) (by omega) (by omega)]
  refine (ih (fun y hy => hm y (by simp [hy])) _ (by simp; omega)).trans ?_
  simp [moved]
theorem specShift_some (W : List Loc) (b : Int) (o : List Loc) (hW : W.length ≤ 8) (ho : o.length ≤ 8) (hb : -90 ≤ b ∧ b ≤ 90) (hx : ∀ x ∈ W, -90 ≤ x.f1 ∧ x.f1 ≤ 90) :
 spec_ShiftRole.L0 b o W W.length 0 = (spec_loIf.F (W.foldl (fun o x => putAt (moved b x) o) o)).bind fun b => some (b.1, b.2) := by
 refine each (L := fun k => fun o => spec_ShiftRole.L0 b o W W.length k) W z55 (fun k t f => (∀ x ∈ t, x ∈ W) → ∀ o : List Loc, o.length ≤ 8 + k → f o = (spec_loIf.F (t.foldl (fun o x => putAt (moved b x) o) o)).bind fun b => some (b.1, b.2)) ?_ ?_ (fun _ h => h) o ho
 ·intro _ o _
  show spec_ShiftRole.L0 b o W _ _ = _
  rw [spec_ShiftRole.L0_eq, if_neg (by omega)]
  simp
 ·intro k x t hk hxk _ _ ih hm o ho
  have h1 := hx x (hm x (by simp))
  show spec_ShiftRole.L0 b o W _ _ = _
  have hmost := most_some x.f1 b h1 hb
  rw [spec_ShiftRole.L0_eq, if_pos (by omega), if_pos (by omega), if_pos (by omega), rd_loc, hxk]
  have hre : ∀ (F : Int → Option (List Loc × Bool)), ((spec_l1Least.f 90 (wrap64 (x.f1 - b))).bind fun t213 => ((spec_l1Most.f (-90) t213).bind F)) = (((spec_l1Least.f 90 (wrap64 (x.f1 - b))).bind fun t => (spec_l1Most.f (-90) t))).bind F := fun F => by rw [Option.bind_assoc]
  rw [hre, hmost, Option.bind_some, loPut_some _ _ _ (by omega), Option.bind_some, wrap_in (x := (k : Int) + 1) (by omega) (by omega)]
  exact ih (fun y hy => hm y (by simp [hy])) _ (by rw [(putAt_perm _ _).length_eq]; simp; omega)
theorem fold_perm (b : Int) : ∀ (W o : List Loc), (W.foldl (fun o x => putAt (moved b x) o) o).Perm (o ++ W.map (moved b))
 | [], o => by simp
 | x :: t, o => by
  simp only [List.foldl_cons, List.map_cons]
  refine (fold_perm b t _).trans ?_
  refine ((putAt_perm _ o).append_right _).trans ?_
  simpa using List.perm_middle.symm
theorem fold_rising (b : Int) : ∀ (W o : List Loc), Rising o → Rising (W.foldl (fun o x => putAt (moved b x) o) o)
 | [], _, h => h
 | x :: t, _, h => fold_rising b t _ (putAt_rising _ h)



/-! ### How far apart -/
def dst (a b : Int) : Int := if a < b then b - a else a - b
theorem distance_some (a b : Int) (ha : -1000000 ≤ a ∧ a ≤ 1000000) (hb : -1000000 ≤ b ∧ b ≤ 1000000) : impl_distance.f a b = some (dst a b) := by
 unfold impl_distance.f
 rw [wrap_in (by omega) (by omega), wrap_in (by omega) (by omega)]
 unfold mx dst
 congr 1
 split <;> split <;> omega
theorem abs_some (a b : Int) (ha : -1000000 ≤ a ∧ a ≤ 1000000) (hb : -1000000 ≤ b ∧ b ≤ 1000000) : spec_l1Abs.f (wrap64 (a - b)) = some (dst a b) := by
 unfold spec_l1Abs.f spec_l1Most.f
 rw [wrap_in (x := a - b) (by omega) (by omega), wrap_in (by omega) (by omega)]
 unfold dst
 split <;> split <;> simp <;> omega

/-! ### The nearest loci -/
def nearStep (a : Int) (s : Int × List ByteArray) (x : Loc) : Int × List ByteArray :=
 if dst x.f1 a < s.1 then (dst x.f1 a, [x.f0]) else if dst x.f1 a = s.1 then (s.1, s.2 ++ [x.f0]) else s
def near (l : List Loc) (a : Int) : Int × List ByteArray := l.foldl (nearStep a) (181, [])
theorem nearest_some (l : List Loc) (a : Int) (hl : l.length ≤ 8) (hx : ∀ x ∈ l, (-90 ≤ x.f1 ∧ x.f1 ≤ 90) ∧ 1 ≤ x.f0.size) (ha : -90 ≤ a ∧ a ≤ 90) : impl_nearestLoci.F l a = some (near l a) := by
 rw [impl_nearestLoci.F_eq]
 refine each (L := fun i => fun x6 x7 => impl_nearestLoci.L0 a x6 x7 l l.length i) l z55 (fun i t f => (∀ x ∈ t, x ∈ l) → ∀ s : Int × List ByteArray, s.2.length ≤ i → f s.1 s.2 = some (t.foldl (nearStep a) s)) ?_ ?_ (fun _ h => h) (181, []) (by simp)
 ·intro _ s _
  show impl_nearestLoci.L0 a _ _ l _ _ = _
  rw [impl_nearestLoci.L0_eq, if_neg (by omega)]; rfl
 ·intro i x t hi hxi _ _ ih hm s hs
  have h1 := (hx x (hm x (by simp))).1
  have ih' := ih (fun y hy => hm y (by simp [hy]))
  show impl_nearestLoci.L0 a _ _ l _ _ = _
  rw [impl_nearestLoci.L0_eq, if_pos (by omega), if_pos (by omega), if_pos (by omega), rd_loc, hxi, wrap_in (x := (i : Int) + 1) (by omega) (by omega), distance_some _ _ (by omega) (by omega), Option.bind_some, List.foldl_cons]
  by_cases h2 : dst x.f1 a < s.1
  ·rw [if_pos h2, if_pos rfl, if_pos (by decide)]
   refine (ih' (dst x.f1 a, [x.f0]) (by simp)).trans ?_
   rw [nearStep, if_pos h2]
  ·rw [if_neg h2]
   by_cases h3 : dst x.f1 a = s.1
   ·rw [if_pos h3, if_pos (by omega)]
    refine (ih' (s.1, s.2 ++ [x.f0]) (by simp; omega)).trans ?_
    rw [nearStep, if_neg h2, if_pos h3]
   ·rw [if_neg h3]
    refine (ih' s (by omega)).trans ?_
    rw [nearStep, if_neg h2, if_neg h3]
theorem near_inv (a : Int) : ∀ (t p : List Loc) (s : Int × List ByteArray), s.2 = (p.filter fun x => decide (dst x.f1 a = s.1)).map (·.f0) → (∀ x ∈ p, s.1 ≤ dst x.f1 a) →
 (t.foldl (nearStep a) s).2 = ((p ++ t).filter fun x => decide (dst x.f1 a = (t.foldl (nearStep a) s).1)).map (·.f0) ∧ ∀ x ∈ p ++ t, (t.foldl (nearStep a) s).1 ≤ dst x.f1 a
 | [], p, s, h1, h2 => by simpa using ⟨h1, h2⟩
 | x :: t, p, s, h1, h2 => by
  rw [List.foldl_cons, show p ++ x :: t = (p ++ [x]) ++ t from by simp]
  refine near_inv a t (p ++ [x]) (nearStep a s x) ?_ ?_
  ·unfold nearStep
   by_cases h3 : dst x.f1 a < s.1
   ·rw [if_pos h3]
    have : p.filter (fun y => decide (dst y.f1 a = dst x.f1 a)) = [] := by
     rw [List.filter_eq_nil_iff]
     intro y hy
     have := h2 y hy
     simp; omega
    simp [List.filter_append, this]
   ·rw [if_neg h3]
    by_cases h4 : dst x.f1 a = s.1
    ·rw [if_pos h4]; simp [List.filter_append, h4, h1]
    ·rw [if_neg h4]; simp [List.filter_append, h4, h1]
  ·intro y hy
   unfold nearStep
   rcases List.mem_append.1 hy with hy | hy
   ·have := h2 y hy
    split
    ·show dst x.f1 a ≤ _; omega
    ·split <;> exact this
   ·obtain rfl : y = x := by simpa using hy
    split
    ·exact Int.le_refl _
    ·split
     ·show s.1 ≤ _; omega
     ·omega
theorem near_spec (l : List Loc) (a : Int) : (near l a).2 = (l.filter fun x => decide (dst x.f1 a = (near l a).1)).map (·.f0) ∧ ∀ x ∈ l, (near l a).1 ≤ dst x.f1 a := by
 have := near_inv a l [] (181, []) (by simp) (by simp)
 rw [List.nil_append] at this; exact this


/-! ### The first of the nearest -/
def fmStep (a : Int) (o : Option Loc) (x : Loc) : Option Loc :=
 match o with
 | none => some x
 | some y => if dst x.f1 a < dst y.f1 a then some x else some y
theorem fm_some (a : Int) : ∀ (t : List Loc) (y : Loc), ∃ m, t.foldl (fmStep a) (some y) = some m
 | [], y => ⟨y, rfl⟩
 | x :: t, y => by
  simp only [List.foldl_cons, fmStep]
  split
  ·exact fm_some a t x
  ·exact fm_some a t y
theorem near_fm (a : Int) (ha : -90 ≤ a ∧ a ≤ 90) : ∀ (t : List Loc) (o : Option Loc) (s : Int × List ByteArray), (∀ x ∈ t, -90 ≤ x.f1 ∧ x.f1 ≤ 90) →
 (match o with | none => s = (181, []) | some y => s.1 = dst y.f1 a ∧ ∃ r, s.2 = y.f0 :: r) →
 (match t.foldl (fmStep a) o with | none => True | some m => (t.foldl (nearStep a) s).1 = dst m.f1 a ∧ ∃ r, (t.foldl (nearStep a) s).2 = m.f0 :: r)
 | [], o, s, _, h => by
  cases o with
  | none => trivial
  | some y => exact h
 | x :: t, o, s, hx, h => by
  have h1 := hx x (by simp)
  have hd : dst x.f1 a < 181 := by unfold dst; split <;> omega
  simp only [List.foldl_cons]
  refine near_fm a ha t _ _ (fun y hy => hx y (by simp [hy])) ?_
  cases o with
  | none =>
   simp only at h
   subst h
   simp only [fmStep, nearStep, if_pos hd]
   first | exact ⟨rfl, _, rfl⟩ | exact ⟨trivial, _, rfl⟩ | simp
  | some y =>
   obtain ⟨h2, r, h3⟩ := h
   simp only [fmStep, nearStep]
   by_cases c : dst x.f1 a < dst y.f1 a
   ·rw [if_pos c, if_pos (by omega)]
    first | exact ⟨rfl, _, rfl⟩ | exact ⟨trivial, _, rfl⟩ | simp
   ·rw [if_neg c, if_neg (by omega)]
    by_cases c2 : dst x.f1 a = s.1
    ·rw [if_pos c2]
     exact ⟨h2, r ++ [x.f0], by simp [h3]⟩
    ·rw [if_neg c2]
     exact ⟨h2, r, h3⟩
theorem name_unique {l : List Loc} {a : ByteArray} (hg : good l = true) (i j k : Nat) (hij : idxFrom a l 0 = (i : Int)) (hk : k < l.length) (hn : (l.getD k z55).f0 = a) : k = i := by
 rcases idxFrom_cases a l 0 with ⟨h1, _⟩ | ⟨m, h1, h2, h3⟩
 ·omega
 obtain rfl : m = i := by omega
 rcases Nat.lt_trichotomy k m with h | h | h
 ·exfalso
  have ok := good_each l 0 hg m h1
  simp only [okAt, Bool.and_eq_true, Nat.zero_add] at ok
  have h4 := of_decide_eq_true ok.2.2.2
  rw [List.getD_eq_getElem?_getD, List.getElem?_eq_getElem h1, Option.getD_some] at h3
  rcases idxFrom_cases l[m].f0 (l.take m) 0 with ⟨_, h5⟩ | ⟨q, _, h6, _⟩
  ·rw [List.getD_eq_getElem?_getD, List.getElem?_eq_getElem hk, Option.getD_some] at hn
   exact h5 l[k] (List.mem_take_iff_getElem.2 ⟨k, by omega, rfl⟩) (by rw [hn, h3])
  ·omega
 ·exact h
 ·exfalso
  have ok := good_each l 0 hg k hk
  simp only [okAt, Bool.and_eq_true, Nat.zero_add] at ok
  have h4 := of_decide_eq_true ok.2.2.2
  rw [List.getD_eq_getElem?_getD, List.getElem?_eq_getElem hk, Option.getD_some] at hn
  rw [List.getD_eq_getElem?_getD, List.getElem?_eq_getElem h1, Option.getD_some] at h3
  rcases idxFrom_cases l[k].f0 (l.take k) 0 with ⟨_, h5⟩ | ⟨q, _, h6, _⟩
  ·exact h5 l[m] (List.mem_take_iff_getElem.2 ⟨m, by omega, rfl⟩) (by rw [hn, h3])
  ·omega

theorem nearTo_some (l : List Loc) (a : ByteArray) (i : Nat) (hg : good l = true) (hi : idxFrom a l 0 = (i : Int)) (hl : i < l.length) : spec_NearestTo.L0 l i (-1) l l.length 0 = (match (l.filter (keep a)).foldl (fmStep (l.getD i z55).f1) none with | none => none | some m => some (m.f0, dst m.f1 (l.getD i z55).f1, true)) := by
 obtain ⟨g1, g2⟩ := good_facts hg
 have hat := (g2 (l.getD i z55) (by rw [List.getD_eq_getElem?_getD, List.getElem?_eq_getElem hl, Option.getD_some]; exact List.getElem_mem hl)).1
 have hia : (l.getD i z55).f0 = a := by
  rcases idxFrom_cases a l 0 with ⟨h1, _⟩ | ⟨m, h1, h2, h3⟩
  ·omega
  ·obtain rfl : m = i := by omega
   exact h3
 refine each (L := fun k => fun x8 => spec_NearestTo.L0 l i x8 l l.length k) l z55 (fun k t f => (∀ x ∈ t, x ∈ l) → ∀ (x8 : Int) (o : Option Loc), ((o = none ∧ x8 = -1) ∨ ∃ j : Nat, j < l.length ∧ x8 = j ∧ o = some (l.getD j z55)) → f x8 = (match (t.filter (keep a)).foldl (fmStep (l.getD i z55).f1) o with | none => none | some m => some (m.f0, dst m.f1 (l.getD i z55).f1, true))) ?_ ?_ (fun _ h => h) (-1) none (.inl ⟨rfl, rfl⟩)
 ·intro _ x8 o ho
  show spec_NearestTo.L0 l i x8 l l.length _ = _
  rw [spec_NearestTo.L0_eq, if_neg (by omega)]
  rcases ho with ⟨rfl, rfl⟩ | ⟨j, hj, rfl, rfl⟩
  ·rw [if_neg (by omega)]; rfl
  ·have hjm : l.getD j z55 ∈ l := by rw [List.getD_eq_getElem?_getD, List.getElem?_eq_getElem hj, Option.getD_some]; exact List.getElem_mem hj
   have hj1 := (g2 _ hjm).1
   rw [if_pos (by omega), if_pos (by omega), if_pos (by omega), if_pos (by omega), rd_loc, rd_loc, abs_some _ _ (by omega) (by omega)]
   rfl
 ·intro k x t hk hx _ _ ih hm x8 o ho
  have ih' := ih (fun y hy => hm y (by simp [hy]))
  have hx1 := (g2 x (hm x (by simp))).1
  show spec_NearestTo.L0 l i x8 l l.length _ = _
  rw [spec_NearestTo.L0_eq, if_pos (by omega), if_pos (by omega), if_pos (by omega), wrap_in (x := (k : Int) + 1) (by omega) (by omega)]
  by_cases hki : k = i
  ·subst hki
   rw [if_pos rfl]
   have : keep a x = false := by rw [hx] at hia; simp [keep, hia]
   rw [List.filter_cons_of_neg (by simp [this])]
   exact ih' x8 o ho
  ·rw [if_neg (by omega)]
   have hne : x.f0 ≠ a := fun h => hki (name_unique hg i 0 k hi hk (by rw [hx]; exact h))
   have : keep a x = true := by
    unfold keep
    rw [Bool.not_eq_true', beq_eq_false_iff_ne]
    exact fun h => hne (ext_data (by simpa using h))
   rw [List.filter_cons_of_pos this, List.foldl_cons]
   rcases ho with ⟨rfl, rfl⟩ | ⟨j, hj, rfl, rfl⟩
   ·rw [if_pos (by omega)]
    refine ih' k (some x) (.inr ⟨k, hk, rfl, by rw [hx]⟩)
   ·have hjm : l.getD j z55 ∈ l := by rw [List.getD_eq_getElem?_getD, List.getElem?_eq_getElem hj, Option.getD_some]; exact List.getElem_mem hj
    have hj1 := (g2 _ hjm).1
    rw [if_neg (by omega), if_pos (by omega), if_pos (by omega), rd_loc, rd_loc, hx, abs_some _ _ (by omega) (by omega), Option.bind_some, if_pos (by omega), if_pos (by omega), rd_loc, abs_some _ _ (by omega) (by omega), Option.bind_some]
    simp only [fmStep]
    by_cases c : dst x.f1 (l.getD i z55).f1 < dst (l.getD j z55).f1 (l.getD i z55).f1
    ·rw [if_pos c, if_pos c]
     exact ih' k (some x) (.inr ⟨k, hk, rfl, by rw [hx]⟩)
    ·rw [if_neg c, if_neg c]
     exact ih' j _ (.inr ⟨j, hj, rfl, rfl⟩)


theorem isRefWord {l : List Loc} {a : ByteArray} (hg : good l = true) (h : ¬ idxFrom a l 0 < 0) : isWord 97 122 a = true := by
 have key : ∀ (t : List Loc) (i : Nat), goodFrom l i t = true → ∀ x ∈ t, isWord 97 122 x.f0 = true := by
  intro t
  induction t with
  | nil => intro _ _ x hx; simp at hx
  | cons y t ih =>
   intro i h x hx
   simp only [goodFrom, okAt, Bool.and_eq_true] at h
   rcases List.mem_cons.1 hx with rfl | hx
   ·exact h.1.1
   ·exact ih _ h.2 x hx
 rcases idxFrom_cases a l 0 with ⟨h1, _⟩ | ⟨j, h1, _, h3⟩
 ·omega
 ·rw [List.getD_eq_getElem?_getD, List.getElem?_eq_getElem h1, Option.getD_some] at h3
  rw [← h3]; exact key l 0 hg _ (List.getElem_mem h1)




theorem least_some (l : List Loc) (a : Int) (hl : l.length ≤ 8) (hx : ∀ x ∈ l, (-90 ≤ x.f1 ∧ x.f1 ≤ 90) ∧ 1 ≤ x.f0.size) (ha : -90 ≤ a ∧ a ≤ 90) : spec_loLeast.F l a = some ((near l a).1, ((near l a).2.length : Int)) := by
 rw [spec_loLeast.F_eq]
 refine each (L := fun i => fun x6 x7 => spec_loLeast.L0 a x6 x7 l l.length i) l z55 (fun i t f => (∀ x ∈ t, x ∈ l) → ∀ s : Int × List ByteArray, s.2.length ≤ i → f s.1 s.2.length = some ((t.foldl (nearStep a) s).1, ((t.foldl (nearStep a) s).2.length : Int))) ?_ ?_ (fun _ h => h) (181, []) (by simp)
 ·intro _ s _
  show spec_loLeast.L0 a _ _ l _ _ = _
  rw [spec_loLeast.L0_eq, if_neg (by omega)]; rfl
 ·intro i x t hi hxi _ _ ih hm s hs
  have h1 := (hx x (hm x (by simp))).1
  have ih' := ih (fun y hy => hm y (by simp [hy]))
  show spec_loLeast.L0 a _ _ l _ _ = _
  rw [spec_loLeast.L0_eq, if_pos (by omega), if_pos (by omega), if_pos (by omega), rd_loc, hxi, wrap_in (x := (i : Int) + 1) (by omega) (by omega), abs_some _ _ (by omega) (by omega), Option.bind_some, List.foldl_cons]
  by_cases h2 : dst x.f1 a < s.1
  ·rw [if_pos h2]
   refine (ih' (dst x.f1 a, [x.f0]) (by simp)).trans ?_
   rw [nearStep, if_pos h2]
  ·rw [if_neg h2]
   by_cases h3 : dst x.f1 a = s.1
   ·rw [if_pos h3, wrap_in (by omega) (by omega)]
    have := ih' (s.1, s.2 ++ [x.f0]) (by simp; omega)
    simp only [List.length_append, List.length_singleton] at this
    rw [show (((s.2.length + 1 : Nat)) : Int) = (s.2.length : Int) + 1 from by omega] at this
    refine this.trans ?_
    rw [nearStep, if_neg h2, if_pos h3]
   ·rw [if_neg h3]
    refine (ih' s (by omega)).trans ?_
    rw [nearStep, if_neg h2, if_neg h3]

/-- Whom an angle means; the empty text for nobody. -/
def mt (l : List Loc) (a : Int) : ByteArray := if (near l a).1 > 20 then ⟨#[]⟩ else if (near l a).2.length = 1 then rdOf ByteArray.empty (near l a).2 0 else ⟨#[]⟩
theorem pointsAt_some (l : List Loc) (a : Int) (hl : l.length ≤ 8) (hx : ∀ x ∈ l, (-90 ≤ x.f1 ∧ x.f1 ≤ 90) ∧ 1 ≤ x.f0.size) (ha : -90 ≤ a ∧ a ≤ 90) : impl_pointsAt.F l a = some (mt l a) := by
 rw [impl_pointsAt.F_eq, nearest_some l a hl hx ha, Option.bind_some]
 unfold mt
 by_cases h1 : (near l a).1 > 20
 ·rw [if_pos h1, if_pos h1]
 ·rw [if_neg h1, if_neg h1]
  by_cases h2 : (near l a).2.length = 1
  ·rw [if_pos (by omega), if_pos (by omega), if_pos h2]
  ·rw [if_neg (by omega), if_neg h2]
theorem loMeans_some (l : List Loc) (a : Int) (hl : l.length ≤ 8) (hx : ∀ x ∈ l, (-90 ≤ x.f1 ∧ x.f1 ≤ 90) ∧ 1 ≤ x.f0.size) (ha : -90 ≤ a ∧ a ≤ 90) : spec_loMeans.F l a = some (mt l a, ((mt l a).toList != [])) := by
 have he : ((⟨#[]⟩ : ByteArray).toList != []) = false := by rw [toList_data]; rfl
 rw [spec_loMeans.F_eq, least_some l a hl hx ha, Option.bind_some]
 unfold mt
 by_cases h1 : (near l a).1 > 20
 ·rw [if_pos h1, if_pos h1, spec_loMeans.J0_eq, if_pos rfl, he]
 ·rw [if_neg h1, if_neg h1, spec_loMeans.J0_eq]
  by_cases h2 : (near l a).2.length = 1
  ·rw [if_neg (by simp [h2]), if_pos h2]
   obtain ⟨w, hw⟩ := List.length_eq_one_iff.1 h2
   have hw2 : rdOf ByteArray.empty (near l a).2 0 = w := by rw [hw]; rfl
   rw [hw2]
   have h3 := (near_spec l a).1
   rw [hw] at h3
   refine each (L := fun i => spec_loMeans.L0 a (near l a).1 l l.length i) l z55 (fun i t o => (∀ x ∈ t, x ∈ l) → [w] = (t.filter fun x => decide (dst x.f1 a = (near l a).1)).map (·.f0) → o = some (w, (w.toList != []))) ?_ ?_ (fun _ h => h) h3
   ·intro _ h4; simp at h4
   ·intro i x t hi hxi _ _ ih hm h4
    have h5 := hx x (hm x (by simp))
    show spec_loMeans.L0 a _ l _ _ = _
    rw [spec_loMeans.L0_eq, if_pos (by omega), if_pos (by omega), if_pos (by omega), rd_loc, hxi, wrap_in (x := (i : Int) + 1) (by omega) (by omega), abs_some _ _ (by omega) (by omega), Option.bind_some]
    by_cases h6 : dst x.f1 a = (near l a).1
    ·rw [if_pos h6]
     have h7 : w = x.f0 := by
      rw [List.filter_cons_of_pos (by simp [h6])] at h4
      simp at h4
      exact h4.1
     subst h7
     have h8 : (x.f0.toList != []) = true := by
      rw [toList_data, bne_iff_ne]
      intro e
      have := h5.2
      rw [size_data, e] at this
      simp at this
     rw [h8]
    ·rw [if_neg h6]
     rw [List.filter_cons_of_neg (by simp [h6])] at h4
     exact ih (fun y hy => hm y (by simp [hy])) h4
  ·rw [if_pos (by simp; omega), if_neg h2, he]

/-! ### One name, one place -/
theorem name_eq {l : List Loc} (hg : good l = true) {x y : Loc} (hx : x ∈ l) (hy : y ∈ l) (h : x.f0 = y.f0) : x = y := by
 obtain ⟨i, hi, rfl⟩ := List.mem_iff_getElem.1 hx
 obtain ⟨j, hj, rfl⟩ := List.mem_iff_getElem.1 hy
 rcases idxFrom_cases l[i].f0 l 0 with ⟨_, h2⟩ | ⟨m, m1, m2, _⟩
 ·exact absurd rfl (h2 _ (List.getElem_mem hi))
 ·rw [Nat.zero_add] at m2
  have e1 := name_unique hg m 0 i m2 hi (by rw [List.getD_eq_getElem?_getD, List.getElem?_eq_getElem hi, Option.getD_some])
  have e2 := name_unique hg m 0 j m2 hj (by rw [List.getD_eq_getElem?_getD, List.getElem?_eq_getElem hj, Option.getD_some]; exact h.symm)
  subst e1 e2
  rfl
theorem keep_iff (a : ByteArray) (x : Loc) : keep a x = true ↔ x.f0 ≠ a := by
 unfold keep
 rw [Bool.not_eq_true', beq_eq_false_iff_ne]
 exact ⟨fun h e => h (by rw [e]), fun h e => h (ext_data e)⟩
theorem filter_len {l : List Loc} {a : ByteArray} (hg : good l = true) (hi : 0 ≤ idxFrom a l 0) : (l.filter (keep a)).length + 1 = l.length := by
 rcases idxFrom_cases a l 0 with ⟨h1, _⟩ | ⟨i, h1, h2, h3⟩
 ·omega
 have hx : (l[i]).f0 = a := by rw [List.getD_eq_getElem?_getD, List.getElem?_eq_getElem h1, Option.getD_some] at h3; exact h3
 have hpart : l = l.take i ++ l[i] :: l.drop (i + 1) := by rw [List.getElem_cons_drop, List.take_append_drop]
 have hother : ∀ k, (hk : k < l.length) → k ≠ i → keep a l[k] = true := by
  intro k hk hki
  rw [keep_iff]
  intro e
  rw [Nat.zero_add] at h2
  exact hki (name_unique hg i 0 k h2 hk (by rw [List.getD_eq_getElem?_getD, List.getElem?_eq_getElem hk, Option.getD_some]; exact e))
 have f1 : (l.take i).filter (keep a) = l.take i := by
  rw [List.filter_eq_self]
  intro x hx
  obtain ⟨k, hk, rfl⟩ := List.mem_take_iff_getElem.1 hx
  exact hother k (by omega) (by omega)
 have f2 : (l.drop (i + 1)).filter (keep a) = l.drop (i + 1) := by
  rw [List.filter_eq_self]
  intro x hx
  obtain ⟨k, hk, rfl⟩ := List.mem_iff_getElem.1 hx
  rw [List.getElem_drop]
  rw [List.length_drop] at hk
  exact hother _ (by omega) (by omega)
 have f3 : keep a l[i] = false := by
  cases h : keep a l[i]
  ·rfl
  ·exact absurd hx ((keep_iff a _).1 h)
 have := congrArg (fun m => (List.filter (keep a) m).length) hpart
 simp only [List.filter_append, f1, List.filter_cons, f3, f2, Bool.false_eq_true, if_false, List.length_append, List.length_take, List.length_drop] at this
 omega
theorem dst_nn (a b : Int) : 0 ≤ dst a b := by unfold dst; split <;> omega
theorem near_nn (a : Int) : ∀ (t : List Loc) (s : Int × List ByteArray), 0 ≤ s.1 → 0 ≤ (t.foldl (nearStep a) s).1
 | [], _, h => h
 | x :: t, s, h => by
  rw [List.foldl_cons]
  refine near_nn a t _ ?_
  unfold nearStep
  split
  ·exact dst_nn _ _
  ·split <;> exact h
theorem strict_one {l : List Loc} (h : l.Pairwise (fun a b => a.f1 < b.f1)) {y : Loc} (hy : y ∈ l) : (l.filter fun x => decide (x.f1 = y.f1)) = [y] := by
 induction l with
 | nil => cases hy
 | cons x t ih =>
  rw [List.pairwise_cons] at h
  rcases List.mem_cons.1 hy with rfl | hy
  ·rw [List.filter_cons, if_pos (by simp)]
   congr 1
   rw [List.filter_eq_nil_iff]
   intro z hz
   have := h.1 z hz
   simp; omega
  ·have := h.1 y hy
   rw [List.filter_cons, if_neg (by simp; omega)]
   exact ih h.2 hy
/-- Who is put at an angle is meant by it. -/
theorem mt_of_mem {l : List Loc} (hg : good l = true) {y : Loc} (hy : y ∈ l) : mt l y.f1 = y.f0 := by
 obtain ⟨n1, n2⟩ := near_spec l y.f1
 have h0 : dst y.f1 y.f1 = 0 := by unfold dst; split <;> omega
 have h1 := n2 y hy
 have h2 := near_nn y.f1 l (181, []) (by decide)
 have h3 : (near l y.f1).1 = 0 := by
  have : 0 ≤ (near l y.f1).1 := h2
  omega
 have hd : ∀ x : Loc, decide (dst x.f1 y.f1 = 0) = decide (x.f1 = y.f1) := by
  intro x
  rw [decide_eq_decide]
  unfold dst
  split <;> omega
 rw [h3] at n1
 simp only [hd] at n1
 rw [strict_one (good_strict hg) hy] at n1
 unfold mt
 rw [h3, n1, if_neg (by omega), if_pos (by simp)]
 rfl
theorem points_same (l : List Loc) (a : Int) (hz : Sized l) : ∃ m t, spec_PointsAt.F l a = some (m, t) ∧ impl_PointsAt.F l a = some (m, t) ∧ (t = true → good l = true ∧ (-90 ≤ a ∧ a ≤ 90) ∧ m = mt l a ∧ m.toList ≠ []) ∧ (good l = true → -90 ≤ a ∧ a ≤ 90 → m = mt l a ∧ t = ((mt l a).toList != [])) := by
 rw [spec_PointsAt.F_eq, impl_PointsAt.F_eq, loGood_some _ hz, areLoci_some _ hz, isAngle_some, loAngle_some]
 cases hg : good l
 ·exact ⟨_, _, rfl, rfl, fun h => (by cases h), fun h => (by cases h)⟩
 obtain ⟨g1, g2⟩ := good_facts hg
 by_cases ha : -90 ≤ a ∧ a ≤ 90
 ·rw [loMeans_some _ _ g1 g2 ha, pointsAt_some _ _ g1 g2 ha]
  simp only [Option.bind_some, if_true, ha, and_self, decide_true]
  refine ⟨_, _, rfl, rfl, fun h => ⟨trivial, trivial, rfl, ?_⟩, fun _ _ => ⟨rfl, rfl⟩⟩
  simpa using h
 ·rw [decide_eq_false ha]
  exact ⟨_, _, rfl, rfl, fun h => (by cases h), fun _ h => absurd h ha⟩
/-- What it says that an angle means somebody. -/
theorem mt_says {l : List Loc} {a : Int} (hg : good l = true) (h : (mt l a).toList ≠ []) : ∃ x ∈ l, x.f0 = mt l a ∧ dst x.f1 a ≤ 20 ∧ ∀ y ∈ l, y.f0 ≠ mt l a → dst x.f1 a < dst y.f1 a := by
 obtain ⟨n1, n2⟩ := near_spec l a
 have hm : (near l a).1 ≤ 20 ∧ (near l a).2.length = 1 ∧ mt l a = rdOf ByteArray.empty (near l a).2 0 := by
  unfold mt at h ⊢
  by_cases h1 : (near l a).1 > 20
  ·rw [if_pos h1] at h; exact absurd (show (⟨#[]⟩ : ByteArray).toList = [] from by decide +kernel) h
  rw [if_neg h1] at h ⊢
  by_cases h2 : (near l a).2.length = 1
  ·rw [if_pos h2]; exact ⟨by omega, h2, rfl⟩
  ·rw [if_neg h2] at h; exact absurd (show (⟨#[]⟩ : ByteArray).toList = [] from by decide +kernel) h
 obtain ⟨h1, h2, h3⟩ := hm
 obtain ⟨w, hw⟩ := List.length_eq_one_iff.1 h2
 rw [hw] at h3
 have h4 : mt l a = w := h3
 rw [hw] at n1
 have hf : ∃ x, (l.filter fun x => decide (dst x.f1 a = (near l a).1)) = [x] ∧ x.f0 = w := by
  generalize l.filter (fun x => decide (dst x.f1 a = (near l a).1)) = f at n1
  match f, n1 with
  | [x], n1 => exact ⟨x, rfl, by simpa using n1.symm⟩
 obtain ⟨x, hx, hxw⟩ := hf
 have hxm : x ∈ l.filter fun x => decide (dst x.f1 a = (near l a).1) := by rw [hx]; simp
 obtain ⟨x1, x2⟩ := List.mem_filter.1 hxm
 have x3 : dst x.f1 a = (near l a).1 := by simpa using x2
 refine ⟨x, x1, by rw [h4, hxw], by omega, fun y hy hne => ?_⟩
 have y1 := n2 y hy
 rcases Int.lt_or_eq_of_le y1 with h5 | h5
 ·omega
 ·exfalso
  have hym : y ∈ l.filter fun x => decide (dst x.f1 a = (near l a).1) := List.mem_filter.2 ⟨hy, by simpa using h5.symm⟩
  rw [hx] at hym
  obtain rfl := List.mem_singleton.1 hym
  exact hne (by rw [h4, hxw])


theorem good_short {l : List Loc} (h : good l = true) : ∀ x ∈ l, x.f0.size ≤ 8 := by
 have key : ∀ (t : List Loc) (i : Nat), goodFrom l i t = true → ∀ x ∈ t, x.f0.size ≤ 8 := by
  intro t
  induction t with
  | nil => intro _ _ x hx; simp at hx
  | cons y t ih =>
   intro i h x hx
   simp only [goodFrom, okAt, isWord, Bool.and_eq_true, decide_eq_true_eq] at h
   rcases List.mem_cons.1 hx with rfl | hx
   ·exact h.1.1.1.2
   ·exact ih _ h.2 x hx
 exact key l 0 h

theorem pSame_refl (l : List Loc) (hl : l.length ≤ 9223372036854775807) : laws_pSameLoci.F l l = some true := by
 rw [laws_pSameLoci.F_eq, if_pos rfl]
 refine each (L := fun i => laws_pSameLoci.L0 l l l.length i) l z55 (fun _ _ o => o = some true) ?_ ?_
 ·show laws_pSameLoci.L0 l l _ _ = _
  rw [laws_pSameLoci.L0_eq, if_neg (by omega)]
 ·intro i x t hi hx _ _ ih
  show laws_pSameLoci.L0 l l _ _ = _
  rw [laws_pSameLoci.L0_eq, if_pos (by omega), if_pos (by omega), if_pos (by omega), if_pos (by omega), if_neg (by simp), wrap_in (x := (i : Int) + 1) (by omega) (by omega)]
  exact ih
theorem pAbs_some (a b : Int) (ha : -1000000 ≤ a ∧ a ≤ 1000000) (hb : -1000000 ≤ b ∧ b ≤ 1000000) : laws_pAbs.f (wrap64 (a - b)) = some (dst a b) := by
 unfold laws_pAbs.f dst
 rw [wrap_in (by omega) (by omega)]
 by_cases h : a < b
 ·rw [if_pos (by omega), if_pos h, wrap_in (by omega) (by omega)]; congr 1; omega
 ·rw [if_neg (by omega), if_neg h]
theorem drop_same (L : List Loc) (a : ByteArray) (hz : Sized L) (hlm : L.length ≤ 1048576) (ha : a.size ≤ 9223372036854775807) (hg : good L = true) (hi : 0 ≤ idxFrom a L 0) :
 spec_DropReferent.F L a = some (L.filter (keep a), true) ∧ impl_DropReferent.F L a = some (L.filter (keep a), true) := by
 have hi2 : ¬ idxFrom a L 0 < 0 := by omega
 rw [spec_DropReferent.F_eq, impl_DropReferent.F_eq, loGood_some _ hz, areLoci_some _ hz, isWordOf_some 97 122 _ _ ha (by decide +kernel), loFind_some _ _ hz.1, locusOf_some _ _ hz.1, loWithout_some L a hlm, without_some L a hlm]
 simp only [Option.bind_some, hg, isRefWord hg hi2, if_true, if_neg hi2, and_self]
theorem shift_same (L : List Loc) (a : ByteArray) (hz : Sized L) (hlm : L.length ≤ 1048576) : ∃ r b, spec_ShiftRole.F L a = some (r, b) ∧ impl_ShiftRole.F L a = some (r, b) ∧ r.length ≤ 1048576 ∧ (b = true → good r = true ∧ r.length = L.length ∧ (⟨⟨#[115, 105, 103, 110, 101, 114]⟩, 0⟩ : Loc) ∈ r) := by
 rw [spec_ShiftRole.F_eq, impl_ShiftRole.F_eq, loGood_some _ hz, areLoci_some _ hz, loFind_some _ _ hz.1, locusOf_some _ _ hz.1]
 simp only [Option.bind_some, spec_ShiftRole.J0_eq, impl_ShiftRole.J0_eq]
 cases hg : good L
 ·exact ⟨_, _, rfl, rfl, by simp, fun h => (by cases h)⟩
 rcases idxFrom_cases a L 0 with ⟨h4, _⟩ | ⟨i, h4, h5, h6⟩
 ·rw [h4]; exact ⟨_, _, rfl, rfl, by simp, fun h => (by cases h)⟩
 have hfl := filter_len (a := a) hg (by omega)
 rw [Nat.zero_add] at h5
 rw [h5]
 obtain ⟨g1, g2⟩ := good_facts hg
 have him : L.getD i z55 ∈ L := by rw [List.getD_eq_getElem?_getD, List.getElem?_eq_getElem h4, Option.getD_some]; exact List.getElem_mem h4
 have hat := (g2 _ him).1
 have hW : (L.filter (keep a)).length ≤ 8 := Nat.le_trans (List.length_filter_le _ _) g1
 have hWf : ∀ x ∈ L.filter (keep a), x ∈ L := fun x hx => (List.mem_filter.1 hx).1
 have hn : decide ((i : Int) < 0) = false := decide_eq_false (by omega)
 simp only [hn, if_true, Bool.false_eq_true, if_false]
 rw [loFind_some _ _ hz.1, h5, Option.bind_some, if_pos (by omega), if_pos (by omega), loWithout_some L a hlm, without_some L a hlm, Option.bind_some, Option.bind_some, rd_loc,
  implShift_some L _ i _ h4 hW (by simp) hat (fun x hx => (g2 x (hWf x hx)).1), specShift_some _ _ _ hW (by simp) hat (fun x hx => (g2 x (hWf x hx)).1)]
 generalize (L.getD i z55).f1 = b at hat ⊢
 generalize hs0 : (⟨(⟨#[115, 105, 103, 110, 101, 114]⟩ : ByteArray), 0⟩ : Loc) = s0
 have hsz : s0.f0.size ≤ 8 := by rw [← hs0]; decide
 have hsk : s0.f1 = 0 := by rw [← hs0]
 have hO : ∀ x ∈ [s0] ++ (L.filter (keep a)).map (moved b), (-1000000 ≤ x.f1 ∧ x.f1 ≤ 1000000) ∧ x.f0.size ≤ 9223372036854775807 := by
  intro x hx
  rcases List.mem_append.1 hx with hx | hx
  ·obtain rfl := List.mem_singleton.1 hx
   omega
  ·obtain ⟨y, hy, rfl⟩ := List.mem_map.1 hx
   have := hz.2 y (hWf y hy)
   refine ⟨?_, this⟩
   simp only [moved, clamp]
   repeat' split
   all_goals omega
 have hOl : ([s0] ++ (L.filter (keep a)).map (moved b)).length = 1 + (L.filter (keep a)).length := by simp; omega
 have hzO : Sized ([s0] ++ (L.filter (keep a)).map (moved b)) := ⟨by omega, fun x hx => (hO x hx).2⟩
 have hp := fold_perm b (L.filter (keep a)) [s0]
 have hr := fold_rising b (L.filter (keep a)) [s0] (by simp [Rising])
 generalize (L.filter (keep a)).foldl (fun o x => putAt (moved b x) o) [s0] = Q at hp hr ⊢
 have hzP : Sized Q := ⟨by rw [hp.length_eq]; exact hzO.1, fun x hx => hzO.2 x (hp.mem_iff.1 hx)⟩
 obtain ⟨m, m1, m2, m3⟩ := sortedLoci_some _ hzO (by omega) (by omega) (fun x hx => (hO x hx).1)
 have ho := order_same (hp.trans m1.symm) hr m2
 have hlen := hp.length_eq
 have hmem : s0 ∈ Q := hp.mem_iff.2 (by simp)
 rw [← ho] at m3
 have hzi := loIf_some _ hzP
 rw [hzi, m3, Option.bind_some]
 cases hq : good Q
 ·exact ⟨_, _, rfl, rfl, by simp, fun h => (by cases h)⟩
 ·exact ⟨_, _, rfl, rfl, by show Q.length ≤ _; omega, fun _ => ⟨hq, by show Q.length = _; omega, hmem⟩⟩
theorem fm_mem (a : Int) : ∀ (t : List Loc) (o : Option Loc) (m : Loc), t.foldl (fmStep a) o = some m → m ∈ t ∨ o = some m
 | [], _, _, h => .inr h
 | x :: t, o, m, h => by
  rw [List.foldl_cons] at h
  rcases fm_mem a t _ m h with h1 | h1
  ·exact .inl (List.mem_cons_of_mem _ h1)
  ·cases o with
   | none => simp only [fmStep, Option.some.injEq] at h1; exact .inl (by simp [h1])
   | some y =>
    simp only [fmStep] at h1
    split at h1
    ·simp only [Option.some.injEq] at h1; exact .inl (by simp [h1])
    ·exact .inr h1
theorem nearest_same (L : List Loc) (a : ByteArray) (hz : Sized L) (hlm : L.length ≤ 1048576) : ∃ n d t, spec_NearestTo.F L a = some (n, d, t) ∧ impl_NearestTo.F L a = some (n, d, t) ∧
 (t = true → good L = true ∧ ∃ y ∈ L, y.f0 = a ∧ ∃ m ∈ L, m.f0 ≠ a ∧ n = m.f0 ∧ d = dst m.f1 y.f1 ∧ ∀ x ∈ L, x.f0 ≠ a → d ≤ dst x.f1 y.f1) := by
 rw [spec_NearestTo.F_eq, impl_NearestTo.F_eq, loGood_some _ hz, areLoci_some _ hz, loFind_some _ _ hz.1, locusOf_some _ _ hz.1]
 simp only [Option.bind_some, spec_NearestTo.J0_eq, impl_NearestTo.J0_eq]
 cases hg : good L
 ·exact ⟨_, _, _, rfl, rfl, fun h => (by cases h)⟩
 rw [if_pos rfl, if_pos rfl]
 rcases idxFrom_cases a L 0 with ⟨h4, _⟩ | ⟨i, h4, h5, h6⟩
 ·rw [h4]; exact ⟨_, _, _, rfl, rfl, fun h => (by cases h)⟩
 rw [Nat.zero_add] at h5
 rw [h5]
 simp only [show ¬ ((i : Int) < 0) from by omega, if_false]
 by_cases h7 : L.length = 1
 ·rw [h7]; exact ⟨_, _, _, rfl, rfl, fun h => (by cases h)⟩
 have h8 : ((L.length : Int) == 1) = false := by
  rw [beq_eq_false_iff_ne]; omega
 rw [h8, if_neg (by simp), if_neg (by simp)]
 obtain ⟨g1, g2⟩ := good_facts hg
 have him : L.getD i z55 ∈ L := by rw [List.getD_eq_getElem?_getD, List.getElem?_eq_getElem h4, Option.getD_some]; exact List.getElem_mem h4
 have hat := (g2 _ him).1
 rw [nearTo_some L a i hg h5 h4, without_some L a hlm, Option.bind_some, if_pos (by omega), if_pos (by omega), rd_loc]
 have hW : ∀ x ∈ L.filter (keep a), (-90 ≤ x.f1 ∧ x.f1 ≤ 90) ∧ 1 ≤ x.f0.size := fun x hx => g2 x (List.mem_filter.1 hx).1
 rw [nearest_some _ _ (Nat.le_trans (List.length_filter_le _ _) g1) hW hat, Option.bind_some]
 have hfl := filter_len (a := a) hg (by omega)
 have hne : L.filter (keep a) ≠ [] := by
  intro h9
  rw [h9, List.length_nil] at hfl
  omega
 have hf := near_fm (L.getD i z55).f1 hat (L.filter (keep a)) none (181, []) (fun x hx => (hW x hx).1) (by trivial)
 obtain ⟨x, t, hxt⟩ := List.exists_cons_of_ne_nil hne
 obtain ⟨m, hm⟩ := fm_some (L.getD i z55).f1 t x
 have hm' : (L.filter (keep a)).foldl (fmStep (L.getD i z55).f1) none = some m := by rw [hxt]; exact hm
 rw [hm'] at hf
 obtain ⟨f1, r, f2⟩ := hf
 rw [hm']
 have f2' : (near (L.filter (keep a)) (L.getD i z55).f1).2 = m.f0 :: r := f2
 have f1' : (near (L.filter (keep a)) (L.getD i z55).f1).1 = dst m.f1 (L.getD i z55).f1 := f1
 have hmm : m ∈ L.filter (keep a) := by
  rcases fm_mem _ _ _ _ hm' with h | h
  ·exact h
  ·cases h
 have hns := (near_spec (L.filter (keep a)) (L.getD i z55).f1).2
 rw [f1'] at hns
 rw [f2', f1', if_pos (by simp)]
 obtain ⟨q1, q2⟩ := List.mem_filter.1 hmm
 exact ⟨_, _, _, rfl, rfl, fun _ => ⟨trivial, _, him, h6, m, q1, (keep_iff a m).1 q2, rfl, rfl, fun x hx hxa => hns x (List.mem_filter.2 ⟨hx, (keep_iff a x).2 hxa⟩)⟩⟩
/-! ### What is drawn for the law -/
theorem drawPut (l : List Int) (hl : Bytes l) : ∃ L w c, spec_DrawPutReferent.F l = some (L, w, c) ∧ Drawn L ∧ w.size ≤ 9 := by
 obtain ⟨L, b, t, h1, h2, h3, h4⟩ := loci_tells l hl
 obtain ⟨w, b2, t2, k1, k2, k3, k4⟩ := anyReferent_tells l hl b t (by omega)
 obtain ⟨c, b3, t3, m1, _⟩ := angleOf_tells l hl b2 t2 (by omega)
 rw [spec_DrawPutReferent.F_eq, h1, Option.bind_some]
 simp only [k1, m1, Option.bind_some]
 exact ⟨_, _, _, rfl, h2, k2⟩
theorem drawPoints (l : List Int) (hl : Bytes l) : ∃ L c, spec_DrawPointsAt.F l = some (L, c) ∧ Drawn L := by
 obtain ⟨L, b, t, h1, h2, h3, h4⟩ := loci_tells l hl
 have any : ∀ b t, 0 ≤ b → b ≤ 1200 → ∃ c, spec_DrawPointsAt.J0 L false l b t = some (L, c) := by
  intro b t hb0 hb1
  obtain ⟨c, b3, t3, m1, _⟩ := angleOf_tells l hl b t (by omega)
  rw [spec_DrawPointsAt.J0_eq, if_neg (by simp), m1, Option.bind_some]
  exact ⟨_, rfl⟩
 rw [spec_DrawPointsAt.F_eq, h1, Option.bind_some]
 dsimp only
 by_cases c0 : (L.length : Int) > 0
 ·obtain ⟨r, b2, t2, k1, k2, k3⟩ := one_tells l hl b t 2 (by omega) (by omega)
  rw [if_pos c0, k1, Option.bind_some]
  dsimp only
  cases r
  ·obtain ⟨c, h⟩ := any b2 t2 (by omega) (by omega)
   exact ⟨_, _, h, h2⟩
  ·obtain ⟨j, b3, t3, m1, m2, m3, m4, m5⟩ := pick_tells l hl b2 t2 L.length (by omega) (by have := h2.1; omega)
   have hj := m3 (by omega)
   obtain ⟨q, b4, t4, n1, n2, n3, n4⟩ := among_tells l hl b3 t3 [0, 5, -5, 20, 21, -20] (by omega) (by simp)
   rw [spec_DrawPointsAt.J0_eq, if_pos rfl, m1, Option.bind_some]
   dsimp only
   rw [if_pos m2, if_pos hj, n1, Option.bind_some]
   exact ⟨_, _, rfl, h2⟩
 ·rw [if_neg c0]
  obtain ⟨c, h⟩ := any b t (by omega) (by omega)
  exact ⟨_, _, h, h2⟩
theorem drawShift (l : List Int) (hl : Bytes l) : ∃ L w, spec_DrawShiftRole.F l = some (L, w) ∧ Drawn L ∧ w.size ≤ 9 := by
 obtain ⟨L, b, t, h1, h2, h3, h4⟩ := loci_tells l hl
 have any : ∀ b t, 0 ≤ b → b ≤ 1200 → ∃ w, spec_DrawDropReferent.J0 L false l b t = some (L, w) ∧ w.size ≤ 9 := by
  intro b t hb0 hb1
  obtain ⟨w, b2, t2, k1, k2, _⟩ := anyReferent_tells l hl b t (by omega)
  rw [spec_DrawDropReferent.J0_eq, if_neg (by simp), k1, Option.bind_some]
  exact ⟨_, rfl, k2⟩
 have key : ∃ w, spec_DrawDropReferent.F l = some (L, w) ∧ w.size ≤ 9 := by
  rw [spec_DrawDropReferent.F_eq, h1, Option.bind_some]
  dsimp only
  by_cases c0 : (L.length : Int) > 0
  ·obtain ⟨r, b2, t2, k1, k2, k3⟩ := one_tells l hl b t 4 (by omega) (by omega)
   rw [if_pos c0, k1, Option.bind_some]
   dsimp only
   cases r
   ·obtain ⟨j, b3, t3, m1, m2, m3, m4, m5⟩ := pick_tells l hl b2 t2 L.length (by omega) (by have := h2.1; omega)
    have hj := m3 (by omega)
    obtain ⟨n, rfl⟩ := Int.eq_ofNat_of_zero_le m2
    have hn : n < L.length := by omega
    rw [Bool.not_false, spec_DrawDropReferent.J0_eq, if_pos rfl, m1, Option.bind_some]
    dsimp only
    rw [if_pos m2, if_pos hj, rd_loc]
    refine ⟨_, rfl, h2.2 _ ?_⟩
    rw [List.getD_eq_getElem?_getD, List.getElem?_eq_getElem hn, Option.getD_some]
    exact List.getElem_mem hn
   ·rw [Bool.not_true]
    exact any b2 t2 (by omega) (by omega)
  ·rw [if_neg c0]
   exact any b t (by omega) (by omega)
 obtain ⟨w, k1, k2⟩ := key
 rw [spec_DrawShiftRole.F_eq, k1, Option.bind_some]
 exact ⟨_, _, rfl, h2, k2⟩
/-! ### The law -/
theorem J8_some (V : List Loc) (role n : ByteArray) (d : Int) (t : Bool) (hg : t = true → good V = true ∧ ∃ y ∈ V, y.f0 = role ∧ ∃ m ∈ V, m.f0 ≠ role ∧ n = m.f0 ∧ d = dst m.f1 y.f1 ∧ ∀ x ∈ V, x.f0 ≠ role → d ≤ dst x.f1 y.f1) : laws_FnLoci.J8 V role t n d = some true := by
 rw [laws_FnLoci.J8_eq]
 cases t
 ·rfl
 obtain ⟨g, y, hy, hyr, m, hm, hmr, hn, hd, hall⟩ := hg rfl
 obtain ⟨g1, g2⟩ := good_facts g
 have hyb := (g2 y hy).1
 rw [if_pos rfl]
 have l3 : laws_FnLoci.L3 role n d y.f1 V V.length 0 = some true := by
  refine each (L := fun i => laws_FnLoci.L3 role n d y.f1 V V.length i) V z55 (fun _ t o => (∀ x ∈ t, x ∈ V) → o = some true) ?_ ?_ (fun _ h => h)
  ·intro _
   show laws_FnLoci.L3 role n d y.f1 V _ _ = _
   rw [laws_FnLoci.L3_eq, if_neg (by omega)]
  ·intro i x t hi hx _ _ ih hmm
   have hxm := hmm x (by simp)
   have hxb := (g2 x hxm).1
   have ih' := ih (fun z hz => hmm z (by simp [hz]))
   show laws_FnLoci.L3 role n d y.f1 V _ _ = _
   rw [laws_FnLoci.L3_eq, if_pos (by omega), if_pos (by omega), if_pos (by omega), rd_loc, hx, wrap_in (x := (i : Int) + 1) (by omega) (by omega), pAbs_some _ _ (by omega) (by omega)]
   simp only [Option.bind_some]
   by_cases c1 : x.f0.toList = role.toList
   ·have e1 : x.f0 = role := ext_data c1
    have c2 : ¬ x.f0.toList = n.toList := fun e => hmr (by rw [← hn, ← ext_data e, e1])
    rw [if_pos c1, if_neg c2]
    exact ih'
   ·have e1 : x.f0 ≠ role := fun e => c1 (by rw [e])
    have hdx := hall x hxm e1
    rw [if_neg c1, if_neg (by omega)]
    by_cases c2 : x.f0.toList = n.toList
    ·have e2 : x = m := name_eq g hxm hm ((ext_data c2).trans hn)
     rw [if_pos c2, if_pos (by rw [e2]; exact hd.symm)]
     exact ih'
    ·rw [if_neg c2]
     exact ih'
 have := each (L := fun i => fun at_ => laws_FnLoci.L2 V role n d at_ V V.length i) V z55 (fun _ t f => (∀ x ∈ t, x ∈ V) → ∀ at_ : Int, (at_ = y.f1 ∨ y ∈ t) → f at_ = some true) ?_ ?_ (fun _ h => h) 0 (.inr hy)
 ·exact this
 ·intro _ at_ h
  show laws_FnLoci.L2 V role n d at_ V _ _ = _
  rcases h with h | h
  ·rw [laws_FnLoci.L2_eq, if_neg (by omega), h]
   exact l3
  ·cases h
 ·intro i x t hi hx _ _ ih hmm at_ h
  have hxm := hmm x (by simp)
  have ih' := ih (fun z hz => hmm z (by simp [hz]))
  show laws_FnLoci.L2 V role n d at_ V _ _ = _
  rw [laws_FnLoci.L2_eq, if_pos (by omega), if_pos (by omega), if_pos (by omega), rd_loc, hx, wrap_in (x := (i : Int) + 1) (by omega) (by omega)]
  by_cases c1 : x.f0.toList = role.toList
  ·have e2 : x = y := name_eq g hxm hy ((ext_data c1).trans hyr.symm)
   rw [if_pos c1, e2]
   exact ih' _ (.inl rfl)
  ·rw [if_neg c1]
   refine ih' _ ?_
   rcases h with h | h
   ·exact .inl h
   ·rcases List.mem_cons.1 h with h | h
    ·exact absurd (by rw [← h, hyr]) c1
    ·exact .inr h
theorem J6_some (l : List Int) (hl : Bytes l) : laws_FnLoci.J6 l = some true := by
 obtain ⟨V, role, d1, d2, d3⟩ := drawShift l hl
 have hz := d2.sized
 have hlm : V.length ≤ 1048576 := by have := d2.1; omega
 obtain ⟨s, b, s1, s2, s3, s4⟩ := shift_same V role hz hlm
 obtain ⟨n, d, t, n1, n2, n3⟩ := nearest_same V role hz hlm
 have j8 := J8_some V role n d t n3
 rw [laws_FnLoci.J6_eq, d1, Option.bind_some]
 simp only [s1, s2, n1, n2, Option.bind_some, pSame_refl s (by omega), bne_self_eq_false, Bool.false_eq_true, if_false, if_true]
 rw [laws_FnLoci.J7_eq, if_neg (by simp)]
 cases b
 ·exact j8
 obtain ⟨q1, q2, q3⟩ := s4 rfl
 have hzs : Sized s := ⟨by omega, fun x hx => by have := good_short q1 x hx; omega⟩
 obtain ⟨m, t2, p1, p2, p3, p4⟩ := points_same s 0 hzs
 obtain ⟨p5, p6⟩ := p4 q1 (by omega)
 have hm := mt_of_mem q1 q3
 have hm' : mt s 0 = ⟨#[115, 105, 103, 110, 101, 114]⟩ := hm
 rw [if_pos rfl, p2, Option.bind_some, p5, p6, hm', areLoci_some _ hzs, q1]
 have e1 : ((⟨#[115, 105, 103, 110, 101, 114]⟩ : ByteArray).toList != []) = true := by decide +kernel
 have e2 : (⟨#[115, 105, 103, 110, 101, 114]⟩ : ByteArray).toList = [115, 105, 103, 110, 101, 114] := by decide +kernel
 rw [e1]
 simp only [if_true, e2, q2, Option.bind_some]
 exact j8
theorem J1_some (l : List Int) (hl : Bytes l) : laws_FnLoci.J1 l = some true := by
 obtain ⟨U, a, d1, d2⟩ := drawPoints l hl
 have hz := d2.sized
 have j6 := J6_some l hl
 obtain ⟨m, t, p1, p2, p3, _⟩ := points_same U a hz
 rw [laws_FnLoci.J1_eq, d1, Option.bind_some]
 simp only [p1, p2, Option.bind_some, bne_self_eq_false, Bool.false_eq_true, if_false]
 rw [laws_FnLoci.J2_eq, if_neg (by simp)]
 cases t
 ·exact j6
 obtain ⟨g, ha, hm, hne⟩ := p3 rfl
 rw [hm] at hne
 obtain ⟨x0, h1, h2, h3, h4⟩ := mt_says g hne
 rw [← hm] at h2 h4
 obtain ⟨g1, g2⟩ := good_facts g
 have hd0 := dst_nn x0.f1 a
 rw [if_pos rfl]
 have l1 : laws_FnLoci.L1 l a m (dst x0.f1 a) U U.length 0 = some true := by
  refine each (L := fun i => laws_FnLoci.L1 l a m (dst x0.f1 a) U U.length i) U z55 (fun _ t o => (∀ x ∈ t, x ∈ U) → o = some true) ?_ ?_ (fun _ h => h)
  ·intro _
   show laws_FnLoci.L1 l a m _ U _ _ = _
   rw [laws_FnLoci.L1_eq, if_neg (by omega)]
   exact j6
  ·intro i x t hi hx _ _ ih hmm
   have hxm := hmm x (by simp)
   have hxb := (g2 x hxm).1
   have ih' := ih (fun z hz => hmm z (by simp [hz]))
   show laws_FnLoci.L1 l a m _ U _ _ = _
   rw [laws_FnLoci.L1_eq, if_pos (by omega), if_pos (by omega), if_pos (by omega), rd_loc, hx, wrap_in (x := (i : Int) + 1) (by omega) (by omega), pAbs_some _ _ (by omega) (by omega)]
   simp only [Option.bind_some]
   by_cases c1 : x.f0.toList = m.toList
   ·rw [if_pos c1]; exact ih'
   ·have := h4 x hxm (fun e => c1 (by rw [e]))
    rw [if_neg c1, if_neg (by omega)]
    exact ih'
 have := each (L := fun i => fun far => laws_FnLoci.L0 l U a m far U U.length i) U z55 (fun _ t f => (∀ x ∈ t, x ∈ U) → ∀ far : Int, (far = dst x0.f1 a ∨ x0 ∈ t) → f far = some true) ?_ ?_ (fun _ h => h) (-1) (.inr h1)
 ·exact this
 ·intro _ far h
  show laws_FnLoci.L0 l U a m far U _ _ = _
  rcases h with h | h
  ·rw [laws_FnLoci.L0_eq, if_neg (by omega), if_neg (by omega), laws_FnLoci.J4_eq, if_neg (by rw [h]; simp; omega), h]
   exact l1
  ·cases h
 ·intro i x t hi hx _ _ ih hmm far h
  have hxm := hmm x (by simp)
  have hxb := (g2 x hxm).1
  have ih' := ih (fun z hz => hmm z (by simp [hz]))
  show laws_FnLoci.L0 l U a m far U _ _ = _
  rw [laws_FnLoci.L0_eq, if_pos (by omega), if_pos (by omega), if_pos (by omega), rd_loc, hx, wrap_in (x := (i : Int) + 1) (by omega) (by omega), pAbs_some _ _ (by omega) (by omega)]
  simp only [Option.bind_some]
  by_cases c1 : x.f0.toList = m.toList
  ·have e2 : x = x0 := name_eq g hxm h1 ((ext_data c1).trans h2.symm)
   rw [if_pos c1, e2]
   exact ih' _ (.inl rfl)
  ·rw [if_neg c1]
   refine ih' _ ?_
   rcases h with h | h
   ·exact .inl h
   ·rcases List.mem_cons.1 h with h | h
    ·exact absurd (by rw [← h, h2]) c1
    ·exact .inr h
theorem idx_mem {l : List Loc} {y : Loc} (hy : y ∈ l) : 0 ≤ idxFrom y.f0 l 0 := by
 rcases idxFrom_cases y.f0 l 0 with ⟨_, h2⟩ | ⟨j, _, h2, _⟩
 ·exact absurd rfl (h2 y hy)
 ·omega
set_option maxHeartbeats 4000000 in
theorem FnLoci : laws_FnLoci.Pure := by
 intro l m hl _ hlw hm _ hmw
 refine lim_rounds (?_ : laws_FnLoci.F l m = some true)
 rw [laws_FnLoci.F_eq]
 unfold laws_big.f
 by_cases c0 : (l.length : Int) > 1048576
 ·rw [if_pos c0]; rfl
 rw [if_neg c0, wrap_in (by omega) (by omega), Option.bind_some]
 by_cases c1 : (m.length : Int) > 1048576 - (l.length : Int)
 ·rw [decide_eq_true c1]; rfl
 rw [decide_eq_false c1, if_neg (by simp)]
 have hlB : Bytes l := bytes_of (by omega) hlw
 have hmB : Bytes m := bytes_of (by omega) hmw
 obtain ⟨L, w, c, d1, d2, d3⟩ := drawPut l hlB
 have hz := d2.sized
 have hlm : L.length ≤ 1048576 := by have := d2.1; omega
 have j1 := J1_some m hmB
 obtain ⟨r, b, p1, p2, p3, p4⟩ := put_same L w c hz hlm (by omega)
 have hrl : r.length ≤ 9223372036854775807 := by
  cases b
  ·rw [p3 rfl]; simp
  ·have := (good_facts (p4 rfl).1).1; omega
 rw [d1, Option.bind_some]
 simp only [p1, p2, Option.bind_some, bne_self_eq_false, Bool.false_eq_true, if_false, pSame_refl r hrl, Bool.not_true]
 rw [laws_FnLoci.J0_eq, if_neg (by simp)]
 cases b
 ·exact j1
 obtain ⟨q1, q2, q3, q4, q5⟩ := p4 rfl
 have hzr : Sized r := ⟨hrl, fun x hx => by have := good_short q1 x hx; omega⟩
 have hmem : (⟨w, c⟩ : Loc) ∈ r := q5.mem_iff.2 (by simp)
 have hmt : mt r c = w := mt_of_mem q1 hmem
 obtain ⟨m1, t1, s1, s2, s3, s4⟩ := points_same r c hzr
 obtain ⟨s5, s6⟩ := s4 q1 q4
 have hi : 0 ≤ idxFrom w r 0 := idx_mem hmem
 have hrm : r.length ≤ 1048576 := by have := (good_facts q1).1; omega
 obtain ⟨k1, k2⟩ := drop_same r w hzr hrm (by omega) q1 hi
 have hfl := filter_len (a := w) q1 hi
 have hwn : (w.toList != []) = true := by
  have : 1 ≤ w.size := by simp only [isWord, Bool.and_eq_true, decide_eq_true_eq] at q3; exact q3.1.1
  rw [bne_iff_ne]
  intro e
  rw [toList_data] at e
  have := size_data w
  rw [e, List.length_nil] at this
  omega
 rw [if_pos rfl, s2, Option.bind_some, k1, k2, Option.bind_some, Option.bind_some, s5, s6, hmt, hwn, areLoci_some _ hzr, q1]
 dsimp only
 rw [if_pos rfl, if_pos rfl, if_pos rfl, if_pos rfl, pSame_refl _ (by omega), Option.bind_some, if_pos rfl, wrap_in (by omega) (by omega), if_pos (by omega), Option.bind_some, if_pos rfl]
 exact j1

end Go.Proofs.Ytbheajjagkdjmaa.Pure
