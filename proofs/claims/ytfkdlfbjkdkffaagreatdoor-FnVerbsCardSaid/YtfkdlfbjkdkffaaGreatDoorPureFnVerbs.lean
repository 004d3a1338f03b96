/- The pure statement of the law FnVerbs: for all arguments within their bounds its Lean function answers true. -/
import Derived.Test.YtfkdlfbjkdkffaaGreatDoorPFnVerbsxD0
namespace Go.Proofs.YtfkdlfbjkdkffaaGreatDoor.Pure
open Go.RowKit Go.Proofs.YtfkdlfbjkdkffaaGreatDoor.PFnVerbs Go.Proofs.YtfkdlfbjkdkffaaGreatDoorW.PrintWords Go.Proofs.YtfkdlfbjkdkffaaGreatDoorW.PrintLast
set_option linter.unusedVariables false
set_option linter.unusedSimpArgs false
/-! ### Numbers, loops, letters -/
theorem wrap_in {x : Int} (h0 : -9223372036854775808 ≤ x) (h1 : x ≤ 9223372036854775807) : wrap64 x = x := by
 unfold wrap64; omega
theorem wf_i64 {n : Int} (h : (Lit.int .i64 n).wf = true) : -9223372036854775808 ≤ n ∧ n ≤ 9223372036854775807 := by
 simpa [Lit.wf, IntKind.min, IntKind.max, IntKind.signed, IntKind.bits] using h
/-- A loop over a list, from its end. L: what the loop tells from place i on. -/
theorem each {α γ : Type} (L : Int → γ) (l : List α) (z : α) (R : Nat → List α → γ → Prop) (nil : R l.length [] (L l.length))
 (cons : ∀ (i : Nat) (x : α) (t : List α), i < l.length → l.getD i z = x → l.drop i = x :: t → l.drop (i + 1) = t → R (i + 1) t (L ((i : Int) + 1)) → R i (x :: t) (L i)) : R 0 l (L 0) := by
 have key : ∀ (t : List α) (i : Nat), l.drop i = t → i ≤ l.length → R i t (L i) := by
  intro t
  induction t with
  | nil =>
   intro i h hi
   have : l.length ≤ i := by simpa [List.drop_eq_nil_iff] using h
   obtain rfl : i = l.length := by omega
   exact nil
  | cons x t ih =>
   intro i h hi
   have hlt : i < l.length := by
    rcases Nat.lt_or_ge i l.length with h' | h'
    ·exact h'
    ·rw [List.drop_eq_nil_of_le h'] at h; cases h
   have h2 := List.drop_eq_getElem_cons hlt
   rw [h] at h2
   injection h2 with h3 h4
   refine cons i x t hlt ?_ h h4.symm ?_
   ·rw [List.getD_eq_getElem?_getD, List.getElem?_eq_getElem hlt]; exact h3.symm
   ·have := ih (i + 1) h4.symm (by omega)
    rwa [show ((i + 1 : Nat) : Int) = (i : Int) + 1 from by omega] at this
 have := key l 0 rfl (Nat.zero_le _)
 rwa [show ((0 : Nat) : Int) = 0 from rfl] at this
theorem bt_data (s : ByteArray) (i : Nat) (h : i < s.size) : bt s (i : Int) = ((s.data.toList.getD i 0).toNat : Int) := by
 obtain ⟨d⟩ := s
 have h' : i < d.size := h
 have : bt ⟨d⟩ (i : Int) = ((d[i]).toNat : Int) := by
  unfold bt
  rw [dif_pos (show ((i : Int)).toNat < (⟨d⟩ : ByteArray).size from by simpa using h)]
  rfl
 rw [this]
 simp [h']
theorem size_data (s : ByteArray) : s.size = s.data.toList.length := by
 obtain ⟨d⟩ := s; simp [ByteArray.size]
theorem toList_data (s : ByteArray) : s.toList = s.data.toList := by
 rw [ByteArray.toList_eq]
theorem ext_data {s t : ByteArray} (h : s.toList = t.toList) : s = t := by
 rw [toList_data, toList_data] at h
 obtain ⟨⟨a⟩⟩ := s
 obtain ⟨⟨b⟩⟩ := t
 simp at h
 rw [h]
theorem toList_iff {s t : ByteArray} : s.toList = t.toList ↔ s = t := ⟨ext_data, fun h => by rw [h]⟩
theorem mem_drop {α : Type} {l t : List α} {x : α} {i : Nat} (h : l.drop i = x :: t) : x ∈ l := List.mem_of_mem_drop (i := i) (by rw [h]; simp)

/-! ### What is drawn -/
def Bytes (l : List Int) : Prop := l.length ≤ 9223372036854775807 ∧ ∀ x ∈ l, 0 ≤ x ∧ x < 256
theorem bytes_of {l : List Int} (h : l.length ≤ 9223372036854775807) (hw : ∀ x ∈ l, (Lit.int .u8 x).wf = true) : Bytes l := ⟨h, fun x hx => by
 have := hw x hx
 simp [Lit.wf, IntKind.min, IntKind.max, IntKind.signed, IntKind.bits] at this
 omega⟩
theorem and_byte (z : Int) (h0 : 0 ≤ z) (h1 : z < 18446744073709551616) : 0 ≤ Go.bits .and .u64 z 255 ∧ Go.bits .and .u64 z 255 < 256 := by
 obtain ⟨n, rfl⟩ := Int.eq_ofNat_of_zero_le h0
 have h := bits_and_u64_nat n 255 (by omega) (by omega)
 have e : (((255 : Nat) : Int)) = 255 := rfl
 rw [e] at h
 rw [h]
 have : n &&& 255 ≤ 255 := Nat.and_le_right
 omega
theorem next_tells (l : List Int) (hl : Bytes l) (a s : Int) (ha : 0 ≤ a ∧ a ≤ 2000000000) : ∃ r b t, spec_l1Cur_next.f l a s = some (r, b, t) ∧ (0 ≤ r ∧ r < 256) ∧ 0 ≤ b ∧ b ≤ a + 1 := by
 have hu : ∀ y : Int, 0 ≤ IntKind.u64.wrap y ∧ IntKind.u64.wrap y < 18446744073709551616 := fun y => by
  simp only [IntKind.wrap, IntKind.signed, IntKind.bits]
  simp
  omega
 have tail : ∀ y : Int, 0 ≤ wrap64 (Go.bits .and .u64 ((IntKind.u64.wrap y) / 1099511627776) 255) ∧ wrap64 (Go.bits .and .u64 ((IntKind.u64.wrap y) / 1099511627776) 255) < 256 := fun y => by
  have h1 := hu y
  have h2 := and_byte (IntKind.u64.wrap y / 1099511627776) (by omega) (by omega)
  rw [wrap_in (by omega) (by omega)]
  exact h2
 unfold spec_l1Cur_next.f
 rw [wrap_in (x := a + 1) (by omega) (by omega)]
 by_cases h : a < (l.length : Int)
 ·rw [if_pos h, if_pos ha.1]
  have hr : 0 ≤ rd l a ∧ rd l a < 256 := by
   obtain ⟨n, rfl⟩ := Int.eq_ofNat_of_zero_le ha.1
   have hn : n < l.length := by omega
   have := hl.2 l[n] (List.getElem_mem hn)
   have e : rd l (n : Int) = l[n] := by simp [rd, hn]
   rw [e]
   exact this
  split
  ·refine ⟨_, _, _, rfl, ?_, by omega, by omega⟩
   rw [wrap_in (by omega) (by omega)]
   exact hr
  ·exact ⟨_, _, _, rfl, tail _, by omega, by omega⟩
 ·rw [if_neg h]
  split
  ·exact ⟨_, _, _, rfl, by omega, by omega, by omega⟩
  ·exact ⟨_, _, _, rfl, tail _, by omega, by omega⟩
theorem pick_tells (l : List Int) (hl : Bytes l) (a s n : Int) (ha : 0 ≤ a ∧ a ≤ 1000000000) (hn : n ≤ 1048576) : ∃ r b t, spec_l1Cur_pick.f l a s n = some (r, b, t) ∧ 0 ≤ r ∧ (1 ≤ n → r < n) ∧ 0 ≤ b ∧ b ≤ a + 2 := by
 unfold spec_l1Cur_pick.f
 by_cases h : n ≤ 1
 ·rw [if_pos h]
  exact ⟨_, _, _, rfl, by omega, by omega, by omega, by omega⟩
 rw [if_neg h]
 obtain ⟨r, b, t, h1, h2, h3, h4⟩ := next_tells l hl a s (by omega)
 rw [h1, Option.bind_some]
 dsimp only
 by_cases h5 : n > 200
 ·rw [if_pos h5]
  obtain ⟨r2, b2, t2, k1, k2, k3, k4⟩ := next_tells l hl b t (by omega)
  rw [k1, Option.bind_some]
  dsimp only
  rw [if_neg (by omega), wrap_in (x := r * 256) (by omega) (by omega), wrap_in (x := r * 256 + r2) (by omega) (by omega)]
  refine ⟨_, _, _, rfl, Int.tmod_nonneg _ (by omega), fun _ => Int.tmod_lt_of_pos _ (by omega), by omega, by omega⟩
 ·rw [if_neg h5, if_neg (by omega)]
  refine ⟨_, _, _, rfl, Int.tmod_nonneg _ (by omega), fun _ => Int.tmod_lt_of_pos _ (by omega), by omega, by omega⟩
theorem of_tells (l : List Int) (hl : Bytes l) (a s : Int) (m : List ByteArray) (ha : 0 ≤ a ∧ a ≤ 1000000000) (hm : m ≠ [] ∧ m.length ≤ 1048576) : ∃ r b t, spec_l1Cur_of.f l a s m = some (r, b, t) ∧ r ∈ m ∧ 0 ≤ b ∧ b ≤ a + 2 := by
 have h0 : 0 < m.length := List.length_pos_iff.2 hm.1
 obtain ⟨r, b, t, h1, h2, h3, h4, h5⟩ := pick_tells l hl a s m.length ha (by omega)
 obtain ⟨n, rfl⟩ := Int.eq_ofNat_of_zero_le h2
 have hn : n < m.length := by omega
 unfold spec_l1Cur_of.f
 rw [h1, Option.bind_some]
 dsimp only
 rw [if_pos (by omega), if_pos (by omega)]
 refine ⟨_, _, _, rfl, ?_, h4, h5⟩
 have e : rdOf ByteArray.empty m (n : Int) = m[n] := by simp [rdOf, hn]
 show rdOf ByteArray.empty m (n : Int) ∈ m
 rw [e]
 exact List.getElem_mem hn
theorem among_tells (l : List Int) (hl : Bytes l) (a s : Int) (m : List Int) (ha : 0 ≤ a ∧ a ≤ 1000000000) (hm : m ≠ [] ∧ m.length ≤ 1048576) : ∃ r b t, spec_l1Cur_among.f l a s m = some (r, b, t) ∧ r ∈ m ∧ 0 ≤ b ∧ b ≤ a + 2 := by
 have h0 : 0 < m.length := List.length_pos_iff.2 hm.1
 obtain ⟨r, b, t, h1, h2, h3, h4, h5⟩ := pick_tells l hl a s m.length ha (by omega)
 obtain ⟨n, rfl⟩ := Int.eq_ofNat_of_zero_le h2
 have hn : n < m.length := by omega
 unfold spec_l1Cur_among.f
 rw [h1, Option.bind_some]
 dsimp only
 rw [if_pos (by omega), if_pos (by omega)]
 refine ⟨_, _, _, rfl, ?_, h4, h5⟩
 have e : rd m (n : Int) = m[n] := by simp [rd, hn]
 show rd m (n : Int) ∈ m
 rw [e]
 exact List.getElem_mem hn

theorem one_tells (l : List Int) (hl : Bytes l) (a s n : Int) (ha : 0 ≤ a ∧ a ≤ 1000000000) (hn : n ≤ 1048576) : ∃ r b t, spec_l1Cur_one.f l a s n = some (r, b, t) ∧ 0 ≤ b ∧ b ≤ a + 2 := by
 obtain ⟨r, b, t, h1, h2, h3, h4, h5⟩ := pick_tells l hl a s n ha hn
 unfold spec_l1Cur_one.f
 rw [h1, Option.bind_some]
 exact ⟨_, _, _, rfl, h4, h5⟩


theorem l1In_some (a b c : Int) : spec_l1In.f a b c = some (decide (b ≤ a ∧ a ≤ c)) := by
 unfold spec_l1In.f
 by_cases h : a ≥ b
 ·rw [if_pos h]; congr 1; simp; omega
 ·rw [if_neg h]; congr 1; symm; simp; omega

/-! ### Words of letters; angles -/
theorem within_some (a b c : Int) : impl_within.f a b c = some (decide (b ≤ a ∧ a ≤ c)) := by
 unfold impl_within.f
 by_cases h : b ≤ a
 ·rw [if_pos h]; simp [h]
 ·rw [if_neg h]; simp [h]
/-- All letters between two. -/
def inRange (lo hi : Nat) (l : List UInt8) : Bool := l.all fun c => decide (lo ≤ c.toNat ∧ c.toNat ≤ hi)
/-- One to eight letters between two. -/
def isWord (lo hi : Nat) (s : ByteArray) : Bool := decide (1 ≤ s.size ∧ s.size ≤ 8) && inRange lo hi s.data.toList
theorem dec_size (s : ByteArray) : decide ((1 : Int) ≤ s.size ∧ (s.size : Int) ≤ 8) = decide (1 ≤ s.size ∧ s.size ≤ 8) := by
 by_cases h : 1 ≤ s.size ∧ s.size ≤ 8
 ·rw [decide_eq_true h, decide_eq_true (by omega)]
 ·rw [decide_eq_false h, decide_eq_false (by omega)]

/-- What 'letters' says of a list of letters: they are those from lo to hi. -/
def Letters (lo hi : Nat) (m : ByteArray) : Prop := ∀ n, n < 256 → (decide (Lib.indexByte m.data.toList n.toUInt8 < 0)) = !decide (lo ≤ n ∧ n ≤ hi)
instance (lo hi : Nat) (m : ByteArray) : Decidable (Letters lo hi m) := by unfold Letters; infer_instance
theorem hasOnly_some (lo hi : Nat) (s m : ByteArray) (hs : s.size ≤ 9223372036854775807) (hm : Letters lo hi m) : impl_hasOnly.F s m = some (inRange lo hi s.data.toList) := by
 rw [impl_hasOnly.F_eq]
 refine each (L := fun i => impl_hasOnly.L0 s m s.size i) s.data.toList 0 (fun _ t o => o = some (inRange lo hi t)) ?_ ?_
 ·show impl_hasOnly.L0 s m _ _ = _
  rw [impl_hasOnly.L0_eq, if_neg (by rw [← size_data]; omega)]; rfl
 ·intro i x t hi' hx _ _ ih
  have hi2 : i < s.size := by rw [size_data]; exact hi'
  have hb := hm x.toNat x.toNat_lt
  show impl_hasOnly.L0 s m _ _ = _
  rw [impl_hasOnly.L0_eq, if_pos (by omega), if_pos (by omega), if_pos (by omega), bt_data s i hi2, hx, wrap_in (by omega) (by omega)]
  simp only [strings_IndexByte.f, stringslite_IndexByte.f, Option.bind_some, Int.toNat_natCast]
  by_cases h1 : lo ≤ x.toNat ∧ x.toNat ≤ hi
  ·rw [if_neg (by simp [h1] at hb; simpa using hb), ih]
   simp [inRange, h1]
  ·rw [if_pos (by simpa [h1] using hb)]
   simp [inRange, h1]
theorem isWordOf_some (lo hi : Nat) (s m : ByteArray) (hs : s.size ≤ 9223372036854775807) (hm : Letters lo hi m) : impl_isWordOf.F s m = some (isWord lo hi s) := by
 rw [impl_isWordOf.F_eq, within_some, hasOnly_some lo hi s m hs hm]
 simp only [Option.bind_some, isWord]
 by_cases h : 1 ≤ s.size ∧ s.size ≤ 8
 ·have : (1 : Int) ≤ s.size ∧ (s.size : Int) ≤ 8 := by omega
  simp [h, this]
 ·have : ¬ ((1 : Int) ≤ s.size ∧ (s.size : Int) ≤ 8) := by omega
  simp [h, this]


theorem isAngle_some (a : Int) : impl_isAngle.f a = some (decide (-90 ≤ a ∧ a ≤ 90)) := by
 unfold impl_isAngle.f; rw [within_some]; rfl
theorem loAngle_some (a : Int) : spec_loAngle.f a = some (decide (-90 ≤ a ∧ a ≤ 90)) := by
 unfold spec_loAngle.f; rw [l1In_some]; rfl

/-! ### Loci -/
abbrev Loc := S58
theorem rd_loc (l : List Loc) (i : Nat) : rd_T58 l (i : Int) = l.getD i z58 := by simp [rd_T58]
theorem naName_some (s : ByteArray) (hs : s.size ≤ 9223372036854775807) : spec_naName.F s = some (isWord 97 122 s) := by
 rw [spec_naName.F_eq]
 have := each (L := fun i => spec_naName.L0 s i) s.data.toList 0 (fun _ t o => o = some (inRange 97 122 t && decide (1 ≤ s.size ∧ s.size ≤ 8))) ?_ ?_
 ·rw [this, isWord, Bool.and_comm]
 ·show spec_naName.L0 s _ = _
  rw [spec_naName.L0_eq, if_neg (by rw [← size_data]; omega), l1In_some]
  simp only [Option.bind_some, inRange, List.all_nil, Bool.true_and, dec_size]
 ·intro i x t hi hx _ _ ih
  have hi' : i < s.size := by rw [size_data]; exact hi
  show spec_naName.L0 s _ = _
  rw [spec_naName.L0_eq, if_pos (by omega), if_pos (by omega), bt_data s i hi', hx, wrap_in (by omega) (by omega)]
  by_cases h1 : x.toNat < 97
  ·rw [if_pos (by omega)]; simp [inRange]; omega
  ·rw [if_neg (by omega)]
   by_cases h2 : 122 < x.toNat
   ·rw [if_pos (by omega)]; simp [inRange]; omega
   ·rw [if_neg (by omega), ih]
    have h3 : 97 ≤ x.toNat := by omega
    have h4 : x.toNat ≤ 122 := by omega
    simp [inRange, h3, h4]
/-- The first place of a referent from place i on, or -1. -/
def idxFrom (a : ByteArray) : List Loc → Nat → Int
 | [], _ => -1
 | x :: t, i => if x.f0.toList = a.toList then i else idxFrom a t (i + 1)
theorem idxFrom_cases (a : ByteArray) : ∀ (t : List Loc) (i : Nat), (idxFrom a t i = -1 ∧ ∀ x ∈ t, x.f0 ≠ a) ∨ ∃ j, j < t.length ∧ idxFrom a t i = (i + j : Nat) ∧ (t.getD j z58).f0 = a
 | [], _ => .inl ⟨rfl, by simp⟩
 | x :: t, i => by
  unfold idxFrom
  by_cases h : x.f0.toList = a.toList
  ·rw [if_pos h]
   exact .inr ⟨0, by simp, by simp, by simpa using ext_data h⟩
  ·rw [if_neg h]
   rcases idxFrom_cases a t (i + 1) with ⟨h1, h2⟩ | ⟨j, h1, h2, h3⟩
   ·refine .inl ⟨h1, fun y hy => ?_⟩
    rcases List.mem_cons.1 hy with rfl | hy
    ·exact fun e => h (by rw [e])
    ·exact h2 y hy
   ·exact .inr ⟨j + 1, by simpa using h1, by rw [h2]; omega, by simpa using h3⟩
theorem loFind_some (l : List Loc) (a : ByteArray) (hl : l.length ≤ 9223372036854775807) : spec_loFind.F l a = some (idxFrom a l 0) := by
 rw [spec_loFind.F_eq]
 refine each (L := fun i => spec_loFind.L0 a l l.length i) l z58 (fun i t o => o = some (idxFrom a t i)) ?_ ?_
 ·show spec_loFind.L0 a l _ _ = _
  rw [spec_loFind.L0_eq, if_neg (by omega)]; rfl
 ·intro i x t hi hx _ _ ih
  show spec_loFind.L0 a l _ _ = _
  rw [spec_loFind.L0_eq, if_pos (by omega), if_pos (by omega), if_pos (by omega), rd_loc, hx, wrap_in (by omega) (by omega)]
  unfold idxFrom
  split
  ·rfl
  ·exact ih
theorem locusOf_some (l : List Loc) (a : ByteArray) (hl : l.length ≤ 9223372036854775807) : impl_locusOf.F l a = some (idxFrom a l 0) := by
 rw [impl_locusOf.F_eq, slices_IndexFunc_Locus_impl_locusOf_1.F_eq]
 rw [show slices_IndexFunc_Locus_impl_locusOf_1.L0 l (l.length : Int) 0 a = some (idxFrom a l 0) from ?_]; rfl
 refine each (L := fun i => slices_IndexFunc_Locus_impl_locusOf_1.L0 l l.length i a) l z58 (fun i t o => o = some (idxFrom a t i)) ?_ ?_
 ·show slices_IndexFunc_Locus_impl_locusOf_1.L0 l _ _ a = _
  rw [slices_IndexFunc_Locus_impl_locusOf_1.L0_eq, if_neg (by omega)]; rfl
 ·intro i x t hi hx _ _ ih
  show slices_IndexFunc_Locus_impl_locusOf_1.L0 l _ _ a = _
  rw [slices_IndexFunc_Locus_impl_locusOf_1.L0_eq, if_pos (by omega), if_pos (by omega), if_pos (by omega), rd_loc, hx, wrap_in (by omega) (by omega)]
  unfold idxFrom impl_locusOf_1.f
  simp only [Option.bind_some, beq_iff_eq]
  split
  ·rfl
  ·exact ih
/-- Is element i as it should be, for those ahead of it? -/
def okAt (l : List Loc) (i : Nat) (x : Loc) : Bool :=
 isWord 97 122 x.f0 && (decide (-90 ≤ x.f1 ∧ x.f1 ≤ 90) && (decide (i = 0 ∨ (l.getD (i - 1) z58).f1 < x.f1) && decide (idxFrom x.f0 (l.take i) 0 < 0)))
def goodFrom (l : List Loc) : Nat → List Loc → Bool
 | _, [] => decide (l.length ≤ 8)
 | i, x :: t => okAt l i x && goodFrom l (i + 1) t
def good (l : List Loc) : Bool := goodFrom l 0 l
/-- The letters' lengths are lengths. -/
def Sized (l : List Loc) : Prop := l.length ≤ 9223372036854775807 ∧ ∀ x ∈ l, x.f0.size ≤ 9223372036854775807
theorem Sized.take {l : List Loc} (h : Sized l) (i : Nat) : (l.take i).length ≤ 9223372036854775807 := Nat.le_trans (List.length_take_le' ..) h.1
theorem loGood_some (l : List Loc) (hl : Sized l) : spec_loGood.F l = some (good l) := by
 rw [spec_loGood.F_eq]
 have hl1 := hl.1
 refine each (L := fun i => spec_loGood.L0 l l l.length i) l z58 (fun i t o => o = some (goodFrom l i t)) ?_ ?_
 ·show spec_loGood.L0 l l _ _ = _
  rw [spec_loGood.L0_eq, if_neg (by omega)]
  simp only [goodFrom, Option.some.injEq, decide_eq_decide]; omega
 ·intro i x t hi hx hd _ ih
  have hs : x.f0.size ≤ 9223372036854775807 := hl.2 x (mem_drop hd)
  show spec_loGood.L0 l l _ _ = _
  rw [spec_loGood.L0_eq, if_pos (by omega), if_pos (by omega), if_pos (by omega), rd_loc, hx]
  try simp only [spec_loGood.J1_eq, decide_eq_true_eq, eq_self, if_true]
  rw [wrap_in (x := (i : Int) + 1) (by omega) (by omega), naName_some _ hs, loAngle_some, Int.toNat_natCast, loFind_some _ _ (hl.take i)]
  simp only [Option.bind_some, goodFrom, okAt]
  cases isWord 97 122 x.f0
  ·simp
  by_cases ha : -90 ≤ x.f1 ∧ x.f1 ≤ 90
  case neg => simp [ha]
  rw [decide_eq_true ha]
  simp only [if_true, Bool.true_and]
  by_cases h0 : i = 0
  ·subst h0
   simp only [List.take_zero, Int.natCast_zero, gt_iff_lt, Int.lt_irrefl, if_false, true_or, decide_true, Bool.true_and]
   rw [if_pos (by omega)]
   simp [idxFrom]
   simpa using ih
  ·have h1 : (i : Int) - 1 = ((i - 1 : Nat) : Int) := by omega
   rw [if_pos (by omega), wrap_in (by omega) (by omega), h1, if_pos (by omega), if_pos (by omega), rd_loc, if_pos (show (i : Int) ≤ (l.length : Int) by omega)]
   by_cases h2 : (l.getD (i - 1) z58).f1 < x.f1
   ·rw [if_neg (by omega)]
    simp only [h2, or_true, decide_true, Bool.true_and]
    by_cases h3 : idxFrom x.f0 (l.take i) 0 < 0
    ·rw [if_neg (by omega), ih]; simp [h3]
    ·rw [if_pos (by omega)]; simp [h3]
   ·rw [if_pos (by omega), decide_eq_false (p := i = 0 ∨ _) (by simp only [h0, h2, or_self, not_false_eq_true])]; simp
theorem areLoci_some (l : List Loc) (hl : Sized l) : impl_AreLoci.F l = some (good l) := by
 rw [impl_AreLoci.F_eq]
 have hl1 := hl.1
 refine each (L := fun i => impl_AreLoci.L0 l l l.length i) l z58 (fun i t o => o = some (goodFrom l i t)) ?_ ?_
 ·show impl_AreLoci.L0 l l _ _ = _
  rw [impl_AreLoci.L0_eq, if_neg (by omega)]
  simp only [goodFrom, Option.some.injEq, decide_eq_decide]; omega
 ·intro i x t hi hx hd _ ih
  have hs : x.f0.size ≤ 9223372036854775807 := hl.2 x (mem_drop hd)
  show impl_AreLoci.L0 l l _ _ = _
  rw [impl_AreLoci.L0_eq, if_pos (by omega), if_pos (by omega), if_pos (by omega), rd_loc, hx]
  try simp only [impl_AreLoci.J1_eq, decide_eq_true_eq, eq_self, if_true]
  rw [wrap_in (x := (i : Int) + 1) (by omega) (by omega), isWordOf_some 97 122 _ _ hs (by decide +kernel), isAngle_some, Int.toNat_natCast, locusOf_some _ _ (hl.take i)]
  simp only [Option.bind_some, goodFrom, okAt]
  cases isWord 97 122 x.f0
  ·simp
  by_cases ha : -90 ≤ x.f1 ∧ x.f1 ≤ 90
  case neg => simp [ha]
  rw [decide_eq_true ha]
  simp only [if_true, Bool.true_and]
  by_cases h0 : i = 0
  ·subst h0
   simp only [List.take_zero, Int.natCast_zero, gt_iff_lt, Int.lt_irrefl, if_false, true_or, decide_true, Bool.true_and]
   rw [if_pos (by omega)]
   simp [idxFrom]
   simpa using ih
  ·have h1 : (i : Int) - 1 = ((i - 1 : Nat) : Int) := by omega
   rw [if_pos (by omega), wrap_in (by omega) (by omega), h1, if_pos (by omega), if_pos (by omega), rd_loc, if_pos (show (i : Int) ≤ (l.length : Int) by omega)]
   by_cases h2 : (l.getD (i - 1) z58).f1 < x.f1
   ·rw [if_neg (by omega)]
    simp only [h2, or_true, decide_true, Bool.true_and]
    by_cases h3 : idxFrom x.f0 (l.take i) 0 < 0
    ·rw [if_neg (by omega), ih]; simp [h3]
    ·rw [if_pos (by omega)]; simp [h3]
   ·rw [if_pos (by omega), decide_eq_false (p := i = 0 ∨ _) (by simp only [h0, h2, or_self, not_false_eq_true])]; simp
theorem good_from (l : List Loc) : ∀ (t : List Loc) (i : Nat), goodFrom l i t = true → l.length ≤ 8 ∧ ∀ x ∈ t, (-90 ≤ x.f1 ∧ x.f1 ≤ 90) ∧ 1 ≤ x.f0.size
 | [], _, h => ⟨by simpa [goodFrom] using h, by simp⟩
 | x :: t, i, h => by
  simp only [goodFrom, okAt, isWord, Bool.and_eq_true, decide_eq_true_eq] at h
  obtain ⟨h1, h2⟩ := h
  obtain ⟨h3, h4⟩ := good_from l t (i + 1) h2
  refine ⟨h3, fun y hy => ?_⟩
  rcases List.mem_cons.1 hy with rfl | hy
  ·exact ⟨h1.2.1, h1.1.1.1⟩
  ·exact h4 y hy
theorem good_facts {l : List Loc} (h : good l = true) : l.length ≤ 8 ∧ ∀ x ∈ l, (-90 ≤ x.f1 ∧ x.f1 ≤ 90) ∧ 1 ≤ x.f0.size := good_from l l 0 h

def putAt (x : Loc) : List Loc → List Loc
 | [] => [x]
 | y :: t => if y.f1 < x.f1 then y :: putAt x t else x :: y :: t
theorem putAt_perm (x : Loc) : ∀ l : List Loc, (putAt x l).Perm (x :: l)
 | [] => .refl _
 | y :: t => by
  unfold putAt
  split
  ·exact ((putAt_perm x t).cons y).trans (.swap x y t)
  ·exact .refl _
theorem loPut_some (l : List Loc) (b : ByteArray) (c : Int) (hl : l.length ≤ 1048576) : spec_loPut.F l b c = some (putAt ⟨b, c⟩ l) := by
 rw [spec_loPut.F_eq]
 have := each (L := fun i => spec_loPut.L0 l i b c) l z58 (fun i t o => i + t.length = l.length → o = some (l.take i ++ putAt ⟨b, c⟩ t)) ?_ ?_ (by simp)
 ·simpa using this
 ·intro _
  show spec_loPut.L0 l _ b c = _
  rw [spec_loPut.L0_eq, if_neg (by omega)]
  simp only [Option.bind_some, Int.toNat_natCast, List.take_length, List.drop_length, List.nil_append, List.length_nil, List.length_cons, List.append_nil, putAt]
  rw [if_pos (by omega), if_pos (by omega), if_pos (by omega), if_pos (by simp; omega), if_pos (by simp; omega)]
 ·intro i x t hi hx hd _ ih hlen
  show spec_loPut.L0 l _ b c = _
  rw [spec_loPut.L0_eq, if_pos (by omega), if_pos (by omega), rd_loc, hx, wrap_in (by omega) (by omega)]
  by_cases h : x.f1 < c
  ·rw [if_pos h, ih (by simpa [Nat.add_assoc, Nat.add_comm 1] using hlen)]
   have ht : l.take (i + 1) = l.take i ++ [x] := by
    rw [List.take_succ_eq_append_getElem hi]
    rw [List.getD_eq_getElem?_getD, List.getElem?_eq_getElem hi, Option.getD_some] at hx
    rw [hx]
   have hp : putAt ⟨b, c⟩ (x :: t) = x :: putAt ⟨b, c⟩ t := by rw [putAt, if_pos h]
   rw [ht, hp]
   simp
  ·have hp : putAt ⟨b, c⟩ (x :: t) = ⟨b, c⟩ :: x :: t := by rw [putAt, if_neg h]
   have h3 : (l.take i).length ≤ 1048576 := by simp; omega
   have h4 : (l.take i).length = i := by simp; omega
   simp only [if_neg h, Option.bind_some, Int.toNat_natCast, hd, List.nil_append, List.length_nil, List.length_cons, List.length_append]
   rw [if_pos (by omega), if_pos (by omega), if_pos (by omega), if_pos (by simp at hlen ⊢; omega), hp]
   simp
theorem loIf_some (l : List Loc) (hl : Sized l) : spec_loIf.F l = some (if good l then (l, true) else ([], false)) := by
 rw [spec_loIf.F_eq, loGood_some _ hl, Option.bind_some]
 cases good l <;> rfl
def keep (a : ByteArray) (x : Loc) : Bool := !(x.f0.toList == a.toList)
theorem loWithout_some (l : List Loc) (a : ByteArray) (hl : l.length ≤ 1048576) : spec_loWithout.F l a = some (l.filter (keep a)) := by
 rw [spec_loWithout.F_eq]
 have := each (L := fun i => fun o => spec_loWithout.L0 a o l l.length i) l z58 (fun i t f => ∀ o : List Loc, o.length ≤ i → f o = some (o ++ t.filter (keep a))) ?_ ?_ [] (by simp)
 ·simpa using this
 ·intro o _
  show spec_loWithout.L0 a o l _ _ = _
  rw [spec_loWithout.L0_eq, if_neg (by omega)]; simp
 ·intro i x t hi hx _ _ ih o ho
  show spec_loWithout.L0 a o l _ _ = _
  rw [spec_loWithout.L0_eq, if_pos (by omega), if_pos (by omega), if_pos (by omega), rd_loc, hx, wrap_in (x := (i : Int) + 1) (by omega) (by omega)]
  by_cases h : x.f0.toList = a.toList
  ·rw [if_pos h, List.filter_cons_of_neg (by simp [keep, h])]
   exact ih o (by omega)
  ·rw [if_neg h, if_pos (by omega), List.filter_cons_of_pos (by simp [keep, h])]
   refine (ih (o ++ [x]) (by simp; omega)).trans ?_
   simp


theorem good_short {l : List Loc} (h : good l = true) : ∀ x ∈ l, x.f0.size ≤ 8 := by
 have key : ∀ (t : List Loc) (i : Nat), goodFrom l i t = true → ∀ x ∈ t, x.f0.size ≤ 8 := by
  intro t
  induction t with
  | nil => intro _ _ x hx; simp at hx
  | cons y t ih =>
   intro i h x hx
   simp only [goodFrom, okAt, isWord, Bool.and_eq_true, decide_eq_true_eq] at h
   rcases List.mem_cons.1 hx with rfl | hx
   ·exact h.1.1.1.2
   ·exact ih _ h.2 x hx
 exact key l 0 h

/-! ### Drawn loci -/
def Drawn (L : List Loc) : Prop := L.length ≤ 9 ∧ ∀ x ∈ L, x.f0.size ≤ 9
theorem Drawn.sized {L : List Loc} (h : Drawn L) : Sized L := ⟨by have := h.1; omega, fun x hx => by have := h.2 x hx; omega⟩
theorem referent_tells (l : List Int) (hl : Bytes l) (a s : Int) (ha : 0 ≤ a ∧ a ≤ 1000000) : ∃ r b t, spec_l1Cur_referent.f l a s = some (r, b, t) ∧ r.size ≤ 9 ∧ 0 ≤ b ∧ b ≤ a + 10 := by
 unfold spec_l1Cur_referent.f
 generalize hm : ([(⟨#[109, 97, 114, 121]⟩ : ByteArray), (⟨#[106, 111, 104, 110]⟩ : ByteArray), (⟨#[100, 111, 103]⟩ : ByteArray), (⟨#[99, 97, 116]⟩ : ByteArray), (⟨#[115, 105, 103, 110, 101, 114]⟩ : ByteArray)] : List ByteArray) = m
 have hmm : ∀ x ∈ m, x.size ≤ 9 := by rw [← hm]; simp only [List.mem_cons, List.not_mem_nil, or_false]; rintro x (rfl | rfl | rfl | rfl | rfl) <;> decide
 obtain ⟨r, b, t, h1, h2, h3, h4⟩ := of_tells l hl a s m (by omega) (by rw [← hm]; simp)
 rw [h1, Option.bind_some]
 dsimp only
 exact ⟨_, _, _, rfl, hmm _ h2, h3, by omega⟩
theorem anyReferent_tells (l : List Int) (hl : Bytes l) (a s : Int) (ha : 0 ≤ a ∧ a ≤ 1000000) : ∃ r b t, spec_l1Cur_anyReferent.f l a s = some (r, b, t) ∧ r.size ≤ 9 ∧ 0 ≤ b ∧ b ≤ a + 10 := by
 unfold spec_l1Cur_anyReferent.f
 generalize hm : ([(⟨#[115, 105, 103, 110, 101, 114]⟩ : ByteArray), (⟨#[]⟩ : ByteArray), (⟨#[77, 97, 114, 121]⟩ : ByteArray), (⟨#[110, 105, 110, 101, 99, 104, 97, 114, 115]⟩ : ByteArray), (⟨#[122, 122]⟩ : ByteArray)] : List ByteArray) = m
 have hmm : ∀ x ∈ m, x.size ≤ 9 := by rw [← hm]; simp only [List.mem_cons, List.not_mem_nil, or_false]; rintro x (rfl | rfl | rfl | rfl | rfl) <;> decide
 obtain ⟨r, b, t, h1, h2, h3, h4⟩ := of_tells l hl a s m (by omega) (by rw [← hm]; simp)
 rw [h1, Option.bind_some]
 have hr := hmm _ h2
 simp only
 generalize hq : ([(⟨#[109, 97, 114, 121]⟩ : ByteArray), (⟨#[106, 111, 104, 110]⟩ : ByteArray), (⟨#[100, 111, 103]⟩ : ByteArray), (⟨#[109, 97, 114, 121]⟩ : ByteArray), r] : List ByteArray) = q
 have hqq : ∀ x ∈ q, x.size ≤ 9 := by rw [← hq]; simp only [List.mem_cons, List.not_mem_nil, or_false]; rintro x (rfl | rfl | rfl | rfl | rfl) <;> first | exact hr | decide
 obtain ⟨r2, b2, t2, k1, k2, k3, k4⟩ := of_tells l hl b t q (by omega) (by rw [← hq]; simp)
 rw [k1, Option.bind_some]
 dsimp only
 exact ⟨_, _, _, rfl, hqq _ k2, k3, by omega⟩
theorem angleOf_tells (l : List Int) (hl : Bytes l) (a s : Int) (ha : 0 ≤ a ∧ a ≤ 1000000) : ∃ r b t, spec_l1Cur_angleOf.f l a s = some (r, b, t) ∧ 0 ≤ b ∧ b ≤ a + 10 := by
 unfold spec_l1Cur_angleOf.f
 obtain ⟨r, b, t, h1, h2, h3, h4, h5⟩ := pick_tells l hl a s 181 (by omega) (by omega)
 rw [h1, Option.bind_some]
 obtain ⟨r2, b2, t2, k1, k2, k3, k4⟩ := among_tells l hl b t [5, 91, -91, -9223372036854775808] (by omega) (by simp)
 simp only [k1, Option.bind_some]
 obtain ⟨r3, b3, t3, m1, m2, m3, m4⟩ := among_tells l hl b2 t2 [0, -40, 30, 25, 10, wrap64 (r - 90), 90, -90, r2] (by omega) (by simp)
 simp only [m1, Option.bind_some]
 exact ⟨_, _, _, rfl, m3, by omega⟩
theorem put_spec (L : List Loc) (a : ByteArray) (c : Int) (hz : Sized L) (hlm : L.length ≤ 1048576) (ha : a.size ≤ 9223372036854775807) : ∃ r b, spec_PutReferent.F L a c = some (r, b) ∧ (b = true → good r = true) := by
 rw [spec_PutReferent.F_eq, loGood_some _ hz, naName_some _ ha, loAngle_some]
 simp only [Option.bind_some, spec_PutReferent.J0_eq]
 cases hg : good L
 ·exact ⟨_, _, rfl, fun h => by cases h⟩
 cases hn : isWord 97 122 a
 ·exact ⟨_, _, rfl, fun h => by cases h⟩
 by_cases hc : -90 ≤ c ∧ c ≤ 90
 ·obtain ⟨g1, g2⟩ := good_facts hg
  have hW : (L.filter (keep a)).length ≤ 8 := Nat.le_trans (List.length_filter_le _ _) g1
  have hp := putAt_perm ⟨a, c⟩ (L.filter (keep a))
  have hzP : Sized (putAt ⟨a, c⟩ (L.filter (keep a))) := ⟨by rw [hp.length_eq]; simp; omega, fun x hx => by
   rcases List.mem_cons.1 (hp.mem_iff.1 hx) with rfl | hx
   ·exact ha
   ·exact hz.2 x (List.mem_filter.1 hx).1⟩
  simp only [hc, decide_true, Bool.not_true, Bool.false_eq_true, if_false, if_true, and_self]
  rw [loWithout_some L a hlm, Option.bind_some, loPut_some _ _ _ (by omega), Option.bind_some, loIf_some _ hzP, Option.bind_some]
  cases hgp : good (putAt ⟨a, c⟩ (L.filter (keep a)))
  ·exact ⟨_, _, rfl, fun h => by cases h⟩
  ·exact ⟨_, _, rfl, fun _ => hgp⟩
 ·simp only [hc, decide_false, Bool.not_false, if_true]
  exact ⟨_, _, rfl, fun h => by cases h⟩
theorem loci_rounds (l : List Int) (hl : Bytes l) : ∀ (n : Nat) (L : List Loc) (k a s : Int), k = n → n ≤ 6 → Drawn L ∧ L.length ≤ 8 → (0 ≤ a ∧ a ≤ 1000 - 100 * n) → ∃ L' b t, spec_l1Cur_loci.L0 L k l a s = some (L', b, t) ∧ Drawn L' ∧ 0 ≤ b ∧ b ≤ 1100 := by
 intro n
 induction n with
 | zero =>
  intro L k a s hk _ hL ha
  obtain ⟨r, b, t, h1, h2, h3, h4, h5⟩ := pick_tells l hl a s 24 (by omega) (by omega)
  rw [spec_l1Cur_loci.L0_eq, if_neg (by omega), h1, Option.bind_some]
  simp only
  by_cases c0 : r = 0
  ·rw [if_pos c0]
   obtain ⟨w, b2, t2, k1, k2, k3, k4⟩ := anyReferent_tells l hl b t (by omega)
   simp only [k1, Option.bind_some]
   obtain ⟨c, b3, t3, m1, m2, m3⟩ := angleOf_tells l hl b2 t2 (by omega)
   simp only [m1, Option.bind_some]
   rw [if_pos (by omega)]
   refine ⟨_, _, _, rfl, ⟨by simp; omega, fun x hx => ?_⟩, m2, by omega⟩
   rcases List.mem_append.1 hx with hx | hx
   ·exact hL.1.2 x hx
   ·obtain rfl := List.mem_singleton.1 hx
    exact k2
  rw [if_neg c0]
  by_cases c1 : r = 1
  ·rw [if_pos c1]
   obtain ⟨q, b2, t2, k1, k2, k3, k4, k5⟩ := pick_tells l hl b t 2 (by omega) (by omega)
   simp only [k1, Option.bind_some]
   rw [wrap_in (x := 8 + q) (by omega) (by omega)]
   have many : ∀ (m : Nat) (o : List Loc), (o.length : Int) + m = 8 + q → Drawn o → ∃ L' b' t', spec_l1Cur_loci.L1 o (8 + q) l b2 t2 = some (L', b', t') ∧ Drawn L' ∧ 0 ≤ b' ∧ b' ≤ 1100 := by
    intro m
    induction m with
    | zero =>
     intro o hm ho
     rw [spec_l1Cur_loci.L1_eq, if_neg (by omega)]
     exact ⟨_, _, _, rfl, ho, by omega, by omega⟩
    | succ m ih =>
     intro o hm ho
     have k9 := k3 (by omega)
     have hs : ((⟨#[97, 98, 99, 100, 101, 102, 103, 104, 105]⟩ : ByteArray).extract ((o.length : Int)).toNat ((o.length : Int) + 1).toNat).size ≤ 8 := by
      rw [ByteArray.size_extract]
      have e : ((o.length : Int) + 1).toNat = o.length + 1 := by omega
      rw [e, Int.toNat_natCast]
      omega
     rw [spec_l1Cur_loci.L1_eq, if_pos (by omega), if_pos (by omega), wrap_in (x := (o.length : Int) + 1) (by omega) (by omega), if_pos (by omega), if_pos (by omega), if_pos (by omega), if_pos (by omega)]
     refine ih _ (by simp; omega) ⟨by simp; omega, fun x hx => ?_⟩
     rcases List.mem_append.1 hx with hx | hx
     ·exact ho.2 x hx
     ·obtain rfl := List.mem_singleton.1 hx
      show (_ ++ _ : ByteArray).size ≤ 9
      rw [ByteArray.size_append]
      have : (⟨#[120]⟩ : ByteArray).size = 1 := rfl
      omega
   exact many (8 + q).toNat [] (by simp; omega) ⟨by simp, by simp⟩
  ·rw [if_neg c1]
   exact ⟨_, _, _, rfl, hL.1, by omega, by omega⟩
 | succ n ih =>
  intro L k a s hk hn hL ha
  obtain ⟨w, b, t, h1, h2, h3, h4⟩ := referent_tells l hl a s (by omega)
  rw [spec_l1Cur_loci.L0_eq, if_pos (by omega), h1, Option.bind_some]
  obtain ⟨c, b2, t2, k1, k2, k3⟩ := angleOf_tells l hl b t (by omega)
  simp only [k1, Option.bind_some]
  obtain ⟨r, ok, p1, p4⟩ := put_spec L w c hL.1.sized (by omega) (by omega)
  simp only [p1, Option.bind_some]
  rw [wrap_in (x := k - 1) (by omega) (by omega)]
  cases ok
  ·rw [if_neg (by simp)]
   exact ih L (k - 1) b2 t2 (by omega) (by omega) hL (by omega)
  ·have q1 := p4 rfl
   rw [if_pos rfl]
   exact ih r (k - 1) b2 t2 (by omega) (by omega) ⟨⟨by have := (good_facts q1).1; omega, fun x hx => by have := good_short q1 x hx; omega⟩, (good_facts q1).1⟩ (by omega)
theorem loci_tells (l : List Int) (hl : Bytes l) : ∃ L b t, spec_l1Cur_loci.F l 0 0 = some (L, b, t) ∧ Drawn L ∧ 0 ≤ b ∧ b ≤ 1100 := by
 obtain ⟨r, b, t, h1, h2, h3, h4, h5⟩ := pick_tells l hl 0 0 6 (by omega) (by omega)
 have h6 := h3 (by omega)
 obtain ⟨n, rfl⟩ := Int.eq_ofNat_of_zero_le h2
 rw [spec_l1Cur_loci.F_eq, h1, Option.bind_some]
 exact loci_rounds l hl n [] n b t rfl (by omega) ⟨⟨by simp, by simp⟩, by simp⟩ (by omega)


/-! ### How far apart -/
def dst (a b : Int) : Int := if a < b then b - a else a - b
theorem distance_some (a b : Int) (ha : -1000000 ≤ a ∧ a ≤ 1000000) (hb : -1000000 ≤ b ∧ b ≤ 1000000) : impl_distance.f a b = some (dst a b) := by
 unfold impl_distance.f
 rw [wrap_in (by omega) (by omega), wrap_in (by omega) (by omega)]
 unfold mx dst
 congr 1
 split <;> split <;> omega
theorem abs_some (a b : Int) (ha : -1000000 ≤ a ∧ a ≤ 1000000) (hb : -1000000 ≤ b ∧ b ≤ 1000000) : spec_l1Abs.f (wrap64 (a - b)) = some (dst a b) := by
 unfold spec_l1Abs.f spec_l1Most.f
 rw [wrap_in (x := a - b) (by omega) (by omega), wrap_in (by omega) (by omega)]
 unfold dst
 split <;> split <;> simp <;> omega

/-! ### The nearest loci -/
def nearStep (a : Int) (s : Int × List ByteArray) (x : Loc) : Int × List ByteArray :=
 if dst x.f1 a < s.1 then (dst x.f1 a, [x.f0]) else if dst x.f1 a = s.1 then (s.1, s.2 ++ [x.f0]) else s
def near (l : List Loc) (a : Int) : Int × List ByteArray := l.foldl (nearStep a) (181, [])
theorem nearest_some (l : List Loc) (a : Int) (hl : l.length ≤ 8) (hx : ∀ x ∈ l, (-90 ≤ x.f1 ∧ x.f1 ≤ 90) ∧ 1 ≤ x.f0.size) (ha : -90 ≤ a ∧ a ≤ 90) : impl_nearestLoci.F l a = some (near l a) := by
 rw [impl_nearestLoci.F_eq]
 refine each (L := fun i => fun x6 x7 => impl_nearestLoci.L0 a x6 x7 l l.length i) l z58 (fun i t f => (∀ x ∈ t, x ∈ l) → ∀ s : Int × List ByteArray, s.2.length ≤ i → f s.1 s.2 = some (t.foldl (nearStep a) s)) ?_ ?_ (fun _ h => h) (181, []) (by simp)
 ·intro _ s _
  show impl_nearestLoci.L0 a _ _ l _ _ = _
  rw [impl_nearestLoci.L0_eq, if_neg (by omega)]; rfl
 ·intro i x t hi hxi _ _ ih hm s hs
  have h1 := (hx x (hm x (by simp))).1
  have ih' := ih (fun y hy => hm y (by simp [hy]))
  show impl_nearestLoci.L0 a _ _ l _ _ = _
  rw [impl_nearestLoci.L0_eq, if_pos (by omega), if_pos (by omega), if_pos (by omega), rd_loc, hxi, wrap_in (x := (i : Int) + 1) (by omega) (by omega), distance_some _ _ (by omega) (by omega), Option.bind_some, List.foldl_cons]
  by_cases h2 : dst x.f1 a < s.1
  ·rw [if_pos h2, if_pos rfl, if_pos (by decide)]
   refine (ih' (dst x.f1 a, [x.f0]) (by simp)).trans ?_
   rw [nearStep, if_pos h2]
  ·rw [if_neg h2]
   by_cases h3 : dst x.f1 a = s.1
   ·rw [if_pos h3, if_pos (by omega)]
    refine (ih' (s.1, s.2 ++ [x.f0]) (by simp; omega)).trans ?_
    rw [nearStep, if_neg h2, if_pos h3]
   ·rw [if_neg h3]
    refine (ih' s (by omega)).trans ?_
    rw [nearStep, if_neg h2, if_neg h3]
theorem near_inv (a : Int) : ∀ (t p : List Loc) (s : Int × List ByteArray), s.2 = (p.filter fun x => decide (dst x.f1 a = s.1)).map (·.f0) → (∀ x ∈ p, s.1 ≤ dst x.f1 a) →
 (t.foldl (nearStep a) s).2 = ((p ++ t).filter fun x => decide (dst x.f1 a = (t.foldl (nearStep a) s).1)).map (·.f0) ∧ ∀ x ∈ p ++ t, (t.foldl (nearStep a) s).1 ≤ dst x.f1 a
 | [], p, s, h1, h2 => by simpa using ⟨h1, h2⟩
 | x :: t, p, s, h1, h2 => by
  rw [List.foldl_cons, show p ++ x :: t = (p ++ [x]) ++ t from by simp]
  refine near_inv a t (p ++ [x]) (nearStep a s x) ?_ ?_
  ·unfold nearStep
   by_cases h3 : dst x.f1 a < s.1
   ·rw [if_pos h3]
    have : p.filter (fun y => decide (dst y.f1 a = dst x.f1 a)) = [] := by
     rw [List.filter_eq_nil_iff]
     intro y hy
     have := h2 y hy
     simp; omega
    simp [List.filter_append, this]
   ·rw [if_neg h3]
    by_cases h4 : dst x.f1 a = s.1
    ·rw [if_pos h4]; simp [List.filter_append, h4, h1]
    ·rw [if_neg h4]; simp [List.filter_append, h4, h1]
  ·intro y hy
   unfold nearStep
   rcases List.mem_append.1 hy with hy | hy
   ·have := h2 y hy
    split
    ·show dst x.f1 a ≤ _; omega
    ·split <;> exact this
   ·obtain rfl : y = x := by simpa using hy
    split
    ·exact Int.le_refl _
    ·split
     ·show s.1 ≤ _; omega
     ·omega
theorem near_spec (l : List Loc) (a : Int) : (near l a).2 = (l.filter fun x => decide (dst x.f1 a = (near l a).1)).map (·.f0) ∧ ∀ x ∈ l, (near l a).1 ≤ dst x.f1 a := by
 have := near_inv a l [] (181, []) (by simp) (by simp)
 rw [List.nil_append] at this; exact this

theorem least_some (l : List Loc) (a : Int) (hl : l.length ≤ 8) (hx : ∀ x ∈ l, (-90 ≤ x.f1 ∧ x.f1 ≤ 90) ∧ 1 ≤ x.f0.size) (ha : -90 ≤ a ∧ a ≤ 90) : spec_loLeast.F l a = some ((near l a).1, ((near l a).2.length : Int)) := by
 rw [spec_loLeast.F_eq]
 refine each (L := fun i => fun x6 x7 => spec_loLeast.L0 a x6 x7 l l.length i) l z58 (fun i t f => (∀ x ∈ t, x ∈ l) → ∀ s : Int × List ByteArray, s.2.length ≤ i → f s.1 s.2.length = some ((t.foldl (nearStep a) s).1, ((t.foldl (nearStep a) s).2.length : Int))) ?_ ?_ (fun _ h => h) (181, []) (by simp)
 ·intro _ s _
  show spec_loLeast.L0 a _ _ l _ _ = _
  rw [spec_loLeast.L0_eq, if_neg (by omega)]; rfl
 ·intro i x t hi hxi _ _ ih hm s hs
  have h1 := (hx x (hm x (by simp))).1
  have ih' := ih (fun y hy => hm y (by simp [hy]))
  show spec_loLeast.L0 a _ _ l _ _ = _
  rw [spec_loLeast.L0_eq, if_pos (by omega), if_pos (by omega), if_pos (by omega), rd_loc, hxi, wrap_in (x := (i : Int) + 1) (by omega) (by omega), abs_some _ _ (by omega) (by omega), Option.bind_some, List.foldl_cons]
  by_cases h2 : dst x.f1 a < s.1
  ·rw [if_pos h2]
   refine (ih' (dst x.f1 a, [x.f0]) (by simp)).trans ?_
   rw [nearStep, if_pos h2]
  ·rw [if_neg h2]
   by_cases h3 : dst x.f1 a = s.1
   ·rw [if_pos h3, wrap_in (by omega) (by omega)]
    have := ih' (s.1, s.2 ++ [x.f0]) (by simp; omega)
    simp only [List.length_append, List.length_singleton] at this
    rw [show (((s.2.length + 1 : Nat)) : Int) = (s.2.length : Int) + 1 from by omega] at this
    refine this.trans ?_
    rw [nearStep, if_neg h2, if_pos h3]
   ·rw [if_neg h3]
    refine (ih' s (by omega)).trans ?_
    rw [nearStep, if_neg h2, if_neg h3]

/-- Whom an angle means; the empty text for nobody. -/
def mt (l : List Loc) (a : Int) : ByteArray := if (near l a).1 > 20 then ⟨#[]⟩ else if (near l a).2.length = 1 then rdOf ByteArray.empty (near l a).2 0 else ⟨#[]⟩
theorem pointsAt_some (l : List Loc) (a : Int) (hl : l.length ≤ 8) (hx : ∀ x ∈ l, (-90 ≤ x.f1 ∧ x.f1 ≤ 90) ∧ 1 ≤ x.f0.size) (ha : -90 ≤ a ∧ a ≤ 90) : impl_pointsAt.F l a = some (mt l a) := by
 rw [impl_pointsAt.F_eq, nearest_some l a hl hx ha, Option.bind_some]
 unfold mt
 by_cases h1 : (near l a).1 > 20
 ·rw [if_pos h1, if_pos h1]
 ·rw [if_neg h1, if_neg h1]
  by_cases h2 : (near l a).2.length = 1
  ·rw [if_pos (by omega), if_pos (by omega), if_pos h2]
  ·rw [if_neg (by omega), if_neg h2]
theorem loMeans_some (l : List Loc) (a : Int) (hl : l.length ≤ 8) (hx : ∀ x ∈ l, (-90 ≤ x.f1 ∧ x.f1 ≤ 90) ∧ 1 ≤ x.f0.size) (ha : -90 ≤ a ∧ a ≤ 90) : spec_loMeans.F l a = some (mt l a, ((mt l a).toList != [])) := by
 have he : ((⟨#[]⟩ : ByteArray).toList != []) = false := by rw [toList_data]; rfl
 rw [spec_loMeans.F_eq, least_some l a hl hx ha, Option.bind_some]
 unfold mt
 by_cases h1 : (near l a).1 > 20
 ·rw [if_pos h1, if_pos h1, spec_loMeans.J0_eq, if_pos rfl, he]
 ·rw [if_neg h1, if_neg h1, spec_loMeans.J0_eq]
  by_cases h2 : (near l a).2.length = 1
  ·rw [if_neg (by simp [h2]), if_pos h2]
   obtain ⟨w, hw⟩ := List.length_eq_one_iff.1 h2
   have hw2 : rdOf ByteArray.empty (near l a).2 0 = w := by rw [hw]; rfl
   rw [hw2]
   have h3 := (near_spec l a).1
   rw [hw] at h3
   refine each (L := fun i => spec_loMeans.L0 a (near l a).1 l l.length i) l z58 (fun i t o => (∀ x ∈ t, x ∈ l) → [w] = (t.filter fun x => decide (dst x.f1 a = (near l a).1)).map (·.f0) → o = some (w, (w.toList != []))) ?_ ?_ (fun _ h => h) h3
   ·intro _ h4; simp at h4
   ·intro i x t hi hxi _ _ ih hm h4
    have h5 := hx x (hm x (by simp))
    show spec_loMeans.L0 a _ l _ _ = _
    rw [spec_loMeans.L0_eq, if_pos (by omega), if_pos (by omega), if_pos (by omega), rd_loc, hxi, wrap_in (x := (i : Int) + 1) (by omega) (by omega), abs_some _ _ (by omega) (by omega), Option.bind_some]
    by_cases h6 : dst x.f1 a = (near l a).1
    ·rw [if_pos h6]
     have h7 : w = x.f0 := by
      rw [List.filter_cons_of_pos (by simp [h6])] at h4
      simp at h4
      exact h4.1
     subst h7
     have h8 : (x.f0.toList != []) = true := by
      rw [toList_data, bne_iff_ne]
      intro e
      have := h5.2
      rw [size_data, e] at this
      simp at this
     rw [h8]
    ·rw [if_neg h6]
     rw [List.filter_cons_of_neg (by simp [h6])] at h4
     exact ih (fun y hy => hm y (by simp [hy])) h4
  ·rw [if_pos (by simp; omega), if_neg h2, he]

/-! ### What verbs mean -/
def meaning (l : List Loc) (a b : Int) : ByteArray × ByteArray :=
 if (mt l a).toList = [] then (⟨#[]⟩, ⟨#[]⟩) else if (mt l b).toList = [] then (⟨#[]⟩, ⟨#[]⟩) else if (mt l a).toList = (mt l b).toList then (⟨#[]⟩, ⟨#[]⟩) else (mt l a, mt l b)
theorem noText : (⟨#[]⟩ : ByteArray).toList = [] := by rw [toList_data]
theorem meaning_some (l : List Loc) (g : ByteArray) (a b : Int) (hl : l.length ≤ 8) (hx : ∀ x ∈ l, (-90 ≤ x.f1 ∧ x.f1 ≤ 90) ∧ 1 ≤ x.f0.size) (ha : -90 ≤ a ∧ a ≤ 90) (hb : -90 ≤ b ∧ b ≤ 90) : impl_Verb_meaning.F g a b l = some (meaning l a b) := by
 rw [impl_Verb_meaning.F_eq, pointsAt_some _ _ hl hx ha, pointsAt_some _ _ hl hx hb, Option.bind_some, Option.bind_some]
 unfold meaning
 split
 ·rfl
 ·split
  ·rfl
  ·split <;> rfl
theorem veMeans_some (l : List Loc) (g : ByteArray) (a b : Int) (hl : l.length ≤ 8) (hx : ∀ x ∈ l, (-90 ≤ x.f1 ∧ x.f1 ≤ 90) ∧ 1 ≤ x.f0.size) (ha : -90 ≤ a ∧ a ≤ 90) (hb : -90 ≤ b ∧ b ≤ 90) : spec_veMeans.F l g a b = some ((meaning l a b).1, (meaning l a b).2, ((meaning l a b).1.toList != [])) := by
 rw [spec_veMeans.F_eq, loMeans_some _ _ hl hx ha, loMeans_some _ _ hl hx hb, Option.bind_some, Option.bind_some]
 unfold meaning
 by_cases c1 : (mt l a).toList = []
 ·simp [c1, noText]
 by_cases c2 : (mt l b).toList = []
 ·simp [c1, c2, noText]
 by_cases c3 : (mt l a).toList = (mt l b).toList
 ·simp [c2, c3, noText]
 ·simp [c1, c2, c3, noText]


theorem mt_short {l : List Loc} (h : good l = true) (a : Int) : (mt l a).size ≤ 8 := by
 unfold mt
 split
 ·show 0 ≤ 8; omega
 ·split
  ·rename_i h2
   obtain ⟨w, hw⟩ := List.length_eq_one_iff.1 h2
   have h3 := (near_spec l a).1
   rw [hw] at h3 ⊢
   show w.size ≤ 8
   have h4 : w ∈ [w] := by simp
   rw [h3] at h4
   obtain ⟨x, hx, rfl⟩ := List.mem_map.1 h4
   exact good_short h x (List.mem_filter.1 hx).1
  ·show 0 ≤ 8; omega
theorem meaning_short {l : List Loc} (h : good l = true) (a b : Int) : (meaning l a b).1.size ≤ 8 ∧ (meaning l a b).2.size ≤ 8 := by
 unfold meaning
 split
 ·exact ⟨by show 0 ≤ 8; omega, by show 0 ≤ 8; omega⟩
 ·split
  ·exact ⟨by show 0 ≤ 8; omega, by show 0 ≤ 8; omega⟩
  ·split
   ·exact ⟨by show 0 ≤ 8; omega, by show 0 ≤ 8; omega⟩
   ·exact ⟨mt_short h a, mt_short h b⟩


theorem fsWord_some (s : ByteArray) (hs : s.size ≤ 9223372036854775807) : spec_fsWord.F s = some (isWord 65 90 s) := by
 rw [spec_fsWord.F_eq]
 have := each (L := fun i => spec_fsWord.L0 s i) s.data.toList 0 (fun _ t o => o = some (inRange 65 90 t && decide (1 ≤ s.size ∧ s.size ≤ 8))) ?_ ?_
 ·rw [this, isWord, Bool.and_comm]
 ·show spec_fsWord.L0 s _ = _
  rw [spec_fsWord.L0_eq, if_neg (by rw [← size_data]; omega), l1In_some]
  simp only [Option.bind_some, inRange, List.all_nil, Bool.true_and, dec_size]
 ·intro i x t hi hx _ _ ih
  have hi' : i < s.size := by rw [size_data]; exact hi
  show spec_fsWord.L0 s _ = _
  rw [spec_fsWord.L0_eq, if_pos (by omega), if_pos (by omega), bt_data s i hi', hx, wrap_in (by omega) (by omega)]
  by_cases h1 : x.toNat < 65
  ·rw [if_pos (by omega)]; simp [inRange]; omega
  ·rw [if_neg (by omega)]
   by_cases h2 : 90 < x.toNat
   ·rw [if_pos (by omega)]; simp [inRange]; omega
   ·rw [if_neg (by omega), ih]
    have h3 : 65 ≤ x.toNat := by omega
    have h4 : x.toNat ≤ 90 := by omega
    simp [inRange, h3, h4]


theorem isGloss_some (s : ByteArray) (hs : s.size ≤ 9223372036854775807) : impl_IsGloss.F s = some (isWord 65 90 s) := by
 rw [impl_IsGloss.F_eq, isWordOf_some 65 90 s _ hs (by decide +kernel)]; rfl



/-- Is it a verb? -/
def isVerb (g : ByteArray) (a b : Int) : Bool := isWord 65 90 g && (decide (-90 ≤ a ∧ a ≤ 90) && (decide (-90 ≤ b ∧ b ≤ 90) && (a != b)))
theorem isVerb_some (g : ByteArray) (a b : Int) (hg : g.size ≤ 9223372036854775807) : impl_IsVerb.F g a b = some (isVerb g a b) := by
 rw [impl_IsVerb.F_eq, isGloss_some g hg, isAngle_some, isAngle_some]
 unfold isVerb
 cases isWord 65 90 g <;> cases decide (-90 ≤ a ∧ a ≤ 90) <;> cases decide (-90 ≤ b ∧ b ≤ 90) <;> simp
theorem veOne_some (g : ByteArray) (a b : Int) (hg : g.size ≤ 9223372036854775807) : spec_veOne.F g a b = some (isVerb g a b) := by
 rw [spec_veOne.F_eq, fsWord_some g hg, loAngle_some, loAngle_some]
 unfold isVerb
 cases isWord 65 90 g <;> cases decide (-90 ≤ a ∧ a ≤ 90) <;> cases decide (-90 ≤ b ∧ b ≤ 90) <;> simp

theorem isV_bounds {g : ByteArray} {a b : Int} (h : isVerb g a b = true) : (-90 ≤ a ∧ a ≤ 90) ∧ (-90 ≤ b ∧ b ≤ 90) := by
 simp only [isVerb, Bool.and_eq_true, decide_eq_true_eq] at h
 exact ⟨h.2.1, h.2.2.1⟩
theorem meansI (L : List Loc) (g : ByteArray) (a b : Int) (hz : Sized L) (hgs : g.size ≤ 9) (hg : good L = true) (hv : isVerb g a b = true) : impl_MeaningOf.F L g a b = some ((meaning L a b).1, (meaning L a b).2, ((meaning L a b).1.toList != [])) := by
 obtain ⟨g1, g2⟩ := good_facts hg
 have hb := isV_bounds hv
 rw [impl_MeaningOf.F_eq, areLoci_some _ hz, isVerb_some _ _ _ (by omega), hg, hv, meaning_some _ _ _ _ g1 g2 hb.1 hb.2]
 rfl
theorem meansS (L : List Loc) (g : ByteArray) (a b : Int) (hz : Sized L) (hgs : g.size ≤ 9) (hg : good L = true) (hv : isVerb g a b = true) : spec_MeaningOf.F L g a b = some ((meaning L a b).1, (meaning L a b).2, ((meaning L a b).1.toList != [])) := by
 obtain ⟨g1, g2⟩ := good_facts hg
 have hb := isV_bounds hv
 rw [spec_MeaningOf.F_eq, loGood_some _ hz, veOne_some _ _ _ (by omega), hg, hv, veMeans_some _ _ _ _ g1 g2 hb.1 hb.2]
 rfl
theorem means_tells (L : List Loc) (g : ByteArray) (a b : Int) (hL : Drawn L) (hgs : g.size ≤ 9) : ∃ x y c, spec_MeaningOf.F L g a b = some (x, y, c) := by
 have hz := hL.sized
 cases hg : good L
 ·rw [spec_MeaningOf.F_eq, loGood_some _ hz, hg]; exact ⟨_, _, _, rfl⟩
 cases hv : isVerb g a b
 ·rw [spec_MeaningOf.F_eq, loGood_some _ hz, veOne_some _ _ _ (by omega), hg, hv]; exact ⟨_, _, _, rfl⟩
 exact ⟨_, _, _, meansS L g a b hz hgs hg hv⟩

/-! ### What is drawn -/
theorem most_tells (a b : Int) : ∃ m, spec_l1Most.f a b = some m := by unfold spec_l1Most.f; split <;> exact ⟨_, rfl⟩
theorem least_tells (a b : Int) : ∃ m, spec_l1Least.f a b = some m := by unfold spec_l1Least.f; split <;> exact ⟨_, rfl⟩
theorem verb_tells (l : List Int) (hl : Bytes l) (L : List Loc) (hL : Drawn L) (a s : Int) (ha : 0 ≤ a ∧ a ≤ 900000) : ∃ g x y b t, spec_l1Cur_verb.F l a s L = some (g, x, y, b, t) ∧ g.size ≤ 9 ∧ 0 ≤ b ∧ b ≤ a + 40 := by
 have hlen := hL.1
 rw [spec_l1Cur_verb.F_eq]
 generalize hq : ([(⟨#[71, 73, 86, 69]⟩ : ByteArray), (⟨#[71, 73, 86, 69]⟩ : ByteArray), (⟨#[65, 83, 75]⟩ : ByteArray), (⟨#[83, 72, 79, 87]⟩ : ByteArray), (⟨#[84, 69, 76, 76]⟩ : ByteArray)] : List ByteArray) = q
 have hqq : ∀ x ∈ q, x.size ≤ 9 := by rw [← hq]; simp only [List.mem_cons, List.not_mem_nil, or_false]; rintro x (rfl | rfl | rfl | rfl | rfl) <;> decide
 obtain ⟨g, b1, t1, h1, m1, i1, j1⟩ := of_tells l hl a s q (by omega) (by rw [← hq]; simp)
 have z1 := hqq _ m1
 obtain ⟨p, b2, t2, h2, _, i2, j2⟩ := among_tells l hl b1 t1 [-90, -40, 0, 30, 90] (by omega) (by simp)
 obtain ⟨r, b3, t3, h3, _, i3, j3⟩ := among_tells l hl b2 t2 [-80, -35, 5, 40, 85] (by omega) (by simp)
 simp only [h1, h2, h3, Option.bind_some]
 have last : ∀ (p r b t : Int), (0 ≤ b ∧ b ≤ a + 30) → ∃ g' x y b' t', spec_l1Cur_verb.J1 l b t g p r = some (g', x, y, b', t') ∧ g'.size ≤ 9 ∧ 0 ≤ b' ∧ b' ≤ a + 40 := by
  intro p r b t hb
  rw [spec_l1Cur_verb.J1_eq]
  obtain ⟨k, b4, t4, h4, _, _, i4, j4⟩ := pick_tells l hl b t 40 (by omega) (by omega)
  simp only [h4, Option.bind_some]
  by_cases c0 : k = 0
  ·rw [if_pos c0]
   generalize hq' : ([(⟨#[]⟩ : ByteArray), (⟨#[103, 105, 118, 101]⟩ : ByteArray), (⟨#[78, 73, 78, 69, 76, 69, 84, 84, 82]⟩ : ByteArray)] : List ByteArray) = q'
   have hqq' : ∀ x ∈ q', x.size ≤ 9 := by rw [← hq']; simp only [List.mem_cons, List.not_mem_nil, or_false]; rintro x (rfl | rfl | rfl) <;> decide
   obtain ⟨g', b5, t5, h5, m5, i5, j5⟩ := of_tells l hl b4 t4 q' (by omega) (by rw [← hq']; simp)
   simp only [h5, Option.bind_some]
   exact ⟨_, _, _, _, _, rfl, hqq' _ m5, i5, by omega⟩
  rw [if_neg c0]
  by_cases c1 : k = 1
  ·rw [if_pos c1]
   obtain ⟨g', b5, t5, h5, _, i5, j5⟩ := among_tells l hl b4 t4 [-91, 91, r, -9223372036854775808] (by omega) (by simp)
   simp only [h5, Option.bind_some]
   exact ⟨_, _, _, _, _, rfl, z1, i5, by omega⟩
  rw [if_neg c1]
  by_cases c2 : k = 2
  ·rw [if_pos c2]
   obtain ⟨g', b5, t5, h5, _, i5, j5⟩ := among_tells l hl b4 t4 [-91, 91] (by omega) (by simp)
   simp only [h5, Option.bind_some]
   exact ⟨_, _, _, _, _, rfl, z1, i5, by omega⟩
  rw [if_neg c2]
  exact ⟨_, _, _, _, _, rfl, z1, i4, by omega⟩
 by_cases c : (L.length : Int) > 1
 case neg =>
  rw [if_neg c, spec_l1Cur_verb.J0_eq, if_neg (by simp)]
  exact last _ _ _ _ (by omega)
 rw [if_pos c, loGood_some _ hL.sized, Option.bind_some]
 cases good L
 ·rw [if_neg (by simp), spec_l1Cur_verb.J0_eq, if_neg (by simp)]
  exact last _ _ _ _ (by omega)
 rw [if_pos rfl]
 obtain ⟨o, b4, t4, h4, i4, j4⟩ := one_tells l hl b3 t3 4 (by omega) (by omega)
 simp only [h4, Option.bind_some]
 rw [spec_l1Cur_verb.J0_eq]
 cases o
 case true => rw [if_neg (by simp)]; exact last _ _ _ _ (by omega)
 rw [if_pos (by rfl)]
 obtain ⟨k, b5, t5, h5, p5, q5, i5, j5⟩ := pick_tells l hl b4 t4 L.length (by omega) (by omega)
 have r5 := q5 (by omega)
 simp only [h5, Option.bind_some]
 rw [if_pos (by omega), if_pos (by omega)]
 obtain ⟨e6, b6, t6, h6, _, i6, j6⟩ := among_tells l hl b5 t5 [0, 5, -5, 20, 21] (by omega) (by simp)
 simp only [h6, Option.bind_some]
 obtain ⟨m7, h7⟩ := least_tells 90 (wrap64 ((rd_T58 L k).f1 + e6))
 obtain ⟨m8, h8⟩ := most_tells (-90) m7
 simp only [h7, h8, Option.bind_some]
 obtain ⟨k2, b9, t9, h9, p9, q9, i9, j9⟩ := pick_tells l hl b6 t6 L.length (by omega) (by omega)
 have r9 := q9 (by omega)
 simp only [h9, Option.bind_some]
 rw [if_pos (by omega), if_pos (by omega)]
 obtain ⟨e10, b10, t10, h10, _, i10, j10⟩ := among_tells l hl b9 t9 [0, 5, -5] (by omega) (by simp)
 simp only [h10, Option.bind_some]
 obtain ⟨m11, h11⟩ := least_tells 90 (wrap64 ((rd_T58 L k2).f1 + e10))
 obtain ⟨m12, h12⟩ := most_tells (-90) m11
 simp only [h11, h12, Option.bind_some]
 exact last _ _ _ _ (by omega)


theorem who_tells (l : List Int) (hl : Bytes l) (L : List Loc) (hL : Drawn L) (a s : Int) (ha : 0 ≤ a ∧ a ≤ 900000) : ∃ r b t, spec_l1Cur_whoIn.F l a s L = some (r, b, t) ∧ 0 ≤ b ∧ b ≤ a + 10 := by
 have hlen := hL.1
 have no : ∀ b t, (0 ≤ b ∧ b ≤ a + 4) → ∃ r b' t', spec_l1Cur_whoIn.J0 L L.length false l b t = some (r, b', t') ∧ 0 ≤ b' ∧ b' ≤ a + 10 := fun b t hb => by
  rw [spec_l1Cur_whoIn.J0_eq, if_neg (by simp)]
  obtain ⟨r, b2, t2, h2, _, i2, j2⟩ := of_tells l hl b t [(⟨#[109, 97, 114, 121]⟩ : ByteArray), (⟨#[110, 111, 98, 111, 100, 121]⟩ : ByteArray), (⟨#[]⟩ : ByteArray)] (by omega) (by simp)
  simp only [h2, Option.bind_some]
  exact ⟨_, _, _, rfl, i2, by omega⟩
 rw [spec_l1Cur_whoIn.F_eq]
 by_cases c : (L.length : Int) > 0
 case neg => rw [if_neg c]; exact no a s (by omega)
 rw [if_pos c]
 obtain ⟨o, b1, t1, h1, i1, j1⟩ := one_tells l hl a s 8 (by omega) (by omega)
 simp only [h1, Option.bind_some]
 cases o
 case true => exact no _ _ (by omega)
 obtain ⟨k, b2, t2, h2, p2, q2, i2, j2⟩ := pick_tells l hl b1 t1 L.length (by omega) (by omega)
 have r2 := q2 (by omega)
 rw [spec_l1Cur_whoIn.J0_eq, if_pos (by rfl)]
 simp only [h2, Option.bind_some]
 rw [if_pos (by omega), if_pos (by omega)]
 exact ⟨_, _, _, rfl, i2, by omega⟩



/-! ### Decimal digits -/
theorem dec_length (n : Nat) : (Lib.decDigits n).length ≤ n + 1 := by
 induction n using Nat.strongRecOn with
 | ind n ih =>
  rw [Lib.decDigits]
  split
  ·simp
  ·have := ih (n / 10) (by omega)
   rw [List.length_append]
   simp only [List.length_cons, List.length_nil]
   omega

/-! ### Numbers in decimal -/
theorem digit_fin : ∀ n : Fin 10, strOfNums [(wrap64 (48 + (n.val : Int))) % 256] = ⟨#[UInt8.ofNat (48 + n.val)]⟩ := by decide +kernel
theorem digit_some {n : Nat} (h : n < 10) : strOfNums [(wrap64 (48 + (n : Int))) % 256] = ⟨#[UInt8.ofNat (48 + n)]⟩ := digit_fin ⟨n, h⟩
theorem num_some (n : Nat) : n < 4611686018427387904 → spec_l1Num.F (n : Int) = some ⟨(Lib.decDigits n).toArray⟩ := by
 induction n using Nat.strongRecOn with
 | ind n ih =>
  intro hn
  rw [spec_l1Num.F_eq]
  by_cases c : n < 10
  ·rw [if_pos (by omega), Lib.decDigits_one c, digit_some c]
  ·have t1 : (n : Int).tdiv 10 = ((n / 10 : Nat) : Int) := by rw [Int.tdiv_eq_ediv_of_nonneg (by omega)]; omega
   have t2 : (n : Int).tmod 10 = ((n % 10 : Nat) : Int) := by rw [Int.tmod_eq_emod_of_nonneg (by omega)]; omega
   have hl := dec_length (n / 10)
   rw [if_neg (by omega), t1, wrap_in (by omega) (by omega), ih (n / 10) (by omega) (by omega), Option.bind_some, Option.bind_some, t2, digit_some (by omega)]
   have e : Lib.decDigits n = Lib.decDigits (n / 10) ++ [UInt8.ofNat (48 + n % 10)] := by rw [Lib.decDigits, dif_neg c]
   rw [if_pos (by simp only [ByteArray.size, List.size_toArray, List.length_cons, List.length_nil]; omega), e]
   first
   | rfl
   | (congr 1; done)
   | (congr 1; apply ext_data; rw [toList_data, toList_data]; simp)

/-! ### Small numbers with a sign, as texts -/
def it (n : Int) : ByteArray := ⟨(Lib.itoa n).toArray⟩
theorem it_data (n : Int) : (it n).data.toList = Lib.itoa n := rfl
theorem it_spec {n : Int} (h : -90 ≤ n ∧ n ≤ 90) : spec_l1Int.F n = some (it n) := by
 rw [spec_l1Int.F_eq]
 by_cases c : n < 0
 ·obtain ⟨m, rfl⟩ : ∃ m : Nat, n = -(m : Int) := ⟨n.natAbs, by omega⟩
  have hl := dec_length m
  have e : - -(m : Int) = (m : Int) := by omega
  have hd : (⟨(Lib.decDigits m).toArray⟩ : ByteArray).size = (Lib.decDigits m).length := by simp [ByteArray.size]
  rw [if_pos c, e, wrap_in (by omega) (by omega), num_some m (by omega), Option.bind_some, if_pos (by omega)]
  congr 1
  apply ext_data
  rw [toList_data, toList_data, it_data]
  unfold Lib.itoa
  rw [if_pos c]
  simp
 ·obtain ⟨m, rfl⟩ := Int.eq_ofNat_of_zero_le (show 0 ≤ n by omega)
  have e : it (m : Int) = ⟨(Lib.decDigits m).toArray⟩ := by
   unfold it Lib.itoa
   rw [if_neg c, Int.toNat_natCast]
  rw [if_neg c, num_some m (by omega), Option.bind_some, e]
theorem it_size {n : Int} (h : -90 ≤ n ∧ n ≤ 90) : (it n).size ≤ 92 := by
 rw [size_data, it_data]
 unfold Lib.itoa
 split
 ·have := dec_length n.natAbs
  rw [List.length_cons]; omega
 ·have := dec_length n.toNat
  omega

theorem it_impl {n : Int} (h : -90 ≤ n ∧ n ≤ 90) : strconv_Itoa.f n = some (it n) := by
 unfold strconv_Itoa.f; rw [if_pos (by omega)]; rfl

/-! ### Verbs as texts -/
def veTx (g : ByteArray) (a b : Int) : ByteArray := (((g ++ ⟨#[58]⟩) ++ it a) ++ ⟨#[62]⟩) ++ it b
theorem isVerb_facts {g : ByteArray} {a b : Int} (h : isVerb g a b = true) : (isWord 65 90 g = true ∧ g.size ≤ 8) ∧ (-90 ≤ a ∧ a ≤ 90) ∧ (-90 ≤ b ∧ b ≤ 90) := by
 unfold isVerb at h
 simp only [Bool.and_eq_true, decide_eq_true_eq] at h
 refine ⟨⟨h.1, ?_⟩, h.2.1, h.2.2.1⟩
 have := h.1
 simp only [isWord, Bool.and_eq_true, decide_eq_true_eq] at this
 exact this.1.2
theorem ve_texts {g : ByteArray} {a b : Int} (h : isVerb g a b = true) : spec_veText.F g a b = some (veTx g a b) ∧ impl_Verb_text.f g a b = some (veTx g a b) := by
 obtain ⟨⟨_, hg⟩, ha, hb⟩ := isVerb_facts h
 have sa := it_size ha
 have sb := it_size hb
 have n1 : ((⟨#[58]⟩ : ByteArray)).size = 1 := rfl
 have n2 : ((⟨#[62]⟩ : ByteArray)).size = 1 := rfl
 have k1 : g.size + 1 ≤ 9223372036854775807 := by omega
 have k2 : (g ++ (⟨#[58]⟩ : ByteArray)).size + (it a).size ≤ 9223372036854775807 := by simp only [ByteArray.size_append, n1]; omega
 have k3 : ((g ++ (⟨#[58]⟩ : ByteArray)) ++ it a).size + 1 ≤ 9223372036854775807 := by simp only [ByteArray.size_append, n1]; omega
 have k4 : (((g ++ (⟨#[58]⟩ : ByteArray)) ++ it a) ++ (⟨#[62]⟩ : ByteArray)).size + (it b).size ≤ 9223372036854775807 := by simp only [ByteArray.size_append, n1, n2]; omega
 rw [spec_veText.F_eq]
 unfold impl_Verb_text.f
 simp only [k1, k2, k3, k4, if_true, it_spec ha, it_spec hb, it_impl ha, it_impl hb, Option.bind_some, veTx, and_self]



theorem itoa_facts : ∀ k : Fin 181, Lib.atoiAll (Lib.itoa ((k.val : Int) - 90)) = .ok ((k.val : Int) - 90) ∧ (Lib.itoa ((k.val : Int) - 90)).all (fun c => decide (c.toNat = 45 ∨ (48 ≤ c.toNat ∧ c.toNat ≤ 57))) = true := by decide +kernel
theorem itoa_at {n : Int} (h : -90 ≤ n ∧ n ≤ 90) : Lib.atoiAll (Lib.itoa n) = .ok n ∧ (Lib.itoa n).all (fun c => decide (c.toNat = 45 ∨ (48 ≤ c.toNat ∧ c.toNat ≤ 57))) = true := by
 have := itoa_facts ⟨(n + 90).toNat, by omega⟩
 have e : (((n + 90).toNat : Nat) : Int) - 90 = n := by omega
 simp only [e] at this
 exact this
theorem itoa_not {n : Int} (h : -90 ≤ n ∧ n ≤ 90) (c : UInt8) (hc : ¬ (c.toNat = 45 ∨ (48 ≤ c.toNat ∧ c.toNat ≤ 57))) : c ∉ Lib.itoa n := by
 intro hm
 have := List.all_eq_true.1 (itoa_at h).2 c hm
 simp only [decide_eq_true_eq] at this
 exact hc this
theorem decimal_it {n : Int} (h : -90 ≤ n ∧ n ≤ 90) : impl_decimal.f (it n) = some (n, true) := by
 have hz := it_size h
 unfold impl_decimal.f
 rw [if_pos (by omega), it_data, (itoa_at h).1]
 simp
theorem dec_some (t : ByteArray) (h : t.size ≤ 281474976710656) : ∃ v b, impl_decimal.f t = some (v, b) := by
 unfold impl_decimal.f
 rw [if_pos h]
 exact ⟨_, _, rfl⟩



/-! ### Texts cut and read -/
theorem cut_data (s : ByteArray) (a b : Nat) : (s.extract a b).data.toList = (s.data.toList.drop a).take (b - a) := by
 simp [List.take_drop]
def mkB (l : List UInt8) : ByteArray := ⟨l.toArray⟩
theorem mkB_data (s : ByteArray) : mkB s.data.toList = s := by
 obtain ⟨⟨l⟩⟩ := s; rfl
theorem data_mkB (l : List UInt8) : (mkB l).data.toList = l := rfl
theorem mkB_size (l : List UInt8) : (mkB l).size = l.length := by simp [mkB, ByteArray.size]
theorem data_inj {s t : ByteArray} (h : s.data.toList = t.data.toList) : s = t := by
 rw [← mkB_data s, ← mkB_data t, h]
theorem mkB_inj {l m : List UInt8} (h : mkB l = mkB m) : l = m := by
 rw [← data_mkB l, h, data_mkB]
theorem cut_mkB (s : ByteArray) (a b : Nat) : s.extract a b = mkB ((s.data.toList.drop a).take (b - a)) := data_inj (by rw [cut_data, data_mkB])
/-- The parts between a byte. -/
def splitFrom (b : UInt8) (cur : List UInt8) : List UInt8 → List (List UInt8)
 | [] => [cur]
 | c :: t => if c = b then cur :: splitFrom b [] t else splitFrom b (cur ++ [c]) t
theorem split_cons (b : UInt8) (cur : List UInt8) (c : UInt8) (t : List UInt8) : splitFrom b cur (c :: t) = if c = b then cur :: splitFrom b [] t else splitFrom b (cur ++ [c]) t := rfl
theorem split_none (b : UInt8) : ∀ (xs cur : List UInt8), b ∉ xs → splitFrom b cur xs = [cur ++ xs]
 | [], cur, _ => by simp [splitFrom]
 | c :: t, cur, h => by
  simp only [List.mem_cons, not_or] at h
  rw [split_cons, if_neg (fun e => h.1 e.symm), split_none b t _ h.2]; simp
theorem split_app (b : UInt8) : ∀ (p cur t : List UInt8), b ∉ p → splitFrom b cur (p ++ b :: t) = (cur ++ p) :: splitFrom b [] t
 | [], cur, t, _ => by rw [List.nil_append, split_cons, if_pos rfl, List.append_nil]
 | c :: p, cur, t, h => by
  simp only [List.mem_cons, not_or] at h
  rw [List.cons_append, split_cons, if_neg (fun e => h.1 e.symm), split_app b p _ t h.2]; simp
theorem split_ne (b : UInt8) : ∀ (xs cur : List UInt8), splitFrom b cur xs ≠ []
 | [], cur => by simp [splitFrom]
 | c :: t, cur => by
  rw [split_cons]
  split
  ·simp
  ·exact split_ne b t _
theorem split_one (b : UInt8) : ∀ (xs cur p : List UInt8), splitFrom b cur xs = [p] → p = cur ++ xs ∧ b ∉ xs
 | [], cur, p, h => by
  simp only [splitFrom, List.cons.injEq, and_true] at h
  simp [h]
 | c :: t, cur, p, h => by
  rw [split_cons] at h
  split at h
  ·simp only [List.cons.injEq] at h
   exact absurd h.2 (split_ne b t [])
  ·rename_i hc
   obtain ⟨h1, h2⟩ := split_one b t _ p h
   refine ⟨by rw [h1]; simp, ?_⟩
   simp only [List.mem_cons, not_or]
   exact ⟨fun e => hc e.symm, h2⟩
theorem split_more (b : UInt8) : ∀ (xs cur p : List UInt8) (ps : List (List UInt8)), splitFrom b cur xs = p :: ps → ps ≠ [] → ∃ r t, p = cur ++ r ∧ b ∉ r ∧ xs = r ++ b :: t ∧ splitFrom b [] t = ps
 | [], cur, p, ps, h, hp => by
  simp only [splitFrom, List.cons.injEq] at h
  exact absurd h.2.symm hp
 | c :: t, cur, p, ps, h, hp => by
  rw [split_cons] at h
  split at h
  ·rename_i hc
   simp only [List.cons.injEq] at h
   exact ⟨[], t, by simp [h.1], by simp, by simp [hc], h.2⟩
  ·rename_i hc
   obtain ⟨r, u, h1, h2, h3, h4⟩ := split_more b t _ p ps h hp
   refine ⟨c :: r, u, by rw [h1]; simp, ?_, by rw [h3]; rfl, h4⟩
   simp only [List.mem_cons, not_or]
   exact ⟨fun e => hc e.symm, h2⟩
theorem split_count (b : UInt8) : ∀ (xs cur : List UInt8), (splitFrom b cur xs).length ≤ xs.length + 1
 | [], cur => by simp [splitFrom]
 | c :: t, cur => by
  rw [split_cons]
  split
  ·have := split_count b t []
   simp only [List.length_cons]; omega
  ·have := split_count b t (cur ++ [c])
   simp only [List.length_cons]; omega
theorem split_some (s : ByteArray) (b : UInt8) (hs : s.size ≤ 1048576) : spec_l1Split.F s (b.toNat : Int) = some ((splitFrom b [] s.data.toList).map mkB) := by
 rw [spec_l1Split.F_eq]
 have hn := size_data s
 have key : ∀ (t : List UInt8) (i fr : Nat) (acc : List ByteArray), s.data.toList.drop i = t → fr ≤ i → i ≤ s.size → acc.length ≤ i → spec_l1Split.L0 s (b.toNat : Int) acc (fr : Int) (i : Int) = some (acc ++ (splitFrom b ((s.data.toList.drop fr).take (i - fr)) t).map mkB) := by
  intro t
  induction t with
  | nil =>
   intro i fr acc hd hf hi ha
   have : s.data.toList.length ≤ i := by simpa [List.drop_eq_nil_iff] using hd
   obtain rfl : i = s.size := by omega
   rw [spec_l1Split.L0_eq, if_neg (by omega), if_pos (by omega), if_pos (by omega), if_pos (by omega), Int.toNat_natCast, cut_mkB]
   rfl
  | cons c t ih =>
   intro i fr acc hd hf hi ha
   have hlt : i < s.data.toList.length := by
    rcases Nat.lt_or_ge i s.data.toList.length with h' | h'
    ·exact h'
    ·rw [List.drop_eq_nil_of_le h'] at hd; cases hd
   have h2 := List.drop_eq_getElem_cons hlt
   rw [hd] at h2
   injection h2 with h3 h4
   have hb : bt s (i : Int) = (c.toNat : Int) := by
    rw [bt_data s i (by omega), List.getD_eq_getElem?_getD, List.getElem?_eq_getElem hlt, ← h3]
    rfl
   rw [spec_l1Split.L0_eq, if_pos (by omega), if_pos (by omega), hb, wrap_in (x := (i : Int) + 1) (by omega) (by omega), split_cons]
   have hi1 : ((i : Int) + 1) = ((i + 1 : Nat) : Int) := by omega
   by_cases hc : c = b
   ·subst hc
    rw [if_pos rfl, if_pos (by omega), if_pos (by omega), if_pos (by omega), if_pos (by omega), if_pos rfl, hi1, ih (i + 1) (i + 1) _ h4.symm (by omega) (by omega) (by simp; omega), Int.toNat_natCast, Int.toNat_natCast, cut_mkB]
    simp
   ·have hne : ¬ ((c.toNat : Int) = (b.toNat : Int)) := fun e => hc (UInt8.toNat_inj.1 (by omega))
    rw [if_neg hne, if_neg hc, hi1, ih (i + 1) fr acc h4.symm (by omega) (by omega) (by omega)]
    congr 4
    rw [show i + 1 - fr = (i - fr) + 1 from by omega, List.take_add_one]
    congr 1
    rw [List.getElem?_drop, show fr + (i - fr) = i from by omega, List.getElem?_eq_getElem hlt, ← h3]
    rfl
 have := key s.data.toList 0 0 [] rfl (by omega) (by omega) (by simp)
 simpa using this
/-! ### Numbers read -/
def dig (c : UInt8) : Bool := decide (48 ≤ c.toNat ∧ c.toNat ≤ 57)
def valF (n : Nat) (l : List UInt8) : Nat := l.foldl (fun n c => 10 * n + (c.toNat - 48)) n
/-- A canonical decimal number of at most six digits, or -1. -/
def readV (l : List UInt8) : Int := if (1 ≤ l.length ∧ l.length ≤ 6) ∧ l.all dig = true ∧ (l.length > 1 → l.head? ≠ some 48) then (valF 0 l : Int) else -1
theorem read_loop (s : ByteArray) (hs : s.size ≤ 6) : spec_l1Read.L0 s 0 0 = some (if s.data.toList.all dig = true then (valF 0 s.data.toList : Int) else -1) := by
 have hn := size_data s
 refine each (L := fun i => fun n => spec_l1Read.L0 s n i) s.data.toList 0 (fun i t f => ∀ n : Nat, n < 10 ^ i → i + t.length ≤ 6 → f (n : Int) = some (if t.all dig = true then (valF n t : Int) else -1)) ?_ ?_ 0 (by decide) (by omega)
 ·intro n h1 h2
  show spec_l1Read.L0 s _ _ = _
  rw [spec_l1Read.L0_eq, if_neg (by omega)]; rfl
 ·intro i c t hi hc _ _ ih n h1 h2
  show spec_l1Read.L0 s _ _ = _
  have hb : bt s (i : Int) = (c.toNat : Int) := by rw [bt_data s i (by omega), hc]
  have h10 : (10 : Nat) ^ i ≤ 10 ^ 6 := Nat.pow_le_pow_right (by omega) (by omega)
  simp only [List.length_cons] at h2
  rw [spec_l1Read.L0_eq, if_pos (by omega), if_pos (by omega), hb]
  by_cases c1 : (c.toNat : Int) < 48
  ·have : dig c = false := by unfold dig; simp; omega
   rw [if_pos c1]; simp [this]
  rw [if_neg c1]
  by_cases c2 : (c.toNat : Int) > 57
  ·have : dig c = false := by unfold dig; simp; omega
   rw [if_pos c2]; simp [this]
  have hd : dig c = true := by unfold dig; simp; omega
  rw [if_neg c2, wrap_in (x := 10 * (n : Int)) (by omega) (by omega), wrap_in (x := (i : Int) + 1) (by omega) (by omega)]
  have e : (10 * (n : Int) + ((c.toNat : Int) - 48) % 256) = ((10 * n + (c.toNat - 48) : Nat) : Int) := by omega
  rw [wrap_in (by omega) (by omega), e]
  refine (ih (10 * n + (c.toNat - 48)) (by rw [Nat.pow_succ]; omega) (by omega)).trans ?_
  simp [hd, valF]
theorem read_some (s : ByteArray) (hs : s.size ≤ 1048576) : spec_l1Read.F s = some (readV s.data.toList) := by
 have hn := size_data s
 rw [spec_l1Read.F_eq, l1In_some, Option.bind_some]
 unfold readV
 rw [← hn]
 by_cases h : 1 ≤ s.size ∧ s.size ≤ 6
 case neg =>
  rw [if_neg (by simp; omega), spec_l1Read.J0_eq, if_pos rfl, if_neg (fun q => h q.1)]
 rw [if_pos (by simp; omega), if_pos (by omega)]
 have hh : bt s 0 = ((s.data.toList.getD 0 0).toNat : Int) := bt_data s 0 (by omega)
 have hd : s.data.toList.head? = some (s.data.toList.getD 0 0) := by
  cases he : s.data.toList with
  | nil => rw [he] at hn; have : s.size = 0 := hn; omega
  | cons x t => rfl
 have hz : (bt s 0 = 48) ↔ s.data.toList.head? = some 48 := by
  rw [hh, hd]
  constructor
  ·intro q
   congr 1
   exact UInt8.toNat_inj.1 (by rw [show (48 : UInt8).toNat = 48 from rfl]; omega)
  ·intro q
   rw [Option.some.inj q]; rfl
 have hl := read_loop s h.2
 by_cases c : bt s 0 = 48
 ·rw [if_pos c]
  by_cases c2 : (s.size : Int) > 1
  ·rw [decide_eq_true c2, spec_l1Read.J0_eq, if_pos rfl, if_neg]
   rintro ⟨_, _, q⟩
   exact q (by omega) (hz.1 c)
  ·rw [decide_eq_false c2, spec_l1Read.J0_eq, if_neg (by simp), hl]
   congr 1
   by_cases a : s.data.toList.all dig = true
   ·rw [if_pos a, if_pos ⟨h, a, fun q => absurd q (by omega)⟩]
   ·rw [if_neg a, if_neg (fun q => a q.2.1)]
 ·rw [if_neg c, spec_l1Read.J0_eq, if_neg (by simp), hl]
  congr 1
  by_cases a : s.data.toList.all dig = true
  ·rw [if_pos a, if_pos ⟨h, a, fun _ q => c (hz.2 q)⟩]
  ·rw [if_neg a, if_neg (fun q => a q.2.1)]
theorem head_app {l m : List UInt8} (h : l ≠ []) : (l ++ m).head? = l.head? := by
 cases l with
 | nil => exact absurd rfl h
 | cons a l => rfl
theorem val_snoc (l : List UInt8) (c : UInt8) (n : Nat) : valF n (l ++ [c]) = 10 * valF n l + (c.toNat - 48) := by
 simp [valF]
theorem dig_back {c : UInt8} (h : dig c = true) : UInt8.ofNat (48 + (c.toNat - 48)) = c := by
 unfold dig at h
 simp only [decide_eq_true_eq] at h
 rw [show 48 + (c.toNat - 48) = c.toNat from by omega]
 simp
/-- What is read canonically is the number's text. -/
theorem val_back (l : List UInt8) : l ≠ [] → l.all dig = true → (l.length > 1 → l.head? ≠ some 48) → Lib.decDigits (valF 0 l) = l ∧ (l.head? ≠ some 48 → 1 ≤ valF 0 l) := by
 have key : ∀ (n : Nat) (l : List UInt8), l.length = n → l ≠ [] → l.all dig = true → (l.length > 1 → l.head? ≠ some 48) → Lib.decDigits (valF 0 l) = l ∧ (l.head? ≠ some 48 → 1 ≤ valF 0 l) := by
  intro n
  induction n with
  | zero => intro l hn hl; exact absurd (List.eq_nil_of_length_eq_zero hn) hl
  | succ n ih =>
   intro l hn hl ha hh
   obtain ⟨m, c, rfl⟩ : ∃ m c, l = m ++ [c] := ⟨l.dropLast, l.getLast hl, (List.dropLast_concat_getLast hl).symm⟩
   simp only [List.length_append, List.length_cons, List.length_nil] at hn
   simp only [List.all_append, List.all_cons, List.all_nil, Bool.and_true, Bool.and_eq_true] at ha
   have hc := ha.2
   have hc2 := hc
   unfold dig at hc2
   simp only [decide_eq_true_eq] at hc2
   rw [val_snoc]
   by_cases hm : m = []
   ·subst hm
    simp only [List.nil_append]
    have e : valF 0 [] = 0 := rfl
    rw [e, Nat.mul_zero, Nat.zero_add, Lib.decDigits_one (by omega), dig_back hc]
    refine ⟨rfl, fun q => ?_⟩
    rcases Nat.lt_or_ge 48 c.toNat with h | h
    ·omega
    ·exfalso
     apply q
     simp only [List.head?_cons]
     congr 1
     exact UInt8.toNat_inj.1 (by rw [show (48 : UInt8).toNat = 48 from rfl]; omega)
   ·have hp : 0 < m.length := List.length_pos_iff.2 hm
    have h0 : m.head? ≠ some 48 := by
     have := hh (by simp; omega)
     rwa [head_app hm] at this
    obtain ⟨i1, i2⟩ := ih m (by omega) hm ha.1 (fun _ => h0)
    have i3 := i2 h0
    have e1 : (10 * valF 0 m + (c.toNat - 48)) / 10 = valF 0 m := by omega
    have e2 : (10 * valF 0 m + (c.toNat - 48)) % 10 = c.toNat - 48 := by omega
    refine ⟨?_, fun _ => by omega⟩
    rw [Lib.decDigits, dif_neg (by omega), e1, e2, i1, dig_back hc]
 exact key l.length l rfl
theorem ofNat_dig {n : Nat} (h : n < 10) : dig (UInt8.ofNat (48 + n)) = true ∧ (UInt8.ofNat (48 + n)).toNat = 48 + n := by
 have : (UInt8.ofNat (48 + n)).toNat = 48 + n := by rw [UInt8.toNat_ofNat']; omega
 refine ⟨?_, this⟩
 unfold dig
 rw [this]
 simp
 omega
theorem dec_facts (n : Nat) : (Lib.decDigits n).all dig = true ∧ valF 0 (Lib.decDigits n) = n ∧ Lib.decDigits n ≠ [] ∧ (1 ≤ n → (Lib.decDigits n).head? ≠ some 48) ∧ ((Lib.decDigits n).length > 1 → 1 ≤ n) := by
 induction n using Nat.strongRecOn with
 | ind n ih =>
  by_cases c : n < 10
  ·obtain ⟨d1, d2⟩ := ofNat_dig c
   rw [Lib.decDigits_one c]
   refine ⟨by rw [List.all_cons, List.all_nil, d1]; rfl, by rw [show valF 0 [UInt8.ofNat (48 + n)] = 10 * 0 + ((UInt8.ofNat (48 + n)).toNat - 48) from rfl, d2]; omega, by simp, fun h q => ?_, fun h => by simp at h⟩
   simp only [List.head?_cons, Option.some.injEq] at q
   have := congrArg UInt8.toNat q
   rw [d2] at this
   simp at this
   omega
  ·obtain ⟨i1, i2, i3, i4, i5⟩ := ih (n / 10) (by omega)
   obtain ⟨d1, d2⟩ := ofNat_dig (n := n % 10) (by omega)
   have e : Lib.decDigits n = Lib.decDigits (n / 10) ++ [UInt8.ofNat (48 + n % 10)] := by rw [Lib.decDigits, dif_neg c]
   rw [e, val_snoc, i2, d2]
   refine ⟨by rw [List.all_append, i1, List.all_cons, List.all_nil, d1]; rfl, by omega, by simp, fun _ => ?_, fun _ => by omega⟩
   rw [head_app i3]
   exact i4 (by omega)
theorem dec_len (k : Nat) : ∀ n : Nat, n < 10 ^ (k + 1) → (Lib.decDigits n).length ≤ k + 1 := by
 induction k with
 | zero => intro n hn; rw [Lib.decDigits_one (by simpa using hn)]; simp
 | succ k ih =>
  intro n hn
  by_cases c : n < 10
  ·rw [Lib.decDigits_one c]; simp
  ·have := ih (n / 10) (by rw [Nat.pow_succ] at hn; omega)
   rw [Lib.decDigits, dif_neg c, List.length_append]
   simp only [List.length_cons, List.length_nil]
   omega
theorem read_dec {n : Nat} (h : n < 1000000) : readV (Lib.decDigits n) = n := by
 obtain ⟨h1, h2, h3, h4, h5⟩ := dec_facts n
 have hl := dec_len 5 n (by simpa using h)
 have hp : 0 < (Lib.decDigits n).length := List.length_pos_iff.2 h3
 unfold readV
 rw [if_pos ⟨⟨by omega, hl⟩, h1, fun q => h4 (h5 q)⟩, h2]
theorem read_back {l : List UInt8} (h : 0 ≤ readV l) : l = Lib.decDigits (readV l).toNat ∧ readV l < 1000000 := by
 unfold readV at h ⊢
 split at h
 case isFalse => omega
 case isTrue q =>
  have hne : l ≠ [] := fun e => by subst e; simp at q
  have := (val_back l hne q.2.1 q.2.2).1
  rw [if_pos q, Int.toNat_natCast, this]
  refine ⟨rfl, ?_⟩
  have bound : ∀ (t : List UInt8) (n i : Nat), n < 10 ^ i → t.all dig = true → valF n t < 10 ^ (i + t.length) := by
   intro t
   induction t with
   | nil => intro n i hn _; simpa [valF] using hn
   | cons c t ih =>
    intro n i hn ha
    simp only [List.all_cons, Bool.and_eq_true] at ha
    have hc := ha.1
    unfold dig at hc
    simp only [decide_eq_true_eq] at hc
    have := ih (10 * n + (c.toNat - 48)) (i + 1) (by rw [Nat.pow_succ]; omega) ha.2
    rw [List.length_cons, show i + (t.length + 1) = i + 1 + t.length from by omega]
    exact this
  have b := bound l 0 0 (by decide) q.2.1
  have : (10 : Nat) ^ (0 + l.length) ≤ 10 ^ 6 := Nat.pow_le_pow_right (by omega) (by omega)
  have e : (10 : Nat) ^ 6 = 1000000 := rfl
  omega

/-! ### Texts cut at a byte -/
theorem idx_none (c : UInt8) : ∀ l : List UInt8, c ∉ l → Lib.indexByte l c = -1
 | [], _ => rfl
 | b :: l, h => by
  simp only [List.mem_cons, not_or] at h
  have hb : (b == c) = false := by simpa using fun e : b = c => h.1 e.symm
  rw [Lib.indexByte, hb, idx_none c l h.2]; rfl
theorem idx_at (c : UInt8) (t : List UInt8) : ∀ p : List UInt8, c ∉ p → Lib.indexByte (p ++ c :: t) c = p.length
 | [], _ => by simp [Lib.indexByte]
 | b :: p, h => by
  simp only [List.mem_cons, not_or] at h
  have hb : (b == c) = false := by simpa using fun e : b = c => h.1 e.symm
  have hn : (((p.length : Int)) == -1) = false := by
   rw [beq_eq_false_iff_ne]; omega
  rw [List.cons_append, Lib.indexByte, hb, idx_at c t p h.2, hn]
  simp
theorem cut_none (s : ByteArray) (c : UInt8) (h : c ∉ s.data.toList) : strings_Cut.f s ⟨#[c]⟩ = some (s, ⟨#[]⟩, false) := by
 unfold strings_Cut.f stringslite_Cut.f stringslite_Index.f
 rw [if_pos (show (⟨#[c]⟩ : ByteArray).size = 1 from rfl), show (⟨#[c]⟩ : ByteArray).data.toList.getD 0 0 = c from rfl, idx_none c _ h]
 rfl
theorem cut_at (s : ByteArray) (c : UInt8) (p t : List UInt8) (hs : s.size ≤ 4611686018427387904) (h : s.data.toList = p ++ c :: t) (hp : c ∉ p) : strings_Cut.f s ⟨#[c]⟩ = some (mkB p, mkB t, true) := by
 have hn := size_data s
 have hl : s.data.toList.length = p.length + (t.length + 1) := by rw [h]; simp
 unfold strings_Cut.f stringslite_Cut.f stringslite_Index.f
 have one : (⟨#[c]⟩ : ByteArray).size = 1 := rfl
 rw [if_pos one, show (⟨#[c]⟩ : ByteArray).data.toList.getD 0 0 = c from rfl, h, idx_at c t p hp, one]
 simp only [Option.bind_some]
 have e1 : ((p.length : Int)) + ((1 : Nat) : Int) = ((p.length + 1 : Nat) : Int) := by omega
 rw [if_pos (by omega), if_pos (by omega), if_pos (by omega), e1, wrap_in (by omega) (by omega), if_pos (by omega), if_pos (by omega), Int.toNat_natCast, Int.toNat_natCast, cut_mkB, cut_mkB, h]
 have e2 : ((p ++ c :: t).drop 0).take (p.length - 0) = p := by simp
 have e3 : ((p ++ c :: t).drop (p.length + 1)).take (s.size - (p.length + 1)) = t := by
  rw [← List.drop_drop, List.drop_left, List.drop_succ_cons, List.drop_zero]
  exact List.take_of_length_le (by omega)
 rw [e2, e3]
 rfl
/-- Where a byte is first. -/
theorem first_at (c : UInt8) : ∀ l : List UInt8, c ∈ l → ∃ p t, l = p ++ c :: t ∧ c ∉ p
 | [], h => by cases h
 | b :: l, h => by
  by_cases hb : b = c
  ·exact ⟨[], l, by rw [hb]; rfl, by simp⟩
  ·obtain ⟨p, t, h1, h2⟩ := first_at c l (by
    rcases List.mem_cons.1 h with h | h
    ·exact absurd h.symm hb
    ·exact h)
   exact ⟨b :: p, t, by rw [h1]; rfl, by simp only [List.mem_cons, not_or]; exact ⟨fun e => hb e.symm, h2⟩⟩

theorem cut_any (s : ByteArray) (c : UInt8) (hs : s.size ≤ 4611686018427387904) : ∃ x y b, strings_Cut.f s ⟨#[c]⟩ = some (x, y, b) ∧ x.size ≤ s.size ∧ y.size ≤ s.size := by
 by_cases hm : c ∈ s.data.toList
 ·obtain ⟨p, t, h1, h2⟩ := first_at c _ hm
  have hn := size_data s
  have hl : s.data.toList.length = p.length + (t.length + 1) := by rw [h1]; simp
  exact ⟨_, _, _, cut_at s c p t hs h1 h2, by rw [mkB_size]; omega, by rw [mkB_size]; omega⟩
 ·exact ⟨_, _, _, cut_none s c hm, Nat.le_refl _, by show 0 ≤ _; omega⟩
/-- Two readers that read just what is written agree. -/
theorem parse_agree {α ρ : Type} {E : α → ρ} {V : α → Prop} {z : ρ} {S I : Option ρ}
 (S1 : ∀ v, V v → S = some (E v)) (S2 : S = some z ∨ ∃ v, V v ∧ S = some (E v)) (I1 : ∀ v, V v → I = some (E v)) (I2 : I = some z ∨ ∃ v, V v ∧ I = some (E v)) : ∃ R, S = some R ∧ I = some R := by
 rcases S2 with h | ⟨v, hv, h⟩
 ·rcases I2 with h2 | ⟨v, hv, h2⟩
  ·exact ⟨z, h, h2⟩
  ·exact ⟨_, S1 v hv, h2⟩
 ·exact ⟨_, h, I1 v hv⟩

/-! ### Verbs read -/

theorem read_lt (l : List UInt8) : readV l < 1000000 := by
 by_cases h : 0 ≤ readV l
 ·exact (read_back h).2
 ·omega
theorem read_ge (l : List UInt8) : -1 ≤ readV l := by
 unfold readV
 split <;> omega
theorem tail_cut (s : ByteArray) : s.extract 1 s.size = mkB s.data.toList.tail := by
 rw [cut_mkB]
 congr 1
 have hn := size_data s
 cases h : s.data.toList with
 | nil => simp
 | cons c t =>
  rw [h] at hn
  simp only [List.length_cons] at hn
  rw [List.drop_succ_cons, List.drop_zero, List.tail_cons]
  exact List.take_of_length_le (by omega)
theorem head_bt (s : ByteArray) (h : 0 < s.size) : bt s 0 = 45 ↔ s.data.toList.head? = some 45 := by
 have hb : bt s 0 = ((s.data.toList.getD 0 0).toNat : Int) := bt_data s 0 h
 have hn := size_data s
 rw [hb]
 clear hb
 generalize s.data.toList = l at hn ⊢
 cases l with
 | nil => rw [List.length_nil] at hn; omega
 | cons c t =>
  rw [List.head?_cons, List.getD_cons_zero]
  constructor
  ·intro k
   have k2 : c.toNat = 45 := Int.ofNat_inj.1 (show ((c.toNat : Nat) : Int) = ((45 : Nat) : Int) from k)
   have : c = 45 := UInt8.toNat_inj.1 (k2.trans rfl)
   rw [this]
  ·intro k
   simp only [Option.some.injEq] at k
   rw [k]; rfl

def veV (l : List UInt8) : Int := if (1 < l.length ∧ l.head? = some 45) ∧ 0 ≤ readV l.tail then -(readV l.tail) else if 0 ≤ readV l then readV l else 999
theorem veRead_some (s : ByteArray) (hs : s.size ≤ 1048576) : spec_veRead.F s = some (veV s.data.toList) := by
 have hn := size_data s
 have h1 := read_lt s.data.toList.tail
 have h2 := read_ge s.data.toList.tail
 have htz : (mkB s.data.toList.tail).size ≤ 1048576 := by rw [mkB_size, List.length_tail]; omega
 have rest : spec_veRead.J0 s false = some (if 0 ≤ readV s.data.toList then readV s.data.toList else 999) := by
  rw [spec_veRead.J0_eq, if_neg (by simp), read_some s hs, Option.bind_some]
  by_cases c : 0 ≤ readV s.data.toList
  ·rw [if_pos c, if_pos c]
  ·rw [if_neg c, if_neg c]
 rw [spec_veRead.F_eq]
 unfold veV
 by_cases c1 : (s.size : Int) > 1
 case neg => rw [if_neg c1, rest]; exact congrArg some (if_neg (fun h => by omega)).symm
 rw [if_pos c1, if_pos (by omega)]
 by_cases c2 : s.data.toList.head? = some 45
 case neg => rw [if_neg (fun h => c2 ((head_bt s (by omega)).1 h)), rest]; exact congrArg some (if_neg (fun h => c2 h.1.2)).symm
 rw [if_pos ((head_bt s (by omega)).2 c2), if_pos (by omega), tail_cut, read_some _ htz, data_mkB, Option.bind_some]
 by_cases c3 : 0 ≤ readV s.data.toList.tail
 ·rw [decide_eq_true c3, spec_veRead.J0_eq, if_pos rfl, if_pos (by omega), tail_cut, read_some _ htz, data_mkB, Option.bind_some, if_pos ⟨⟨by omega, c2⟩, c3⟩, wrap_in (by omega) (by omega)]
 ·rw [decide_eq_false c3, rest]; exact congrArg some (if_neg (fun h => c3 h.2)).symm
theorem veV_facts : ∀ k : Fin 181, veV (Lib.itoa ((k.val : Int) - 90)) = (k.val : Int) - 90 := by decide +kernel
theorem veRead_it {n : Int} (h : -90 ≤ n ∧ n ≤ 90) : spec_veRead.F (it n) = some n := by
 have hz := it_size h
 rw [veRead_some _ (by omega), it_data]
 have := veV_facts ⟨(n + 90).toNat, by omega⟩
 have e : (((n + 90).toNat : Nat) : Int) - 90 = n := by omega
 simp only [e] at this
 rw [this]
theorem word_not {g : ByteArray} (h : isWord 65 90 g = true) (c : UInt8) (hc : ¬ (65 ≤ c.toNat ∧ c.toNat ≤ 90)) : c ∉ g.data.toList := by
 intro hm
 simp only [isWord, inRange, Bool.and_eq_true] at h
 have := List.all_eq_true.1 h.2 c hm
 simp only [decide_eq_true_eq] at this
 exact hc this
theorem veTx_data (g : ByteArray) (a b : Int) : (veTx g a b).data.toList = g.data.toList ++ 58 :: (Lib.itoa a ++ 62 :: Lib.itoa b) := by
 unfold veTx
 simp [it_data]
theorem it_mkB (n : Int) : mkB (Lib.itoa n) = it n := rfl
def VeV (s : ByteArray) (v : ByteArray × Int × Int) : Prop := isVerb v.1 v.2.1 v.2.2 = true ∧ (veTx v.1 v.2.1 v.2.2).toList = s.toList
def veE (v : ByteArray × Int × Int) : ByteArray × Int × Int × Bool := (v.1, v.2.1, v.2.2, true)
theorem veParse_same (s : ByteArray) (hs : s.size ≤ 1048576) : ∃ R, spec_ParseVerb.F s = some R ∧ impl_ParseVerb.F s = some R := by
 have hn := size_data s
 have S0 : (58 : Int) = (((58 : UInt8).toNat : Nat) : Int) := rfl
 have S9 : (62 : Int) = (((62 : UInt8).toNat : Nat) : Int) := rfl
 refine parse_agree (E := veE) (V := VeV s) (z := (⟨#[]⟩, 0, 0, false)) ?_ ?_ ?_ ?_
 ·rintro ⟨g, a, b⟩ ⟨h1, h2⟩
  simp only at h1 h2
  obtain ⟨⟨w1, w2⟩, ha, hb⟩ := isVerb_facts h1
  have hd : s.data.toList = g.data.toList ++ 58 :: (Lib.itoa a ++ 62 :: Lib.itoa b) := by rw [← veTx_data, ← toList_data, ← toList_data, h2]
  have hlen := congrArg List.length hd
  simp only [List.length_append, List.length_cons] at hlen
  have q1 : (58 : UInt8) ∉ Lib.itoa a ++ 62 :: Lib.itoa b := by
   simp only [List.mem_append, List.mem_cons, not_or]
   exact ⟨itoa_not ha 58 (by decide), by decide, itoa_not hb 58 (by decide)⟩
  have hz : (mkB (Lib.itoa a ++ 62 :: Lib.itoa b)).size ≤ 1048576 := by rw [mkB_size]; simp only [List.length_append, List.length_cons]; omega
  rw [spec_ParseVerb.F_eq, S0, S9, split_some s 58 hs, hd, split_app 58 g.data.toList [] _ (word_not w1 58 (by decide)), split_none 58 _ [] q1, Option.bind_some]
  simp only [List.nil_append, List.map_cons, List.map_nil]
  rw [if_pos (by simp), if_pos (by simp), show rdOf ByteArray.empty [mkB g.data.toList, mkB (Lib.itoa a ++ 62 :: Lib.itoa b)] 1 = mkB (Lib.itoa a ++ 62 :: Lib.itoa b) from rfl, split_some _ 62 hz, data_mkB, split_app 62 (Lib.itoa a) [] _ (itoa_not ha 62 (by decide)), split_none 62 _ [] (itoa_not hb 62 (by decide)), Option.bind_some]
  simp only [List.nil_append, List.map_cons, List.map_nil]
  rw [if_pos (by simp), if_pos (by simp), if_pos (by simp), show rdOf ByteArray.empty [mkB (Lib.itoa a), mkB (Lib.itoa b)] 0 = it a from rfl, show rdOf ByteArray.empty [mkB (Lib.itoa a), mkB (Lib.itoa b)] 1 = it b from rfl, veRead_it ha, Option.bind_some, if_pos (by simp), veRead_it hb, Option.bind_some, show rdOf ByteArray.empty [mkB g.data.toList, mkB (Lib.itoa a ++ 62 :: Lib.itoa b)] 0 = mkB g.data.toList from rfl, mkB_data, veOne_some g a b (by omega), h1, Option.bind_some, if_pos rfl, (ve_texts h1).1, Option.bind_some, if_pos h2]
  rfl
 ·rw [spec_ParseVerb.F_eq, S0, S9, split_some s 58 hs, Option.bind_some]
  cases hw : splitFrom 58 [] s.data.toList with
  | nil => rw [if_neg (by simp)]; exact .inl rfl
  | cons p ps =>
   cases ps with
   | nil => rw [if_neg (by simp)]; exact .inl rfl
   | cons q qs =>
    cases qs with
    | cons _ _ => rw [if_neg (by simp; omega)]; exact .inl rfl
    | nil =>
     obtain ⟨r, t, e1, e2, e3, e4⟩ := split_more 58 _ [] p [q] hw (by simp)
     obtain ⟨e5, e6⟩ := split_one 58 t [] q e4
     simp only [List.nil_append] at e1 e5
     subst e1 e5
     have hlen := congrArg List.length e3
     simp only [List.length_append, List.length_cons] at hlen
     have hz : (mkB q).size ≤ 1048576 := by rw [mkB_size]; omega
     simp only [List.map_cons, List.map_nil]
     rw [if_pos (by simp), if_pos (by simp), show rdOf ByteArray.empty [mkB p, mkB q] 1 = mkB q from rfl, show rdOf ByteArray.empty [mkB p, mkB q] 0 = mkB p from rfl, split_some _ 62 hz, data_mkB, Option.bind_some]
     cases hw2 : splitFrom 62 [] q with
     | nil => rw [if_neg (by simp)]; exact .inl rfl
     | cons u us =>
      cases us with
      | nil => rw [if_neg (by simp)]; exact .inl rfl
      | cons v vs =>
       cases vs with
       | cons _ _ => rw [if_neg (by simp; omega)]; exact .inl rfl
       | nil =>
        obtain ⟨r2, t2, f1, f2, f3, f4⟩ := split_more 62 _ [] u [v] hw2 (by simp)
        obtain ⟨f5, f6⟩ := split_one 62 t2 [] v f4
        simp only [List.nil_append] at f1 f5
        subst f1 f5
        have hlen2 := congrArg List.length f3
        simp only [List.length_append, List.length_cons] at hlen2
        simp only [List.map_cons, List.map_nil]
        rw [if_pos (by simp), if_pos (by simp), if_pos (by simp), show rdOf ByteArray.empty [mkB u, mkB v] 0 = mkB u from rfl, show rdOf ByteArray.empty [mkB u, mkB v] 1 = mkB v from rfl, veRead_some _ (by rw [mkB_size]; omega), Option.bind_some, if_pos (by simp), veRead_some _ (by rw [mkB_size]; omega), Option.bind_some, veOne_some _ _ _ (by rw [mkB_size]; omega), Option.bind_some]
        cases hv : isVerb (mkB p) (veV (mkB u).data.toList) (veV (mkB v).data.toList)
        ·rw [if_neg (by simp)]; exact .inl rfl
        ·rw [if_pos rfl, (ve_texts hv).1, Option.bind_some]
         by_cases hx : (veTx (mkB p) (veV (mkB u).data.toList) (veV (mkB v).data.toList)).toList = s.toList
         ·rw [if_pos hx]; exact .inr ⟨(_, _, _), ⟨hv, hx⟩, rfl⟩
         ·rw [if_neg hx]; exact .inl rfl
 ·rintro ⟨g, a, b⟩ ⟨h1, h2⟩
  simp only at h1 h2
  obtain ⟨⟨w1, w2⟩, ha, hb⟩ := isVerb_facts h1
  have hd : s.data.toList = g.data.toList ++ 58 :: (Lib.itoa a ++ 62 :: Lib.itoa b) := by rw [← veTx_data, ← toList_data, ← toList_data, h2]
  have hlen := congrArg List.length hd
  simp only [List.length_append, List.length_cons] at hlen
  have hz : (mkB (Lib.itoa a ++ 62 :: Lib.itoa b)).size ≤ 1048576 := by rw [mkB_size]; simp only [List.length_append, List.length_cons]; omega
  rw [impl_ParseVerb.F_eq, cut_at s 58 g.data.toList (Lib.itoa a ++ 62 :: Lib.itoa b) (by omega) hd (word_not w1 58 (by decide)), Option.bind_some]
  simp only
  rw [cut_at (mkB (Lib.itoa a ++ 62 :: Lib.itoa b)) 62 (Lib.itoa a) (Lib.itoa b) (by omega) (data_mkB _) (itoa_not ha 62 (by decide)), Option.bind_some]
  simp only
  rw [it_mkB, it_mkB, decimal_it ha, decimal_it hb, Option.bind_some, Option.bind_some]
  simp only
  rw [mkB_data, isVerb_some g a b (by omega), h1, Option.bind_some, if_pos rfl, (ve_texts h1).2, Option.bind_some, if_pos h2]
  rfl
 ·obtain ⟨x, y, c, k1, k2, k3⟩ := cut_any s 58 (by omega)
  obtain ⟨x2, y2, c2, m1, m2, m3⟩ := cut_any y 62 (by omega)
  obtain ⟨v1, b1, d1⟩ := dec_some x2 (by omega)
  obtain ⟨v2, b2, d2⟩ := dec_some y2 (by omega)
  rw [impl_ParseVerb.F_eq, k1, Option.bind_some]
  simp only [m1, d1, d2, Option.bind_some]
  rw [isVerb_some x v1 v2 (by omega), Option.bind_some]
  cases hv : isVerb x v1 v2
  ·rw [if_neg (by simp)]; exact .inl rfl
  ·rw [if_pos rfl, (ve_texts hv).2, Option.bind_some]
   by_cases hx : (veTx x v1 v2).toList = s.toList
   ·rw [if_pos hx]; exact .inr ⟨(_, _, _), ⟨hv, hx⟩, rfl⟩
   ·rw [if_neg hx]; exact .inl rfl


theorem nums_one (x : Int) : (strOfNums [x]).size = 1 := rfl
theorem spoilt_rounds (l : List Int) (hl : Bytes l) (w : ByteArray) (hw : 1 ≤ w.size ∧ w.size ≤ 1000) : ∀ (n : Nat) (s : ByteArray) (k a t : Int), k = n → s.size + n ≤ 1000 → (0 ≤ a ∧ a + 6 * n ≤ 1000000) → ∃ r b t', spec_l1Cur_spoilt.L0 s w k l a t = some (r, b, t') ∧ r.size ≤ s.size + n ∧ 0 ≤ b ∧ b ≤ a + 6 * n := by
 intro n
 induction n with
 | zero =>
  intro s k a t hk hs ha
  rw [spec_l1Cur_spoilt.L0_eq, if_neg (by omega), spec_l1Cur_spoilt.J1_eq, if_neg (by simp)]
  exact ⟨s, a, t, rfl, by omega, by omega, by omega⟩
 | succ n ih =>
  intro s k a t hk hs ha
  rw [spec_l1Cur_spoilt.L0_eq, if_pos (by omega)]
  by_cases h0 : (s.size : Int) > 0
  case neg =>
   rw [decide_eq_false h0, spec_l1Cur_spoilt.J1_eq, if_neg (by simp)]
   exact ⟨s, a, t, rfl, by omega, by omega, by omega⟩
  rw [decide_eq_true h0, spec_l1Cur_spoilt.J1_eq, if_pos rfl]
  obtain ⟨i, b1, t1, e1, p1, p2, p3, p4⟩ := pick_tells l hl a t s.size (by omega) (by omega)
  have p5 := p2 (by omega)
  rw [e1, Option.bind_some]
  simp only
  obtain ⟨j, b2, t2, e2, q1, q2, q3, q4⟩ := pick_tells l hl b1 t1 w.size (by omega) (by omega)
  have q5 := q2 (by omega)
  simp only [e2, Option.bind_some]
  rw [if_pos q1, if_pos q5]
  obtain ⟨c, b3, t3, e3, u1, u2, u3, u4⟩ := pick_tells l hl b2 t2 3 (by omega) (by omega)
  simp only [e3, Option.bind_some]
  have hy := nums_one (bt w j)
  generalize strOfNums [bt w j] = y at hy
  rw [wrap_in (x := i + 1) (by omega) (by omega), wrap_in (x := k - 1) (by omega) (by omega)]
  have step : ∀ s' : ByteArray, s'.size ≤ s.size + 1 → ∃ r b t', spec_l1Cur_spoilt.L0 s' w (k - 1) l b3 t3 = some (r, b, t') ∧ r.size ≤ s.size + (n + 1) ∧ 0 ≤ b ∧ b ≤ a + 6 * ((n + 1 : Nat) : Int) := fun s' hs' => by
   obtain ⟨r, b, t', e, z1, z2, z3⟩ := ih s' (k - 1) b3 t3 (by omega) (by omega) (by omega)
   exact ⟨r, b, t', e, by omega, z2, by omega⟩
  by_cases c0 : c = 0
  ·rw [if_pos c0, if_pos p1, if_pos (by omega), if_pos (by simp only [ByteArray.size_extract]; omega), if_pos (by simp only [ByteArray.size_append, ByteArray.size_extract]; omega)]
   exact step _ (by simp only [ByteArray.size_append, ByteArray.size_extract]; omega)
  rw [if_neg c0]
  by_cases c1 : c = 1
  ·rw [if_pos c1, if_pos p1, if_pos (by omega), if_pos (by simp only [ByteArray.size_extract]; omega), if_pos (by omega), if_pos (by omega), if_pos (by simp only [ByteArray.size_append, ByteArray.size_extract]; omega)]
   exact step _ (by simp only [ByteArray.size_append, ByteArray.size_extract]; omega)
  rw [if_neg c1, if_pos p1, if_pos (by omega), if_pos (by omega), if_pos (by omega), if_pos (by simp only [ByteArray.size_extract]; omega)]
  exact step _ (by simp only [ByteArray.size_append, ByteArray.size_extract]; omega)
theorem spoilt_tells (l : List Int) (hl : Bytes l) (a t : Int) (s w : ByteArray) (hw : 1 ≤ w.size ∧ w.size ≤ 1000) (hs : s.size ≤ 900) (ha : 0 ≤ a ∧ a ≤ 900000) : ∃ r b t', spec_l1Cur_spoilt.F l a t s w = some (r, b, t') ∧ r.size ≤ s.size + 2 ∧ 0 ≤ b ∧ b ≤ a + 20 := by
 obtain ⟨n, b1, t1, e1, p1, p2, p3, p4⟩ := pick_tells l hl a t 2 (by omega) (by omega)
 have p5 := p2 (by omega)
 obtain ⟨m, rfl⟩ := Int.eq_ofNat_of_zero_le p1
 rw [spec_l1Cur_spoilt.F_eq, e1, Option.bind_some]
 simp only
 rw [wrap_in (by omega) (by omega)]
 obtain ⟨r, b, t', e, z1, z2, z3⟩ := spoilt_rounds l hl w hw (m + 1) s (1 + (m : Int)) b1 t1 (by omega) (by omega) (by omega)
 rw [e]
 exact ⟨r, b, t', rfl, by omega, z2, by omega⟩


theorem good_each {l : List Loc} : ∀ (t : List Loc) (i : Nat), goodFrom l i t = true → ∀ k, (hk : k < t.length) → okAt l (i + k) t[k] = true
 | [], _, _, k, hk => absurd hk (by simp)
 | x :: t, i, h, k, hk => by
  simp only [goodFrom, Bool.and_eq_true] at h
  cases k with
  | zero => exact h.1
  | succ k =>
   have := good_each t (i + 1) h.2 k (by simpa using hk)
   simpa [Nat.add_assoc, Nat.add_comm 1 k] using this


theorem good_strict {l : List Loc} (hg : good l = true) : l.Pairwise (fun a b => a.f1 < b.f1) := by
 have adj : ∀ i, (h : i + 1 < l.length) → l[i].f1 < l[i + 1].f1 := by
  intro i h
  have ok := good_each l 0 hg (i + 1) h
  simp only [okAt, Bool.and_eq_true, Nat.zero_add] at ok
  have := of_decide_eq_true ok.2.2.1
  rcases this with h0 | h1
  ·omega
  ·rwa [Nat.add_sub_cancel, List.getD_eq_getElem?_getD, List.getElem?_eq_getElem (by omega), Option.getD_some] at h1
 have far : ∀ k i, (h : i + k + 1 < l.length) → l[i].f1 < l[i + k + 1].f1 := by
  intro k
  induction k with
  | zero => intro i h; exact adj i h
  | succ k ih =>
   intro i h
   have h1 := ih i (by omega)
   have h2 := adj (i + k + 1) (by omega)
   have e : i + (k + 1) + 1 = i + k + 1 + 1 := by omega
   simp only [e]
   omega
 rw [List.pairwise_iff_getElem]
 intro i j hi hj hij
 have := far (j - i - 1) i (by omega)
 have e : i + (j - i - 1) + 1 = j := by omega
 simpa only [e] using this
theorem dst_nn (a b : Int) : 0 ≤ dst a b := by unfold dst; split <;> omega
theorem near_nn (a : Int) : ∀ (t : List Loc) (s : Int × List ByteArray), 0 ≤ s.1 → 0 ≤ (t.foldl (nearStep a) s).1
 | [], _, h => h
 | x :: t, s, h => by
  rw [List.foldl_cons]
  refine near_nn a t _ ?_
  unfold nearStep
  split
  ·exact dst_nn _ _
  ·split <;> exact h
theorem strict_one {l : List Loc} (h : l.Pairwise (fun a b => a.f1 < b.f1)) {y : Loc} (hy : y ∈ l) : (l.filter fun x => decide (x.f1 = y.f1)) = [y] := by
 induction l with
 | nil => cases hy
 | cons x t ih =>
  rw [List.pairwise_cons] at h
  rcases List.mem_cons.1 hy with rfl | hy
  ·rw [List.filter_cons, if_pos (by simp)]
   congr 1
   rw [List.filter_eq_nil_iff]
   intro z hz
   have := h.1 z hz
   simp; omega
  ·have := h.1 y hy
   rw [List.filter_cons, if_neg (by simp; omega)]
   exact ih h.2 hy
/-- Who is put at an angle is meant by it. -/
theorem mt_of_mem {l : List Loc} (hg : good l = true) {y : Loc} (hy : y ∈ l) : mt l y.f1 = y.f0 := by
 obtain ⟨n1, n2⟩ := near_spec l y.f1
 have h0 : dst y.f1 y.f1 = 0 := by unfold dst; split <;> omega
 have h1 := n2 y hy
 have h2 := near_nn y.f1 l (181, []) (by decide)
 have h3 : (near l y.f1).1 = 0 := by
  have : 0 ≤ (near l y.f1).1 := h2
  omega
 have hd : ∀ x : Loc, decide (dst x.f1 y.f1 = 0) = decide (x.f1 = y.f1) := by
  intro x
  rw [decide_eq_decide]
  unfold dst
  split <;> omega
 rw [h3] at n1
 simp only [hd] at n1
 rw [strict_one (good_strict hg) hy] at n1
 unfold mt
 rw [h3, n1, if_neg (by omega), if_pos (by simp)]
 rfl




/-! ### Referents -/
def isRef (l : List Loc) (s : ByteArray) : Bool := decide (0 ≤ idxFrom s l 0)
theorem rd_text (l : List ByteArray) (i : Nat) : rdOf ByteArray.empty l (i : Int) = l.getD i ByteArray.empty := by simp [rdOf]
theorem areRefs_some (l : List Loc) (w : List ByteArray) (hl : Sized l) (hw : w.length ≤ 9223372036854775807) : impl_areReferents.F l w = some (good l && w.all (isRef l)) := by
 have hl1 := hl.1
 rw [impl_areReferents.F_eq, areLoci_some l hl, Option.bind_some]
 cases good l
 ·rfl
 rw [if_pos rfl, Bool.true_and, impl_allOf_string_impl_areReferents_1.F_eq, slices_ContainsFunc_string_impl_allOf_string_1_impl_areReferents_1.F_eq, slices_IndexFunc_string_impl_allOf_string_1_impl_areReferents_1.F_eq]
 have := each (L := fun i => slices_IndexFunc_string_impl_allOf_string_1_impl_areReferents_1.L0 w w.length i l) w ByteArray.empty (fun _ t o => ∃ r, o = some r ∧ decide (r ≥ 0) = !(t.all (isRef l))) ?_ ?_
 ·obtain ⟨r, h1, h2⟩ := this
  rw [h1]; simp [h2]
 ·refine ⟨-1, ?_, by simp⟩
  show slices_IndexFunc_string_impl_allOf_string_1_impl_areReferents_1.L0 w _ _ l = _
  rw [slices_IndexFunc_string_impl_allOf_string_1_impl_areReferents_1.L0_eq, if_neg (by omega)]
 ·intro i x t hi hx _ _ ih
  show ∃ r, slices_IndexFunc_string_impl_allOf_string_1_impl_areReferents_1.L0 w _ _ l = _ ∧ _
  rw [slices_IndexFunc_string_impl_allOf_string_1_impl_areReferents_1.L0_eq, if_pos (by omega), if_pos (by omega), if_pos (by omega), rd_text, hx, wrap_in (x := (i : Int) + 1) (by omega) (by omega), impl_allOf_string_1_impl_areReferents_1.F_eq, impl_areReferents_1.F_eq, locusOf_some l x hl1]
  simp only [Option.bind_some, List.all_cons]
  by_cases h : 0 ≤ idxFrom x l 0
  ·have h2 : isRef l x = true := by simp [isRef, h]
   rw [if_neg (by simp [h]), h2, Bool.true_and]; exact ih
  ·have h2 : isRef l x = false := by simp [isRef, h]
   rw [if_pos (by simp; omega), h2]; exact ⟨i, rfl, by simp⟩
theorem ref_long {l : List Loc} {s : ByteArray} (hx : ∀ x ∈ l, (-90 ≤ x.f1 ∧ x.f1 ≤ 90) ∧ 1 ≤ x.f0.size) (h : isRef l s = true) : 1 ≤ s.size := by
 rcases idxFrom_cases s l 0 with ⟨h1, _⟩ | ⟨j, h1, _, h3⟩
 ·simp [isRef, h1] at h
 ·rw [List.getD_eq_getElem?_getD, List.getElem?_eq_getElem h1, Option.getD_some] at h3
  rw [← h3]; exact (hx _ (List.getElem_mem h1)).2

theorem ref_at {l : List Loc} {s : ByteArray} (h : isRef l s = true) : ∃ j, j < l.length ∧ idxFrom s l 0 = (j : Int) ∧ (l.getD j z58).f0 = s ∧ l.getD j z58 ∈ l := by
 rcases idxFrom_cases s l 0 with ⟨h1, _⟩ | ⟨j, h1, h2, h3⟩
 ·simp [isRef, h1] at h
 ·refine ⟨j, h1, by rw [h2]; omega, h3, ?_⟩
  rw [List.getD_eq_getElem?_getD, List.getElem?_eq_getElem h1, Option.getD_some]
  exact List.getElem_mem h1
theorem veTx_size {g : ByteArray} {a b : Int} (h : isVerb g a b = true) : (veTx g a b).size ≤ 200 := by
 obtain ⟨⟨_, w2⟩, ha, hb⟩ := isVerb_facts h
 have sa := it_size ha
 have sb := it_size hb
 have n1 : ((⟨#[58]⟩ : ByteArray)).size = 1 := rfl
 have n2 : ((⟨#[62]⟩ : ByteArray)).size = 1 := rfl
 unfold veTx
 simp only [ByteArray.size_append, n1, n2]
 omega
theorem veParse_back {g : ByteArray} {a b : Int} (h1 : isVerb g a b = true) : impl_ParseVerb.F (veTx g a b) = some (g, a, b, true) := by
 have hs := veTx_size h1
 obtain ⟨⟨w1, w2⟩, ha, hb⟩ := isVerb_facts h1
 have hd := veTx_data g a b
 have hx : (veTx g a b).toList = (veTx g a b).toList := rfl
 generalize hq : veTx g a b = s at hs hd
 have hn := size_data s
 have hlen := congrArg List.length hd
 simp only [List.length_append, List.length_cons] at hlen
 have hz : (mkB (Lib.itoa a ++ 62 :: Lib.itoa b)).size ≤ 1048576 := by rw [mkB_size]; simp only [List.length_append, List.length_cons]; omega
 rw [impl_ParseVerb.F_eq, cut_at s 58 g.data.toList (Lib.itoa a ++ 62 :: Lib.itoa b) (by omega) hd (word_not w1 58 (by decide)), Option.bind_some]
 simp only
 rw [cut_at (mkB (Lib.itoa a ++ 62 :: Lib.itoa b)) 62 (Lib.itoa a) (Lib.itoa b) (by omega) (data_mkB _) (itoa_not ha 62 (by decide)), Option.bind_some]
 simp only
 rw [it_mkB, it_mkB, decimal_it ha, decimal_it hb, Option.bind_some, Option.bind_some]
 simp only
 rw [mkB_data, isVerb_some g a b (by omega), h1, Option.bind_some, if_pos rfl, (ve_texts h1).2, Option.bind_some, if_pos (by rw [hq])]
theorem isVerb_swap (g : ByteArray) (a b : Int) : isVerb g b a = isVerb g a b := by
 unfold isVerb
 have : (b != a) = (a != b) := by rw [Bool.eq_iff_iff, bne_iff_ne, bne_iff_ne]; exact ne_comm
 rw [this]
 cases isWord 65 90 g <;> cases decide (-90 ≤ a ∧ a ≤ 90) <;> cases decide (-90 ≤ b ∧ b ≤ 90) <;> rfl
theorem ref_text {L : List Loc} {u : ByteArray} (hg : good L = true) (h : isRef L u = true) : u.toList ≠ [] := by
 have hu1 := ref_long (good_facts hg).2 h
 intro h
 rw [toList_data] at h
 rw [size_data, h] at hu1
 simp at hu1
theorem verbFor_same (L : List Loc) (g u v : ByteArray) (hz : Sized L) (hgs : g.size ≤ 9) : ∃ g' a b c, spec_VerbFor.F L g u v = some (g', a, b, c) ∧ impl_VerbFor.F L g u v = some (g', a, b, c) ∧ (c = true → good L = true ∧ isRef L u = true ∧ isRef L v = true ∧ g'.size ≤ 9 ∧ isVerb g' a b = true ∧ mt L a = u ∧ mt L b = v ∧ u.toList ≠ v.toList) := by
 have hg1 : g.size ≤ 9223372036854775807 := by omega
 rw [spec_VerbFor.F_eq, impl_VerbFor.F_eq, loGood_some _ hz, fsWord_some _ hg1, isGloss_some _ hg1, areRefs_some _ _ hz (by simp), loFind_some _ _ hz.1, loFind_some _ _ hz.1]
 simp only [Option.bind_some, impl_VerbFor.J0_eq, locusOf_some _ _ hz.1]
 have no : ∀ {X Y : Option (ByteArray × Int × Int × Bool)}, X = some ((⟨#[]⟩ : ByteArray), 0, 0, false) → Y = some ((⟨#[]⟩ : ByteArray), 0, 0, false) → ∃ g' a b c, X = some (g', a, b, c) ∧ Y = some (g', a, b, c) ∧ (c = true → good L = true ∧ isRef L u = true ∧ isRef L v = true ∧ g'.size ≤ 9 ∧ isVerb g' a b = true ∧ mt L a = u ∧ mt L b = v ∧ u.toList ≠ v.toList) := fun h1 h2 => ⟨_, _, _, _, h1, h2, fun h => by cases h⟩
 cases hg : good L
 ·refine (hg ▸ no) ?_ ?_ <;> cases isWord 65 90 g <;> simp
 cases hw : isWord 65 90 g
 ·refine (hg ▸ no) ?_ ?_ <;> simp
 by_cases c1 : isRef L u = true
 case neg =>
  have : idxFrom u L 0 < 0 := by simpa [isRef] using c1
  refine (hg ▸ no) ?_ ?_ <;> simp [c1, this]
 by_cases c2 : isRef L v = true
 case neg =>
  have c1' : ¬ idxFrom u L 0 < 0 := by simpa [isRef] using c1
  have : idxFrom v L 0 < 0 := by simpa [isRef] using c2
  refine (hg ▸ no) ?_ ?_ <;> simp [c2, this, c1']
 obtain ⟨i, i1, i2, i3, i4⟩ := ref_at c1
 obtain ⟨j, j1, j2, j3, j4⟩ := ref_at c2
 rw [i2, j2]
 have hij : ((i : Int) = (j : Int)) ↔ u.toList = v.toList := by
  constructor
  ·intro h
   obtain rfl : i = j := by omega
   rw [← i3, ← j3]
  ·intro h
   have := ext_data h
   subst this
   omega
 by_cases c3 : u.toList = v.toList
 ·have := hij.2 c3
  refine (hg ▸ no) ?_ ?_ <;> simp [c1, c2, c3, this]
 have hne : ¬ (i : Int) = (j : Int) := fun h => c3 (hij.1 h)
 have i5 : ¬ ((i : Int) < 0) := by omega
 have j5 : ¬ ((j : Int) < 0) := by omega
 have i6 : (i : Int) < (L.length : Int) := by omega
 have j6 : (j : Int) < (L.length : Int) := by omega
 simp only [c1, c2, c3, hne, i5, j5, i6, j6, if_true, if_false, List.all_cons, List.all_nil, Bool.true_and, Bool.and_true, beq_iff_eq, Int.natCast_nonneg, if_pos, if_neg, not_false_eq_true, rd_loc]
 have m1 := mt_of_mem hg i4
 have m2 := mt_of_mem hg j4
 rw [i3] at m1
 rw [j3] at m2
 have b1 := ((good_facts hg).2 _ i4).1
 have b2 := ((good_facts hg).2 _ j4).1
 refine ⟨_, _, _, _, rfl, rfl, fun _ => ⟨by first | trivial | rfl, by first | trivial | exact c1, by first | trivial | exact c2, hgs, ?_, m1, m2, by first | exact c3 | simpa using c3⟩⟩
 unfold isVerb
 rw [hw, decide_eq_true b1, decide_eq_true b2, Bool.true_and, Bool.true_and, Bool.true_and, bne_iff_ne]
 intro e
 exact c3 (by rw [← m1, ← m2, e])
theorem agreesI (L : List Loc) (g : ByteArray) (a b : Int) (u v : ByteArray) (hz : Sized L) (hgs : g.size ≤ 9) (hg : good L = true) (hv : isVerb g a b = true) (h1 : isRef L u = true) (h2 : isRef L v = true) (hm : meaning L a b = (u, v)) : impl_AgreesWith.F L g a b u v = some (true, true) := by
 obtain ⟨g1, g2⟩ := good_facts hg
 have hb := isV_bounds hv
 rw [impl_AgreesWith.F_eq, areRefs_some _ _ hz (by simp), isVerb_some _ _ _ (by omega), hg, hv, meaning_some _ _ _ _ g1 g2 hb.1 hb.2, hm]
 simp [h1, h2]
theorem meaning_is {L : List Loc} {a b : Int} {u v : ByteArray} (h1 : mt L a = u) (h2 : mt L b = v) (h3 : u.toList ≠ []) (h4 : v.toList ≠ []) (h5 : u.toList ≠ v.toList) : meaning L a b = (u, v) := by
 unfold meaning
 rw [h1, h2, if_neg h3, if_neg h4, if_neg h5]
theorem meaning_swap {L : List Loc} {a b : Int} (h : (meaning L a b).1.toList ≠ []) : meaning L b a = ((meaning L a b).2, (meaning L a b).1) ∧ (meaning L a b).2.toList ≠ [] := by
 unfold meaning at h ⊢
 by_cases c1 : (mt L a).toList = []
 ·rw [if_pos c1] at h; exact absurd noText h
 rw [if_neg c1] at h ⊢
 by_cases c2 : (mt L b).toList = []
 ·rw [if_pos c2] at h; exact absurd noText h
 rw [if_neg c2] at h ⊢
 by_cases c3 : (mt L a).toList = (mt L b).toList
 ·rw [if_pos c3] at h; exact absurd noText h
 rw [if_neg c3, if_neg c2, if_neg c1, if_neg (Ne.symm c3)]
 exact ⟨rfl, c2⟩
theorem means_same (L : List Loc) (g : ByteArray) (a b : Int) (hL : Drawn L) (hgs : g.size ≤ 9) : ∃ x y c, spec_MeaningOf.F L g a b = some (x, y, c) ∧ impl_MeaningOf.F L g a b = some (x, y, c) ∧ (c = true → good L = true ∧ isVerb g a b = true ∧ x = (meaning L a b).1 ∧ y = (meaning L a b).2 ∧ x.toList ≠ []) := by
 have hz := hL.sized
 cases hg : good L
 ·rw [spec_MeaningOf.F_eq, impl_MeaningOf.F_eq, loGood_some _ hz, areLoci_some _ hz, hg]; exact ⟨_, _, _, rfl, rfl, fun h => by cases h⟩
 cases hv : isVerb g a b
 ·rw [spec_MeaningOf.F_eq, impl_MeaningOf.F_eq, loGood_some _ hz, areLoci_some _ hz, veOne_some _ _ _ (by omega), isVerb_some _ _ _ (by omega), hg, hv]; exact ⟨_, _, _, rfl, rfl, fun h => by cases h⟩
 exact ⟨_, _, _, meansS L g a b hz hgs hg hv, meansI L g a b hz hgs hg hv, fun h => ⟨by first | trivial | rfl, by first | trivial | rfl, rfl, rfl, by simpa using h⟩⟩
theorem vetext_same (g : ByteArray) (a b : Int) (hgs : g.size ≤ 9) : ∃ t, spec_VerbText.F g a b = some (t, isVerb g a b) ∧ impl_VerbText.F g a b = some (t, isVerb g a b) ∧ (isVerb g a b = true → t = veTx g a b) := by
 rw [spec_VerbText.F_eq, impl_VerbText.F_eq, veOne_some g a b (by omega), isVerb_some g a b (by omega), Option.bind_some, Option.bind_some]
 cases h : isVerb g a b
 ·exact ⟨_, rfl, rfl, fun h => by cases h⟩
 ·obtain ⟨h1, h2⟩ := ve_texts h
  rw [h1, h2]
  exact ⟨_, rfl, rfl, fun _ => rfl⟩
theorem reverse_same (g : ByteArray) (a b : Int) (hgs : g.size ≤ 9) : ∃ x y z, spec_ReverseVerb.F g a b = some (x, y, z, isVerb g a b) ∧ impl_ReverseVerb.F g a b = some (x, y, z, isVerb g a b) ∧ (isVerb g a b = true → x = g ∧ y = b ∧ z = a) := by
 rw [spec_ReverseVerb.F_eq, impl_ReverseVerb.F_eq, veOne_some g a b (by omega), isVerb_some g a b (by omega), Option.bind_some]
 cases h : isVerb g a b
 ·exact ⟨_, _, _, rfl, rfl, fun h => by cases h⟩
 ·exact ⟨_, _, _, rfl, rfl, fun _ => ⟨rfl, rfl, rfl⟩⟩
theorem drawFor_tells (l : List Int) (hl : Bytes l) : ∃ L g u v, spec_DrawVerbFor.F l = some (L, g, u, v) ∧ Drawn L ∧ g.size ≤ 9 := by
 obtain ⟨L, b, t, h1, hL, i1, j1⟩ := loci_tells l hl
 rw [spec_DrawVerbFor.F_eq]
 generalize hq : ([(⟨#[71, 73, 86, 69]⟩ : ByteArray), (⟨#[71, 73, 86, 69]⟩ : ByteArray), (⟨#[65, 83, 75]⟩ : ByteArray), (⟨#[]⟩ : ByteArray)] : List ByteArray) = q
 have hqq : ∀ x ∈ q, x.size ≤ 9 := by rw [← hq]; simp only [List.mem_cons, List.not_mem_nil, or_false]; rintro x (rfl | rfl | rfl | rfl) <;> decide
 obtain ⟨g, b3, t3, h3, m3, i3, j3⟩ := of_tells l hl b t q (by omega) (by rw [← hq]; simp)
 obtain ⟨u, b4, t4, h4, i4, j4⟩ := who_tells l hl L hL b3 t3 (by omega)
 obtain ⟨v, b5, t5, h5, _⟩ := who_tells l hl L hL b4 t4 (by omega)
 simp only [h1, h3, h4, h5, Option.bind_some]
 exact ⟨_, _, _, _, rfl, hL, hqq _ m3⟩
theorem drawMeaning_tells (l : List Int) (hl : Bytes l) : ∃ L g a b, spec_DrawMeaningOf.F l = some (L, g, a, b) ∧ Drawn L ∧ g.size ≤ 9 := by
 obtain ⟨L, b, t, h1, hL, i1, j1⟩ := loci_tells l hl
 obtain ⟨g, x, y, b2, t2, h2, z2, _⟩ := verb_tells l hl L hL b t (by omega)
 rw [spec_DrawMeaningOf.F_eq]
 simp only [h1, h2, Option.bind_some]
 exact ⟨_, _, _, _, rfl, hL, z2⟩
theorem drawText_tells (l : List Int) (hl : Bytes l) : ∃ g a b, spec_DrawVerbText.F l = some (g, a, b) ∧ g.size ≤ 9 := by
 obtain ⟨L, b, t, h1, hL, i1, j1⟩ := loci_tells l hl
 obtain ⟨g, x, y, b2, t2, h2, z2, _⟩ := verb_tells l hl L hL b t (by omega)
 rw [spec_DrawVerbText.F_eq, spec_DrawIsVerb.F_eq]
 simp only [h1, h2, Option.bind_some]
 exact ⟨_, _, _, rfl, z2⟩
theorem drawParse_tells (l : List Int) (hl : Bytes l) : ∃ s, spec_DrawParseVerb.F l = some s ∧ s.size ≤ 1048576 := by
 have hN : Drawn ([] : List Loc) := ⟨by simp, by simp⟩
 obtain ⟨g, x, y, b, t, h1, z1, i1, j1⟩ := verb_tells l hl [] hN 0 0 (by omega)
 have fin : ∀ s : ByteArray, s.size ≤ 200 → ∃ r, spec_DrawParseVerb.J0 s l b t = some r ∧ r.size ≤ 1048576 := by
  intro s hs
  obtain ⟨k, b2, t2, h2, p2, q2, i2, j2⟩ := pick_tells l hl b t 4 (by omega) (by omega)
  rw [spec_DrawParseVerb.J0_eq, h2, Option.bind_some]
  dsimp only
  by_cases c0 : k = 0
  ·obtain ⟨r, b3, t3, h3, z3, _⟩ := spoilt_tells l hl b2 t2 s (⟨#[58, 62, 45, 48, 49, 57, 71]⟩ : ByteArray) (by decide) (by omega) (by omega)
   rw [if_pos c0, h3, Option.bind_some]
   exact ⟨_, rfl, by dsimp only; omega⟩
  rw [if_neg c0]
  by_cases c1 : k = 1
  ·rw [if_pos c1]
   generalize hq : ([(⟨#[]⟩ : ByteArray), (⟨#[71, 73, 86, 69]⟩ : ByteArray), (⟨#[71, 73, 86, 69, 58, 49, 62, 49]⟩ : ByteArray), (⟨#[71, 73, 86, 69, 58, 45, 48, 62, 53]⟩ : ByteArray), (⟨#[71, 73, 86, 69, 58, 57, 49, 62, 48]⟩ : ByteArray), (⟨#[71, 73, 86, 69, 58, 48, 49, 62, 48]⟩ : ByteArray), (⟨#[103, 105, 118, 101, 58, 49, 62, 50]⟩ : ByteArray), (⟨#[71, 73, 86, 69, 58, 49, 62, 50, 62, 51]⟩ : ByteArray)] : List ByteArray) = q
   have hqq : ∀ x ∈ q, x.size ≤ 200 := by rw [← hq]; simp only [List.mem_cons, List.not_mem_nil, or_false]; rintro x (rfl | rfl | rfl | rfl | rfl | rfl | rfl | rfl) <;> decide
   obtain ⟨r, b3, t3, h3, m3, _⟩ := of_tells l hl b2 t2 q (by omega) (by rw [← hq]; simp)
   rw [h3, Option.bind_some]
   exact ⟨_, rfl, by have := hqq _ m3; dsimp only; omega⟩
  ·rw [if_neg c1]; exact ⟨_, rfl, by omega⟩
 rw [spec_DrawParseVerb.F_eq, h1, Option.bind_some]
 dsimp only
 rw [veOne_some g x y (by omega), Option.bind_some]
 cases h : isVerb g x y
 ·rw [if_neg (by simp)]; exact fin _ (by decide)
 ·rw [if_pos rfl, (ve_texts h).1, Option.bind_some]; exact fin _ (veTx_size h)
theorem FnVerbs : laws_FnVerbs.Pure := by
 intro l0_ l1 m0 m1
 obtain ⟨m0, w0⟩ := m0
 obtain ⟨m1, w1⟩ := m1
 refine lim_rounds (?_ : laws_FnVerbs.F l0_ l1 = some true)
 rw [laws_FnVerbs.F_eq]
 by_cases hbig : (wrap64 ((l0_.length : Int) + (l1.length : Int))) > 1048576
 ·rw [if_pos hbig]
 rw [if_neg hbig]
 have B0 := bytes_of (l := l0_) m0 w0
 have B1 := bytes_of (l := l1) m1 w1
 obtain ⟨L, g, who, whom, d1, hL, hgs⟩ := drawFor_tells l0_ B0
 obtain ⟨U, ug, ua, ub, d2, hU, hug⟩ := drawMeaning_tells l1 B1
 obtain ⟨wg, wa, wb, d3, hwg⟩ := drawText_tells l1 B1
 obtain ⟨s, d4, hs⟩ := drawParse_tells l1 B1
 obtain ⟨fg, fa, fb, ok, f1, f2, f3⟩ := verbFor_same L g who whom hL.sized hgs
 obtain ⟨doer, target, one, o1, o2, o3⟩ := means_same U ug ua ub hU hug
 obtain ⟨t, t1, t2, t3⟩ := vetext_same wg wa wb hwg
 obtain ⟨⟨pg, pa, pb, five⟩, p1, p2⟩ := veParse_same s hs
 obtain ⟨rg, ra, rb, r1, r2, r3⟩ := reverse_same wg wa wb hwg
 have hj2 : laws_FnVerbs.J2 t (isVerb wg wa wb) wg wa wb rg ra rb = some true := by
  rw [laws_FnVerbs.J2_eq]
  cases h : isVerb wg wa wb
  ·rw [if_neg (by simp)]
  obtain ⟨rfl, rfl, rfl⟩ := r3 h
  have h' : isVerb rg rb ra = true := h
  rw [t3 h, if_pos rfl, veParse_back h, Option.bind_some]
  obtain ⟨x, y, z, k1, k2, k3⟩ := reverse_same rg ra rb hwg
  rw [isVerb_swap, h'] at k2 k3
  obtain ⟨rfl, rfl, rfl⟩ := k3 rfl
  rw [k2, Option.bind_some]
  simp
 have hj1 : laws_FnVerbs.J1 U one doer target t (isVerb wg wa wb) ug ua ub wg wa wb rg ra rb = some true := by
  rw [laws_FnVerbs.J1_eq]
  cases h : one
  ·rw [if_neg (by simp)]; exact hj2
  obtain ⟨q1, q2, q3, q4, q5⟩ := o3 h
  obtain ⟨x, y, z, k1, k2, k3⟩ := reverse_same ug ua ub hug
  obtain ⟨e1, e2, e3⟩ := k3 q2
  subst e1 e2 e3
  rw [if_pos rfl, k2, Option.bind_some, q2]
  dsimp only
  rw [q3] at q5
  obtain ⟨s1, s2⟩ := meaning_swap q5
  rw [meansI U x y z hU.sized hug q1 (by rw [isVerb_swap]; exact q2), Option.bind_some, s1]
  dsimp only
  rw [if_pos rfl, if_pos (by simpa using s2), if_pos (by rw [q4]), if_pos (by rw [q3])]
  exact hj2
 have hj0 : laws_FnVerbs.J0 L who whom ok U one doer target t (isVerb wg wa wb) false fg fa fb ug ua ub wg wa wb rg ra rb = some true := by
  rw [laws_FnVerbs.J0_eq, if_neg (by simp)]
  cases h : ok
  ·rw [if_neg (by simp)]; exact hj1
  obtain ⟨q1, q2, q3, q4, q5, q6, q7, q8⟩ := f3 h
  have hm := meaning_is q6 q7 (ref_text q1 q2) (ref_text q1 q3) q8
  rw [if_pos rfl, meansI L fg fa fb hL.sized q4 q1 q5, Option.bind_some, agreesI L fg fa fb who whom hL.sized q4 q1 q5 q2 q3 hm, Option.bind_some, hm]
  dsimp only
  rw [if_pos (by simpa using ref_text q1 q2), if_pos rfl, if_pos rfl, if_pos rfl, if_pos rfl]
  exact hj1
 simp only [d1, d2, d3, d4, Option.bind_some, f1, f2, o1, o2, t1, t2, p1, p2, r1, r2, isVerb_some wg wa wb (by omega), bne_self_eq_false, Bool.false_eq_true, if_false, if_true, beq_self_eq_true, Bool.not_true, Bool.or_false]
 exact hj0

end Go.Proofs.YtfkdlfbjkdkffaaGreatDoor.Pure
