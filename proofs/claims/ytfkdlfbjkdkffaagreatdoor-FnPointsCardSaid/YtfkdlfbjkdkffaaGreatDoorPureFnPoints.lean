/- The pure statement of the law FnPoints: for all arguments within their bounds its Lean function answers true. -/
import Derived.Test.YtfkdlfbjkdkffaaGreatDoorPFnPointsxD0
namespace Go.Proofs.YtfkdlfbjkdkffaaGreatDoor.Pure
open Go.RowKit Go.Proofs.YtfkdlfbjkdkffaaGreatDoor.PFnPoints Go.Proofs.YtfkdlfbjkdkffaaGreatDoorW.PrintWords Go.Proofs.YtfkdlfbjkdkffaaGreatDoorW.PrintLast
set_option linter.unusedVariables false
set_option linter.unusedSimpArgs false
/-! ### Numbers, loops, letters -/
theorem wrap_in {x : Int} (h0 : -9223372036854775808 ≤ x) (h1 : x ≤ 9223372036854775807) : wrap64 x = x := by
 unfold wrap64; omega
theorem wf_i64 {n : Int} (h : (Lit.int .i64 n).wf = true) : -9223372036854775808 ≤ n ∧ n ≤ 9223372036854775807 := by
 simpa [Lit.wf, IntKind.min, IntKind.max, IntKind.signed, IntKind.bits] using h
/-- A loop over a list, from its end. L: what the loop tells from place i on. -/
theorem each {α γ : Type} (L : Int → γ) (l : List α) (z : α) (R : Nat → List α → γ → Prop) (nil : R l.length [] (L l.length))
 (cons : ∀ (i : Nat) (x : α) (t : List α), i < l.length → l.getD i z = x → l.drop i = x :: t → l.drop (i + 1) = t → R (i + 1) t (L ((i : Int) + 1)) → R i (x :: t) (L i)) : R 0 l (L 0) := by
 have key : ∀ (t : List α) (i : Nat), l.drop i = t → i ≤ l.length → R i t (L i) := by
  intro t
  induction t with
  | nil =>
   intro i h hi
   have : l.length ≤ i := by simpa [List.drop_eq_nil_iff] using h
   obtain rfl : i = l.length := by omega
   exact nil
  | cons x t ih =>
   intro i h hi
   have hlt : i < l.length := by
    rcases Nat.lt_or_ge i l.length with h' | h'
    ·exact h'
    ·rw [List.drop_eq_nil_of_le h'] at h; cases h
   have h2 := List.drop_eq_getElem_cons hlt
   rw [h] at h2
   injection h2 with h3 h4
   refine cons i x t hlt ?_ h h4.symm ?_
   ·rw [List.getD_eq_getElem?_getD, List.getElem?_eq_getElem hlt]; exact h3.symm
   ·have := ih (i + 1) h4.symm (by omega)
    rwa [show ((i + 1 : Nat) : Int) = (i : Int) + 1 from by omega] at this
 have := key l 0 rfl (Nat.zero_le _)
 rwa [show ((0 : Nat) : Int) = 0 from rfl] at this
theorem bt_data (s : ByteArray) (i : Nat) (h : i < s.size) : bt s (i : Int) = ((s.data.toList.getD i 0).toNat : Int) := by
 obtain ⟨d⟩ := s
 have h' : i < d.size := h
 have : bt ⟨d⟩ (i : Int) = ((d[i]).toNat : Int) := by
  unfold bt
  rw [dif_pos (show ((i : Int)).toNat < (⟨d⟩ : ByteArray).size from by simpa using h)]
  rfl
 rw [this]
 simp [h']
theorem size_data (s : ByteArray) : s.size = s.data.toList.length := by
 obtain ⟨d⟩ := s; simp [ByteArray.size]
theorem toList_data (s : ByteArray) : s.toList = s.data.toList := by
 rw [ByteArray.toList_eq]
theorem ext_data {s t : ByteArray} (h : s.toList = t.toList) : s = t := by
 rw [toList_data, toList_data] at h
 obtain ⟨⟨a⟩⟩ := s
 obtain ⟨⟨b⟩⟩ := t
 simp at h
 rw [h]
theorem toList_iff {s t : ByteArray} : s.toList = t.toList ↔ s = t := ⟨ext_data, fun h => by rw [h]⟩
theorem mem_drop {α : Type} {l t : List α} {x : α} {i : Nat} (h : l.drop i = x :: t) : x ∈ l := List.mem_of_mem_drop (i := i) (by rw [h]; simp)

/-! ### What is drawn -/
def Bytes (l : List Int) : Prop := l.length ≤ 9223372036854775807 ∧ ∀ x ∈ l, 0 ≤ x ∧ x < 256
theorem bytes_of {l : List Int} (h : l.length ≤ 9223372036854775807) (hw : ∀ x ∈ l, (Lit.int .u8 x).wf = true) : Bytes l := ⟨h, fun x hx => by
 have := hw x hx
 simp [Lit.wf, IntKind.min, IntKind.max, IntKind.signed, IntKind.bits] at this
 omega⟩
theorem and_byte (z : Int) (h0 : 0 ≤ z) (h1 : z < 18446744073709551616) : 0 ≤ Go.bits .and .u64 z 255 ∧ Go.bits .and .u64 z 255 < 256 := by
 obtain ⟨n, rfl⟩ := Int.eq_ofNat_of_zero_le h0
 have h := bits_and_u64_nat n 255 (by omega) (by omega)
 have e : (((255 : Nat) : Int)) = 255 := rfl
 rw [e] at h
 rw [h]
 have : n &&& 255 ≤ 255 := Nat.and_le_right
 omega
theorem next_tells (l : List Int) (hl : Bytes l) (a s : Int) (ha : 0 ≤ a ∧ a ≤ 2000000000) : ∃ r b t, spec_l1Cur_next.f l a s = some (r, b, t) ∧ (0 ≤ r ∧ r < 256) ∧ 0 ≤ b ∧ b ≤ a + 1 := by
 have hu : ∀ y : Int, 0 ≤ IntKind.u64.wrap y ∧ IntKind.u64.wrap y < 18446744073709551616 := fun y => by
  simp only [IntKind.wrap, IntKind.signed, IntKind.bits]
  simp
  omega
 have tail : ∀ y : Int, 0 ≤ wrap64 (Go.bits .and .u64 ((IntKind.u64.wrap y) / 1099511627776) 255) ∧ wrap64 (Go.bits .and .u64 ((IntKind.u64.wrap y) / 1099511627776) 255) < 256 := fun y => by
  have h1 := hu y
  have h2 := and_byte (IntKind.u64.wrap y / 1099511627776) (by omega) (by omega)
  rw [wrap_in (by omega) (by omega)]
  exact h2
 unfold spec_l1Cur_next.f
 rw [wrap_in (x := a + 1) (by omega) (by omega)]
 by_cases h : a < (l.length : Int)
 ·rw [if_pos h, if_pos ha.1]
  have hr : 0 ≤ rd l a ∧ rd l a < 256 := by
   obtain ⟨n, rfl⟩ := Int.eq_ofNat_of_zero_le ha.1
   have hn : n < l.length := by omega
   have := hl.2 l[n] (List.getElem_mem hn)
   have e : rd l (n : Int) = l[n] := by simp [rd, hn]
   rw [e]
   exact this
  split
  ·refine ⟨_, _, _, rfl, ?_, by omega, by omega⟩
   rw [wrap_in (by omega) (by omega)]
   exact hr
  ·exact ⟨_, _, _, rfl, tail _, by omega, by omega⟩
 ·rw [if_neg h]
  split
  ·exact ⟨_, _, _, rfl, by omega, by omega, by omega⟩
  ·exact ⟨_, _, _, rfl, tail _, by omega, by omega⟩
theorem pick_tells (l : List Int) (hl : Bytes l) (a s n : Int) (ha : 0 ≤ a ∧ a ≤ 1000000000) (hn : n ≤ 1048576) : ∃ r b t, spec_l1Cur_pick.f l a s n = some (r, b, t) ∧ 0 ≤ r ∧ (1 ≤ n → r < n) ∧ 0 ≤ b ∧ b ≤ a + 2 := by
 unfold spec_l1Cur_pick.f
 by_cases h : n ≤ 1
 ·rw [if_pos h]
  exact ⟨_, _, _, rfl, by omega, by omega, by omega, by omega⟩
 rw [if_neg h]
 obtain ⟨r, b, t, h1, h2, h3, h4⟩ := next_tells l hl a s (by omega)
 rw [h1, Option.bind_some]
 dsimp only
 by_cases h5 : n > 200
 ·rw [if_pos h5]
  obtain ⟨r2, b2, t2, k1, k2, k3, k4⟩ := next_tells l hl b t (by omega)
  rw [k1, Option.bind_some]
  dsimp only
  rw [if_neg (by omega), wrap_in (x := r * 256) (by omega) (by omega), wrap_in (x := r * 256 + r2) (by omega) (by omega)]
  refine ⟨_, _, _, rfl, Int.tmod_nonneg _ (by omega), fun _ => Int.tmod_lt_of_pos _ (by omega), by omega, by omega⟩
 ·rw [if_neg h5, if_neg (by omega)]
  refine ⟨_, _, _, rfl, Int.tmod_nonneg _ (by omega), fun _ => Int.tmod_lt_of_pos _ (by omega), by omega, by omega⟩
theorem of_tells (l : List Int) (hl : Bytes l) (a s : Int) (m : List ByteArray) (ha : 0 ≤ a ∧ a ≤ 1000000000) (hm : m ≠ [] ∧ m.length ≤ 1048576) : ∃ r b t, spec_l1Cur_of.f l a s m = some (r, b, t) ∧ r ∈ m ∧ 0 ≤ b ∧ b ≤ a + 2 := by
 have h0 : 0 < m.length := List.length_pos_iff.2 hm.1
 obtain ⟨r, b, t, h1, h2, h3, h4, h5⟩ := pick_tells l hl a s m.length ha (by omega)
 obtain ⟨n, rfl⟩ := Int.eq_ofNat_of_zero_le h2
 have hn : n < m.length := by omega
 unfold spec_l1Cur_of.f
 rw [h1, Option.bind_some]
 dsimp only
 rw [if_pos (by omega), if_pos (by omega)]
 refine ⟨_, _, _, rfl, ?_, h4, h5⟩
 have e : rdOf ByteArray.empty m (n : Int) = m[n] := by simp [rdOf, hn]
 show rdOf ByteArray.empty m (n : Int) ∈ m
 rw [e]
 exact List.getElem_mem hn
theorem among_tells (l : List Int) (hl : Bytes l) (a s : Int) (m : List Int) (ha : 0 ≤ a ∧ a ≤ 1000000000) (hm : m ≠ [] ∧ m.length ≤ 1048576) : ∃ r b t, spec_l1Cur_among.f l a s m = some (r, b, t) ∧ r ∈ m ∧ 0 ≤ b ∧ b ≤ a + 2 := by
 have h0 : 0 < m.length := List.length_pos_iff.2 hm.1
 obtain ⟨r, b, t, h1, h2, h3, h4, h5⟩ := pick_tells l hl a s m.length ha (by omega)
 obtain ⟨n, rfl⟩ := Int.eq_ofNat_of_zero_le h2
 have hn : n < m.length := by omega
 unfold spec_l1Cur_among.f
 rw [h1, Option.bind_some]
 dsimp only
 rw [if_pos (by omega), if_pos (by omega)]
 refine ⟨_, _, _, rfl, ?_, h4, h5⟩
 have e : rd m (n : Int) = m[n] := by simp [rd, hn]
 show rd m (n : Int) ∈ m
 rw [e]
 exact List.getElem_mem hn

theorem one_tells (l : List Int) (hl : Bytes l) (a s n : Int) (ha : 0 ≤ a ∧ a ≤ 1000000000) (hn : n ≤ 1048576) : ∃ r b t, spec_l1Cur_one.f l a s n = some (r, b, t) ∧ 0 ≤ b ∧ b ≤ a + 2 := by
 obtain ⟨r, b, t, h1, h2, h3, h4, h5⟩ := pick_tells l hl a s n ha hn
 unfold spec_l1Cur_one.f
 rw [h1, Option.bind_some]
 exact ⟨_, _, _, rfl, h4, h5⟩


theorem l1In_some (a b c : Int) : spec_l1In.f a b c = some (decide (b ≤ a ∧ a ≤ c)) := by
 unfold spec_l1In.f
 by_cases h : a ≥ b
 ·rw [if_pos h]; congr 1; simp; omega
 ·rw [if_neg h]; congr 1; symm; simp; omega

/-! ### Words of letters; angles -/
theorem within_some (a b c : Int) : impl_within.f a b c = some (decide (b ≤ a ∧ a ≤ c)) := by
 unfold impl_within.f
 by_cases h : b ≤ a
 ·rw [if_pos h]; simp [h]
 ·rw [if_neg h]; simp [h]
/-- All letters between two. -/
def inRange (lo hi : Nat) (l : List UInt8) : Bool := l.all fun c => decide (lo ≤ c.toNat ∧ c.toNat ≤ hi)
/-- One to eight letters between two. -/
def isWord (lo hi : Nat) (s : ByteArray) : Bool := decide (1 ≤ s.size ∧ s.size ≤ 8) && inRange lo hi s.data.toList
theorem dec_size (s : ByteArray) : decide ((1 : Int) ≤ s.size ∧ (s.size : Int) ≤ 8) = decide (1 ≤ s.size ∧ s.size ≤ 8) := by
 by_cases h : 1 ≤ s.size ∧ s.size ≤ 8
 ·rw [decide_eq_true h, decide_eq_true (by omega)]
 ·rw [decide_eq_false h, decide_eq_false (by omega)]

/-- What 'letters' says of a list of letters: they are those from lo to hi. -/
def Letters (lo hi : Nat) (m : ByteArray) : Prop := ∀ n, n < 256 → (decide (Lib.indexByte m.data.toList n.toUInt8 < 0)) = !decide (lo ≤ n ∧ n ≤ hi)
instance (lo hi : Nat) (m : ByteArray) : Decidable (Letters lo hi m) := by unfold Letters; infer_instance
theorem hasOnly_some (lo hi : Nat) (s m : ByteArray) (hs : s.size ≤ 9223372036854775807) (hm : Letters lo hi m) : impl_hasOnly.F s m = some (inRange lo hi s.data.toList) := by
 rw [impl_hasOnly.F_eq]
 refine each (L := fun i => impl_hasOnly.L0 s m s.size i) s.data.toList 0 (fun _ t o => o = some (inRange lo hi t)) ?_ ?_
 ·show impl_hasOnly.L0 s m _ _ = _
  rw [impl_hasOnly.L0_eq, if_neg (by rw [← size_data]; omega)]; rfl
 ·intro i x t hi' hx _ _ ih
  have hi2 : i < s.size := by rw [size_data]; exact hi'
  have hb := hm x.toNat x.toNat_lt
  show impl_hasOnly.L0 s m _ _ = _
  rw [impl_hasOnly.L0_eq, if_pos (by omega), if_pos (by omega), if_pos (by omega), bt_data s i hi2, hx, wrap_in (by omega) (by omega)]
  simp only [strings_IndexByte.f, stringslite_IndexByte.f, Option.bind_some, Int.toNat_natCast]
  by_cases h1 : lo ≤ x.toNat ∧ x.toNat ≤ hi
  ·rw [if_neg (by simp [h1] at hb; simpa using hb), ih]
   simp [inRange, h1]
  ·rw [if_pos (by simpa [h1] using hb)]
   simp [inRange, h1]
theorem isWordOf_some (lo hi : Nat) (s m : ByteArray) (hs : s.size ≤ 9223372036854775807) (hm : Letters lo hi m) : impl_isWordOf.F s m = some (isWord lo hi s) := by
 rw [impl_isWordOf.F_eq, within_some, hasOnly_some lo hi s m hs hm]
 simp only [Option.bind_some, isWord]
 by_cases h : 1 ≤ s.size ∧ s.size ≤ 8
 ·have : (1 : Int) ≤ s.size ∧ (s.size : Int) ≤ 8 := by omega
  simp [h, this]
 ·have : ¬ ((1 : Int) ≤ s.size ∧ (s.size : Int) ≤ 8) := by omega
  simp [h, this]


theorem isAngle_some (a : Int) : impl_isAngle.f a = some (decide (-90 ≤ a ∧ a ≤ 90)) := by
 unfold impl_isAngle.f; rw [within_some]; rfl
theorem loAngle_some (a : Int) : spec_loAngle.f a = some (decide (-90 ≤ a ∧ a ≤ 90)) := by
 unfold spec_loAngle.f; rw [l1In_some]; rfl

/-! ### Loci -/
abbrev Loc := S58
theorem rd_loc (l : List Loc) (i : Nat) : rd_T58 l (i : Int) = l.getD i z58 := by simp [rd_T58]
theorem naName_some (s : ByteArray) (hs : s.size ≤ 9223372036854775807) : spec_naName.F s = some (isWord 97 122 s) := by
 rw [spec_naName.F_eq]
 have := each (L := fun i => spec_naName.L0 s i) s.data.toList 0 (fun _ t o => o = some (inRange 97 122 t && decide (1 ≤ s.size ∧ s.size ≤ 8))) ?_ ?_
 ·rw [this, isWord, Bool.and_comm]
 ·show spec_naName.L0 s _ = _
  rw [spec_naName.L0_eq, if_neg (by rw [← size_data]; omega), l1In_some]
  simp only [Option.bind_some, inRange, List.all_nil, Bool.true_and, dec_size]
 ·intro i x t hi hx _ _ ih
  have hi' : i < s.size := by rw [size_data]; exact hi
  show spec_naName.L0 s _ = _
  rw [spec_naName.L0_eq, if_pos (by omega), if_pos (by omega), bt_data s i hi', hx, wrap_in (by omega) (by omega)]
  by_cases h1 : x.toNat < 97
  ·rw [if_pos (by omega)]; simp [inRange]; omega
  ·rw [if_neg (by omega)]
   by_cases h2 : 122 < x.toNat
   ·rw [if_pos (by omega)]; simp [inRange]; omega
   ·rw [if_neg (by omega), ih]
    have h3 : 97 ≤ x.toNat := by omega
    have h4 : x.toNat ≤ 122 := by omega
    simp [inRange, h3, h4]
/-- The first place of a referent from place i on, or -1. -/
def idxFrom (a : ByteArray) : List Loc → Nat → Int
 | [], _ => -1
 | x :: t, i => if x.f0.toList = a.toList then i else idxFrom a t (i + 1)
theorem idxFrom_cases (a : ByteArray) : ∀ (t : List Loc) (i : Nat), (idxFrom a t i = -1 ∧ ∀ x ∈ t, x.f0 ≠ a) ∨ ∃ j, j < t.length ∧ idxFrom a t i = (i + j : Nat) ∧ (t.getD j z58).f0 = a
 | [], _ => .inl ⟨rfl, by simp⟩
 | x :: t, i => by
  unfold idxFrom
  by_cases h : x.f0.toList = a.toList
  ·rw [if_pos h]
   exact .inr ⟨0, by simp, by simp, by simpa using ext_data h⟩
  ·rw [if_neg h]
   rcases idxFrom_cases a t (i + 1) with ⟨h1, h2⟩ | ⟨j, h1, h2, h3⟩
   ·refine .inl ⟨h1, fun y hy => ?_⟩
    rcases List.mem_cons.1 hy with rfl | hy
    ·exact fun e => h (by rw [e])
    ·exact h2 y hy
   ·exact .inr ⟨j + 1, by simpa using h1, by rw [h2]; omega, by simpa using h3⟩
theorem loFind_some (l : List Loc) (a : ByteArray) (hl : l.length ≤ 9223372036854775807) : spec_loFind.F l a = some (idxFrom a l 0) := by
 rw [spec_loFind.F_eq]
 refine each (L := fun i => spec_loFind.L0 a l l.length i) l z58 (fun i t o => o = some (idxFrom a t i)) ?_ ?_
 ·show spec_loFind.L0 a l _ _ = _
  rw [spec_loFind.L0_eq, if_neg (by omega)]; rfl
 ·intro i x t hi hx _ _ ih
  show spec_loFind.L0 a l _ _ = _
  rw [spec_loFind.L0_eq, if_pos (by omega), if_pos (by omega), if_pos (by omega), rd_loc, hx, wrap_in (by omega) (by omega)]
  unfold idxFrom
  split
  ·rfl
  ·exact ih
theorem locusOf_some (l : List Loc) (a : ByteArray) (hl : l.length ≤ 9223372036854775807) : impl_locusOf.F l a = some (idxFrom a l 0) := by
 rw [impl_locusOf.F_eq, slices_IndexFunc_Locus_impl_locusOf_1.F_eq]
 rw [show slices_IndexFunc_Locus_impl_locusOf_1.L0 l (l.length : Int) 0 a = some (idxFrom a l 0) from ?_]; rfl
 refine each (L := fun i => slices_IndexFunc_Locus_impl_locusOf_1.L0 l l.length i a) l z58 (fun i t o => o = some (idxFrom a t i)) ?_ ?_
 ·show slices_IndexFunc_Locus_impl_locusOf_1.L0 l _ _ a = _
  rw [slices_IndexFunc_Locus_impl_locusOf_1.L0_eq, if_neg (by omega)]; rfl
 ·intro i x t hi hx _ _ ih
  show slices_IndexFunc_Locus_impl_locusOf_1.L0 l _ _ a = _
  rw [slices_IndexFunc_Locus_impl_locusOf_1.L0_eq, if_pos (by omega), if_pos (by omega), if_pos (by omega), rd_loc, hx, wrap_in (by omega) (by omega)]
  unfold idxFrom impl_locusOf_1.f
  simp only [Option.bind_some, beq_iff_eq]
  split
  ·rfl
  ·exact ih
/-- Is element i as it should be, for those ahead of it? -/
def okAt (l : List Loc) (i : Nat) (x : Loc) : Bool :=
 isWord 97 122 x.f0 && (decide (-90 ≤ x.f1 ∧ x.f1 ≤ 90) && (decide (i = 0 ∨ (l.getD (i - 1) z58).f1 < x.f1) && decide (idxFrom x.f0 (l.take i) 0 < 0)))
def goodFrom (l : List Loc) : Nat → List Loc → Bool
 | _, [] => decide (l.length ≤ 8)
 | i, x :: t => okAt l i x && goodFrom l (i + 1) t
def good (l : List Loc) : Bool := goodFrom l 0 l
/-- The letters' lengths are lengths. -/
def Sized (l : List Loc) : Prop := l.length ≤ 9223372036854775807 ∧ ∀ x ∈ l, x.f0.size ≤ 9223372036854775807
theorem Sized.take {l : List Loc} (h : Sized l) (i : Nat) : (l.take i).length ≤ 9223372036854775807 := Nat.le_trans (List.length_take_le' ..) h.1
theorem loGood_some (l : List Loc) (hl : Sized l) : spec_loGood.F l = some (good l) := by
 rw [spec_loGood.F_eq]
 have hl1 := hl.1
 refine each (L := fun i => spec_loGood.L0 l l l.length i) l z58 (fun i t o => o = some (goodFrom l i t)) ?_ ?_
 ·show spec_loGood.L0 l l _ _ = _
  rw [spec_loGood.L0_eq, if_neg (by omega)]
  simp only [goodFrom, Option.some.injEq, decide_eq_decide]; omega
 ·intro i x t hi hx hd _ ih
  have hs : x.f0.size ≤ 9223372036854775807 := hl.2 x (mem_drop hd)
  show spec_loGood.L0 l l _ _ = _
  rw [spec_loGood.L0_eq, if_pos (by omega), if_pos (by omega), if_pos (by omega), rd_loc, hx]
  try simp only [spec_loGood.J1_eq, decide_eq_true_eq, eq_self, if_true]
  rw [wrap_in (x := (i : Int) + 1) (by omega) (by omega), naName_some _ hs, loAngle_some, Int.toNat_natCast, loFind_some _ _ (hl.take i)]
  simp only [Option.bind_some, goodFrom, okAt]
  cases isWord 97 122 x.f0
  ·simp
  by_cases ha : -90 ≤ x.f1 ∧ x.f1 ≤ 90
  case neg => simp [ha]
  rw [decide_eq_true ha]
  simp only [if_true, Bool.true_and]
  by_cases h0 : i = 0
  ·subst h0
   simp only [List.take_zero, Int.natCast_zero, gt_iff_lt, Int.lt_irrefl, if_false, true_or, decide_true, Bool.true_and]
   rw [if_pos (by omega)]
   simp [idxFrom]
   simpa using ih
  ·have h1 : (i : Int) - 1 = ((i - 1 : Nat) : Int) := by omega
   rw [if_pos (by omega), wrap_in (by omega) (by omega), h1, if_pos (by omega), if_pos (by omega), rd_loc, if_pos (show (i : Int) ≤ (l.length : Int) by omega)]
   by_cases h2 : (l.getD (i - 1) z58).f1 < x.f1
   ·rw [if_neg (by omega)]
    simp only [h2, or_true, decide_true, Bool.true_and]
    by_cases h3 : idxFrom x.f0 (l.take i) 0 < 0
    ·rw [if_neg (by omega), ih]; simp [h3]
    ·rw [if_pos (by omega)]; simp [h3]
   ·rw [if_pos (by omega), decide_eq_false (p := i = 0 ∨ _) (by simp only [h0, h2, or_self, not_false_eq_true])]; simp
theorem areLoci_some (l : List Loc) (hl : Sized l) : impl_AreLoci.F l = some (good l) := by
 rw [impl_AreLoci.F_eq]
 have hl1 := hl.1
 refine each (L := fun i => impl_AreLoci.L0 l l l.length i) l z58 (fun i t o => o = some (goodFrom l i t)) ?_ ?_
 ·show impl_AreLoci.L0 l l _ _ = _
  rw [impl_AreLoci.L0_eq, if_neg (by omega)]
  simp only [goodFrom, Option.some.injEq, decide_eq_decide]; omega
 ·intro i x t hi hx hd _ ih
  have hs : x.f0.size ≤ 9223372036854775807 := hl.2 x (mem_drop hd)
  show impl_AreLoci.L0 l l _ _ = _
  rw [impl_AreLoci.L0_eq, if_pos (by omega), if_pos (by omega), if_pos (by omega), rd_loc, hx]
  try simp only [impl_AreLoci.J1_eq, decide_eq_true_eq, eq_self, if_true]
  rw [wrap_in (x := (i : Int) + 1) (by omega) (by omega), isWordOf_some 97 122 _ _ hs (by decide +kernel), isAngle_some, Int.toNat_natCast, locusOf_some _ _ (hl.take i)]
  simp only [Option.bind_some, goodFrom, okAt]
  cases isWord 97 122 x.f0
  ·simp
  by_cases ha : -90 ≤ x.f1 ∧ x.f1 ≤ 90
  case neg => simp [ha]
  rw [decide_eq_true ha]
  simp only [if_true, Bool.true_and]
  by_cases h0 : i = 0
  ·subst h0
   simp only [List.take_zero, Int.natCast_zero, gt_iff_lt, Int.lt_irrefl, if_false, true_or, decide_true, Bool.true_and]
   rw [if_pos (by omega)]
   simp [idxFrom]
   simpa using ih
  ·have h1 : (i : Int) - 1 = ((i - 1 : Nat) : Int) := by omega
   rw [if_pos (by omega), wrap_in (by omega) (by omega), h1, if_pos (by omega), if_pos (by omega), rd_loc, if_pos (show (i : Int) ≤ (l.length : Int) by omega)]
   by_cases h2 : (l.getD (i - 1) z58).f1 < x.f1
   ·rw [if_neg (by omega)]
    simp only [h2, or_true, decide_true, Bool.true_and]
    by_cases h3 : idxFrom x.f0 (l.take i) 0 < 0
    ·rw [if_neg (by omega), ih]; simp [h3]
    ·rw [if_pos (by omega)]; simp [h3]
   ·rw [if_pos (by omega), decide_eq_false (p := i = 0 ∨ _) (by simp only [h0, h2, or_self, not_false_eq_true])]; simp
theorem good_from (l : List Loc) : ∀ (t : List Loc) (i : Nat), goodFrom l i t = true → l.length ≤ 8 ∧ ∀ x ∈ t, (-90 ≤ x.f1 ∧ x.f1 ≤ 90) ∧ 1 ≤ x.f0.size
 | [], _, h => ⟨by simpa [goodFrom] using h, by simp⟩
 | x :: t, i, h => by
  simp only [goodFrom, okAt, isWord, Bool.and_eq_true, decide_eq_true_eq] at h
  obtain ⟨h1, h2⟩ := h
  obtain ⟨h3, h4⟩ := good_from l t (i + 1) h2
  refine ⟨h3, fun y hy => ?_⟩
  rcases List.mem_cons.1 hy with rfl | hy
  ·exact ⟨h1.2.1, h1.1.1.1⟩
  ·exact h4 y hy
theorem good_facts {l : List Loc} (h : good l = true) : l.length ≤ 8 ∧ ∀ x ∈ l, (-90 ≤ x.f1 ∧ x.f1 ≤ 90) ∧ 1 ≤ x.f0.size := good_from l l 0 h

def putAt (x : Loc) : List Loc → List Loc
 | [] => [x]
 | y :: t => if y.f1 < x.f1 then y :: putAt x t else x :: y :: t
theorem putAt_perm (x : Loc) : ∀ l : List Loc, (putAt x l).Perm (x :: l)
 | [] => .refl _
 | y :: t => by
  unfold putAt
  split
  ·exact ((putAt_perm x t).cons y).trans (.swap x y t)
  ·exact .refl _
theorem loPut_some (l : List Loc) (b : ByteArray) (c : Int) (hl : l.length ≤ 1048576) : spec_loPut.F l b c = some (putAt ⟨b, c⟩ l) := by
 rw [spec_loPut.F_eq]
 have := each (L := fun i => spec_loPut.L0 l i b c) l z58 (fun i t o => i + t.length = l.length → o = some (l.take i ++ putAt ⟨b, c⟩ t)) ?_ ?_ (by simp)
 ·simpa using this
 ·intro _
  show spec_loPut.L0 l _ b c = _
  rw [spec_loPut.L0_eq, if_neg (by omega)]
  simp only [Option.bind_some, Int.toNat_natCast, List.take_length, List.drop_length, List.nil_append, List.length_nil, List.length_cons, List.append_nil, putAt]
  rw [if_pos (by omega), if_pos (by omega), if_pos (by omega), if_pos (by simp; omega), if_pos (by simp; omega)]
 ·intro i x t hi hx hd _ ih hlen
  show spec_loPut.L0 l _ b c = _
  rw [spec_loPut.L0_eq, if_pos (by omega), if_pos (by omega), rd_loc, hx, wrap_in (by omega) (by omega)]
  by_cases h : x.f1 < c
  ·rw [if_pos h, ih (by simpa [Nat.add_assoc, Nat.add_comm 1] using hlen)]
   have ht : l.take (i + 1) = l.take i ++ [x] := by
    rw [List.take_succ_eq_append_getElem hi]
    rw [List.getD_eq_getElem?_getD, List.getElem?_eq_getElem hi, Option.getD_some] at hx
    rw [hx]
   have hp : putAt ⟨b, c⟩ (x :: t) = x :: putAt ⟨b, c⟩ t := by rw [putAt, if_pos h]
   rw [ht, hp]
   simp
  ·have hp : putAt ⟨b, c⟩ (x :: t) = ⟨b, c⟩ :: x :: t := by rw [putAt, if_neg h]
   have h3 : (l.take i).length ≤ 1048576 := by simp; omega
   have h4 : (l.take i).length = i := by simp; omega
   simp only [if_neg h, Option.bind_some, Int.toNat_natCast, hd, List.nil_append, List.length_nil, List.length_cons, List.length_append]
   rw [if_pos (by omega), if_pos (by omega), if_pos (by omega), if_pos (by simp at hlen ⊢; omega), hp]
   simp
theorem loIf_some (l : List Loc) (hl : Sized l) : spec_loIf.F l = some (if good l then (l, true) else ([], false)) := by
 rw [spec_loIf.F_eq, loGood_some _ hl, Option.bind_some]
 cases good l <;> rfl
def keep (a : ByteArray) (x : Loc) : Bool := !(x.f0.toList == a.toList)
theorem loWithout_some (l : List Loc) (a : ByteArray) (hl : l.length ≤ 1048576) : spec_loWithout.F l a = some (l.filter (keep a)) := by
 rw [spec_loWithout.F_eq]
 have := each (L := fun i => fun o => spec_loWithout.L0 a o l l.length i) l z58 (fun i t f => ∀ o : List Loc, o.length ≤ i → f o = some (o ++ t.filter (keep a))) ?_ ?_ [] (by simp)
 ·simpa using this
 ·intro o _
  show spec_loWithout.L0 a o l _ _ = _
  rw [spec_loWithout.L0_eq, if_neg (by omega)]; simp
 ·intro i x t hi hx _ _ ih o ho
  show spec_loWithout.L0 a o l _ _ = _
  rw [spec_loWithout.L0_eq, if_pos (by omega), if_pos (by omega), if_pos (by omega), rd_loc, hx, wrap_in (x := (i : Int) + 1) (by omega) (by omega)]
  by_cases h : x.f0.toList = a.toList
  ·rw [if_pos h, List.filter_cons_of_neg (by simp [keep, h])]
   exact ih o (by omega)
  ·rw [if_neg h, if_pos (by omega), List.filter_cons_of_pos (by simp [keep, h])]
   refine (ih (o ++ [x]) (by simp; omega)).trans ?_
   simp


theorem good_short {l : List Loc} (h : good l = true) : ∀ x ∈ l, x.f0.size ≤ 8 := by
 have key : ∀ (t : List Loc) (i : Nat), goodFrom l i t = true → ∀ x ∈ t, x.f0.size ≤ 8 := by
  intro t
  induction t with
  | nil => intro _ _ x hx; simp at hx
  | cons y t ih =>
   intro i h x hx
   simp only [goodFrom, okAt, isWord, Bool.and_eq_true, decide_eq_true_eq] at h
   rcases List.mem_cons.1 hx with rfl | hx
   ·exact h.1.1.1.2
   ·exact ih _ h.2 x hx
 exact key l 0 h

/-! ### Drawn loci -/
def Drawn (L : List Loc) : Prop := L.length ≤ 9 ∧ ∀ x ∈ L, x.f0.size ≤ 9
theorem Drawn.sized {L : List Loc} (h : Drawn L) : Sized L := ⟨by have := h.1; omega, fun x hx => by have := h.2 x hx; omega⟩
theorem referent_tells (l : List Int) (hl : Bytes l) (a s : Int) (ha : 0 ≤ a ∧ a ≤ 1000000) : ∃ r b t, spec_l1Cur_referent.f l a s = some (r, b, t) ∧ r.size ≤ 9 ∧ 0 ≤ b ∧ b ≤ a + 10 := by
 unfold spec_l1Cur_referent.f
 generalize hm : ([(⟨#[109, 97, 114, 121]⟩ : ByteArray), (⟨#[106, 111, 104, 110]⟩ : ByteArray), (⟨#[100, 111, 103]⟩ : ByteArray), (⟨#[99, 97, 116]⟩ : ByteArray), (⟨#[115, 105, 103, 110, 101, 114]⟩ : ByteArray)] : List ByteArray) = m
 have hmm : ∀ x ∈ m, x.size ≤ 9 := by rw [← hm]; simp only [List.mem_cons, List.not_mem_nil, or_false]; rintro x (rfl | rfl | rfl | rfl | rfl) <;> decide
 obtain ⟨r, b, t, h1, h2, h3, h4⟩ := of_tells l hl a s m (by omega) (by rw [← hm]; simp)
 rw [h1, Option.bind_some]
 dsimp only
 exact ⟨_, _, _, rfl, hmm _ h2, h3, by omega⟩
theorem anyReferent_tells (l : List Int) (hl : Bytes l) (a s : Int) (ha : 0 ≤ a ∧ a ≤ 1000000) : ∃ r b t, spec_l1Cur_anyReferent.f l a s = some (r, b, t) ∧ r.size ≤ 9 ∧ 0 ≤ b ∧ b ≤ a + 10 := by
 unfold spec_l1Cur_anyReferent.f
 generalize hm : ([(⟨#[115, 105, 103, 110, 101, 114]⟩ : ByteArray), (⟨#[]⟩ : ByteArray), (⟨#[77, 97, 114, 121]⟩ : ByteArray), (⟨#[110, 105, 110, 101, 99, 104, 97, 114, 115]⟩ : ByteArray), (⟨#[122, 122]⟩ : ByteArray)] : List ByteArray) = m
 have hmm : ∀ x ∈ m, x.size ≤ 9 := by rw [← hm]; simp only [List.mem_cons, List.not_mem_nil, or_false]; rintro x (rfl | rfl | rfl | rfl | rfl) <;> decide
 obtain ⟨r, b, t, h1, h2, h3, h4⟩ := of_tells l hl a s m (by omega) (by rw [← hm]; simp)
 rw [h1, Option.bind_some]
 have hr := hmm _ h2
 simp only
 generalize hq : ([(⟨#[109, 97, 114, 121]⟩ : ByteArray), (⟨#[106, 111, 104, 110]⟩ : ByteArray), (⟨#[100, 111, 103]⟩ : ByteArray), (⟨#[109, 97, 114, 121]⟩ : ByteArray), r] : List ByteArray) = q
 have hqq : ∀ x ∈ q, x.size ≤ 9 := by rw [← hq]; simp only [List.mem_cons, List.not_mem_nil, or_false]; rintro x (rfl | rfl | rfl | rfl | rfl) <;> first | exact hr | decide
 obtain ⟨r2, b2, t2, k1, k2, k3, k4⟩ := of_tells l hl b t q (by omega) (by rw [← hq]; simp)
 rw [k1, Option.bind_some]
 dsimp only
 exact ⟨_, _, _, rfl, hqq _ k2, k3, by omega⟩
theorem angleOf_tells (l : List Int) (hl : Bytes l) (a s : Int) (ha : 0 ≤ a ∧ a ≤ 1000000) : ∃ r b t, spec_l1Cur_angleOf.f l a s = some (r, b, t) ∧ 0 ≤ b ∧ b ≤ a + 10 := by
 unfold spec_l1Cur_angleOf.f
 obtain ⟨r, b, t, h1, h2, h3, h4, h5⟩ := pick_tells l hl a s 181 (by omega) (by omega)
 rw [h1, Option.bind_some]
 obtain ⟨r2, b2, t2, k1, k2, k3, k4⟩ := among_tells l hl b t [5, 91, -91, -9223372036854775808] (by omega) (by simp)
 simp only [k1, Option.bind_some]
 obtain ⟨r3, b3, t3, m1, m2, m3, m4⟩ := among_tells l hl b2 t2 [0, -40, 30, 25, 10, wrap64 (r - 90), 90, -90, r2] (by omega) (by simp)
 simp only [m1, Option.bind_some]
 exact ⟨_, _, _, rfl, m3, by omega⟩
theorem put_spec (L : List Loc) (a : ByteArray) (c : Int) (hz : Sized L) (hlm : L.length ≤ 1048576) (ha : a.size ≤ 9223372036854775807) : ∃ r b, spec_PutReferent.F L a c = some (r, b) ∧ (b = true → good r = true) := by
 rw [spec_PutReferent.F_eq, loGood_some _ hz, naName_some _ ha, loAngle_some]
 simp only [Option.bind_some, spec_PutReferent.J0_eq]
 cases hg : good L
 ·exact ⟨_, _, rfl, fun h => by cases h⟩
 cases hn : isWord 97 122 a
 ·exact ⟨_, _, rfl, fun h => by cases h⟩
 by_cases hc : -90 ≤ c ∧ c ≤ 90
 ·obtain ⟨g1, g2⟩ := good_facts hg
  have hW : (L.filter (keep a)).length ≤ 8 := Nat.le_trans (List.length_filter_le _ _) g1
  have hp := putAt_perm ⟨a, c⟩ (L.filter (keep a))
  have hzP : Sized (putAt ⟨a, c⟩ (L.filter (keep a))) := ⟨by rw [hp.length_eq]; simp; omega, fun x hx => by
   rcases List.mem_cons.1 (hp.mem_iff.1 hx) with rfl | hx
   ·exact ha
   ·exact hz.2 x (List.mem_filter.1 hx).1⟩
  simp only [hc, decide_true, Bool.not_true, Bool.false_eq_true, if_false, if_true, and_self]
  rw [loWithout_some L a hlm, Option.bind_some, loPut_some _ _ _ (by omega), Option.bind_some, loIf_some _ hzP, Option.bind_some]
  cases hgp : good (putAt ⟨a, c⟩ (L.filter (keep a)))
  ·exact ⟨_, _, rfl, fun h => by cases h⟩
  ·exact ⟨_, _, rfl, fun _ => hgp⟩
 ·simp only [hc, decide_false, Bool.not_false, if_true]
  exact ⟨_, _, rfl, fun h => by cases h⟩
theorem loci_rounds (l : List Int) (hl : Bytes l) : ∀ (n : Nat) (L : List Loc) (k a s : Int), k = n → n ≤ 6 → Drawn L ∧ L.length ≤ 8 → (0 ≤ a ∧ a ≤ 1000 - 100 * n) → ∃ L' b t, spec_l1Cur_loci.L0 L k l a s = some (L', b, t) ∧ Drawn L' ∧ 0 ≤ b ∧ b ≤ 1100 := by
 intro n
 induction n with
 | zero =>
  intro L k a s hk _ hL ha
  obtain ⟨r, b, t, h1, h2, h3, h4, h5⟩ := pick_tells l hl a s 24 (by omega) (by omega)
  rw [spec_l1Cur_loci.L0_eq, if_neg (by omega), h1, Option.bind_some]
  simp only
  by_cases c0 : r = 0
  ·rw [if_pos c0]
   obtain ⟨w, b2, t2, k1, k2, k3, k4⟩ := anyReferent_tells l hl b t (by omega)
   simp only [k1, Option.bind_some]
   obtain ⟨c, b3, t3, m1, m2, m3⟩ := angleOf_tells l hl b2 t2 (by omega)
   simp only [m1, Option.bind_some]
   rw [if_pos (by omega)]
   refine ⟨_, _, _, rfl, ⟨by simp; omega, fun x hx => ?_⟩, m2, by omega⟩
   rcases List.mem_append.1 hx with hx | hx
   ·exact hL.1.2 x hx
   ·obtain rfl := List.mem_singleton.1 hx
    exact k2
  rw [if_neg c0]
  by_cases c1 : r = 1
  ·rw [if_pos c1]
   obtain ⟨q, b2, t2, k1, k2, k3, k4, k5⟩ := pick_tells l hl b t 2 (by omega) (by omega)
   simp only [k1, Option.bind_some]
   rw [wrap_in (x := 8 + q) (by omega) (by omega)]
   have many : ∀ (m : Nat) (o : List Loc), (o.length : Int) + m = 8 + q → Drawn o → ∃ L' b' t', spec_l1Cur_loci.L1 o (8 + q) l b2 t2 = some (L', b', t') ∧ Drawn L' ∧ 0 ≤ b' ∧ b' ≤ 1100 := by
    intro m
    induction m with
    | zero =>
     intro o hm ho
     rw [spec_l1Cur_loci.L1_eq, if_neg (by omega)]
     exact ⟨_, _, _, rfl, ho, by omega, by omega⟩
    | succ m ih =>
     intro o hm ho
     have k9 := k3 (by omega)
     have hs : ((⟨#[97, 98, 99, 100, 101, 102, 103, 104, 105]⟩ : ByteArray).extract ((o.length : Int)).toNat ((o.length : Int) + 1).toNat).size ≤ 8 := by
      rw [ByteArray.size_extract]
      have e : ((o.length : Int) + 1).toNat = o.length + 1 := by omega
      rw [e, Int.toNat_natCast]
      omega
     rw [spec_l1Cur_loci.L1_eq, if_pos (by omega), if_pos (by omega), wrap_in (x := (o.length : Int) + 1) (by omega) (by omega), if_pos (by omega), if_pos (by omega), if_pos (by omega), if_pos (by omega)]
     refine ih _ (by simp; omega) ⟨by simp; omega, fun x hx => ?_⟩
     rcases List.mem_append.1 hx with hx | hx
     ·exact ho.2 x hx
     ·obtain rfl := List.mem_singleton.1 hx
      show (_ ++ _ : ByteArray).size ≤ 9
      rw [ByteArray.size_append]
      have : (⟨#[120]⟩ : ByteArray).size = 1 := rfl
      omega
   exact many (8 + q).toNat [] (by simp; omega) ⟨by simp, by simp⟩
  ·rw [if_neg c1]
   exact ⟨_, _, _, rfl, hL.1, by omega, by omega⟩
 | succ n ih =>
  intro L k a s hk hn hL ha
  obtain ⟨w, b, t, h1, h2, h3, h4⟩ := referent_tells l hl a s (by omega)
  rw [spec_l1Cur_loci.L0_eq, if_pos (by omega), h1, Option.bind_some]
  obtain ⟨c, b2, t2, k1, k2, k3⟩ := angleOf_tells l hl b t (by omega)
  simp only [k1, Option.bind_some]
  obtain ⟨r, ok, p1, p4⟩ := put_spec L w c hL.1.sized (by omega) (by omega)
  simp only [p1, Option.bind_some]
  rw [wrap_in (x := k - 1) (by omega) (by omega)]
  cases ok
  ·rw [if_neg (by simp)]
   exact ih L (k - 1) b2 t2 (by omega) (by omega) hL (by omega)
  ·have q1 := p4 rfl
   rw [if_pos rfl]
   exact ih r (k - 1) b2 t2 (by omega) (by omega) ⟨⟨by have := (good_facts q1).1; omega, fun x hx => by have := good_short q1 x hx; omega⟩, (good_facts q1).1⟩ (by omega)
theorem loci_tells (l : List Int) (hl : Bytes l) : ∃ L b t, spec_l1Cur_loci.F l 0 0 = some (L, b, t) ∧ Drawn L ∧ 0 ≤ b ∧ b ≤ 1100 := by
 obtain ⟨r, b, t, h1, h2, h3, h4, h5⟩ := pick_tells l hl 0 0 6 (by omega) (by omega)
 have h6 := h3 (by omega)
 obtain ⟨n, rfl⟩ := Int.eq_ofNat_of_zero_le h2
 rw [spec_l1Cur_loci.F_eq, h1, Option.bind_some]
 exact loci_rounds l hl n [] n b t rfl (by omega) ⟨⟨by simp, by simp⟩, by simp⟩ (by omega)


/-! ### How far apart -/
def dst (a b : Int) : Int := if a < b then b - a else a - b
theorem distance_some (a b : Int) (ha : -1000000 ≤ a ∧ a ≤ 1000000) (hb : -1000000 ≤ b ∧ b ≤ 1000000) : impl_distance.f a b = some (dst a b) := by
 unfold impl_distance.f
 rw [wrap_in (by omega) (by omega), wrap_in (by omega) (by omega)]
 unfold mx dst
 congr 1
 split <;> split <;> omega
theorem abs_some (a b : Int) (ha : -1000000 ≤ a ∧ a ≤ 1000000) (hb : -1000000 ≤ b ∧ b ≤ 1000000) : spec_l1Abs.f (wrap64 (a - b)) = some (dst a b) := by
 unfold spec_l1Abs.f spec_l1Most.f
 rw [wrap_in (x := a - b) (by omega) (by omega), wrap_in (by omega) (by omega)]
 unfold dst
 split <;> split <;> simp <;> omega

/-! ### The nearest loci -/
def nearStep (a : Int) (s : Int × List ByteArray) (x : Loc) : Int × List ByteArray :=
 if dst x.f1 a < s.1 then (dst x.f1 a, [x.f0]) else if dst x.f1 a = s.1 then (s.1, s.2 ++ [x.f0]) else s
def near (l : List Loc) (a : Int) : Int × List ByteArray := l.foldl (nearStep a) (181, [])
theorem nearest_some (l : List Loc) (a : Int) (hl : l.length ≤ 8) (hx : ∀ x ∈ l, (-90 ≤ x.f1 ∧ x.f1 ≤ 90) ∧ 1 ≤ x.f0.size) (ha : -90 ≤ a ∧ a ≤ 90) : impl_nearestLoci.F l a = some (near l a) := by
 rw [impl_nearestLoci.F_eq]
 refine each (L := fun i => fun x6 x7 => impl_nearestLoci.L0 a x6 x7 l l.length i) l z58 (fun i t f => (∀ x ∈ t, x ∈ l) → ∀ s : Int × List ByteArray, s.2.length ≤ i → f s.1 s.2 = some (t.foldl (nearStep a) s)) ?_ ?_ (fun _ h => h) (181, []) (by simp)
 ·intro _ s _
  show impl_nearestLoci.L0 a _ _ l _ _ = _
  rw [impl_nearestLoci.L0_eq, if_neg (by omega)]; rfl
 ·intro i x t hi hxi _ _ ih hm s hs
  have h1 := (hx x (hm x (by simp))).1
  have ih' := ih (fun y hy => hm y (by simp [hy]))
  show impl_nearestLoci.L0 a _ _ l _ _ = _
  rw [impl_nearestLoci.L0_eq, if_pos (by omega), if_pos (by omega), if_pos (by omega), rd_loc, hxi, wrap_in (x := (i : Int) + 1) (by omega) (by omega), distance_some _ _ (by omega) (by omega), Option.bind_some, List.foldl_cons]
  by_cases h2 : dst x.f1 a < s.1
  ·rw [if_pos h2, if_pos rfl, if_pos (by decide)]
   refine (ih' (dst x.f1 a, [x.f0]) (by simp)).trans ?_
   rw [nearStep, if_pos h2]
  ·rw [if_neg h2]
   by_cases h3 : dst x.f1 a = s.1
   ·rw [if_pos h3, if_pos (by omega)]
    refine (ih' (s.1, s.2 ++ [x.f0]) (by simp; omega)).trans ?_
    rw [nearStep, if_neg h2, if_pos h3]
   ·rw [if_neg h3]
    refine (ih' s (by omega)).trans ?_
    rw [nearStep, if_neg h2, if_neg h3]
theorem near_inv (a : Int) : ∀ (t p : List Loc) (s : Int × List ByteArray), s.2 = (p.filter fun x => decide (dst x.f1 a = s.1)).map (·.f0) → (∀ x ∈ p, s.1 ≤ dst x.f1 a) →
 (t.foldl (nearStep a) s).2 = ((p ++ t).filter fun x => decide (dst x.f1 a = (t.foldl (nearStep a) s).1)).map (·.f0) ∧ ∀ x ∈ p ++ t, (t.foldl (nearStep a) s).1 ≤ dst x.f1 a
 | [], p, s, h1, h2 => by simpa using ⟨h1, h2⟩
 | x :: t, p, s, h1, h2 => by
  rw [List.foldl_cons, show p ++ x :: t = (p ++ [x]) ++ t from by simp]
  refine near_inv a t (p ++ [x]) (nearStep a s x) ?_ ?_
  ·unfold nearStep
   by_cases h3 : dst x.f1 a < s.1
   ·rw [if_pos h3]
    have : p.filter (fun y => decide (dst y.f1 a = dst x.f1 a)) = [] := by
     rw [List.filter_eq_nil_iff]
     intro y hy
     have := h2 y hy
     simp; omega
    simp [List.filter_append, this]
   ·rw [if_neg h3]
    by_cases h4 : dst x.f1 a = s.1
    ·rw [if_pos h4]; simp [List.filter_append, h4, h1]
    ·rw [if_neg h4]; simp [List.filter_append, h4, h1]
  ·intro y hy
   unfold nearStep
   rcases List.mem_append.1 hy with hy | hy
   ·have := h2 y hy
    split
    ·show dst x.f1 a ≤ _; omega
    ·split <;> exact this
   ·obtain rfl : y = x := by simpa using hy
    split
    ·exact Int.le_refl _
    ·split
     ·show s.1 ≤ _; omega
     ·omega
theorem near_spec (l : List Loc) (a : Int) : (near l a).2 = (l.filter fun x => decide (dst x.f1 a = (near l a).1)).map (·.f0) ∧ ∀ x ∈ l, (near l a).1 ≤ dst x.f1 a := by
 have := near_inv a l [] (181, []) (by simp) (by simp)
 rw [List.nil_append] at this; exact this

theorem least_some (l : List Loc) (a : Int) (hl : l.length ≤ 8) (hx : ∀ x ∈ l, (-90 ≤ x.f1 ∧ x.f1 ≤ 90) ∧ 1 ≤ x.f0.size) (ha : -90 ≤ a ∧ a ≤ 90) : spec_loLeast.F l a = some ((near l a).1, ((near l a).2.length : Int)) := by
 rw [spec_loLeast.F_eq]
 refine each (L := fun i => fun x6 x7 => spec_loLeast.L0 a x6 x7 l l.length i) l z58 (fun i t f => (∀ x ∈ t, x ∈ l) → ∀ s : Int × List ByteArray, s.2.length ≤ i → f s.1 s.2.length = some ((t.foldl (nearStep a) s).1, ((t.foldl (nearStep a) s).2.length : Int))) ?_ ?_ (fun _ h => h) (181, []) (by simp)
 ·intro _ s _
  show spec_loLeast.L0 a _ _ l _ _ = _
  rw [spec_loLeast.L0_eq, if_neg (by omega)]; rfl
 ·intro i x t hi hxi _ _ ih hm s hs
  have h1 := (hx x (hm x (by simp))).1
  have ih' := ih (fun y hy => hm y (by simp [hy]))
  show spec_loLeast.L0 a _ _ l _ _ = _
  rw [spec_loLeast.L0_eq, if_pos (by omega), if_pos (by omega), if_pos (by omega), rd_loc, hxi, wrap_in (x := (i : Int) + 1) (by omega) (by omega), abs_some _ _ (by omega) (by omega), Option.bind_some, List.foldl_cons]
  by_cases h2 : dst x.f1 a < s.1
  ·rw [if_pos h2]
   refine (ih' (dst x.f1 a, [x.f0]) (by simp)).trans ?_
   rw [nearStep, if_pos h2]
  ·rw [if_neg h2]
   by_cases h3 : dst x.f1 a = s.1
   ·rw [if_pos h3, wrap_in (by omega) (by omega)]
    have := ih' (s.1, s.2 ++ [x.f0]) (by simp; omega)
    simp only [List.length_append, List.length_singleton] at this
    rw [show (((s.2.length + 1 : Nat)) : Int) = (s.2.length : Int) + 1 from by omega] at this
    refine this.trans ?_
    rw [nearStep, if_neg h2, if_pos h3]
   ·rw [if_neg h3]
    refine (ih' s (by omega)).trans ?_
    rw [nearStep, if_neg h2, if_neg h3]

/-- Whom an angle means; the empty text for nobody. -/
def mt (l : List Loc) (a : Int) : ByteArray := if (near l a).1 > 20 then ⟨#[]⟩ else if (near l a).2.length = 1 then rdOf ByteArray.empty (near l a).2 0 else ⟨#[]⟩
theorem pointsAt_some (l : List Loc) (a : Int) (hl : l.length ≤ 8) (hx : ∀ x ∈ l, (-90 ≤ x.f1 ∧ x.f1 ≤ 90) ∧ 1 ≤ x.f0.size) (ha : -90 ≤ a ∧ a ≤ 90) : impl_pointsAt.F l a = some (mt l a) := by
 rw [impl_pointsAt.F_eq, nearest_some l a hl hx ha, Option.bind_some]
 unfold mt
 by_cases h1 : (near l a).1 > 20
 ·rw [if_pos h1, if_pos h1]
 ·rw [if_neg h1, if_neg h1]
  by_cases h2 : (near l a).2.length = 1
  ·rw [if_pos (by omega), if_pos (by omega), if_pos h2]
  ·rw [if_neg (by omega), if_neg h2]
theorem loMeans_some (l : List Loc) (a : Int) (hl : l.length ≤ 8) (hx : ∀ x ∈ l, (-90 ≤ x.f1 ∧ x.f1 ≤ 90) ∧ 1 ≤ x.f0.size) (ha : -90 ≤ a ∧ a ≤ 90) : spec_loMeans.F l a = some (mt l a, ((mt l a).toList != [])) := by
 have he : ((⟨#[]⟩ : ByteArray).toList != []) = false := by rw [toList_data]; rfl
 rw [spec_loMeans.F_eq, least_some l a hl hx ha, Option.bind_some]
 unfold mt
 by_cases h1 : (near l a).1 > 20
 ·rw [if_pos h1, if_pos h1, spec_loMeans.J0_eq, if_pos rfl, he]
 ·rw [if_neg h1, if_neg h1, spec_loMeans.J0_eq]
  by_cases h2 : (near l a).2.length = 1
  ·rw [if_neg (by simp [h2]), if_pos h2]
   obtain ⟨w, hw⟩ := List.length_eq_one_iff.1 h2
   have hw2 : rdOf ByteArray.empty (near l a).2 0 = w := by rw [hw]; rfl
   rw [hw2]
   have h3 := (near_spec l a).1
   rw [hw] at h3
   refine each (L := fun i => spec_loMeans.L0 a (near l a).1 l l.length i) l z58 (fun i t o => (∀ x ∈ t, x ∈ l) → [w] = (t.filter fun x => decide (dst x.f1 a = (near l a).1)).map (·.f0) → o = some (w, (w.toList != []))) ?_ ?_ (fun _ h => h) h3
   ·intro _ h4; simp at h4
   ·intro i x t hi hxi _ _ ih hm h4
    have h5 := hx x (hm x (by simp))
    show spec_loMeans.L0 a _ l _ _ = _
    rw [spec_loMeans.L0_eq, if_pos (by omega), if_pos (by omega), if_pos (by omega), rd_loc, hxi, wrap_in (x := (i : Int) + 1) (by omega) (by omega), abs_some _ _ (by omega) (by omega), Option.bind_some]
    by_cases h6 : dst x.f1 a = (near l a).1
    ·rw [if_pos h6]
     have h7 : w = x.f0 := by
      rw [List.filter_cons_of_pos (by simp [h6])] at h4
      simp at h4
      exact h4.1
     subst h7
     have h8 : (x.f0.toList != []) = true := by
      rw [toList_data, bne_iff_ne]
      intro e
      have := h5.2
      rw [size_data, e] at this
      simp at this
     rw [h8]
    ·rw [if_neg h6]
     rw [List.filter_cons_of_neg (by simp [h6])] at h4
     exact ih (fun y hy => hm y (by simp [hy])) h4
  ·rw [if_pos (by simp; omega), if_neg h2, he]



theorem good_each {l : List Loc} : ∀ (t : List Loc) (i : Nat), goodFrom l i t = true → ∀ k, (hk : k < t.length) → okAt l (i + k) t[k] = true
 | [], _, _, k, hk => absurd hk (by simp)
 | x :: t, i, h, k, hk => by
  simp only [goodFrom, Bool.and_eq_true] at h
  cases k with
  | zero => exact h.1
  | succ k =>
   have := good_each t (i + 1) h.2 k (by simpa using hk)
   simpa [Nat.add_assoc, Nat.add_comm 1 k] using this


theorem good_strict {l : List Loc} (hg : good l = true) : l.Pairwise (fun a b => a.f1 < b.f1) := by
 have adj : ∀ i, (h : i + 1 < l.length) → l[i].f1 < l[i + 1].f1 := by
  intro i h
  have ok := good_each l 0 hg (i + 1) h
  simp only [okAt, Bool.and_eq_true, Nat.zero_add] at ok
  have := of_decide_eq_true ok.2.2.1
  rcases this with h0 | h1
  ·omega
  ·rwa [Nat.add_sub_cancel, List.getD_eq_getElem?_getD, List.getElem?_eq_getElem (by omega), Option.getD_some] at h1
 have far : ∀ k i, (h : i + k + 1 < l.length) → l[i].f1 < l[i + k + 1].f1 := by
  intro k
  induction k with
  | zero => intro i h; exact adj i h
  | succ k ih =>
   intro i h
   have h1 := ih i (by omega)
   have h2 := adj (i + k + 1) (by omega)
   have e : i + (k + 1) + 1 = i + k + 1 + 1 := by omega
   simp only [e]
   omega
 rw [List.pairwise_iff_getElem]
 intro i j hi hj hij
 have := far (j - i - 1) i (by omega)
 have e : i + (j - i - 1) + 1 = j := by omega
 simpa only [e] using this
theorem dst_nn (a b : Int) : 0 ≤ dst a b := by unfold dst; split <;> omega
theorem near_nn (a : Int) : ∀ (t : List Loc) (s : Int × List ByteArray), 0 ≤ s.1 → 0 ≤ (t.foldl (nearStep a) s).1
 | [], _, h => h
 | x :: t, s, h => by
  rw [List.foldl_cons]
  refine near_nn a t _ ?_
  unfold nearStep
  split
  ·exact dst_nn _ _
  ·split <;> exact h
theorem strict_one {l : List Loc} (h : l.Pairwise (fun a b => a.f1 < b.f1)) {y : Loc} (hy : y ∈ l) : (l.filter fun x => decide (x.f1 = y.f1)) = [y] := by
 induction l with
 | nil => cases hy
 | cons x t ih =>
  rw [List.pairwise_cons] at h
  rcases List.mem_cons.1 hy with rfl | hy
  ·rw [List.filter_cons, if_pos (by simp)]
   congr 1
   rw [List.filter_eq_nil_iff]
   intro z hz
   have := h.1 z hz
   simp; omega
  ·have := h.1 y hy
   rw [List.filter_cons, if_neg (by simp; omega)]
   exact ih h.2 hy
/-- Who is put at an angle is meant by it. -/
theorem mt_of_mem {l : List Loc} (hg : good l = true) {y : Loc} (hy : y ∈ l) : mt l y.f1 = y.f0 := by
 obtain ⟨n1, n2⟩ := near_spec l y.f1
 have h0 : dst y.f1 y.f1 = 0 := by unfold dst; split <;> omega
 have h1 := n2 y hy
 have h2 := near_nn y.f1 l (181, []) (by decide)
 have h3 : (near l y.f1).1 = 0 := by
  have : 0 ≤ (near l y.f1).1 := h2
  omega
 have hd : ∀ x : Loc, decide (dst x.f1 y.f1 = 0) = decide (x.f1 = y.f1) := by
  intro x
  rw [decide_eq_decide]
  unfold dst
  split <;> omega
 rw [h3] at n1
 simp only [hd] at n1
 rw [strict_one (good_strict hg) hy] at n1
 unfold mt
 rw [h3, n1, if_neg (by omega), if_pos (by simp)]
 rfl

/-- What it says that an angle means somebody. -/
theorem mt_says {l : List Loc} {a : Int} (hg : good l = true) (h : (mt l a).toList ≠ []) : ∃ x ∈ l, x.f0 = mt l a ∧ dst x.f1 a ≤ 20 ∧ ∀ y ∈ l, y.f0 ≠ mt l a → dst x.f1 a < dst y.f1 a := by
 obtain ⟨n1, n2⟩ := near_spec l a
 have hm : (near l a).1 ≤ 20 ∧ (near l a).2.length = 1 ∧ mt l a = rdOf ByteArray.empty (near l a).2 0 := by
  unfold mt at h ⊢
  by_cases h1 : (near l a).1 > 20
  ·rw [if_pos h1] at h; exact absurd (show (⟨#[]⟩ : ByteArray).toList = [] from by decide +kernel) h
  rw [if_neg h1] at h ⊢
  by_cases h2 : (near l a).2.length = 1
  ·rw [if_pos h2]; exact ⟨by omega, h2, rfl⟩
  ·rw [if_neg h2] at h; exact absurd (show (⟨#[]⟩ : ByteArray).toList = [] from by decide +kernel) h
 obtain ⟨h1, h2, h3⟩ := hm
 obtain ⟨w, hw⟩ := List.length_eq_one_iff.1 h2
 rw [hw] at h3
 have h4 : mt l a = w := h3
 rw [hw] at n1
 have hf : ∃ x, (l.filter fun x => decide (dst x.f1 a = (near l a).1)) = [x] ∧ x.f0 = w := by
  generalize l.filter (fun x => decide (dst x.f1 a = (near l a).1)) = f at n1
  match f, n1 with
  | [x], n1 => exact ⟨x, rfl, by simpa using n1.symm⟩
 obtain ⟨x, hx, hxw⟩ := hf
 have hxm : x ∈ l.filter fun x => decide (dst x.f1 a = (near l a).1) := by rw [hx]; simp
 obtain ⟨x1, x2⟩ := List.mem_filter.1 hxm
 have x3 : dst x.f1 a = (near l a).1 := by simpa using x2
 refine ⟨x, x1, by rw [h4, hxw], by omega, fun y hy hne => ?_⟩
 have y1 := n2 y hy
 rcases Int.lt_or_eq_of_le y1 with h5 | h5
 ·omega
 ·exfalso
  have hym : y ∈ l.filter fun x => decide (dst x.f1 a = (near l a).1) := List.mem_filter.2 ⟨hy, by simpa using h5.symm⟩
  rw [hx] at hym
  obtain rfl := List.mem_singleton.1 hym
  exact hne (by rw [h4, hxw])



theorem nums_one (x : Int) : (strOfNums [x]).size = 1 := rfl
theorem spoilt_rounds (l : List Int) (hl : Bytes l) (w : ByteArray) (hw : 1 ≤ w.size ∧ w.size ≤ 1000) : ∀ (n : Nat) (s : ByteArray) (k a t : Int), k = n → s.size + n ≤ 1000 → (0 ≤ a ∧ a + 6 * n ≤ 1000000) → ∃ r b t', spec_l1Cur_spoilt.L0 s w k l a t = some (r, b, t') ∧ r.size ≤ s.size + n ∧ 0 ≤ b ∧ b ≤ a + 6 * n := by
 intro n
 induction n with
 | zero =>
  intro s k a t hk hs ha
  rw [spec_l1Cur_spoilt.L0_eq, if_neg (by omega), spec_l1Cur_spoilt.J1_eq, if_neg (by simp)]
  exact ⟨s, a, t, rfl, by omega, by omega, by omega⟩
 | succ n ih =>
  intro s k a t hk hs ha
  rw [spec_l1Cur_spoilt.L0_eq, if_pos (by omega)]
  by_cases h0 : (s.size : Int) > 0
  case neg =>
   rw [decide_eq_false h0, spec_l1Cur_spoilt.J1_eq, if_neg (by simp)]
   exact ⟨s, a, t, rfl, by omega, by omega, by omega⟩
  rw [decide_eq_true h0, spec_l1Cur_spoilt.J1_eq, if_pos rfl]
  obtain ⟨i, b1, t1, e1, p1, p2, p3, p4⟩ := pick_tells l hl a t s.size (by omega) (by omega)
  have p5 := p2 (by omega)
  rw [e1, Option.bind_some]
  simp only
  obtain ⟨j, b2, t2, e2, q1, q2, q3, q4⟩ := pick_tells l hl b1 t1 w.size (by omega) (by omega)
  have q5 := q2 (by omega)
  simp only [e2, Option.bind_some]
  rw [if_pos q1, if_pos q5]
  obtain ⟨c, b3, t3, e3, u1, u2, u3, u4⟩ := pick_tells l hl b2 t2 3 (by omega) (by omega)
  simp only [e3, Option.bind_some]
  have hy := nums_one (bt w j)
  generalize strOfNums [bt w j] = y at hy
  rw [wrap_in (x := i + 1) (by omega) (by omega), wrap_in (x := k - 1) (by omega) (by omega)]
  have step : ∀ s' : ByteArray, s'.size ≤ s.size + 1 → ∃ r b t', spec_l1Cur_spoilt.L0 s' w (k - 1) l b3 t3 = some (r, b, t') ∧ r.size ≤ s.size + (n + 1) ∧ 0 ≤ b ∧ b ≤ a + 6 * ((n + 1 : Nat) : Int) := fun s' hs' => by
   obtain ⟨r, b, t', e, z1, z2, z3⟩ := ih s' (k - 1) b3 t3 (by omega) (by omega) (by omega)
   exact ⟨r, b, t', e, by omega, z2, by omega⟩
  by_cases c0 : c = 0
  ·rw [if_pos c0, if_pos p1, if_pos (by omega), if_pos (by simp only [ByteArray.size_extract]; omega), if_pos (by simp only [ByteArray.size_append, ByteArray.size_extract]; omega)]
   exact step _ (by simp only [ByteArray.size_append, ByteArray.size_extract]; omega)
  rw [if_neg c0]
  by_cases c1 : c = 1
  ·rw [if_pos c1, if_pos p1, if_pos (by omega), if_pos (by simp only [ByteArray.size_extract]; omega), if_pos (by omega), if_pos (by omega), if_pos (by simp only [ByteArray.size_append, ByteArray.size_extract]; omega)]
   exact step _ (by simp only [ByteArray.size_append, ByteArray.size_extract]; omega)
  rw [if_neg c1, if_pos p1, if_pos (by omega), if_pos (by omega), if_pos (by omega), if_pos (by simp only [ByteArray.size_extract]; omega)]
  exact step _ (by simp only [ByteArray.size_append, ByteArray.size_extract]; omega)
theorem spoilt_tells (l : List Int) (hl : Bytes l) (a t : Int) (s w : ByteArray) (hw : 1 ≤ w.size ∧ w.size ≤ 1000) (hs : s.size ≤ 900) (ha : 0 ≤ a ∧ a ≤ 900000) : ∃ r b t', spec_l1Cur_spoilt.F l a t s w = some (r, b, t') ∧ r.size ≤ s.size + 2 ∧ 0 ≤ b ∧ b ≤ a + 20 := by
 obtain ⟨n, b1, t1, e1, p1, p2, p3, p4⟩ := pick_tells l hl a t 2 (by omega) (by omega)
 have p5 := p2 (by omega)
 obtain ⟨m, rfl⟩ := Int.eq_ofNat_of_zero_le p1
 rw [spec_l1Cur_spoilt.F_eq, e1, Option.bind_some]
 simp only
 rw [wrap_in (by omega) (by omega)]
 obtain ⟨r, b, t', e, z1, z2, z3⟩ := spoilt_rounds l hl w hw (m + 1) s (1 + (m : Int)) b1 t1 (by omega) (by omega) (by omega)
 rw [e]
 exact ⟨r, b, t', rfl, by omega, z2, by omega⟩

theorem rd_txt (l : List ByteArray) (i : Nat) : rdOf ByteArray.empty l (i : Int) = l.getD i ByteArray.empty := by simp [rdOf]
theorem rd_int (l : List Int) (i : Nat) : rd l (i : Int) = l.getD i 0 := by simp [rd]
theorem getD_set_self {α : Type} (l : List α) (i : Nat) (v z : α) (h : i < l.length) : (l.set i v).getD i z = v := by
 rw [List.getD_eq_getElem?_getD, List.getElem?_set_self (by omega), Option.getD_some]

theorem take_set {α : Type} (l : List α) (i : Nat) (v : α) (h : i < l.length) : (l.set i v).take (i + 1) = l.take i ++ [v] := by
 rw [List.take_succ_eq_append_getElem (by simpa using h), List.take_set_of_le (Nat.le_refl i)]
 simp

theorem clone_some (l : List Loc) (hl : l.length ≤ 1048576) : slices_Clone_Locus.f l = some l := by
 unfold slices_Clone_Locus.f
 rw [Option.bind_some, if_pos (by simp; omega)]; rfl
/-- Where element i lies at last. -/
def sp (n : Nat) (i : Nat) (x : Loc) : Loc := ⟨x.f0, if (n : Int) > 1 then wrap64 (wrap64 (Int.tdiv (wrap64 (180 * (i : Int))) (wrap64 ((n : Int) - 1))) - 90) else 0⟩
def spread (n : Nat) : List Loc → Nat → List Loc
 | [], _ => []
 | x :: t, i => sp n i x :: spread n t (i + 1)
theorem spread_length (n : Nat) : ∀ (t : List Loc) (i : Nat), (spread n t i).length = t.length
 | [], _ => rfl
 | x :: t, i => by rw [spread, List.length_cons, spread_length, List.length_cons]
theorem spec_spread (L : List Loc) (hl : L.length ≤ 8) : spec_SpreadLoci.L0 L [] L L.length 0 = some (spread L.length L 0, true) := by
 have := each (L := fun i => fun o => spec_SpreadLoci.L0 L o L L.length i) L z58 (fun i t f => ∀ o : List Loc, o.length ≤ i → f o = some (o ++ spread L.length t i, true)) ?_ ?_ [] (by simp)
 ·simpa using this
 ·intro o ho
  show spec_SpreadLoci.L0 L o L _ _ = _
  rw [spec_SpreadLoci.L0_eq, if_neg (by omega)]; simp [spread]
 ·intro i x t hi hx _ _ ih o ho
  show spec_SpreadLoci.L0 L o L _ _ = _
  rw [spec_SpreadLoci.L0_eq, if_pos (by omega), if_pos (by omega), if_pos (by omega), rd_loc, hx, wrap_in (x := (i : Int) + 1) (by omega) (by omega), spread, sp]
  by_cases h : (L.length : Int) > 1
  ·rw [if_pos h, if_neg (by rw [wrap_in (by omega) (by omega)]; omega), if_pos (by omega), if_pos h]
   refine (ih _ (by simp; omega)).trans ?_
   simp
  ·rw [if_neg h, if_pos (by omega), if_neg h]
   refine (ih _ (by simp; omega)).trans ?_
   simp
theorem impl_spread (L : List Loc) (hl : L.length ≤ 8) : impl_SpreadLoci.L0 L L.length 0 = some (spread L.length L 0, true) := by
 have := each (L := fun i => fun y => impl_SpreadLoci.L0 y L.length i) L z58 (fun i t f => ∀ y : List Loc, y.length = L.length → y.drop i = t → f y = some (y.take i ++ spread L.length t i, true)) ?_ ?_ L rfl (by simp)
 ·simpa using this
 ·intro y hy _
  show impl_SpreadLoci.L0 y _ _ = _
  rw [impl_SpreadLoci.L0_eq, if_neg (by omega)]; simp [spread, ← hy]
 ·intro i x t hi _ _ _ ih y hy hyd
  have hyi : i < y.length := by omega
  have h2 := List.drop_eq_getElem_cons hyi
  rw [hyd] at h2
  injection h2 with h3 h4
  have hg : y.getD i z58 = x := by rw [List.getD_eq_getElem?_getD, List.getElem?_eq_getElem hyi]; exact h3.symm
  have dr : ∀ v : Loc, (y.set i v).drop (i + 1) = t := fun v => by rw [List.drop_set_of_lt (by omega)]; exact h4.symm
  show impl_SpreadLoci.L0 y _ _ = _
  rw [impl_SpreadLoci.L0_eq, if_pos (by omega), if_pos (by omega), if_pos (by omega), Option.bind_some, Int.toNat_natCast, rd_loc, rd_loc, hg, getD_set_self _ _ _ _ hyi, List.set_set, wrap_in (x := (i : Int) + 1) (by omega) (by omega), spread, sp, hy]
  by_cases h : (L.length : Int) > 1
  ·rw [if_pos h, if_neg (by rw [wrap_in (by omega) (by omega)]; omega), if_pos h]
   refine (ih _ (by simpa using hy) (dr _)).trans ?_
   rw [take_set _ _ _ hyi, Int.add_comm (-90), show ∀ q : Int, q + -90 = q - 90 from fun q => rfl]
   simp
  ·rw [if_neg h, if_neg h]
   refine (ih _ (by simpa using hy) (dr _)).trans ?_
   rw [take_set _ _ _ hyi]
   simp




/-! ### Decimal digits -/
theorem dec_length (n : Nat) : (Lib.decDigits n).length ≤ n + 1 := by
 induction n using Nat.strongRecOn with
 | ind n ih =>
  rw [Lib.decDigits]
  split
  ·simp
  ·have := ih (n / 10) (by omega)
   rw [List.length_append]
   simp only [List.length_cons, List.length_nil]
   omega

/-! ### Numbers in decimal -/
theorem digit_fin : ∀ n : Fin 10, strOfNums [(wrap64 (48 + (n.val : Int))) % 256] = ⟨#[UInt8.ofNat (48 + n.val)]⟩ := by decide +kernel
theorem digit_some {n : Nat} (h : n < 10) : strOfNums [(wrap64 (48 + (n : Int))) % 256] = ⟨#[UInt8.ofNat (48 + n)]⟩ := digit_fin ⟨n, h⟩
theorem num_some (n : Nat) : n < 4611686018427387904 → spec_l1Num.F (n : Int) = some ⟨(Lib.decDigits n).toArray⟩ := by
 induction n using Nat.strongRecOn with
 | ind n ih =>
  intro hn
  rw [spec_l1Num.F_eq]
  by_cases c : n < 10
  ·rw [if_pos (by omega), Lib.decDigits_one c, digit_some c]
  ·have t1 : (n : Int).tdiv 10 = ((n / 10 : Nat) : Int) := by rw [Int.tdiv_eq_ediv_of_nonneg (by omega)]; omega
   have t2 : (n : Int).tmod 10 = ((n % 10 : Nat) : Int) := by rw [Int.tmod_eq_emod_of_nonneg (by omega)]; omega
   have hl := dec_length (n / 10)
   rw [if_neg (by omega), t1, wrap_in (by omega) (by omega), ih (n / 10) (by omega) (by omega), Option.bind_some, Option.bind_some, t2, digit_some (by omega)]
   have e : Lib.decDigits n = Lib.decDigits (n / 10) ++ [UInt8.ofNat (48 + n % 10)] := by rw [Lib.decDigits, dif_neg c]
   rw [if_pos (by simp only [ByteArray.size, List.size_toArray, List.length_cons, List.length_nil]; omega), e]
   first
   | rfl
   | (congr 1; done)
   | (congr 1; apply ext_data; rw [toList_data, toList_data]; simp)

/-! ### Small numbers with a sign, as texts -/
def it (n : Int) : ByteArray := ⟨(Lib.itoa n).toArray⟩
theorem it_data (n : Int) : (it n).data.toList = Lib.itoa n := rfl
theorem it_spec {n : Int} (h : -90 ≤ n ∧ n ≤ 90) : spec_l1Int.F n = some (it n) := by
 rw [spec_l1Int.F_eq]
 by_cases c : n < 0
 ·obtain ⟨m, rfl⟩ : ∃ m : Nat, n = -(m : Int) := ⟨n.natAbs, by omega⟩
  have hl := dec_length m
  have e : - -(m : Int) = (m : Int) := by omega
  have hd : (⟨(Lib.decDigits m).toArray⟩ : ByteArray).size = (Lib.decDigits m).length := by simp [ByteArray.size]
  rw [if_pos c, e, wrap_in (by omega) (by omega), num_some m (by omega), Option.bind_some, if_pos (by omega)]
  congr 1
  apply ext_data
  rw [toList_data, toList_data, it_data]
  unfold Lib.itoa
  rw [if_pos c]
  simp
 ·obtain ⟨m, rfl⟩ := Int.eq_ofNat_of_zero_le (show 0 ≤ n by omega)
  have e : it (m : Int) = ⟨(Lib.decDigits m).toArray⟩ := by
   unfold it Lib.itoa
   rw [if_neg c, Int.toNat_natCast]
  rw [if_neg c, num_some m (by omega), Option.bind_some, e]
theorem it_size {n : Int} (h : -90 ≤ n ∧ n ≤ 90) : (it n).size ≤ 92 := by
 rw [size_data, it_data]
 unfold Lib.itoa
 split
 ·have := dec_length n.natAbs
  rw [List.length_cons]; omega
 ·have := dec_length n.toNat
  omega

theorem it_impl {n : Int} (h : -90 ≤ n ∧ n ≤ 90) : strconv_Itoa.f n = some (it n) := by
 unfold strconv_Itoa.f; rw [if_pos (by omega)]; rfl

/-! ### Loci as texts -/
def lcTx (x : Loc) : ByteArray := ((x.f0 ++ ⟨#[64]⟩) ++ it x.f1) ++ ⟨#[59]⟩
def loTx (l : List Loc) (s : ByteArray) : ByteArray := l.foldl (fun s x => s ++ lcTx x) s
theorem lo_loop (l : List Loc) (hl : l.length ≤ 100) (hx : ∀ x ∈ l, x.f0.size ≤ 8 ∧ -90 ≤ x.f1 ∧ x.f1 ≤ 90) : spec_loText.F l = some (loTx l ⟨#[]⟩) ∧ impl_lociText.F l = some (loTx l ⟨#[]⟩) := by
 rw [spec_loText.F_eq, impl_lociText.F_eq]
 have n0 : ((⟨#[]⟩ : ByteArray)).size = 0 := rfl
 have := each (L := fun i => ((fun s => spec_loText.L0 s l l.length i : ByteArray → _), (fun s => impl_lociText.L0 s l l.length i : ByteArray → _))) l z58
  (fun i t f => (∀ x ∈ t, x ∈ l) → ∀ s : ByteArray, s.size ≤ 200 * i → f.1 s = some (loTx t s) ∧ f.2 s = some (loTx t s)) ?_ ?_ (fun _ h => h) ⟨#[]⟩ (by omega)
 ·exact this
 ·intro _ s _
  have hn : ¬ ((l.length : Int) < (l.length : Int)) := by omega
  show spec_loText.L0 s l _ _ = _ ∧ impl_lociText.L0 s l _ _ = _
  rw [spec_loText.L0_eq, impl_lociText.L0_eq, if_neg hn, if_neg hn]
  exact ⟨rfl, rfl⟩
 ·intro i x t hi hx' hd _ ih hm s hs
  obtain ⟨h8, h9⟩ := hx x (hm x (by simp))
  have hz := it_size h9
  have n1 : ((⟨#[64]⟩ : ByteArray)).size = 1 := rfl
  have n2 : ((⟨#[59]⟩ : ByteArray)).size = 1 := rfl
  have i1 : (i : Int) < (l.length : Int) := by omega
  have i2 : (0 : Int) ≤ (i : Int) := by omega
  have k1 : x.f0.size + 1 ≤ 9223372036854775807 := by omega
  have k2 : (x.f0 ++ (⟨#[64]⟩ : ByteArray)).size + (it x.f1).size ≤ 9223372036854775807 := by simp only [ByteArray.size_append, n1]; omega
  have k3 : ((x.f0 ++ (⟨#[64]⟩ : ByteArray)) ++ it x.f1).size + 1 ≤ 9223372036854775807 := by simp only [ByteArray.size_append, n1]; omega
  have k5 : (lcTx x).size ≤ 102 := by unfold lcTx; simp only [ByteArray.size_append, n1, n2]; omega
  have k4 : s.size + (((x.f0 ++ (⟨#[64]⟩ : ByteArray)) ++ it x.f1) ++ (⟨#[59]⟩ : ByteArray)).size ≤ 9223372036854775807 := by
   have : (((x.f0 ++ (⟨#[64]⟩ : ByteArray)) ++ it x.f1) ++ (⟨#[59]⟩ : ByteArray)) = lcTx x := rfl
   rw [this]; omega
  show spec_loText.L0 s l _ _ = _ ∧ impl_lociText.L0 s l _ _ = _
  rw [spec_loText.L0_eq, impl_lociText.L0_eq]
  simp only [i1, i2, if_true, rd_loc, hx', k1, k2, k3, k4, it_spec h9, it_impl h9, Option.bind_some, wrap_in (x := (i : Int) + 1) (by omega) (by omega)]
  exact ih (fun y hy => hm y (by simp [hy])) _ (by
   show (s ++ lcTx x).size ≤ _
   rw [ByteArray.size_append]; omega)
theorem lo_texts {l : List Loc} (h : good l = true) : spec_loText.F l = some (loTx l ⟨#[]⟩) ∧ impl_lociText.F l = some (loTx l ⟨#[]⟩) := by
 obtain ⟨g1, g2⟩ := good_facts h
 exact lo_loop l (by omega) (fun x hx => ⟨good_short h x hx, (g2 x hx).1⟩)



theorem itoa_facts : ∀ k : Fin 181, Lib.atoiAll (Lib.itoa ((k.val : Int) - 90)) = .ok ((k.val : Int) - 90) ∧ (Lib.itoa ((k.val : Int) - 90)).all (fun c => decide (c.toNat = 45 ∨ (48 ≤ c.toNat ∧ c.toNat ≤ 57))) = true := by decide +kernel
theorem itoa_at {n : Int} (h : -90 ≤ n ∧ n ≤ 90) : Lib.atoiAll (Lib.itoa n) = .ok n ∧ (Lib.itoa n).all (fun c => decide (c.toNat = 45 ∨ (48 ≤ c.toNat ∧ c.toNat ≤ 57))) = true := by
 have := itoa_facts ⟨(n + 90).toNat, by omega⟩
 have e : (((n + 90).toNat : Nat) : Int) - 90 = n := by omega
 simp only [e] at this
 exact this
theorem itoa_not {n : Int} (h : -90 ≤ n ∧ n ≤ 90) (c : UInt8) (hc : ¬ (c.toNat = 45 ∨ (48 ≤ c.toNat ∧ c.toNat ≤ 57))) : c ∉ Lib.itoa n := by
 intro hm
 have := List.all_eq_true.1 (itoa_at h).2 c hm
 simp only [decide_eq_true_eq] at this
 exact hc this
theorem decimal_it {n : Int} (h : -90 ≤ n ∧ n ≤ 90) : impl_decimal.f (it n) = some (n, true) := by
 have hz := it_size h
 unfold impl_decimal.f
 rw [if_pos (by omega), it_data, (itoa_at h).1]
 simp
theorem dec_some (t : ByteArray) (h : t.size ≤ 281474976710656) : ∃ v b, impl_decimal.f t = some (v, b) := by
 unfold impl_decimal.f
 rw [if_pos h]
 exact ⟨_, _, rfl⟩



/-! ### Texts cut and read -/
theorem cut_data (s : ByteArray) (a b : Nat) : (s.extract a b).data.toList = (s.data.toList.drop a).take (b - a) := by
 simp [List.take_drop]
def mkB (l : List UInt8) : ByteArray := ⟨l.toArray⟩
theorem mkB_data (s : ByteArray) : mkB s.data.toList = s := by
 obtain ⟨⟨l⟩⟩ := s; rfl
theorem data_mkB (l : List UInt8) : (mkB l).data.toList = l := rfl
theorem mkB_size (l : List UInt8) : (mkB l).size = l.length := by simp [mkB, ByteArray.size]
theorem data_inj {s t : ByteArray} (h : s.data.toList = t.data.toList) : s = t := by
 rw [← mkB_data s, ← mkB_data t, h]
theorem mkB_inj {l m : List UInt8} (h : mkB l = mkB m) : l = m := by
 rw [← data_mkB l, h, data_mkB]
theorem cut_mkB (s : ByteArray) (a b : Nat) : s.extract a b = mkB ((s.data.toList.drop a).take (b - a)) := data_inj (by rw [cut_data, data_mkB])
/-- The parts between a byte. -/
def splitFrom (b : UInt8) (cur : List UInt8) : List UInt8 → List (List UInt8)
 | [] => [cur]
 | c :: t => if c = b then cur :: splitFrom b [] t else splitFrom b (cur ++ [c]) t
theorem split_cons (b : UInt8) (cur : List UInt8) (c : UInt8) (t : List UInt8) : splitFrom b cur (c :: t) = if c = b then cur :: splitFrom b [] t else splitFrom b (cur ++ [c]) t := rfl
theorem split_none (b : UInt8) : ∀ (xs cur : List UInt8), b ∉ xs → splitFrom b cur xs = [cur ++ xs]
 | [], cur, _ => by simp [splitFrom]
 | c :: t, cur, h => by
  simp only [List.mem_cons, not_or] at h
  rw [split_cons, if_neg (fun e => h.1 e.symm), split_none b t _ h.2]; simp
theorem split_app (b : UInt8) : ∀ (p cur t : List UInt8), b ∉ p → splitFrom b cur (p ++ b :: t) = (cur ++ p) :: splitFrom b [] t
 | [], cur, t, _ => by rw [List.nil_append, split_cons, if_pos rfl, List.append_nil]
 | c :: p, cur, t, h => by
  simp only [List.mem_cons, not_or] at h
  rw [List.cons_append, split_cons, if_neg (fun e => h.1 e.symm), split_app b p _ t h.2]; simp
theorem split_ne (b : UInt8) : ∀ (xs cur : List UInt8), splitFrom b cur xs ≠ []
 | [], cur => by simp [splitFrom]
 | c :: t, cur => by
  rw [split_cons]
  split
  ·simp
  ·exact split_ne b t _
theorem split_one (b : UInt8) : ∀ (xs cur p : List UInt8), splitFrom b cur xs = [p] → p = cur ++ xs ∧ b ∉ xs
 | [], cur, p, h => by
  simp only [splitFrom, List.cons.injEq, and_true] at h
  simp [h]
 | c :: t, cur, p, h => by
  rw [split_cons] at h
  split at h
  ·simp only [List.cons.injEq] at h
   exact absurd h.2 (split_ne b t [])
  ·rename_i hc
   obtain ⟨h1, h2⟩ := split_one b t _ p h
   refine ⟨by rw [h1]; simp, ?_⟩
   simp only [List.mem_cons, not_or]
   exact ⟨fun e => hc e.symm, h2⟩
theorem split_more (b : UInt8) : ∀ (xs cur p : List UInt8) (ps : List (List UInt8)), splitFrom b cur xs = p :: ps → ps ≠ [] → ∃ r t, p = cur ++ r ∧ b ∉ r ∧ xs = r ++ b :: t ∧ splitFrom b [] t = ps
 | [], cur, p, ps, h, hp => by
  simp only [splitFrom, List.cons.injEq] at h
  exact absurd h.2.symm hp
 | c :: t, cur, p, ps, h, hp => by
  rw [split_cons] at h
  split at h
  ·rename_i hc
   simp only [List.cons.injEq] at h
   exact ⟨[], t, by simp [h.1], by simp, by simp [hc], h.2⟩
  ·rename_i hc
   obtain ⟨r, u, h1, h2, h3, h4⟩ := split_more b t _ p ps h hp
   refine ⟨c :: r, u, by rw [h1]; simp, ?_, by rw [h3]; rfl, h4⟩
   simp only [List.mem_cons, not_or]
   exact ⟨fun e => hc e.symm, h2⟩
theorem split_count (b : UInt8) : ∀ (xs cur : List UInt8), (splitFrom b cur xs).length ≤ xs.length + 1
 | [], cur => by simp [splitFrom]
 | c :: t, cur => by
  rw [split_cons]
  split
  ·have := split_count b t []
   simp only [List.length_cons]; omega
  ·have := split_count b t (cur ++ [c])
   simp only [List.length_cons]; omega
theorem split_some (s : ByteArray) (b : UInt8) (hs : s.size ≤ 1048576) : spec_l1Split.F s (b.toNat : Int) = some ((splitFrom b [] s.data.toList).map mkB) := by
 rw [spec_l1Split.F_eq]
 have hn := size_data s
 have key : ∀ (t : List UInt8) (i fr : Nat) (acc : List ByteArray), s.data.toList.drop i = t → fr ≤ i → i ≤ s.size → acc.length ≤ i → spec_l1Split.L0 s (b.toNat : Int) acc (fr : Int) (i : Int) = some (acc ++ (splitFrom b ((s.data.toList.drop fr).take (i - fr)) t).map mkB) := by
  intro t
  induction t with
  | nil =>
   intro i fr acc hd hf hi ha
   have : s.data.toList.length ≤ i := by simpa [List.drop_eq_nil_iff] using hd
   obtain rfl : i = s.size := by omega
   rw [spec_l1Split.L0_eq, if_neg (by omega), if_pos (by omega), if_pos (by omega), if_pos (by omega), Int.toNat_natCast, cut_mkB]
   rfl
  | cons c t ih =>
   intro i fr acc hd hf hi ha
   have hlt : i < s.data.toList.length := by
    rcases Nat.lt_or_ge i s.data.toList.length with h' | h'
    ·exact h'
    ·rw [List.drop_eq_nil_of_le h'] at hd; cases hd
   have h2 := List.drop_eq_getElem_cons hlt
   rw [hd] at h2
   injection h2 with h3 h4
   have hb : bt s (i : Int) = (c.toNat : Int) := by
    rw [bt_data s i (by omega), List.getD_eq_getElem?_getD, List.getElem?_eq_getElem hlt, ← h3]
    rfl
   rw [spec_l1Split.L0_eq, if_pos (by omega), if_pos (by omega), hb, wrap_in (x := (i : Int) + 1) (by omega) (by omega), split_cons]
   have hi1 : ((i : Int) + 1) = ((i + 1 : Nat) : Int) := by omega
   by_cases hc : c = b
   ·subst hc
    rw [if_pos rfl, if_pos (by omega), if_pos (by omega), if_pos (by omega), if_pos (by omega), if_pos rfl, hi1, ih (i + 1) (i + 1) _ h4.symm (by omega) (by omega) (by simp; omega), Int.toNat_natCast, Int.toNat_natCast, cut_mkB]
    simp
   ·have hne : ¬ ((c.toNat : Int) = (b.toNat : Int)) := fun e => hc (UInt8.toNat_inj.1 (by omega))
    rw [if_neg hne, if_neg hc, hi1, ih (i + 1) fr acc h4.symm (by omega) (by omega) (by omega)]
    congr 4
    rw [show i + 1 - fr = (i - fr) + 1 from by omega, List.take_add_one]
    congr 1
    rw [List.getElem?_drop, show fr + (i - fr) = i from by omega, List.getElem?_eq_getElem hlt, ← h3]
    rfl
 have := key s.data.toList 0 0 [] rfl (by omega) (by omega) (by simp)
 simpa using this
/-! ### Numbers read -/
def dig (c : UInt8) : Bool := decide (48 ≤ c.toNat ∧ c.toNat ≤ 57)
def valF (n : Nat) (l : List UInt8) : Nat := l.foldl (fun n c => 10 * n + (c.toNat - 48)) n
/-- A canonical decimal number of at most six digits, or -1. -/
def readV (l : List UInt8) : Int := if (1 ≤ l.length ∧ l.length ≤ 6) ∧ l.all dig = true ∧ (l.length > 1 → l.head? ≠ some 48) then (valF 0 l : Int) else -1
theorem read_loop (s : ByteArray) (hs : s.size ≤ 6) : spec_l1Read.L0 s 0 0 = some (if s.data.toList.all dig = true then (valF 0 s.data.toList : Int) else -1) := by
 have hn := size_data s
 refine each (L := fun i => fun n => spec_l1Read.L0 s n i) s.data.toList 0 (fun i t f => ∀ n : Nat, n < 10 ^ i → i + t.length ≤ 6 → f (n : Int) = some (if t.all dig = true then (valF n t : Int) else -1)) ?_ ?_ 0 (by decide) (by omega)
 ·intro n h1 h2
  show spec_l1Read.L0 s _ _ = _
  rw [spec_l1Read.L0_eq, if_neg (by omega)]; rfl
 ·intro i c t hi hc _ _ ih n h1 h2
  show spec_l1Read.L0 s _ _ = _
  have hb : bt s (i : Int) = (c.toNat : Int) := by rw [bt_data s i (by omega), hc]
  have h10 : (10 : Nat) ^ i ≤ 10 ^ 6 := Nat.pow_le_pow_right (by omega) (by omega)
  simp only [List.length_cons] at h2
  rw [spec_l1Read.L0_eq, if_pos (by omega), if_pos (by omega), hb]
  by_cases c1 : (c.toNat : Int) < 48
  ·have : dig c = false := by unfold dig; simp; omega
   rw [if_pos c1]; simp [this]
  rw [if_neg c1]
  by_cases c2 : (c.toNat : Int) > 57
  ·have : dig c = false := by unfold dig; simp; omega
   rw [if_pos c2]; simp [this]
  have hd : dig c = true := by unfold dig; simp; omega
  rw [if_neg c2, wrap_in (x := 10 * (n : Int)) (by omega) (by omega), wrap_in (x := (i : Int) + 1) (by omega) (by omega)]
  have e : (10 * (n : Int) + ((c.toNat : Int) - 48) % 256) = ((10 * n + (c.toNat - 48) : Nat) : Int) := by omega
  rw [wrap_in (by omega) (by omega), e]
  refine (ih (10 * n + (c.toNat - 48)) (by rw [Nat.pow_succ]; omega) (by omega)).trans ?_
  simp [hd, valF]
theorem read_some (s : ByteArray) (hs : s.size ≤ 1048576) : spec_l1Read.F s = some (readV s.data.toList) := by
 have hn := size_data s
 rw [spec_l1Read.F_eq, l1In_some, Option.bind_some]
 unfold readV
 rw [← hn]
 by_cases h : 1 ≤ s.size ∧ s.size ≤ 6
 case neg =>
  rw [if_neg (by simp; omega), spec_l1Read.J0_eq, if_pos rfl, if_neg (fun q => h q.1)]
 rw [if_pos (by simp; omega), if_pos (by omega)]
 have hh : bt s 0 = ((s.data.toList.getD 0 0).toNat : Int) := bt_data s 0 (by omega)
 have hd : s.data.toList.head? = some (s.data.toList.getD 0 0) := by
  cases he : s.data.toList with
  | nil => rw [he] at hn; have : s.size = 0 := hn; omega
  | cons x t => rfl
 have hz : (bt s 0 = 48) ↔ s.data.toList.head? = some 48 := by
  rw [hh, hd]
  constructor
  ·intro q
   congr 1
   exact UInt8.toNat_inj.1 (by rw [show (48 : UInt8).toNat = 48 from rfl]; omega)
  ·intro q
   rw [Option.some.inj q]; rfl
 have hl := read_loop s h.2
 by_cases c : bt s 0 = 48
 ·rw [if_pos c]
  by_cases c2 : (s.size : Int) > 1
  ·rw [decide_eq_true c2, spec_l1Read.J0_eq, if_pos rfl, if_neg]
   rintro ⟨_, _, q⟩
   exact q (by omega) (hz.1 c)
  ·rw [decide_eq_false c2, spec_l1Read.J0_eq, if_neg (by simp), hl]
   congr 1
   by_cases a : s.data.toList.all dig = true
   ·rw [if_pos a, if_pos ⟨h, a, fun q => absurd q (by omega)⟩]
   ·rw [if_neg a, if_neg (fun q => a q.2.1)]
 ·rw [if_neg c, spec_l1Read.J0_eq, if_neg (by simp), hl]
  congr 1
  by_cases a : s.data.toList.all dig = true
  ·rw [if_pos a, if_pos ⟨h, a, fun _ q => c (hz.2 q)⟩]
  ·rw [if_neg a, if_neg (fun q => a q.2.1)]
theorem head_app {l m : List UInt8} (h : l ≠ []) : (l ++ m).head? = l.head? := by
 cases l with
 | nil => exact absurd rfl h
 | cons a l => rfl
theorem val_snoc (l : List UInt8) (c : UInt8) (n : Nat) : valF n (l ++ [c]) = 10 * valF n l + (c.toNat - 48) := by
 simp [valF]
theorem dig_back {c : UInt8} (h : dig c = true) : UInt8.ofNat (48 + (c.toNat - 48)) = c := by
 unfold dig at h
 simp only [decide_eq_true_eq] at h
 rw [show 48 + (c.toNat - 48) = c.toNat from by omega]
 simp
/-- What is read canonically is the number's text. -/
theorem val_back (l : List UInt8) : l ≠ [] → l.all dig = true → (l.length > 1 → l.head? ≠ some 48) → Lib.decDigits (valF 0 l) = l ∧ (l.head? ≠ some 48 → 1 ≤ valF 0 l) := by
 have key : ∀ (n : Nat) (l : List UInt8), l.length = n → l ≠ [] → l.all dig = true → (l.length > 1 → l.head? ≠ some 48) → Lib.decDigits (valF 0 l) = l ∧ (l.head? ≠ some 48 → 1 ≤ valF 0 l) := by
  intro n
  induction n with
  | zero => intro l hn hl; exact absurd (List.eq_nil_of_length_eq_zero hn) hl
  | succ n ih =>
   intro l hn hl ha hh
   obtain ⟨m, c, rfl⟩ : ∃ m c, l = m ++ [c] := ⟨l.dropLast, l.getLast hl, (List.dropLast_concat_getLast hl).symm⟩
   simp only [List.length_append, List.length_cons, List.length_nil] at hn
   simp only [List.all_append, List.all_cons, List.all_nil, Bool.and_true, Bool.and_eq_true] at ha
   have hc := ha.2
   have hc2 := hc
   unfold dig at hc2
   simp only [decide_eq_true_eq] at hc2
   rw [val_snoc]
   by_cases hm : m = []
   ·subst hm
    simp only [List.nil_append]
    have e : valF 0 [] = 0 := rfl
    rw [e, Nat.mul_zero, Nat.zero_add, Lib.decDigits_one (by omega), dig_back hc]
    refine ⟨rfl, fun q => ?_⟩
    rcases Nat.lt_or_ge 48 c.toNat with h | h
    ·omega
    ·exfalso
     apply q
     simp only [List.head?_cons]
     congr 1
     exact UInt8.toNat_inj.1 (by rw [show (48 : UInt8).toNat = 48 from rfl]; omega)
   ·have hp : 0 < m.length := List.length_pos_iff.2 hm
    have h0 : m.head? ≠ some 48 := by
     have := hh (by simp; omega)
     rwa [head_app hm] at this
    obtain ⟨i1, i2⟩ := ih m (by omega) hm ha.1 (fun _ => h0)
    have i3 := i2 h0
    have e1 : (10 * valF 0 m + (c.toNat - 48)) / 10 = valF 0 m := by omega
    have e2 : (10 * valF 0 m + (c.toNat - 48)) % 10 = c.toNat - 48 := by omega
    refine ⟨?_, fun _ => by omega⟩
    rw [Lib.decDigits, dif_neg (by omega), e1, e2, i1, dig_back hc]
 exact key l.length l rfl
theorem ofNat_dig {n : Nat} (h : n < 10) : dig (UInt8.ofNat (48 + n)) = true ∧ (UInt8.ofNat (48 + n)).toNat = 48 + n := by
 have : (UInt8.ofNat (48 + n)).toNat = 48 + n := by rw [UInt8.toNat_ofNat']; omega
 refine ⟨?_, this⟩
 unfold dig
 rw [this]
 simp
 omega
theorem dec_facts (n : Nat) : (Lib.decDigits n).all dig = true ∧ valF 0 (Lib.decDigits n) = n ∧ Lib.decDigits n ≠ [] ∧ (1 ≤ n → (Lib.decDigits n).head? ≠ some 48) ∧ ((Lib.decDigits n).length > 1 → 1 ≤ n) := by
 induction n using Nat.strongRecOn with
 | ind n ih =>
  by_cases c : n < 10
  ·obtain ⟨d1, d2⟩ := ofNat_dig c
   rw [Lib.decDigits_one c]
   refine ⟨by rw [List.all_cons, List.all_nil, d1]; rfl, by rw [show valF 0 [UInt8.ofNat (48 + n)] = 10 * 0 + ((UInt8.ofNat (48 + n)).toNat - 48) from rfl, d2]; omega, by simp, fun h q => ?_, fun h => by simp at h⟩
   simp only [List.head?_cons, Option.some.injEq] at q
   have := congrArg UInt8.toNat q
   rw [d2] at this
   simp at this
   omega
  ·obtain ⟨i1, i2, i3, i4, i5⟩ := ih (n / 10) (by omega)
   obtain ⟨d1, d2⟩ := ofNat_dig (n := n % 10) (by omega)
   have e : Lib.decDigits n = Lib.decDigits (n / 10) ++ [UInt8.ofNat (48 + n % 10)] := by rw [Lib.decDigits, dif_neg c]
   rw [e, val_snoc, i2, d2]
   refine ⟨by rw [List.all_append, i1, List.all_cons, List.all_nil, d1]; rfl, by omega, by simp, fun _ => ?_, fun _ => by omega⟩
   rw [head_app i3]
   exact i4 (by omega)
theorem dec_len (k : Nat) : ∀ n : Nat, n < 10 ^ (k + 1) → (Lib.decDigits n).length ≤ k + 1 := by
 induction k with
 | zero => intro n hn; rw [Lib.decDigits_one (by simpa using hn)]; simp
 | succ k ih =>
  intro n hn
  by_cases c : n < 10
  ·rw [Lib.decDigits_one c]; simp
  ·have := ih (n / 10) (by rw [Nat.pow_succ] at hn; omega)
   rw [Lib.decDigits, dif_neg c, List.length_append]
   simp only [List.length_cons, List.length_nil]
   omega
theorem read_dec {n : Nat} (h : n < 1000000) : readV (Lib.decDigits n) = n := by
 obtain ⟨h1, h2, h3, h4, h5⟩ := dec_facts n
 have hl := dec_len 5 n (by simpa using h)
 have hp : 0 < (Lib.decDigits n).length := List.length_pos_iff.2 h3
 unfold readV
 rw [if_pos ⟨⟨by omega, hl⟩, h1, fun q => h4 (h5 q)⟩, h2]
theorem read_back {l : List UInt8} (h : 0 ≤ readV l) : l = Lib.decDigits (readV l).toNat ∧ readV l < 1000000 := by
 unfold readV at h ⊢
 split at h
 case isFalse => omega
 case isTrue q =>
  have hne : l ≠ [] := fun e => by subst e; simp at q
  have := (val_back l hne q.2.1 q.2.2).1
  rw [if_pos q, Int.toNat_natCast, this]
  refine ⟨rfl, ?_⟩
  have bound : ∀ (t : List UInt8) (n i : Nat), n < 10 ^ i → t.all dig = true → valF n t < 10 ^ (i + t.length) := by
   intro t
   induction t with
   | nil => intro n i hn _; simpa [valF] using hn
   | cons c t ih =>
    intro n i hn ha
    simp only [List.all_cons, Bool.and_eq_true] at ha
    have hc := ha.1
    unfold dig at hc
    simp only [decide_eq_true_eq] at hc
    have := ih (10 * n + (c.toNat - 48)) (i + 1) (by rw [Nat.pow_succ]; omega) ha.2
    rw [List.length_cons, show i + (t.length + 1) = i + 1 + t.length from by omega]
    exact this
  have b := bound l 0 0 (by decide) q.2.1
  have : (10 : Nat) ^ (0 + l.length) ≤ 10 ^ 6 := Nat.pow_le_pow_right (by omega) (by omega)
  have e : (10 : Nat) ^ 6 = 1000000 := rfl
  omega

/-! ### Texts cut at a byte -/
theorem idx_none (c : UInt8) : ∀ l : List UInt8, c ∉ l → Lib.indexByte l c = -1
 | [], _ => rfl
 | b :: l, h => by
  simp only [List.mem_cons, not_or] at h
  have hb : (b == c) = false := by simpa using fun e : b = c => h.1 e.symm
  rw [Lib.indexByte, hb, idx_none c l h.2]; rfl
theorem idx_at (c : UInt8) (t : List UInt8) : ∀ p : List UInt8, c ∉ p → Lib.indexByte (p ++ c :: t) c = p.length
 | [], _ => by simp [Lib.indexByte]
 | b :: p, h => by
  simp only [List.mem_cons, not_or] at h
  have hb : (b == c) = false := by simpa using fun e : b = c => h.1 e.symm
  have hn : (((p.length : Int)) == -1) = false := by
   rw [beq_eq_false_iff_ne]; omega
  rw [List.cons_append, Lib.indexByte, hb, idx_at c t p h.2, hn]
  simp
theorem cut_none (s : ByteArray) (c : UInt8) (h : c ∉ s.data.toList) : strings_Cut.f s ⟨#[c]⟩ = some (s, ⟨#[]⟩, false) := by
 unfold strings_Cut.f stringslite_Cut.f stringslite_Index.f
 rw [if_pos (show (⟨#[c]⟩ : ByteArray).size = 1 from rfl), show (⟨#[c]⟩ : ByteArray).data.toList.getD 0 0 = c from rfl, idx_none c _ h]
 rfl
theorem cut_at (s : ByteArray) (c : UInt8) (p t : List UInt8) (hs : s.size ≤ 4611686018427387904) (h : s.data.toList = p ++ c :: t) (hp : c ∉ p) : strings_Cut.f s ⟨#[c]⟩ = some (mkB p, mkB t, true) := by
 have hn := size_data s
 have hl : s.data.toList.length = p.length + (t.length + 1) := by rw [h]; simp
 unfold strings_Cut.f stringslite_Cut.f stringslite_Index.f
 have one : (⟨#[c]⟩ : ByteArray).size = 1 := rfl
 rw [if_pos one, show (⟨#[c]⟩ : ByteArray).data.toList.getD 0 0 = c from rfl, h, idx_at c t p hp, one]
 simp only [Option.bind_some]
 have e1 : ((p.length : Int)) + ((1 : Nat) : Int) = ((p.length + 1 : Nat) : Int) := by omega
 rw [if_pos (by omega), if_pos (by omega), if_pos (by omega), e1, wrap_in (by omega) (by omega), if_pos (by omega), if_pos (by omega), Int.toNat_natCast, Int.toNat_natCast, cut_mkB, cut_mkB, h]
 have e2 : ((p ++ c :: t).drop 0).take (p.length - 0) = p := by simp
 have e3 : ((p ++ c :: t).drop (p.length + 1)).take (s.size - (p.length + 1)) = t := by
  rw [← List.drop_drop, List.drop_left, List.drop_succ_cons, List.drop_zero]
  exact List.take_of_length_le (by omega)
 rw [e2, e3]
 rfl
/-- Where a byte is first. -/
theorem first_at (c : UInt8) : ∀ l : List UInt8, c ∈ l → ∃ p t, l = p ++ c :: t ∧ c ∉ p
 | [], h => by cases h
 | b :: l, h => by
  by_cases hb : b = c
  ·exact ⟨[], l, by rw [hb]; rfl, by simp⟩
  ·obtain ⟨p, t, h1, h2⟩ := first_at c l (by
    rcases List.mem_cons.1 h with h | h
    ·exact absurd h.symm hb
    ·exact h)
   exact ⟨b :: p, t, by rw [h1]; rfl, by simp only [List.mem_cons, not_or]; exact ⟨fun e => hb e.symm, h2⟩⟩

theorem cut_any (s : ByteArray) (c : UInt8) (hs : s.size ≤ 4611686018427387904) : ∃ x y b, strings_Cut.f s ⟨#[c]⟩ = some (x, y, b) ∧ x.size ≤ s.size ∧ y.size ≤ s.size := by
 by_cases hm : c ∈ s.data.toList
 ·obtain ⟨p, t, h1, h2⟩ := first_at c _ hm
  have hn := size_data s
  have hl : s.data.toList.length = p.length + (t.length + 1) := by rw [h1]; simp
  exact ⟨_, _, _, cut_at s c p t hs h1 h2, by rw [mkB_size]; omega, by rw [mkB_size]; omega⟩
 ·exact ⟨_, _, _, cut_none s c hm, Nat.le_refl _, by show 0 ≤ _; omega⟩
/-- Two readers that read just what is written agree. -/
theorem parse_agree {α ρ : Type} {E : α → ρ} {V : α → Prop} {z : ρ} {S I : Option ρ}
 (S1 : ∀ v, V v → S = some (E v)) (S2 : S = some z ∨ ∃ v, V v ∧ S = some (E v)) (I1 : ∀ v, V v → I = some (E v)) (I2 : I = some z ∨ ∃ v, V v ∧ I = some (E v)) : ∃ R, S = some R ∧ I = some R := by
 rcases S2 with h | ⟨v, hv, h⟩
 ·rcases I2 with h2 | ⟨v, hv, h2⟩
  ·exact ⟨z, h, h2⟩
  ·exact ⟨_, S1 v hv, h2⟩
 ·exact ⟨_, h, I1 v hv⟩




theorem read_lt (l : List UInt8) : readV l < 1000000 := by
 by_cases h : 0 ≤ readV l
 ·exact (read_back h).2
 ·omega
theorem read_ge (l : List UInt8) : -1 ≤ readV l := by
 unfold readV
 split <;> omega
theorem tail_cut (s : ByteArray) : s.extract 1 s.size = mkB s.data.toList.tail := by
 rw [cut_mkB]
 congr 1
 have hn := size_data s
 cases h : s.data.toList with
 | nil => simp
 | cons c t =>
  rw [h] at hn
  simp only [List.length_cons] at hn
  rw [List.drop_succ_cons, List.drop_zero, List.tail_cons]
  exact List.take_of_length_le (by omega)
theorem head_bt (s : ByteArray) (h : 0 < s.size) : bt s 0 = 45 ↔ s.data.toList.head? = some 45 := by
 have hb : bt s 0 = ((s.data.toList.getD 0 0).toNat : Int) := bt_data s 0 h
 have hn := size_data s
 rw [hb]
 clear hb
 generalize s.data.toList = l at hn ⊢
 cases l with
 | nil => rw [List.length_nil] at hn; omega
 | cons c t =>
  rw [List.head?_cons, List.getD_cons_zero]
  constructor
  ·intro k
   have k2 : c.toNat = 45 := Int.ofNat_inj.1 (show ((c.toNat : Nat) : Int) = ((45 : Nat) : Int) from k)
   have : c = 45 := UInt8.toNat_inj.1 (k2.trans rfl)
   rw [this]
  ·intro k
   simp only [Option.some.injEq] at k
   rw [k]; rfl

/-! ### An angle read -/
theorem int_text {n : Int} (h : -1000000 ≤ n ∧ n ≤ 1000000) : spec_l1Int.F n = some (it n) := by
 rw [spec_l1Int.F_eq]
 by_cases c : n < 0
 ·obtain ⟨m, rfl⟩ : ∃ m : Nat, n = -(m : Int) := ⟨n.natAbs, by omega⟩
  have hl := dec_length m
  have e : - -(m : Int) = (m : Int) := by omega
  have hd : (⟨(Lib.decDigits m).toArray⟩ : ByteArray).size = (Lib.decDigits m).length := by simp [ByteArray.size]
  rw [if_pos c, e, wrap_in (by omega) (by omega), num_some m (by omega), Option.bind_some, if_pos (by omega)]
  congr 1
  apply ext_data
  rw [toList_data, toList_data, it_data]
  unfold Lib.itoa
  rw [if_pos c]
  simp
 ·obtain ⟨m, rfl⟩ := Int.eq_ofNat_of_zero_le (show 0 ≤ n by omega)
  have e : it (m : Int) = ⟨(Lib.decDigits m).toArray⟩ := by
   unfold it Lib.itoa
   rw [if_neg c, Int.toNat_natCast]
  rw [if_neg c, num_some m (by omega), Option.bind_some, e]
def loV (l : List UInt8) : Int := if 1 < l.length ∧ l.head? = some 45 then (if Lib.itoa (-(readV l.tail)) = l then -(readV l.tail) else 1000) else (if Lib.itoa (readV l) = l then readV l else 1000)
theorem it_toList (n : Int) (s : ByteArray) : (it n).toList = s.toList ↔ Lib.itoa n = s.data.toList := by rw [toList_data, toList_data, it_data]
theorem loRead_some (s : ByteArray) (hs : s.size ≤ 1048576) : spec_loRead.F s = some (loV s.data.toList) := by
 have hn := size_data s
 have h1 := read_lt s.data.toList.tail
 have h2 := read_ge s.data.toList.tail
 have h3 := read_lt s.data.toList
 have h4 := read_ge s.data.toList
 have htz : (mkB s.data.toList.tail).size ≤ 1048576 := by rw [mkB_size, List.length_tail]; omega
 have rest : spec_loRead.J0 s (readV s.data.toList) false = some (if Lib.itoa (readV s.data.toList) = s.data.toList then readV s.data.toList else 1000) := by
  rw [spec_loRead.J0_eq, if_neg (by simp), int_text (by omega), Option.bind_some]
  by_cases c : Lib.itoa (readV s.data.toList) = s.data.toList
  ·rw [if_pos c, if_pos ((it_toList _ _).2 c)]
  ·rw [if_neg c, if_neg (fun h => c ((it_toList _ _).1 h))]
 rw [spec_loRead.F_eq, read_some s hs, Option.bind_some]
 unfold loV
 by_cases c1 : (s.size : Int) > 1
 case neg => rw [if_neg c1, rest]; exact congrArg some (if_neg (fun h => by omega)).symm
 rw [if_pos c1, if_pos (by omega)]
 by_cases c2 : s.data.toList.head? = some 45
 case neg =>
  have : (bt s 0 == 45) = false := by rw [beq_eq_false_iff_ne]; exact fun h => c2 ((head_bt s (by omega)).1 h)
  rw [this, rest]; exact congrArg some (if_neg (fun h => c2 h.2)).symm
 have : (bt s 0 == 45) = true := by rw [beq_iff_eq]; exact (head_bt s (by omega)).2 c2
 rw [this, spec_loRead.J0_eq, if_pos rfl, if_pos (by omega), tail_cut, read_some _ htz, data_mkB, Option.bind_some, wrap_in (by omega) (by omega), int_text (by omega), Option.bind_some, if_pos (show 1 < s.data.toList.length ∧ s.data.toList.head? = some 45 from ⟨by omega, c2⟩)]
 by_cases c : Lib.itoa (-(readV s.data.toList.tail)) = s.data.toList
 ·rw [if_pos c, if_pos ((it_toList _ _).2 c)]
 ·rw [if_neg c, if_neg (fun h => c ((it_toList _ _).1 h))]
theorem loV_back {l : List UInt8} (h : -90 ≤ loV l ∧ loV l ≤ 90) : Lib.itoa (loV l) = l := by
 unfold loV at h ⊢
 split at h
 ·rename_i h1
  rw [if_pos h1]
  split at h
  ·rename_i h2; rw [if_pos h2]; exact h2
  ·omega
 ·rename_i h1
  rw [if_neg h1]
  split at h
  ·rename_i h2; rw [if_pos h2]; exact h2
  ·omega
theorem loV_facts : ∀ k : Fin 181, loV (Lib.itoa ((k.val : Int) - 90)) = (k.val : Int) - 90 := by decide +kernel
theorem loV_it {n : Int} (h : -90 ≤ n ∧ n ≤ 90) : loV (Lib.itoa n) = n := by
 have := loV_facts ⟨(n + 90).toNat, by omega⟩
 have e : (((n + 90).toNat : Nat) : Int) - 90 = n := by omega
 simpa only [e] using this
theorem decimal_back {t : ByteArray} {v : Int} (h : impl_decimal.f t = some (v, true)) : Lib.itoa v = t.data.toList := by
 unfold impl_decimal.f at h
 split at h
 ·rename_i h0
  injection h with h
  split at h
  ·rename_i u hu
   split at h
   ·rename_i h2
    injection h with h3 h4
    rw [← h3]; exact h2
   ·injection h with _ h4; cases h4
  ·injection h with _ h4; cases h4
 ·cases h
/-- Both readers read an angle where one is written, and none elsewhere. -/
theorem read_angle (t : ByteArray) (ht : t.size ≤ 1048576) : ∃ a v b, spec_loRead.F t = some a ∧ impl_decimal.f t = some (v, b) ∧ ((-90 ≤ a ∧ a ≤ 90) ↔ (b = true ∧ -90 ≤ v ∧ v ≤ 90)) ∧ ((-90 ≤ a ∧ a ≤ 90) → v = a) := by
 obtain ⟨v, b, hd⟩ := dec_some t (by omega)
 refine ⟨loV t.data.toList, v, b, loRead_some t ht, hd, ⟨fun h => ?_, fun h => ?_⟩, fun h => ?_⟩
 ·have e := loV_back h
  have e2 : it (loV t.data.toList) = t := by rw [← mkB_data t]; show mkB (Lib.itoa _) = _; rw [data_mkB, e]
  have := decimal_it h
  rw [e2, hd] at this
  injection this with this
  injection this with h1 h2
  exact ⟨h2, by rw [h1]; exact h⟩
 ·obtain ⟨rfl, h1⟩ := h
  have e := decimal_back hd
  rw [← e, loV_it h1]; exact h1
 ·have e := loV_back h
  have e2 : it (loV t.data.toList) = t := by rw [← mkB_data t]; show mkB (Lib.itoa _) = _; rw [data_mkB, e]
  have := decimal_it h
  rw [e2, hd] at this
  injection this with this
  injection this with h1 h2


theorem cuts_ne (e : Nat) (c : UInt8) : ∀ xs : List UInt8, cutsAt e c xs ≠ []
 | [] => by simp [cutsAt]
 | x :: t => by rw [cutsAt]; split <;> simp
theorem cuts_split (c : UInt8) : ∀ (xs cur : List UInt8), splitFrom c cur xs = (cur ++ (cutsAt 0 c xs).headD []) :: (cutsAt 0 c xs).tail
 | [], cur => by simp [splitFrom, cutsAt]
 | x :: t, cur => by
  rw [split_cons, cutsAt]
  have ih := cuts_split c t
  have hne := cuts_ne 0 c t
  by_cases hx : x = c
  ·rw [if_pos hx, if_pos hx, ih []]
   cases h : cutsAt 0 c t with
   | nil => exact absurd h hne
   | cons p ps => simp
  ·rw [if_neg hx, if_neg hx, ih (cur ++ [x])]
   simp
theorem cuts_eq (c : UInt8) (xs : List UInt8) : cutsAt 0 c xs = splitFrom c [] xs := by
 rw [cuts_split]
 cases h : cutsAt 0 c xs with
 | nil => exact absurd h (cuts_ne 0 c xs)
 | cons p ps => simp
theorem cuts_size {e : Nat} (he : e ≤ 1) (c : UInt8) : ∀ (xs : List UInt8), ∀ p ∈ cutsAt e c xs, p.length ≤ xs.length
 | [], p, hp => by simp [cutsAt] at hp; simp [hp]
 | x :: t, p, hp => by
  rw [cutsAt] at hp
  have ih := cuts_size he c t
  rw [List.length_cons]
  by_cases hx : x = c
  ·rw [if_pos hx] at hp
   rcases List.mem_cons.1 hp with rfl | hp
   ·rw [List.length_replicate]; omega
   ·have := ih p hp; omega
  ·rw [if_neg hx] at hp
   cases h : cutsAt e c t with
   | nil => exact absurd h (cuts_ne e c t)
   | cons q qs =>
    rw [h] at hp ih
    rcases List.mem_cons.1 hp with rfl | hp
    ·have := ih q (by simp); simp; omega
    ·have := ih p (List.mem_cons_of_mem _ hp); omega

theorem lower_from (l : List Loc) : ∀ (t : List Loc) (i : Nat), goodFrom l i t = true → ∀ x ∈ t, isWord 97 122 x.f0 = true
 | [], _, _ => by simp
 | x :: t, i, h => by
  simp only [goodFrom, okAt, Bool.and_eq_true] at h
  intro y hy
  rcases List.mem_cons.1 hy with rfl | hy
  ·exact h.1.1
  ·exact lower_from l t (i + 1) h.2 y hy
theorem lower_not {g : ByteArray} (h : isWord 97 122 g = true) (c : UInt8) (hc : ¬ (97 ≤ c.toNat ∧ c.toNat ≤ 122)) : c ∉ g.data.toList := by
 intro hm
 simp only [isWord, inRange, Bool.and_eq_true] at h
 have := List.all_eq_true.1 h.2 c hm
 simp only [decide_eq_true_eq] at this
 exact hc this
def lcL (x : Loc) : List UInt8 := x.f0.data.toList ++ 64 :: Lib.itoa x.f1
theorem lcTx_data (x : Loc) : (lcTx x).data.toList = lcL x ++ [59] := by
 unfold lcTx lcL
 simp [it_data]
theorem loTx_data : ∀ (l : List Loc) (s : ByteArray), (loTx l s).data.toList = s.data.toList ++ l.flatMap (fun x => lcL x ++ [59])
 | [], s => by simp [loTx]
 | x :: l, s => by
  have := loTx_data l (s ++ lcTx x)
  show (loTx l (s ++ lcTx x)).data.toList = _
  rw [this, ByteArray.data_append, Array.toList_append, lcTx_data, List.flatMap_cons, List.append_assoc]
/-- What is told of each locus of a good list. -/
def Okl (x : Loc) : Prop := isWord 97 122 x.f0 = true ∧ -90 ≤ x.f1 ∧ x.f1 ≤ 90
theorem okl_of {l : List Loc} (h : good l = true) : ∀ x ∈ l, Okl x := fun x hx => ⟨lower_from l l 0 h x hx, ((good_facts h).2 x hx).1⟩
theorem lcL_not {x : Loc} (h : Okl x) : (59 : UInt8) ∉ lcL x := by
 unfold lcL
 simp only [List.mem_append, List.mem_cons, not_or]
 exact ⟨lower_not h.1 59 (by decide), by decide, itoa_not h.2 59 (by decide)⟩
theorem lcL_size {x : Loc} (h : Okl x) : (lcL x).length ≤ 200 := by
 have h1 := h.1
 simp only [isWord, Bool.and_eq_true, decide_eq_true_eq] at h1
 have h2 := it_size h.2
 rw [size_data, it_data] at h2
 have h3 := size_data x.f0
 unfold lcL
 rw [List.length_append, List.length_cons]
 omega
theorem split_loci : ∀ l : List Loc, (∀ x ∈ l, Okl x) → splitFrom 59 [] (l.flatMap fun x => lcL x ++ [59]) = l.map lcL ++ [[]]
 | [], _ => rfl
 | x :: l, h => by
  rw [List.flatMap_cons, List.append_assoc, List.singleton_append, split_app 59 (lcL x) [] _ (lcL_not (h x (by simp))), split_loci l (fun y hy => h y (by simp [hy]))]
  rfl
theorem cuts_app (e : Nat) (c : UInt8) (t : List UInt8) : ∀ p : List UInt8, c ∉ p → cutsAt e c (p ++ c :: t) = (p ++ List.replicate e c) :: cutsAt e c t
 | [], _ => by
  show cutsAt e c (c :: t) = _
  rw [cutsAt, if_pos rfl]; rfl
 | x :: p, h => by
  simp only [List.mem_cons, not_or] at h
  rw [List.cons_append, cutsAt, if_neg (fun hx => h.1 hx.symm), cuts_app e c t p h.2]
  rfl
theorem cuts_loci : ∀ l : List Loc, (∀ x ∈ l, Okl x) → cutsAt 1 59 (l.flatMap fun x => lcL x ++ [59]) = l.map (fun x => lcL x ++ [59]) ++ [[]]
 | [], _ => rfl
 | x :: l, h => by
  rw [List.flatMap_cons, List.append_assoc, List.singleton_append, cuts_app 1 59 _ (lcL x) (lcL_not (h x (by simp))), cuts_loci l (fun y hy => h y (by simp [hy]))]
  rfl
theorem trim_any (x : ByteArray) (hx : x.size ≤ 4611686018427387904) : ∃ y, strings_TrimSuffix.f x ⟨#[59]⟩ = some y ∧ y.size ≤ x.size := by
 unfold strings_TrimSuffix.f stringslite_TrimSuffix.f stringslite_HasSuffix.f
 have one : (⟨#[59]⟩ : ByteArray).size = 1 := rfl
 rw [one]
 by_cases h1 : (x.size : Int) ≥ ((1 : Nat) : Int)
 ·rw [if_pos h1, wrap_in (x := (x.size : Int) - ((1 : Nat) : Int)) (by omega) (by omega), if_pos (by omega), if_pos (by omega), Option.bind_some]
  split
  ·rw [if_pos (by omega), if_pos (by omega), Option.bind_some]
   exact ⟨_, rfl, by rw [ByteArray.size_extract]; omega⟩
  ·exact ⟨_, rfl, Nat.le_refl _⟩
 ·rw [if_neg h1, Option.bind_some, if_neg (by simp), Option.bind_some]
  exact ⟨_, rfl, Nat.le_refl _⟩
theorem trim_at (q : List UInt8) (hq : q.length ≤ 1000) : strings_TrimSuffix.f (mkB (q ++ [59])) ⟨#[59]⟩ = some (mkB q) := by
 unfold strings_TrimSuffix.f stringslite_TrimSuffix.f stringslite_HasSuffix.f
 have one : (⟨#[59]⟩ : ByteArray).size = 1 := rfl
 have hz : (mkB (q ++ [59])).size = q.length + 1 := by rw [mkB_size, List.length_append]; rfl
 have e0 : ((q.length + 1 : Nat) : Int) - ((1 : Nat) : Int) = (q.length : Int) := by omega
 have e1 : ((mkB (q ++ [59])).extract q.length (q.length + 1)).toList = (⟨#[59]⟩ : ByteArray).toList := by
  rw [cut_mkB, data_mkB, toList_data, data_mkB, toList_data]
  simp
 have e2 : (mkB (q ++ [59])).extract 0 q.length = mkB q := by
  rw [cut_mkB, data_mkB]
  congr 1
  simp
 rw [one, hz, e0, wrap_in (by omega) (by omega), if_pos (by omega), if_pos (by omega), if_pos (by omega), Option.bind_some, Int.toNat_natCast, e1, if_pos (by simp), if_pos (by omega), if_pos (by omega), Option.bind_some, e2]
def LoV (s : ByteArray) (v : List Loc) : Prop := good v = true ∧ (loTx v ⟨#[]⟩).toList = s.toList
theorem lov_data {s : ByteArray} {v : List Loc} (h : LoV s v) : s.data.toList = v.flatMap fun x => lcL x ++ [59] := by
 have := loTx_data v ⟨#[]⟩
 rw [← toList_data, h.2, toList_data] at this
 simpa using this
theorem spec_tail (s : ByteArray) (W : List ByteArray) (out : List Loc) (hs : Sized out) : (spec_ParseLoci.L0 s out W W.length W.length = some ([], false) ∨ ∃ v, LoV s v ∧ spec_ParseLoci.L0 s out W W.length W.length = some (v, true)) ∧ (LoV s out → spec_ParseLoci.L0 s out W W.length W.length = some (out, true)) := by
 rw [spec_ParseLoci.L0_eq, if_neg (by omega), loGood_some _ hs, Option.bind_some]
 cases hg : good out
 ·exact ⟨.inl rfl, fun h => by rw [h.1] at hg; cases hg⟩
 ·rw [if_pos rfl, (lo_texts hg).1, Option.bind_some]
  by_cases hx : (loTx out ⟨#[]⟩).toList = s.toList
  ·rw [if_pos hx]; exact ⟨.inr ⟨out, ⟨hg, hx⟩, rfl⟩, fun _ => rfl⟩
  ·rw [if_neg hx]; exact ⟨.inl rfl, fun h => absurd h.2 hx⟩
theorem at_split {q : List UInt8} {p1 p2 : List UInt8} (h : splitFrom 64 [] q = [p1, p2]) : p1.length ≤ q.length ∧ p2.length ≤ q.length := by
 obtain ⟨r, t, e1, _, x1, h1⟩ := split_more 64 q [] p1 [p2] h (by simp)
 obtain ⟨e2, _⟩ := split_one 64 t [] p2 h1
 simp only [List.nil_append] at e1 e2
 rw [x1, e1, e2]
 simp only [List.length_append, List.length_cons]
 omega
theorem spec_any (s : ByteArray) (W : List ByteArray) (hW : W.length ≤ 100) (hp : ∀ p ∈ W, p.size ≤ 1048576) : spec_ParseLoci.L0 s [] W W.length 0 = some ([], false) ∨ ∃ v, LoV s v ∧ spec_ParseLoci.L0 s [] W W.length 0 = some (v, true) := by
 refine each (L := fun i => fun out => spec_ParseLoci.L0 s out W W.length i) W ByteArray.empty (fun i t f => ∀ out : List Loc, out.length + t.length ≤ 100 → (∀ x ∈ out, x.f0.size ≤ 1048576) → f out = some ([], false) ∨ ∃ v, LoV s v ∧ f out = some (v, true)) ?_ ?_ [] (by simpa using hW) (by simp)
 ·intro out ho hs
  exact (spec_tail s W out ⟨by simp at ho; omega, fun x hx => by have := hs x hx; omega⟩).1
 ·intro i x t hi hx hd _ ih out ho hs
  show spec_ParseLoci.L0 s out W _ _ = _ ∨ ∃ v, LoV s v ∧ spec_ParseLoci.L0 s out W _ _ = _
  rw [List.length_cons] at ho
  have hxs := hp x (mem_drop hd)
  have hn := size_data x
  rw [spec_ParseLoci.L0_eq, if_pos (by omega), if_pos (by omega), if_pos (by omega), rd_txt, hx, show (64 : Int) = (((64 : UInt8).toNat : Nat) : Int) from rfl, split_some x 64 hxs, Option.bind_some, wrap_in (x := (i : Int) + 1) (by omega) (by omega)]
  cases hw : splitFrom 64 [] x.data.toList with
  | nil => rw [if_neg (by simp)]; exact .inl rfl
  | cons p ps =>
   cases ps with
   | nil => rw [if_neg (by simp)]; exact .inl rfl
   | cons q qs =>
    cases qs with
    | cons _ _ => rw [if_neg (by simp; omega)]; exact .inl rfl
    | nil =>
     obtain ⟨z1, z2⟩ := at_split hw
     simp only [List.map_cons, List.map_nil]
     rw [if_pos (by simp), if_pos (by simp), if_pos (by simp), show rdOf ByteArray.empty [mkB p, mkB q] 1 = mkB q from rfl, show rdOf ByteArray.empty [mkB p, mkB q] 0 = mkB p from rfl, loRead_some _ (by rw [mkB_size]; omega), Option.bind_some, if_pos (show out.length < 5864062014805 by omega)]
     refine ih _ (by rw [List.length_append, List.length_singleton]; omega) (fun y hy => ?_)
     rcases List.mem_append.1 hy with hy | hy
     ·exact hs y hy
     ·rw [List.mem_singleton] at hy; subst hy
      show (mkB p).size ≤ _
      rw [mkB_size]; omega
theorem spec_at (s : ByteArray) (v : List Loc) (h : LoV s v) : spec_ParseLoci.L0 s [] (v.map fun x => mkB (lcL x)) (v.map fun x => mkB (lcL x)).length 0 = some (v, true) := by
 have ok := okl_of h.1
 have h8 := (good_facts h.1).1
 obtain ⟨W, hW⟩ : ∃ W, W = v.map fun x => mkB (lcL x) := ⟨_, rfl⟩
 have hWl : W.length = v.length := by rw [hW, List.length_map]
 rw [← hW]
 refine each (L := fun i => fun out => spec_ParseLoci.L0 s out W W.length i) W ByteArray.empty (fun i t f => ∀ (m out : List Loc), t = m.map (fun x => mkB (lcL x)) → out ++ m = v → f out = some (v, true)) ?_ ?_ v [] hW rfl
 ·intro m out hm hv
  obtain rfl : m = [] := List.map_eq_nil_iff.1 hm.symm
  rw [List.append_nil] at hv
  subst hv
  exact (spec_tail s W out ⟨by omega, fun x hx => by
   have := (ok x hx).1
   simp only [isWord, Bool.and_eq_true, decide_eq_true_eq] at this
   omega⟩).2 h
 ·intro i x t hi hx hd _ ih m out hm hv
  show spec_ParseLoci.L0 s out W _ _ = _
  cases m with
  | nil => cases hm
  | cons y m =>
   rw [List.map_cons] at hm
   injection hm with hm1 hm2
   have hy := ok y (by rw [← hv]; simp)
   have hyz := lcL_size hy
   have hol : out.length ≤ 8 := by have := congrArg List.length hv; rw [List.length_append] at this; omega
   rw [spec_ParseLoci.L0_eq, if_pos (by omega), if_pos (by omega), if_pos (by omega), rd_txt, hx, hm1, show (64 : Int) = (((64 : UInt8).toNat : Nat) : Int) from rfl, split_some _ 64 (by rw [mkB_size]; omega), data_mkB, Option.bind_some, wrap_in (x := (i : Int) + 1) (by omega) (by omega)]
   unfold lcL
   rw [split_app 64 y.f0.data.toList [] _ (lower_not hy.1 64 (by decide)), split_none 64 _ [] (itoa_not hy.2 64 (by decide))]
   simp only [List.nil_append, List.map_cons, List.map_nil]
   have hz := it_size hy.2
   rw [if_pos (by simp), if_pos (by simp), if_pos (by simp), show rdOf ByteArray.empty [mkB y.f0.data.toList, mkB (Lib.itoa y.f1)] 1 = it y.f1 from rfl, show rdOf ByteArray.empty [mkB y.f0.data.toList, mkB (Lib.itoa y.f1)] 0 = mkB y.f0.data.toList from rfl, loRead_some _ (by omega), it_data, loV_it hy.2, Option.bind_some, if_pos (show out.length < 5864062014805 by omega), mkB_data]
   exact ih m (out ++ [y]) hm2 (by rw [List.append_assoc, List.singleton_append]; exact hv)
theorem impl_tail (s : ByteArray) (hs0 : s.size ≤ 1048576) (out : List Loc) (hs : Sized out) (hrun : impl_ParseLoci.run (impl_ParseLoci.pieces s 59 1) [] = some out) : (impl_ParseLoci.G s = some ([], false) ∨ ∃ v, LoV s v ∧ impl_ParseLoci.G s = some (v, true)) ∧ (LoV s out → impl_ParseLoci.G s = some (out, true)) := by
 rw [impl_ParseLoci.G, if_pos hs0, hrun, Option.bind_some, areLoci_some _ hs, Option.bind_some]
 cases hg : good out
 ·exact ⟨.inl rfl, fun h => by rw [h.1] at hg; cases hg⟩
 ·rw [if_pos rfl, (lo_texts hg).2, Option.bind_some]
  by_cases hx : (loTx out ⟨#[]⟩).toList = s.toList
  ·rw [if_pos hx]; exact ⟨.inr ⟨out, ⟨hg, hx⟩, rfl⟩, fun _ => rfl⟩
  ·rw [if_neg hx]; exact ⟨.inl rfl, fun h => absurd h.2 hx⟩
theorem impl_any : ∀ (ps : List ByteArray) (out : List Loc), (∀ p ∈ ps, p.size ≤ 1048576) → out.length ≤ 9 → (∀ x ∈ out, x.f0.size ≤ 1048576) → ∃ o, impl_ParseLoci.run ps out = some o ∧ o.length ≤ 9 ∧ ∀ x ∈ o, x.f0.size ≤ 1048576
 | [], out, _, h1, h2 => ⟨out, rfl, h1, h2⟩
 | p :: ps, out, h0, h1, h2 => by
  have hp := h0 p (by simp)
  obtain ⟨o, k1, k2, k3⟩ : ∃ o, impl_ParseLoci.one out p = some o ∧ o.length ≤ 9 ∧ ∀ x ∈ o, x.f0.size ≤ 1048576 := by
   unfold impl_ParseLoci.one
   by_cases c1 : p.toList = []
   ·rw [if_pos c1]; exact ⟨out, rfl, h1, h2⟩
   rw [if_neg c1]
   by_cases c2 : 8 < out.length
   ·rw [if_pos c2]; exact ⟨out, rfl, h1, h2⟩
   rw [if_neg c2]
   obtain ⟨y, y1, y2⟩ := trim_any p (by omega)
   obtain ⟨a, b, c, q1, q2, q3⟩ := cut_any y 64 (by omega)
   obtain ⟨n, k, d1⟩ := dec_some b (by omega)
   rw [y1, Option.bind_some, q1, Option.bind_some]
   dsimp only
   rw [d1, Option.bind_some]
   refine ⟨_, rfl, by rw [List.length_append, List.length_singleton]; omega, fun x hx => ?_⟩
   rcases List.mem_append.1 hx with hx | hx
   ·exact h2 x hx
   ·rw [List.mem_singleton] at hx; subst hx
    show a.size ≤ _
    omega
  rw [impl_ParseLoci.run, k1, Option.bind_some]
  exact impl_any ps o (fun q hq => h0 q (by simp [hq])) k2 k3
theorem impl_at : ∀ (m out : List Loc), (∀ x ∈ m, Okl x) → out.length + m.length ≤ 8 → impl_ParseLoci.run (m.map (fun x => mkB (lcL x ++ [59])) ++ [mkB []]) out = some (out ++ m)
 | [], out, _, _ => by
  have h0 : (mkB []).toList = [] := by rw [toList_data]; rfl
  rw [List.map_nil, List.nil_append, impl_ParseLoci.run, impl_ParseLoci.one, if_pos h0, Option.bind_some, impl_ParseLoci.run, List.append_nil]
 | x :: m, out, ok, hl => by
  rw [List.length_cons] at hl
  have hx := ok x (by simp)
  have hz := lcL_size hx
  have h0 : ¬ (mkB (lcL x ++ [59])).toList = [] := by rw [toList_data, data_mkB]; simp
  have hc := cut_at (mkB (lcL x)) 64 x.f0.data.toList (Lib.itoa x.f1) (by rw [mkB_size]; omega) (data_mkB _) (lower_not hx.1 64 (by decide))
  have hd : impl_decimal.f (mkB (Lib.itoa x.f1)) = some (x.f1, true) := decimal_it hx.2
  rw [List.map_cons, List.cons_append, impl_ParseLoci.run, impl_ParseLoci.one, if_neg h0, if_neg (by omega), trim_at _ (by omega), Option.bind_some, hc, Option.bind_some]
  dsimp only
  rw [hd, Option.bind_some, Option.bind_some, mkB_data]
  have := impl_at m (out ++ [x]) (fun y hy => ok y (by simp [hy])) (by rw [List.length_append, List.length_singleton]; omega)
  rw [List.append_assoc, List.singleton_append] at this
  exact this
theorem spec_two (s : ByteArray) (hs : s.size ≤ 1048576) : spec_ParseLoci.F s = some ([], false) ∨ ∃ v, LoV s v ∧ spec_ParseLoci.F s = some (v, true) := by
 have hn := size_data s
 rw [spec_ParseLoci.F_eq, show (59 : Int) = (((59 : UInt8).toNat : Nat) : Int) from rfl, split_some s 59 hs, Option.bind_some]
 have hsz : ∀ q ∈ (splitFrom 59 [] s.data.toList).map mkB, q.size ≤ 1048576 := by
  intro q hq
  obtain ⟨u, hu, rfl⟩ := List.mem_map.1 hq
  rw [← cuts_eq] at hu
  have := cuts_size (by omega) 59 _ u hu
  rw [mkB_size]; omega
 have hne : 1 ≤ ((splitFrom 59 [] s.data.toList).map mkB).length := by
  rw [List.length_map]
  exact List.length_pos_iff.2 (split_ne 59 _ _)
 generalize (splitFrom 59 [] s.data.toList).map mkB = T at hsz hne
 by_cases c : (T.length : Int) > 9
 ·rw [if_pos c]; exact .inl rfl
 rw [if_neg c, wrap_in (x := (T.length : Int) - 1) (by omega) (by omega), if_pos (by omega), if_pos (by omega), Option.bind_some]
 exact spec_any s _ (by rw [List.length_take]; omega) (fun p hp => hsz p (List.mem_of_mem_take hp))
theorem parse_same (s : ByteArray) (hs : s.size ≤ 1048576) : ∃ R, spec_ParseLoci.F s = some R ∧ impl_ParseLoci.F s = some R := by
 have hn := size_data s
 refine parse_agree (E := fun v => (v, true)) (V := LoV s) (z := ([], false)) ?_ ?_ ?_ ?_
 ·intro v hv
  have h8 := (good_facts hv.1).1
  rw [spec_ParseLoci.F_eq, show (59 : Int) = (((59 : UInt8).toNat : Nat) : Int) from rfl, split_some s 59 hs, lov_data hv, split_loci v (okl_of hv.1), Option.bind_some]
  have hl : ((v.map lcL ++ [[]]).map mkB).length = v.length + 1 := by simp
  have ht : ((v.map lcL ++ [[]]).map mkB).take v.length = v.map fun x => mkB (lcL x) := by
   rw [List.map_append, List.map_map]
   exact List.take_left' (by simp)
  have e0 : ((v.length + 1 : Nat) : Int) - 1 = (v.length : Int) := by omega
  rw [hl, e0, wrap_in (by omega) (by omega), if_neg (by omega), if_pos (by omega), if_pos (by omega), Option.bind_some, Int.toNat_natCast, ht]
  exact spec_at s v hv
 ·exact spec_two s hs
 ·intro v hv
  have h8 := (good_facts hv.1).1
  rw [impl_ParseLoci.F_eq]
  refine (impl_tail s hs v ⟨by omega, fun x hx => ?_⟩ ?_).2 hv
  ·have := (okl_of hv.1 x hx).1
   simp only [isWord, Bool.and_eq_true, decide_eq_true_eq] at this
   omega
  ·unfold impl_ParseLoci.pieces
   rw [lov_data hv, cuts_loci v (okl_of hv.1), List.map_append, List.map_map]
   exact impl_at v [] (okl_of hv.1) (by simpa using h8)
 ·rw [impl_ParseLoci.F_eq]
  obtain ⟨o, k1, k2, k3⟩ := impl_any (impl_ParseLoci.pieces s 59 1) [] (fun q hq => by
   obtain ⟨u, hu, rfl⟩ := List.mem_map.1 hq
   have := cuts_size (by omega) 59 _ u hu
   show (mkB u).size ≤ _
   rw [mkB_size]; omega) (by simp) (by simp)
  exact (impl_tail s hs o ⟨by omega, fun x hx => by have := k3 x hx; omega⟩ k1).1

theorem over_run (l : List Loc) (g1 : l.length ≤ 8) (g2 : ∀ x ∈ l, (-90 ≤ x.f1 ∧ x.f1 ≤ 90) ∧ 1 ≤ x.f0.size) : ∀ (ps out : List ByteArray), out.length ≤ 10 → 10 < out.length + ps.length → (∀ p ∈ ps, p.size ≤ 1048576) → impl_RunPoints.R l ps out = some ([], false)
 | [], out, h1, h2, _ => by simp at h2; omega
 | x :: t, out, h1, h2, h3 => by
  rw [List.length_cons] at h2
  obtain ⟨a, v, b, r1, r2, r3, r4⟩ := read_angle x (h3 x (by simp))
  rw [impl_RunPoints.R, r2, Option.bind_some]
  dsimp only
  cases b with
  | false => rw [if_neg (by decide)]
  | true =>
   rw [if_pos rfl, isAngle_some, Option.bind_some]
   by_cases c : -90 ≤ v ∧ v ≤ 90
   ·rw [decide_eq_true c, if_pos rfl]
    by_cases c10 : out.length = 10
    ·rw [if_pos c10]
    ·rw [if_neg c10, pointsAt_some l v g1 g2 c, Option.bind_some]
     exact over_run l g1 g2 t _ (by rw [List.length_append, List.length_singleton]; omega) (by rw [List.length_append, List.length_singleton]; omega) (fun p hp => h3 p (by simp [hp]))
   ·rw [decide_eq_false c, if_neg (by decide)]

/-! ### Of the law itself -/
theorem sameInts_refl (l : List Int) (hl : l.length ≤ 9223372036854775807) : laws_sameInts.F l l = some true := by
 rw [laws_sameInts.F_eq, if_pos rfl]
 refine each (L := fun i => laws_sameInts.L0 l l l.length i) l 0 (fun _ _ o => o = some true) ?_ ?_
 ·show laws_sameInts.L0 l l _ _ = _
  rw [laws_sameInts.L0_eq, if_neg (by omega)]
 ·intro i x t hi hx _ _ ih
  show laws_sameInts.L0 l l _ _ = _
  rw [laws_sameInts.L0_eq, if_pos (by omega), if_pos (by omega), if_pos (by omega), if_pos (by omega), if_pos rfl, wrap_in (x := (i : Int) + 1) (by omega) (by omega)]
  exact ih
theorem sameTexts_refl (l : List ByteArray) (hl : l.length ≤ 9223372036854775807) : laws_pSameTexts.F l l = some true := by
 rw [laws_pSameTexts.F_eq, if_pos rfl]
 refine each (L := fun i => laws_pSameTexts.L0 l l l.length i) l ByteArray.empty (fun _ _ o => o = some true) ?_ ?_
 ·show laws_pSameTexts.L0 l l _ _ = _
  rw [laws_pSameTexts.L0_eq, if_neg (by omega)]
 ·intro i x t hi hx _ _ ih
  show laws_pSameTexts.L0 l l _ _ = _
  rw [laws_pSameTexts.L0_eq, if_pos (by omega), if_pos (by omega), if_pos (by omega), if_pos (by omega), if_pos rfl, wrap_in (x := (i : Int) + 1) (by omega) (by omega)]
  exact ih
theorem pSame_refl (l : List Loc) (hl : l.length ≤ 9223372036854775807) : laws_pSameLoci.F l l = some true := by
 rw [laws_pSameLoci.F_eq, if_pos rfl]
 refine each (L := fun i => laws_pSameLoci.L0 l l l.length i) l z58 (fun _ _ o => o = some true) ?_ ?_
 ·show laws_pSameLoci.L0 l l _ _ = _
  rw [laws_pSameLoci.L0_eq, if_neg (by omega)]
 ·intro i x t hi hx _ _ ih
  show laws_pSameLoci.L0 l l _ _ = _
  rw [laws_pSameLoci.L0_eq, if_pos (by omega), if_pos (by omega), if_pos (by omega), if_pos (by omega), if_neg (by simp), wrap_in (x := (i : Int) + 1) (by omega) (by omega)]
  exact ih
theorem pAbs_some (a b : Int) (ha : -1000000 ≤ a ∧ a ≤ 1000000) (hb : -1000000 ≤ b ∧ b ≤ 1000000) : laws_pAbs.f (wrap64 (a - b)) = some (dst a b) := by
 unfold laws_pAbs.f dst
 rw [wrap_in (by omega) (by omega)]
 by_cases c : a < b
 ·rw [if_pos (by omega), wrap_in (by omega) (by omega), if_pos c]; congr 1; omega
 ·rw [if_neg (by omega), if_neg c]
/-! ### Angles that mean nobody -/
theorem amb_rounds (l : List Loc) (hl : l.length ≤ 8) (hx : ∀ x ∈ l, (-90 ≤ x.f1 ∧ x.f1 ≤ 90) ∧ 1 ≤ x.f0.size) : ∀ (d : Nat) (i : Int) (o : List Int), -90 ≤ i → 91 - i = d → o.length + d ≤ 181 → (∀ a ∈ o, (-90 ≤ a ∧ a ≤ 90) ∧ (mt l a).toList = []) → ∃ r, spec_AmbiguousAngles.L0 l o i = some (r, true) ∧ impl_AmbiguousAngles.L0 l o i = some (r, true) ∧ r.length ≤ 181 ∧ ∀ a ∈ r, (-90 ≤ a ∧ a ≤ 90) ∧ (mt l a).toList = [] := by
 intro d
 induction d with
 | zero =>
  intro i o h0 hd ho hm
  rw [spec_AmbiguousAngles.L0_eq, impl_AmbiguousAngles.L0_eq, if_neg (by omega), if_neg (by omega)]
  exact ⟨_, rfl, rfl, by omega, hm⟩
 | succ d ih =>
  intro i o h0 hd ho hm
  rw [spec_AmbiguousAngles.L0_eq, impl_AmbiguousAngles.L0_eq, if_pos (by omega), if_pos (by omega), least_some l i hl hx (by omega), nearest_some l i hl hx (by omega), wrap_in (x := i + 1) (by omega) (by omega), if_pos (show o.length < 17592186044416 by omega)]
  simp only [Option.bind_some]
  have c3 : i ≤ 90 := by omega
  have k1 := ih (i + 1) o (by omega) (by omega) (by omega) hm
  by_cases c1 : (near l i).1 ≤ 20
  ·by_cases c2 : ((near l i).2.length : Int) = 2
   ·have hmi : (mt l i).toList = [] := by
     unfold mt
     rw [if_neg (by omega), if_neg (by omega), toList_data]
    have k2 := ih (i + 1) (o ++ [i]) (by omega) (by omega) (by simp; omega) (fun a ha => by
     rcases List.mem_append.1 ha with ha | ha
     ·exact hm a ha
     ·rw [List.mem_singleton] at ha; subst ha; exact ⟨by omega, hmi⟩)
    obtain ⟨r, e1, e2, e3⟩ := k2
    refine ⟨r, ?_, ?_, e3⟩
    ·simpa [c1, c2, c3] using e1
    ·simpa [c1, c2, c3] using e2
   ·obtain ⟨r, e1, e2, e3⟩ := k1
    refine ⟨r, ?_, ?_, e3⟩
    ·simpa [c1, c2, c3] using e1
    ·simpa [c1, c2, c3] using e2
  ·obtain ⟨r, e1, e2, e3⟩ := k1
   refine ⟨r, ?_, ?_, e3⟩
   ·simpa [c1, c3] using e1
   ·simpa [c1, c3] using e2
theorem amb_same (L : List Loc) (hz : Sized L) : ∃ r, spec_AmbiguousAngles.F L = some (r, good L) ∧ impl_AmbiguousAngles.F L = some (r, good L) ∧ r.length ≤ 181 ∧ (good L = true → ∀ a ∈ r, (-90 ≤ a ∧ a ≤ 90) ∧ (mt L a).toList = []) := by
 rw [spec_AmbiguousAngles.F_eq, impl_AmbiguousAngles.F_eq, loGood_some _ hz, areLoci_some _ hz]
 cases hg : good L
 ·exact ⟨[], rfl, rfl, by simp, fun h => by cases h⟩
 obtain ⟨g1, g2⟩ := good_facts hg
 obtain ⟨r, k1, k2, k3, k4⟩ := amb_rounds L g1 g2 181 (-90) [] (by omega) (by omega) (by simp) (by simp)
 exact ⟨r, k1, k2, k3, fun _ => k4⟩
theorem points_none (L : List Loc) (a : Int) (hz : Sized L) (hg : good L = true) (ha : -90 ≤ a ∧ a ≤ 90) (hm : (mt L a).toList = []) : impl_PointsAt.F L a = some (mt L a, false) := by
 obtain ⟨g1, g2⟩ := good_facts hg
 rw [impl_PointsAt.F_eq, areLoci_some _ hz, isAngle_some, hg, decide_eq_true ha, pointsAt_some _ _ g1 g2 ha]
 simp [hm]
/-! ### The farthest angle -/
theorem best_rounds (l : List Loc) (hl : l.length ≤ 8) (hx : ∀ x ∈ l, (-90 ≤ x.f1 ∧ x.f1 ≤ 90) ∧ 1 ≤ x.f0.size) : ∀ (d : Nat) (i b m : Int), -90 ≤ i → 91 - i = d → (-90 ≤ b ∧ b ≤ 90) → (∀ x ∈ l, m ≤ dst x.f1 b) → ∃ b' m', spec_BestAngle.L0 l b m i = some (b', m', true) ∧ impl_BestAngle.L0 l b m i = some (b', m', true) ∧ (-90 ≤ b' ∧ b' ≤ 90) ∧ ∀ x ∈ l, m' ≤ dst x.f1 b' := by
 intro d
 induction d with
 | zero =>
  intro i b m h0 hd hb hm
  rw [spec_BestAngle.L0_eq, impl_BestAngle.L0_eq, if_neg (by omega), if_neg (by omega)]
  exact ⟨_, _, rfl, rfl, hb, hm⟩
 | succ d ih =>
  intro i b m h0 hd hb hm
  rw [spec_BestAngle.L0_eq, impl_BestAngle.L0_eq, if_pos (by omega), if_pos (by omega), least_some l i hl hx (by omega), nearest_some l i hl hx (by omega), wrap_in (by omega) (by omega)]
  simp only [Option.bind_some]
  split
  ·exact ih _ _ _ (by omega) (by omega) (by omega) (near_spec l i).2
  ·exact ih _ _ _ (by omega) (by omega) hb hm
theorem best_same (L : List Loc) (hz : Sized L) : ∃ b m, spec_BestAngle.F L = some (b, m, good L) ∧ impl_BestAngle.F L = some (b, m, good L) ∧ (good L = true → (-90 ≤ b ∧ b ≤ 90) ∧ ∀ x ∈ L, m ≤ dst x.f1 b) := by
 rw [spec_BestAngle.F_eq, impl_BestAngle.F_eq, loGood_some _ hz, areLoci_some _ hz]
 cases hg : good L
 ·exact ⟨0, 0, rfl, rfl, fun h => by cases h⟩
 obtain ⟨g1, g2⟩ := good_facts hg
 obtain ⟨b, m, k1, k2, k3, k4⟩ := best_rounds L g1 g2 181 (-90) 0 (-1) (by omega) (by omega) (by omega) (fun x hx => by have := dst_nn x.f1 0; omega)
 exact ⟨b, m, k1, k2, fun _ => ⟨k3, k4⟩⟩
/-! ### Loci that are spread -/
theorem good_back {l : List Loc} (h8 : l.length ≤ 8) : ∀ (t : List Loc) (i : Nat), (∀ k, (hk : k < t.length) → okAt l (i + k) t[k] = true) → goodFrom l i t = true
 | [], _, _ => by unfold goodFrom; exact decide_eq_true h8
 | x :: t, i, h => by
  rw [goodFrom, Bool.and_eq_true]
  refine ⟨h 0 (by simp), good_back h8 t (i + 1) (fun k hk => ?_)⟩
  have := h (k + 1) (by simpa using hk)
  simpa [Nat.add_assoc, Nat.add_comm 1 k] using this
def ang (n i : Nat) : Int := if (n : Int) > 1 then wrap64 (wrap64 (Int.tdiv (wrap64 (180 * (i : Int))) (wrap64 ((n : Int) - 1))) - 90) else 0
theorem ang_in : ∀ (n : Fin 9) (i : Fin 8), i.val < n.val → -90 ≤ ang n.val i.val ∧ ang n.val i.val ≤ 90 := by decide +kernel
theorem ang_up : ∀ (n : Fin 9) (i : Fin 8), i.val + 1 < n.val → ang n.val i.val < ang n.val (i.val + 1) := by decide +kernel
theorem spread_names (n : Nat) : ∀ (t : List Loc) (i : Nat), (spread n t i).map (·.f0) = t.map (·.f0)
 | [], _ => rfl
 | x :: t, i => by rw [spread, List.map_cons, List.map_cons, spread_names n t (i + 1)]; rfl
theorem spread_at (n : Nat) : ∀ (t : List Loc) (i k : Nat), k < t.length → (spread n t i).getD k z58 = sp n (i + k) (t.getD k z58)
 | [], _, k, hk => absurd hk (by simp)
 | x :: t, i, 0, _ => rfl
 | x :: t, i, k + 1, hk => by
  rw [spread, List.getD_cons_succ, List.getD_cons_succ, spread_at n t (i + 1) k (by simpa using hk), Nat.add_assoc, Nat.add_comm 1 k]
theorem idx_names (a : ByteArray) : ∀ (t t' : List Loc) (i : Nat), t.map (·.f0) = t'.map (·.f0) → idxFrom a t i = idxFrom a t' i
 | [], [], _, _ => rfl
 | [], _ :: _, _, h => by cases h
 | _ :: _, [], _, h => by cases h
 | x :: t, y :: t', i, h => by
  rw [List.map_cons, List.map_cons] at h
  injection h with h1 h2
  rw [idxFrom, idxFrom, h1, idx_names a t t' (i + 1) h2]
theorem at_getD {l : List Loc} {k : Nat} (h : k < l.length) : l[k] = l.getD k z58 := by rw [List.getD_eq_getElem?_getD, List.getElem?_eq_getElem h, Option.getD_some]
theorem good_spread {L : List Loc} (hg : good L = true) : good (spread L.length L 0) = true := by
 have h8 := (good_facts hg).1
 have hl := spread_length L.length L 0
 refine good_back (by omega) _ 0 (fun k hk => ?_)
 rw [hl] at hk
 have ok := good_each L 0 hg k hk
 rw [Nat.zero_add] at ok ⊢
 have es := spread_at L.length L 0 k hk
 rw [Nat.zero_add] at es
 rw [at_getD (by omega), es]
 rw [at_getD hk] at ok
 have hn : ((spread L.length L 0).take k).map (·.f0) = (L.take k).map (·.f0) := by rw [List.map_take, List.map_take, spread_names]
 have ha := ang_in ⟨L.length, by omega⟩ ⟨k, by omega⟩ hk
 simp only [okAt, Bool.and_eq_true] at ok ⊢
 refine ⟨ok.1, decide_eq_true ha, decide_eq_true ?_, ?_⟩
 ·by_cases h0 : k = 0
  ·exact .inl h0
  ·refine .inr ?_
   have es' := spread_at L.length L 0 (k - 1) (by omega)
   rw [Nat.zero_add] at es'
   rw [es']
   have := ang_up ⟨L.length, by omega⟩ ⟨k - 1, by omega⟩ (by show k - 1 + 1 < L.length; omega)
   show ang L.length (k - 1) < ang L.length k
   have e : k - 1 + 1 = k := by omega
   simpa only [e] using this
 ·have := ok.2.2.2
  rw [idx_names _ _ _ 0 hn]
  exact this
theorem spread_same (L : List Loc) (hz : Sized L) (hlm : L.length ≤ 1048576) : ∃ r, spec_SpreadLoci.F L = some (r, good L) ∧ impl_SpreadLoci.F L = some (r, good L) ∧ r.length ≤ 8 ∧ (good L = true → r = spread L.length L 0) := by
 rw [spec_SpreadLoci.F_eq, impl_SpreadLoci.F_eq, loGood_some _ hz, areLoci_some _ hz, clone_some L hlm]
 cases hg : good L
 ·exact ⟨_, rfl, rfl, by simp, fun h => by cases h⟩
 obtain ⟨g1, g2⟩ := good_facts hg
 exact ⟨spread L.length L 0, spec_spread L g1, impl_spread L g1, by rw [spread_length]; exact g1, fun _ => rfl⟩
/-! ### Texts -/
theorem lotext_same (L : List Loc) (hz : Sized L) : ∃ t, spec_LociText.F L = some (t, good L) ∧ impl_LociText.F L = some (t, good L) ∧ (good L = true → t = loTx L ⟨#[]⟩) := by
 rw [spec_LociText.F_eq, impl_LociText.F_eq, loGood_some _ hz, areLoci_some _ hz, Option.bind_some, Option.bind_some]
 cases hg : good L
 ·exact ⟨_, rfl, rfl, fun h => by cases h⟩
 ·obtain ⟨h1, h2⟩ := lo_texts hg
  rw [h1, h2]
  exact ⟨_, rfl, rfl, fun _ => rfl⟩
theorem loTx_size : ∀ (t : List Loc) (s : ByteArray), (∀ x ∈ t, x.f0.size ≤ 8 ∧ -90 ≤ x.f1 ∧ x.f1 ≤ 90) → (loTx t s).size ≤ s.size + 102 * t.length
 | [], s, _ => by simp [loTx]
 | x :: t, s, h => by
  obtain ⟨h1, h2⟩ := h x (by simp)
  have hz := it_size h2
  have n1 : ((⟨#[64]⟩ : ByteArray)).size = 1 := rfl
  have n2 : ((⟨#[59]⟩ : ByteArray)).size = 1 := rfl
  have k : (lcTx x).size ≤ 102 := by unfold lcTx; simp only [ByteArray.size_append, n1, n2]; omega
  have := loTx_size t (s ++ lcTx x) (fun y hy => h y (by simp [hy]))
  rw [ByteArray.size_append] at this
  show (loTx t (s ++ lcTx x)).size ≤ _
  rw [List.length_cons]
  omega
theorem good_text {L : List Loc} (hg : good L = true) : (loTx L ⟨#[]⟩).size ≤ 816 := by
 obtain ⟨g1, g2⟩ := good_facts hg
 have := loTx_size L ⟨#[]⟩ (fun x hx => ⟨good_short hg x hx, (g2 x hx).1⟩)
 have n0 : ((⟨#[]⟩ : ByteArray)).size = 0 := rfl
 rw [n0] at this
 omega
theorem parse_back {s : ByteArray} {v : List Loc} (hs : s.size ≤ 1048576) (hv : LoV s v) : impl_ParseLoci.F s = some (v, true) := by
 have hn := size_data s
 have h8 := (good_facts hv.1).1
 rw [impl_ParseLoci.F_eq]
 refine (impl_tail s hs v ⟨by omega, fun x hx => ?_⟩ ?_).2 hv
 ·have := (okl_of hv.1 x hx).1
  simp only [isWord, Bool.and_eq_true, decide_eq_true_eq] at this
  omega
 ·unfold impl_ParseLoci.pieces
  rw [lov_data hv, cuts_loci v (okl_of hv.1), List.map_append, List.map_map]
  exact impl_at v [] (okl_of hv.1) (by simpa using h8)
theorem parse_short (s : ByteArray) (hs : s.size ≤ 1048576) : ∃ r b, spec_ParseLoci.F s = some (r, b) ∧ impl_ParseLoci.F s = some (r, b) ∧ r.length ≤ 8 := by
 obtain ⟨⟨r, b⟩, r1, r2⟩ := parse_same s hs
 refine ⟨r, b, r1, r2, ?_⟩
 rcases spec_two s hs with h1 | ⟨v, hv, h1⟩
 ·rw [r1] at h1
  injection h1 with h1
  injection h1 with h1 _
  rw [h1]; simp
 ·rw [r1] at h1
  injection h1 with h1
  injection h1 with h1 _
  rw [h1]; exact (good_facts hv.1).1
/-! ### Points that are run -/
def Told (l : List Loc) (w : ByteArray) : Prop := w.toList = [63] ∨ ∃ y ∈ l, y.f0 = w
theorem told_run (l : List Loc) (hg : good l = true) (W : List ByteArray) (hW : W.length ≤ 10) (hp : ∀ p ∈ W, p.size ≤ 1048576) :
 ∃ r b, spec_RunPoints.L0 l [] W W.length 0 = some (r, b) ∧ impl_RunPoints.R l W [] = some (r, b) ∧ r.length ≤ 10 ∧ ∀ w ∈ r, Told l w := by
 obtain ⟨g1, g2⟩ := good_facts hg
 refine each (L := fun i => fun out => spec_RunPoints.L0 l out W W.length i) W ByteArray.empty (fun i t f => ∀ out : List ByteArray, out.length + t.length ≤ 10 → (∀ w ∈ out, Told l w) → ∃ r b, f out = some (r, b) ∧ impl_RunPoints.R l t out = some (r, b) ∧ r.length ≤ 10 ∧ ∀ w ∈ r, Told l w) ?_ ?_ [] (by simpa using hW) (by simp)
 ·intro out ho hm
  show ∃ r b, spec_RunPoints.L0 l out W _ _ = _ ∧ _
  rw [spec_RunPoints.L0_eq, if_neg (by omega), impl_RunPoints.R]
  exact ⟨_, _, rfl, rfl, by simpa using ho, hm⟩
 ·intro i x t hi hx hd _ ih out ho hm
  show ∃ r b, spec_RunPoints.L0 l out W _ _ = _ ∧ _
  rw [List.length_cons] at ho
  obtain ⟨a, v, b, r1, r2, r3, r4⟩ := read_angle x (hp x (mem_drop hd))
  rw [spec_RunPoints.L0_eq, if_pos (by omega), if_pos (by omega), if_pos (by omega), rd_txt, hx, r1, Option.bind_some, loAngle_some, Option.bind_some, wrap_in (x := (i : Int) + 1) (by omega) (by omega), impl_RunPoints.R, r2, Option.bind_some]
  dsimp only
  by_cases c : -90 ≤ a ∧ a ≤ 90
  ·obtain ⟨rfl, cv⟩ := r3.1 c
   obtain rfl := r4 c
   rw [decide_eq_true c, if_pos rfl, if_pos rfl, isAngle_some, Option.bind_some, decide_eq_true c, if_pos rfl, if_neg (show ¬ out.length = 10 by omega), loMeans_some l v g1 g2 c, pointsAt_some l v g1 g2 c, Option.bind_some, Option.bind_some]
   dsimp only
   have more : ∀ u : ByteArray, Told l u → ∀ w ∈ out ++ [u], Told l w := fun u hu w hw => by
    rcases List.mem_append.1 hw with hw | hw
    ·exact hm w hw
    ·rw [List.mem_singleton] at hw; subst hw; exact hu
   by_cases cm : (mt l v).toList = []
   ·rw [cm, if_neg (by decide), if_pos (show out.length < 8796093022208 by omega), if_pos rfl]
    exact ih _ (by rw [List.length_append, List.length_singleton]; omega) (more _ (.inl (by rw [toList_data])))
   ·rw [if_pos (show ((mt l v).toList != []) = true by rw [bne_iff_ne]; exact cm), if_pos (show out.length < 8796093022208 by omega), if_neg cm]
    obtain ⟨y, hy, he, _⟩ := mt_says hg cm
    exact ih _ (by rw [List.length_append, List.length_singleton]; omega) (more _ (.inr ⟨y, hy, he⟩))
  ·rw [decide_eq_false c, if_neg (by decide)]
   refine ⟨[], false, rfl, ?_, by simp, by simp⟩
   cases b with
   | false => rw [if_neg (by decide)]
   | true =>
    have cv : ¬ (-90 ≤ v ∧ v ≤ 90) := fun h => c (r3.2 ⟨rfl, h⟩)
    rw [if_pos rfl, isAngle_some, Option.bind_some, decide_eq_false cv, if_neg (by decide)]
theorem run_same (L : List Loc) (p : ByteArray) (hz : Sized L) (hp : p.size ≤ 1048576) : ∃ r b, spec_RunPoints.F L p = some (r, b) ∧ impl_RunPoints.F L p = some (r, b) ∧ r.length ≤ 10 ∧ ∀ w ∈ r, Told L w := by
 rw [spec_RunPoints.F_eq, impl_RunPoints.F_eq, impl_RunPoints.G, if_pos (show p.size ≤ 1048576 by omega), loGood_some _ hz, areLoci_some _ hz, Option.bind_some, Option.bind_some]
 cases hg : good L
 ·exact ⟨_, _, rfl, rfl, by simp, by simp⟩
 obtain ⟨g1, g2⟩ := good_facts hg
 rw [if_pos rfl, if_pos rfl]
 by_cases c0 : p.toList = []
 ·simp only [if_pos c0]; exact ⟨_, _, rfl, rfl, by simp, by simp⟩
 simp only [if_neg c0]
 rw [show (32 : Int) = ((32 : UInt8).toNat : Int) from rfl, split_some p 32 (by omega), Option.bind_some]
 have hps : impl_RunPoints.pieces p 32 0 = (splitFrom 32 [] p.data.toList).map mkB := by
  unfold impl_RunPoints.pieces; rw [cuts_eq]; rfl
 have hsz : ∀ q ∈ (splitFrom 32 [] p.data.toList).map mkB, q.size ≤ 1048576 := by
  intro q hq
  obtain ⟨u, hu, rfl⟩ := List.mem_map.1 hq
  rw [← cuts_eq] at hu
  have := cuts_size (by omega) 32 _ u hu
  have hn := size_data p
  rw [mkB_size]; omega
 rw [hps]
 generalize (splitFrom 32 [] p.data.toList).map mkB = W at hsz
 by_cases c10 : (W.length : Int) > 10
 ·rw [if_pos c10, over_run _ g1 g2 W [] (by simp) (by simp; omega) hsz]; exact ⟨_, _, rfl, rfl, by simp, by simp⟩
 ·rw [if_neg c10]; exact told_run _ hg W (by omega) hsz
/-! ### What is drawn -/
theorem loci_from (l : List Int) (hl : Bytes l) (a s : Int) (ha : 0 ≤ a ∧ a ≤ 400) : ∃ L b t, spec_l1Cur_loci.F l a s = some (L, b, t) ∧ Drawn L := by
 obtain ⟨r, b, t, h1, h2, h3, h4, h5⟩ := pick_tells l hl a s 6 (by omega) (by omega)
 have h6 := h3 (by omega)
 obtain ⟨n, rfl⟩ := Int.eq_ofNat_of_zero_le h2
 rw [spec_l1Cur_loci.F_eq, h1, Option.bind_some]
 obtain ⟨L, b', t', k1, k2, _⟩ := loci_rounds l hl n [] n b t rfl (by omega) ⟨⟨by simp, by simp⟩, by simp⟩ (by omega)
 exact ⟨L, b', t', k1, k2⟩
theorem angle_tells (l : List Int) (hl : Bytes l) (b t : Int) (hb : 0 ≤ b ∧ b ≤ 1000) : ∃ k b1 t1 r b2 t2, spec_l1Cur_pick.f l b t 181 = some (k, b1, t1) ∧ spec_l1Cur_among.f l b1 t1 [0, (-40), 30, 25, 90, (-90), wrap64 (k - 90)] = some (r, b2, t2) ∧ (-90 ≤ r ∧ r ≤ 90) ∧ 0 ≤ b2 ∧ b2 ≤ b + 4 := by
 obtain ⟨k, b1, t1, h1, p1, q1, i1, j1⟩ := pick_tells l hl b t 181 (by omega) (by omega)
 have := q1 (by omega)
 obtain ⟨r, b2, t2, h2, m2, i2, j2⟩ := among_tells l hl b1 t1 [0, (-40), 30, 25, 90, (-90), wrap64 (k - 90)] (by omega) (by simp)
 refine ⟨k, b1, t1, r, b2, t2, h1, h2, ?_, i2, by omega⟩
 rw [wrap_in (by omega) (by omega)] at m2
 simp only [List.mem_cons, List.not_mem_nil, or_false] at m2
 rcases m2 with rfl | rfl | rfl | rfl | rfl | rfl | rfl <;> omega
theorem runpts_rounds (l : List Int) (hl : Bytes l) (N : Int) (hN : N ≤ 11) : ∀ (n : Nat) (s : ByteArray) (c b t : Int), N - c = n → 0 ≤ c → s.size ≤ 100 * c.toNat → (0 ≤ b ∧ b ≤ 20 + 10 * c) → ∃ U p, spec_DrawRunPoints.L0 s N c l b t = some (U, p) ∧ Drawn U ∧ p.size ≤ 1048576 := by
 intro n
 induction n with
 | zero =>
  intro s c b t hn h0 hs hb
  obtain ⟨o, b1, t1, h1, i1, j1⟩ := one_tells l hl b t 10 (by omega) (by omega)
  rw [spec_DrawRunPoints.L0_eq, if_neg (by omega), h1, Option.bind_some]
  dsimp only
  cases o
  ·obtain ⟨U, b2, t2, h2, hU⟩ := loci_from l hl b1 t1 (by omega)
   rw [if_neg (by simp), h2, Option.bind_some]
   exact ⟨_, _, rfl, hU, by omega⟩
  ·rw [if_pos rfl]
   generalize hq : ([(⟨#[57, 49]⟩ : ByteArray), (⟨#[45, 57, 49]⟩ : ByteArray), (⟨#[45, 48]⟩ : ByteArray), (⟨#[48, 53]⟩ : ByteArray), (⟨#[32, 53]⟩ : ByteArray), (⟨#[53, 32]⟩ : ByteArray), (⟨#[53, 32, 32, 53]⟩ : ByteArray), (⟨#[120]⟩ : ByteArray), (⟨#[43, 53]⟩ : ByteArray)] : List ByteArray) = q
   have hqq : ∀ x ∈ q, x.size ≤ 20 := by rw [← hq]; simp only [List.mem_cons, List.not_mem_nil, or_false]; rintro x (rfl | rfl | rfl | rfl | rfl | rfl | rfl | rfl | rfl) <;> decide
   obtain ⟨r, b3, t3, h3, m3, i3, j3⟩ := of_tells l hl b1 t1 q (by omega) (by rw [← hq]; simp)
   obtain ⟨U, b2, t2, h2, hU⟩ := loci_from l hl b3 t3 (by omega)
   rw [h3, Option.bind_some]
   dsimp only
   rw [h2, Option.bind_some]
   exact ⟨_, _, rfl, hU, by have := hqq _ m3; omega⟩
 | succ n ih =>
  intro s c b t hn h0 hs hb
  obtain ⟨k, b1, t1, r, b2, t2, h1, h2, hr, i2, j2⟩ := angle_tells l hl b t (by omega)
  have hz := it_size hr
  have e1 : (c + 1).toNat = c.toNat + 1 := by omega
  have one : (⟨#[32]⟩ : ByteArray).size = 1 := rfl
  rw [spec_DrawRunPoints.L0_eq, if_pos (by omega), wrap_in (x := c + 1) (by omega) (by omega)]
  by_cases c0 : c > 0
  ·rw [if_pos c0, if_pos (by omega), h1, Option.bind_some]
   dsimp only
   rw [h2, Option.bind_some]
   dsimp only
   rw [int_text (by omega), Option.bind_some, if_pos (by rw [ByteArray.size_append, one]; omega)]
   exact ih _ _ _ _ (by omega) (by omega) (by rw [ByteArray.size_append, ByteArray.size_append, one, e1]; omega) (by omega)
  ·rw [if_neg c0, h1, Option.bind_some]
   dsimp only
   rw [h2, Option.bind_some]
   dsimp only
   rw [int_text (by omega), Option.bind_some, if_pos (by omega)]
   exact ih _ _ _ _ (by omega) (by omega) (by rw [ByteArray.size_append, e1]; omega) (by omega)
theorem drawRun_tells (l : List Int) (hl : Bytes l) : ∃ U p, spec_DrawRunPoints.F l = some (U, p) ∧ Drawn U ∧ p.size ≤ 1048576 := by
 obtain ⟨k, b1, t1, h1, p1, q1, i1, j1⟩ := pick_tells l hl 0 0 5 (by omega) (by omega)
 have := q1 (by omega)
 obtain ⟨o, b2, t2, h2, i2, j2⟩ := one_tells l hl b1 t1 12 (by omega) (by omega)
 have n0 : ((⟨#[]⟩ : ByteArray)).size = 0 := rfl
 rw [spec_DrawRunPoints.F_eq, h1, Option.bind_some]
 dsimp only
 rw [h2, Option.bind_some]
 dsimp only
 cases o
 ·rw [if_neg (by simp), spec_DrawRunPoints.J0_eq]
  exact runpts_rounds l hl k (by omega) k.toNat _ 0 _ _ (by omega) (by omega) (by rw [n0]; omega) (by omega)
 ·obtain ⟨m, b3, t3, h3, p3, q3, i3, j3⟩ := pick_tells l hl b2 t2 2 (by omega) (by omega)
  have := q3 (by omega)
  rw [if_pos rfl, h3, Option.bind_some]
  dsimp only
  rw [spec_DrawRunPoints.J0_eq, wrap_in (by omega) (by omega)]
  exact runpts_rounds l hl (10 + m) (by omega) (10 + m).toNat _ 0 _ _ (by omega) (by omega) (by rw [n0]; omega) (by omega)
theorem drawParse_tells (l : List Int) (hl : Bytes l) : ∃ s, spec_DrawParseLoci.F l = some s ∧ s.size ≤ 1048576 := by
 obtain ⟨L, b, t, h1, hL, i1, j1⟩ := loci_tells l hl
 have fin : ∀ s : ByteArray, s.size ≤ 816 → ∃ r, spec_DrawParseLoci.J0 s l b t = some r ∧ r.size ≤ 1048576 := by
  intro s hs
  obtain ⟨k, b2, t2, h2, p2, q2, i2, j2⟩ := pick_tells l hl b t 5 (by omega) (by omega)
  have last : ∀ c : Bool, ∃ r, spec_DrawParseLoci.J1 s k c l b2 t2 = some r ∧ r.size ≤ 1048576 := by
   intro c
   rw [spec_DrawParseLoci.J1_eq]
   cases c
   ·rw [if_neg (by simp)]
    by_cases c2 : k = 2
    ·rw [if_pos c2]
     generalize hq : ([(⟨#[]⟩ : ByteArray), (⟨#[59]⟩ : ByteArray), (⟨#[109, 97, 114, 121, 64, 45, 52, 48]⟩ : ByteArray), (⟨#[109, 97, 114, 121, 64, 57, 49, 59]⟩ : ByteArray), (⟨#[109, 97, 114, 121, 64, 45, 48, 59]⟩ : ByteArray), (⟨#[106, 111, 104, 110, 64, 51, 48, 59, 109, 97, 114, 121, 64, 45, 52, 48, 59]⟩ : ByteArray), (⟨#[109, 97, 114, 121, 64, 49, 59, 109, 97, 114, 121, 64, 50, 59]⟩ : ByteArray), (⟨#[109, 97, 114, 121, 64, 48, 49, 59]⟩ : ByteArray)] : List ByteArray) = q
     have hqq : ∀ x ∈ q, x.size ≤ 200 := by rw [← hq]; simp only [List.mem_cons, List.not_mem_nil, or_false]; rintro x (rfl | rfl | rfl | rfl | rfl | rfl | rfl | rfl) <;> decide
     obtain ⟨r, b3, t3, h3, m3, _⟩ := of_tells l hl b2 t2 q (by omega) (by rw [← hq]; simp)
     rw [h3, Option.bind_some]
     exact ⟨_, rfl, by have := hqq _ m3; dsimp only; omega⟩
    ·rw [if_neg c2]; exact ⟨_, rfl, by omega⟩
   ·obtain ⟨r, b3, t3, h3, z3, _⟩ := spoilt_tells l hl b2 t2 s (⟨#[64, 59, 45, 48, 49, 97]⟩ : ByteArray) (by decide) (by omega) (by omega)
    rw [if_pos rfl, h3, Option.bind_some]
    exact ⟨_, rfl, by dsimp only; omega⟩
  rw [spec_DrawParseLoci.J0_eq, h2, Option.bind_some]
  dsimp only
  split <;> exact last _
 rw [spec_DrawParseLoci.F_eq, h1, Option.bind_some]
 dsimp only
 rw [loGood_some _ hL.sized, Option.bind_some]
 cases h : good L
 ·rw [if_neg (by simp)]; exact fin _ (by decide)
 ·rw [if_pos rfl, (lo_texts h).1, Option.bind_some]; exact fin _ (good_text h)
theorem drawAmb_tells (l : List Int) (hl : Bytes l) : ∃ L, spec_DrawAmbiguousAngles.F l = some L ∧ Drawn L := by
 obtain ⟨L, b, t, h1, hL, _⟩ := loci_tells l hl
 rw [spec_DrawAmbiguousAngles.F_eq, spec_DrawAreLoci.F_eq, h1]
 exact ⟨_, rfl, hL⟩
/-! ### The law, from its end -/
theorem l4 (U : List Loc) (hU : Drawn U) (w : ByteArray) (hw : Told U w) (R : List ByteArray) (n i : Int) : laws_FnPoints.L4 U w (w.toList == [63]) R n i U U.length 0 = laws_FnPoints.L3 U R n (wrap64 (i + 1)) := by
 have hl := hU.1
 refine each (L := fun j => fun c => laws_FnPoints.L4 U w c R n i U U.length j) U z58 (fun _ t f => ∀ c : Bool, (c = true ∨ ∃ y ∈ t, y.f0 = w) → f c = laws_FnPoints.L3 U R n (wrap64 (i + 1))) ?_ ?_ (w.toList == [63]) (by
  rcases hw with h | h
  ·exact .inl (by rw [h]; rfl)
  ·exact .inr h)
 ·intro c hc
  show laws_FnPoints.L4 U w c R n i U _ _ = _
  rw [laws_FnPoints.L4_eq, if_neg (by omega)]
  rcases hc with rfl | ⟨y, hy, _⟩
  ·rw [if_pos rfl]
  ·cases hy
 ·intro j y t hj hy hd _ ih c hc
  show laws_FnPoints.L4 U w c R n i U _ _ = _
  rw [laws_FnPoints.L4_eq, if_pos (by omega), if_pos (by omega), if_pos (by omega), rd_loc, hy, wrap_in (x := (j : Int) + 1) (by omega) (by omega)]
  cases c
  ·rw [if_neg (by simp)]
   refine ih _ ?_
   rcases hc with hc | ⟨x, hx, he⟩
   ·cases hc
   ·rcases List.mem_cons.1 hx with rfl | hx
    ·exact .inl (by rw [he]; simp)
    ·exact .inr ⟨x, hx, he⟩
  ·rw [if_pos rfl]; exact ih true (.inl rfl)
theorem j5 (l : List Int) (hl : Bytes l) : laws_FnPoints.J5 l = some true := by
 obtain ⟨U, p, d1, hU, hp⟩ := drawRun_tells l hl
 obtain ⟨s, d2, hs⟩ := drawParse_tells l hl
 obtain ⟨r, b, r1, r2, r3, r4⟩ := run_same U p hU.sized hp
 obtain ⟨v, c, v1, v2, v3⟩ := parse_short s hs
 have hu := hU.1
 have l3 : laws_FnPoints.L3 U r r.length 0 = some true := by
  refine each (L := fun i => laws_FnPoints.L3 U r r.length i) r ByteArray.empty (fun _ _ o => o = some true) ?_ ?_
  ·show laws_FnPoints.L3 U r _ _ = _
   rw [laws_FnPoints.L3_eq, if_neg (by omega)]
  ·intro i x t hi hx hd _ ih
   show laws_FnPoints.L3 U r _ _ = _
   rw [laws_FnPoints.L3_eq, if_pos (by omega), if_pos (by omega), if_pos (by omega), rd_txt, hx, l4 U hU x (r4 x (mem_drop hd)), wrap_in (x := (i : Int) + 1) (by omega) (by omega)]
   exact ih
 rw [laws_FnPoints.J5_eq, d1, Option.bind_some]
 dsimp only
 simp only [r1, r2, d2, v1, v2, Option.bind_some, bne_self_eq_false, Bool.false_eq_true, if_false, sameTexts_refl r (by omega), pSame_refl v (by omega), if_true, Bool.not_true]
 rw [laws_FnPoints.J6_eq, if_neg (by simp)]
 exact l3
theorem FnPoints : laws_FnPoints.Pure := by
 intro l0_ l1 m0 m1
 obtain ⟨m0, w0⟩ := m0
 obtain ⟨m1, w1⟩ := m1
 refine lim_rounds (?_ : laws_FnPoints.F l0_ l1 = some true)
 rw [laws_FnPoints.F_eq]
 obtain ⟨g, hb⟩ : ∃ g, laws_big.f l0_ l1 = some g := by
  unfold laws_big.f
  split <;> exact ⟨_, rfl⟩
 rw [hb, Option.bind_some]
 cases g
 case true => rw [if_pos rfl]
 rw [if_neg (by simp)]
 have B0 := bytes_of (l := l0_) m0 w0
 have B1 := bytes_of (l := l1) m1 w1
 obtain ⟨L, d1, hL⟩ := drawAmb_tells l0_ B0
 have hz := hL.sized
 have hlen := hL.1
 have h5 := j5 l1 B1
 obtain ⟨r, a1, a2, a3, a4⟩ := amb_same L hz
 obtain ⟨b, m, b1, b2, b3⟩ := best_same L hz
 obtain ⟨s, s1, s2, s3, s4⟩ := spread_same L hz (by omega)
 obtain ⟨t, t1, t2, t3⟩ := lotext_same L hz
 have hj0 : laws_FnPoints.J0 l1 L (good L) r b m s s t false = some true := by
  rw [laws_FnPoints.J0_eq, if_neg (by simp)]
  cases hg : good L
  ·rw [if_neg (by simp)]; exact h5
  obtain ⟨g1, g2⟩ := good_facts hg
  obtain ⟨b4, b5⟩ := b3 hg
  have es := s4 hg
  have hsl : s.length = L.length := by rw [es, spread_length]
  have hsg : good s = true := by rw [es]; exact good_spread hg
  have hsz : Sized s := ⟨by omega, fun x hx => by have := good_short hsg x hx; omega⟩
  have hp : impl_ParseLoci.F t = some (L, true) := by
   rw [t3 hg]
   exact parse_back (by have := good_text hg; omega) ⟨hg, rfl⟩
  have l2 : laws_FnPoints.L2 l1 L s s.length 0 = some true := by
   refine each (L := fun i => laws_FnPoints.L2 l1 L s s.length i) s z58 (fun _ _ o => o = some true) ?_ ?_
   ·show laws_FnPoints.L2 l1 L s _ _ = _
    rw [laws_FnPoints.L2_eq, if_neg (by omega)]; exact h5
   ·intro i x u hi hx hd _ ih
    have e := spread_at L.length L 0 i (by omega)
    rw [← es, hx] at e
    show laws_FnPoints.L2 l1 L s _ _ = _
    rw [laws_FnPoints.L2_eq, if_pos (by omega), if_pos (by omega), if_pos (by omega), if_pos (by omega), rd_loc, rd_loc, hx, if_pos (by rw [e]; rfl), wrap_in (x := (i : Int) + 1) (by omega) (by omega)]
    exact ih
  have l1' : laws_FnPoints.L1 l1 L b m s s t L L.length 0 = some true := by
   refine each (L := fun i => laws_FnPoints.L1 l1 L b m s s t L L.length i) L z58 (fun _ _ o => o = some true) ?_ ?_
   ·show laws_FnPoints.L1 l1 L b m s s t L _ _ = _
    rw [laws_FnPoints.L1_eq, if_neg (by omega), hp, Option.bind_some, areLoci_some _ hsz, hsg, Option.bind_some, if_pos rfl, if_pos (by omega), if_pos rfl, pSame_refl L (by omega), Option.bind_some, laws_FnPoints.J3_eq, if_neg (by simp)]
    exact l2
   ·intro i x u hi hx hd _ ih
    have hm := mem_drop hd
    have hxb := (g2 x hm).1
    have := b5 x hm
    show laws_FnPoints.L1 l1 L b m s s t L _ _ = _
    rw [laws_FnPoints.L1_eq, if_pos (by omega), if_pos (by omega), if_pos (by omega), rd_loc, hx, pAbs_some _ _ (by omega) (by omega), Option.bind_some, if_neg (by omega), wrap_in (x := (i : Int) + 1) (by omega) (by omega)]
    exact ih
  rw [if_pos rfl]
  refine each (L := fun i => laws_FnPoints.L0 l1 L b m s s t r r.length i) r 0 (fun _ _ o => o = some true) ?_ ?_
  ·show laws_FnPoints.L0 l1 L b m s s t r _ _ = _
   rw [laws_FnPoints.L0_eq, if_neg (by omega)]; exact l1'
  ·intro i x u hi hx hd _ ih
   obtain ⟨q1, q2⟩ := a4 hg x (mem_drop hd)
   show laws_FnPoints.L0 l1 L b m s s t r _ _ = _
   rw [laws_FnPoints.L0_eq, if_pos (by omega), if_pos (by omega), if_pos (by omega), rd_int, hx, points_none L x hz hg q1 q2, Option.bind_some, if_neg (by simp), wrap_in (x := (i : Int) + 1) (by omega) (by omega)]
   exact ih
 simp only [d1, Option.bind_some, a1, a2, b1, b2, s1, s2, t1, t2, areLoci_some _ hz, bne_self_eq_false, Bool.false_eq_true, if_false, if_true, sameInts_refl r (by omega), pSame_refl s (by omega)]
 exact hj0

end Go.Proofs.YtfkdlfbjkdkffaaGreatDoor.Pure
