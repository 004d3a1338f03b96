/- The pure statement of the law FnVerbRuns: for all arguments within their bounds its Lean function answers true. -/
import Derived.Test.YtbfkpgmdbafmhaaGreatPFnVerbRunsxD1
namespace Go.Proofs.YtbfkpgmdbafmhaaGreat.Pure
open Go.RowKit Go.Proofs.YtbfkpgmdbafmhaaGreat.PFnVerbRuns Go.Proofs.YtbfkpgmdbafmhaaGreatW.PrintWords Go.Proofs.YtbfkpgmdbafmhaaGreatW.PrintLast
set_option linter.unusedVariables false
set_option linter.unusedSimpArgs false
/-! ### Numbers, loops, letters -/
theorem wrap_in {x : Int} (h0 : -9223372036854775808 ≤ x) (h1 : x ≤ 9223372036854775807) : wrap64 x = x := by
 unfold wrap64; omega
theorem wf_i64 {n : Int} (h : (Lit.int .i64 n).wf = true) : -9223372036854775808 ≤ n ∧ n ≤ 9223372036854775807 := by
 simpa [Lit.wf, IntKind.min, IntKind.max, IntKind.signed, IntKind.bits] using h
/-- A loop over a list, from its end. L: what the loop tells from place i on. -/
theorem each {α γ : Type} (L : Int → γ) (l : List α) (z : α) (R : Nat → List α → γ → Prop) (nil : R l.length [] (L l.length))
 (cons : ∀ (i : Nat) (x : α) (t : List α), i < l.length → l.getD i z = x → l.drop i = x :: t → l.drop (i + 1) = t → R (i + 1) t (L ((i : Int) + 1)) → R i (x :: t) (L i)) : R 0 l (L 0) := by
 have key : ∀ (t : List α) (i : Nat), l.drop i = t → i ≤ l.length → R i t (L i) := by
  intro t
  induction t with
  | nil =>
   intro i h hi
   have : l.length ≤ i := by simpa [List.drop_eq_nil_iff] using h
   obtain rfl : i = l.length := by omega
   exact nil
  | cons x t ih =>
   intro i h hi
   have hlt : i < l.length := by
    rcases Nat.lt_or_ge i l.length with h' | h'
    ·exact h'
    ·rw [List.drop_eq_nil_of_le h'] at h; cases h
   have h2 := List.drop_eq_getElem_cons hlt
   rw [h] at h2
   injection h2 with h3 h4
   refine cons i x t hlt ?_ h h4.symm ?_
   ·rw [List.getD_eq_getElem?_getD, List.getElem?_eq_getElem hlt]; exact h3.symm
   ·have := ih (i + 1) h4.symm (by omega)
    rwa [show ((i + 1 : Nat) : Int) = (i : Int) + 1 from by omega] at this
 have := key l 0 rfl (Nat.zero_le _)
 rwa [show ((0 : Nat) : Int) = 0 from rfl] at this
theorem bt_data (s : ByteArray) (i : Nat) (h : i < s.size) : bt s (i : Int) = ((s.data.toList.getD i 0).toNat : Int) := by
 obtain ⟨d⟩ := s
 have h' : i < d.size := h
 have : bt ⟨d⟩ (i : Int) = ((d[i]).toNat : Int) := by
  unfold bt
  rw [dif_pos (show ((i : Int)).toNat < (⟨d⟩ : ByteArray).size from by simpa using h)]
  rfl
 rw [this]
 simp [h']
theorem size_data (s : ByteArray) : s.size = s.data.toList.length := by
 obtain ⟨d⟩ := s; simp [ByteArray.size]
theorem toList_data (s : ByteArray) : s.toList = s.data.toList := by
 rw [ByteArray.toList_eq]
theorem ext_data {s t : ByteArray} (h : s.toList = t.toList) : s = t := by
 rw [toList_data, toList_data] at h
 obtain ⟨⟨a⟩⟩ := s
 obtain ⟨⟨b⟩⟩ := t
 simp at h
 rw [h]
theorem toList_iff {s t : ByteArray} : s.toList = t.toList ↔ s = t := ⟨ext_data, fun h => by rw [h]⟩
theorem mem_drop {α : Type} {l t : List α} {x : α} {i : Nat} (h : l.drop i = x :: t) : x ∈ l := List.mem_of_mem_drop (i := i) (by rw [h]; simp)

/-! ### What is drawn -/
def Bytes (l : List Int) : Prop := l.length ≤ 9223372036854775807 ∧ ∀ x ∈ l, 0 ≤ x ∧ x < 256
theorem bytes_of {l : List Int} (h : l.length ≤ 9223372036854775807) (hw : ∀ x ∈ l, (Lit.int .u8 x).wf = true) : Bytes l := ⟨h, fun x hx => by
 have := hw x hx
 simp [Lit.wf, IntKind.min, IntKind.max, IntKind.signed, IntKind.bits] at this
 omega⟩
theorem and_byte (z : Int) (h0 : 0 ≤ z) (h1 : z < 18446744073709551616) : 0 ≤ Go.bits .and .u64 z 255 ∧ Go.bits .and .u64 z 255 < 256 := by
 obtain ⟨n, rfl⟩ := Int.eq_ofNat_of_zero_le h0
 have h := bits_and_u64_nat n 255 (by omega) (by omega)
 have e : (((255 : Nat) : Int)) = 255 := rfl
 rw [e] at h
 rw [h]
 have : n &&& 255 ≤ 255 := Nat.and_le_right
 omega
theorem next_tells (l : List Int) (hl : Bytes l) (a s : Int) (ha : 0 ≤ a ∧ a ≤ 2000000000) : ∃ r b t, Fbo.f l a s = some (r, b, t) ∧ (0 ≤ r ∧ r < 256) ∧ 0 ≤ b ∧ b ≤ a + 1 := by
 have hu : ∀ y : Int, 0 ≤ IntKind.u64.wrap y ∧ IntKind.u64.wrap y < 18446744073709551616 := fun y => by
  simp only [IntKind.wrap, IntKind.signed, IntKind.bits]
  simp
  omega
 have tail : ∀ y : Int, 0 ≤ wrap64 (Go.bits .and .u64 ((IntKind.u64.wrap y) / 1099511627776) 255) ∧ wrap64 (Go.bits .and .u64 ((IntKind.u64.wrap y) / 1099511627776) 255) < 256 := fun y => by
  have h1 := hu y
  have h2 := and_byte (IntKind.u64.wrap y / 1099511627776) (by omega) (by omega)
  rw [wrap_in (by omega) (by omega)]
  exact h2
 unfold Fbo.f
 rw [wrap_in (x := a + 1) (by omega) (by omega)]
 by_cases h : a < (l.length : Int)
 ·rw [if_pos h, if_pos ha.1]
  have hr : 0 ≤ rd l a ∧ rd l a < 256 := by
   obtain ⟨n, rfl⟩ := Int.eq_ofNat_of_zero_le ha.1
   have hn : n < l.length := by omega
   have := hl.2 l[n] (List.getElem_mem hn)
   have e : rd l (n : Int) = l[n] := by simp [rd, hn]
   rw [e]
   exact this
  split
  ·refine ⟨_, _, _, rfl, ?_, by omega, by omega⟩
   rw [wrap_in (by omega) (by omega)]
   exact hr
  ·exact ⟨_, _, _, rfl, tail _, by omega, by omega⟩
 ·rw [if_neg h]
  split
  ·exact ⟨_, _, _, rfl, by omega, by omega, by omega⟩
  ·exact ⟨_, _, _, rfl, tail _, by omega, by omega⟩
theorem pick_tells (l : List Int) (hl : Bytes l) (a s n : Int) (ha : 0 ≤ a ∧ a ≤ 1000000000) (hn : n ≤ 1048576) : ∃ r b t, FaJ.f l a s n = some (r, b, t) ∧ 0 ≤ r ∧ (1 ≤ n → r < n) ∧ 0 ≤ b ∧ b ≤ a + 2 := by
 unfold FaJ.f
 by_cases h : n ≤ 1
 ·rw [if_pos h]
  exact ⟨_, _, _, rfl, by omega, by omega, by omega, by omega⟩
 rw [if_neg h]
 obtain ⟨r, b, t, h1, h2, h3, h4⟩ := next_tells l hl a s (by omega)
 rw [h1, Option.bind_some]
 dsimp only
 by_cases h5 : n > 200
 ·rw [if_pos h5]
  obtain ⟨r2, b2, t2, k1, k2, k3, k4⟩ := next_tells l hl b t (by omega)
  rw [k1, Option.bind_some]
  dsimp only
  rw [if_neg (by omega), wrap_in (x := r * 256) (by omega) (by omega), wrap_in (x := r * 256 + r2) (by omega) (by omega)]
  refine ⟨_, _, _, rfl, Int.tmod_nonneg _ (by omega), fun _ => Int.tmod_lt_of_pos _ (by omega), by omega, by omega⟩
 ·rw [if_neg h5, if_neg (by omega)]
  refine ⟨_, _, _, rfl, Int.tmod_nonneg _ (by omega), fun _ => Int.tmod_lt_of_pos _ (by omega), by omega, by omega⟩
theorem of_tells (l : List Int) (hl : Bytes l) (a s : Int) (m : List ByteArray) (ha : 0 ≤ a ∧ a ≤ 1000000000) (hm : m ≠ [] ∧ m.length ≤ 1048576) : ∃ r b t, Fba.f l a s m = some (r, b, t) ∧ r ∈ m ∧ 0 ≤ b ∧ b ≤ a + 2 := by
 have h0 : 0 < m.length := List.length_pos_iff.2 hm.1
 obtain ⟨r, b, t, h1, h2, h3, h4, h5⟩ := pick_tells l hl a s m.length ha (by omega)
 obtain ⟨n, rfl⟩ := Int.eq_ofNat_of_zero_le h2
 have hn : n < m.length := by omega
 unfold Fba.f
 rw [h1, Option.bind_some]
 dsimp only
 rw [if_pos (by omega), if_pos (by omega)]
 refine ⟨_, _, _, rfl, ?_, h4, h5⟩
 have e : rdOf ByteArray.empty m (n : Int) = m[n] := by simp [rdOf, hn]
 show rdOf ByteArray.empty m (n : Int) ∈ m
 rw [e]
 exact List.getElem_mem hn
theorem among_tells (l : List Int) (hl : Bytes l) (a s : Int) (m : List Int) (ha : 0 ≤ a ∧ a ≤ 1000000000) (hm : m ≠ [] ∧ m.length ≤ 1048576) : ∃ r b t, FaZ.f l a s m = some (r, b, t) ∧ r ∈ m ∧ 0 ≤ b ∧ b ≤ a + 2 := by
 have h0 : 0 < m.length := List.length_pos_iff.2 hm.1
 obtain ⟨r, b, t, h1, h2, h3, h4, h5⟩ := pick_tells l hl a s m.length ha (by omega)
 obtain ⟨n, rfl⟩ := Int.eq_ofNat_of_zero_le h2
 have hn : n < m.length := by omega
 unfold FaZ.f
 rw [h1, Option.bind_some]
 dsimp only
 rw [if_pos (by omega), if_pos (by omega)]
 refine ⟨_, _, _, rfl, ?_, h4, h5⟩
 have e : rd m (n : Int) = m[n] := by simp [rd, hn]
 show rd m (n : Int) ∈ m
 rw [e]
 exact List.getElem_mem hn

theorem one_tells (l : List Int) (hl : Bytes l) (a s n : Int) (ha : 0 ≤ a ∧ a ≤ 1000000000) (hn : n ≤ 1048576) : ∃ r b t, Fbb.f l a s n = some (r, b, t) ∧ 0 ≤ b ∧ b ≤ a + 2 := by
 obtain ⟨r, b, t, h1, h2, h3, h4, h5⟩ := pick_tells l hl a s n ha hn
 unfold Fbb.f
 rw [h1, Option.bind_some]
 exact ⟨_, _, _, rfl, h4, h5⟩


theorem l1In_some (a b c : Int) : Fbw.f a b c = some (decide (b ≤ a ∧ a ≤ c)) := by
 unfold Fbw.f
 by_cases h : a ≥ b
 ·rw [if_pos h]; congr 1; simp; omega
 ·rw [if_neg h]; congr 1; symm; simp; omega

/-! ### Words of letters; angles -/
theorem within_some (a b c : Int) : Fbv.f a b c = some (decide (b ≤ a ∧ a ≤ c)) := by
 unfold Fbv.f
 by_cases h : b ≤ a
 ·rw [if_pos h]; simp [h]
 ·rw [if_neg h]; simp [h]
/-- All letters between two. -/
def inRange (lo hi : Nat) (l : List UInt8) : Bool := l.all fun c => decide (lo ≤ c.toNat ∧ c.toNat ≤ hi)
/-- One to eight letters between two. -/
def isWord (lo hi : Nat) (s : ByteArray) : Bool := decide (1 ≤ s.size ∧ s.size ≤ 8) && inRange lo hi s.data.toList
theorem dec_size (s : ByteArray) : decide ((1 : Int) ≤ s.size ∧ (s.size : Int) ≤ 8) = decide (1 ≤ s.size ∧ s.size ≤ 8) := by
 by_cases h : 1 ≤ s.size ∧ s.size ≤ 8
 ·rw [decide_eq_true h, decide_eq_true (by omega)]
 ·rw [decide_eq_false h, decide_eq_false (by omega)]

/-- What 'letters' says of a list of letters: they are those from lo to hi. -/
def Letters (lo hi : Nat) (m : ByteArray) : Prop := ∀ n, n < 256 → (decide (Lib.indexByte m.data.toList n.toUInt8 < 0)) = !decide (lo ≤ n ∧ n ≤ hi)
instance (lo hi : Nat) (m : ByteArray) : Decidable (Letters lo hi m) := by unfold Letters; infer_instance
theorem hasOnly_some (lo hi : Nat) (s m : ByteArray) (hs : s.size ≤ 9223372036854775807) (hm : Letters lo hi m) : FaM.F s m = some (inRange lo hi s.data.toList) := by
 rw [FaM.F_eq]
 refine each (L := fun i => FaM.L0 s m s.size i) s.data.toList 0 (fun _ t o => o = some (inRange lo hi t)) ?_ ?_
 ·show FaM.L0 s m _ _ = _
  rw [FaM.L0_eq, if_neg (by rw [← size_data]; omega)]; rfl
 ·intro i x t hi' hx _ _ ih
  have hi2 : i < s.size := by rw [size_data]; exact hi'
  have hb := hm x.toNat x.toNat_lt
  show FaM.L0 s m _ _ = _
  rw [FaM.L0_eq, if_pos (by omega), if_pos (by omega), if_pos (by omega), bt_data s i hi2, hx, wrap_in (by omega) (by omega)]
  simp only [Fbx.f, Fbt.f, Option.bind_some, Int.toNat_natCast]
  by_cases h1 : lo ≤ x.toNat ∧ x.toNat ≤ hi
  ·rw [if_neg (by simp [h1] at hb; simpa using hb), ih]
   simp [inRange, h1]
  ·rw [if_pos (by simpa [h1] using hb)]
   simp [inRange, h1]
theorem isWordOf_some (lo hi : Nat) (s m : ByteArray) (hs : s.size ≤ 9223372036854775807) (hm : Letters lo hi m) : Fa1.F s m = some (isWord lo hi s) := by
 rw [Fa1.F_eq, within_some, hasOnly_some lo hi s m hs hm]
 simp only [Option.bind_some, isWord]
 by_cases h : 1 ≤ s.size ∧ s.size ≤ 8
 ·have : (1 : Int) ≤ s.size ∧ (s.size : Int) ≤ 8 := by omega
  simp [h, this]
 ·have : ¬ ((1 : Int) ≤ s.size ∧ (s.size : Int) ≤ 8) := by omega
  simp [h, this]


theorem isAngle_some (a : Int) : Fbd.f a = some (decide (-90 ≤ a ∧ a ≤ 90)) := by
 unfold Fbd.f; rw [within_some]; rfl
theorem loAngle_some (a : Int) : Fbc.f a = some (decide (-90 ≤ a ∧ a ≤ 90)) := by
 unfold Fbc.f; rw [l1In_some]; rfl

/-! ### Loci -/
abbrev Loc := S74
theorem rd_loc (l : List Loc) (i : Nat) : rd_T74 l (i : Int) = l.getD i z74 := by simp [rd_T74]
theorem naName_some (s : ByteArray) (hs : s.size ≤ 9223372036854775807) : FaI.F s = some (isWord 97 122 s) := by
 rw [FaI.F_eq]
 have := each (L := fun i => FaI.L0 s i) s.data.toList 0 (fun _ t o => o = some (inRange 97 122 t && decide (1 ≤ s.size ∧ s.size ≤ 8))) ?_ ?_
 ·rw [this, isWord, Bool.and_comm]
 ·show FaI.L0 s _ = _
  rw [FaI.L0_eq, if_neg (by rw [← size_data]; omega), l1In_some]
  simp only [Option.bind_some, inRange, List.all_nil, Bool.true_and, dec_size]
 ·intro i x t hi hx _ _ ih
  have hi' : i < s.size := by rw [size_data]; exact hi
  show FaI.L0 s _ = _
  rw [FaI.L0_eq, if_pos (by omega), if_pos (by omega), bt_data s i hi', hx, wrap_in (by omega) (by omega)]
  by_cases h1 : x.toNat < 97
  ·rw [if_pos (by omega)]; simp [inRange]; omega
  ·rw [if_neg (by omega)]
   by_cases h2 : 122 < x.toNat
   ·rw [if_pos (by omega)]; simp [inRange]; omega
   ·rw [if_neg (by omega), ih]
    have h3 : 97 ≤ x.toNat := by omega
    have h4 : x.toNat ≤ 122 := by omega
    simp [inRange, h3, h4]
/-- The first place of a referent from place i on, or -1. -/
def idxFrom (a : ByteArray) : List Loc → Nat → Int
 | [], _ => -1
 | x :: t, i => if x.f0.toList = a.toList then i else idxFrom a t (i + 1)
theorem idxFrom_cases (a : ByteArray) : ∀ (t : List Loc) (i : Nat), (idxFrom a t i = -1 ∧ ∀ x ∈ t, x.f0 ≠ a) ∨ ∃ j, j < t.length ∧ idxFrom a t i = (i + j : Nat) ∧ (t.getD j z74).f0 = a
 | [], _ => .inl ⟨rfl, by simp⟩
 | x :: t, i => by
  unfold idxFrom
  by_cases h : x.f0.toList = a.toList
  ·rw [if_pos h]
   exact .inr ⟨0, by simp, by simp, by simpa using ext_data h⟩
  ·rw [if_neg h]
   rcases idxFrom_cases a t (i + 1) with ⟨h1, h2⟩ | ⟨j, h1, h2, h3⟩
   ·refine .inl ⟨h1, fun y hy => ?_⟩
    rcases List.mem_cons.1 hy with rfl | hy
    ·exact fun e => h (by rw [e])
    ·exact h2 y hy
   ·exact .inr ⟨j + 1, by simpa using h1, by rw [h2]; omega, by simpa using h3⟩
theorem loFind_some (l : List Loc) (a : ByteArray) (hl : l.length ≤ 9223372036854775807) : Fau.F l a = some (idxFrom a l 0) := by
 rw [Fau.F_eq]
 refine each (L := fun i => Fau.L0 a l l.length i) l z74 (fun i t o => o = some (idxFrom a t i)) ?_ ?_
 ·show Fau.L0 a l _ _ = _
  rw [Fau.L0_eq, if_neg (by omega)]; rfl
 ·intro i x t hi hx _ _ ih
  show Fau.L0 a l _ _ = _
  rw [Fau.L0_eq, if_pos (by omega), if_pos (by omega), if_pos (by omega), rd_loc, hx, wrap_in (by omega) (by omega)]
  unfold idxFrom
  split
  ·rfl
  ·exact ih
theorem locusOf_some (l : List Loc) (a : ByteArray) (hl : l.length ≤ 9223372036854775807) : FaN.F l a = some (idxFrom a l 0) := by
 rw [FaN.F_eq, Fae.F_eq]
 rw [show Fae.L0 l (l.length : Int) 0 a = some (idxFrom a l 0) from ?_]; rfl
 refine each (L := fun i => Fae.L0 l l.length i a) l z74 (fun i t o => o = some (idxFrom a t i)) ?_ ?_
 ·show Fae.L0 l _ _ a = _
  rw [Fae.L0_eq, if_neg (by omega)]; rfl
 ·intro i x t hi hx _ _ ih
  show Fae.L0 l _ _ a = _
  rw [Fae.L0_eq, if_pos (by omega), if_pos (by omega), if_pos (by omega), rd_loc, hx, wrap_in (by omega) (by omega)]
  unfold idxFrom Fby.f
  simp only [Option.bind_some, beq_iff_eq]
  split
  ·rfl
  ·exact ih
/-- Is element i as it should be, for those ahead of it? -/
def okAt (l : List Loc) (i : Nat) (x : Loc) : Bool :=
 isWord 97 122 x.f0 && (decide (-90 ≤ x.f1 ∧ x.f1 ≤ 90) && (decide (i = 0 ∨ (l.getD (i - 1) z74).f1 < x.f1) && decide (idxFrom x.f0 (l.take i) 0 < 0)))
def goodFrom (l : List Loc) : Nat → List Loc → Bool
 | _, [] => decide (l.length ≤ 8)
 | i, x :: t => okAt l i x && goodFrom l (i + 1) t
def good (l : List Loc) : Bool := goodFrom l 0 l
/-- The letters' lengths are lengths. -/
def Sized (l : List Loc) : Prop := l.length ≤ 9223372036854775807 ∧ ∀ x ∈ l, x.f0.size ≤ 9223372036854775807
theorem Sized.take {l : List Loc} (h : Sized l) (i : Nat) : (l.take i).length ≤ 9223372036854775807 := Nat.le_trans (List.length_take_le' ..) h.1
theorem loGood_some (l : List Loc) (hl : Sized l) : Faj.F l = some (good l) := by
 rw [Faj.F_eq]
 have hl1 := hl.1
 refine each (L := fun i => Faj.L0 l l l.length i) l z74 (fun i t o => o = some (goodFrom l i t)) ?_ ?_
 ·show Faj.L0 l l _ _ = _
  rw [Faj.L0_eq, if_neg (by omega)]
  simp only [goodFrom, Option.some.injEq, decide_eq_decide]; omega
 ·intro i x t hi hx hd _ ih
  have hs : x.f0.size ≤ 9223372036854775807 := hl.2 x (mem_drop hd)
  show Faj.L0 l l _ _ = _
  rw [Faj.L0_eq, if_pos (by omega), if_pos (by omega), if_pos (by omega), rd_loc, hx]
  try simp only [Faj.J1_eq, decide_eq_true_eq, eq_self, if_true]
  rw [wrap_in (x := (i : Int) + 1) (by omega) (by omega), naName_some _ hs, loAngle_some, Int.toNat_natCast, loFind_some _ _ (hl.take i)]
  simp only [Option.bind_some, goodFrom, okAt]
  cases isWord 97 122 x.f0
  ·simp
  by_cases ha : -90 ≤ x.f1 ∧ x.f1 ≤ 90
  case neg => simp [ha]
  rw [decide_eq_true ha]
  simp only [if_true, Bool.true_and]
  by_cases h0 : i = 0
  ·subst h0
   simp only [List.take_zero, Int.natCast_zero, gt_iff_lt, Int.lt_irrefl, if_false, true_or, decide_true, Bool.true_and]
   rw [if_pos (by omega)]
   simp [idxFrom]
   simpa using ih
  ·have h1 : (i : Int) - 1 = ((i - 1 : Nat) : Int) := by omega
   rw [if_pos (by omega), wrap_in (by omega) (by omega), h1, if_pos (by omega), if_pos (by omega), rd_loc, if_pos (show (i : Int) ≤ (l.length : Int) by omega)]
   by_cases h2 : (l.getD (i - 1) z74).f1 < x.f1
   ·rw [if_neg (by omega)]
    simp only [h2, or_true, decide_true, Bool.true_and]
    by_cases h3 : idxFrom x.f0 (l.take i) 0 < 0
    ·rw [if_neg (by omega), ih]; simp [h3]
    ·rw [if_pos (by omega)]; simp [h3]
   ·rw [if_pos (by omega), decide_eq_false (p := i = 0 ∨ _) (by simp only [h0, h2, or_self, not_false_eq_true])]; simp
theorem areLoci_some (l : List Loc) (hl : Sized l) : Fan.F l = some (good l) := by
 rw [Fan.F_eq]
 have hl1 := hl.1
 refine each (L := fun i => Fan.L0 l l l.length i) l z74 (fun i t o => o = some (goodFrom l i t)) ?_ ?_
 ·show Fan.L0 l l _ _ = _
  rw [Fan.L0_eq, if_neg (by omega)]
  simp only [goodFrom, Option.some.injEq, decide_eq_decide]; omega
 ·intro i x t hi hx hd _ ih
  have hs : x.f0.size ≤ 9223372036854775807 := hl.2 x (mem_drop hd)
  show Fan.L0 l l _ _ = _
  rw [Fan.L0_eq, if_pos (by omega), if_pos (by omega), if_pos (by omega), rd_loc, hx]
  try simp only [Fan.J1_eq, decide_eq_true_eq, eq_self, if_true]
  rw [wrap_in (x := (i : Int) + 1) (by omega) (by omega), isWordOf_some 97 122 _ _ hs (by decide +kernel), isAngle_some, Int.toNat_natCast, locusOf_some _ _ (hl.take i)]
  simp only [Option.bind_some, goodFrom, okAt]
  cases isWord 97 122 x.f0
  ·simp
  by_cases ha : -90 ≤ x.f1 ∧ x.f1 ≤ 90
  case neg => simp [ha]
  rw [decide_eq_true ha]
  simp only [if_true, Bool.true_and]
  by_cases h0 : i = 0
  ·subst h0
   simp only [List.take_zero, Int.natCast_zero, gt_iff_lt, Int.lt_irrefl, if_false, true_or, decide_true, Bool.true_and]
   rw [if_pos (by omega)]
   simp [idxFrom]
   simpa using ih
  ·have h1 : (i : Int) - 1 = ((i - 1 : Nat) : Int) := by omega
   rw [if_pos (by omega), wrap_in (by omega) (by omega), h1, if_pos (by omega), if_pos (by omega), rd_loc, if_pos (show (i : Int) ≤ (l.length : Int) by omega)]
   by_cases h2 : (l.getD (i - 1) z74).f1 < x.f1
   ·rw [if_neg (by omega)]
    simp only [h2, or_true, decide_true, Bool.true_and]
    by_cases h3 : idxFrom x.f0 (l.take i) 0 < 0
    ·rw [if_neg (by omega), ih]; simp [h3]
    ·rw [if_pos (by omega)]; simp [h3]
   ·rw [if_pos (by omega), decide_eq_false (p := i = 0 ∨ _) (by simp only [h0, h2, or_self, not_false_eq_true])]; simp
theorem good_from (l : List Loc) : ∀ (t : List Loc) (i : Nat), goodFrom l i t = true → l.length ≤ 8 ∧ ∀ x ∈ t, (-90 ≤ x.f1 ∧ x.f1 ≤ 90) ∧ 1 ≤ x.f0.size
 | [], _, h => ⟨by simpa [goodFrom] using h, by simp⟩
 | x :: t, i, h => by
  simp only [goodFrom, okAt, isWord, Bool.and_eq_true, decide_eq_true_eq] at h
  obtain ⟨h1, h2⟩ := h
  obtain ⟨h3, h4⟩ := good_from l t (i + 1) h2
  refine ⟨h3, fun y hy => ?_⟩
  rcases List.mem_cons.1 hy with rfl | hy
  ·exact ⟨h1.2.1, h1.1.1.1⟩
  ·exact h4 y hy
theorem good_facts {l : List Loc} (h : good l = true) : l.length ≤ 8 ∧ ∀ x ∈ l, (-90 ≤ x.f1 ∧ x.f1 ≤ 90) ∧ 1 ≤ x.f0.size := good_from l l 0 h

def putAt (x : Loc) : List Loc → List Loc
 | [] => [x]
 | y :: t => if y.f1 < x.f1 then y :: putAt x t else x :: y :: t
theorem putAt_perm (x : Loc) : ∀ l : List Loc, (putAt x l).Perm (x :: l)
 | [] => .refl _
 | y :: t => by
  unfold putAt
  split
  ·exact ((putAt_perm x t).cons y).trans (.swap x y t)
  ·exact .refl _
theorem loPut_some (l : List Loc) (b : ByteArray) (c : Int) (hl : l.length ≤ 1048576) : FaF.F l b c = some (putAt ⟨b, c⟩ l) := by
 rw [FaF.F_eq]
 have := each (L := fun i => FaF.L0 l i b c) l z74 (fun i t o => i + t.length = l.length → o = some (l.take i ++ putAt ⟨b, c⟩ t)) ?_ ?_ (by simp)
 ·simpa using this
 ·intro _
  show FaF.L0 l _ b c = _
  rw [FaF.L0_eq, if_neg (by omega)]
  simp only [Option.bind_some, Int.toNat_natCast, List.take_length, List.drop_length, List.nil_append, List.length_nil, List.length_cons, List.append_nil, putAt]
  rw [if_pos (by omega), if_pos (by omega), if_pos (by omega), if_pos (by simp; omega), if_pos (by simp; omega)]
 ·intro i x t hi hx hd _ ih hlen
  show FaF.L0 l _ b c = _
  rw [FaF.L0_eq, if_pos (by omega), if_pos (by omega), rd_loc, hx, wrap_in (by omega) (by omega)]
  by_cases h : x.f1 < c
  ·rw [if_pos h, ih (by simpa [Nat.add_assoc, Nat.add_comm 1] using hlen)]
   have ht : l.take (i + 1) = l.take i ++ [x] := by
    rw [List.take_succ_eq_append_getElem hi]
    rw [List.getD_eq_getElem?_getD, List.getElem?_eq_getElem hi, Option.getD_some] at hx
    rw [hx]
   have hp : putAt ⟨b, c⟩ (x :: t) = x :: putAt ⟨b, c⟩ t := by rw [putAt, if_pos h]
   rw [ht, hp]
   simp
  ·have hp : putAt ⟨b, c⟩ (x :: t) = ⟨b, c⟩ :: x :: t := by rw [putAt, if_neg h]
   have h3 : (l.take i).length ≤ 1048576 := by simp; omega
   have h4 : (l.take i).length = i := by simp; omega
   simp only [if_neg h, Option.bind_some, Int.toNat_natCast, hd, List.nil_append, List.length_nil, List.length_cons, List.length_append]
   rw [if_pos (by omega), if_pos (by omega), if_pos (by omega), if_pos (by simp at hlen ⊢; omega), hp]
   simp
theorem loIf_some (l : List Loc) (hl : Sized l) : Fbg.F l = some (if good l then (l, true) else ([], false)) := by
 rw [Fbg.F_eq, loGood_some _ hl, Option.bind_some]
 cases good l <;> rfl
def keep (a : ByteArray) (x : Loc) : Bool := !(x.f0.toList == a.toList)
theorem loWithout_some (l : List Loc) (a : ByteArray) (hl : l.length ≤ 1048576) : FaD.F l a = some (l.filter (keep a)) := by
 rw [FaD.F_eq]
 have := each (L := fun i => fun o => FaD.L0 a o l l.length i) l z74 (fun i t f => ∀ o : List Loc, o.length ≤ i → f o = some (o ++ t.filter (keep a))) ?_ ?_ [] (by simp)
 ·simpa using this
 ·intro o _
  show FaD.L0 a o l _ _ = _
  rw [FaD.L0_eq, if_neg (by omega)]; simp
 ·intro i x t hi hx _ _ ih o ho
  show FaD.L0 a o l _ _ = _
  rw [FaD.L0_eq, if_pos (by omega), if_pos (by omega), if_pos (by omega), rd_loc, hx, wrap_in (x := (i : Int) + 1) (by omega) (by omega)]
  by_cases h : x.f0.toList = a.toList
  ·rw [if_pos h, List.filter_cons_of_neg (by simp [keep, h])]
   exact ih o (by omega)
  ·rw [if_neg h, if_pos (by omega), List.filter_cons_of_pos (by simp [keep, h])]
   refine (ih (o ++ [x]) (by simp; omega)).trans ?_
   simp


theorem good_short {l : List Loc} (h : good l = true) : ∀ x ∈ l, x.f0.size ≤ 8 := by
 have key : ∀ (t : List Loc) (i : Nat), goodFrom l i t = true → ∀ x ∈ t, x.f0.size ≤ 8 := by
  intro t
  induction t with
  | nil => intro _ _ x hx; simp at hx
  | cons y t ih =>
   intro i h x hx
   simp only [goodFrom, okAt, isWord, Bool.and_eq_true, decide_eq_true_eq] at h
   rcases List.mem_cons.1 hx with rfl | hx
   ·exact h.1.1.1.2
   ·exact ih _ h.2 x hx
 exact key l 0 h

/-! ### Drawn loci -/
def Drawn (L : List Loc) : Prop := L.length ≤ 9 ∧ ∀ x ∈ L, x.f0.size ≤ 9
theorem Drawn.sized {L : List Loc} (h : Drawn L) : Sized L := ⟨by have := h.1; omega, fun x hx => by have := h.2 x hx; omega⟩
theorem referent_tells (l : List Int) (hl : Bytes l) (a s : Int) (ha : 0 ≤ a ∧ a ≤ 1000000) : ∃ r b t, Fbs.f l a s = some (r, b, t) ∧ r.size ≤ 9 ∧ 0 ≤ b ∧ b ≤ a + 10 := by
 unfold Fbs.f
 generalize hm : ([(⟨#[109, 97, 114, 121]⟩ : ByteArray), (⟨#[106, 111, 104, 110]⟩ : ByteArray), (⟨#[100, 111, 103]⟩ : ByteArray), (⟨#[99, 97, 116]⟩ : ByteArray), (⟨#[115, 105, 103, 110, 101, 114]⟩ : ByteArray)] : List ByteArray) = m
 have hmm : ∀ x ∈ m, x.size ≤ 9 := by rw [← hm]; simp only [List.mem_cons, List.not_mem_nil, or_false]; rintro x (rfl | rfl | rfl | rfl | rfl) <;> decide
 obtain ⟨r, b, t, h1, h2, h3, h4⟩ := of_tells l hl a s m (by omega) (by rw [← hm]; simp)
 rw [h1, Option.bind_some]
 dsimp only
 exact ⟨_, _, _, rfl, hmm _ h2, h3, by omega⟩
theorem anyReferent_tells (l : List Int) (hl : Bytes l) (a s : Int) (ha : 0 ≤ a ∧ a ≤ 1000000) : ∃ r b t, Fbl.f l a s = some (r, b, t) ∧ r.size ≤ 9 ∧ 0 ≤ b ∧ b ≤ a + 10 := by
 unfold Fbl.f
 generalize hm : ([(⟨#[115, 105, 103, 110, 101, 114]⟩ : ByteArray), (⟨#[]⟩ : ByteArray), (⟨#[77, 97, 114, 121]⟩ : ByteArray), (⟨#[110, 105, 110, 101, 99, 104, 97, 114, 115]⟩ : ByteArray), (⟨#[122, 122]⟩ : ByteArray)] : List ByteArray) = m
 have hmm : ∀ x ∈ m, x.size ≤ 9 := by rw [← hm]; simp only [List.mem_cons, List.not_mem_nil, or_false]; rintro x (rfl | rfl | rfl | rfl | rfl) <;> decide
 obtain ⟨r, b, t, h1, h2, h3, h4⟩ := of_tells l hl a s m (by omega) (by rw [← hm]; simp)
 rw [h1, Option.bind_some]
 have hr := hmm _ h2
 simp only
 generalize hq : ([(⟨#[109, 97, 114, 121]⟩ : ByteArray), (⟨#[106, 111, 104, 110]⟩ : ByteArray), (⟨#[100, 111, 103]⟩ : ByteArray), (⟨#[109, 97, 114, 121]⟩ : ByteArray), r] : List ByteArray) = q
 have hqq : ∀ x ∈ q, x.size ≤ 9 := by rw [← hq]; simp only [List.mem_cons, List.not_mem_nil, or_false]; rintro x (rfl | rfl | rfl | rfl | rfl) <;> first | exact hr | decide
 obtain ⟨r2, b2, t2, k1, k2, k3, k4⟩ := of_tells l hl b t q (by omega) (by rw [← hq]; simp)
 rw [k1, Option.bind_some]
 dsimp only
 exact ⟨_, _, _, rfl, hqq _ k2, k3, by omega⟩
theorem angleOf_tells (l : List Int) (hl : Bytes l) (a s : Int) (ha : 0 ≤ a ∧ a ≤ 1000000) : ∃ r b t, Fbi.f l a s = some (r, b, t) ∧ 0 ≤ b ∧ b ≤ a + 10 := by
 unfold Fbi.f
 obtain ⟨r, b, t, h1, h2, h3, h4, h5⟩ := pick_tells l hl a s 181 (by omega) (by omega)
 rw [h1, Option.bind_some]
 obtain ⟨r2, b2, t2, k1, k2, k3, k4⟩ := among_tells l hl b t [5, 91, -91, -9223372036854775808] (by omega) (by simp)
 simp only [k1, Option.bind_some]
 obtain ⟨r3, b3, t3, m1, m2, m3, m4⟩ := among_tells l hl b2 t2 [0, -40, 30, 25, 10, wrap64 (r - 90), 90, -90, r2] (by omega) (by simp)
 simp only [m1, Option.bind_some]
 exact ⟨_, _, _, rfl, m3, by omega⟩
theorem put_spec (L : List Loc) (a : ByteArray) (c : Int) (hz : Sized L) (hlm : L.length ≤ 1048576) (ha : a.size ≤ 9223372036854775807) : ∃ r b, FaA.F L a c = some (r, b) ∧ (b = true → good r = true) := by
 rw [FaA.F_eq, loGood_some _ hz, naName_some _ ha, loAngle_some]
 simp only [Option.bind_some, FaA.J0_eq]
 cases hg : good L
 ·exact ⟨_, _, rfl, fun h => by cases h⟩
 cases hn : isWord 97 122 a
 ·exact ⟨_, _, rfl, fun h => by cases h⟩
 by_cases hc : -90 ≤ c ∧ c ≤ 90
 ·obtain ⟨g1, g2⟩ := good_facts hg
  have hW : (L.filter (keep a)).length ≤ 8 := Nat.le_trans (List.length_filter_le _ _) g1
  have hp := putAt_perm ⟨a, c⟩ (L.filter (keep a))
  have hzP : Sized (putAt ⟨a, c⟩ (L.filter (keep a))) := ⟨by rw [hp.length_eq]; simp; omega, fun x hx => by
   rcases List.mem_cons.1 (hp.mem_iff.1 hx) with rfl | hx
   ·exact ha
   ·exact hz.2 x (List.mem_filter.1 hx).1⟩
  simp only [hc, decide_true, Bool.not_true, Bool.false_eq_true, if_false, if_true, and_self]
  rw [loWithout_some L a hlm, Option.bind_some, loPut_some _ _ _ (by omega), Option.bind_some, loIf_some _ hzP, Option.bind_some]
  cases hgp : good (putAt ⟨a, c⟩ (L.filter (keep a)))
  ·exact ⟨_, _, rfl, fun h => by cases h⟩
  ·exact ⟨_, _, rfl, fun _ => hgp⟩
 ·simp only [hc, decide_false, Bool.not_false, if_true]
  exact ⟨_, _, rfl, fun h => by cases h⟩
theorem loci_rounds (l : List Int) (hl : Bytes l) : ∀ (n : Nat) (L : List Loc) (k a s : Int), k = n → n ≤ 6 → Drawn L ∧ L.length ≤ 8 → (0 ≤ a ∧ a ≤ 1000 - 100 * n) → ∃ L' b t, Fah.L0 L k l a s = some (L', b, t) ∧ Drawn L' ∧ 0 ≤ b ∧ b ≤ 1100 := by
 intro n
 induction n with
 | zero =>
  intro L k a s hk _ hL ha
  obtain ⟨r, b, t, h1, h2, h3, h4, h5⟩ := pick_tells l hl a s 24 (by omega) (by omega)
  rw [Fah.L0_eq, if_neg (by omega), h1, Option.bind_some]
  simp only
  by_cases c0 : r = 0
  ·rw [if_pos c0]
   obtain ⟨w, b2, t2, k1, k2, k3, k4⟩ := anyReferent_tells l hl b t (by omega)
   simp only [k1, Option.bind_some]
   obtain ⟨c, b3, t3, m1, m2, m3⟩ := angleOf_tells l hl b2 t2 (by omega)
   simp only [m1, Option.bind_some]
   rw [if_pos (by omega)]
   refine ⟨_, _, _, rfl, ⟨by simp; omega, fun x hx => ?_⟩, m2, by omega⟩
   rcases List.mem_append.1 hx with hx | hx
   ·exact hL.1.2 x hx
   ·obtain rfl := List.mem_singleton.1 hx
    exact k2
  rw [if_neg c0]
  by_cases c1 : r = 1
  ·rw [if_pos c1]
   obtain ⟨q, b2, t2, k1, k2, k3, k4, k5⟩ := pick_tells l hl b t 2 (by omega) (by omega)
   simp only [k1, Option.bind_some]
   rw [wrap_in (x := 8 + q) (by omega) (by omega)]
   have many : ∀ (m : Nat) (o : List Loc), (o.length : Int) + m = 8 + q → Drawn o → ∃ L' b' t', Fah.L1 o (8 + q) l b2 t2 = some (L', b', t') ∧ Drawn L' ∧ 0 ≤ b' ∧ b' ≤ 1100 := by
    intro m
    induction m with
    | zero =>
     intro o hm ho
     rw [Fah.L1_eq, if_neg (by omega)]
     exact ⟨_, _, _, rfl, ho, by omega, by omega⟩
    | succ m ih =>
     intro o hm ho
     have k9 := k3 (by omega)
     have hs : ((⟨#[97, 98, 99, 100, 101, 102, 103, 104, 105]⟩ : ByteArray).extract ((o.length : Int)).toNat ((o.length : Int) + 1).toNat).size ≤ 8 := by
      rw [ByteArray.size_extract]
      have e : ((o.length : Int) + 1).toNat = o.length + 1 := by omega
      rw [e, Int.toNat_natCast]
      omega
     rw [Fah.L1_eq, if_pos (by omega), if_pos (by omega), wrap_in (x := (o.length : Int) + 1) (by omega) (by omega), if_pos (by omega), if_pos (by omega), if_pos (by omega), if_pos (by omega)]
     refine ih _ (by simp; omega) ⟨by simp; omega, fun x hx => ?_⟩
     rcases List.mem_append.1 hx with hx | hx
     ·exact ho.2 x hx
     ·obtain rfl := List.mem_singleton.1 hx
      show (_ ++ _ : ByteArray).size ≤ 9
      rw [ByteArray.size_append]
      have : (⟨#[120]⟩ : ByteArray).size = 1 := rfl
      omega
   exact many (8 + q).toNat [] (by simp; omega) ⟨by simp, by simp⟩
  ·rw [if_neg c1]
   exact ⟨_, _, _, rfl, hL.1, by omega, by omega⟩
 | succ n ih =>
  intro L k a s hk hn hL ha
  obtain ⟨w, b, t, h1, h2, h3, h4⟩ := referent_tells l hl a s (by omega)
  rw [Fah.L0_eq, if_pos (by omega), h1, Option.bind_some]
  obtain ⟨c, b2, t2, k1, k2, k3⟩ := angleOf_tells l hl b t (by omega)
  simp only [k1, Option.bind_some]
  obtain ⟨r, ok, p1, p4⟩ := put_spec L w c hL.1.sized (by omega) (by omega)
  simp only [p1, Option.bind_some]
  rw [wrap_in (x := k - 1) (by omega) (by omega)]
  cases ok
  ·rw [if_neg (by simp)]
   exact ih L (k - 1) b2 t2 (by omega) (by omega) hL (by omega)
  ·have q1 := p4 rfl
   rw [if_pos rfl]
   exact ih r (k - 1) b2 t2 (by omega) (by omega) ⟨⟨by have := (good_facts q1).1; omega, fun x hx => by have := good_short q1 x hx; omega⟩, (good_facts q1).1⟩ (by omega)
theorem loci_tells (l : List Int) (hl : Bytes l) : ∃ L b t, Fah.F l 0 0 = some (L, b, t) ∧ Drawn L ∧ 0 ≤ b ∧ b ≤ 1100 := by
 obtain ⟨r, b, t, h1, h2, h3, h4, h5⟩ := pick_tells l hl 0 0 6 (by omega) (by omega)
 have h6 := h3 (by omega)
 obtain ⟨n, rfl⟩ := Int.eq_ofNat_of_zero_le h2
 rw [Fah.F_eq, h1, Option.bind_some]
 exact loci_rounds l hl n [] n b t rfl (by omega) ⟨⟨by simp, by simp⟩, by simp⟩ (by omega)


/-! ### How far apart -/
def dst (a b : Int) : Int := if a < b then b - a else a - b
theorem distance_some (a b : Int) (ha : -1000000 ≤ a ∧ a ≤ 1000000) (hb : -1000000 ≤ b ∧ b ≤ 1000000) : Fbj.f a b = some (dst a b) := by
 unfold Fbj.f
 rw [wrap_in (by omega) (by omega), wrap_in (by omega) (by omega)]
 unfold mx dst
 congr 1
 split <;> split <;> omega
theorem abs_some (a b : Int) (ha : -1000000 ≤ a ∧ a ≤ 1000000) (hb : -1000000 ≤ b ∧ b ≤ 1000000) : Fbe.f (wrap64 (a - b)) = some (dst a b) := by
 unfold Fbe.f Fbh.f
 rw [wrap_in (x := a - b) (by omega) (by omega), wrap_in (by omega) (by omega)]
 unfold dst
 split <;> split <;> simp <;> omega

/-! ### The nearest loci -/
def nearStep (a : Int) (s : Int × List ByteArray) (x : Loc) : Int × List ByteArray :=
 if dst x.f1 a < s.1 then (dst x.f1 a, [x.f0]) else if dst x.f1 a = s.1 then (s.1, s.2 ++ [x.f0]) else s
def near (l : List Loc) (a : Int) : Int × List ByteArray := l.foldl (nearStep a) (181, [])
theorem nearest_some (l : List Loc) (a : Int) (hl : l.length ≤ 8) (hx : ∀ x ∈ l, (-90 ≤ x.f1 ∧ x.f1 ≤ 90) ∧ 1 ≤ x.f0.size) (ha : -90 ≤ a ∧ a ≤ 90) : Far.F l a = some (near l a) := by
 rw [Far.F_eq]
 refine each (L := fun i => fun x6 x7 => Far.L0 a x6 x7 l l.length i) l z74 (fun i t f => (∀ x ∈ t, x ∈ l) → ∀ s : Int × List ByteArray, s.2.length ≤ i → f s.1 s.2 = some (t.foldl (nearStep a) s)) ?_ ?_ (fun _ h => h) (181, []) (by simp)
 ·intro _ s _
  show Far.L0 a _ _ l _ _ = _
  rw [Far.L0_eq, if_neg (by omega)]; rfl
 ·intro i x t hi hxi _ _ ih hm s hs
  have h1 := (hx x (hm x (by simp))).1
  have ih' := ih (fun y hy => hm y (by simp [hy]))
  show Far.L0 a _ _ l _ _ = _
  rw [Far.L0_eq, if_pos (by omega), if_pos (by omega), if_pos (by omega), rd_loc, hxi, wrap_in (x := (i : Int) + 1) (by omega) (by omega), distance_some _ _ (by omega) (by omega), Option.bind_some, List.foldl_cons]
  by_cases h2 : dst x.f1 a < s.1
  ·rw [if_pos h2, if_pos rfl, if_pos (by decide)]
   refine (ih' (dst x.f1 a, [x.f0]) (by simp)).trans ?_
   rw [nearStep, if_pos h2]
  ·rw [if_neg h2]
   by_cases h3 : dst x.f1 a = s.1
   ·rw [if_pos h3, if_pos (by omega)]
    refine (ih' (s.1, s.2 ++ [x.f0]) (by simp; omega)).trans ?_
    rw [nearStep, if_neg h2, if_pos h3]
   ·rw [if_neg h3]
    refine (ih' s (by omega)).trans ?_
    rw [nearStep, if_neg h2, if_neg h3]
theorem near_inv (a : Int) : ∀ (t p : List Loc) (s : Int × List ByteArray), s.2 = (p.filter fun x => decide (dst x.f1 a = s.1)).map (·.f0) → (∀ x ∈ p, s.1 ≤ dst x.f1 a) →
 (t.foldl (nearStep a) s).2 = ((p ++ t).filter fun x => decide (dst x.f1 a = (t.foldl (nearStep a) s).1)).map (·.f0) ∧ ∀ x ∈ p ++ t, (t.foldl (nearStep a) s).1 ≤ dst x.f1 a
 | [], p, s, h1, h2 => by simpa using ⟨h1, h2⟩
 | x :: t, p, s, h1, h2 => by
  rw [List.foldl_cons, show p ++ x :: t = (p ++ [x]) ++ t from by simp]
  refine near_inv a t (p ++ [x]) (nearStep a s x) ?_ ?_
  ·unfold nearStep
   by_cases h3 : dst x.f1 a < s.1
   ·rw [if_pos h3]
    have : p.filter (fun y => decide (dst y.f1 a = dst x.f1 a)) = [] := by
     rw [List.filter_eq_nil_iff]
     intro y hy
     have := h2 y hy
     simp; omega
    simp [List.filter_append, this]
   ·rw [if_neg h3]
    by_cases h4 : dst x.f1 a = s.1
    ·rw [if_pos h4]; simp [List.filter_append, h4, h1]
    ·rw [if_neg h4]; simp [List.filter_append, h4, h1]
  ·intro y hy
   unfold nearStep
   rcases List.mem_append.1 hy with hy | hy
   ·have := h2 y hy
    split
    ·show dst x.f1 a ≤ _; omega
    ·split <;> exact this
   ·obtain rfl : y = x := by simpa using hy
    split
    ·exact Int.le_refl _
    ·split
     ·show s.1 ≤ _; omega
     ·omega
theorem near_spec (l : List Loc) (a : Int) : (near l a).2 = (l.filter fun x => decide (dst x.f1 a = (near l a).1)).map (·.f0) ∧ ∀ x ∈ l, (near l a).1 ≤ dst x.f1 a := by
 have := near_inv a l [] (181, []) (by simp) (by simp)
 rw [List.nil_append] at this; exact this

theorem least_some (l : List Loc) (a : Int) (hl : l.length ≤ 8) (hx : ∀ x ∈ l, (-90 ≤ x.f1 ∧ x.f1 ≤ 90) ∧ 1 ≤ x.f0.size) (ha : -90 ≤ a ∧ a ≤ 90) : FaK.F l a = some ((near l a).1, ((near l a).2.length : Int)) := by
 rw [FaK.F_eq]
 refine each (L := fun i => fun x6 x7 => FaK.L0 a x6 x7 l l.length i) l z74 (fun i t f => (∀ x ∈ t, x ∈ l) → ∀ s : Int × List ByteArray, s.2.length ≤ i → f s.1 s.2.length = some ((t.foldl (nearStep a) s).1, ((t.foldl (nearStep a) s).2.length : Int))) ?_ ?_ (fun _ h => h) (181, []) (by simp)
 ·intro _ s _
  show FaK.L0 a _ _ l _ _ = _
  rw [FaK.L0_eq, if_neg (by omega)]; rfl
 ·intro i x t hi hxi _ _ ih hm s hs
  have h1 := (hx x (hm x (by simp))).1
  have ih' := ih (fun y hy => hm y (by simp [hy]))
  show FaK.L0 a _ _ l _ _ = _
  rw [FaK.L0_eq, if_pos (by omega), if_pos (by omega), if_pos (by omega), rd_loc, hxi, wrap_in (x := (i : Int) + 1) (by omega) (by omega), abs_some _ _ (by omega) (by omega), Option.bind_some, List.foldl_cons]
  by_cases h2 : dst x.f1 a < s.1
  ·rw [if_pos h2]
   refine (ih' (dst x.f1 a, [x.f0]) (by simp)).trans ?_
   rw [nearStep, if_pos h2]
  ·rw [if_neg h2]
   by_cases h3 : dst x.f1 a = s.1
   ·rw [if_pos h3, wrap_in (by omega) (by omega)]
    have := ih' (s.1, s.2 ++ [x.f0]) (by simp; omega)
    simp only [List.length_append, List.length_singleton] at this
    rw [show (((s.2.length + 1 : Nat)) : Int) = (s.2.length : Int) + 1 from by omega] at this
    refine this.trans ?_
    rw [nearStep, if_neg h2, if_pos h3]
   ·rw [if_neg h3]
    refine (ih' s (by omega)).trans ?_
    rw [nearStep, if_neg h2, if_neg h3]

/-- Whom an angle means; the empty text for nobody. -/
def mt (l : List Loc) (a : Int) : ByteArray := if (near l a).1 > 20 then ⟨#[]⟩ else if (near l a).2.length = 1 then rdOf ByteArray.empty (near l a).2 0 else ⟨#[]⟩
theorem pointsAt_some (l : List Loc) (a : Int) (hl : l.length ≤ 8) (hx : ∀ x ∈ l, (-90 ≤ x.f1 ∧ x.f1 ≤ 90) ∧ 1 ≤ x.f0.size) (ha : -90 ≤ a ∧ a ≤ 90) : Fa4.F l a = some (mt l a) := by
 rw [Fa4.F_eq, nearest_some l a hl hx ha, Option.bind_some]
 unfold mt
 by_cases h1 : (near l a).1 > 20
 ·rw [if_pos h1, if_pos h1]
 ·rw [if_neg h1, if_neg h1]
  by_cases h2 : (near l a).2.length = 1
  ·rw [if_pos (by omega), if_pos (by omega), if_pos h2]
  ·rw [if_neg (by omega), if_neg h2]
theorem loMeans_some (l : List Loc) (a : Int) (hl : l.length ≤ 8) (hx : ∀ x ∈ l, (-90 ≤ x.f1 ∧ x.f1 ≤ 90) ∧ 1 ≤ x.f0.size) (ha : -90 ≤ a ∧ a ≤ 90) : Fav.F l a = some (mt l a, ((mt l a).toList != [])) := by
 have he : ((⟨#[]⟩ : ByteArray).toList != []) = false := by rw [toList_data]; rfl
 rw [Fav.F_eq, least_some l a hl hx ha, Option.bind_some]
 unfold mt
 by_cases h1 : (near l a).1 > 20
 ·rw [if_pos h1, if_pos h1, Fav.J0_eq, if_pos rfl, he]
 ·rw [if_neg h1, if_neg h1, Fav.J0_eq]
  by_cases h2 : (near l a).2.length = 1
  ·rw [if_neg (by simp [h2]), if_pos h2]
   obtain ⟨w, hw⟩ := List.length_eq_one_iff.1 h2
   have hw2 : rdOf ByteArray.empty (near l a).2 0 = w := by rw [hw]; rfl
   rw [hw2]
   have h3 := (near_spec l a).1
   rw [hw] at h3
   refine each (L := fun i => Fav.L0 a (near l a).1 l l.length i) l z74 (fun i t o => (∀ x ∈ t, x ∈ l) → [w] = (t.filter fun x => decide (dst x.f1 a = (near l a).1)).map (·.f0) → o = some (w, (w.toList != []))) ?_ ?_ (fun _ h => h) h3
   ·intro _ h4; simp at h4
   ·intro i x t hi hxi _ _ ih hm h4
    have h5 := hx x (hm x (by simp))
    show Fav.L0 a _ l _ _ = _
    rw [Fav.L0_eq, if_pos (by omega), if_pos (by omega), if_pos (by omega), rd_loc, hxi, wrap_in (x := (i : Int) + 1) (by omega) (by omega), abs_some _ _ (by omega) (by omega), Option.bind_some]
    by_cases h6 : dst x.f1 a = (near l a).1
    ·rw [if_pos h6]
     have h7 : w = x.f0 := by
      rw [List.filter_cons_of_pos (by simp [h6])] at h4
      simp at h4
      exact h4.1
     subst h7
     have h8 : (x.f0.toList != []) = true := by
      rw [toList_data, bne_iff_ne]
      intro e
      have := h5.2
      rw [size_data, e] at this
      simp at this
     rw [h8]
    ·rw [if_neg h6]
     rw [List.filter_cons_of_neg (by simp [h6])] at h4
     exact ih (fun y hy => hm y (by simp [hy])) h4
  ·rw [if_pos (by simp; omega), if_neg h2, he]

/-! ### What verbs mean -/
def meaning (l : List Loc) (a b : Int) : ByteArray × ByteArray :=
 if (mt l a).toList = [] then (⟨#[]⟩, ⟨#[]⟩) else if (mt l b).toList = [] then (⟨#[]⟩, ⟨#[]⟩) else if (mt l a).toList = (mt l b).toList then (⟨#[]⟩, ⟨#[]⟩) else (mt l a, mt l b)
theorem noText : (⟨#[]⟩ : ByteArray).toList = [] := by rw [toList_data]
theorem meaning_some (l : List Loc) (g : ByteArray) (a b : Int) (hl : l.length ≤ 8) (hx : ∀ x ∈ l, (-90 ≤ x.f1 ∧ x.f1 ≤ 90) ∧ 1 ≤ x.f0.size) (ha : -90 ≤ a ∧ a ≤ 90) (hb : -90 ≤ b ∧ b ≤ 90) : Fax.F g a b l = some (meaning l a b) := by
 rw [Fax.F_eq, pointsAt_some _ _ hl hx ha, pointsAt_some _ _ hl hx hb, Option.bind_some, Option.bind_some]
 unfold meaning
 split
 ·rfl
 ·split
  ·rfl
  ·split <;> rfl
theorem veMeans_some (l : List Loc) (g : ByteArray) (a b : Int) (hl : l.length ≤ 8) (hx : ∀ x ∈ l, (-90 ≤ x.f1 ∧ x.f1 ≤ 90) ∧ 1 ≤ x.f0.size) (ha : -90 ≤ a ∧ a ≤ 90) (hb : -90 ≤ b ∧ b ≤ 90) : FaV.F l g a b = some ((meaning l a b).1, (meaning l a b).2, ((meaning l a b).1.toList != [])) := by
 rw [FaV.F_eq, loMeans_some _ _ hl hx ha, loMeans_some _ _ hl hx hb, Option.bind_some, Option.bind_some]
 unfold meaning
 by_cases c1 : (mt l a).toList = []
 ·simp [c1, noText]
 by_cases c2 : (mt l b).toList = []
 ·simp [c1, c2, noText]
 by_cases c3 : (mt l a).toList = (mt l b).toList
 ·simp [c2, c3, noText]
 ·simp [c1, c2, c3, noText]


theorem mt_short {l : List Loc} (h : good l = true) (a : Int) : (mt l a).size ≤ 8 := by
 unfold mt
 split
 ·show 0 ≤ 8; omega
 ·split
  ·rename_i h2
   obtain ⟨w, hw⟩ := List.length_eq_one_iff.1 h2
   have h3 := (near_spec l a).1
   rw [hw] at h3 ⊢
   show w.size ≤ 8
   have h4 : w ∈ [w] := by simp
   rw [h3] at h4
   obtain ⟨x, hx, rfl⟩ := List.mem_map.1 h4
   exact good_short h x (List.mem_filter.1 hx).1
  ·show 0 ≤ 8; omega
theorem meaning_short {l : List Loc} (h : good l = true) (a b : Int) : (meaning l a b).1.size ≤ 8 ∧ (meaning l a b).2.size ≤ 8 := by
 unfold meaning
 split
 ·exact ⟨by show 0 ≤ 8; omega, by show 0 ≤ 8; omega⟩
 ·split
  ·exact ⟨by show 0 ≤ 8; omega, by show 0 ≤ 8; omega⟩
  ·split
   ·exact ⟨by show 0 ≤ 8; omega, by show 0 ≤ 8; omega⟩
   ·exact ⟨mt_short h a, mt_short h b⟩


theorem fsWord_some (s : ByteArray) (hs : s.size ≤ 9223372036854775807) : FaC.F s = some (isWord 65 90 s) := by
 rw [FaC.F_eq]
 have := each (L := fun i => FaC.L0 s i) s.data.toList 0 (fun _ t o => o = some (inRange 65 90 t && decide (1 ≤ s.size ∧ s.size ≤ 8))) ?_ ?_
 ·rw [this, isWord, Bool.and_comm]
 ·show FaC.L0 s _ = _
  rw [FaC.L0_eq, if_neg (by rw [← size_data]; omega), l1In_some]
  simp only [Option.bind_some, inRange, List.all_nil, Bool.true_and, dec_size]
 ·intro i x t hi hx _ _ ih
  have hi' : i < s.size := by rw [size_data]; exact hi
  show FaC.L0 s _ = _
  rw [FaC.L0_eq, if_pos (by omega), if_pos (by omega), bt_data s i hi', hx, wrap_in (by omega) (by omega)]
  by_cases h1 : x.toNat < 65
  ·rw [if_pos (by omega)]; simp [inRange]; omega
  ·rw [if_neg (by omega)]
   by_cases h2 : 90 < x.toNat
   ·rw [if_pos (by omega)]; simp [inRange]; omega
   ·rw [if_neg (by omega), ih]
    have h3 : 65 ≤ x.toNat := by omega
    have h4 : x.toNat ≤ 90 := by omega
    simp [inRange, h3, h4]


theorem isGloss_some (s : ByteArray) (hs : s.size ≤ 9223372036854775807) : Fa6.F s = some (isWord 65 90 s) := by
 rw [Fa6.F_eq, isWordOf_some 65 90 s _ hs (by decide +kernel)]; rfl





/-! ### Referents -/
def isRef (l : List Loc) (s : ByteArray) : Bool := decide (0 ≤ idxFrom s l 0)
theorem rd_text (l : List ByteArray) (i : Nat) : rdOf ByteArray.empty l (i : Int) = l.getD i ByteArray.empty := by simp [rdOf]
theorem areRefs_some (l : List Loc) (w : List ByteArray) (hl : Sized l) (hw : w.length ≤ 9223372036854775807) : FaL.F l w = some (good l && w.all (isRef l)) := by
 have hl1 := hl.1
 rw [FaL.F_eq, areLoci_some l hl, Option.bind_some]
 cases good l
 ·rfl
 rw [if_pos rfl, Bool.true_and, FaB.F_eq, Fak.F_eq, Fab.F_eq]
 have := each (L := fun i => Fab.L0 w w.length i l) w ByteArray.empty (fun _ t o => ∃ r, o = some r ∧ decide (r ≥ 0) = !(t.all (isRef l))) ?_ ?_
 ·obtain ⟨r, h1, h2⟩ := this
  rw [h1]; simp [h2]
 ·refine ⟨-1, ?_, by simp⟩
  show Fab.L0 w _ _ l = _
  rw [Fab.L0_eq, if_neg (by omega)]
 ·intro i x t hi hx _ _ ih
  show ∃ r, Fab.L0 w _ _ l = _ ∧ _
  rw [Fab.L0_eq, if_pos (by omega), if_pos (by omega), if_pos (by omega), rd_text, hx, wrap_in (x := (i : Int) + 1) (by omega) (by omega), Faz.F_eq, Fa2.F_eq, locusOf_some l x hl1]
  simp only [Option.bind_some, List.all_cons]
  by_cases h : 0 ≤ idxFrom x l 0
  ·have h2 : isRef l x = true := by simp [isRef, h]
   rw [if_neg (by simp [h]), h2, Bool.true_and]; exact ih
  ·have h2 : isRef l x = false := by simp [isRef, h]
   rw [if_pos (by simp; omega), h2]; exact ⟨i, rfl, by simp⟩
theorem ref_long {l : List Loc} {s : ByteArray} (hx : ∀ x ∈ l, (-90 ≤ x.f1 ∧ x.f1 ≤ 90) ∧ 1 ≤ x.f0.size) (h : isRef l s = true) : 1 ≤ s.size := by
 rcases idxFrom_cases s l 0 with ⟨h1, _⟩ | ⟨j, h1, _, h3⟩
 ·simp [isRef, h1] at h
 ·rw [List.getD_eq_getElem?_getD, List.getElem?_eq_getElem h1, Option.getD_some] at h3
  rw [← h3]; exact (hx _ (List.getElem_mem h1)).2

theorem idx_at {l : List Loc} {s : ByteArray} (h : isRef l s = true) : ∃ j, j < l.length ∧ idxFrom s l 0 = (j : Int) ∧ (l.getD j z74).f0 = s ∧ l.getD j z74 ∈ l := by
 rcases idxFrom_cases s l 0 with ⟨h1, _⟩ | ⟨j, h1, h2, h3⟩
 ·simp [isRef, h1] at h
 ·refine ⟨j, h1, by rw [h2]; omega, h3, ?_⟩
  rw [List.getD_eq_getElem?_getD, List.getElem?_eq_getElem h1, Option.getD_some]
  exact List.getElem_mem h1




/-- Is it a verb? -/
def isVerb (g : ByteArray) (a b : Int) : Bool := isWord 65 90 g && (decide (-90 ≤ a ∧ a ≤ 90) && (decide (-90 ≤ b ∧ b ≤ 90) && (a != b)))
theorem isVerb_some (g : ByteArray) (a b : Int) (hg : g.size ≤ 9223372036854775807) : FaW.F g a b = some (isVerb g a b) := by
 rw [FaW.F_eq, isGloss_some g hg, isAngle_some, isAngle_some]
 unfold isVerb
 cases isWord 65 90 g <;> cases decide (-90 ≤ a ∧ a ≤ 90) <;> cases decide (-90 ≤ b ∧ b ≤ 90) <;> simp
theorem veOne_some (g : ByteArray) (a b : Int) (hg : g.size ≤ 9223372036854775807) : FaQ.F g a b = some (isVerb g a b) := by
 rw [FaQ.F_eq, fsWord_some g hg, loAngle_some, loAngle_some]
 unfold isVerb
 cases isWord 65 90 g <;> cases decide (-90 ≤ a ∧ a ≤ 90) <;> cases decide (-90 ≤ b ∧ b ≤ 90) <;> simp

/-! ### Slices of verbs -/
abbrev Ver := S40
theorem rd_ver (l : List Ver) (i : Nat) : rd_T40 l (i : Int) = l.getD i z40 := by simp [rd_T40]
def SizedV (l : List Ver) : Prop := l.length ≤ 9223372036854775807 ∧ ∀ x ∈ l, x.f0.size ≤ 9223372036854775807
def isV (x : Ver) : Bool := isVerb x.f0 x.f1 x.f2
/-- Are they verbs, and few enough? -/
def goodV (l : List Ver) : Bool := l.all isV && decide (l.length ≤ 20)
theorem veGood_some (l : List Loc) (v : List Ver) (hl : Sized l) (hv : SizedV v) : FaE.F l v = some (good l && goodV v) := by
 have hv1 := hv.1
 rw [FaE.F_eq]
 rw [show (good l && goodV v) = (v.all isV && (good l && decide (v.length ≤ 20))) from by unfold goodV; cases good l <;> cases v.all isV <;> rfl]
 refine each (L := fun i => FaE.L0 l v v v.length i) v z40 (fun _ t o => o = some (t.all isV && (good l && decide (v.length ≤ 20)))) ?_ ?_
 ·show FaE.L0 l v v _ _ = _
  rw [FaE.L0_eq, if_neg (by omega), loGood_some l hl, Option.bind_some]
  have : decide ((v.length : Int) ≤ 20) = decide (v.length ≤ 20) := by simp only [decide_eq_decide]; omega
  cases good l <;> simp [this]
 ·intro i x t hi hx hd _ ih
  have hs := hv.2 x (mem_drop hd)
  show FaE.L0 l v v _ _ = _
  rw [FaE.L0_eq, if_pos (by omega), if_pos (by omega), if_pos (by omega), rd_ver, hx, wrap_in (x := (i : Int) + 1) (by omega) (by omega), veOne_some _ _ _ hs, Option.bind_some, List.all_cons, show isVerb x.f0 x.f1 x.f2 = isV x from rfl]
  cases isV x
  ·rfl
  ·rw [if_pos rfl, Bool.true_and]; exact ih
theorem areVerbs_some (v : List Ver) (hv : SizedV v) : FaR.F v = some (goodV v) := by
 have hv1 := hv.1
 rw [FaR.F_eq]
 by_cases h : (v.length : Int) ≤ 20
 case neg => rw [if_neg h, goodV, decide_eq_false (by omega), Bool.and_false]
 rw [if_pos h, goodV, decide_eq_true (by omega), Bool.and_true, FaP.F_eq, Fao.F_eq, Fac.F_eq]
 have := each (L := fun i => Fac.L0 v v.length i) v z40 (fun _ t o => ∃ r, o = some r ∧ decide (r ≥ 0) = !(t.all isV)) ?_ ?_
 ·obtain ⟨r, h1, h2⟩ := this
  rw [h1]; simp [h2]
 ·refine ⟨-1, ?_, by simp⟩
  show Fac.L0 v _ _ = _
  rw [Fac.L0_eq, if_neg (by omega)]
 ·intro i x t hi hx hd _ ih
  have hs := hv.2 x (mem_drop hd)
  show ∃ r, Fac.L0 v _ _ = _ ∧ _
  rw [Fac.L0_eq, if_pos (by omega), if_pos (by omega), if_pos (by omega), rd_ver, hx, wrap_in (x := (i : Int) + 1) (by omega) (by omega), FaO.F_eq, isVerb_some _ _ _ hs]
  simp only [Option.bind_some, List.all_cons, show isVerb x.f0 x.f1 x.f2 = isV x from rfl]
  cases isV x
  ·rw [if_pos (by simp)]; exact ⟨i, rfl, by simp⟩
  ·rw [if_neg (by simp), Bool.true_and]; exact ih
theorem goodV_facts {v : List Ver} (h : goodV v = true) : v.length ≤ 20 ∧ ∀ x ∈ v, (-90 ≤ x.f1 ∧ x.f1 ≤ 90) ∧ (-90 ≤ x.f2 ∧ x.f2 ≤ 90) ∧ x.f0.size ≤ 8 := by
 simp only [goodV, Bool.and_eq_true, List.all_eq_true, decide_eq_true_eq] at h
 refine ⟨h.2, fun x hx => ?_⟩
 have := h.1 x hx
 simp only [isV, isVerb, isWord, Bool.and_eq_true, decide_eq_true_eq] at this
 exact ⟨this.2.1, this.2.2.1, this.1.1.2⟩


/-! ### Texts in their order, each once -/
def Strict (l : List ByteArray) : Prop := l.Pairwise (fun a b => a.toList < b.toList)
theorem lsOf_toList (s : ByteArray) : lsOf s = s.toList := by rw [lsOf, toList_data]
theorem strict_ext {l m : List ByteArray} (hl : Strict l) (hm : Strict m) (h : ∀ x, x ∈ l ↔ x ∈ m) : l = m := by
 have nd : ∀ {l : List ByteArray}, Strict l → l.Nodup := fun hl => List.Pairwise.imp (fun {a b} h e => by subst e; exact List.lt_irrefl _ h) hl
 refine List.Perm.eq_of_pairwise (le := fun a b : ByteArray => a.toList < b.toList) (fun a b _ _ h1 h2 => ?_) hl hm ((List.perm_ext_iff_of_nodup (nd hl) (nd hm)).2 h)
 exact absurd (List.lt_trans h1 h2) (List.lt_irrefl _)
def putText (w : ByteArray) : List ByteArray → List ByteArray
 | [] => [w]
 | y :: t => if y.toList < w.toList then y :: putText w t else if y.toList = w.toList then y :: t else w :: y :: t
theorem putText_mem (w x : ByteArray) : ∀ l : List ByteArray, x ∈ putText w l ↔ x = w ∨ x ∈ l
 | [] => by simp [putText]
 | y :: t => by
  unfold putText
  split
  ·rw [List.mem_cons, putText_mem w x t, List.mem_cons]
   constructor
   ·rintro (h | h | h)
    ·exact .inr (.inl h)
    ·exact .inl h
    ·exact .inr (.inr h)
   ·rintro (h | h | h)
    ·exact .inr (.inl h)
    ·exact .inl h
    ·exact .inr (.inr h)
  ·split
   ·rename_i h
    have : y = w := ext_data h
    subst this
    rw [List.mem_cons]
    constructor
    ·exact fun h => .inr h
    ·rintro (h | h)
     ·exact .inl h
     ·exact h
   ·rw [List.mem_cons]
theorem text_lt {a b : ByteArray} (h1 : ¬ a.toList < b.toList) (h2 : ¬ a.toList = b.toList) : b.toList < a.toList :=
 Classical.byContradiction fun h3 => h2 (List.le_antisymm (List.not_lt.1 h3) (List.not_lt.1 h1))
theorem putText_strict (w : ByteArray) : ∀ {l : List ByteArray}, Strict l → Strict (putText w l)
 | [], _ => by simp [putText, Strict]
 | y :: t, h => by
  have h1 := List.pairwise_cons.1 h
  unfold putText
  split
  ·rename_i hy
   refine List.pairwise_cons.2 ⟨fun b hb => ?_, putText_strict w h1.2⟩
   rcases (putText_mem w b t).1 hb with rfl | hb
   ·exact hy
   ·exact h1.1 b hb
  ·split
   ·exact h
   ·rename_i hy he
    have hwy := text_lt hy he
    refine List.pairwise_cons.2 ⟨fun b hb => ?_, h⟩
    rcases List.mem_cons.1 hb with rfl | hb
    ·exact hwy
    ·exact List.lt_trans hwy (h1.1 b hb)
theorem putText_length (w : ByteArray) : ∀ l : List ByteArray, (putText w l).length ≤ l.length + 1
 | [] => by simp [putText]
 | y :: t => by
  have := putText_length w t
  unfold putText
  split
  ·simp only [List.length_cons]; omega
  ·split <;> simp only [List.length_cons] <;> omega
/-- Runs of a sorted row, each once. -/
theorem compact_strict (S : List (List UInt8)) (h : S.Pairwise (fun a b => a ≤ b)) : (Lib.compact S).Pairwise (fun a b => a < b) := by
 unfold Lib.compact Lib.compactUpTo
 rw [List.pairwise_map, List.pairwise_filter]
 refine List.Pairwise.imp_of_mem (R := fun a b => a < b) (fun {i j} hi hj hij _ kj => ?_) List.pairwise_lt_range
 have hi' : i < S.length := List.mem_range.1 hi
 have hj' : j < S.length := List.mem_range.1 hj
 have kj2 : j = 0 ∨ S.toArray[j]! ≠ S.toArray[j - 1]! := by simpa [Lib.keeps] using kj
 have hne : S.toArray[j]! ≠ S.toArray[j - 1]! := by
  rcases kj2 with h0 | h0
  ·omega
  ·exact h0
 have g : ∀ k, (hk : k < S.length) → S.toArray[k]! = S[k] := fun k hk => by simp [hk]
 rw [g j hj', g (j - 1) (by omega)] at hne
 rw [g i hi', g j hj']
 rw [List.pairwise_iff_getElem] at h
 have h1 : S[j - 1] ≤ S[j] := h (j - 1) j (by omega) hj' (by omega)
 have h2 : S[i] ≤ S[j - 1] := by
  rcases Nat.lt_or_ge i (j - 1) with h3 | h3
  ·exact h i (j - 1) hi' (by omega) h3
  ·have e : i = j - 1 := by omega
   subst e
   exact List.le_refl _
 refine List.lt_of_le_of_lt h2 ?_
 exact Classical.byContradiction fun h3 => hne (List.le_antisymm (List.not_lt.1 h3) h1)
theorem compact_mem {α : Type} [Inhabited α] [DecidableEq α] (S : List α) (x : α) : x ∈ Lib.compact S ↔ x ∈ S := by
 unfold Lib.compact Lib.compactUpTo
 have g : ∀ k, (hk : k < S.length) → S.toArray[k]! = S[k] := fun k hk => by simp [hk]
 constructor
 ·intro h
  obtain ⟨j, hj, rfl⟩ := List.mem_map.1 h
  have hj' : j < S.length := List.mem_range.1 (List.mem_filter.1 hj).1
  rw [g j hj']
  exact List.getElem_mem hj'
 ·intro h
  obtain ⟨i, hi, rfl⟩ := List.getElem_of_mem h
  have key : ∀ i, (hi : i < S.length) → ∃ j, j < S.length ∧ Lib.keeps S.toArray j = true ∧ S.toArray[j]! = S[i] := by
   intro i
   induction i with
   | zero => intro hi; exact ⟨0, hi, by simp [Lib.keeps], g 0 hi⟩
   | succ i ih =>
    intro hi
    by_cases hk : Lib.keeps S.toArray (i + 1) = true
    ·exact ⟨i + 1, hi, hk, g _ hi⟩
    ·obtain ⟨j, h1, h2, h3⟩ := ih (by omega)
     refine ⟨j, h1, h2, ?_⟩
     have : S.toArray[i + 1]! = S.toArray[i]! := by
      apply Classical.byContradiction
      intro h4
      exact hk (by simp [Lib.keeps]; simpa using h4)
     rw [g _ hi, g i (by omega)] at this
     rw [h3, this]
  obtain ⟨j, h1, h2, h3⟩ := key i hi
  exact List.mem_map.2 ⟨j, List.mem_filter.2 ⟨List.mem_range.2 h1, h2⟩, h3⟩
theorem bs_ls (s : ByteArray) : bsOf (lsOf s) = s := by cases s; rfl
def uniq (l : List ByteArray) : List ByteArray := onceTexts (sortTexts l)
theorem bsOf_toList (l : List UInt8) : (bsOf l).toList = l := by rw [toList_data]; simp [bsOf]
theorem uniq_eq (l : List ByteArray) : uniq l = (Lib.compact ((l.map lsOf).mergeSort fun x y => decide (x ≤ y))).map bsOf := by
 unfold uniq onceTexts sortTexts
 rw [List.map_map, show (lsOf ∘ bsOf) = id from funext fun l => by simp [lsOf, bsOf], List.map_id]
theorem uniq_strict (l : List ByteArray) : Strict (uniq l) := by
 rw [uniq_eq, Strict, List.pairwise_map]
 refine List.Pairwise.imp (fun {a b} h => ?_) (compact_strict _ (List.Pairwise.imp (fun {a b} h => of_decide_eq_true h) (List.pairwise_mergeSort (le := fun x y : List UInt8 => decide (x ≤ y)) (fun a b c h1 h2 => ?_) (fun a b => ?_) (l.map lsOf))))
 ·rw [bsOf_toList, bsOf_toList]; exact h
 ·exact decide_eq_true (List.le_trans (of_decide_eq_true h1) (of_decide_eq_true h2))
 ·rcases List.le_total a b with h | h
  ·simp [h]
  ·simp [h]
theorem uniq_mem (l : List ByteArray) (x : ByteArray) : x ∈ uniq l ↔ x ∈ l := by
 rw [uniq_eq]
 constructor
 ·intro h
  obtain ⟨y, hy, rfl⟩ := List.mem_map.1 h
  rw [compact_mem, List.mem_mergeSort] at hy
  obtain ⟨z, hz, rfl⟩ := List.mem_map.1 hy
  rw [bs_ls]
  exact hz
 ·intro h
  refine List.mem_map.2 ⟨lsOf x, ?_, bs_ls x⟩
  rw [compact_mem, List.mem_mergeSort]
  exact List.mem_map.2 ⟨x, h, rfl⟩
theorem uniq_length (l : List ByteArray) : (uniq l).length ≤ l.length :=
 Nat.le_trans (onceTexts_length _) (by rw [sortTexts_length]; exact Nat.le_refl _)
theorem fold_put (l : List ByteArray) : ∀ o : List ByteArray, Strict o → Strict (l.foldl (fun o w => putText w o) o) ∧ ∀ x, x ∈ l.foldl (fun o w => putText w o) o ↔ x ∈ o ∨ x ∈ l := by
 induction l with
 | nil => intro o h; exact ⟨h, fun x => by simp⟩
 | cons w t ih =>
  intro o h
  obtain ⟨h1, h2⟩ := ih _ (putText_strict w h)
  refine ⟨h1, fun x => ?_⟩
  rw [List.foldl_cons, h2, putText_mem, List.mem_cons]
  constructor
  ·rintro ((h | h) | h)
   ·exact .inr (.inl h)
   ·exact .inl h
   ·exact .inr (.inr h)
  ·rintro (h | h | h)
   ·exact .inl (.inr h)
   ·exact .inl (.inl h)
   ·exact .inr h
theorem uniq_fold (l : List ByteArray) : l.foldl (fun o w => putText w o) [] = uniq l := by
 obtain ⟨h1, h2⟩ := fold_put l [] (by simp [Strict])
 exact strict_ext h1 (uniq_strict l) (fun x => by rw [h2, uniq_mem]; simp)
theorem distinct_some (l : List ByteArray) (hl : l.length ≤ 1048576) : Fbp.f l = some (uniq l) := by
 unfold Fbp.f Fbr.f Fbu.f Fbn.f
 have h1 := sortTexts_length l
 simp only [Option.bind_some, List.length_nil, List.nil_append]
 rw [if_pos (by omega), Option.bind_some, if_pos (by omega), Option.bind_some, if_pos (by omega)]
 rfl

theorem rd_txt (l : List ByteArray) (i : Nat) : rdOf ByteArray.empty l (i : Int) = l.getD i ByteArray.empty := by simp [rdOf]
theorem qInts_refl (l : List Int) (hl : l.length ≤ 9223372036854775807) : FaH.F l l = some true := by
 rw [FaH.F_eq, if_pos rfl]
 refine each (L := fun i => FaH.L0 l l l.length i) l 0 (fun _ _ o => o = some true) ?_ ?_
 ·show FaH.L0 l l _ _ = _
  rw [FaH.L0_eq, if_neg (by omega)]
 ·intro i x t hi hx _ _ ih
  show FaH.L0 l l _ _ = _
  rw [FaH.L0_eq, if_pos (by omega), if_pos (by omega), if_pos (by omega), if_pos (by omega), if_pos rfl, wrap_in (x := (i : Int) + 1) (by omega) (by omega)]
  exact ih
theorem qTexts_refl (l : List ByteArray) (hl : l.length ≤ 9223372036854775807) : Fat.F l l = some true := by
 rw [Fat.F_eq, if_pos rfl]
 refine each (L := fun i => Fat.L0 l l l.length i) l ByteArray.empty (fun _ _ o => o = some true) ?_ ?_
 ·show Fat.L0 l l _ _ = _
  rw [Fat.L0_eq, if_neg (by omega)]
 ·intro i x t hi hx _ _ ih
  show Fat.L0 l l _ _ = _
  rw [Fat.L0_eq, if_pos (by omega), if_pos (by omega), if_pos (by omega), if_pos (by omega), if_pos rfl, wrap_in (x := (i : Int) + 1) (by omega) (by omega)]
  exact ih
theorem qHas_some (l : List Int) (n : Int) (hl : l.length ≤ 1000000) : FaU.F l n = some (decide (n ∈ l)) := by
 rw [FaU.F_eq]
 refine each (L := fun i => FaU.L0 n l l.length i) l 0 (fun _ t o => o = some (decide (n ∈ t))) ?_ ?_
 ·show FaU.L0 n l _ _ = _
  rw [FaU.L0_eq, if_neg (by omega)]; simp
 ·intro i x t hi hx _ _ ih
  have e : rd l (i : Int) = x := by rw [← hx]; simp [rd]
  show FaU.L0 n l _ _ = _
  rw [FaU.L0_eq, if_pos (by omega), if_pos (by omega), if_pos (by omega), e, wrap_in (x := (i : Int) + 1) (by omega) (by omega)]
  by_cases c : x = n
  ·rw [if_pos c]; simp [c]
  ·have c' : ¬ n = x := fun h => c h.symm
   rw [if_neg c, ih]; simp [c']

theorem ver_mem {V : List Ver} {k : Nat} (h : k < V.length) : V.getD k z40 ∈ V := by
 rw [List.getD_eq_getElem?_getD, List.getElem?_eq_getElem h, Option.getD_some]; exact List.getElem_mem h
def DrawnV (V : List Ver) : Prop := V.length ≤ 21 ∧ ∀ x ∈ V, x.f0.size ≤ 9
theorem DrawnV.sized {V : List Ver} (h : DrawnV V) : SizedV V := ⟨by have := h.1; omega, fun x hx => by have := h.2 x hx; omega⟩
/-! ### Verbs that are run -/
def idleFrom (L : List Loc) : Nat → List Ver → List Int
 | _, [] => []
 | i, x :: t => (if (meaning L x.f1 x.f2).1.toList = [] then [(i : Int)] else []) ++ idleFrom L (i + 1) t
theorem idle_cons (L : List Loc) (i : Nat) (x : Ver) (t : List Ver) : idleFrom L i (x :: t) = (if (meaning L x.f1 x.f2).1.toList = [] then [(i : Int)] else []) ++ idleFrom L (i + 1) t := rfl
theorem idle_length (L : List Loc) : ∀ (i : Nat) (t : List Ver), (idleFrom L i t).length ≤ t.length
 | _, [] => by simp [idleFrom]
 | i, x :: t => by
  have := idle_length L (i + 1) t
  rw [idle_cons, List.length_append]
  split <;> simp <;> omega
theorem mem_idle (L : List Loc) (n : Nat) : ∀ (t : List Ver) (i : Nat), i ≤ n → n < i + t.length → (((n : Int) ∈ idleFrom L i t) ↔ (meaning L (t.getD (n - i) z40).f1 (t.getD (n - i) z40).f2).1.toList = [])
 | [], i, h1, h2 => by simp at h2; omega
 | x :: t, i, h1, h2 => by
  have low : ∀ (t : List Ver) (i : Nat) (m : Int), m ∈ idleFrom L i t → (i : Int) ≤ m := by
   intro t
   induction t with
   | nil => intro i m hm; simp [idleFrom] at hm
   | cons y t ih =>
    intro i m hm
    rw [idle_cons] at hm
    rcases List.mem_append.1 hm with hm | hm
    ·split at hm
     ·obtain rfl := List.mem_singleton.1 hm; omega
     ·simp at hm
    ·have := ih (i + 1) m hm; omega
  simp only [List.length_cons] at h2
  rw [idle_cons, List.mem_append]
  by_cases e : i = n
  ·subst e
   have hn : ¬ ((i : Int) ∈ idleFrom L (i + 1) t) := fun hm => by have := low t (i + 1) _ hm; omega
   rw [Nat.sub_self, List.getD_cons_zero]
   by_cases hx : (meaning L x.f1 x.f2).1.toList = [] <;> simp [hn, hx]
  ·have ih := mem_idle L n t (i + 1) (by omega) (by omega)
   have hn : ¬ ((n : Int) ∈ (if (meaning L x.f1 x.f2).1.toList = [] then [(i : Int)] else [])) := fun hm => by
    split at hm
    ·have := List.mem_singleton.1 hm; omega
    ·simp at hm
   rw [show n - i = (n - (i + 1)) + 1 from by omega, List.getD_cons_succ, ← ih]
   simp [hn]
theorem run_rounds (L : List Loc) (V : List Ver) (hg : good L = true) (hv : goodV V = true) : ∃ r, FaG.L0 L [] [] V V.length 0 = some (r, idleFrom L 0 V, true) ∧ Faq.L0 L [] [] V V.length 0 = some (r, idleFrom L 0 V, true) ∧ r.length + (idleFrom L 0 V).length = V.length := by
 obtain ⟨g1, g2⟩ := good_facts hg
 obtain ⟨v1, v2⟩ := goodV_facts hv
 have := each (L := fun i => ((fun a b => FaG.L0 L a b V V.length i : List ByteArray → List Int → _), (fun a b => Faq.L0 L a b V V.length i : List ByteArray → List Int → _))) V z40 (fun i t f => ∀ a b, a.length ≤ i → b.length ≤ i → ∃ r, f.1 a b = some (r, b ++ idleFrom L i t, true) ∧ f.2 a b = some (r, b ++ idleFrom L i t, true) ∧ r.length + (idleFrom L i t).length = a.length + t.length) ?_ ?_ [] [] (by simp) (by simp)
 ·simpa using this
 ·intro a b ha hb
  show ∃ r, FaG.L0 L a b V _ _ = _ ∧ Faq.L0 L a b V _ _ = _ ∧ _
  rw [FaG.L0_eq, Faq.L0_eq, if_neg (by omega), if_neg (by omega)]
  exact ⟨a, by simp [idleFrom], by simp [idleFrom], by simp [idleFrom]⟩
 ·intro i x t hi hxi hd _ ih a b ha hb
  have hx := v2 x (mem_drop hd)
  obtain ⟨m1, m2⟩ := meaning_short hg x.f1 x.f2
  have ih1 := fun s => ih (a ++ [s]) b (by simp; omega) (by omega)
  have ih2 := ih a (b ++ [(i : Int)]) (by omega) (by simp; omega)
  show ∃ r, FaG.L0 L a b V _ _ = _ ∧ Faq.L0 L a b V _ _ = _ ∧ _
  have i1 : (i : Int) < (V.length : Int) := by omega
  have i2 : (0 : Int) ≤ (i : Int) := by omega
  have a1 : a.length < 8796093022208 := by omega
  have b1 : b.length < 17592186044416 := by omega
  rw [FaG.L0_eq, Faq.L0_eq, idle_cons]
  simp only [i1, i2, a1, b1, if_true, rd_ver, hxi, veMeans_some _ _ _ _ g1 g2 hx.1 hx.2.1, meaning_some _ _ _ _ g1 g2 hx.1 hx.2.1, Option.bind_some, wrap_in (x := (i : Int) + 1) (by omega) (by omega)]
  generalize hmm : meaning L x.f1 x.f2 = mm at m1 m2
  have s0 : (⟨#[32]⟩ : ByteArray).size = 1 := rfl
  have s1 : mm.1.size + 1 ≤ 9223372036854775807 := by omega
  have s2 : (mm.1 ++ (⟨#[32]⟩ : ByteArray)).size + x.f0.size ≤ 9223372036854775807 := by rw [ByteArray.size_append, s0]; omega
  have s3 : ((mm.1 ++ (⟨#[32]⟩ : ByteArray)) ++ x.f0).size + 1 ≤ 9223372036854775807 := by rw [ByteArray.size_append, ByteArray.size_append, s0]; omega
  have s4 : (((mm.1 ++ (⟨#[32]⟩ : ByteArray)) ++ x.f0) ++ (⟨#[32]⟩ : ByteArray)).size + mm.2.size ≤ 9223372036854775807 := by rw [ByteArray.size_append, ByteArray.size_append, ByteArray.size_append, s0]; omega
  by_cases c : mm.1.toList = []
  ·simp only [c, if_true, bne_self_eq_false, Bool.false_eq_true, if_false]
   obtain ⟨r, k1, k2, k3⟩ := ih2
   refine ⟨r, ?_, ?_, by simp; omega⟩
   ·rw [← List.append_assoc]; exact k1
   ·rw [← List.append_assoc]; exact k2
  ·have c2 : (mm.1.toList != []) = true := by simpa using c
   simp only [c, c2, s1, s2, s3, s4, if_true, if_false, List.nil_append]
   obtain ⟨r, k1, k2, k3⟩ := ih1 ((((mm.1 ++ (⟨#[32]⟩ : ByteArray)) ++ x.f0) ++ (⟨#[32]⟩ : ByteArray)) ++ mm.2)
   exact ⟨r, k1, k2, by simp at k3 ⊢; omega⟩
theorem run_same (L : List Loc) (V : List Ver) (hL : Drawn L) (hV : DrawnV V) : ∃ r s b, FaG.F L V = some (r, s, b) ∧ Faq.F L V = some (r, s, b) ∧ r.length ≤ 20 ∧ s.length ≤ 20 ∧ (b = true → good L = true ∧ goodV V = true ∧ s = idleFrom L 0 V ∧ r.length + s.length = V.length) := by
 have hz := hL.sized
 have hzv := hV.sized
 rw [FaG.F_eq, Faq.F_eq, areLoci_some _ hz, veGood_some _ _ hz hzv, areVerbs_some _ hzv]
 simp only [Option.bind_some, Faq.J0_eq]
 cases hg : good L
 ·exact ⟨_, _, _, rfl, rfl, by simp, by simp, by simp⟩
 cases hgv : goodV V
 ·exact ⟨_, _, _, rfl, rfl, by simp, by simp, by simp⟩
 obtain ⟨r, k1, k2, k3⟩ := run_rounds L V hg hgv
 have := (goodV_facts hgv).1
 exact ⟨r, _, true, k1, k2, by omega, by omega, fun _ => ⟨by first | trivial | rfl, by first | trivial | rfl, rfl, k3⟩⟩
/-! ### Who does it -/
/-- Who does a verb with a gloss, verb by verb. -/
def doer (L : List Loc) (g : ByteArray) (v : Ver) : Option ByteArray := if (meaning L v.f1 v.f2).1.toList = [] then none else if v.f0.toList = g.toList then some (meaning L v.f1 v.f2).1 else none
theorem implDoers (L : List Loc) (V : List Ver) (g : ByteArray) (hg : good L = true) (hv : goodV V = true) : Fas.L0 L g [] V V.length 0 = some (uniq (V.filterMap (doer L g)), true) := by
 obtain ⟨g1, g2⟩ := good_facts hg
 obtain ⟨v1, v2⟩ := goodV_facts hv
 refine each (L := fun i => fun o => Fas.L0 L g o V V.length i) V z40 (fun i t f => ∀ o : List ByteArray, o.length ≤ i → f o = some (uniq (o ++ t.filterMap (doer L g)), true)) ?_ ?_ [] (by simp)
 ·intro o ho
  show Fas.L0 L g o V _ _ = _
  rw [Fas.L0_eq, if_neg (by omega), distinct_some o (by omega), Option.bind_some]
  simp
 ·intro i x t hi hxi hd _ ih o ho
  have hx := v2 x (mem_drop hd)
  show Fas.L0 L g o V _ _ = _
  rw [Fas.L0_eq, if_pos (by omega), if_pos (by omega), if_pos (by omega), rd_ver, hxi, meaning_some _ _ _ _ g1 g2 hx.1 hx.2.1, Option.bind_some, wrap_in (x := (i : Int) + 1) (by omega) (by omega)]
  by_cases c : (meaning L x.f1 x.f2).1.toList = []
  ·rw [if_pos c, List.filterMap_cons_none (by rw [doer, if_pos c])]
   exact ih o (by omega)
  ·rw [if_neg c]
   by_cases c2 : x.f0.toList = g.toList
   ·rw [if_pos c2, if_pos (by omega), List.filterMap_cons_some (by rw [doer, if_neg c, if_pos c2])]
    refine (ih _ (by simp; omega)).trans ?_
    simp
   ·rw [if_neg c2, List.filterMap_cons_none (by rw [doer, if_neg c, if_neg c2])]
    exact ih o (by omega)
theorem specPut (L : List Loc) (g w : ByteArray) (V : List Ver) (n i : Int) (o : List ByteArray) (ho : o.length ≤ 20) : Fad.L1 L g o w 0 V n i = Fad.L0 L g (putText w o) V n (wrap64 (i + 1)) := by
 have := each (L := fun k => Fad.L1 L g o w k V n i) o ByteArray.empty (fun k t f => k + t.length = o.length → f = Fad.L0 L g (o.take k ++ putText w t) V n (wrap64 (i + 1))) ?_ ?_ (by simp)
 ·simpa using this
 ·intro _
  show Fad.L1 L g o w _ V n i = _
  rw [Fad.L1_eq, if_neg (by omega), Fad.J4_eq, if_neg (by simp), if_pos rfl, Fad.J5_eq, if_pos rfl]
  simp only [Option.bind_some, Int.toNat_natCast, List.take_length, List.drop_length, List.nil_append, List.length_nil, List.length_cons, List.append_nil, putText]
  rw [if_pos (by omega), if_pos (by omega), if_pos (by omega), if_pos (by simp; omega), if_pos (by simp; omega)]
 ·intro k y t hk hy hd _ ih hlen
  have hyk : o.take (k + 1) = o.take k ++ [y] := by
   rw [List.take_succ_eq_append_getElem hk]
   rw [List.getD_eq_getElem?_getD, List.getElem?_eq_getElem hk, Option.getD_some] at hy
   rw [hy]
  have h4 : (o.take k).length = k := by simp; omega
  show Fad.L1 L g o w _ V n i = _
  rw [Fad.L1_eq, if_pos (by omega), if_pos (by omega), rd_txt, hy, bytesLess_eq, Fad.J4_eq, wrap_in (x := (k : Int) + 1) (by omega) (by omega)]
  by_cases c : y.toList < w.toList
  ·rw [if_pos (decide_eq_true c), ih (by simpa [Nat.add_assoc, Nat.add_comm 1] using hlen), hyk]
   have hp : putText w (y :: t) = y :: putText w t := by rw [putText, if_pos c]
   rw [hp]
   simp
  ·rw [if_neg (by simpa using c), if_neg (by omega), if_pos (by omega), if_pos (by omega), rd_txt, hy, Fad.J5_eq]
   by_cases c2 : y.toList = w.toList
   ·have hp : putText w (y :: t) = y :: t := by rw [putText, if_neg c, if_pos c2]
    rw [if_neg (by simpa using c2), hp, ← hd, List.take_append_drop]
   ·have hp : putText w (y :: t) = w :: y :: t := by rw [putText, if_neg c, if_neg c2]
    rw [if_pos (by simpa using c2)]
    simp only [Option.bind_some, Int.toNat_natCast, hd, List.nil_append, List.length_nil, List.length_cons, List.length_append]
    rw [if_pos (by omega), if_pos (by omega), if_pos (by omega), if_pos (by omega), if_pos (by simp at hlen ⊢; omega), hp]
    simp
theorem specDoers (L : List Loc) (V : List Ver) (g : ByteArray) (hg : good L = true) (hv : goodV V = true) : Fad.L0 L g [] V V.length 0 = some ((V.filterMap (doer L g)).foldl (fun o w => putText w o) [], true) := by
 obtain ⟨g1, g2⟩ := good_facts hg
 obtain ⟨v1, v2⟩ := goodV_facts hv
 refine each (L := fun i => fun o => Fad.L0 L g o V V.length i) V z40 (fun i t f => ∀ o : List ByteArray, o.length ≤ i → f o = some ((t.filterMap (doer L g)).foldl (fun o w => putText w o) o, true)) ?_ ?_ [] (by simp)
 ·intro o ho
  show Fad.L0 L g o V _ _ = _
  rw [Fad.L0_eq, if_neg (by omega)]
  simp
 ·intro i x t hi hxi hd _ ih o ho
  have hx := v2 x (mem_drop hd)
  show Fad.L0 L g o V _ _ = _
  rw [Fad.L0_eq, if_pos (by omega), if_pos (by omega), if_pos (by omega), rd_ver, hxi, veMeans_some _ _ _ _ g1 g2 hx.1 hx.2.1, Option.bind_some]
  simp only [Fad.J2_eq]
  have hw : wrap64 ((i : Int) + 1) = (i : Int) + 1 := wrap_in (by omega) (by omega)
  by_cases c : (meaning L x.f1 x.f2).1.toList = []
  ·have c1 : ((meaning L x.f1 x.f2).1.toList != []) = false := by simpa using c
   simp only [c1, Bool.false_eq_true, if_true, if_false]
   rw [hw, List.filterMap_cons_none (by rw [doer, if_pos c])]
   exact ih o (by omega)
  ·have c1 : ((meaning L x.f1 x.f2).1.toList != []) = true := by simpa using c
   simp only [c1, if_true]
   by_cases c2 : x.f0.toList = g.toList
   ·have c3 : (x.f0.toList != g.toList) = false := by simpa using c2
    have hl := putText_length (meaning L x.f1 x.f2).1 o
    simp only [c3, Bool.false_eq_true, if_false]
    rw [specPut _ _ _ _ _ _ _ (by omega), hw, List.filterMap_cons_some (by rw [doer, if_neg c, if_pos c2])]
    exact ih _ (by omega)
   ·have c3 : (x.f0.toList != g.toList) = true := by simpa using c2
    simp only [c3, if_true]
    rw [hw, List.filterMap_cons_none (by rw [doer, if_neg c, if_neg c2])]
    exact ih o (by omega)

theorem doers_same (L : List Loc) (V : List Ver) (g : ByteArray) (hL : Drawn L) (hV : DrawnV V) (hgs : g.size ≤ 9) : ∃ r b, Fad.F L V g = some (r, b) ∧ Fas.F L V g = some (r, b) ∧ r.length ≤ 20 ∧ (b = true → good L = true ∧ goodV V = true ∧ r = uniq (V.filterMap (doer L g))) := by
 have hz := hL.sized
 have hzv := hV.sized
 rw [Fad.F_eq, Fas.F_eq, areLoci_some _ hz, veGood_some _ _ hz hzv, areVerbs_some _ hzv, isGloss_some _ (by omega), fsWord_some _ (by omega)]
 simp only [Option.bind_some, Fas.J0_eq, Fad.J0_eq]
 cases hg : good L
 ·exact ⟨_, _, rfl, rfl, by simp, by simp⟩
 cases hgv : goodV V
 ·exact ⟨_, _, rfl, rfl, by simp, by simp⟩
 cases hgg : isWord 65 90 g
 ·exact ⟨_, _, rfl, rfl, by simp, by simp⟩
 simp only [Bool.and_self, if_true, Bool.not_true, Bool.false_eq_true, if_false]
 rw [implDoers L V g hg hgv, specDoers L V g hg hgv, uniq_fold]
 refine ⟨_, _, rfl, rfl, ?_, fun _ => ⟨by first | trivial | rfl, by first | trivial | rfl, rfl⟩⟩
 have := uniq_length (V.filterMap (doer L g))
 have h7 := List.length_filterMap_le (doer L g) V
 have h8 := (goodV_facts hgv).1
 omega
/-! ### The closest -/
def dv (x : Ver) (p q : Int) : Int := dst x.f1 p + dst x.f2 q
theorem dst_in (a b : Int) (ha : -90 ≤ a ∧ a ≤ 90) (hb : -90 ≤ b ∧ b ≤ 90) : 0 ≤ dst a b ∧ dst a b ≤ 180 := by unfold dst; split <;> omega
theorem dv_in {x : Ver} {p q : Int} (h1 : -90 ≤ x.f1 ∧ x.f1 ≤ 90) (h2 : -90 ≤ x.f2 ∧ x.f2 ≤ 90) (hp : -90 ≤ p ∧ p ≤ 90) (hq : -90 ≤ q ∧ q ≤ 90) : 0 ≤ dv x p q ∧ dv x p q ≤ 360 := by
 have := dst_in _ _ h1 hp
 have := dst_in _ _ h2 hq
 unfold dv; omega
theorem dv_impl {x : Ver} {p q : Int} (h1 : -90 ≤ x.f1 ∧ x.f1 ≤ 90) (h2 : -90 ≤ x.f2 ∧ x.f2 ≤ 90) (hp : -90 ≤ p ∧ p ≤ 90) (hq : -90 ≤ q ∧ q ≤ 90) : Fa5.f x.f0 x.f1 x.f2 p q = some (dv x p q) := by
 have := dv_in h1 h2 hp hq
 unfold Fa5.f
 rw [distance_some _ _ (by omega) (by omega), distance_some _ _ (by omega) (by omega), Option.bind_some, Option.bind_some]
 unfold dv at this ⊢
 rw [wrap_in (by omega) (by omega)]

def CloseOk (V : List Ver) (p q : Int) (r : Int × Int × Bool) : Prop := ∃ m : Nat, m < V.length ∧ r = ((m : Int), dv (V.getD m z40) p q, true) ∧ ∀ x ∈ V, dv (V.getD m z40) p q ≤ dv x p q
theorem closest_rounds (v : List Ver) (g : ByteArray) (p q : Int) (h0 : 0 < v.length) (hv : v.length ≤ 20 ∧ ∀ x ∈ v, (-90 ≤ x.f1 ∧ x.f1 ≤ 90) ∧ (-90 ≤ x.f2 ∧ x.f2 ≤ 90) ∧ x.f0.size ≤ 8) (hp : -90 ≤ p ∧ p ≤ 90) (hq : -90 ≤ q ∧ q ≤ 90) : ∃ r, Fal.L0 (-1) 0 v v.length 0 g p q = some r ∧ Faf.L0 v 0 v v.length 0 p q = some r ∧ CloseOk v p q r := by
 obtain ⟨hv1, hv2⟩ := hv
 have key := each (L := fun i => ((fun a m => Fal.L0 a m v v.length i g p q : Int → Int → _), (fun a => Faf.L0 v a v v.length i p q : Int → _))) v z40 (fun i t f => (∀ k : Nat, k < v.length → ∃ m : Nat, m < v.length ∧ f.1 k (dv (v.getD k z40) p q) = some ((m : Int), dv (v.getD m z40) p q, true) ∧ f.2 k = some ((m : Int), dv (v.getD m z40) p q, true) ∧ dv (v.getD m z40) p q ≤ dv (v.getD k z40) p q ∧ ∀ x ∈ t, dv (v.getD m z40) p q ≤ dv x p q) ∧ (i = 0 → t = v → t ≠ [] → ∃ r, f.1 (-1) 0 = some r ∧ f.2 0 = some r ∧ CloseOk v p q r)) ?_ ?_
 ·exact key.2 rfl rfl (by intro h; rw [h] at h0; simp at h0)
 ·refine ⟨fun k hk => ?_, fun _ _ h => absurd rfl h⟩
  have hx := hv2 _ (ver_mem hk)
  show ∃ m : Nat, m < v.length ∧ Fal.L0 _ _ v _ _ g p q = _ ∧ Faf.L0 v _ v _ _ p q = _ ∧ _
  refine ⟨k, hk, ?_, ?_, Int.le_refl _, by simp⟩
  ·rw [Fal.L0_eq, if_neg (by omega)]
  ·rw [Faf.L0_eq, if_neg (by omega), if_pos (by omega), if_pos (by omega), rd_ver, dv_impl hx.1 hx.2.1 hp hq]; rfl
 ·intro i x t hi hxi hd _ ih
  have hx := hv2 x (mem_drop hd)
  have hxd := dv_in hx.1 hx.2.1 hp hq
  have hxe : dv x p q = dst x.f1 p + dst x.f2 q := rfl
  constructor
  ·intro k hk
   have hy := hv2 _ (ver_mem hk)
   show ∃ m : Nat, m < v.length ∧ Fal.L0 _ _ v _ _ g p q = _ ∧ Faf.L0 v _ v _ _ p q = _ ∧ _
   rw [Fal.L0_eq, Faf.L0_eq, if_pos (by omega), if_pos (by omega), if_pos (by omega), if_pos (by omega), if_pos (by omega), if_pos (by omega), rd_ver, rd_ver, hxi, wrap_in (x := (i : Int) + 1) (by omega) (by omega), abs_some _ _ (by omega) (by omega), abs_some _ _ (by omega) (by omega), dv_impl hx.1 hx.2.1 hp hq, dv_impl hy.1 hy.2.1 hp hq]
   simp only [Option.bind_some]
   rw [if_neg (show ¬ ((k : Int) < 0) by omega), wrap_in (by omega) (by omega), if_pos (show 0 ≤ (k : Int) by omega), if_pos (show (k : Int) < (v.length : Int) by omega), ← hxe]
   obtain ⟨m1, a1, a2, a3, a4, a5⟩ := ih.1 i hi
   obtain ⟨m2, b1, b2, b3, b4, b5⟩ := ih.1 k hk
   rw [hxi] at a2 a4
   by_cases c : dv x p q < dv (v.getD k z40) p q
   ·rw [if_pos c, if_pos c]
    refine ⟨m1, a1, a2, a3, by omega, fun y hy => ?_⟩
    rcases List.mem_cons.1 hy with rfl | hy
    ·exact a4
    ·exact a5 y hy
   ·rw [if_neg c, if_neg c]
    refine ⟨m2, b1, b2, b3, b4, fun y hy => ?_⟩
    rcases List.mem_cons.1 hy with rfl | hy
    ·omega
    ·exact b5 y hy
  ·intro hi0 htv _
   subst hi0
   show ∃ r, Fal.L0 _ _ v _ _ g p q = _ ∧ Faf.L0 v _ v _ _ p q = _ ∧ _
   rw [Fal.L0_eq, Faf.L0_eq, if_pos (by omega), if_pos (by omega), if_pos (by omega), if_pos (by omega), if_pos (by omega), if_pos (by omega), rd_ver, show (0 : Int) = ((0 : Nat) : Int) from rfl, rd_ver, hxi, wrap_in (x := ((0 : Nat) : Int) + 1) (by omega) (by omega), abs_some _ _ (by omega) (by omega), abs_some _ _ (by omega) (by omega), dv_impl hx.1 hx.2.1 hp hq]
   simp only [Option.bind_some]
   rw [if_pos (by omega), wrap_in (by omega) (by omega), if_pos (by omega), if_pos (by omega), if_neg (by omega), ← hxe]
   obtain ⟨m1, a1, a2, a3, a4, a5⟩ := ih.1 0 hi
   rw [hxi] at a2 a4
   refine ⟨_, a2, a3, m1, a1, rfl, fun y hy => ?_⟩
   rw [← htv] at hy
   rcases List.mem_cons.1 hy with rfl | hy
   ·exact a4
   ·exact a5 y hy
theorem closest_same (L : List Loc) (V : List Ver) (u w : ByteArray) (hL : Drawn L) (hV : DrawnV V) : ∃ k n b, Fal.F L V u w = some (k, n, b) ∧ Faf.F L V u w = some (k, n, b) ∧ (b = true → goodV V = true ∧ ∃ p q, (-90 ≤ p ∧ p ≤ 90) ∧ (-90 ≤ q ∧ q ≤ 90) ∧ FaX.F L ⟨#[65]⟩ u w = some (⟨#[65]⟩, p, q, true) ∧ CloseOk V p q (k, n, b)) := by
 have hz := hL.sized
 have hzv := hV.sized
 have hzv1 := hzv.1
 rw [Fal.F_eq, Faf.F_eq, FaX.F_eq, loGood_some _ hz, fsWord_some _ (by decide), areRefs_some _ _ hz (by simp), loFind_some _ _ hz.1, loFind_some _ _ hz.1, veGood_some _ _ hz hzv, areVerbs_some _ hzv]
 simp only [Option.bind_some, Faf.J0_eq, Fal.J0_eq, locusOf_some _ _ hz.1]
 rw [show isWord 65 90 ⟨#[65]⟩ = true from by decide +kernel]
 cases hg : good L
 ·refine ⟨0, 0, false, ?_, ?_, by simp⟩ <;> cases goodV V <;> simp
 obtain ⟨g1, g2⟩ := good_facts hg
 by_cases c1 : isRef L u = true
 case neg =>
  have : idxFrom u L 0 < 0 := by simpa [isRef] using c1
  refine ⟨0, 0, false, ?_, ?_, by simp⟩ <;> cases goodV V <;> simp [c1, this]
 obtain ⟨i, i1, i2, i3, i4⟩ := idx_at c1
 have i5 : ¬ ((i : Int) < 0) := by omega
 have i6 : (i : Int) < (L.length : Int) := by omega
 by_cases c2 : isRef L w = true
 case neg =>
  have : idxFrom w L 0 < 0 := by simpa [isRef] using c2
  refine ⟨0, 0, false, ?_, ?_, by simp⟩ <;> cases goodV V <;> simp [c2, this, i2, i5]
 obtain ⟨j, j1, j2, j3, j4⟩ := idx_at c2
 have j5 : ¬ ((j : Int) < 0) := by omega
 have j6 : (j : Int) < (L.length : Int) := by omega
 rw [i2, j2]
 have hij : ((i : Int) = (j : Int)) ↔ u.toList = w.toList := by
  constructor
  ·intro h
   obtain rfl : i = j := by omega
   rw [← i3, ← j3]
  ·intro h
   have := ext_data h
   subst this
   omega
 by_cases c3 : u.toList = w.toList
 ·have := hij.2 c3
  refine ⟨0, 0, false, ?_, ?_, by simp⟩ <;> cases goodV V <;> simp [c1, c2, c3, this]
 have c4 : ¬ (i : Int) = (j : Int) := fun h => c3 (hij.1 h)
 cases hgv : goodV V
 ·simp only [c1, c2, c3, c4, i5, j5, i6, j6, if_true, if_false, List.all_cons, List.all_nil, Bool.true_and, Bool.and_true, Bool.and_false, beq_iff_eq, Int.natCast_nonneg, if_pos, if_neg, not_false_eq_true, Bool.false_eq_true]
  refine ⟨0, 0, false, rfl, ?_, by simp⟩
  split <;> rfl
 have gv := goodV_facts hgv
 simp only [c1, c2, c3, c4, i5, j5, i6, j6, if_true, if_false, List.all_cons, List.all_nil, Bool.true_and, Bool.and_true, beq_iff_eq, Int.natCast_nonneg, if_pos, if_neg, not_false_eq_true]
 by_cases c5 : (V.length : Int) = 0
 ·exact ⟨0, 0, false, by simp [c5], by simp [c5], by simp⟩
 ·rw [if_neg c5, rd_loc, rd_loc]
  obtain ⟨⟨k, n, b⟩, k1, k2, k3⟩ := closest_rounds V ⟨#[65]⟩ (L.getD i z74).f1 (L.getD j z74).f1 (by omega) gv (g2 _ i4).1 (g2 _ j4).1
  refine ⟨k, n, b, ?_, k2, fun _ => ⟨by first | trivial | rfl, _, _, (g2 _ i4).1, (g2 _ j4).1, rfl, k3⟩⟩
  rw [Option.bind_some, if_pos rfl, if_neg c5]; exact k1
/-! ### Verbs in a role -/
def turned (a c : Int) : Int := if a - c < -90 then -90 else if a - c > 90 then 90 else a - c
theorem shifted_some (a c : Int) (ha : -90 ≤ a ∧ a ≤ 90) (hc : -90 ≤ c ∧ c ≤ 90) : Fbm.f a c = some (turned a c) := by
 unfold Fbm.f turned
 rw [wrap_in (by omega) (by omega)]
 congr 1
 unfold mn mx
 repeat' split
 all_goals omega
theorem veTurn_some (a c : Int) (ha : -90 ≤ a ∧ a ≤ 90) (hc : -90 ≤ c ∧ c ≤ 90) : Fbq.f a c = some (turned a c) := by
 unfold Fbq.f Fbk.f Fbh.f turned
 rw [wrap_in (by omega) (by omega)]
 by_cases h1 : 90 < a - c
 ·rw [if_pos h1, Option.bind_some, if_neg (by omega), if_neg (by omega), if_pos (by omega)]; rfl
 ·rw [if_neg h1, Option.bind_some]
  by_cases h2 : a - c < -90
  ·rw [if_pos (by omega), if_pos h2]; rfl
  ·rw [if_neg (by omega), if_neg h2, if_neg (by omega)]; rfl

theorem role_same (L : List Loc) (g : ByteArray) (a b : Int) (u : ByteArray) (hL : Drawn L) (hgs : g.size ≤ 9) : ∃ r, Faw.F L g a b u = some r ∧ Fay.F L g a b u = some r := by
 have hz := hL.sized
 have hg1 : g.size ≤ 9223372036854775807 := by omega
 rw [Faw.F_eq, Fay.F_eq, loGood_some _ hz, veOne_some _ _ _ hg1, isVerb_some _ _ _ hg1, areRefs_some _ _ hz (by simp), loFind_some _ _ hz.1]
 simp only [Option.bind_some, Fay.J0_eq, Faw.J0_eq, locusOf_some _ _ hz.1]
 cases hg : good L
 ·cases isVerb g a b <;> simp
 obtain ⟨g1, g2⟩ := good_facts hg
 cases hv : isVerb g a b
 ·simp
 simp only [isVerb, Bool.and_eq_true, decide_eq_true_eq] at hv
 by_cases c1 : isRef L u = true
 case neg =>
  have : idxFrom u L 0 < 0 := by simpa [isRef] using c1
  simp [c1, this]
 obtain ⟨i, i1, i2, i3, i4⟩ := idx_at c1
 have i5 : ¬ ((i : Int) < 0) := by omega
 have i6 := (g2 _ i4).1
 rw [i2, rd_loc]
 generalize (L.getD i z74).f1 = c at i6
 rw [veTurn_some _ _ hv.2.1 i6, veTurn_some _ _ hv.2.2.1 i6, shifted_some _ _ hv.2.1 i6, shifted_some _ _ hv.2.2.1 i6]
 simp only [Option.bind_some, veOne_some _ _ _ hg1, isVerb_some _ _ _ hg1]
 have i7 : (i : Int) < (L.length : Int) := by omega
 simp only [c1, i5, i7, if_true, if_false, List.all_cons, List.all_nil, Bool.true_and, Bool.and_true, Int.natCast_nonneg, if_pos, decide_false, Bool.not_true, Bool.false_eq_true]
 cases isVerb g (turned a c) (turned b c)
 ·exact ⟨_, rfl, rfl⟩
 ·exact ⟨_, rfl, rfl⟩
/-! ### Agreement and meaning -/
theorem isV_bounds {g : ByteArray} {a b : Int} (h : isVerb g a b = true) : (-90 ≤ a ∧ a ≤ 90) ∧ (-90 ≤ b ∧ b ≤ 90) := by
 simp only [isVerb, Bool.and_eq_true, decide_eq_true_eq] at h
 exact ⟨h.2.1, h.2.2.1⟩
theorem agrees_same (L : List Loc) (g : ByteArray) (a b : Int) (u v : ByteArray) (hL : Drawn L) (hgs : g.size ≤ 9) : ∃ x y, Fa9.F L g a b u v = some (x, y) ∧ Fa8.F L g a b u v = some (x, y) ∧ (y = true → x = true → good L = true ∧ isVerb g a b = true ∧ (meaning L a b).1.toList = u.toList ∧ (meaning L a b).2.toList = v.toList ∧ (meaning L a b).1.toList ≠ []) := by
 have hz := hL.sized
 have hg1 : g.size ≤ 9223372036854775807 := by omega
 rw [Fa9.F_eq, Fa8.F_eq, loGood_some _ hz, veOne_some _ _ _ hg1, isVerb_some _ _ _ hg1, areRefs_some _ _ hz (by simp), loFind_some _ _ hz.1, loFind_some _ _ hz.1]
 cases hg : good L
 ·exact ⟨false, false, by simp, by simp, by simp⟩
 obtain ⟨g1, g2⟩ := good_facts hg
 cases hv : isVerb g a b
 ·refine ⟨false, false, by simp, ?_, by simp⟩
  simp
 have hb := isV_bounds hv
 rw [veMeans_some _ _ _ _ g1 g2 hb.1 hb.2, meaning_some _ _ _ _ g1 g2 hb.1 hb.2]
 by_cases c1 : isRef L u = true
 case neg =>
  have : idxFrom u L 0 < 0 := by simpa [isRef] using c1
  exact ⟨false, false, by simp [this], by simp [c1], by simp⟩
 have c1' : ¬ idxFrom u L 0 < 0 := by simpa [isRef] using c1
 by_cases c2 : isRef L v = true
 case neg =>
  have : idxFrom v L 0 < 0 := by simpa [isRef] using c2
  exact ⟨false, false, by simp [this, c1'], by simp [c2], by simp⟩
 have c2' : ¬ idxFrom v L 0 < 0 := by simpa [isRef] using c2
 have hu1 := ref_long g2 c1
 have hu2 : u.toList ≠ [] := by
  intro h
  rw [toList_data] at h
  rw [size_data, h] at hu1
  simp at hu1
 by_cases c3 : (meaning L a b).1.toList = u.toList
 ·have c4 : (meaning L a b).1.toList ≠ [] := by rw [c3]; exact hu2
  refine ⟨(meaning L a b).2.toList == v.toList, true, ?_, ?_, fun _ h => ⟨by first | trivial | rfl, by first | trivial | rfl, c3, by simpa using h, c4⟩⟩
  ·simp [c1', c2', c3, hu2]
  ·simp [c1, c2, c3]
 ·refine ⟨false, true, ?_, ?_, by simp⟩
  ·by_cases c4 : (meaning L a b).1.toList = []
   ·simp [c1', c2', c4]
   ·simp [c1', c2', c3, c4]
  ·simp [c1, c2, c3]
theorem meansI (L : List Loc) (g : ByteArray) (a b : Int) (hz : Sized L) (hgs : g.size ≤ 9) (hg : good L = true) (hv : isVerb g a b = true) : FaS.F L g a b = some ((meaning L a b).1, (meaning L a b).2, ((meaning L a b).1.toList != [])) := by
 obtain ⟨g1, g2⟩ := good_facts hg
 have hb := isV_bounds hv
 rw [FaS.F_eq, areLoci_some _ hz, isVerb_some _ _ _ (by omega), hg, hv, meaning_some _ _ _ _ g1 g2 hb.1 hb.2]
 rfl
theorem meansS (L : List Loc) (g : ByteArray) (a b : Int) (hz : Sized L) (hgs : g.size ≤ 9) (hg : good L = true) (hv : isVerb g a b = true) : FaT.F L g a b = some ((meaning L a b).1, (meaning L a b).2, ((meaning L a b).1.toList != [])) := by
 obtain ⟨g1, g2⟩ := good_facts hg
 have hb := isV_bounds hv
 rw [FaT.F_eq, loGood_some _ hz, veOne_some _ _ _ (by omega), hg, hv, veMeans_some _ _ _ _ g1 g2 hb.1 hb.2]
 rfl
theorem means_tells (L : List Loc) (g : ByteArray) (a b : Int) (hL : Drawn L) (hgs : g.size ≤ 9) : ∃ x y c, FaT.F L g a b = some (x, y, c) := by
 have hz := hL.sized
 cases hg : good L
 ·rw [FaT.F_eq, loGood_some _ hz, hg]; exact ⟨_, _, _, rfl⟩
 cases hv : isVerb g a b
 ·rw [FaT.F_eq, loGood_some _ hz, veOne_some _ _ _ (by omega), hg, hv]; exact ⟨_, _, _, rfl⟩
 exact ⟨_, _, _, meansS L g a b hz hgs hg hv⟩

/-! ### What is drawn -/
theorem most_tells (a b : Int) : ∃ m, Fbh.f a b = some m := by unfold Fbh.f; split <;> exact ⟨_, rfl⟩
theorem least_tells (a b : Int) : ∃ m, Fbk.f a b = some m := by unfold Fbk.f; split <;> exact ⟨_, rfl⟩
theorem verb_tells (l : List Int) (hl : Bytes l) (L : List Loc) (hL : Drawn L) (a s : Int) (ha : 0 ≤ a ∧ a ≤ 900000) : ∃ g x y b t, Fag.F l a s L = some (g, x, y, b, t) ∧ g.size ≤ 9 ∧ 0 ≤ b ∧ b ≤ a + 40 := by
 have hlen := hL.1
 rw [Fag.F_eq]
 generalize hq : ([(⟨#[71, 73, 86, 69]⟩ : ByteArray), (⟨#[71, 73, 86, 69]⟩ : ByteArray), (⟨#[65, 83, 75]⟩ : ByteArray), (⟨#[83, 72, 79, 87]⟩ : ByteArray), (⟨#[84, 69, 76, 76]⟩ : ByteArray)] : List ByteArray) = q
 have hqq : ∀ x ∈ q, x.size ≤ 9 := by rw [← hq]; simp only [List.mem_cons, List.not_mem_nil, or_false]; rintro x (rfl | rfl | rfl | rfl | rfl) <;> decide
 obtain ⟨g, b1, t1, h1, m1, i1, j1⟩ := of_tells l hl a s q (by omega) (by rw [← hq]; simp)
 have z1 := hqq _ m1
 obtain ⟨p, b2, t2, h2, _, i2, j2⟩ := among_tells l hl b1 t1 [-90, -40, 0, 30, 90] (by omega) (by simp)
 obtain ⟨r, b3, t3, h3, _, i3, j3⟩ := among_tells l hl b2 t2 [-80, -35, 5, 40, 85] (by omega) (by simp)
 simp only [h1, h2, h3, Option.bind_some]
 have last : ∀ (p r b t : Int), (0 ≤ b ∧ b ≤ a + 30) → ∃ g' x y b' t', Fag.J1 l b t g p r = some (g', x, y, b', t') ∧ g'.size ≤ 9 ∧ 0 ≤ b' ∧ b' ≤ a + 40 := by
  intro p r b t hb
  rw [Fag.J1_eq]
  obtain ⟨k, b4, t4, h4, _, _, i4, j4⟩ := pick_tells l hl b t 40 (by omega) (by omega)
  simp only [h4, Option.bind_some]
  by_cases c0 : k = 0
  ·rw [if_pos c0]
   generalize hq' : ([(⟨#[]⟩ : ByteArray), (⟨#[103, 105, 118, 101]⟩ : ByteArray), (⟨#[78, 73, 78, 69, 76, 69, 84, 84, 82]⟩ : ByteArray)] : List ByteArray) = q'
   have hqq' : ∀ x ∈ q', x.size ≤ 9 := by rw [← hq']; simp only [List.mem_cons, List.not_mem_nil, or_false]; rintro x (rfl | rfl | rfl) <;> decide
   obtain ⟨g', b5, t5, h5, m5, i5, j5⟩ := of_tells l hl b4 t4 q' (by omega) (by rw [← hq']; simp)
   simp only [h5, Option.bind_some]
   exact ⟨_, _, _, _, _, rfl, hqq' _ m5, i5, by omega⟩
  rw [if_neg c0]
  by_cases c1 : k = 1
  ·rw [if_pos c1]
   obtain ⟨g', b5, t5, h5, _, i5, j5⟩ := among_tells l hl b4 t4 [-91, 91, r, -9223372036854775808] (by omega) (by simp)
   simp only [h5, Option.bind_some]
   exact ⟨_, _, _, _, _, rfl, z1, i5, by omega⟩
  rw [if_neg c1]
  by_cases c2 : k = 2
  ·rw [if_pos c2]
   obtain ⟨g', b5, t5, h5, _, i5, j5⟩ := among_tells l hl b4 t4 [-91, 91] (by omega) (by simp)
   simp only [h5, Option.bind_some]
   exact ⟨_, _, _, _, _, rfl, z1, i5, by omega⟩
  rw [if_neg c2]
  exact ⟨_, _, _, _, _, rfl, z1, i4, by omega⟩
 by_cases c : (L.length : Int) > 1
 case neg =>
  rw [if_neg c, Fag.J0_eq, if_neg (by simp)]
  exact last _ _ _ _ (by omega)
 rw [if_pos c, loGood_some _ hL.sized, Option.bind_some]
 cases good L
 ·rw [if_neg (by simp), Fag.J0_eq, if_neg (by simp)]
  exact last _ _ _ _ (by omega)
 rw [if_pos rfl]
 obtain ⟨o, b4, t4, h4, i4, j4⟩ := one_tells l hl b3 t3 4 (by omega) (by omega)
 simp only [h4, Option.bind_some]
 rw [Fag.J0_eq]
 cases o
 case true => rw [if_neg (by simp)]; exact last _ _ _ _ (by omega)
 rw [if_pos (by rfl)]
 obtain ⟨k, b5, t5, h5, p5, q5, i5, j5⟩ := pick_tells l hl b4 t4 L.length (by omega) (by omega)
 have r5 := q5 (by omega)
 simp only [h5, Option.bind_some]
 rw [if_pos (by omega), if_pos (by omega)]
 obtain ⟨e6, b6, t6, h6, _, i6, j6⟩ := among_tells l hl b5 t5 [0, 5, -5, 20, 21] (by omega) (by simp)
 simp only [h6, Option.bind_some]
 obtain ⟨m7, h7⟩ := least_tells 90 (wrap64 ((rd_T74 L k).f1 + e6))
 obtain ⟨m8, h8⟩ := most_tells (-90) m7
 simp only [h7, h8, Option.bind_some]
 obtain ⟨k2, b9, t9, h9, p9, q9, i9, j9⟩ := pick_tells l hl b6 t6 L.length (by omega) (by omega)
 have r9 := q9 (by omega)
 simp only [h9, Option.bind_some]
 rw [if_pos (by omega), if_pos (by omega)]
 obtain ⟨e10, b10, t10, h10, _, i10, j10⟩ := among_tells l hl b9 t9 [0, 5, -5] (by omega) (by simp)
 simp only [h10, Option.bind_some]
 obtain ⟨m11, h11⟩ := least_tells 90 (wrap64 ((rd_T74 L k2).f1 + e10))
 obtain ⟨m12, h12⟩ := most_tells (-90) m11
 simp only [h11, h12, Option.bind_some]
 exact last _ _ _ _ (by omega)
theorem verbs_tells (l : List Int) (hl : Bytes l) (L : List Loc) (hL : Drawn L) (a s : Int) (ha : 0 ≤ a ∧ a ≤ 2000) : ∃ V b t, Fai.F l a s L = some (V, b, t) ∧ DrawnV V ∧ 0 ≤ b ∧ b ≤ 5000 := by
 have rounds : ∀ (N : Int), N ≤ 21 → ∀ (d : Nat) (V : List Ver) (a s : Int), V.length + d = 21 → DrawnV V → (0 ≤ a ∧ a ≤ 5000 - 60 * d) → ∃ V' b t, Fai.L0 L V N l a s = some (V', b, t) ∧ DrawnV V' ∧ 0 ≤ b ∧ b ≤ 5000 := by
  intro N hN d
  induction d with
  | zero =>
   intro V a s hd hV ha
   rw [Fai.L0_eq, if_neg (by omega)]
   exact ⟨_, _, _, rfl, hV, by omega, by omega⟩
  | succ d ih =>
   intro V a s hd hV ha
   rw [Fai.L0_eq]
   by_cases hlt : (V.length : Int) < N
   case neg =>
    rw [if_neg hlt]
    exact ⟨_, _, _, rfl, hV, by omega, by omega⟩
   rw [if_pos hlt]
   obtain ⟨g, x, y, b1, t1, h1, z1, i1, j1⟩ := verb_tells l hl L hL a s (by omega)
   simp only [h1, Option.bind_some]
   rw [veOne_some _ _ _ (by omega), Option.bind_some]
   have grow : ∀ v : Ver, v.f0.size ≤ 9 → DrawnV (V ++ [v]) := fun v hv => ⟨by simp; omega, fun z hz => by
    rcases List.mem_append.1 hz with hz | hz
    ·exact hV.2 z hz
    ·obtain rfl := List.mem_singleton.1 hz
     exact hv⟩
   have go : ∀ (v : Ver) (b t : Int), v.f0.size ≤ 9 → (0 ≤ b ∧ b ≤ a + 50) → ∃ V' b' t', Fai.L0 L (V ++ [v]) N l b t = some (V', b', t') ∧ DrawnV V' ∧ 0 ≤ b' ∧ b' ≤ 5000 := fun v b t hv hb => ih _ _ _ (by simp; omega) (grow v hv) (by omega)
   have v1 : V.length < 4398046511104 := by omega
   cases isVerb g x y
   ·rw [if_neg (by simp)]
    obtain ⟨o, b2, t2, h2, i2, j2⟩ := one_tells l hl b1 t1 4 (by omega) (by omega)
    simp only [h2, Option.bind_some]
    cases o
    ·rw [if_neg (by simp), if_pos v1]
     exact go ⟨⟨#[65, 83, 75]⟩, 10, -10⟩ _ _ (by decide) (by omega)
    ·rw [if_pos rfl, if_pos v1]
     exact go ⟨g, x, y⟩ _ _ z1 (by omega)
   ·rw [if_pos rfl, if_pos v1]
    exact go ⟨g, x, y⟩ _ _ z1 (by omega)
 rw [Fai.F_eq]
 obtain ⟨r1, b1, t1, h1, p1, q1, i1, j1⟩ := pick_tells l hl a s 6 (by omega) (by omega)
 have r2 := q1 (by omega)
 simp only [h1, Option.bind_some]
 obtain ⟨o, b2, t2, h2, i2, j2⟩ := one_tells l hl b1 t1 12 (by omega) (by omega)
 simp only [h2, Option.bind_some]
 have e : DrawnV [] := ⟨by simp, by simp⟩
 cases o
 ·rw [if_neg (by simp), Fai.J0_eq]
  exact rounds r1 (by omega) 21 [] b2 t2 (by simp) e (by omega)
 ·rw [if_pos rfl]
  obtain ⟨r3, b3, t3, h3, p3, q3, i3, j3⟩ := pick_tells l hl b2 t2 2 (by omega) (by omega)
  have r4 := q3 (by omega)
  simp only [h3, Option.bind_some]
  rw [Fai.J0_eq, wrap_in (by omega) (by omega)]
  exact rounds (20 + r3) (by omega) 21 [] b3 t3 (by simp) e (by omega)
theorem who_tells (l : List Int) (hl : Bytes l) (L : List Loc) (hL : Drawn L) (a s : Int) (ha : 0 ≤ a ∧ a ≤ 900000) : ∃ r b t, Fap.F l a s L = some (r, b, t) ∧ 0 ≤ b ∧ b ≤ a + 10 := by
 have hlen := hL.1
 have no : ∀ b t, (0 ≤ b ∧ b ≤ a + 4) → ∃ r b' t', Fap.J0 L L.length false l b t = some (r, b', t') ∧ 0 ≤ b' ∧ b' ≤ a + 10 := fun b t hb => by
  rw [Fap.J0_eq, if_neg (by simp)]
  obtain ⟨r, b2, t2, h2, _, i2, j2⟩ := of_tells l hl b t [(⟨#[109, 97, 114, 121]⟩ : ByteArray), (⟨#[110, 111, 98, 111, 100, 121]⟩ : ByteArray), (⟨#[]⟩ : ByteArray)] (by omega) (by simp)
  simp only [h2, Option.bind_some]
  exact ⟨_, _, _, rfl, i2, by omega⟩
 rw [Fap.F_eq]
 by_cases c : (L.length : Int) > 0
 case neg => rw [if_neg c]; exact no a s (by omega)
 rw [if_pos c]
 obtain ⟨o, b1, t1, h1, i1, j1⟩ := one_tells l hl a s 8 (by omega) (by omega)
 simp only [h1, Option.bind_some]
 cases o
 case true => exact no _ _ (by omega)
 obtain ⟨k, b2, t2, h2, p2, q2, i2, j2⟩ := pick_tells l hl b1 t1 L.length (by omega) (by omega)
 have r2 := q2 (by omega)
 rw [Fap.J0_eq, if_pos (by rfl)]
 simp only [h2, Option.bind_some]
 rw [if_pos (by omega), if_pos (by omega)]
 exact ⟨_, _, _, rfl, i2, by omega⟩
theorem drawRun_tells (l : List Int) (hl : Bytes l) : ∃ L V, Fa3.F l = some (L, V) ∧ Drawn L ∧ DrawnV V := by
 obtain ⟨L, b, t, h1, hL, i1, j1⟩ := loci_tells l hl
 obtain ⟨V, b2, t2, h2, hV, _⟩ := verbs_tells l hl L hL b t (by omega)
 rw [Fa3.F_eq]
 simp only [h1, h2, Option.bind_some]
 exact ⟨_, _, rfl, hL, hV⟩
theorem drawDoers_tells (l : List Int) (hl : Bytes l) : ∃ L V g, Fa7.F l = some (L, V, g) ∧ Drawn L ∧ DrawnV V ∧ g.size ≤ 9 := by
 obtain ⟨L, b, t, h1, hL, i1, j1⟩ := loci_tells l hl
 obtain ⟨V, b2, t2, h2, hV, i2, j2⟩ := verbs_tells l hl L hL b t (by omega)
 rw [Fa7.F_eq]
 generalize hq : ([(⟨#[71, 73, 86, 69]⟩ : ByteArray), (⟨#[71, 73, 86, 69]⟩ : ByteArray), (⟨#[65, 83, 75]⟩ : ByteArray), (⟨#[83, 72, 79, 87]⟩ : ByteArray), (⟨#[78, 79]⟩ : ByteArray), (⟨#[]⟩ : ByteArray)] : List ByteArray) = q
 have hqq : ∀ x ∈ q, x.size ≤ 9 := by rw [← hq]; simp only [List.mem_cons, List.not_mem_nil, or_false]; rintro x (rfl | rfl | rfl | rfl | rfl | rfl) <;> decide
 obtain ⟨g, b3, t3, h3, m3, _⟩ := of_tells l hl b2 t2 q (by omega) (by rw [← hq]; simp)
 simp only [h1, h2, h3, Option.bind_some]
 exact ⟨_, _, _, rfl, hL, hV, hqq _ m3⟩
theorem drawClosest_tells (l : List Int) (hl : Bytes l) : ∃ L V u w, FaY.F l = some (L, V, u, w) ∧ Drawn L ∧ DrawnV V := by
 obtain ⟨L, b, t, h1, hL, i1, j1⟩ := loci_tells l hl
 obtain ⟨V, b2, t2, h2, hV, i2, j2⟩ := verbs_tells l hl L hL b t (by omega)
 obtain ⟨u, b3, t3, h3, i3, j3⟩ := who_tells l hl L hL b2 t2 (by omega)
 obtain ⟨w, b4, t4, h4, _⟩ := who_tells l hl L hL b3 t3 (by omega)
 rw [FaY.F_eq]
 simp only [h1, h2, h3, h4, Option.bind_some]
 exact ⟨_, _, _, _, rfl, hL, hV⟩
theorem drawRole_tells (l : List Int) (hl : Bytes l) : ∃ L g a b u, Fa0.F l = some (L, g, a, b, u) ∧ Drawn L ∧ g.size ≤ 9 := by
 obtain ⟨L, b, t, h1, hL, i1, j1⟩ := loci_tells l hl
 obtain ⟨g, x, y, b2, t2, h2, z2, i2, j2⟩ := verb_tells l hl L hL b t (by omega)
 obtain ⟨u, b3, t3, h3, _⟩ := who_tells l hl L hL b2 t2 (by omega)
 rw [Fa0.F_eq]
 simp only [h1, h2, h3, Option.bind_some]
 exact ⟨_, _, _, _, _, rfl, hL, z2⟩
theorem drawAgrees_tells (l : List Int) (hl : Bytes l) : ∃ L g a b u v, Fam.F l = some (L, g, a, b, u, v) ∧ Drawn L ∧ g.size ≤ 9 := by
 obtain ⟨L, b, t, h1, hL, i1, j1⟩ := loci_tells l hl
 obtain ⟨g, x, y, b2, t2, h2, z2, i2, j2⟩ := verb_tells l hl L hL b t (by omega)
 obtain ⟨p, q, c, h3⟩ := means_tells L g x y hL z2
 have fin : ∀ (o : Bool) (b t : Int), (0 ≤ b ∧ b ≤ 2000) → ∃ u v, Fam.J0 L p q o l b t g x y = some (L, g, x, y, u, v) := fun o b t hb => by
  rw [Fam.J0_eq]
  cases o
  ·obtain ⟨u, b3, t3, h3, i3, j3⟩ := who_tells l hl L hL b t (by omega)
   obtain ⟨v, b4, t4, h4, _⟩ := who_tells l hl L hL b3 t3 (by omega)
   rw [if_neg (by simp)]
   simp only [h3, h4, Option.bind_some]
   exact ⟨_, _, rfl⟩
  ·exact ⟨_, _, rfl⟩
 rw [Fam.F_eq]
 simp only [h1, h2, h3, Option.bind_some]
 cases c
 ·obtain ⟨u, v, k⟩ := fin false b2 t2 (by omega)
  rw [if_neg (by simp), k]
  exact ⟨_, _, _, _, _, _, rfl, hL, z2⟩
 ·obtain ⟨o, b3, t3, h4, i4, j4⟩ := one_tells l hl b2 t2 2 (by omega) (by omega)
  obtain ⟨u, v, k⟩ := fin o b3 t3 (by omega)
  rw [if_pos rfl]
  simp only [h4, Option.bind_some]
  rw [k]
  exact ⟨_, _, _, _, _, _, rfl, hL, z2⟩
/-! ### The law, from its end -/
theorem abs_q {a b : Int} (ha : -90 ≤ a ∧ a ≤ 90) (hb : -90 ≤ b ∧ b ≤ 90) : Fbf.f (wrap64 (a - b)) = some (dst a b) := by
 unfold Fbf.f dst
 rw [wrap_in (by omega) (by omega)]
 by_cases c : a < b
 ·rw [if_pos (by omega), wrap_in (by omega) (by omega), if_pos c]; congr 1; omega
 ·rw [if_neg (by omega), if_neg c]

/-- What the last part of the law asks. -/
def Ends (Y : List Loc) (p q : ByteArray) (ag sv : Bool) (g : ByteArray) (x y : Int) : Prop := sv = true → ag = true → ∃ m : ByteArray × ByteArray, FaS.F Y g x y = some (m.1, m.2, true) ∧ m.1.toList = p.toList ∧ m.2.toList = q.toList
theorem j5 (v : List Loc) (some_ : List Ver) (u w : ByteArray) (three : Bool) (k n : Int) (Y : List Loc) (p q : ByteArray) (sv ag : Bool) (g : ByteArray) (x y : Int) (hV : DrawnV some_)
 (h3 : three = true → goodV some_ = true ∧ ∃ p q, (-90 ≤ p ∧ p ≤ 90) ∧ (-90 ≤ q ∧ q ≤ 90) ∧ FaX.F v ⟨#[65]⟩ u w = some (⟨#[65]⟩, p, q, true) ∧ CloseOk some_ p q (k, n, three)) (he : Ends Y p q ag sv g x y) :
 Faa.J5 v some_ u w three k n Y p q sv ag g x y = some true := by
 have fin : (if sv = true then (if ag = true then ((FaS.F Y g x y).bind fun m => (if m.2.2 = true then (if m.1.toList = p.toList then (some (m.2.1.toList == q.toList)) else (some false)) else (some false))) else (some true)) else (some true)) = some true := by
  cases hs : sv
  ·rfl
  cases ha : ag
  ·rfl
  obtain ⟨m, h1, h2, h4⟩ := he hs ha
  rw [if_pos rfl, if_pos rfl, h1]
  simp only [Option.bind_some, if_true]
  rw [if_pos h2, h4]; simp
 rw [Faa.J5_eq]
 cases ht : three
 ·rw [if_neg (by simp)]; exact fin
 obtain ⟨hgv, P, Q, hP, hQ, hf, m, hm, hr, hmin⟩ := h3 ht
 simp only [Prod.mk.injEq] at hr
 obtain ⟨rfl, rfl, _⟩ := hr
 obtain ⟨v1, v2⟩ := goodV_facts hgv
 rw [if_pos rfl, hf, Option.bind_some, if_pos rfl]
 refine each (L := fun i => Faa.L3 (m : Int) (dv (some_.getD m z40) P Q) Y p q sv ag some_ some_.length i g x y ⟨#[65]⟩ P Q) some_ z40 (fun _ _ o => o = some true) ?_ ?_
 ·show Faa.L3 _ _ Y p q sv ag some_ _ _ g x y _ P Q = _
  rw [Faa.L3_eq, if_neg (by omega)]
  exact fin
 ·intro i z t hi hz hd _ ih
  have hx := v2 z (mem_drop hd)
  have hle := hmin z (mem_drop hd)
  have hdz : dst z.f1 P + dst z.f2 Q = dv z P Q := rfl
  have hb := dv_in hx.1 hx.2.1 hP hQ
  show Faa.L3 _ _ Y p q sv ag some_ _ _ g x y _ P Q = _
  rw [Faa.L3_eq, if_pos (by omega), if_pos (by omega), if_pos (by omega), rd_ver, hz, abs_q hx.1 hP, abs_q hx.2.1 hQ, Option.bind_some, Option.bind_some, hdz, wrap_in (x := dv z P Q) (by omega) (by omega), if_neg (by omega), wrap_in (x := (i : Int) + 1) (by omega) (by omega)]
  by_cases c : (i : Int) = (m : Int)
  ·have : i = m := by omega
   subst this
   rw [if_pos c, if_pos (by rw [hz])]; exact ih
  ·rw [if_neg c]; exact ih
theorem found (L : List Loc) (V : List Ver) (g x : ByteArray) (hL : Drawn L) (hV : DrawnV V) (hg : good L = true) (hgv : goodV V = true) (F : Bool → Int → Option Bool) (K : Option Bool)
 (hF : ∀ (i : Nat) (b : Bool), F b i = (if (i : Int) < (V.length : Int) then ((FaT.F L (V.getD i z40).f0 (V.getD i z40).f1 (V.getD i z40).f2).bind fun m => if b = true then F true ((i : Int) + 1) else (if m.2.2 = true then (if (V.getD i z40).f0.toList = g.toList then F (m.1.toList == x.toList) ((i : Int) + 1) else F false ((i : Int) + 1)) else F false ((i : Int) + 1))) else (if b = true then K else some false)))
 (hx : ∃ v ∈ V, doer L g v = some x) : F false 0 = K := by
 refine each (L := fun i => fun b => F b i) V z40 (fun i t f => ∀ b : Bool, (b = true ∨ ∃ v ∈ t, doer L g v = some x) → f b = K) ?_ ?_ false (.inr hx)
 ·intro b hb
  show F b _ = K
  rw [hF, if_neg (by omega)]
  rcases hb with rfl | ⟨v, hv, _⟩
  ·rfl
  ·simp at hv
 ·intro i y t hi hy hd _ ih b hb
  have hm := mem_drop hd
  have hvy : isVerb y.f0 y.f1 y.f2 = true := by
   simp only [goodV, Bool.and_eq_true, List.all_eq_true] at hgv
   exact hgv.1 y hm
  show F b _ = K
  rw [hF, if_pos (by omega), hy, meansS L y.f0 y.f1 y.f2 hL.sized (hV.2 y hm) hg hvy, Option.bind_some]
  cases b
  ·rw [if_neg (by simp)]
   rcases hb with hb | ⟨v, hv, hdo⟩
   ·cases hb
   rcases List.mem_cons.1 hv with rfl | hv
   ·unfold doer at hdo
    split at hdo
    ·cases hdo
    rename_i c1
    split at hdo
    ·rename_i c2
     have e := Option.some.inj hdo
     have c3 : ((meaning L v.f1 v.f2).1.toList != []) = true := by simpa using c1
     rw [if_pos c3, if_pos c2, e]
     exact ih _ (.inl (by simp))
    ·cases hdo
   ·split
    ·split
     ·exact ih _ (.inr ⟨v, hv, hdo⟩)
     ·exact ih _ (.inr ⟨v, hv, hdo⟩)
    ·exact ih _ (.inr ⟨v, hv, hdo⟩)
  ·rw [if_pos rfl]; exact ih true (.inl rfl)
theorem FnVerbRuns : Faa.Pure := by
 intro l0_ l1 m0 m1
 obtain ⟨m0, w0⟩ := m0
 obtain ⟨m1, w1⟩ := m1
 refine lim_rounds (?_ : Faa.F l0_ l1 = some true)
 rw [Faa.F_eq]
 by_cases hbig : (wrap64 ((l0_.length : Int) + (l1.length : Int))) > 1048576
 ·rw [if_pos hbig]
 rw [if_neg hbig]
 have B0 := bytes_of (l := l0_) m0 w0
 have B1 := bytes_of (l := l1) m1 w1
 obtain ⟨L, V, d1, hL, hV⟩ := drawRun_tells l0_ B0
 obtain ⟨U, W, g, d2, hU, hW, hgs⟩ := drawDoers_tells l1 B1
 obtain ⟨C, S, cu, cw, d3, hC, hS⟩ := drawClosest_tells l1 B1
 obtain ⟨R, rg, ra, rb, ru, d4, hR, hrg⟩ := drawRole_tells l1 B1
 obtain ⟨Y, yg, ya, yb, yu, yv, d5, hY, hyg⟩ := drawAgrees_tells l1 B1
 obtain ⟨r, s, ok, r1, r2, r3, r4, r5⟩ := run_same L V hL hV
 obtain ⟨d, one, o1, o2, o3, o4⟩ := doers_same U W g hU hW hgs
 obtain ⟨k, n, three, c1, c2, c3⟩ := closest_same C S cu cw hC hS
 obtain ⟨⟨t1, t2, t3, five⟩, e1, e2⟩ := role_same R rg ra rb ru hR hrg
 obtain ⟨ag, sv, a1, a2, a3⟩ := agrees_same Y yg ya yb yu yv hY hyg
 have he : Ends Y yu yv ag sv yg ya yb := fun h1 h2 => by
  obtain ⟨g1, g2, g3, g4, g5⟩ := a3 h1 h2
  refine ⟨meaning Y ya yb, ?_, g3, g4⟩
  rw [meansI Y yg ya yb hY.sized hyg g1 g2, show ((meaning Y ya yb).1.toList != []) = true from by simpa using g5]
 have hj5 := j5 C S cu cw three k n Y yu yv sv ag yg ya yb hS c3 he
 have hj2 : Faa.J2 U W g one d C S cu cw three k n Y yu yv sv ag yg ya yb = some true := by
  rw [Faa.J2_eq]
  cases hone : one
  ·rw [if_neg (by simp)]; exact hj5
  rw [if_pos rfl]
  obtain ⟨g1, g2, rfl⟩ := o4 hone
  have hst := uniq_strict (W.filterMap (doer U g))
  have hmem := uniq_mem (W.filterMap (doer U g))
  have hw1 := hW.1
  generalize uniq (W.filterMap (doer U g)) = D at o3 hst hmem
  refine each (L := fun i => Faa.L1 U W g D C S cu cw three k n Y yu yv sv ag D D.length i yg ya yb) D ByteArray.empty (fun _ _ o => o = some true) ?_ ?_
  ·show Faa.L1 U W g D C S cu cw three k n Y yu yv sv ag D _ _ yg ya yb = _
   rw [Faa.L1_eq, if_neg (by omega)]; exact hj5
  ·intro i x t hi hx hd _ ih
   have hxm := (hmem x).1 (mem_drop hd)
   obtain ⟨v, hv, hdo⟩ := List.mem_filterMap.1 hxm
   show Faa.L1 U W g D C S cu cw three k n Y yu yv sv ag D _ _ yg ya yb = _
   rw [Faa.L1_eq, if_pos (by omega), if_pos (by omega), if_pos (by omega), rd_txt, hx]
   refine (found U W g x hU hW g1 g2 (fun b j => Faa.L2 U W g D C S cu cw three k n Y yu yv sv ag i x b D D.length i W W.length j yg ya yb) (some true) (fun j b => ?_) ⟨v, hv, hdo⟩)
   show Faa.L2 U W g D C S cu cw three k n Y yu yv sv ag i x b D D.length i W W.length j yg ya yb = _
   rw [Faa.L2_eq]
   by_cases cj : (j : Int) < (W.length : Int)
   ·rw [if_pos cj, if_pos cj, if_pos (by omega), if_pos cj, rd_ver, wrap_in (x := (j : Int) + 1) (by omega) (by omega)]
   ·rw [if_neg cj, if_neg cj, wrap_in (x := (i : Int) + 1) (by omega) (by omega)]
    cases b
    ·rfl
    rw [if_pos rfl, if_pos rfl]
    by_cases ci : (i : Int) > 0
    case neg => rw [if_neg ci]; exact ih
    have e : (i : Int) - 1 = ((i - 1 : Nat) : Int) := by omega
    have hlt : (rdOf ByteArray.empty D ((i - 1 : Nat) : Int)).toList < x.toList := by
     have hp := List.pairwise_iff_getElem.1 hst (i - 1) i (by omega) (by omega) (by omega)
     rw [rd_txt, List.getD_eq_getElem?_getD, List.getElem?_eq_getElem (by omega), ← hx, List.getD_eq_getElem?_getD, List.getElem?_eq_getElem hi]
     exact hp
    rw [if_pos ci, wrap_in (x := (i : Int) - 1) (by omega) (by omega), e, if_pos (by omega), if_pos (by omega), bytesLess_eq, if_pos (decide_eq_true hlt)]
    exact ih
 have hj0 : Faa.J0 L V ok r s U W g one d C S cu cw three k n Y yu yv sv ag false yg ya yb = some true := by
  rw [Faa.J0_eq, if_neg (by simp)]
  cases hok : ok
  ·rw [if_neg (by simp)]; exact hj2
  obtain ⟨g1, g2, g3, g4⟩ := r5 hok
  rw [if_pos rfl, wrap_in (by omega) (by omega), if_pos (by omega)]
  have hv1 := hV.1
  refine each (L := fun i => Faa.L0 L s U W g one d C S cu cw three k n Y yu yv sv ag V V.length i yg ya yb) V z40 (fun _ _ o => o = some true) ?_ ?_
  ·show Faa.L0 L s U W g one d C S cu cw three k n Y yu yv sv ag V _ _ yg ya yb = _
   rw [Faa.L0_eq, if_neg (by omega)]; exact hj2
  ·intro i x t hi hx hd _ ih
   have hm := mem_drop hd
   have hvx : isVerb x.f0 x.f1 x.f2 = true := by
    simp only [goodV, Bool.and_eq_true, List.all_eq_true] at g2
    exact g2.1 x hm
   have hq := mem_idle L i V 0 (by omega) (by omega)
   rw [Nat.sub_zero, hx] at hq
   show Faa.L0 L s U W g one d C S cu cw three k n Y yu yv sv ag V _ _ yg ya yb = _
   rw [Faa.L0_eq, if_pos (by omega), if_pos (by omega), if_pos (by omega), rd_ver, hx, meansI L x.f0 x.f1 x.f2 hL.sized (hV.2 x hm) g1 hvx, Option.bind_some, qHas_some _ _ (by omega), Option.bind_some, wrap_in (x := (i : Int) + 1) (by omega) (by omega), if_neg ?_]
   ·exact ih
   ·rw [g3]
    by_cases c : (meaning L x.f1 x.f2).1.toList = []
    ·have := hq.2 c
     simp [c, this]
    ·have : ¬ ((i : Int) ∈ idleFrom L 0 V) := fun h => c (hq.1 h)
     simp [c, this]
 have q0 := qTexts_refl r (by omega)
 have q1 := qInts_refl s (by omega)
 have q2 := qTexts_refl d (by omega)
 simp only [d1, d2, d3, d4, d5, Option.bind_some, r1, r2, o1, o2, c1, c2, e1, e2, a1, a2, bne_self_eq_false, Bool.false_eq_true, if_false, q0, q1, q2, if_true, beq_self_eq_true, Bool.not_true, Bool.or_false]
 exact hj0

end Go.Proofs.YtbfkpgmdbafmhaaGreat.Pure
