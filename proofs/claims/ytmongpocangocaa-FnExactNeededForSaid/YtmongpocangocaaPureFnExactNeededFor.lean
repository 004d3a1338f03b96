/- The pure statement of the law FnExactNeededFor: for all arguments within their bounds its Lean function answers true. -/
import Derived.Test.YtmongpocangocaaPFnExactNeededForxD0
namespace Go.Proofs.Ytmongpocangocaa.Pure
open Go.RowKit Go.Proofs.Ytmongpocangocaa.PFnExactNeededFor Go.Proofs.YtmongpocangocaaW.PrintWords Go.Proofs.YtmongpocangocaaW.PrintLast
set_option linter.unusedVariables false
set_option linter.unusedSimpArgs false
/-! ### Numbers, loops, letters -/
theorem wrap_in {x : Int} (h0 : -9223372036854775808 ≤ x) (h1 : x ≤ 9223372036854775807) : wrap64 x = x := by
 unfold wrap64; omega
theorem wf_i64 {n : Int} (h : (Lit.int .i64 n).wf = true) : -9223372036854775808 ≤ n ∧ n ≤ 9223372036854775807 := by
 simpa [Lit.wf, IntKind.min, IntKind.max, IntKind.signed, IntKind.bits] using h
/-- A loop over a list, from its end. L: what the loop tells from place i on. -/
theorem each {α γ : Type} (L : Int → γ) (l : List α) (z : α) (R : Nat → List α → γ → Prop) (nil : R l.length [] (L l.length))
 (cons : ∀ (i : Nat) (x : α) (t : List α), i < l.length → l.getD i z = x → l.drop i = x :: t → l.drop (i + 1) = t → R (i + 1) t (L ((i : Int) + 1)) → R i (x :: t) (L i)) : R 0 l (L 0) := by
 have key : ∀ (t : List α) (i : Nat), l.drop i = t → i ≤ l.length → R i t (L i) := by
  intro t
  induction t with
  | nil =>
   intro i h hi
   have : l.length ≤ i := by simpa [List.drop_eq_nil_iff] using h
   obtain rfl : i = l.length := by omega
   exact nil
  | cons x t ih =>
   intro i h hi
   have hlt : i < l.length := by
    rcases Nat.lt_or_ge i l.length with h' | h'
    ·exact h'
    ·rw [List.drop_eq_nil_of_le h'] at h; cases h
   have h2 := List.drop_eq_getElem_cons hlt
   rw [h] at h2
   injection h2 with h3 h4
   refine cons i x t hlt ?_ h h4.symm ?_
   ·rw [List.getD_eq_getElem?_getD, List.getElem?_eq_getElem hlt]; exact h3.symm
   ·have := ih (i + 1) h4.symm (by omega)
    rwa [show ((i + 1 : Nat) : Int) = (i : Int) + 1 from by omega] at this
 have := key l 0 rfl (Nat.zero_le _)
 rwa [show ((0 : Nat) : Int) = 0 from rfl] at this
theorem bt_data (s : ByteArray) (i : Nat) (h : i < s.size) : bt s (i : Int) = ((s.data.toList.getD i 0).toNat : Int) := by
 obtain ⟨d⟩ := s
 have h' : i < d.size := h
 have : bt ⟨d⟩ (i : Int) = ((d[i]).toNat : Int) := by
  unfold bt
  rw [dif_pos (show ((i : Int)).toNat < (⟨d⟩ : ByteArray).size from by simpa using h)]
  rfl
 rw [this]
 simp [h']
theorem size_data (s : ByteArray) : s.size = s.data.toList.length := by
 obtain ⟨d⟩ := s; simp [ByteArray.size]
theorem toList_data (s : ByteArray) : s.toList = s.data.toList := by
 rw [ByteArray.toList_eq]
theorem ext_data {s t : ByteArray} (h : s.toList = t.toList) : s = t := by
 rw [toList_data, toList_data] at h
 obtain ⟨⟨a⟩⟩ := s
 obtain ⟨⟨b⟩⟩ := t
 simp at h
 rw [h]
theorem toList_iff {s t : ByteArray} : s.toList = t.toList ↔ s = t := ⟨ext_data, fun h => by rw [h]⟩
theorem mem_drop {α : Type} {l t : List α} {x : α} {i : Nat} (h : l.drop i = x :: t) : x ∈ l := List.mem_of_mem_drop (i := i) (by rw [h]; simp)

theorem l1In_some (a b c : Int) : spec_l1In.f a b c = some (decide (b ≤ a ∧ a ≤ c)) := by
 unfold spec_l1In.f
 by_cases h : a ≥ b
 ·rw [if_pos h]; congr 1; simp; omega
 ·rw [if_neg h]; congr 1; symm; simp; omega

/-! ### Words of letters; angles -/
theorem within_some (a b c : Int) : impl_within.f a b c = some (decide (b ≤ a ∧ a ≤ c)) := by
 unfold impl_within.f
 by_cases h : b ≤ a
 ·rw [if_pos h]; simp [h]
 ·rw [if_neg h]; simp [h]
/-- All letters between two. -/
def inRange (lo hi : Nat) (l : List UInt8) : Bool := l.all fun c => decide (lo ≤ c.toNat ∧ c.toNat ≤ hi)
/-- One to eight letters between two. -/
def isWord (lo hi : Nat) (s : ByteArray) : Bool := decide (1 ≤ s.size ∧ s.size ≤ 8) && inRange lo hi s.data.toList
theorem dec_size (s : ByteArray) : decide ((1 : Int) ≤ s.size ∧ (s.size : Int) ≤ 8) = decide (1 ≤ s.size ∧ s.size ≤ 8) := by
 by_cases h : 1 ≤ s.size ∧ s.size ≤ 8
 ·rw [decide_eq_true h, decide_eq_true (by omega)]
 ·rw [decide_eq_false h, decide_eq_false (by omega)]

/-- What 'letters' says of a list of letters: they are those from lo to hi. -/
def Letters (lo hi : Nat) (m : ByteArray) : Prop := ∀ n, n < 256 → (decide (Lib.indexByte m.data.toList n.toUInt8 < 0)) = !decide (lo ≤ n ∧ n ≤ hi)
instance (lo hi : Nat) (m : ByteArray) : Decidable (Letters lo hi m) := by unfold Letters; infer_instance
theorem hasOnly_some (lo hi : Nat) (s m : ByteArray) (hs : s.size ≤ 9223372036854775807) (hm : Letters lo hi m) : impl_hasOnly.F s m = some (inRange lo hi s.data.toList) := by
 rw [impl_hasOnly.F_eq]
 refine each (L := fun i => impl_hasOnly.L0 s m s.size i) s.data.toList 0 (fun _ t o => o = some (inRange lo hi t)) ?_ ?_
 ·show impl_hasOnly.L0 s m _ _ = _
  rw [impl_hasOnly.L0_eq, if_neg (by rw [← size_data]; omega)]; rfl
 ·intro i x t hi' hx _ _ ih
  have hi2 : i < s.size := by rw [size_data]; exact hi'
  have hb := hm x.toNat x.toNat_lt
  show impl_hasOnly.L0 s m _ _ = _
  rw [impl_hasOnly.L0_eq, if_pos (by omega), if_pos (by omega), if_pos (by omega), bt_data s i hi2, hx, wrap_in (by omega) (by omega)]
  simp only [strings_IndexByte.f, stringslite_IndexByte.f, Option.bind_some, Int.toNat_natCast]
  by_cases h1 : lo ≤ x.toNat ∧ x.toNat ≤ hi
  ·rw [if_neg (by simp [h1] at hb; simpa using hb), ih]
   simp [inRange, h1]
  ·rw [if_pos (by simpa [h1] using hb)]
   simp [inRange, h1]
theorem isWordOf_some (lo hi : Nat) (s m : ByteArray) (hs : s.size ≤ 9223372036854775807) (hm : Letters lo hi m) : impl_isWordOf.F s m = some (isWord lo hi s) := by
 rw [impl_isWordOf.F_eq, within_some, hasOnly_some lo hi s m hs hm]
 simp only [Option.bind_some, isWord]
 by_cases h : 1 ≤ s.size ∧ s.size ≤ 8
 ·have : (1 : Int) ≤ s.size ∧ (s.size : Int) ≤ 8 := by omega
  simp [h, this]
 ·have : ¬ ((1 : Int) ≤ s.size ∧ (s.size : Int) ≤ 8) := by omega
  simp [h, this]

theorem isGloss_some (s : ByteArray) (hs : s.size ≤ 9223372036854775807) : impl_IsGloss.F s = some (isWord 65 90 s) := by
 rw [impl_IsGloss.F_eq, isWordOf_some 65 90 s _ hs (by decide +kernel)]; rfl


/-! ### Numbers in their order, each once -/
theorem once_len (l : List Int) : ((onceInts (sortInts l)).length = l.length ∧ l.Pairwise (· ≤ ·)) ↔ l.Pairwise (· < ·) := by
 have g : ∀ k, (hk : k < l.length) → l.toArray[k]! = l[k] := fun k hk => by simp [hk]
 constructor
 ·rintro ⟨h1, h2⟩
  have hs : sortInts l = l := by
   unfold sortInts
   exact List.mergeSort_of_pairwise (h2.imp (fun {a b} h => decide_eq_true h))
  rw [hs, onceInts, Lib.compact, Lib.compactUpTo, List.length_map] at h1
  have h3 : ∀ j, j < l.length → Lib.keeps l.toArray j = true := by
   have h4 : ((List.range l.length).filter (Lib.keeps l.toArray)).length = (List.range l.length).length := by rw [h1]; simp
   intro j hj
   exact (List.length_filter_eq_length_iff.1 h4) j (List.mem_range.2 hj)
  rw [List.pairwise_iff_getElem] at h2 ⊢
  intro i j hi hj hij
  have h5 := h3 j hj
  have h6 : j = 0 ∨ l.toArray[j]! ≠ l.toArray[j - 1]! := by simpa [Lib.keeps] using h5
  have h7 : l[j] ≠ l[j - 1] := by
   rcases h6 with h | h
   ·omega
   ·rwa [g j hj, g (j - 1) (by omega)] at h
  have h8 := h2 (j - 1) j (by omega) hj (by omega)
  have h9 : l[i] ≤ l[j - 1] := by
   rcases Nat.lt_or_ge i (j - 1) with h | h
   ·exact h2 i (j - 1) hi (by omega) h
   ·have e : i = j - 1 := by omega
    subst e
    exact Int.le_refl _
  omega
 ·intro h
  have h2 : l.Pairwise (· ≤ ·) := h.imp (fun {a b} h => Int.le_of_lt h)
  refine ⟨?_, h2⟩
  have hs : sortInts l = l := by
   unfold sortInts
   exact List.mergeSort_of_pairwise (h2.imp (fun {a b} h => decide_eq_true h))
  rw [hs, onceInts, Lib.compact_all]
  intro j hj
  rw [List.pairwise_iff_getElem] at h
  rcases Nat.eq_zero_or_pos j with h0 | h0
  ·simp [Lib.keeps, h0]
  ·have := h (j - 1) j (by omega) hj (by omega)
   have h7 : l.toArray[j]! ≠ l.toArray[j - 1]! := by rw [g j hj, g (j - 1) (by omega)]; omega
   simp [Lib.keeps]
   exact .inr (by simpa using h7)
theorem distinctI_some (l : List Int) (hl : l.length ≤ 1048576) : impl_distinct_int.f l = some (onceInts (sortInts l)) := by
 unfold impl_distinct_int.f slices_Clone_int.f slices_Sort_int.f slices_Compact_int.f
 have h1 := sortInts_length l
 simp only [Option.bind_some, List.length_nil, List.nil_append]
 rw [if_pos (by omega), Option.bind_some, if_pos (by omega), Option.bind_some, if_pos (by omega)]
 rfl

/-! ### Lists of numbers -/
theorem rdI (l : List Int) (i : Nat) : rd l (i : Int) = l.getD i 0 := by simp [rd]
theorem wf_s {s : ByteArray} (h : s.size ≤ 9223372036854775807) : s.size ≤ 9223372036854775807 := h
theorem enGloss_some (s : ByteArray) (hs : s.size ≤ 9223372036854775807) : spec_enGloss.F s = some (isWord 65 90 s) := by
 rw [spec_enGloss.F_eq]
 have := each (L := fun i => spec_enGloss.L0 s i) s.data.toList 0 (fun _ t o => o = some (inRange 65 90 t && decide (1 ≤ s.size ∧ s.size ≤ 8))) ?_ ?_
 ·rw [this, isWord, Bool.and_comm]
 ·show spec_enGloss.L0 s _ = _
  rw [spec_enGloss.L0_eq, if_neg (by rw [← size_data]; omega), l1In_some]
  simp only [Option.bind_some, inRange, List.all_nil, Bool.true_and, dec_size]
 ·intro i x t hi hx _ _ ih
  have hi' : i < s.size := by rw [size_data]; exact hi
  show spec_enGloss.L0 s _ = _
  rw [spec_enGloss.L0_eq, if_pos (by omega), if_pos (by omega), bt_data s i hi', hx, wrap_in (by omega) (by omega)]
  by_cases h1 : x.toNat < 65
  ·rw [if_pos (by omega)]; simp [inRange]; omega
  ·rw [if_neg (by omega)]
   by_cases h2 : 90 < x.toNat
   ·rw [if_pos (by omega)]; simp [inRange]; omega
   ·rw [if_neg (by omega), ih]
    have h3 : 65 ≤ x.toNat := by omega
    have h4 : x.toNat ≤ 90 := by omega
    simp [inRange, h3, h4]
theorem has_some (l : List Int) (a : Int) (hl : l.length ≤ 1048576) : spec_l1Has.F l a = some (decide (a ∈ l)) := by
 rw [spec_l1Has.F_eq]
 refine each (L := fun i => spec_l1Has.L0 a l l.length i) l 0 (fun _ t o => o = some (decide (a ∈ t))) ?_ ?_
 ·show spec_l1Has.L0 a l _ _ = _
  rw [spec_l1Has.L0_eq, if_neg (by omega)]; simp
 ·intro i x t hi hx _ _ ih
  show spec_l1Has.L0 a l _ _ = _
  rw [spec_l1Has.L0_eq, if_pos (by omega), if_pos (by omega), if_pos (by omega), rdI, hx, wrap_in (by omega) (by omega)]
  by_cases c : x = a
  ·rw [if_pos c]; simp [c]
  ·rw [if_neg c, ih]; simp [List.mem_cons, show ¬ a = x from fun h => c h.symm]
theorem contains_some (l : List Int) (a : Int) (hl : l.length ≤ 1048576) : slices_Contains_int.F l a = some (decide (a ∈ l)) := by
 rw [slices_Contains_int.F_eq, slices_Index_int.F_eq]
 have := each (L := fun i => slices_Index_int.L0 l a l.length i) l 0 (fun i t o => ∃ j : Int, o = some j ∧ (decide (j ≥ 0) = decide (a ∈ t))) ?_ ?_
 ·obtain ⟨j, h1, h2⟩ := this
  have h1' : slices_Index_int.L0 l a (l.length : Int) 0 = some j := h1
  rw [h1', Option.bind_some, h2]
 ·exact ⟨-1, by show slices_Index_int.L0 l a _ _ = _; rw [slices_Index_int.L0_eq, if_neg (by omega)], by simp⟩
 ·intro i x t hi hx _ _ ih
  show ∃ j, slices_Index_int.L0 l a _ _ = _ ∧ _
  rw [slices_Index_int.L0_eq, if_pos (by omega), if_pos (by omega), if_pos (by omega), rdI, hx, wrap_in (by omega) (by omega)]
  by_cases c : a = x
  ·rw [if_pos c]
   exact ⟨i, rfl, by simp [c]⟩
  ·rw [if_neg c]
   obtain ⟨j, h1, h2⟩ := ih
   exact ⟨j, h1, by rw [h2]; simp [c]⟩
theorem allWithin_some (l : List Int) (a b : Int) (hl : l.length ≤ 1048576) : impl_allWithin.F l a b = some (decide (∀ x ∈ l, a ≤ x ∧ x ≤ b)) := by
 rw [impl_allWithin.F_eq, slices_ContainsFunc_int_impl_allWithin_1.F_eq, slices_IndexFunc_int_impl_allWithin_1.F_eq]
 have := each (L := fun i => slices_IndexFunc_int_impl_allWithin_1.L0 l l.length i a b) l 0 (fun i t o => ∃ j : Int, o = some j ∧ ((!decide (j ≥ 0)) = decide (∀ x ∈ t, a ≤ x ∧ x ≤ b))) ?_ ?_
 ·obtain ⟨j, h1, h2⟩ := this
  have h1' : slices_IndexFunc_int_impl_allWithin_1.L0 l (l.length : Int) 0 a b = some j := h1
  rw [h1', Option.bind_some, Option.bind_some, h2]
 ·exact ⟨-1, by show slices_IndexFunc_int_impl_allWithin_1.L0 l _ _ a b = _; rw [slices_IndexFunc_int_impl_allWithin_1.L0_eq, if_neg (by omega)], by simp⟩
 ·intro i x t hi hx _ _ ih
  show ∃ j, slices_IndexFunc_int_impl_allWithin_1.L0 l _ _ a b = _ ∧ _
  rw [slices_IndexFunc_int_impl_allWithin_1.L0_eq, if_pos (by omega), if_pos (by omega), if_pos (by omega), rdI, hx, impl_allWithin_1.f, within_some, Option.bind_some, Option.bind_some, wrap_in (by omega) (by omega)]
  by_cases c : a ≤ x ∧ x ≤ b
  ·rw [if_neg (by simp [c])]
   obtain ⟨j, h1, h2⟩ := ih
   exact ⟨j, h1, by rw [h2]; simp [c]⟩
  ·rw [if_pos (by simp only [Bool.not_eq_true', decide_eq_false_iff_not]; exact c)]
   refine ⟨i, rfl, ?_⟩
   rw [decide_eq_true (by omega : (i : Int) ≥ 0)]
   symm
   simp only [Bool.not_true, decide_eq_false_iff_not, List.mem_cons, forall_eq_or_imp]
   exact fun h => c h.1
/-- Rising from p on, within bounds. -/
def chk (lo hi : Int) : Option Int → List Int → Bool
 | _, [] => true
 | p, x :: t => decide (lo ≤ x ∧ x ≤ hi) && ((match p with | none => true | some y => decide (y < x)) && chk lo hi (some x) t)
theorem chk_cons (lo hi : Int) (p : Option Int) (x : Int) (t : List Int) : chk lo hi p (x :: t) = (decide (lo ≤ x ∧ x ≤ hi) && ((match p with | none => true | some y => decide (y < x)) && chk lo hi (some x) t)) := by cases p <;> rfl
theorem chk_iff (lo hi : Int) : ∀ (t : List Int) (p : Option Int), chk lo hi p t = true ↔ ((∀ x ∈ t, lo ≤ x ∧ x ≤ hi) ∧ t.Pairwise (· < ·) ∧ ∀ y, p = some y → ∀ x ∈ t, y < x)
 | [], p => by simp [chk]
 | x :: t, p => by
  rw [chk_cons, Bool.and_eq_true, Bool.and_eq_true, chk_iff lo hi t (some x), decide_eq_true_eq]
  simp only [List.mem_cons, forall_eq_or_imp, List.pairwise_cons, Option.some.injEq, forall_eq']
  constructor
  ·rintro ⟨h1, h2, h3, h4, h5⟩
   refine ⟨⟨h1, h3⟩, ⟨h5, h4⟩, fun y hy => ?_⟩
   subst hy
   have h6 := of_decide_eq_true h2
   exact ⟨h6, fun z hz => by have := h5 z hz; omega⟩
  ·rintro ⟨⟨h1, h3⟩, ⟨h5, h4⟩, h6⟩
   refine ⟨h1, ?_, h3, h4, h5⟩
   cases p with
   | none => rfl
   | some y => exact decide_eq_true (h6 y rfl).1
theorem rising_some (l : List Int) (lo hi : Int) (hl : l.length ≤ 1048576) : spec_l1Rising.F l lo hi = some (decide (∀ x ∈ l, lo ≤ x ∧ x ≤ hi) && decide (l.Pairwise (· < ·))) := by
 rw [spec_l1Rising.F_eq]
 have := each (L := fun i => spec_l1Rising.L0 l lo hi l l.length i) l 0 (fun i t o => o = some (chk lo hi (if i = 0 then none else some (l.getD (i - 1) 0)) t)) ?_ ?_
 ·have h1 : spec_l1Rising.L0 l lo hi l (l.length : Int) 0 = some (chk lo hi none l) := this
  rw [h1]
  congr 1
  rw [Bool.eq_iff_iff, chk_iff, Bool.and_eq_true, decide_eq_true_eq, decide_eq_true_eq]
  simp
 ·show spec_l1Rising.L0 l lo hi l _ _ = _
  rw [spec_l1Rising.L0_eq, if_neg (by omega)]; simp [chk]
 ·intro i x t hi' hx _ _ ih
  show spec_l1Rising.L0 l lo hi l _ _ = _
  rw [spec_l1Rising.L0_eq, if_pos (by omega), if_pos (by omega), if_pos (by omega), rdI, hx, l1In_some, Option.bind_some, wrap_in (x := (i : Int) + 1) (by omega) (by omega), chk_cons]
  by_cases c : lo ≤ x ∧ x ≤ hi
  ·rw [if_pos (by simpa using c), decide_eq_true c, Bool.true_and]
   have ih' : spec_l1Rising.L0 l lo hi l (l.length : Int) ((i : Int) + 1) = some (chk lo hi (some x) t) := by
    rw [ih, if_neg (by omega), Nat.add_sub_cancel, hx]
   by_cases h0 : i = 0
   ·subst h0
    rw [if_neg (by omega), ih', if_pos rfl]
    simp
   ·have e : (i : Int) - 1 = ((i - 1 : Nat) : Int) := by omega
    rw [if_pos (by omega), wrap_in (x := (i : Int) - 1) (by omega) (by omega), e, if_pos (by omega), if_pos (by omega), rdI, if_neg h0]
    by_cases c2 : l.getD (i - 1) 0 < x
    ·rw [if_neg (by omega), ih']
     simp only [c2, decide_true, Bool.true_and]
    ·rw [if_pos (by omega)]
     simp only [c2, decide_false, Bool.false_and]
  ·rw [if_neg (by simpa using c), decide_eq_false c]
   rfl
theorem isSorted_some (l : List Int) (hl : l.length ≤ 1048576) : slices_IsSorted_int.F l = some (decide (l.Pairwise (· ≤ ·))) := by
 rw [slices_IsSorted_int.F_eq]
 have key : ∀ n : Nat, n < l.length → ∃ b, slices_IsSorted_int.L0 l (n : Int) = some b ∧ (b = true ↔ ∀ j, (hj : j < n) → (hn : n < l.length) → ∀ k, (hk : k < l.length) → k = j + 1 → l[j]! ≤ l[k]!) := by
  intro n
  induction n with
  | zero => intro _; exact ⟨true, by rw [slices_IsSorted_int.L0_eq, if_neg (by omega)], by simp⟩
  | succ n ih =>
   intro hn
   obtain ⟨b, h1, h2⟩ := ih (by omega)
   have e : ((n + 1 : Nat) : Int) - 1 = (n : Int) := by omega
   have g1 : l.getD (n + 1) 0 = l[n + 1]! := by simp [hn]
   have g2 : l.getD n 0 = l[n]! := by simp [show n < l.length by omega]
   rw [slices_IsSorted_int.L0_eq, if_pos (by omega), if_pos (by omega), if_pos (by omega), wrap_in (by omega) (by omega), e, if_pos (by omega), if_pos (by omega), rdI, rdI, g1, g2]
   simp only [cmp_Less_int.f, cmp_isNaN_int.f, bne_self_eq_false, Option.bind_some, Bool.false_eq_true, if_false]
   by_cases c : l[n + 1]! < l[n]!
   ·rw [if_pos (by simpa using c)]
    refine ⟨false, rfl, ?_⟩
    simp only [Bool.false_eq_true, false_iff]
    intro h
    have := h n (by omega) hn (n + 1) hn rfl
    omega
   ·rw [if_neg (by simpa using c)]
    refine ⟨b, h1, h2.trans ⟨fun h j hj hn' k hk e2 => ?_, fun h j hj hn' k hk e2 => h j (by omega) hn k hk e2⟩⟩
    rcases Nat.lt_or_ge j n with h3 | h3
    ·exact h j h3 (by omega) k hk e2
    ·obtain rfl : j = n := by omega
     subst e2
     omega
 by_cases h0 : l.length = 0
 ·obtain rfl : l = [] := List.eq_nil_of_length_eq_zero h0
  show slices_IsSorted_int.L0 [] (wrap64 (0 - 1)) = _
  rw [wrap_in (by omega) (by omega), slices_IsSorted_int.L0_eq, if_neg (by omega)]
  simp
 ·obtain ⟨b, h1, h2⟩ := key (l.length - 1) (by omega)
  have e : (l.length : Int) - 1 = ((l.length - 1 : Nat) : Int) := by omega
  rw [wrap_in (by omega) (by omega), e, h1]
  congr 1
  rw [Bool.eq_iff_iff, h2, decide_eq_true_eq, List.pairwise_iff_getElem]
  constructor
  ·intro h i j hi hj hij
   have adj : ∀ k, (hk : k + 1 < l.length) → l[k] ≤ l[k + 1] := by
    intro k hk
    have := h k (by omega) (by omega) (k + 1) hk rfl
    rwa [getElem!_pos l k (by omega), getElem!_pos l (k + 1) hk] at this
   have far : ∀ d k, (hk : k + d + 1 < l.length) → l[k] ≤ l[k + d + 1] := by
    intro d
    induction d with
    | zero => intro k hk; exact adj k hk
    | succ d ih =>
     intro k hk
     have a1 := ih k (by omega)
     have a2 := adj (k + d + 1) (by omega)
     have e3 : k + (d + 1) + 1 = k + d + 1 + 1 := by omega
     simp only [e3]
     omega
   have := far (j - i - 1) i (by omega)
   have e4 : i + (j - i - 1) + 1 = j := by omega
   simpa only [e4] using this
  ·intro h j hj _ k hk e2
   rw [getElem!_pos l j (by omega), getElem!_pos l k hk]
   exact h j k (by omega) hk (by omega)
/-! ### Words -/
abbrev Wor := S43
theorem rd_wor (l : List Wor) (i : Nat) : rd_T43 l (i : Int) = l.getD i z43 := by simp [rd_T43]
def sameAs (x : Wor) (l : List Wor) : Bool := l.any fun y => y.f0.toList == x.f0.toList
def okW (l : List Wor) (i : Nat) (x : Wor) : Bool :=
 isWord 65 90 x.f0 && (decide (0 ≤ x.f2 ∧ x.f2 ≤ 99999) && (decide (∀ n ∈ x.f1, 0 ≤ n ∧ n ≤ (l.length : Int) - 1) && (!decide ((i : Int) ∈ x.f1) && (decide (x.f1.Pairwise (· < ·)) && !sameAs x (l.take i)))))
def goodWFrom (l : List Wor) : Nat → List Wor → Bool
 | _, [] => decide (l.length ≤ 16)
 | i, x :: t => okW l i x && goodWFrom l (i + 1) t
def goodW (l : List Wor) : Bool := goodWFrom l 0 l
def SizedW (l : List Wor) : Prop := l.length ≤ 1048576 ∧ ∀ x ∈ l, x.f0.size ≤ 9223372036854775807 ∧ x.f1.length ≤ 1048576

theorem leSame (l : List Wor) (n i : Int) (T : List Wor) (g : ByteArray) (ns : List Int) (us : Int) (hT : T.length ≤ 1048576) : spec_leGood.L1 l l n i T T.length 0 g ns us = if (T.any fun y => y.f0.toList == g.toList) then some false else spec_leGood.L0 l l n (wrap64 (i + 1)) := by
 refine each (L := fun k => spec_leGood.L1 l l n i T T.length k g ns us) T z43 (fun _ t o => o = if (t.any fun y => y.f0.toList == g.toList) then some false else spec_leGood.L0 l l n (wrap64 (i + 1))) ?_ ?_
 ·show spec_leGood.L1 l l n i T _ _ g ns us = _
  rw [spec_leGood.L1_eq, if_neg (by omega)]; simp
 ·intro k x t hk hx _ _ ih
  show spec_leGood.L1 l l n i T _ _ g ns us = _
  rw [spec_leGood.L1_eq, if_pos (by omega), if_pos (by omega), if_pos (by omega), rd_wor, hx, wrap_in (x := (k : Int) + 1) (by omega) (by omega)]
  by_cases c : x.f0.toList = g.toList
  ·rw [if_pos c]; simp [c]
  ·rw [if_neg c, ih]; simp [c]
theorem anyWord_some (T : List Wor) (g : ByteArray) (ns : List Int) (us : Int) (hT : T.length ≤ 1048576) : slices_ContainsFunc_Word_impl_AreWords_1.F T g ns us = some (T.any fun y => y.f0.toList == g.toList) := by
 rw [slices_ContainsFunc_Word_impl_AreWords_1.F_eq, slices_IndexFunc_Word_impl_AreWords_1.F_eq]
 have := each (L := fun i => slices_IndexFunc_Word_impl_AreWords_1.L0 T T.length i g ns us) T z43 (fun i t o => ∃ j : Int, o = some j ∧ (decide (j ≥ 0) = t.any fun y => y.f0.toList == g.toList)) ?_ ?_
 ·obtain ⟨j, h1, h2⟩ := this
  have h1' : slices_IndexFunc_Word_impl_AreWords_1.L0 T (T.length : Int) 0 g ns us = some j := h1
  rw [h1', Option.bind_some, h2]
 ·exact ⟨-1, by show slices_IndexFunc_Word_impl_AreWords_1.L0 T _ _ g ns us = _; rw [slices_IndexFunc_Word_impl_AreWords_1.L0_eq, if_neg (by omega)], by simp⟩
 ·intro i x t hi hx _ _ ih
  show ∃ j, slices_IndexFunc_Word_impl_AreWords_1.L0 T _ _ g ns us = _ ∧ _
  rw [slices_IndexFunc_Word_impl_AreWords_1.L0_eq, if_pos (by omega), if_pos (by omega), if_pos (by omega), rd_wor, hx, impl_AreWords_1.f, Option.bind_some, wrap_in (by omega) (by omega)]
  by_cases c : x.f0.toList = g.toList
  ·rw [if_pos (by simpa using c)]
   exact ⟨i, rfl, by simp [c]⟩
  ·rw [if_neg (by simpa using c)]
   obtain ⟨j, h1, h2⟩ := ih
   exact ⟨j, h1, by rw [h2]; simp [c]⟩
theorem leGood_some (l : List Wor) (hl : SizedW l) : spec_leGood.F l = some (goodW l) := by
 rw [spec_leGood.F_eq]
 have hl1 := hl.1
 refine each (L := fun i => spec_leGood.L0 l l l.length i) l z43 (fun i t o => o = some (goodWFrom l i t)) ?_ ?_
 ·show spec_leGood.L0 l l _ _ = _
  rw [spec_leGood.L0_eq, if_neg (by omega)]
  simp only [goodWFrom, Option.some.injEq, decide_eq_decide]; omega
 ·intro i x t hi hx hd _ ih
  obtain ⟨s1, s2⟩ := hl.2 x (mem_drop hd)
  show spec_leGood.L0 l l _ _ = _
  have hw : wrap64 ((i : Int) + 1) = (i : Int) + 1 := wrap_in (by omega) (by omega)
  have ht : (l.take i).length ≤ 1048576 := by simp; omega
  rw [spec_leGood.L0_eq, if_pos (by omega), if_pos (by omega), if_pos (by omega), rd_wor, hx, enGloss_some _ s1, Option.bind_some, wrap_in (x := (l.length : Int) - 1) (by omega) (by omega), rising_some _ _ _ s2, Option.bind_some, has_some _ _ s2, Option.bind_some, l1In_some, Option.bind_some]
  simp only [spec_leGood.J1_eq, if_pos (show (0 : Int) ≤ (i : Int) by omega), if_pos (show (i : Int) ≤ (l.length : Int) by omega), Option.bind_some, Int.toNat_natCast, leSame l _ _ _ _ _ _ ht, hw, ih, goodWFrom, okW, sameAs]
  generalize isWord 65 90 x.f0 = b1
  generalize decide (0 ≤ x.f2 ∧ x.f2 ≤ 99999) = b2
  generalize decide (∀ n ∈ x.f1, 0 ≤ n ∧ n ≤ (l.length : Int) - 1) = b3
  generalize decide ((i : Int) ∈ x.f1) = b4
  generalize decide (x.f1.Pairwise (· < ·)) = b5
  generalize ((l.take i).any fun y => y.f0.toList == x.f0.toList) = b6
  cases b1 <;> cases b2 <;> cases b3 <;> cases b4 <;> cases b5 <;> cases b6 <;> simp
theorem areWords_some (l : List Wor) (hl : SizedW l) : impl_AreWords.F l = some (goodW l) := by
 rw [impl_AreWords.F_eq]
 have hl1 := hl.1
 refine each (L := fun i => impl_AreWords.L0 l l l.length i) l z43 (fun i t o => o = some (goodWFrom l i t)) ?_ ?_
 ·show impl_AreWords.L0 l l _ _ = _
  rw [impl_AreWords.L0_eq, if_neg (by omega)]
  simp only [goodWFrom, Option.some.injEq, decide_eq_decide]; omega
 ·intro i x t hi hx hd _ ih
  obtain ⟨s1, s2⟩ := hl.2 x (mem_drop hd)
  show impl_AreWords.L0 l l _ _ = _
  have hw : wrap64 ((i : Int) + 1) = (i : Int) + 1 := wrap_in (by omega) (by omega)
  have ht : (l.take i).length ≤ 1048576 := by simp; omega
  rw [impl_AreWords.L0_eq, if_pos (by omega), if_pos (by omega), if_pos (by omega), rd_wor, hx, isGloss_some _ s1, Option.bind_some, within_some, Option.bind_some, wrap_in (x := (l.length : Int) - 1) (by omega) (by omega), allWithin_some _ _ _ s2, Option.bind_some, contains_some _ _ s2, Option.bind_some]
  simp only [impl_AreWords.J1_eq, impl_AreWords.J2_eq, distinctI_some _ s2, isSorted_some _ s2, if_pos (show (0 : Int) ≤ (i : Int) by omega), if_pos (show (i : Int) ≤ (l.length : Int) by omega), Option.bind_some, Int.toNat_natCast, anyWord_some _ _ _ _ ht, hw, ih, goodWFrom, okW, sameAs]
  have h5 : decide (x.f1.Pairwise (· < ·)) = (decide (((onceInts (sortInts x.f1)).length : Int) = (x.f1.length : Int)) && decide (x.f1.Pairwise (· ≤ ·))) := by
   rw [Bool.eq_iff_iff, Bool.and_eq_true, decide_eq_true_eq, decide_eq_true_eq, decide_eq_true_eq, ← once_len]
   constructor
   ·rintro ⟨h1, h2⟩; exact ⟨by omega, h2⟩
   ·rintro ⟨h1, h2⟩; exact ⟨by omega, h2⟩
  rw [h5]
  by_cases h6 : ((onceInts (sortInts x.f1)).length : Int) = (x.f1.length : Int)
  ·rw [if_pos h6, decide_eq_true h6]
   generalize isWord 65 90 x.f0 = b1
   generalize decide (0 ≤ x.f2 ∧ x.f2 ≤ 99999) = b2
   generalize decide (∀ n ∈ x.f1, 0 ≤ n ∧ n ≤ (l.length : Int) - 1) = b3
   generalize decide ((i : Int) ∈ x.f1) = b4
   generalize decide (x.f1.Pairwise (· ≤ ·)) = b5
   generalize ((l.take i).any fun y => y.f0.toList == x.f0.toList) = b6
   cases b1 <;> cases b2 <;> cases b3 <;> cases b4 <;> cases b5 <;> cases b6 <;> simp
  ·rw [if_neg h6, decide_eq_false h6]
   generalize isWord 65 90 x.f0 = b1
   generalize decide (0 ≤ x.f2 ∧ x.f2 ≤ 99999) = b2
   generalize decide (∀ n ∈ x.f1, 0 ≤ n ∧ n ≤ (l.length : Int) - 1) = b3
   generalize decide ((i : Int) ∈ x.f1) = b4
   cases b1 <;> cases b2 <;> cases b3 <;> cases b4 <;> simp
/-! ### What the statements do with words -/
abbrev WorL := S38
theorem rd_worL (l : List WorL) (i : Nat) : rd_T38 l (i : Int) = l.getD i z38 := by simp [rd_T38]
def convW (x : WorL) : Wor := ⟨x.f0, x.f1, x.f2⟩
theorem szWord_tells (x : WorL) (a : Int) (h0 : x.f0.size ≤ 9223372036854775807) (h1 : x.f1.length ≤ 9223372036854775807) (ha : 0 ≤ a ∧ a ≤ 1048576) : ∃ t, laws_szWord.f x.f0 x.f1 x.f2 a = some t ∧ (t < 0 ∨ (0 ≤ t ∧ t ≤ a ∧ x.f1.length ≤ 1048576)) := by
 unfold laws_szWord.f laws_szIntS.f
 rw [wrap_in (x := a - (x.f0.size : Int)) (by omega) (by omega)]
 by_cases c : a - (x.f0.size : Int) < 0
 ·rw [if_pos c]; exact ⟨_, rfl, .inl (by omega)⟩
 rw [if_neg c, wrap_in (x := a - (x.f0.size : Int) - (x.f1.length : Int)) (by omega) (by omega)]
 by_cases c2 : a - (x.f0.size : Int) - (x.f1.length : Int) < 0
 ·rw [if_pos c2, Option.bind_some, if_pos (by omega)]; exact ⟨_, rfl, .inl (by omega)⟩
 ·rw [if_neg c2, Option.bind_some, if_neg c2]; exact ⟨_, rfl, .inr ⟨by omega, by omega, by omega⟩⟩
theorem szWords_tells (l : List WorL) (hl : l.length ≤ 9223372036854775807) (hw : ∀ x ∈ l, Wf38 x) : ∃ t, laws_szWordS.F l 1048576 = some t ∧ (t < 0 ∨ (l.length ≤ 1048576 ∧ ∀ x ∈ l, x.f1.length ≤ 1048576)) := by
 rw [laws_szWordS.F_eq, wrap_in (by omega) (by omega)]
 by_cases h0 : 1048576 - (l.length : Int) < 0
 ·rw [if_pos h0]; exact ⟨-1, rfl, .inl (by omega)⟩
 rw [if_neg h0]
 have := each (L := fun i => fun b => laws_szWordS.L0 l b i) l z38 (fun _ t f => (∀ x ∈ t, x ∈ l) → ∀ b : Int, 0 ≤ b → b ≤ 1048576 → ∃ r, f b = some r ∧ (r < 0 ∨ ∀ x ∈ t, x.f1.length ≤ 1048576)) ?_ ?_ (fun _ h => h) (1048576 - l.length) (by omega) (by omega)
 ·obtain ⟨r, h1, h2⟩ := this
  refine ⟨r, h1, ?_⟩
  rcases h2 with h2 | h2
  ·exact .inl h2
  ·exact .inr ⟨by omega, h2⟩
 ·intro _ b hb0 hb1
  refine ⟨b, ?_, .inr (by simp)⟩
  show laws_szWordS.L0 l b _ = _
  rw [laws_szWordS.L0_eq, if_neg (by omega)]
 ·intro i x t hi hx _ _ ih hm b hb0 hb1
  have hwx := hw x (hm x (by simp))
  obtain ⟨r, h1, h2⟩ := szWord_tells x b hwx.1 hwx.2.1.1 ⟨hb0, hb1⟩
  show ∃ r, laws_szWordS.L0 l b _ = some r ∧ _
  rw [laws_szWordS.L0_eq, if_pos (by omega), if_pos (by omega), rd_worL, hx, h1, Option.bind_some, wrap_in (x := (i : Int) + 1) (by omega) (by omega)]
  by_cases c : r < 0
  ·rw [if_pos c]; exact ⟨-1, rfl, .inl (by omega)⟩
  rw [if_neg c]
  rcases h2 with h2 | ⟨h2, h3, h4⟩
  ·exact absurd h2 c
  obtain ⟨q, k1, k2⟩ := ih (fun y hy => hm y (by simp [hy])) r h2 (by omega)
  refine ⟨q, k1, ?_⟩
  rcases k2 with k2 | k2
  ·exact .inl k2
  ·exact .inr (fun y hy => by
    rcases List.mem_cons.1 hy with rfl | hy
    ·exact h4
    ·exact k2 y hy)
theorem take_setW {α : Type} (l : List α) (i : Nat) (v : α) (h : i < l.length) : (l.set i v).take (i + 1) = l.take i ++ [v] := by
 rw [List.take_succ_eq_append_getElem (by simpa using h), List.take_set_of_le (Nat.le_refl _)]
 simp
theorem toInts_some (l : List Int) (hl : l.length ≤ 1048576) : laws_toIntS.F l = some l := by
 rw [laws_toIntS.F_eq, if_pos (by omega), if_pos (by omega)]
 have := each (L := fun i => fun y => laws_toIntS.L0 l y i) l 0 (fun i t f => ∀ y : List Int, y.length = l.length → f y = some (y.take i ++ t)) ?_ ?_ (List.replicate ((l.length : Int)).toNat 0) (by simp)
 ·have h2 : laws_toIntS.L0 l (List.replicate ((l.length : Int)).toNat 0) 0 = some ((List.replicate ((l.length : Int)).toNat (0 : Int)).take 0 ++ l) := this
  rw [h2]; simp
 ·intro y hy
  show laws_toIntS.L0 l y _ = _
  rw [laws_toIntS.L0_eq, if_neg (by omega)]
  simp [← hy]
 ·intro i x t hi hx hd _ ih y hy
  show laws_toIntS.L0 l y _ = _
  rw [laws_toIntS.L0_eq, if_pos (by omega), if_pos (by omega), if_pos (by omega), rdI, hx, wrap_in (x := (i : Int) + 1) (by omega) (by omega), Int.toNat_natCast]
  refine (ih _ (by simpa using hy)).trans ?_
  rw [take_setW _ _ _ (by omega)]
  simp
theorem toWords_some (l : List WorL) (hl : l.length ≤ 1048576) (hn : ∀ x ∈ l, x.f1.length ≤ 1048576) : laws_toWordS.F l = some (l.map convW) := by
 rw [laws_toWordS.F_eq, if_pos (by omega), if_pos (by omega)]
 have := each (L := fun i => fun y => laws_toWordS.L0 l y i) l z38 (fun i t f => (∀ x ∈ t, x ∈ l) → ∀ y : List Wor, y.length = l.length → f y = some (y.take i ++ t.map convW)) ?_ ?_ (fun _ h => h) (List.replicate ((l.length : Int)).toNat z43) (by simp)
 ·have h2 : laws_toWordS.L0 l (List.replicate ((l.length : Int)).toNat z43) 0 = some ((List.replicate ((l.length : Int)).toNat z43).take 0 ++ l.map convW) := this
  rw [h2]; simp
 ·intro _ y hy
  show laws_toWordS.L0 l y _ = _
  rw [laws_toWordS.L0_eq, if_neg (by omega)]
  simp [← hy]
 ·intro i x t hi hx hd _ ih hm y hy
  show laws_toWordS.L0 l y _ = _
  rw [laws_toWordS.L0_eq, if_pos (by omega), if_pos (by omega), rd_worL, hx, laws_toWord.F_eq, toInts_some _ (hn x (hm x (by simp))), Option.bind_some, Option.bind_some, if_pos (by omega), wrap_in (x := (i : Int) + 1) (by omega) (by omega), Int.toNat_natCast]
  refine (ih (fun z hz => hm z (by simp [hz])) _ (by simpa using hy)).trans ?_
  rw [take_setW _ _ _ (by omega)]
  simp [convW]
theorem eqInts_refl (l : List Int) (hl : l.length ≤ 9223372036854775807) : laws_eqIntS.F l l = some true := by
 rw [laws_eqIntS.F_eq, if_pos rfl]
 refine each (L := fun i => laws_eqIntS.L0 l l i) l 0 (fun _ _ o => o = some true) ?_ ?_
 ·show laws_eqIntS.L0 l l _ = _
  rw [laws_eqIntS.L0_eq, if_neg (by omega)]
 ·intro i x t hi hx _ _ ih
  show laws_eqIntS.L0 l l _ = _
  rw [laws_eqIntS.L0_eq, if_pos (by omega), if_pos (by omega), if_pos (by omega), if_pos rfl, wrap_in (x := (i : Int) + 1) (by omega) (by omega)]
  exact ih
theorem eqWords_refl (l : List Wor) (hl : l.length ≤ 1048576) (hn : ∀ x ∈ l, x.f1.length ≤ 1048576) : laws_eqWordS.F l l = some true := by
 rw [laws_eqWordS.F_eq, if_pos rfl]
 refine each (L := fun i => laws_eqWordS.L0 l l i) l z43 (fun _ t o => (∀ x ∈ t, x ∈ l) → o = some true) ?_ ?_ (fun _ h => h)
 ·intro _
  show laws_eqWordS.L0 l l _ = _
  rw [laws_eqWordS.L0_eq, if_neg (by omega)]
 ·intro i x t hi hx _ _ ih hm
  show laws_eqWordS.L0 l l _ = _
  rw [laws_eqWordS.L0_eq, if_pos (by omega), if_pos (by omega), if_pos (by omega), rd_wor, hx, laws_eqWord.F_eq, if_pos rfl, eqInts_refl _ (by have := hn x (hm x (by simp)); omega), Option.bind_some, if_pos rfl, if_pos rfl, Option.bind_some, if_pos rfl, wrap_in (x := (i : Int) + 1) (by omega) (by omega)]
  exact ih (fun z hz => hm z (by simp [hz]))
theorem sized_convW {l : List WorL} (hl : l.length ≤ 1048576) (hn : ∀ x ∈ l, x.f1.length ≤ 1048576) (hw : ∀ x ∈ l, Wf38 x) : SizedW (l.map convW) :=
 ⟨by simpa using hl, fun x hx => by
  obtain ⟨y, hy, rfl⟩ := List.mem_map.1 hx
  exact ⟨(hw y hy).1, hn y hy⟩⟩


theorem set_take {α : Type} (l : List α) (i : Nat) (v : α) (h : i < l.length) : (l.set i v).take (i + 1) = l.take i ++ [v] := by
 rw [List.take_succ_eq_append_getElem (by simpa using h), List.take_set_of_le (Nat.le_refl i)]
 simp

/-! ### Slices of numbers -/
theorem rd_int (l : List Int) (i : Nat) : rd l (i : Int) = l.getD i 0 := by simp [rd]
/-- The numbers from a on. -/
def nums (a : Int) : Nat → List Int
 | 0 => []
 | n + 1 => a :: nums (a + 1) n
theorem nums_length (a : Int) : ∀ n, (nums a n).length = n
 | 0 => rfl
 | n + 1 => by rw [nums, List.length_cons, nums_length]
theorem eqInt_refl (l : List Int) (hl : l.length ≤ 9223372036854775807) : laws_eqIntS.F l l = some true := by
 rw [laws_eqIntS.F_eq, if_pos rfl]
 refine each (L := fun i => laws_eqIntS.L0 l l i) l 0 (fun _ _ o => o = some true) ?_ ?_
 ·show laws_eqIntS.L0 l l _ = _
  rw [laws_eqIntS.L0_eq, if_neg (by omega)]
 ·intro i x t hi hx _ _ ih
  show laws_eqIntS.L0 l l _ = _
  rw [laws_eqIntS.L0_eq, if_pos (by omega), if_pos (by omega), if_pos (by omega), if_pos rfl, wrap_in (x := (i : Int) + 1) (by omega) (by omega)]
  exact ih
theorem markInt_some (l : List Int) (a : Int) (hl : l.length ≤ 1048576) (ha : 0 ≤ a ∧ a ≤ 1048576) : laws_markIntS.F l a = some (a + l.length, nums a l.length) := by
 rw [laws_markIntS.F_eq]
 have := each (L := fun i => fun y b => laws_markIntS.L0 y b i) l 0 (fun i t f => ∀ (y : List Int) (b : Int), y.length = l.length → b = a + i → f y b = some (b + t.length, y.take i ++ nums b t.length)) ?_ ?_ l a rfl (by omega)
 ·simpa using this
 ·intro y b hy hb
  show laws_markIntS.L0 y b _ = _
  rw [laws_markIntS.L0_eq, if_neg (by omega)]
  simp [nums, ← hy]
 ·intro i x t hi _ hd _ ih y b hy hb
  have := congrArg List.length hd
  simp only [List.length_drop, List.length_cons] at this
  show laws_markIntS.L0 y b _ = _
  rw [laws_markIntS.L0_eq, if_pos (by omega), if_pos (by omega), wrap_in (x := (i : Int) + 1) (by omega) (by omega), wrap_in (by omega) (by omega), Int.toNat_natCast]
  refine (ih _ _ (by simpa using hy) (by omega)).trans ?_
  rw [set_take _ _ _ (by omega)]
  simp [nums]; omega
theorem heldInt_some (n : Nat) (a : Int) (hn : n ≤ 1048576) (ha : 0 ≤ a ∧ a ≤ 1048576) : laws_heldIntS.F (nums a n) a = some (a + n) := by
 rw [laws_heldIntS.F_eq]
 have hl := nums_length a n
 have := each (L := fun i => fun b => laws_heldIntS.L0 (nums a n) b i) (nums a n) 0 (fun i t f => ∀ (b : Int), b = a + i → t = nums b t.length → f b = some (b + t.length)) ?_ ?_ a (by omega) (by rw [hl])
 ·simpa [hl] using this
 ·intro b hb _
  show laws_heldIntS.L0 _ b _ = _
  rw [laws_heldIntS.L0_eq, if_neg (by omega)]; simp
 ·intro i x t hi hx hd _ ih b hb ht
  rw [List.length_cons, nums] at ht
  injection ht with h1 h2
  show laws_heldIntS.L0 _ b _ = _
  rw [laws_heldIntS.L0_eq, if_pos (by omega), if_pos (by omega), rd_int, hx, if_pos h1, wrap_in (x := (i : Int) + 1) (by omega) (by omega), wrap_in (by omega) (by omega)]
  refine (ih _ (by omega) h2).trans ?_
  rw [List.length_cons]; congr 1; omega


/-! ### Marks -/
theorem strOfNums_one (x : Int) : (strOfNums [x]).size = 1 := by simp [strOfNums, ByteArray.size]
theorem markText_total (a : Int) (ha : 0 ≤ a ∧ a ≤ 9223372036854775807) : ∃ s, laws_markText.F a = some s := by
 have key : ∀ (d : Nat) (a : Int) (s : ByteArray), 0 ≤ a → a < 10 ^ d → a ≤ 9223372036854775807 → s.size + d ≤ 1000 → ∃ r, laws_markText.L0 a s = some r := by
  intro d
  induction d with
  | zero =>
   intro a s h0 h1 _ h2
   rw [laws_markText.L0_eq, if_neg (by simp at h1; omega), if_pos (by omega)]
   exact ⟨_, rfl⟩
  | succ d ih =>
   intro a s h0 h1 h3 h2
   rw [laws_markText.L0_eq]
   by_cases h : a > 0
   ·rw [if_pos h, Option.bind_some, strOfNums_one, if_pos (by omega), Int.tdiv_eq_ediv_of_nonneg h0, wrap_in (by omega) (by omega)]
    refine ih _ _ (by omega) ?_ (by omega) (by rw [ByteArray.size_append, strOfNums_one]; omega)
    rw [Int.pow_succ] at h1
    omega
   ·rw [if_neg h, if_pos (by omega)]
    exact ⟨_, rfl⟩
 rw [laws_markText.F_eq]
 split
 ·exact ⟨_, rfl⟩
 ·exact key 19 a _ ha.1 (by have := ha.2; omega) ha.2 (by decide +kernel)

/-! ### Words marked -/
theorem markText_l0 : ∀ (K d : Nat) (a : Int) (s : ByteArray), d < K → 0 ≤ a → a < 10 ^ d → a ≤ 9223372036854775807 → s.size + d ≤ 1000 → ∃ r, laws_markText.l0 K a s = some r := by
 intro K
 induction K with
 | zero => intro d a s h; omega
 | succ K ih =>
  intro d a s hd h0 h1 h3 h2
  simp only [laws_markText.l0]
  by_cases h : a > 0
  ·cases d with
   | zero => simp at h1; omega
   | succ d =>
    rw [if_pos h, Option.bind_some, strOfNums_one, if_pos (by omega), Int.tdiv_eq_ediv_of_nonneg h0, wrap_in (by omega) (by omega)]
    refine ih d _ _ (by omega) (by omega) ?_ (by omega) (by rw [ByteArray.size_append, strOfNums_one]; omega)
    rw [Int.pow_succ] at h1
    omega
  ·rw [if_neg h, if_pos (by omega)]
   exact ⟨_, rfl⟩
theorem markText64 (a : Int) (ha : 0 ≤ a ∧ a ≤ 9223372036854775807) : ∃ s, laws_markText.f 64 a = some s := by
 unfold laws_markText.f
 split
 ·exact ⟨_, rfl⟩
 ·exact markText_l0 64 19 a _ (by omega) ha.1 (by have := ha.2; omega) ha.2 (by decide +kernel)
theorem markRunW : ∀ (d i : Nat) (ys : List Wor) (a : Int), i + d = ys.length → ys.length ≤ 1048576 → (∀ y ∈ ys, y.f1.length ≤ 1048576) → 0 ≤ a → a ≤ 1048578 * (i + 1) → ∃ r, laws_markWordS.run d ys a i = some r ∧ 0 ≤ r.1
 | 0, i, ys, a, _, _, _, h0, _ => ⟨(a, ys), by rw [laws_markWordS.run], h0⟩
 | d + 1, i, ys, a, hd, hn, hy, h0, h1 => by
  obtain ⟨t, ht⟩ := markText64 a (by omega)
  have hi : i < ys.length := by omega
  have hx : (ys.getD i z43).f1.length ≤ 1048576 := by
   rw [List.getD_eq_getElem?_getD, List.getElem?_eq_getElem hi]
   exact hy _ (List.getElem_mem hi)
  rw [laws_markWordS.run, ht, Option.bind_some]
  refine markRunW d (i + 1) _ _ (by rw [List.length_set]; omega) (by rw [List.length_set]; exact hn) (fun z hz => ?_) (by omega) (by omega)
  rcases List.mem_or_eq_of_mem_set hz with hz | rfl
  ·exact hy z hz
  ·show (laws_markWordS.nums (a + 1) _).length ≤ 1048576
   rw [laws_markWordS.nums_length]; exact hx
theorem markWords_tells (l : List Wor) (hl : l.length ≤ 1048576) (hn : ∀ y ∈ l, y.f1.length ≤ 1048576) : ∃ r, laws_markWordS.f l 1 = some r ∧ 0 ≤ r.1 := by
 unfold laws_markWordS.f
 rw [if_pos ⟨hl, hn, by omega, by omega⟩]
 exact markRunW l.length 0 l 1 (by omega) hl hn (by omega) (by omega)

/-! ### What a word needs, and what that needs -/
def nd (l : List Wor) (k : Int) : List Int := (l.getD k.toNat z43).f1
theorem rng_len (D : List Int) (n : Nat) (h : D.Nodup) (hr : ∀ a ∈ D, 0 ≤ a ∧ a < n) : D.length ≤ n := by
 have := List.Nodup.length_le_of_subset (l₂ := (List.range n).map Int.ofNat) h (fun a ha => by
  obtain ⟨h1, h2⟩ := hr a ha
  exact List.mem_map.2 ⟨a.toNat, List.mem_range.2 (by omega), by simp; omega⟩)
 simpa using this
theorem lt_nodup {D : List Int} (h : D.Pairwise (· < ·)) : D.Nodup := h.imp (fun {a b} h => Int.ne_of_lt h)
theorem sorted_ext : ∀ (a b : List Int), a.Pairwise (· < ·) → b.Pairwise (· < ·) → (∀ x, x ∈ a ↔ x ∈ b) → a = b
 | [], [], _, _, _ => rfl
 | [], y :: b, _, _, h => absurd ((h y).2 (by simp)) (by simp)
 | x :: a, [], _, _, h => absurd ((h x).1 (by simp)) (by simp)
 | x :: a, y :: b, ha, hb, h => by
  obtain ⟨ha1, ha2⟩ := List.pairwise_cons.1 ha
  obtain ⟨hb1, hb2⟩ := List.pairwise_cons.1 hb
  have hxy : x = y := by
   rcases List.mem_cons.1 ((h x).1 (by simp)) with h1 | h1
   ·exact h1
   ·rcases List.mem_cons.1 ((h y).2 (by simp)) with h2 | h2
    ·exact h2.symm
    ·have := hb1 x h1; have := ha1 y h2; omega
  subst hxy
  rw [sorted_ext a b ha2 hb2 (fun z => ⟨fun hz => by
   rcases List.mem_cons.1 ((h z).1 (by simp [hz])) with h1 | h1
   ·have := ha1 z hz; omega
   ·exact h1, fun hz => by
   rcases List.mem_cons.1 ((h z).2 (by simp [hz])) with h1 | h1
   ·have := hb1 z hz; omega
   ·exact h1⟩)]
theorem sort_lt (D : List Int) (h : D.Nodup) : (sortInts D).Pairwise (· < ·) ∧ ∀ x, x ∈ sortInts D ↔ x ∈ D := by
 have hp : (sortInts D).Perm D := by unfold sortInts; exact List.mergeSort_perm _ _
 have hs : (sortInts D).Pairwise (fun a b => decide (a ≤ b) = true) := by
  unfold sortInts
  exact List.pairwise_mergeSort (fun a b c h1 h2 => by simp only [decide_eq_true_eq] at *; omega) (fun a b => by simp only [Bool.or_eq_true, decide_eq_true_eq]; omega) D
 have hn : (sortInts D).Nodup := hp.nodup_iff.2 h
 exact ⟨(List.pairwise_and_iff.2 ⟨hs, hn⟩).imp (fun {a b} h => by obtain ⟨h1, h2⟩ := h; simp only [decide_eq_true_eq] at h1; omega), fun x => hp.mem_iff⟩
def Clo (l : List Wor) (C : Int → Prop) : Prop := ∀ k, C k → ∀ m ∈ nd l k, C m
structure Red (l : List Wor) (b D : List Int) : Prop where
 nd : D.Nodup
 rng : ∀ a ∈ D, 0 ≤ a ∧ a < l.length
 least : ∀ C, Clo l C → (∀ k ∈ b, C k) → ∀ a ∈ D, C a
theorem Red.len {l : List Wor} {b D : List Int} (h : Red l b D) : D.length ≤ l.length := rng_len D l.length h.nd h.rng
/-- What each word needs lies within, rising. -/
def NOk (l : List Wor) : Prop := l.length ≤ 16 ∧ ∀ k : Int, 0 ≤ k → k < l.length → (∀ m ∈ nd l k, 0 ≤ m ∧ m < l.length) ∧ (nd l k).Pairwise (· < ·)
theorem NOk.len {l : List Wor} (h : NOk l) {k : Int} (h0 : 0 ≤ k) (h1 : k < l.length) : (nd l k).length ≤ 16 := by
 obtain ⟨h2, h3⟩ := h.2 k h0 h1
 have := rng_len _ l.length (lt_nodup h3) h2
 have := h.1
 omega
theorem goodW_each (l : List Wor) : ∀ (t : List Wor) (i : Nat), goodWFrom l i t = true → l.length ≤ 16 ∧ ∀ x ∈ t, (∀ n ∈ x.f1, 0 ≤ n ∧ n ≤ (l.length : Int) - 1) ∧ x.f1.Pairwise (· < ·)
 | [], _, h => ⟨by simpa [goodWFrom] using h, fun x hx => by cases hx⟩
 | x :: t, i, h => by
  simp only [goodWFrom, okW, Bool.and_eq_true, decide_eq_true_eq] at h
  obtain ⟨h1, h2⟩ := goodW_each l t (i + 1) h.2
  refine ⟨h1, fun y hy => ?_⟩
  rcases List.mem_cons.1 hy with rfl | hy
  ·exact ⟨h.1.2.2.1, h.1.2.2.2.2.1⟩
  ·exact h2 y hy
theorem nok_of {l : List Wor} (h : goodW l = true) : NOk l := by
 obtain ⟨h1, h2⟩ := goodW_each l l 0 h
 refine ⟨h1, fun k h0 hk => ?_⟩
 have hi : k.toNat < l.length := by omega
 have hx : l.getD k.toNat z43 ∈ l := by
  rw [List.getD_eq_getElem?_getD, List.getElem?_eq_getElem hi, Option.getD_some]; exact List.getElem_mem hi
 obtain ⟨h3, h4⟩ := h2 _ hx
 exact ⟨fun m hm => by have := h3 m hm; omega, h4⟩
theorem put_sorted (x : List Int) (a : Int) (hx : x.length ≤ 1048576) (ha : a ∉ x) (hs : x.Pairwise (· < ·)) : ∃ r, spec_l1Put.F x a = some r ∧ r.Pairwise (· < ·) ∧ ∀ y, y ∈ r ↔ y = a ∨ y ∈ x := by
 rw [spec_l1Put.F_eq]
 have fin : ∀ i, i ≤ x.length → (∀ y ∈ x.take i, y < a) → (∀ y ∈ x.drop i, a < y) → (x.take i ++ [a] ++ x.drop i).Pairwise (· < ·) ∧ ∀ y, y ∈ x.take i ++ [a] ++ x.drop i ↔ y = a ∨ y ∈ x := by
  intro i hi h1 h2
  have h3 := hs
  rw [← List.take_append_drop i x, List.pairwise_append] at h3
  refine ⟨?_, fun y => ?_⟩
  ·rw [List.append_assoc, List.pairwise_append]
   refine ⟨h3.1, ?_, fun y hy z hz => ?_⟩
   ·rw [List.singleton_append, List.pairwise_cons]
    exact ⟨h2, h3.2.1⟩
   ·rw [List.singleton_append] at hz
    rcases List.mem_cons.1 hz with rfl | hz
    ·exact h1 y hy
    ·exact h3.2.2 y hy z hz
  ·have : y ∈ x ↔ y ∈ x.take i ∨ y ∈ x.drop i := by
    conv => lhs; rw [← List.take_append_drop i x]
    exact List.mem_append
   rw [this]
   simp only [List.mem_append, List.mem_singleton]
   constructor
   ·rintro ((h | h) | h)
    ·exact .inr (.inl h)
    ·exact .inl h
    ·exact .inr (.inr h)
   ·rintro (h | h | h)
    ·exact .inl (.inr h)
    ·exact .inl (.inl h)
    ·exact .inr h
 refine each (L := fun i => spec_l1Put.L0 x a i) x 0 (fun i t o => (∀ y ∈ x.take i, y < a) → ∃ r, o = some r ∧ r.Pairwise (· < ·) ∧ ∀ y, y ∈ r ↔ y = a ∨ y ∈ x) ?_ ?_ (by simp)
 ·intro h
  show ∃ r, spec_l1Put.L0 x a _ = some r ∧ _
  refine ⟨x.take x.length ++ [a] ++ x.drop x.length, ?_, fin _ (Nat.le_refl _) h (by simp)⟩
  rw [spec_l1Put.L0_eq, if_neg (by omega)]
  simp only [Option.bind_some, List.nil_append, List.length_nil, Int.toNat_natCast]
  rw [if_pos (by omega), if_pos (by omega), if_pos (by simp; omega), if_pos (by simp; omega), if_pos (by simp; omega)]
 ·intro i y t hi hy hd _ ih hm
  show ∃ r, spec_l1Put.L0 x a _ = some r ∧ _
  rw [spec_l1Put.L0_eq, if_pos (by omega), if_pos (by omega), rdI, hy, wrap_in (x := (i : Int) + 1) (by omega) (by omega)]
  have hyx : y ∈ x := mem_drop hd
  have hxi : x[i]? = some y := by have := congrArg List.head? hd; simpa [List.head?_drop] using this
  by_cases c : y < a
  ·rw [if_pos c]
   refine ih (fun z hz => ?_)
   rw [List.take_add_one, hxi] at hz
   rcases List.mem_append.1 hz with hz | hz
   ·exact hm z hz
   ·simp at hz; omega
  ·rw [if_neg c, if_neg (show ¬ y = a from fun h => ha (h ▸ hyx))]
   have hya : a < y := by have : y ≠ a := fun h => ha (h ▸ hyx); omega
   refine ⟨x.take i ++ [a] ++ x.drop i, ?_, fin i (by omega) hm ?_⟩
   ·simp only [Option.bind_some, List.nil_append, List.length_nil, Int.toNat_natCast]
    rw [if_pos (by omega), if_pos (by simp; omega), if_pos (by simp; omega), if_pos (by simp; omega)]
   ·intro z hz
    have h3 := hs
    rw [← List.take_append_drop i x, List.pairwise_append, hd] at h3
    rw [hd] at hz
    rcases List.mem_cons.1 hz with rfl | hz
    ·exact hya
    ·have := (List.pairwise_cons.1 h3.2.1).1 z hz
     omega
theorem leNeeded_from (l : List Wor) (hN : NOk l) (b : List Int) : ∀ (m : Nat) (D q : List Int), m ≤ 100000 → Red l b D → D.Pairwise (· < ·) → (∀ a ∈ q, 0 ≤ a ∧ a < l.length) → (∀ C, Clo l C → (∀ k ∈ b, C k) → ∀ a ∈ q, C a) → (∀ a ∈ b, a ∈ D ∨ a ∈ q) → (∀ k ∈ D, ∀ m ∈ nd l k, m ∈ D ∨ m ∈ q) → 17 * (16 - D.length) + q.length = m →
 ∃ E, spec_leNeeded.L0 l D q = some E ∧ Red l b E ∧ E.Pairwise (· < ·) ∧ (∀ a ∈ b, a ∈ E) ∧ Clo l (· ∈ E) := by
 intro m
 induction m using Nat.strongRecOn with
 | _ m ih =>
  intro D q hm0 hD hs hq hql hb hcl hm
  have hDl := hD.len
  have h16 := hN.1
  rw [spec_leNeeded.L0_eq]
  cases q with
  | nil =>
   rw [if_neg (by simp)]
   exact ⟨D, rfl, hD, hs, fun a ha => by simpa using hb a ha, fun k hk m hm => by simpa using hcl k hk m hm⟩
  | cons k q =>
   obtain ⟨k0, k1⟩ := hq k (by simp)
   have hrd : rd (k :: q) 0 = k := rfl
   have hT : (rd_T43 l k).f1 = nd l k := rfl
   rw [List.length_cons] at hm
   rw [if_pos (by simp), if_pos (by simp), if_pos (by rw [List.length_cons]; omega), Option.bind_some, hrd, has_some _ _ (by omega), Option.bind_some, show (k :: q).drop (1 : Int).toNat = q from rfl]
   by_cases c : k ∈ D
   ·rw [if_pos (by simpa using c)]
    refine ih (m - 1) (by omega) D q (by omega) hD hs (fun a ha => hq a (by simp [ha])) (fun C h1 h2 a ha => hql C h1 h2 a (by simp [ha])) (fun a ha => ?_) (fun j hj n hn => ?_) (by omega)
    ·rcases hb a ha with h | h
     ·exact .inl h
     ·rcases List.mem_cons.1 h with rfl | h
      ·exact .inl c
      ·exact .inr h
    ·rcases hcl j hj n hn with h | h
     ·exact .inl h
     ·rcases List.mem_cons.1 h with rfl | h
      ·exact .inl c
      ·exact .inr h
   ·rw [if_neg (by simpa using c)]
    obtain ⟨r, r1, r2, r3⟩ := put_sorted D k (by omega) c hs
    obtain ⟨n1, n2⟩ := hN.2 k k0 k1
    have n3 := hN.len k0 k1
    have hR : Red l b r := ⟨lt_nodup r2, fun a ha => by
     rcases (r3 a).1 ha with rfl | h
     ·exact ⟨k0, k1⟩
     ·exact hD.rng a h, fun C h1 h2 a ha => by
     rcases (r3 a).1 ha with rfl | h
     ·exact hql C h1 h2 a (by simp)
     ·exact hD.least C h1 h2 a h⟩
    have hp : r.Perm (k :: D) := (List.perm_ext_iff_of_nodup (lt_nodup r2) (List.nodup_cons.2 ⟨c, hD.nd⟩)).2 (fun a => by rw [r3 a, List.mem_cons])
    have hrl := hp.length_eq
    rw [List.length_cons] at hrl
    have hRl := hR.len
    rw [r1, Option.bind_some, if_pos k0, if_pos k1, hT, if_pos (by omega)]
    refine ih (17 * (16 - r.length) + (q ++ nd l k).length) (by rw [List.length_append]; omega) r (q ++ nd l k) (by rw [List.length_append]; omega) hR r2 (fun a ha => ?_) (fun C h1 h2 a ha => ?_) (fun a ha => ?_) (fun j hj n hn => ?_) rfl
    ·rcases List.mem_append.1 ha with h | h
     ·exact hq a (by simp [h])
     ·exact n1 a h
    ·rcases List.mem_append.1 ha with h | h
     ·exact hql C h1 h2 a (by simp [h])
     ·exact h1 k (hql C h1 h2 k (by simp)) a h
    ·rcases hb a ha with h | h
     ·exact .inl ((r3 a).2 (.inr h))
     ·rcases List.mem_cons.1 h with rfl | h
      ·exact .inl ((r3 _).2 (.inl rfl))
      ·exact .inr (List.mem_append.2 (.inl h))
    ·rcases (r3 j).1 hj with rfl | h
     ·exact .inr (List.mem_append.2 (.inr hn))
     ·rcases hcl j h n hn with h | h
      ·exact .inl ((r3 n).2 (.inr h))
      ·rcases List.mem_cons.1 h with rfl | h
       ·exact .inl ((r3 _).2 (.inl rfl))
       ·exact .inr (List.mem_append.2 (.inl h))
def addAll (D : List Int) : List Int → List Int
 | [] => D
 | x :: t => addAll (if x ∈ D then D else D ++ [x]) t
theorem addAll_tells (l : List Wor) (b : List Int) : ∀ (t D : List Int), Red l b D → (∀ x ∈ t, 0 ≤ x ∧ x < l.length) → (∀ C, Clo l C → (∀ k ∈ b, C k) → ∀ a ∈ t, C a) → Red l b (addAll D t) ∧ (∃ e, addAll D t = D ++ e) ∧ ∀ a ∈ t, a ∈ addAll D t
 | [], D, h, _, _ => ⟨h, ⟨[], by simp [addAll]⟩, by simp⟩
 | x :: t, D, h, h1, h2 => by
  rw [addAll]
  by_cases c : x ∈ D
  ·rw [if_pos c]
   obtain ⟨k1, ⟨e, k2⟩, k3⟩ := addAll_tells l b t D h (fun y hy => h1 y (by simp [hy])) (fun C c1 c2 a ha => h2 C c1 c2 a (by simp [ha]))
   refine ⟨k1, ⟨e, k2⟩, fun a ha => ?_⟩
   rcases List.mem_cons.1 ha with rfl | ha
   ·rw [k2]; exact List.mem_append.2 (.inl c)
   ·exact k3 a ha
  ·rw [if_neg c]
   have hR : Red l b (D ++ [x]) := by
    refine ⟨?_, fun a ha => ?_, fun C c1 c2 a ha => ?_⟩
    ·rw [List.nodup_append]
     refine ⟨h.nd, by simp, fun a ha y hy => ?_⟩
     rw [List.mem_singleton] at hy
     subst hy
     exact fun he => c (he ▸ ha)
    ·rcases List.mem_append.1 ha with ha | ha
     ·exact h.rng a ha
     ·rw [List.mem_singleton] at ha; subst ha; exact h1 _ (by simp)
    ·rcases List.mem_append.1 ha with ha | ha
     ·exact h.least C c1 c2 a ha
     ·rw [List.mem_singleton] at ha; subst ha; exact h2 C c1 c2 _ (by simp)
   obtain ⟨k1, ⟨e, k2⟩, k3⟩ := addAll_tells l b t (D ++ [x]) hR (fun y hy => h1 y (by simp [hy])) (fun C c1 c2 a ha => h2 C c1 c2 a (by simp [ha]))
   refine ⟨k1, ⟨[x] ++ e, by rw [k2, List.append_assoc]⟩, fun a ha => ?_⟩
   rcases List.mem_cons.1 ha with rfl | ha
   ·rw [k2]; simp
   ·exact k3 a ha
theorem needs_inner (l : List Wor) (k : Int) (ns : List Int) (hns : ns.length ≤ 16) (D : List Int) (hD : D.length ≤ 16) : impl_neededFor.L1 l D k ns ns.length 0 = impl_neededFor.L0 l (addAll D ns) (wrap64 (k + 1)) := by
 refine each (L := fun i => fun D => impl_neededFor.L1 l D k ns ns.length i) ns 0 (fun i t f => ∀ D : List Int, D.length + t.length ≤ 1000 → f D = impl_neededFor.L0 l (addAll D t) (wrap64 (k + 1))) ?_ ?_ D (by omega)
 ·intro D _
  show impl_neededFor.L1 l D k ns _ _ = _
  rw [impl_neededFor.L1_eq, if_neg (by omega), addAll]
 ·intro i x t hi hx hd _ ih D hl
  show impl_neededFor.L1 l D k ns _ _ = _
  rw [List.length_cons] at hl
  rw [impl_neededFor.L1_eq, if_pos (by omega), if_pos (by omega), if_pos (by omega), rdI, hx, contains_some _ _ (by omega), Option.bind_some, wrap_in (x := (i : Int) + 1) (by omega) (by omega), addAll]
  by_cases c : x ∈ D
  ·rw [if_pos (by simpa using c), if_pos c]; exact ih D (by omega)
  ·rw [if_neg (by simpa using c), if_neg c, if_pos (by omega)]; exact ih _ (by simp; omega)
theorem neededFor_from (l : List Wor) (hN : NOk l) (b : List Int) : ∀ (m : Nat) (D : List Int) (k : Nat), Red l b D → (∀ a ∈ b, a ∈ D) → k ≤ D.length → (∀ j, j < k → ∀ n ∈ nd l (D.getD j 0), n ∈ D) → 17 - k = m →
 ∃ E, impl_neededFor.L0 l D k = some (sortInts E) ∧ Red l b E ∧ (∀ a ∈ b, a ∈ E) ∧ Clo l (· ∈ E) := by
 intro m
 induction m using Nat.strongRecOn with
 | _ m ih =>
  intro D k hD hb hk hcl hm
  have hDl := hD.len
  have h16 := hN.1
  rw [impl_neededFor.L0_eq]
  by_cases c : (k : Int) < (D.length : Int)
  ·have hkD : k < D.length := by omega
   have hmem : D.getD k 0 ∈ D := by
    rw [List.getD_eq_getElem?_getD, List.getElem?_eq_getElem hkD, Option.getD_some]; exact List.getElem_mem hkD
   obtain ⟨x0, x1⟩ := hD.rng _ hmem
   rw [if_pos c, if_pos (by omega), rdI]
   generalize hx : D.getD k 0 = x at hmem x0 x1
   have hT : (rd_T43 l x).f1 = nd l x := rfl
   obtain ⟨n1, n2⟩ := hN.2 x x0 x1
   rw [if_pos x0, if_pos x1, hT, needs_inner l k _ (hN.len x0 x1) D (by omega), wrap_in (x := (k : Int) + 1) (by omega) (by omega)]
   obtain ⟨k1, ⟨e, k2⟩, k3⟩ := addAll_tells l b (nd l x) D hD n1 (fun C c1 c2 a ha => c1 x (hD.least C c1 c2 x hmem) a ha)
   have hkl := k1.len
   refine ih (17 - (k + 1)) (by omega) (addAll D (nd l x)) (k + 1) k1 (fun a ha => by rw [k2]; exact List.mem_append.2 (.inl (hb a ha))) (by rw [k2, List.length_append]; omega) (fun j hj n hn => ?_) rfl
   have hjD : j < D.length := by omega
   have e1 : (addAll D (nd l x)).getD j 0 = D.getD j 0 := by
    rw [k2, List.getD_eq_getElem?_getD, List.getD_eq_getElem?_getD, List.getElem?_append_left hjD]
   rw [e1] at hn
   rcases Nat.lt_or_ge j k with h | h
   ·rw [k2]; exact List.mem_append.2 (.inl (hcl j h n hn))
   ·obtain rfl : j = k := by omega
    rw [hx] at hn
    exact k3 n hn
  ·rw [if_neg c]
   unfold slices_Sort_int.f
   rw [if_pos (by omega), Option.bind_some]
   refine ⟨D, rfl, hD, hb, fun k' hk' n hn => ?_⟩
   obtain ⟨j, hj, rfl⟩ := List.mem_iff_getElem.1 hk'
   refine hcl j (by omega) n ?_
   rw [List.getD_eq_getElem?_getD, List.getElem?_eq_getElem hj]
   exact hn
theorem needed_same (l : List Wor) (h : goodW l = true) (i : Nat) (hi : i < l.length) : ∃ E, spec_leNeeded.F l i = some E ∧ impl_neededFor.F l i = some E ∧ E.length ≤ 16 := by
 have hN := nok_of h
 have hT : (rd_T43 l (i : Int)).f1 = nd l i := rfl
 obtain ⟨n1, n2⟩ := hN.2 (i : Int) (by omega) (by omega)
 have n3 := hN.len (k := (i : Int)) (by omega) (by omega)
 have h16 := hN.1
 rw [spec_leNeeded.F_eq, impl_neededFor.F_eq, if_pos (by omega), if_pos (by omega), if_pos (by omega), if_pos (by omega), hT]
 unfold spec_l1Own.f slices_Clone_int.f
 rw [Option.bind_some, if_pos (by simp; omega), Option.bind_some, List.nil_append]
 obtain ⟨E, e1, e2, e3, e4, e5⟩ := leNeeded_from l hN (nd l i) _ [] (nd l i) (by simp; omega) ⟨List.nodup_nil, by simp, by simp⟩ List.Pairwise.nil n1 (fun C _ h2 a ha => h2 a ha) (fun a ha => .inr ha) (by simp) rfl
 obtain ⟨D, d1, d2, d3, d4⟩ := neededFor_from l hN (nd l i) _ (nd l i) 0 ⟨lt_nodup n2, n1, fun C _ h2 a ha => h2 a ha⟩ (fun a ha => ha) (by omega) (fun j hj => by omega) rfl
 obtain ⟨s1, s2⟩ := sort_lt D d2.nd
 have hs : sortInts D = E := sorted_ext _ _ s1 e3 (fun x => (s2 x).trans ⟨fun hx => d2.least _ e5 e4 x hx, fun hx => e2.least _ d4 d3 x hx⟩)
 have := e2.len
 exact ⟨E, e1, by rw [← hs]; exact d1, by omega⟩

theorem neededFor_pair (l : List Wor) (hl : SizedW l) (a : Int) : ∃ p : List Int × Bool, spec_NeededFor.F l a = some p ∧ impl_NeededFor.F l a = some p ∧ p.1.length ≤ 16 := by
 have hl1 := hl.1
 rw [spec_NeededFor.F_eq, impl_NeededFor.F_eq, leGood_some l hl, areWords_some l hl, Option.bind_some, Option.bind_some, wrap_in (x := (l.length : Int) - 1) (by omega) (by omega), l1In_some, within_some, Option.bind_some, Option.bind_some]
 by_cases c : goodW l = true
 ·rw [if_pos c, if_pos c, impl_NeededFor.J0_eq]
  by_cases c2 : 0 ≤ a ∧ a ≤ (l.length : Int) - 1
  ·obtain ⟨i, rfl⟩ : ∃ i : Nat, a = i := ⟨a.toNat, by omega⟩
   rw [decide_eq_true c2, if_pos rfl, if_neg (by simp)]
   obtain ⟨E, e1, e2, e3⟩ := needed_same l c i (by omega)
   simp only [e1, e2, Option.bind_some, has_some _ _ (show E.length ≤ 1048576 by omega), contains_some _ _ (show E.length ≤ 1048576 by omega)]
   by_cases c3 : (i : Int) ∈ E
   ·rw [if_pos (by simpa using c3)]; exact ⟨_, rfl, rfl, by simp⟩
   ·rw [if_neg (by simpa using c3)]; exact ⟨_, rfl, rfl, e3⟩
  ·rw [decide_eq_false c2, if_neg (by simp), if_pos (by simp)]; exact ⟨_, rfl, rfl, by simp⟩
 ·rw [if_neg c, if_neg c, impl_NeededFor.J0_eq, if_pos rfl]; exact ⟨_, rfl, rfl, by simp⟩
theorem FnExactNeededFor : laws_FnExactNeededFor.Pure := by
 intro l a hl _
 obtain ⟨hl1, hw⟩ := hl
 refine lim_rounds (?_ : laws_FnExactNeededFor.F l a = some true)
 rw [laws_FnExactNeededFor.F_eq]
 obtain ⟨t, h1, h2⟩ := szWords_tells l hl1 hw
 rw [h1, Option.bind_some]
 by_cases h3 : t < 0
 ·rw [if_pos h3]
 rw [if_neg h3]
 rcases h2 with h2 | ⟨h2, h4⟩
 ·exact absurd h2 h3
 have hz := sized_convW h2 h4 hw
 obtain ⟨⟨r, b⟩, p1, p2, p3⟩ := neededFor_pair _ hz a
 have p3 : r.length ≤ 16 := p3
 obtain ⟨m, m1, m2⟩ := markWords_tells _ hz.1 (fun x hx => (hz.2 x hx).2)
 have e1 := eqInt_refl r (by omega)
 have e2 := markInt_some r 1 (by omega) (by omega)
 have e3 := heldInt_some r.length 1 (by omega) (by omega)
 have q1 : ¬ m.1 < 0 := by omega
 have q2 : ¬ (1 + (r.length : Int) < 0) := by omega
 simp only [toWords_some l h2 h4, Option.bind_some, p1, p2, e1, e2, e3, m1, q1, q2, if_true, bne_self_eq_false, laws_FnExactNeededFor.J0_eq, laws_FnExactNeededFor.J1_eq, laws_FnExactNeededFor.J2_eq, Bool.false_eq_true, if_false, eqWords_refl _ hz.1 (fun x hx => (hz.2 x hx).2)]

end Go.Proofs.Ytmongpocangocaa.Pure
