/- The pure statement of the law FnTierCounts: for all arguments within their bounds its Lean function answers true. -/
import Derived.Test.YtbfkpgmdbafmhaaPFnTierCountsxD1
namespace Go.Proofs.Ytbfkpgmdbafmhaa.Pure
open Go.RowKit Go.Proofs.Ytbfkpgmdbafmhaa.PFnTierCounts Go.Proofs.YtbfkpgmdbafmhaaW.PrintWords Go.Proofs.YtbfkpgmdbafmhaaW.PrintLast
set_option linter.unusedVariables false
set_option linter.unusedSimpArgs false
/-! ### Numbers, loops, letters -/
theorem wrap_in {x : Int} (h0 : -9223372036854775808 ≤ x) (h1 : x ≤ 9223372036854775807) : wrap64 x = x := by
 unfold wrap64; omega
theorem wf_i64 {n : Int} (h : (Lit.int .i64 n).wf = true) : -9223372036854775808 ≤ n ∧ n ≤ 9223372036854775807 := by
 simpa [Lit.wf, IntKind.min, IntKind.max, IntKind.signed, IntKind.bits] using h
/-- A loop over a list, from its end. L: what the loop tells from place i on. -/
theorem each {α γ : Type} (L : Int → γ) (l : List α) (z : α) (R : Nat → List α → γ → Prop) (nil : R l.length [] (L l.length))
 (cons : ∀ (i : Nat) (x : α) (t : List α), i < l.length → l.getD i z = x → l.drop i = x :: t → l.drop (i + 1) = t → R (i + 1) t (L ((i : Int) + 1)) → R i (x :: t) (L i)) : R 0 l (L 0) := by
 have key : ∀ (t : List α) (i : Nat), l.drop i = t → i ≤ l.length → R i t (L i) := by
  intro t
  induction t with
  | nil =>
   intro i h hi
   have : l.length ≤ i := by simpa [List.drop_eq_nil_iff] using h
   obtain rfl : i = l.length := by omega
   exact nil
  | cons x t ih =>
   intro i h hi
   have hlt : i < l.length := by
    rcases Nat.lt_or_ge i l.length with h' | h'
    ·exact h'
    ·rw [List.drop_eq_nil_of_le h'] at h; cases h
   have h2 := List.drop_eq_getElem_cons hlt
   rw [h] at h2
   injection h2 with h3 h4
   refine cons i x t hlt ?_ h h4.symm ?_
   ·rw [List.getD_eq_getElem?_getD, List.getElem?_eq_getElem hlt]; exact h3.symm
   ·have := ih (i + 1) h4.symm (by omega)
    rwa [show ((i + 1 : Nat) : Int) = (i : Int) + 1 from by omega] at this
 have := key l 0 rfl (Nat.zero_le _)
 rwa [show ((0 : Nat) : Int) = 0 from rfl] at this
theorem bt_data (s : ByteArray) (i : Nat) (h : i < s.size) : bt s (i : Int) = ((s.data.toList.getD i 0).toNat : Int) := by
 obtain ⟨d⟩ := s
 have h' : i < d.size := h
 have : bt ⟨d⟩ (i : Int) = ((d[i]).toNat : Int) := by
  unfold bt
  rw [dif_pos (show ((i : Int)).toNat < (⟨d⟩ : ByteArray).size from by simpa using h)]
  rfl
 rw [this]
 simp [h']
theorem size_data (s : ByteArray) : s.size = s.data.toList.length := by
 obtain ⟨d⟩ := s; simp [ByteArray.size]
theorem toList_data (s : ByteArray) : s.toList = s.data.toList := by
 rw [ByteArray.toList_eq]
theorem ext_data {s t : ByteArray} (h : s.toList = t.toList) : s = t := by
 rw [toList_data, toList_data] at h
 obtain ⟨⟨a⟩⟩ := s
 obtain ⟨⟨b⟩⟩ := t
 simp at h
 rw [h]
theorem toList_iff {s t : ByteArray} : s.toList = t.toList ↔ s = t := ⟨ext_data, fun h => by rw [h]⟩
theorem mem_drop {α : Type} {l t : List α} {x : α} {i : Nat} (h : l.drop i = x :: t) : x ∈ l := List.mem_of_mem_drop (i := i) (by rw [h]; simp)

/-! ### Patterns: '*' (42) any letters, '?' (63) one -/
def anySuffix (f : List UInt8 → Bool) : List UInt8 → Bool
 | [] => f []
 | c :: t => f (c :: t) || anySuffix f t
def oneLetter (a : UInt8) (f : List UInt8 → Bool) : List UInt8 → Bool
 | [] => false
 | c :: t => (a == 63 || a == c) && f t
def lk : List UInt8 → List UInt8 → Bool
 | [] => List.isEmpty
 | a :: p => if a = 42 then anySuffix (lk p) else oneLetter a (lk p)
theorem anySuffix_iff (f : List UInt8 → Bool) : ∀ w, anySuffix f w = true ↔ ∃ s v, w = s ++ v ∧ f v = true
 | [] => by
  constructor
  ·intro h; exact ⟨[], [], rfl, h⟩
  ·rintro ⟨s, v, h1, h2⟩
   have := (List.append_eq_nil_iff.1 h1.symm).2
   subst this; exact h2
 | c :: t => by
  rw [anySuffix, Bool.or_eq_true, anySuffix_iff f t]
  constructor
  ·rintro (h | ⟨s, v, rfl, h⟩)
   ·exact ⟨[], c :: t, rfl, h⟩
   ·exact ⟨c :: s, v, rfl, h⟩
  ·rintro ⟨s, v, h1, h2⟩
   cases s with
   | nil => exact .inl (by rw [List.nil_append] at h1; rw [h1]; exact h2)
   | cons d s =>
    injection h1 with h3 h4
    exact .inr ⟨s, v, h4, h2⟩
theorem lk_append : ∀ (p q w : List UInt8), lk (p ++ q) w = true ↔ ∃ t u, w = t ++ u ∧ lk p t = true ∧ lk q u = true
 | [], q, w => by
  constructor
  ·intro h; exact ⟨[], w, rfl, rfl, h⟩
  ·rintro ⟨t, u, rfl, h1, h2⟩
   have : t = [] := by simpa [lk] using h1
   subst this; exact h2
 | a :: p, q, w => by
  by_cases ha : a = 42
  ·show lk (a :: (p ++ q)) w = true ↔ _
   rw [lk, if_pos ha, anySuffix_iff]
   constructor
   ·rintro ⟨s, v, rfl, h⟩
    obtain ⟨t, u, rfl, h1, h2⟩ := (lk_append p q v).1 h
    refine ⟨s ++ t, u, by simp, ?_, h2⟩
    rw [lk, if_pos ha, anySuffix_iff]
    exact ⟨s, t, rfl, h1⟩
   ·rintro ⟨t, u, rfl, h1, h2⟩
    rw [lk, if_pos ha, anySuffix_iff] at h1
    obtain ⟨s, v, rfl, h3⟩ := h1
    exact ⟨s, v ++ u, by simp, (lk_append p q _).2 ⟨v, u, rfl, h3, h2⟩⟩
  ·show lk (a :: (p ++ q)) w = true ↔ _
   rw [lk, if_neg ha]
   constructor
   ·intro h
    cases w with
    | nil => simp [oneLetter] at h
    | cons c w =>
     rw [oneLetter, Bool.and_eq_true] at h
     obtain ⟨t, u, rfl, h1, h2⟩ := (lk_append p q w).1 h.2
     refine ⟨c :: t, u, rfl, ?_, h2⟩
     rw [lk, if_neg ha, oneLetter, Bool.and_eq_true]
     exact ⟨h.1, h1⟩
   ·rintro ⟨t, u, rfl, h1, h2⟩
    rw [lk, if_neg ha] at h1
    cases t with
    | nil => simp [oneLetter] at h1
    | cons c t =>
     rw [oneLetter, Bool.and_eq_true] at h1
     rw [List.cons_append, oneLetter, Bool.and_eq_true]
     exact ⟨h1.1, (lk_append p q _).2 ⟨t, u, rfl, h1.2, h2⟩⟩
theorem lk_star (u : List UInt8) : lk [42] u = true := by
 rw [lk, if_pos rfl, anySuffix_iff]
 exact ⟨u, [], by simp, rfl⟩
theorem lk_one (a : UInt8) (ha : a ≠ 42) (u : List UInt8) : lk [a] u = true ↔ ∃ c, u = [c] ∧ (a = 63 ∨ a = c) := by
 rw [lk, if_neg ha]
 cases u with
 | nil => simp [oneLetter]
 | cons c u =>
  simp only [oneLetter, Bool.and_eq_true, Bool.or_eq_true, beq_iff_eq, lk, List.isEmpty_iff]
  constructor
  ·rintro ⟨h1, rfl⟩; exact ⟨c, rfl, h1⟩
  ·rintro ⟨d, h1, h2⟩
   injection h1 with h3 h4
   subst h3; exact ⟨h2, h4⟩
/-- A row's letter: what it is after one letter more of the pattern. -/
theorem lk_row0 (P : List UInt8) (c : UInt8) : lk (P ++ [c]) [] = true ↔ (c = 42 ∧ lk P [] = true) := by
 rw [lk_append]
 constructor
 ·rintro ⟨t, u, h, h1, h2⟩
  obtain ⟨rfl, rfl⟩ := List.append_eq_nil_iff.1 h.symm
  by_cases hc : c = 42
  ·exact ⟨hc, h1⟩
  ·obtain ⟨d, h3, _⟩ := (lk_one c hc []).1 h2
   cases h3
 ·rintro ⟨rfl, h⟩
  exact ⟨[], [], rfl, h, lk_star []⟩
theorem lk_rowS (P T : List UInt8) (c d : UInt8) : lk (P ++ [c]) (T ++ [d]) = true ↔ if c = 42 then (lk P (T ++ [d]) = true ∨ lk (P ++ [c]) T = true) else (lk P T = true ∧ (c = 63 ∨ c = d)) := by
 rw [lk_append]
 by_cases hc : c = 42
 ·subst hc
  rw [if_pos rfl]
  constructor
  ·rintro ⟨t, u, h, h1, _⟩
   rcases List.eq_nil_or_concat u with rfl | ⟨v, e, rfl⟩
   ·rw [List.append_nil] at h
    exact .inl (by rw [h]; exact h1)
   ·rw [List.concat_eq_append, ← List.append_assoc] at h
    obtain ⟨h3, _⟩ := List.append_inj' h rfl
    refine .inr ((lk_append _ _ _).2 ⟨t, v, h3, h1, lk_star v⟩)
  ·rintro (h | h)
   ·exact ⟨T ++ [d], [], by simp, h, lk_star []⟩
   ·obtain ⟨t, u, rfl, h1, _⟩ := (lk_append _ _ _).1 h
    exact ⟨t, u ++ [d], by simp, h1, lk_star _⟩
 ·rw [if_neg hc]
  constructor
  ·rintro ⟨t, u, h, h1, h2⟩
   obtain ⟨e, rfl, h3⟩ := (lk_one c hc u).1 h2
   obtain ⟨h4, h5⟩ := List.append_inj' h rfl
   injection h5 with h6
   subst h4; subst h6
   exact ⟨h1, h3⟩
  ·rintro ⟨h1, h2⟩
   exact ⟨T, [d], rfl, h1, (lk_one c hc [d]).2 ⟨d, rfl, h2⟩⟩
/-- A loop over places, from its end. -/
theorem upto {γ : Type} (L : Int → γ) (n : Nat) (R : Nat → γ → Prop) (fin : R n (L n)) (step : ∀ i : Nat, i < n → R (i + 1) (L ((i : Int) + 1)) → R i (L i)) : R 0 (L 0) := by
 have key : ∀ d i : Nat, i + d = n → R i (L i) := by
  intro d
  induction d with
  | zero =>
   intro i h
   obtain rfl : i = n := by omega
   exact fin
  | succ d ih =>
   intro i h
   refine step i (by omega) ?_
   have := ih (i + 1) (by omega)
   rwa [show ((i + 1 : Nat) : Int) = (i : Int) + 1 from by omega] at this
 exact key n 0 (by omega)


theorem l1In_some (a b c : Int) : spec_l1In.f a b c = some (decide (b ≤ a ∧ a ≤ c)) := by
 unfold spec_l1In.f
 by_cases h : a ≥ b
 ·rw [if_pos h]; congr 1; simp; omega
 ·rw [if_neg h]; congr 1; symm; simp; omega

/-! ### Words of letters; angles -/
theorem within_some (a b c : Int) : impl_within.f a b c = some (decide (b ≤ a ∧ a ≤ c)) := by
 unfold impl_within.f
 by_cases h : b ≤ a
 ·rw [if_pos h]; simp [h]
 ·rw [if_neg h]; simp [h]
/-- All letters between two. -/
def inRange (lo hi : Nat) (l : List UInt8) : Bool := l.all fun c => decide (lo ≤ c.toNat ∧ c.toNat ≤ hi)
/-- One to eight letters between two. -/
def isWord (lo hi : Nat) (s : ByteArray) : Bool := decide (1 ≤ s.size ∧ s.size ≤ 8) && inRange lo hi s.data.toList
theorem dec_size (s : ByteArray) : decide ((1 : Int) ≤ s.size ∧ (s.size : Int) ≤ 8) = decide (1 ≤ s.size ∧ s.size ≤ 8) := by
 by_cases h : 1 ≤ s.size ∧ s.size ≤ 8
 ·rw [decide_eq_true h, decide_eq_true (by omega)]
 ·rw [decide_eq_false h, decide_eq_false (by omega)]


/-- What 'letters' says of a list of letters: they are those from lo to hi. -/
def Letters (lo hi : Nat) (m : ByteArray) : Prop := ∀ n, n < 256 → (decide (Lib.indexByte m.data.toList n.toUInt8 < 0)) = !decide (lo ≤ n ∧ n ≤ hi)
instance (lo hi : Nat) (m : ByteArray) : Decidable (Letters lo hi m) := by unfold Letters; infer_instance
theorem hasOnly_some (lo hi : Nat) (s m : ByteArray) (hs : s.size ≤ 9223372036854775807) (hm : Letters lo hi m) : impl_hasOnly.F s m = some (inRange lo hi s.data.toList) := by
 rw [impl_hasOnly.F_eq]
 refine each (L := fun i => impl_hasOnly.L0 s m s.size i) s.data.toList 0 (fun _ t o => o = some (inRange lo hi t)) ?_ ?_
 ·show impl_hasOnly.L0 s m _ _ = _
  rw [impl_hasOnly.L0_eq, if_neg (by rw [← size_data]; omega)]; rfl
 ·intro i x t hi' hx _ _ ih
  have hi2 : i < s.size := by rw [size_data]; exact hi'
  have hb := hm x.toNat x.toNat_lt
  show impl_hasOnly.L0 s m _ _ = _
  rw [impl_hasOnly.L0_eq, if_pos (by omega), if_pos (by omega), if_pos (by omega), bt_data s i hi2, hx, wrap_in (by omega) (by omega)]
  simp only [strings_IndexByte.f, stringslite_IndexByte.f, Option.bind_some, Int.toNat_natCast]
  by_cases h1 : lo ≤ x.toNat ∧ x.toNat ≤ hi
  ·rw [if_neg (by simp [h1] at hb; simpa using hb), ih]
   simp [inRange, h1]
  ·rw [if_pos (by simpa [h1] using hb)]
   simp [inRange, h1]
theorem isWordOf_some (lo hi : Nat) (s m : ByteArray) (hs : s.size ≤ 9223372036854775807) (hm : Letters lo hi m) : impl_isWordOf.F s m = some (isWord lo hi s) := by
 rw [impl_isWordOf.F_eq, within_some, hasOnly_some lo hi s m hs hm]
 simp only [Option.bind_some, isWord]
 by_cases h : 1 ≤ s.size ∧ s.size ≤ 8
 ·have : (1 : Int) ≤ s.size ∧ (s.size : Int) ≤ 8 := by omega
  simp [h, this]
 ·have : ¬ ((1 : Int) ≤ s.size ∧ (s.size : Int) ≤ 8) := by omega
  simp [h, this]

theorem hasOnlyP_some (p : Nat → Bool) (s m : ByteArray) (hs : s.size ≤ 9223372036854775807) (hm : ∀ n, n < 256 → (decide (Lib.indexByte m.data.toList n.toUInt8 < 0)) = !(p n)) : impl_hasOnly.F s m = some (s.data.toList.all fun c => p c.toNat) := by
 rw [impl_hasOnly.F_eq]
 refine each (L := fun i => impl_hasOnly.L0 s m s.size i) s.data.toList 0 (fun _ t o => o = some (t.all fun c => p c.toNat)) ?_ ?_
 ·show impl_hasOnly.L0 s m _ _ = _
  rw [impl_hasOnly.L0_eq, if_neg (by rw [← size_data]; omega)]; rfl
 ·intro i x t hi' hx _ _ ih
  have hi2 : i < s.size := by rw [size_data]; exact hi'
  have hb := hm x.toNat x.toNat_lt
  show impl_hasOnly.L0 s m _ _ = _
  rw [impl_hasOnly.L0_eq, if_pos (by omega), if_pos (by omega), if_pos (by omega), bt_data s i hi2, hx, wrap_in (by omega) (by omega)]
  simp only [strings_IndexByte.f, stringslite_IndexByte.f, Option.bind_some, Int.toNat_natCast]
  cases h1 : p x.toNat
  ·rw [if_pos (by simpa [h1] using hb)]; simp [h1]
  ·rw [if_neg (by simpa [h1] using hb), ih]; simp [h1]
def patLetter (n : Nat) : Bool := decide (65 ≤ n ∧ n ≤ 90) || n == 63 || n == 42
def isPat (s : ByteArray) : Bool := decide (1 ≤ s.size ∧ s.size ≤ 8) && (s.data.toList.all fun c => patLetter c.toNat)
theorem isPat_some (s : ByteArray) (hs : s.size ≤ 9223372036854775807) : impl_isGlossPattern.F s = some (isPat s) := by
 rw [impl_isGlossPattern.F_eq, impl_isWordOf.F_eq, within_some, hasOnlyP_some patLetter _ _ hs (by decide +kernel), dec_size]
 unfold isPat
 cases decide (1 ≤ s.size ∧ s.size ≤ 8) <;> simp
theorem quPattern_some (s : ByteArray) (hs : s.size ≤ 9223372036854775807) : spec_quPattern.F s = some (isPat s) := by
 rw [spec_quPattern.F_eq]
 have := each (L := fun i => spec_quPattern.L0 s i) s.data.toList 0 (fun _ t o => o = some ((t.all fun c => patLetter c.toNat) && decide (1 ≤ s.size ∧ s.size ≤ 8))) ?_ ?_
 ·rw [this, isPat, Bool.and_comm]
 ·show spec_quPattern.L0 s _ = _
  rw [spec_quPattern.L0_eq, if_neg (by rw [← size_data]; omega), l1In_some]
  simp only [Option.bind_some, List.all_nil, Bool.true_and, dec_size]
 ·intro i x t hi hx _ _ ih
  have hi' : i < s.size := by rw [size_data]; exact hi
  show spec_quPattern.L0 s _ = _
  rw [spec_quPattern.L0_eq, if_pos (by omega), if_pos (by omega), bt_data s i hi', hx, wrap_in (by omega) (by omega), List.all_cons]
  generalize x.toNat = n
  by_cases h3 : n = 63
  ·subst h3
   rw [if_pos (by omega), if_pos (by omega), show patLetter 63 = true from rfl, Bool.true_and]; exact ih
  by_cases h4 : n = 42
  ·subst h4
   rw [if_pos (by omega), if_neg (by omega), if_pos (by omega), show patLetter 42 = true from rfl, Bool.true_and]; exact ih
  by_cases h1 : n < 65
  ·have : patLetter n = false := by simp [patLetter, h3, h4]; omega
   rw [if_pos (by omega), if_neg (by omega), if_neg (by omega), this]; rfl
  by_cases h2 : n > 90
  ·have : patLetter n = false := by simp [patLetter, h3, h4]; omega
   rw [if_neg (by omega), if_pos (by omega), if_neg (by omega), if_neg (by omega), this]; rfl
  ·have : patLetter n = true := by simp [patLetter]; omega
   rw [if_neg (by omega), if_neg (by omega), this, Bool.true_and]; exact ih
theorem tail_data (s : ByteArray) (c : UInt8) (t : List UInt8) (h : s.data.toList = c :: t) : (s.extract 1 s.size).data.toList = t := by
 have hs := size_data s
 rw [h] at hs
 obtain ⟨d⟩ := s
 simp only at h
 simp [ByteArray.extract, ByteArray.copySlice, h] at hs ⊢
 rw [List.take_of_length_le (by omega)] 
theorem quLike_some (p t : ByteArray) (hp : p.size ≤ 1048576) (ht : t.size ≤ 1048576) : spec_quLike.F p t = some (lk p.data.toList t.data.toList) := by
 have key : ∀ (n : Nat) (p t : ByteArray), p.size + t.size ≤ n → p.size ≤ 1048576 → t.size ≤ 1048576 → spec_quLike.F p t = some (lk p.data.toList t.data.toList) := by
  intro n
  induction n with
  | zero =>
   intro p t h _ _
   have h1 : p.data.toList = [] := List.eq_nil_of_length_eq_zero (by rw [← size_data]; omega)
   have h2 : t.data.toList = [] := List.eq_nil_of_length_eq_zero (by rw [← size_data]; omega)
   rw [spec_quLike.F_eq, toList_data, toList_data, h1, h2, if_pos rfl]; rfl
  | succ n ih =>
   intro p t h hp ht
   have sp := size_data p
   have st := size_data t
   rw [spec_quLike.F_eq, toList_data, toList_data]
   cases hpl : p.data.toList with
   | nil => rw [if_pos rfl]; cases t.data.toList <;> rfl
   | cons a P =>
    rw [hpl, List.length_cons] at sp
    have hpt := tail_data p a P hpl
    have spt := size_data (p.extract 1 p.size)
    rw [hpt] at spt
    have b0 : bt p 0 = (a.toNat : Int) := by
     have := bt_data p 0 (by omega)
     rw [hpl] at this; simpa using this
    rw [if_neg (by simp), if_pos (by omega), b0]
    by_cases ha : a = 42
    ·subst ha
     rw [if_pos (show ((UInt8.toNat 42 : Nat) : Int) = 42 from rfl), if_pos (by omega), ih _ _ (by omega) (by omega) ht, hpt, Option.bind_some, lk, if_pos rfl]
     cases htl : t.data.toList with
     | nil =>
      rw [anySuffix]
      cases hb : lk P []
      ·rw [if_neg (by simp), if_pos rfl]
      ·rw [if_pos rfl]
     | cons d T =>
      rw [htl, List.length_cons] at st
      have htt := tail_data t d T htl
      have stt := size_data (t.extract 1 t.size)
      rw [htt] at stt
      rw [anySuffix]
      cases hb : lk P (d :: T)
      ·rw [if_neg (by simp), if_neg (by simp), if_pos (by omega), ih _ _ (by omega) hp (by omega), htt, hpl, Option.bind_some, lk, if_pos rfl, Bool.false_or]
      ·rw [if_pos rfl]; rfl
    ·have ha' : ¬ ((a.toNat : Int) = 42) := fun h => ha (UInt8.toNat_inj.1 (by rw [show (42 : UInt8).toNat = 42 from rfl]; omega))
     rw [if_neg ha', lk, if_neg ha]
     cases htl : t.data.toList with
     | nil => rw [if_pos rfl]; rfl
     | cons d T =>
      rw [htl, List.length_cons] at st
      have htt := tail_data t d T htl
      have stt := size_data (t.extract 1 t.size)
      rw [htt] at stt
      have b1 : bt t 0 = (d.toNat : Int) := by
       have := bt_data t 0 (by omega)
       rw [htl] at this; simpa using this
      have e63 : ((a.toNat : Int) = 63) ↔ a = 63 := ⟨fun h => UInt8.toNat_inj.1 (by rw [show (63 : UInt8).toNat = 63 from rfl]; omega), fun h => by subst h; rfl⟩
      have ed : ((a.toNat : Int) = (d.toNat : Int)) ↔ a = d := ⟨fun h => UInt8.toNat_inj.1 (by omega), fun h => by subst h; rfl⟩
      rw [if_neg (by simp), oneLetter, b1]
      by_cases h6 : a = 63
      ·rw [if_pos (e63.2 h6), if_pos (by omega), if_pos (by omega), ih _ _ (by omega) (by omega) (by omega), hpt, htt]; simp [h6]
      ·rw [if_neg (fun h => h6 (e63.1 h)), if_pos (by omega)]
       by_cases h7 : a = d
       ·rw [if_pos (ed.2 h7), if_pos (by omega), if_pos (by omega), ih _ _ (by omega) (by omega) (by omega), hpt, htt]; simp [h7]
       ·rw [if_neg (fun h => h7 (ed.1 h))]; simp [h6, h7]
 exact key _ p t (Nat.le_refl _) hp ht

/-! ### The table of fits -/
theorem rd_bool (l : List Bool) (i : Nat) : rdOf false l (i : Int) = l.getD i false := by simp [rdOf]
/-- A row is right: at j it tells whether i letters of the pattern fit j letters of the text. -/
def RowOk (p t : List UInt8) (i : Nat) (row : List Bool) (upTo : Nat) : Prop := ∀ j, j < upTo → row.getD j false = lk (p.take i) (t.take j)
theorem getD_set_eq (l : List Bool) (i : Nat) (v : Bool) (h : i < l.length) : (l.set i v).getD i false = v := by
 rw [List.getD_eq_getElem?_getD, List.getElem?_set_self h]; rfl
theorem getD_set_ne (l : List Bool) (i j : Nat) (v : Bool) (h : i ≠ j) : (l.set i v).getD j false = l.getD j false := by
 rw [List.getD_eq_getElem?_getD, List.getElem?_set_ne h, ← List.getD_eq_getElem?_getD]
theorem take_last {α : Type} (l : List α) (i : Nat) (h : i < l.length) : l.take (i + 1) = l.take i ++ [l[i]] := List.take_succ_eq_append_getElem h
theorem rowSet {p t : List UInt8} {i j : Nat} {row : List Bool} {v : Bool} (hr : RowOk p t i row j) (hj : j < row.length) (hv : v = lk (p.take i) (t.take j)) : RowOk p t i (row.set j v) (j + 1) := by
 intro k hk
 by_cases h : k = j
 ·subst h; rw [getD_set_eq _ _ _ hj, hv]
 ·rw [getD_set_ne _ _ _ _ (fun e => h e.symm)]; exact hr k (by omega)
theorem fits_inner (p t : ByteArray) (i : Nat) (hi : i < p.size) (hp : p.size ≤ 1048576) (ht : t.size ≤ 1048576) (x5 : List Bool) (h5 : x5.length = t.size + 1) (r5 : RowOk p.data.toList t.data.toList i x5 (t.size + 1)) (r : Option Bool)
 (next : ∀ x7 : List Bool, x7.length = t.size + 1 → RowOk p.data.toList t.data.toList (i + 1) x7 (t.size + 1) → impl_fits.L0 p t x7 p.size ((i : Int) + 1) = r) :
 impl_fits.L1 p t x5 i (List.replicate x5.length false) p.size i x5.length 0 = r := by
 have sp := size_data p
 have st := size_data t
 have hip : i < p.data.toList.length := by omega
 have bi : bt p (i : Int) = ((p.data.toList[i]).toNat : Int) := by
  rw [bt_data p i hi, List.getD_eq_getElem?_getD, List.getElem?_eq_getElem hip]; rfl
 have tk := take_last p.data.toList i hip
 generalize hc : p.data.toList[i] = c at bi tk
 refine upto (fun j => fun x7 => impl_fits.L1 p t x5 i x7 p.size i x5.length j) x5.length (fun j f => ∀ x7 : List Bool, x7.length = t.size + 1 → RowOk p.data.toList t.data.toList (i + 1) x7 j → f x7 = r) ?_ ?_ _ (by simp [h5]) (fun j hj => absurd hj (by omega))
 ·intro x7 h7 r7
  show impl_fits.L1 p t x5 i x7 _ _ _ _ = _
  rw [impl_fits.L1_eq, if_neg (by omega), wrap_in (by omega) (by omega)]
  exact next x7 h7 (by rw [← h5]; exact r7)
 ·intro j hj ih x7 h7 r7
  have r5j := r5 j (by omega)
  have go : ∀ v : Bool, v = lk (p.data.toList.take (i + 1)) (t.data.toList.take j) → impl_fits.L1 p t x5 i (x7.set j v) p.size i x5.length ((j : Int) + 1) = r := fun v hv => ih _ (by simpa using h7) (rowSet r7 (by omega) hv)
  rw [tk] at go
  have e63 : ((c.toNat : Int) = 63) ↔ c = 63 := ⟨fun h => UInt8.toNat_inj.1 (by rw [show (63 : UInt8).toNat = 63 from rfl]; omega), fun h => by subst h; rfl⟩
  have e42 : ((c.toNat : Int) = 42) ↔ c = 42 := ⟨fun h => UInt8.toNat_inj.1 (by rw [show (42 : UInt8).toNat = 42 from rfl]; omega), fun h => by subst h; rfl⟩
  show impl_fits.L1 p t x5 i x7 _ _ _ _ = _
  rw [impl_fits.L1_eq, if_pos (by omega), if_pos (by omega), if_pos (by omega), bi, wrap_in (x := (j : Int) + 1) (by omega) (by omega), rd_bool, r5j, Int.toNat_natCast]
  rcases Nat.eq_zero_or_pos j with h0 | h0
  ·subst h0
   rw [List.take_zero] at go ⊢
   have g0 := lk_row0 (p.data.toList.take i) c
   by_cases hc42 : c = 42
   ·rw [if_pos (e42.2 hc42), if_pos (by omega), if_pos (by omega)]
    cases hv : lk (p.data.toList.take i) []
    ·rw [if_neg (by simp), if_neg (by omega), if_pos (by omega)]
     refine go false ?_
     rw [Bool.eq_iff_iff, g0, hv]; simp
    ·rw [if_pos rfl, if_pos (by omega)]
     refine go true ?_
     rw [Bool.eq_iff_iff, g0, hv]; simp [hc42]
   ·rw [if_neg (fun h => hc42 (e42.1 h)), if_neg (by omega), if_pos (by omega), if_pos (by omega)]
    refine go false ?_
    rw [Bool.eq_iff_iff, g0]; simp [hc42]
  ·obtain ⟨k, rfl⟩ : ∃ k, j = k + 1 := ⟨j - 1, by omega⟩
   have hkt : k < t.data.toList.length := by omega
   have tt := take_last t.data.toList k hkt
   have bk : bt t (k : Int) = ((t.data.toList[k]).toNat : Int) := by
    rw [bt_data t k (by omega), List.getD_eq_getElem?_getD, List.getElem?_eq_getElem hkt]; rfl
   generalize hd : t.data.toList[k] = d at tt bk
   have g1 := lk_rowS (p.data.toList.take i) (t.data.toList.take k) c d
   rw [← tt] at g1
   have ek : ((k + 1 : Nat) : Int) - 1 = (k : Int) := by omega
   rw [wrap_in (x := ((k + 1 : Nat) : Int) - 1) (by omega) (by omega), ek, rd_bool, rd_bool, r5 k (by omega), r7 k (by omega), tk, bk]
   by_cases hc42 : c = 42
   ·rw [if_pos (e42.2 hc42), if_pos (by omega), if_pos (by omega)]
    rw [if_pos hc42] at g1
    cases hv : lk (p.data.toList.take i) (t.data.toList.take (k + 1))
    ·rw [if_neg (by simp), if_pos (by omega), if_pos (by omega), if_pos (by omega), if_pos (by omega)]
     refine go _ ?_
     rw [Bool.eq_iff_iff, g1, hv]; simp
    ·rw [if_pos rfl, if_pos (by omega)]
     refine go true ?_
     rw [Bool.eq_iff_iff, g1, hv]; simp
   ·rw [if_neg (fun h => hc42 (e42.1 h)), if_pos (by omega), if_pos (by omega), if_pos (by omega)]
    rw [if_neg hc42] at g1
    cases hv : lk (p.data.toList.take i) (t.data.toList.take k)
    ·rw [if_neg (by simp), if_pos (by omega), if_pos (by omega)]
     refine go false ?_
     rw [Bool.eq_iff_iff, g1, hv]; simp
    ·rw [if_pos rfl]
     by_cases h63 : c = 63
     ·rw [if_pos (e63.2 h63), if_pos (by omega), if_pos (by omega)]
      refine go true ?_
      rw [Bool.eq_iff_iff, g1, hv]; simp [h63]
     ·rw [if_neg (fun h => h63 (e63.1 h)), if_pos (by omega), if_pos (by omega), if_pos (by omega)]
      refine go _ ?_
      rw [Bool.eq_iff_iff, g1, hv]
      have ed : ((c.toNat : Int) = (d.toNat : Int)) ↔ c = d := ⟨fun h => UInt8.toNat_inj.1 (by omega), fun h => by subst h; rfl⟩
      simp only [beq_iff_eq, ed, h63, false_or, true_and]
theorem fits_some (p t : ByteArray) (hp : p.size ≤ 1048576) (ht : t.size ≤ 1048576) : impl_fits.F p t = some (lk p.data.toList t.data.toList) := by
 have sp := size_data p
 have st := size_data t
 rw [impl_fits.F_eq, toList_data, toList_data]
 by_cases h0 : p.data.toList = []
 ·rw [if_pos h0, h0]; cases t.data.toList <;> rfl
 rw [if_neg h0, wrap_in (by omega) (by omega), if_pos (by omega), if_pos (by omega), Option.bind_some, List.length_replicate, if_pos (by omega)]
 have key := upto (fun i => fun x5 => impl_fits.L0 p t x5 p.size i) p.size (fun i f => ∀ x5 : List Bool, x5.length = t.size + 1 → RowOk p.data.toList t.data.toList i x5 (t.size + 1) → f x5 = some (lk p.data.toList t.data.toList)) ?_ ?_
 ·refine key _ (by simp) ?_
  intro j hj
  rw [List.take_zero, lk]
  rcases Nat.eq_zero_or_pos j with h | h
  ·subst h
   rw [Int.toNat_zero, getD_set_eq _ _ _ (by simp)]; rfl
  ·rw [Int.toNat_zero, getD_set_ne _ _ _ _ (by omega)]
   have h1 : j < t.data.toList.length + 1 := by omega
   rw [List.getD_eq_getElem?_getD, List.getElem?_replicate, if_pos (by omega), Option.getD_some, eq_comm]
   cases hh : t.data.toList with
   | nil => rw [hh] at h1; simp at h1; omega
   | cons d T => obtain ⟨k, rfl⟩ : ∃ k, j = k + 1 := ⟨j - 1, by omega⟩; rfl
 ·intro x5 h5 r5
  show impl_fits.L0 p t x5 _ _ = _
  have := r5 t.size (by omega)
  rw [impl_fits.L0_eq, if_neg (by omega), if_pos (by omega), if_pos (by omega), rd_bool, this, List.take_of_length_le (by omega), List.take_of_length_le (by omega)]
 ·intro i hi ih x5 h5 r5
  show impl_fits.L0 p t x5 _ _ = _
  rw [impl_fits.L0_eq, if_pos (by omega), if_pos (by omega), if_pos (by omega), Int.toNat_natCast]
  exact fits_inner p t i hi hp ht x5 h5 r5 _ fun x7 h7 r7 => ih x7 h7 r7


/-! ### What is drawn -/
def Bytes (l : List Int) : Prop := l.length ≤ 1048576 ∧ ∀ x ∈ l, 0 ≤ x ∧ x < 256
theorem bytes_of {l : List Int} (h : l.length ≤ 1048576) (hw : ∀ x ∈ l, (Lit.int .u8 x).wf = true) : Bytes l := ⟨h, fun x hx => by
 have := hw x hx
 simp [Lit.wf, IntKind.min, IntKind.max, IntKind.signed, IntKind.bits] at this
 omega⟩
theorem and_byte (z : Int) (h0 : 0 ≤ z) (h1 : z < 18446744073709551616) : 0 ≤ Go.bits .and .u64 z 255 ∧ Go.bits .and .u64 z 255 < 256 := by
 obtain ⟨n, rfl⟩ := Int.eq_ofNat_of_zero_le h0
 have h := bits_and_u64_nat n 255 (by omega) (by omega)
 have e : (((255 : Nat) : Int)) = 255 := rfl
 rw [e] at h
 rw [h]
 have : n &&& 255 ≤ 255 := Nat.and_le_right
 omega
theorem next_tells (l : List Int) (hl : Bytes l) (a s : Int) (ha : 0 ≤ a ∧ a ≤ 2000000000) : ∃ r b t, spec_l1Cur_next.f l a s = some (r, b, t) ∧ (0 ≤ r ∧ r < 256) ∧ 0 ≤ b ∧ b ≤ a + 1 := by
 have hu : ∀ y : Int, 0 ≤ IntKind.u64.wrap y ∧ IntKind.u64.wrap y < 18446744073709551616 := fun y => by
  simp only [IntKind.wrap, IntKind.signed, IntKind.bits]
  simp
  omega
 have tail : ∀ y : Int, 0 ≤ wrap64 (Go.bits .and .u64 ((IntKind.u64.wrap y) / 1099511627776) 255) ∧ wrap64 (Go.bits .and .u64 ((IntKind.u64.wrap y) / 1099511627776) 255) < 256 := fun y => by
  have h1 := hu y
  have h2 := and_byte (IntKind.u64.wrap y / 1099511627776) (by omega) (by omega)
  rw [wrap_in (by omega) (by omega)]
  exact h2
 unfold spec_l1Cur_next.f
 rw [wrap_in (x := a + 1) (by omega) (by omega)]
 by_cases h : a < (l.length : Int)
 ·rw [if_pos h, if_pos ha.1]
  have hr : 0 ≤ rd l a ∧ rd l a < 256 := by
   obtain ⟨n, rfl⟩ := Int.eq_ofNat_of_zero_le ha.1
   have hn : n < l.length := by omega
   have := hl.2 l[n] (List.getElem_mem hn)
   have e : rd l (n : Int) = l[n] := by simp [rd, hn]
   rw [e]
   exact this
  split
  ·refine ⟨_, _, _, rfl, ?_, by omega, by omega⟩
   rw [wrap_in (by omega) (by omega)]
   exact hr
  ·exact ⟨_, _, _, rfl, tail _, by omega, by omega⟩
 ·rw [if_neg h]
  split
  ·exact ⟨_, _, _, rfl, by omega, by omega, by omega⟩
  ·exact ⟨_, _, _, rfl, tail _, by omega, by omega⟩
theorem pick_tells (l : List Int) (hl : Bytes l) (a s n : Int) (ha : 0 ≤ a ∧ a ≤ 1000000000) (hn : n ≤ 1048576) : ∃ r b t, spec_l1Cur_pick.f l a s n = some (r, b, t) ∧ 0 ≤ r ∧ (1 ≤ n → r < n) ∧ 0 ≤ b ∧ b ≤ a + 2 := by
 unfold spec_l1Cur_pick.f
 by_cases h : n ≤ 1
 ·rw [if_pos h]
  exact ⟨_, _, _, rfl, by omega, by omega, by omega, by omega⟩
 rw [if_neg h]
 obtain ⟨r, b, t, h1, h2, h3, h4⟩ := next_tells l hl a s (by omega)
 rw [h1, Option.bind_some]
 dsimp only
 by_cases h5 : n > 200
 ·rw [if_pos h5]
  obtain ⟨r2, b2, t2, k1, k2, k3, k4⟩ := next_tells l hl b t (by omega)
  rw [k1, Option.bind_some]
  dsimp only
  rw [if_neg (by omega), wrap_in (x := r * 256) (by omega) (by omega), wrap_in (x := r * 256 + r2) (by omega) (by omega)]
  refine ⟨_, _, _, rfl, Int.tmod_nonneg _ (by omega), fun _ => Int.tmod_lt_of_pos _ (by omega), by omega, by omega⟩
 ·rw [if_neg h5, if_neg (by omega)]
  refine ⟨_, _, _, rfl, Int.tmod_nonneg _ (by omega), fun _ => Int.tmod_lt_of_pos _ (by omega), by omega, by omega⟩
theorem of_tells (l : List Int) (hl : Bytes l) (a s : Int) (m : List ByteArray) (ha : 0 ≤ a ∧ a ≤ 1000000000) (hm : m ≠ [] ∧ m.length ≤ 1048576) : ∃ r b t, spec_l1Cur_of.f l a s m = some (r, b, t) ∧ r ∈ m ∧ 0 ≤ b ∧ b ≤ a + 2 := by
 have h0 : 0 < m.length := List.length_pos_iff.2 hm.1
 obtain ⟨r, b, t, h1, h2, h3, h4, h5⟩ := pick_tells l hl a s m.length ha (by omega)
 obtain ⟨n, rfl⟩ := Int.eq_ofNat_of_zero_le h2
 have hn : n < m.length := by omega
 unfold spec_l1Cur_of.f
 rw [h1, Option.bind_some]
 dsimp only
 rw [if_pos (by omega), if_pos (by omega)]
 refine ⟨_, _, _, rfl, ?_, h4, h5⟩
 have e : rdOf ByteArray.empty m (n : Int) = m[n] := by simp [rdOf, hn]
 show rdOf ByteArray.empty m (n : Int) ∈ m
 rw [e]
 exact List.getElem_mem hn
theorem among_tells (l : List Int) (hl : Bytes l) (a s : Int) (m : List Int) (ha : 0 ≤ a ∧ a ≤ 1000000000) (hm : m ≠ [] ∧ m.length ≤ 1048576) : ∃ r b t, spec_l1Cur_among.f l a s m = some (r, b, t) ∧ r ∈ m ∧ 0 ≤ b ∧ b ≤ a + 2 := by
 have h0 : 0 < m.length := List.length_pos_iff.2 hm.1
 obtain ⟨r, b, t, h1, h2, h3, h4, h5⟩ := pick_tells l hl a s m.length ha (by omega)
 obtain ⟨n, rfl⟩ := Int.eq_ofNat_of_zero_le h2
 have hn : n < m.length := by omega
 unfold spec_l1Cur_among.f
 rw [h1, Option.bind_some]
 dsimp only
 rw [if_pos (by omega), if_pos (by omega)]
 refine ⟨_, _, _, rfl, ?_, h4, h5⟩
 have e : rd m (n : Int) = m[n] := by simp [rd, hn]
 show rd m (n : Int) ∈ m
 rw [e]
 exact List.getElem_mem hn

theorem one_tells (l : List Int) (hl : Bytes l) (a s n : Int) (ha : 0 ≤ a ∧ a ≤ 1000000000) (hn : n ≤ 1048576) : ∃ r b t, spec_l1Cur_one.f l a s n = some (r, b, t) ∧ 0 ≤ b ∧ b ≤ a + 2 := by
 obtain ⟨r, b, t, h1, h2, h3, h4, h5⟩ := pick_tells l hl a s n ha hn
 unfold spec_l1Cur_one.f
 rw [h1, Option.bind_some]
 exact ⟨_, _, _, rfl, h4, h5⟩


theorem fsWord_some (s : ByteArray) (hs : s.size ≤ 9223372036854775807) : spec_fsWord.F s = some (isWord 65 90 s) := by
 rw [spec_fsWord.F_eq]
 have := each (L := fun i => spec_fsWord.L0 s i) s.data.toList 0 (fun _ t o => o = some (inRange 65 90 t && decide (1 ≤ s.size ∧ s.size ≤ 8))) ?_ ?_
 ·rw [this, isWord, Bool.and_comm]
 ·show spec_fsWord.L0 s _ = _
  rw [spec_fsWord.L0_eq, if_neg (by rw [← size_data]; omega), l1In_some]
  simp only [Option.bind_some, inRange, List.all_nil, Bool.true_and, dec_size]
 ·intro i x t hi hx _ _ ih
  have hi' : i < s.size := by rw [size_data]; exact hi
  show spec_fsWord.L0 s _ = _
  rw [spec_fsWord.L0_eq, if_pos (by omega), if_pos (by omega), bt_data s i hi', hx, wrap_in (by omega) (by omega)]
  by_cases h1 : x.toNat < 65
  ·rw [if_pos (by omega)]; simp [inRange]; omega
  ·rw [if_neg (by omega)]
   by_cases h2 : 90 < x.toNat
   ·rw [if_pos (by omega)]; simp [inRange]; omega
   ·rw [if_neg (by omega), ih]
    have h3 : 65 ≤ x.toNat := by omega
    have h4 : x.toNat ≤ 90 := by omega
    simp [inRange, h3, h4]


/-! ### Notes and tiers -/
abbrev Note := S50
theorem rd_note (l : List Note) (i : Nat) : rd_T50 l (i : Int) = l.getD i z50 := by simp [rd_T50]
def SizedN (l : List Note) : Prop := l.length ≤ 9223372036854775807 ∧ ∀ x ∈ l, x.f2.size ≤ 9223372036854775807
/-- Is it a note? -/
def isNote (x : Note) : Bool := decide (0 ≤ x.f0 ∧ x.f0 ≤ 99999) && (decide (0 ≤ x.f1 ∧ x.f1 ≤ 99999) && (decide (x.f0 < x.f1) && isWord 65 90 x.f2))
theorem isFrame_some (a : Int) : impl_isFrame.f a = some (decide (0 ≤ a ∧ a ≤ 99999)) := by unfold impl_isFrame.f; rw [within_some]; rfl
theorem tiFrame_some (a : Int) : spec_tiFrame.f a = some (decide (0 ≤ a ∧ a ≤ 99999)) := by unfold spec_tiFrame.f; rw [l1In_some]; rfl
theorem isNote_some (x : Note) (h : x.f2.size ≤ 9223372036854775807) : impl_IsNote.F x.f0 x.f1 x.f2 = some (isNote x) := by
 rw [impl_IsNote.F_eq, isFrame_some, isFrame_some, isWordOf_some 65 90 _ _ h (by decide +kernel)]
 unfold isNote
 cases decide (0 ≤ x.f0 ∧ x.f0 ≤ 99999) <;> cases decide (0 ≤ x.f1 ∧ x.f1 ≤ 99999) <;> by_cases c : x.f0 < x.f1 <;> simp [c]
theorem tiNote_some (x : Note) (h : x.f2.size ≤ 9223372036854775807) : spec_tiNote.F x.f0 x.f1 x.f2 = some (isNote x) := by
 rw [spec_tiNote.F_eq, tiFrame_some, tiFrame_some, fsWord_some _ h]
 unfold isNote
 cases decide (0 ≤ x.f0 ∧ x.f0 ≤ 99999) <;> cases decide (0 ≤ x.f1 ∧ x.f1 ≤ 99999) <;> by_cases c : x.f0 < x.f1 <;> simp [c]
def tierFrom (l : List Note) : Nat → List Note → Bool
 | _, [] => decide (l.length ≤ 40)
 | i, x :: t => (isNote x && decide (i = 0 ∨ (l.getD (i - 1) z50).f1 ≤ x.f0)) && tierFrom l (i + 1) t
def isTier (l : List Note) : Bool := tierFrom l 0 l
theorem isTier_some (l : List Note) (hl : SizedN l) : impl_IsTier.F l = some (isTier l) := by
 have hl1 := hl.1
 rw [impl_IsTier.F_eq]
 refine each (L := fun i => impl_IsTier.L0 l l l.length i) l z50 (fun i t o => o = some (tierFrom l i t)) ?_ ?_
 ·show impl_IsTier.L0 l l _ _ = _
  rw [impl_IsTier.L0_eq, if_neg (by omega)]
  simp only [tierFrom, Option.some.injEq, decide_eq_decide]; omega
 ·intro i x t hi hx hd _ ih
  have hs := hl.2 x (mem_drop hd)
  show impl_IsTier.L0 l l _ _ = _
  rw [impl_IsTier.L0_eq, if_pos (by omega), if_pos (by omega), if_pos (by omega), rd_note, hx, wrap_in (x := (i : Int) + 1) (by omega) (by omega), isNote_some _ hs, Option.bind_some, tierFrom]
  cases isNote x
  ·simp
  rw [if_pos rfl]
  by_cases h0 : i = 0
  ·subst h0
   rw [if_neg (by omega)]
   simpa using ih
  ·have h1 : (i : Int) - 1 = ((i - 1 : Nat) : Int) := by omega
   rw [if_pos (by omega), wrap_in (by omega) (by omega), h1, if_pos (by omega), if_pos (by omega), rd_note]
   by_cases h2 : (l.getD (i - 1) z50).f1 ≤ x.f0
   ·rw [if_neg (by omega), decide_eq_true (p := i = 0 ∨ _) (.inr h2)]; simpa using ih
   ·rw [if_pos (by omega), decide_eq_false (p := i = 0 ∨ _) (by omega)]; rfl
theorem tiGood_some (l : List Note) (hl : SizedN l) : spec_tiGood.F l = some (isTier l) := by
 have hl1 := hl.1
 rw [spec_tiGood.F_eq]
 refine each (L := fun i => spec_tiGood.L0 l l l.length i) l z50 (fun i t o => o = some (tierFrom l i t)) ?_ ?_
 ·show spec_tiGood.L0 l l _ _ = _
  rw [spec_tiGood.L0_eq, if_neg (by omega)]
  simp only [tierFrom, Option.some.injEq, decide_eq_decide]; omega
 ·intro i x t hi hx hd _ ih
  have hs := hl.2 x (mem_drop hd)
  show spec_tiGood.L0 l l _ _ = _
  rw [spec_tiGood.L0_eq, if_pos (by omega), if_pos (by omega), if_pos (by omega), rd_note, hx, wrap_in (x := (i : Int) + 1) (by omega) (by omega), tiNote_some _ hs, Option.bind_some, tierFrom]
  cases isNote x
  ·simp
  rw [if_pos rfl]
  by_cases h0 : i = 0
  ·subst h0
   rw [if_neg (by omega)]
   simpa using ih
  ·have h1 : (i : Int) - 1 = ((i - 1 : Nat) : Int) := by omega
   rw [if_pos (by omega), wrap_in (by omega) (by omega), h1, if_pos (by omega), if_pos (by omega), rd_note]
   by_cases h2 : (l.getD (i - 1) z50).f1 ≤ x.f0
   ·rw [if_neg (by omega), decide_eq_true (p := i = 0 ∨ _) (.inr h2)]; simpa using ih
   ·rw [if_pos (by omega), decide_eq_false (p := i = 0 ∨ _) (by omega)]; rfl
theorem tier_facts {l : List Note} (h : isTier l = true) : l.length ≤ 40 ∧ ∀ x ∈ l, (0 ≤ x.f0 ∧ x.f0 < x.f1 ∧ x.f1 ≤ 99999) ∧ x.f2.size ≤ 8 := by
 have key : ∀ (t : List Note) (i : Nat), tierFrom l i t = true → l.length ≤ 40 ∧ ∀ x ∈ t, (0 ≤ x.f0 ∧ x.f0 < x.f1 ∧ x.f1 ≤ 99999) ∧ x.f2.size ≤ 8 := by
  intro t
  induction t with
  | nil => intro i h; exact ⟨by simpa [tierFrom] using h, by simp⟩
  | cons y t ih =>
   intro i h
   simp only [tierFrom, isNote, isWord, Bool.and_eq_true, decide_eq_true_eq] at h
   obtain ⟨h1, h2⟩ := ih _ h.2
   refine ⟨h1, fun x hx => ?_⟩
   rcases List.mem_cons.1 hx with rfl | hx
   ·have := h.1.1; exact ⟨⟨this.1.1, this.2.2.1, this.2.1.2⟩, this.2.2.2.1.2⟩
   ·exact h2 x hx
 exact key l 0 h

/-! ### Drawn tiers -/
def DrawnN (L : List Note) : Prop := L.length ≤ 41 ∧ ∀ x ∈ L, x.f2.size ≤ 9
theorem DrawnN.sized {L : List Note} (h : DrawnN L) : SizedN L := ⟨by have := h.1; omega, fun x hx => by have := h.2 x hx; omega⟩
theorem note_tells (l : List Int) (hl : Bytes l) (a s n : Int) (ha : 0 ≤ a ∧ a ≤ 1000000) : ∃ x y g b t, spec_l1Cur_note.f l a s n = some (x, y, g, b, t) ∧ g.size ≤ 9 ∧ 0 ≤ b ∧ b ≤ a + 10 := by
 unfold spec_l1Cur_note.f
 obtain ⟨r1, b1, t1, h1, _, i1, j1⟩ := among_tells l hl a s [1, 5, 8, 20] (by omega) (by simp)
 simp only [h1, Option.bind_some]
 generalize hq : ([(⟨#[72, 79, 85, 83, 69]⟩ : ByteArray), (⟨#[71, 79]⟩ : ByteArray), (⟨#[73]⟩ : ByteArray), (⟨#[89, 79, 85]⟩ : ByteArray), (⟨#[71, 79]⟩ : ByteArray), (⟨#[71, 73, 86, 69]⟩ : ByteArray), (⟨#[66, 79, 79, 75]⟩ : ByteArray)] : List ByteArray) = q
 have hqq : ∀ x ∈ q, x.size ≤ 9 := by rw [← hq]; simp only [List.mem_cons, List.not_mem_nil, or_false]; rintro x (rfl | rfl | rfl | rfl | rfl | rfl | rfl) <;> decide
 obtain ⟨r2, b2, t2, h2, m2, i2, j2⟩ := of_tells l hl b1 t1 q (by omega) (by rw [← hq]; simp)
 have z2 := hqq _ m2
 simp only [h2, Option.bind_some]
 obtain ⟨r3, b3, t3, h3, _, _, i3, j3⟩ := pick_tells l hl b2 t2 60 (by omega) (by omega)
 simp only [h3, Option.bind_some]
 by_cases c0 : r3 = 0
 ·rw [if_pos c0]
  obtain ⟨r4, b4, t4, h4, _, i4, j4⟩ := among_tells l hl b3 t3 [n, wrap64 (n - 1), 100000] (by omega) (by simp)
  simp only [h4, Option.bind_some]
  exact ⟨_, _, _, _, _, rfl, z2, i4, by omega⟩
 rw [if_neg c0]
 by_cases c1 : r3 = 1
 ·rw [if_pos c1]
  generalize hq' : ([(⟨#[]⟩ : ByteArray), (⟨#[103, 111]⟩ : ByteArray), (⟨#[78, 73, 78, 69, 76, 69, 84, 84, 82]⟩ : ByteArray)] : List ByteArray) = q'
  have hqq' : ∀ x ∈ q', x.size ≤ 9 := by rw [← hq']; simp only [List.mem_cons, List.not_mem_nil, or_false]; rintro x (rfl | rfl | rfl) <;> decide
  obtain ⟨r4, b4, t4, h4, m4, i4, j4⟩ := of_tells l hl b3 t3 q' (by omega) (by rw [← hq']; simp)
  simp only [h4, Option.bind_some]
  exact ⟨_, _, _, _, _, rfl, hqq' _ m4, i4, by omega⟩
 rw [if_neg c1]
 by_cases c2 : r3 = 2
 ·rw [if_pos c2]
  obtain ⟨r4, b4, t4, h4, _, i4, j4⟩ := among_tells l hl b3 t3 [-1, -9223372036854775808] (by omega) (by simp)
  simp only [h4, Option.bind_some]
  exact ⟨_, _, _, _, _, rfl, z2, i4, by omega⟩
 rw [if_neg c2]
 exact ⟨_, _, _, _, _, rfl, z2, i3, by omega⟩
theorem most_tells (a b : Int) : ∃ m, spec_l1Most.f a b = some m := by unfold spec_l1Most.f; split <;> exact ⟨_, rfl⟩
theorem least_tells (a b : Int) : ∃ m, spec_l1Least.f a b = some m := by unfold spec_l1Least.f; split <;> exact ⟨_, rfl⟩
theorem tier_rounds (l : List Int) (hl : Bytes l) (N : Int) (hN : N ≤ 41) : ∀ (d : Nat) (L : List Note) (n a s : Int), L.length + d = 41 → DrawnN L → (0 ≤ a ∧ a ≤ 2000 - 40 * d) → ∃ L' b t, spec_l1Cur_tier.L0 L n N l a s = some (L', b, t) ∧ DrawnN L' ∧ 0 ≤ b ∧ b ≤ 2100 := by
 intro d
 induction d with
 | zero =>
  intro L n a s hd hL ha
  rw [spec_l1Cur_tier.L0_eq, if_neg (by omega)]
  exact ⟨_, _, _, rfl, hL, by omega, by omega⟩
 | succ d ih =>
  intro L n a s hd hL ha
  rw [spec_l1Cur_tier.L0_eq]
  by_cases hlt : (L.length : Int) < N
  case neg =>
   rw [if_neg hlt]
   exact ⟨_, _, _, rfl, hL, by omega, by omega⟩
  rw [if_pos hlt]
  obtain ⟨x, y, g, b1, t1, h1, z1, i1, j1⟩ := note_tells l hl a s n (by omega)
  simp only [h1, Option.bind_some]
  obtain ⟨m1, e1⟩ := most_tells 0 y
  obtain ⟨m2, e2⟩ := least_tells 90000 m1
  have grow : ∀ g' : ByteArray, g'.size ≤ 9 → DrawnN (L ++ [(⟨x, y, g'⟩ : Note)]) := fun g' hg => ⟨by simp; omega, fun z hz => by
   rcases List.mem_append.1 hz with hz | hz
   ·exact hL.2 z hz
   ·obtain rfl := List.mem_singleton.1 hz
    exact hg⟩
  by_cases h0 : (L.length : Int) > 0
  ·rw [if_pos h0]
   obtain ⟨c, b2, t2, h2, i2, j2⟩ := one_tells l hl b1 t1 4 (by omega) (by omega)
   simp only [h2, Option.bind_some]
   rw [spec_l1Cur_tier.J2_eq, wrap_in (x := (L.length : Int) - 1) (by omega) (by omega)]
   obtain ⟨k, b3, t3, h3, _, i3, j3⟩ := among_tells l hl b2 t2 [0, 0, 2, 5] (by omega) (by simp)
   simp only [e1, e2, h3, Option.bind_some]
   cases c
   ·rw [if_neg (by simp), if_pos (by omega)]
    exact ih _ _ _ _ (by simp; omega) (grow g z1) (by omega)
   ·rw [if_pos rfl, if_pos (by omega), if_pos (by omega), if_pos (by omega)]
    have e : (L.length : Int) - 1 = ((L.length - 1 : Nat) : Int) := by omega
    refine ih _ _ _ _ (by simp; omega) (grow _ ?_) (by omega)
    rw [e, rd_note]
    refine hL.2 _ ?_
    rw [List.getD_eq_getElem?_getD, List.getElem?_eq_getElem (show L.length - 1 < L.length by omega)]
    exact List.getElem_mem _
  ·rw [if_neg h0, spec_l1Cur_tier.J2_eq, if_neg (by simp), if_pos (by omega)]
   obtain ⟨k, b3, t3, h3, _, i3, j3⟩ := among_tells l hl b1 t1 [0, 0, 2, 5] (by omega) (by simp)
   simp only [e1, e2, h3, Option.bind_some]
   exact ih _ _ _ _ (by simp; omega) (grow g z1) (by omega)
theorem tier_tells (l : List Int) (hl : Bytes l) : ∃ L b t, spec_l1Cur_tier.F l 0 0 = some (L, b, t) ∧ DrawnN L ∧ 0 ≤ b ∧ b ≤ 2100 := by
 rw [spec_l1Cur_tier.F_eq]
 obtain ⟨r1, b1, t1, h1, p1, q1, i1, j1⟩ := pick_tells l hl 0 0 10 (by omega) (by omega)
 simp only [h1, Option.bind_some]
 obtain ⟨r2, b2, t2, h2, p2, q2, i2, j2⟩ := pick_tells l hl b1 t1 8 (by omega) (by omega)
 have q3 := q2 (by omega)
 simp only [h2, Option.bind_some]
 obtain ⟨c, b3, t3, h3, i3, j3⟩ := one_tells l hl b2 t2 12 (by omega) (by omega)
 simp only [h3, Option.bind_some]
 have e : DrawnN [] := ⟨by simp, by simp⟩
 cases c
 ·rw [if_neg (by simp), spec_l1Cur_tier.J0_eq]
  exact tier_rounds l hl r2 (by omega) 41 [] r1 b3 t3 (by simp) e (by omega)
 ·rw [if_pos rfl]
  obtain ⟨r4, b4, t4, h4, p4, q4, i4, j4⟩ := pick_tells l hl b3 t3 2 (by omega) (by omega)
  have q5 := q4 (by omega)
  simp only [h4, Option.bind_some]
  rw [spec_l1Cur_tier.J0_eq, wrap_in (by omega) (by omega)]
  exact tier_rounds l hl (40 + r4) (by omega) 41 [] r1 b4 t4 (by simp) e (by omega)

theorem pattern_tells (l : List Int) (hl : Bytes l) (a s : Int) (ha : 0 ≤ a ∧ a ≤ 1000000) : ∃ r b t, spec_l1Cur_glossPattern.f l a s = some (r, b, t) ∧ r.size ≤ 9 ∧ 0 ≤ b ∧ b ≤ a + 10 := by
 unfold spec_l1Cur_glossPattern.f
 generalize hm : ([(⟨#[69, 73, 71, 72, 84, 76, 69, 84]⟩ : ByteArray), (⟨#[78, 73, 78, 69, 76, 69, 84, 84, 82]⟩ : ByteArray), (⟨#[]⟩ : ByteArray), (⟨#[103, 111]⟩ : ByteArray), (⟨#[42, 63, 42]⟩ : ByteArray)] : List ByteArray) = m
 have hmm : ∀ x ∈ m, x.size ≤ 9 := by rw [← hm]; simp only [List.mem_cons, List.not_mem_nil, or_false]; rintro x (rfl | rfl | rfl | rfl | rfl) <;> decide
 obtain ⟨r, b, t, h1, h2, h3, h4⟩ := of_tells l hl a s m (by omega) (by rw [← hm]; simp)
 have hr := hmm _ h2
 simp only [h1, Option.bind_some]
 generalize hq : ([(⟨#[42]⟩ : ByteArray), (⟨#[71, 79]⟩ : ByteArray), (⟨#[71, 42]⟩ : ByteArray), (⟨#[63, 79]⟩ : ByteArray), (⟨#[42, 79, 42]⟩ : ByteArray), (⟨#[72, 79, 85, 83, 69]⟩ : ByteArray), (⟨#[73]⟩ : ByteArray), (⟨#[63, 63, 63, 63]⟩ : ByteArray), (⟨#[89, 42, 85]⟩ : ByteArray), (⟨#[66, 63, 79, 75]⟩ : ByteArray), r] : List ByteArray) = q
 have hqq : ∀ x ∈ q, x.size ≤ 9 := by rw [← hq]; simp only [List.mem_cons, List.not_mem_nil, or_false]; rintro x (rfl | rfl | rfl | rfl | rfl | rfl | rfl | rfl | rfl | rfl | rfl) <;> first | exact hr | decide
 obtain ⟨r2, b2, t2, k1, k2, k3, k4⟩ := of_tells l hl b t q (by omega) (by rw [← hq]; simp)
 simp only [k1, Option.bind_some]
 exact ⟨_, _, _, rfl, hqq _ k2, k3, by omega⟩

theorem rd_txt (l : List ByteArray) (i : Nat) : rdOf ByteArray.empty l (i : Int) = l.getD i ByteArray.empty := by simp [rdOf]


/-! ### Texts in their order, each once -/
def Strict (l : List ByteArray) : Prop := l.Pairwise (fun a b => a.toList < b.toList)
theorem lsOf_toList (s : ByteArray) : lsOf s = s.toList := by rw [lsOf, toList_data]
theorem strict_ext {l m : List ByteArray} (hl : Strict l) (hm : Strict m) (h : ∀ x, x ∈ l ↔ x ∈ m) : l = m := by
 have nd : ∀ {l : List ByteArray}, Strict l → l.Nodup := fun hl => List.Pairwise.imp (fun {a b} h e => by subst e; exact List.lt_irrefl _ h) hl
 refine List.Perm.eq_of_pairwise (le := fun a b : ByteArray => a.toList < b.toList) (fun a b _ _ h1 h2 => ?_) hl hm ((List.perm_ext_iff_of_nodup (nd hl) (nd hm)).2 h)
 exact absurd (List.lt_trans h1 h2) (List.lt_irrefl _)
def putText (w : ByteArray) : List ByteArray → List ByteArray
 | [] => [w]
 | y :: t => if y.toList < w.toList then y :: putText w t else if y.toList = w.toList then y :: t else w :: y :: t
theorem putText_mem (w x : ByteArray) : ∀ l : List ByteArray, x ∈ putText w l ↔ x = w ∨ x ∈ l
 | [] => by simp [putText]
 | y :: t => by
  unfold putText
  split
  ·rw [List.mem_cons, putText_mem w x t, List.mem_cons]
   constructor
   ·rintro (h | h | h)
    ·exact .inr (.inl h)
    ·exact .inl h
    ·exact .inr (.inr h)
   ·rintro (h | h | h)
    ·exact .inr (.inl h)
    ·exact .inl h
    ·exact .inr (.inr h)
  ·split
   ·rename_i h
    have : y = w := ext_data h
    subst this
    rw [List.mem_cons]
    constructor
    ·exact fun h => .inr h
    ·rintro (h | h)
     ·exact .inl h
     ·exact h
   ·rw [List.mem_cons]
theorem text_lt {a b : ByteArray} (h1 : ¬ a.toList < b.toList) (h2 : ¬ a.toList = b.toList) : b.toList < a.toList :=
 Classical.byContradiction fun h3 => h2 (List.le_antisymm (List.not_lt.1 h3) (List.not_lt.1 h1))
theorem putText_strict (w : ByteArray) : ∀ {l : List ByteArray}, Strict l → Strict (putText w l)
 | [], _ => by simp [putText, Strict]
 | y :: t, h => by
  have h1 := List.pairwise_cons.1 h
  unfold putText
  split
  ·rename_i hy
   refine List.pairwise_cons.2 ⟨fun b hb => ?_, putText_strict w h1.2⟩
   rcases (putText_mem w b t).1 hb with rfl | hb
   ·exact hy
   ·exact h1.1 b hb
  ·split
   ·exact h
   ·rename_i hy he
    have hwy := text_lt hy he
    refine List.pairwise_cons.2 ⟨fun b hb => ?_, h⟩
    rcases List.mem_cons.1 hb with rfl | hb
    ·exact hwy
    ·exact List.lt_trans hwy (h1.1 b hb)
theorem putText_length (w : ByteArray) : ∀ l : List ByteArray, (putText w l).length ≤ l.length + 1
 | [] => by simp [putText]
 | y :: t => by
  have := putText_length w t
  unfold putText
  split
  ·simp only [List.length_cons]; omega
  ·split <;> simp only [List.length_cons] <;> omega
/-- Runs of a sorted row, each once. -/
theorem compact_strict (S : List (List UInt8)) (h : S.Pairwise (fun a b => a ≤ b)) : (Lib.compact S).Pairwise (fun a b => a < b) := by
 unfold Lib.compact Lib.compactUpTo
 rw [List.pairwise_map, List.pairwise_filter]
 refine List.Pairwise.imp_of_mem (R := fun a b => a < b) (fun {i j} hi hj hij _ kj => ?_) List.pairwise_lt_range
 have hi' : i < S.length := List.mem_range.1 hi
 have hj' : j < S.length := List.mem_range.1 hj
 have kj2 : j = 0 ∨ S.toArray[j]! ≠ S.toArray[j - 1]! := by simpa [Lib.keeps] using kj
 have hne : S.toArray[j]! ≠ S.toArray[j - 1]! := by
  rcases kj2 with h0 | h0
  ·omega
  ·exact h0
 have g : ∀ k, (hk : k < S.length) → S.toArray[k]! = S[k] := fun k hk => by simp [hk]
 rw [g j hj', g (j - 1) (by omega)] at hne
 rw [g i hi', g j hj']
 rw [List.pairwise_iff_getElem] at h
 have h1 : S[j - 1] ≤ S[j] := h (j - 1) j (by omega) hj' (by omega)
 have h2 : S[i] ≤ S[j - 1] := by
  rcases Nat.lt_or_ge i (j - 1) with h3 | h3
  ·exact h i (j - 1) hi' (by omega) h3
  ·have e : i = j - 1 := by omega
   subst e
   exact List.le_refl _
 refine List.lt_of_le_of_lt h2 ?_
 exact Classical.byContradiction fun h3 => hne (List.le_antisymm (List.not_lt.1 h3) h1)
theorem compact_mem {α : Type} [Inhabited α] [DecidableEq α] (S : List α) (x : α) : x ∈ Lib.compact S ↔ x ∈ S := by
 unfold Lib.compact Lib.compactUpTo
 have g : ∀ k, (hk : k < S.length) → S.toArray[k]! = S[k] := fun k hk => by simp [hk]
 constructor
 ·intro h
  obtain ⟨j, hj, rfl⟩ := List.mem_map.1 h
  have hj' : j < S.length := List.mem_range.1 (List.mem_filter.1 hj).1
  rw [g j hj']
  exact List.getElem_mem hj'
 ·intro h
  obtain ⟨i, hi, rfl⟩ := List.getElem_of_mem h
  have key : ∀ i, (hi : i < S.length) → ∃ j, j < S.length ∧ Lib.keeps S.toArray j = true ∧ S.toArray[j]! = S[i] := by
   intro i
   induction i with
   | zero => intro hi; exact ⟨0, hi, by simp [Lib.keeps], g 0 hi⟩
   | succ i ih =>
    intro hi
    by_cases hk : Lib.keeps S.toArray (i + 1) = true
    ·exact ⟨i + 1, hi, hk, g _ hi⟩
    ·obtain ⟨j, h1, h2, h3⟩ := ih (by omega)
     refine ⟨j, h1, h2, ?_⟩
     have : S.toArray[i + 1]! = S.toArray[i]! := by
      apply Classical.byContradiction
      intro h4
      exact hk (by simp [Lib.keeps]; simpa using h4)
     rw [g _ hi, g i (by omega)] at this
     rw [h3, this]
  obtain ⟨j, h1, h2, h3⟩ := key i hi
  exact List.mem_map.2 ⟨j, List.mem_filter.2 ⟨List.mem_range.2 h1, h2⟩, h3⟩
theorem bs_ls (s : ByteArray) : bsOf (lsOf s) = s := by cases s; rfl
def uniq (l : List ByteArray) : List ByteArray := onceTexts (sortTexts l)
theorem bsOf_toList (l : List UInt8) : (bsOf l).toList = l := by rw [toList_data]; simp [bsOf]
theorem uniq_eq (l : List ByteArray) : uniq l = (Lib.compact ((l.map lsOf).mergeSort fun x y => decide (x ≤ y))).map bsOf := by
 unfold uniq onceTexts sortTexts
 rw [List.map_map, show (lsOf ∘ bsOf) = id from funext fun l => by simp [lsOf, bsOf], List.map_id]
theorem uniq_strict (l : List ByteArray) : Strict (uniq l) := by
 rw [uniq_eq, Strict, List.pairwise_map]
 refine List.Pairwise.imp (fun {a b} h => ?_) (compact_strict _ (List.Pairwise.imp (fun {a b} h => of_decide_eq_true h) (List.pairwise_mergeSort (le := fun x y : List UInt8 => decide (x ≤ y)) (fun a b c h1 h2 => ?_) (fun a b => ?_) (l.map lsOf))))
 ·rw [bsOf_toList, bsOf_toList]; exact h
 ·exact decide_eq_true (List.le_trans (of_decide_eq_true h1) (of_decide_eq_true h2))
 ·rcases List.le_total a b with h | h
  ·simp [h]
  ·simp [h]
theorem uniq_mem (l : List ByteArray) (x : ByteArray) : x ∈ uniq l ↔ x ∈ l := by
 rw [uniq_eq]
 constructor
 ·intro h
  obtain ⟨y, hy, rfl⟩ := List.mem_map.1 h
  rw [compact_mem, List.mem_mergeSort] at hy
  obtain ⟨z, hz, rfl⟩ := List.mem_map.1 hy
  rw [bs_ls]
  exact hz
 ·intro h
  refine List.mem_map.2 ⟨lsOf x, ?_, bs_ls x⟩
  rw [compact_mem, List.mem_mergeSort]
  exact List.mem_map.2 ⟨x, h, rfl⟩
theorem uniq_length (l : List ByteArray) : (uniq l).length ≤ l.length :=
 Nat.le_trans (onceTexts_length _) (by rw [sortTexts_length]; exact Nat.le_refl _)
theorem fold_put (l : List ByteArray) : ∀ o : List ByteArray, Strict o → Strict (l.foldl (fun o w => putText w o) o) ∧ ∀ x, x ∈ l.foldl (fun o w => putText w o) o ↔ x ∈ o ∨ x ∈ l := by
 induction l with
 | nil => intro o h; exact ⟨h, fun x => by simp⟩
 | cons w t ih =>
  intro o h
  obtain ⟨h1, h2⟩ := ih _ (putText_strict w h)
  refine ⟨h1, fun x => ?_⟩
  rw [List.foldl_cons, h2, putText_mem, List.mem_cons]
  constructor
  ·rintro ((h | h) | h)
   ·exact .inr (.inl h)
   ·exact .inl h
   ·exact .inr (.inr h)
  ·rintro (h | h | h)
   ·exact .inl (.inr h)
   ·exact .inl (.inl h)
   ·exact .inr h
theorem uniq_fold (l : List ByteArray) : l.foldl (fun o w => putText w o) [] = uniq l := by
 obtain ⟨h1, h2⟩ := fold_put l [] (by simp [Strict])
 exact strict_ext h1 (uniq_strict l) (fun x => by rw [h2, uniq_mem]; simp)
theorem distinct_some (l : List ByteArray) (hl : l.length ≤ 1048576) : impl_distinct_string.f l = some (uniq l) := by
 unfold impl_distinct_string.f slices_Clone_string.f slices_Sort_string.f slices_Compact_string.f
 have h1 := sortTexts_length l
 simp only [Option.bind_some, List.length_nil, List.nil_append]
 rw [if_pos (by omega), Option.bind_some, if_pos (by omega), Option.bind_some, if_pos (by omega)]
 rfl

theorem rdI (l : List Int) (i : Nat) : rd l (i : Int) = l.getD i 0 := by simp [rd]
/-- How many there are of a text. -/
def cnt (g : ByteArray) (l : List ByteArray) : Nat := (l.filter fun y => y.toList == g.toList).length
theorem cnt_le (g : ByteArray) (l : List ByteArray) : cnt g l ≤ l.length := List.length_filter_le _ _
theorem thoseT_some (l : List ByteArray) (g : ByteArray) (hl : l.length ≤ 1048576) : ∃ r, impl_those_string_impl_CountGlosses_1.F l g = some r ∧ r.length = cnt g l := by
 rw [impl_those_string_impl_CountGlosses_1.F_eq]
 refine each (L := fun i => fun o => impl_those_string_impl_CountGlosses_1.L0 o l l.length i g) l ByteArray.empty (fun i t f => ∀ o : List Int, o.length ≤ i → ∃ r, f o = some r ∧ r.length = o.length + cnt g t) ?_ ?_ [] (by simp) |>.imp (fun r h => ⟨h.1, by simpa using h.2⟩)
 ·intro o ho
  show ∃ r, impl_those_string_impl_CountGlosses_1.L0 o l _ _ g = _ ∧ _
  rw [impl_those_string_impl_CountGlosses_1.L0_eq, if_neg (by omega)]
  exact ⟨o, rfl, by simp [cnt]⟩
 ·intro i x t hi hx _ _ ih o ho
  show ∃ r, impl_those_string_impl_CountGlosses_1.L0 o l _ _ g = _ ∧ _
  rw [impl_those_string_impl_CountGlosses_1.L0_eq, if_pos (by omega), if_pos (by omega), if_pos (by omega), rd_txt, hx, impl_CountGlosses_1.f, Option.bind_some, wrap_in (x := (i : Int) + 1) (by omega) (by omega)]
  by_cases c : (x.toList == g.toList) = true
  ·rw [if_pos c, if_pos (by omega)]
   obtain ⟨r, h1, h2⟩ := ih (o ++ [(i : Int)]) (by simp; omega)
   refine ⟨r, h1, ?_⟩
   rw [h2, cnt, cnt, List.filter_cons_of_pos (p := fun y : ByteArray => y.toList == g.toList) c]
   simp; omega
  ·rw [if_neg c]
   obtain ⟨r, h1, h2⟩ := ih o (by omega)
   refine ⟨r, h1, ?_⟩
   rw [h2, cnt, cnt, List.filter_cons_of_neg (p := fun y : ByteArray => y.toList == g.toList) c]
theorem implNames (L : List Note) (hl : L.length ≤ 40) : impl_CountGlosses.L0 [] L L.length 0 = impl_CountGlosses.L1 (L.map (·.f2)) (uniq (L.map (·.f2))) [] (uniq (L.map (·.f2))) ((uniq (L.map (·.f2))).length : Int) 0 := by
 refine each (L := fun i => fun o => impl_CountGlosses.L0 o L L.length i) L z50 (fun i t f => ∀ o : List ByteArray, o.length ≤ i → f o = impl_CountGlosses.L1 (o ++ t.map (·.f2)) (uniq (o ++ t.map (·.f2))) [] (uniq (o ++ t.map (·.f2))) ((uniq (o ++ t.map (·.f2))).length : Int) 0) ?_ ?_ [] (by simp)
 ·intro o ho
  show impl_CountGlosses.L0 o L _ _ = _
  rw [impl_CountGlosses.L0_eq, if_neg (by omega), distinct_some o (by omega), Option.bind_some]
  simp
 ·intro i x t hi hx _ _ ih o ho
  show impl_CountGlosses.L0 o L _ _ = _
  rw [impl_CountGlosses.L0_eq, if_pos (by omega), if_pos (by omega), if_pos (by omega), if_pos (by omega), rd_note, hx, wrap_in (x := (i : Int) + 1) (by omega) (by omega)]
  refine (ih _ (by simp; omega)).trans ?_
  simp
theorem implCounts (names u : List ByteArray) (hn : names.length ≤ 40) (hu : u.length ≤ 40) : impl_CountGlosses.L1 names u [] u u.length 0 = some (u, u.map (fun g => (cnt g names : Int)), true) := by
 refine each (L := fun i => fun o => impl_CountGlosses.L1 names u o u u.length i) u ByteArray.empty (fun i t f => ∀ o : List Int, o.length ≤ i → f o = some (u, o ++ t.map (fun g => (cnt g names : Int)), true)) ?_ ?_ [] (by simp)
 ·intro o ho
  show impl_CountGlosses.L1 names u o u _ _ = _
  rw [impl_CountGlosses.L1_eq, if_neg (by omega)]
  simp
 ·intro i x t hi hx _ _ ih o ho
  obtain ⟨r, h1, h2⟩ := thoseT_some names x (by omega)
  show impl_CountGlosses.L1 names u o u _ _ = _
  rw [impl_CountGlosses.L1_eq, if_pos (by omega), if_pos (by omega), if_pos (by omega), rd_txt, hx, h1, Option.bind_some, if_pos (by omega), wrap_in (x := (i : Int) + 1) (by omega) (by omega), h2]
  refine (ih _ (by simp; omega)).trans ?_
  simp
/-! ### The same, kept in order as it is counted -/
abbrev TC := ByteArray × Int
def putCount (w : ByteArray) : List TC → List TC
 | [] => [(w, 1)]
 | (y, c) :: t => if y.toList < w.toList then (y, c) :: putCount w t else if y.toList = w.toList then (y, c + 1) :: t else (w, 1) :: (y, c) :: t
theorem putCount_map (w : ByteArray) (f f' : ByteArray → Int) : ∀ N : List ByteArray, Strict N → (∀ y ∈ N, y ≠ w → f' y = f y) → (w ∈ N → f' w = f w + 1) → (w ∉ N → f' w = 1) →
 putCount w (N.map fun g => (g, f g)) = (putText w N).map fun g => (g, f' g)
 | [], _, _, _, h3 => by simp [putCount, putText, h3]
 | y :: t, hs, h1, h2, h3 => by
  have hp := List.pairwise_cons.1 hs
  simp only [List.map_cons, putCount, putText]
  by_cases c : y.toList < w.toList
  ·have hne : y ≠ w := fun e => by subst e; exact List.lt_irrefl _ c
   rw [if_pos c, if_pos c, List.map_cons, h1 y (by simp) hne, putCount_map w f f' t hp.2 (fun z hz => h1 z (by simp [hz])) (fun h => h2 (by simp [h])) (fun h => h3 (by simp [h]; exact fun e => hne e.symm))]
  ·rw [if_neg c, if_neg c]
   by_cases c2 : y.toList = w.toList
   ·have e : y = w := ext_data c2
    subst e
    rw [if_pos rfl, if_pos rfl, List.map_cons, h2 (by simp)]
    congr 1
    refine List.map_congr_left fun z hz => ?_
    rw [h1 z (by simp [hz]) (fun e => by subst e; exact List.lt_irrefl _ (hp.1 _ hz))]
   ·have hwy := text_lt c c2
    have hn : w ∉ y :: t := by
     intro h
     rcases List.mem_cons.1 h with e | h
     ·subst e; exact c2 rfl
     ·exact List.lt_irrefl _ (List.lt_trans hwy (hp.1 _ h))
    rw [if_neg c2, if_neg c2, List.map_cons, List.map_cons, h3 hn, h1 y (by simp) (fun e => c2 (by rw [e]))]
    congr 2
    refine List.map_congr_left fun z hz => ?_
    rw [h1 z (by simp [hz]) (fun e => hn (by rw [← e]; simp [hz]))]
theorem cnt_snoc (g w : ByteArray) (l : List ByteArray) : cnt g (l ++ [w]) = cnt g l + if w.toList = g.toList then 1 else 0 := by
 unfold cnt
 rw [List.filter_append, List.length_append]
 by_cases c : w.toList = g.toList
 ·simp [c]
 ·simp [c]
theorem cnt_none {g : ByteArray} {l : List ByteArray} (h : g ∉ l) : cnt g l = 0 := by
 unfold cnt
 rw [List.length_eq_zero_iff, List.filter_eq_nil_iff]
 intro y hy c
 have : y = g := ext_data (by simpa using c)
 subst this
 exact h hy
theorem fold_count (l : List ByteArray) : ∀ pre : List ByteArray, l.foldl (fun o w => putCount w o) ((pre.foldl (fun o w => putText w o) []).map fun g => (g, (cnt g pre : Int))) = ((pre ++ l).foldl (fun o w => putText w o) []).map fun g => (g, (cnt g (pre ++ l) : Int)) := by
 induction l with
 | nil => intro pre; simp
 | cons w t ih =>
  intro pre
  obtain ⟨s1, s2⟩ := fold_put pre [] (by simp [Strict])
  have hm : ∀ x, x ∈ pre.foldl (fun o w => putText w o) [] ↔ x ∈ pre := fun x => by rw [s2]; simp
  rw [List.foldl_cons, putCount_map w _ (fun g => (cnt g (pre ++ [w]) : Int)) _ s1 (fun y _ hy => ?_) (fun hw => ?_) (fun hw => ?_)]
  ·have h := ih (pre ++ [w])
   rw [List.foldl_append, List.foldl_cons, List.foldl_nil] at h
   rw [h]
   simp
  ·simp only [cnt_snoc, if_neg (fun e : w.toList = y.toList => hy (ext_data e.symm)), Nat.add_zero]
  ·simp [cnt_snoc]
  ·rw [hm] at hw
   simp [cnt_snoc, cnt_none hw]
theorem fold_count0 (l : List ByteArray) : l.foldl (fun o w => putCount w o) [] = (uniq l).map fun g => (g, (cnt g l : Int)) := by
 have := fold_count l []
 simpa [uniq_fold] using this
theorem own_some (l : List Int) (hl : l.length ≤ 1048576) : spec_l1Own.f l = some l := by
 unfold spec_l1Own.f
 rw [Option.bind_some, if_pos (by simp; omega)]
 simp
theorem putCount_length (w : ByteArray) : ∀ P : List TC, (putCount w P).length ≤ P.length + 1
 | [] => by simp [putCount]
 | (y, c) :: t => by
  have := putCount_length w t
  unfold putCount
  split
  ·simp only [List.length_cons]; omega
  ·split <;> simp only [List.length_cons] <;> omega
theorem putCount_bound (w : ByteArray) (n : Int) (hn : 0 ≤ n) : ∀ P : List TC, (∀ p ∈ P, 0 ≤ p.2 ∧ p.2 ≤ n) → ∀ p ∈ putCount w P, 0 ≤ p.2 ∧ p.2 ≤ n + 1
 | [], _, p, hp => by
  simp only [putCount, List.mem_singleton] at hp
  subst hp
  simp only; omega
 | (y, c) :: t, h, p, hp => by
  have h0 := h (y, c) (by simp)
  simp only at h0
  have ht := putCount_bound w n hn t (fun q hq => h q (by simp [hq]))
  unfold putCount at hp
  split at hp
  ·rcases List.mem_cons.1 hp with rfl | hp
   ·simp only; omega
   ·exact ht p hp
  ·split at hp
   ·rcases List.mem_cons.1 hp with rfl | hp
    ·simp only; omega
    ·have := h p (by simp [hp]); omega
   ·rcases List.mem_cons.1 hp with rfl | hp
    ·simp only; omega
    ·have := h p hp; omega
theorem specPutC (w : ByteArray) (P : List TC) (L : List Note) (n i a b : Int) (hP : P.length ≤ 40) (hb : ∀ p ∈ P, 0 ≤ p.2 ∧ p.2 ≤ 40) :
 spec_CountGlosses.L1 (P.map (·.1)) (P.map (·.2)) 0 L n i a b w = spec_CountGlosses.L0 ((putCount w P).map (·.1)) ((putCount w P).map (·.2)) L n (wrap64 (i + 1)) := by
 have := each (L := fun k => spec_CountGlosses.L1 (P.map (·.1)) (P.map (·.2)) k L n i a b w) P (ByteArray.empty, (0 : Int)) (fun k t f => k + t.length = P.length → f = spec_CountGlosses.L0 ((P.take k ++ putCount w t).map (·.1)) ((P.take k ++ putCount w t).map (·.2)) L n (wrap64 (i + 1))) ?_ ?_ (by simp)
 ·simpa using this
 ·intro _
  show spec_CountGlosses.L1 (P.map (·.1)) (P.map (·.2)) _ L n i a b w = _
  have e1 : (P.map (·.1)).length = P.length := by simp
  have e2 : (P.map (·.2)).length = P.length := by simp
  have t1 : (P.map (·.1)).take P.length = P.map (·.1) := by rw [← e1, List.take_length]
  have t2 : (P.map (·.2)).take P.length = P.map (·.2) := by rw [← e2, List.take_length]
  have d1 : (P.map (·.1)).drop P.length = [] := by rw [← e1, List.drop_length]
  have d2 : (P.map (·.2)).drop P.length = [] := by rw [← e2, List.drop_length]
  rw [spec_CountGlosses.L1_eq, if_neg (by omega)]
  simp only [Bool.false_eq_true, if_false, Option.bind_some, Int.toNat_natCast, t1, t2, d1, d2, List.nil_append, List.length_nil, List.length_cons, List.append_nil, putCount]
  rw [if_pos (by omega), if_pos (by omega), if_pos (by omega), if_pos (by simp; omega), if_pos (by simp; omega), if_pos (by omega), own_some _ (by omega), Option.bind_some, if_pos (by simp; omega), if_pos (by simp; omega)]
  simp
 ·intro k p t hk hp hd _ ih hlen
  obtain ⟨y, c⟩ := p
  have hpk : P[k] = (y, c) := by
   rw [List.getD_eq_getElem?_getD, List.getElem?_eq_getElem hk, Option.getD_some] at hp
   exact hp
  have hmem : (y, c) ∈ P := by rw [← hpk]; exact List.getElem_mem hk
  have hbc := hb _ hmem
  have hlen' : k + (t.length + 1) = P.length := by simpa using hlen
  simp only at hbc
  have e1 : (P.map (·.1)).length = P.length := by simp
  have e2 : (P.map (·.2)).length = P.length := by simp
  have g1 : (P.map (·.1)).getD k ByteArray.empty = y := by
   rw [List.getD_eq_getElem?_getD, List.getElem?_map, List.getElem?_eq_getElem hk, hpk]; rfl
  have g2 : (P.map (·.2)).getD k 0 = c := by
   rw [List.getD_eq_getElem?_getD, List.getElem?_map, List.getElem?_eq_getElem hk, hpk]; rfl
  have htk : P.take (k + 1) = P.take k ++ [(y, c)] := by rw [List.take_succ_eq_append_getElem hk, hpk]
  have hkl : (P.take k).length = k := by simp; omega
  show spec_CountGlosses.L1 (P.map (·.1)) (P.map (·.2)) _ L n i a b w = _
  rw [spec_CountGlosses.L1_eq, if_pos (by omega), if_pos (by omega), rd_txt, g1, bytesLess_eq, wrap_in (x := (k : Int) + 1) (by omega) (by omega)]
  by_cases c1 : y.toList < w.toList
  ·rw [if_pos (decide_eq_true c1), ih (by simpa [Nat.add_assoc, Nat.add_comm 1] using hlen), htk]
   have hq : putCount w ((y, c) :: t) = (y, c) :: putCount w t := by rw [putCount, if_pos c1]
   rw [hq]
   simp
  ·rw [if_neg (by simpa using c1)]
   by_cases c2 : y.toList = w.toList
   ·have hq : putCount w ((y, c) :: t) = (y, c + 1) :: t := by rw [putCount, if_neg c1, if_pos c2]
    rw [if_pos (by simpa using c2), if_pos (by omega), rdI, g2, wrap_in (x := c + 1) (by omega) (by omega), Int.toNat_natCast, hq]
    have hsplit : P = P.take k ++ (y, c) :: t := by rw [← hd, List.take_append_drop]
    have s1 : P.map (·.1) = (P.take k ++ (y, c + 1) :: t).map (·.1) := by
     conv => lhs; rw [hsplit]
     simp
    have s2 : (P.map (·.2)).set k (c + 1) = (P.take k ++ (y, c + 1) :: t).map (·.2) := by
     conv => lhs; rw [hsplit]
     rw [List.map_append, List.map_cons, List.set_append_right _ _ (by simp; omega)]
     have : k - ((P.take k).map (·.2)).length = 0 := by simp; omega
     rw [this]
     simp
    rw [s1, s2]
   ·have hq : putCount w ((y, c) :: t) = (w, 1) :: (y, c) :: t := by rw [putCount, if_neg c1, if_neg c2]
    have d1 : (P.map (·.1)).drop k = y :: t.map (·.1) := by rw [← List.map_drop, hd]; simp
    have d2 : (P.map (·.2)).drop k = c :: t.map (·.2) := by rw [← List.map_drop, hd]; simp
    have l1 : ((P.map (·.1)).take k).length = k := by simp; omega
    have l2 : ((P.map (·.2)).take k).length = k := by simp; omega
    rw [if_neg (by simpa using c2)]
    simp only [Option.bind_some, Int.toNat_natCast, d1, d2, List.nil_append, List.length_nil, List.length_cons, List.length_append, List.length_map, l1]
    rw [if_pos (by omega), if_pos (by omega), if_pos (by omega), if_pos (by omega), if_pos (by omega), own_some _ (by omega), Option.bind_some, l2, if_pos (by omega), if_pos (by omega), hq]
    simp [List.map_take]
theorem specCounts (L : List Note) (hl : L.length ≤ 40) : spec_CountGlosses.L0 [] [] L L.length 0 = some (((L.map (·.f2)).foldl (fun o w => putCount w o) []).map (·.1), ((L.map (·.f2)).foldl (fun o w => putCount w o) []).map (·.2), true) := by
 refine each (L := fun i => fun (P : List TC) => spec_CountGlosses.L0 (P.map (·.1)) (P.map (·.2)) L L.length i) L z50 (fun i t f => ∀ P : List TC, P.length ≤ i → (∀ p ∈ P, 0 ≤ p.2 ∧ p.2 ≤ (i : Int)) → f P = some (((t.map (·.f2)).foldl (fun o w => putCount w o) P).map (·.1), ((t.map (·.f2)).foldl (fun o w => putCount w o) P).map (·.2), true)) ?_ ?_ [] (by simp) (by simp)
 ·intro P _ _
  show spec_CountGlosses.L0 (P.map (·.1)) (P.map (·.2)) L _ _ = _
  rw [spec_CountGlosses.L0_eq, if_neg (by omega)]
  rfl
 ·intro i x t hi hx _ _ ih P hP hb
  show spec_CountGlosses.L0 (P.map (·.1)) (P.map (·.2)) L _ _ = _
  rw [spec_CountGlosses.L0_eq, if_pos (by omega), if_pos (by omega), if_pos (by omega), rd_note, hx, specPutC _ _ _ _ _ _ _ (by omega) (fun p hp => by have := hb p hp; omega), wrap_in (x := (i : Int) + 1) (by omega) (by omega)]
  refine (ih (putCount x.f2 P) (by have := putCount_length x.f2 P; omega) (fun p hp => by have := putCount_bound x.f2 i (by omega) P hb p hp; omega)).trans ?_
  rfl



theorem rd_int (l : List Int) (i : Nat) : rd l (i : Int) = l.getD i 0 := by simp [rd]
/-- How far a note is from a frame. -/
def aw (x : Note) (a : Int) : Int := mx (mx 0 (x.f0 - a)) (a - (x.f1 - 1))
theorem aw_bd {x : Note} {a : Int} (h : 0 ≤ x.f0 ∧ x.f0 < x.f1 ∧ x.f1 ≤ 99999) (ha : 0 ≤ a ∧ a ≤ 99999) : 0 ≤ aw x a ∧ aw x a ≤ 99999 := by
 unfold aw mx
 repeat' split
 all_goals omega
theorem quAway_some {x : Note} {a : Int} (h : 0 ≤ x.f0 ∧ x.f0 < x.f1 ∧ x.f1 ≤ 99999) (ha : 0 ≤ a ∧ a ≤ 99999) : spec_quAway.f x.f0 x.f1 x.f2 a = some (aw x a) := by
 unfold spec_quAway.f spec_l1Most.f aw mx
 rw [wrap_in (x := x.f0 - a) (by omega) (by omega), wrap_in (x := a - x.f1) (by omega) (by omega), wrap_in (x := a - x.f1 + 1) (by omega) (by omega)]
 by_cases h1 : x.f0 - a > a - x.f1 + 1
 ·rw [if_pos h1, Option.bind_some]
  by_cases h2 : 0 > x.f0 - a
  ·rw [if_pos h2, Option.bind_some]; congr 1; repeat' split
   all_goals omega
  ·rw [if_neg h2, Option.bind_some]; congr 1; repeat' split
   all_goals omega
 ·rw [if_neg h1, Option.bind_some]
  by_cases h2 : 0 > a - x.f1 + 1
  ·rw [if_pos h2, Option.bind_some]; congr 1; repeat' split
   all_goals omega
  ·rw [if_neg h2, Option.bind_some]; congr 1; repeat' split
   all_goals omega
def res (k : Int) : Option (Int × Bool) := if k < 0 then some (0, false) else some (k, true)
/-- The places of the notes that fit, from place i on. -/
def ix (p : ByteArray) : List Note → Nat → List Int
 | [], _ => []
 | x :: t, i => if lk p.data.toList x.f2.data.toList = true then (i : Int) :: ix p t (i + 1) else ix p t (i + 1)
def better (L : List Note) (a : Int) (k m : Int) : Int := if k < 0 then m else if aw (L.getD m.toNat z50) a < aw (L.getD k.toNat z50) a then m else k
theorem ix_in (p : ByteArray) : ∀ (t : List Note) (i : Nat) (k : Int), k ∈ ix p t i → ∃ m : Nat, k = m ∧ i ≤ m ∧ m < i + t.length
 | [], _, _, h => by simp [ix] at h
 | x :: t, i, k, h => by
  rw [ix] at h
  split at h
  ·rcases List.mem_cons.1 h with rfl | h
   ·exact ⟨i, rfl, Nat.le_refl _, by simp⟩
   ·obtain ⟨m, h1, h2, h3⟩ := ix_in p t (i + 1) k h
    exact ⟨m, h1, by omega, by simp; omega⟩
  ·obtain ⟨m, h1, h2, h3⟩ := ix_in p t (i + 1) k h
   exact ⟨m, h1, by omega, by simp; omega⟩
theorem ix_len (p : ByteArray) : ∀ (t : List Note) (i : Nat), (ix p t i).length ≤ t.length
 | [], _ => by simp [ix]
 | x :: t, i => by
  have := ix_len p t (i + 1)
  rw [ix]; split <;> simp <;> omega
section
variable (L : List Note) (p : ByteArray) (a : Int) (hp : p.size ≤ 8) (ha : 0 ≤ a ∧ a ≤ 99999) (hl : L.length ≤ 40 ∧ ∀ x ∈ L, (0 ≤ x.f0 ∧ x.f0 < x.f1 ∧ x.f1 ≤ 99999) ∧ x.f2.size ≤ 8)
include hp hl
theorem those_ix : impl_those_Note_impl_NearestLike_1.L0 [] L L.length 0 p = some (ix p L 0) := by
 obtain ⟨hl1, hl2⟩ := hl
 have := each (L := fun i => fun o => impl_those_Note_impl_NearestLike_1.L0 o L L.length i p) L z50 (fun i t f => ∀ o : List Int, o.length ≤ i → f o = some (o ++ ix p t i)) ?_ ?_ [] (by simp)
 ·simpa using this
 ·intro o ho
  show impl_those_Note_impl_NearestLike_1.L0 o L _ _ p = _
  rw [impl_those_Note_impl_NearestLike_1.L0_eq, if_neg (by omega)]; simp [ix]
 ·intro i x t hi hx hd _ ih o ho
  have hs := (hl2 x (mem_drop hd)).2
  show impl_those_Note_impl_NearestLike_1.L0 o L _ _ p = _
  rw [impl_those_Note_impl_NearestLike_1.L0_eq, if_pos (by omega), if_pos (by omega), if_pos (by omega), rd_note, hx, impl_NearestLike_1.F_eq, fits_some p x.f2 (by omega) (by omega), wrap_in (x := (i : Int) + 1) (by omega) (by omega), Option.bind_some, Option.bind_some, ix]
  cases lk p.data.toList x.f2.data.toList
  ·rw [if_neg (by simp), if_neg (by simp)]; exact ih o (by omega)
  ·rw [if_pos rfl, if_pos (by omega), if_pos rfl]
   refine (ih (o ++ [(i : Int)]) (by simp; omega)).trans ?_
   simp
include ha
theorem spec_best : spec_NearestLike.L0 L p a (-1) L L.length 0 = res ((ix p L 0).foldl (better L a) (-1)) := by
 obtain ⟨hl1, hl2⟩ := hl
 refine each (L := fun i => fun k => spec_NearestLike.L0 L p a k L L.length i) L z50 (fun i t f => ∀ k : Int, (k < 0 ∨ ∃ m : Nat, k = m ∧ m < L.length) → f k = res ((ix p t i).foldl (better L a) k)) ?_ ?_ (-1) (.inl (by omega))
 ·intro k hk
  show spec_NearestLike.L0 L p a k L _ _ = _
  rw [spec_NearestLike.L0_eq, if_neg (by omega)]; rfl
 ·intro i x t hi hx hd _ ih k hk
  have hf := hl2 x (mem_drop hd)
  show spec_NearestLike.L0 L p a k L _ _ = _
  rw [spec_NearestLike.L0_eq, if_pos (by omega), if_pos (by omega), if_pos (by omega), rd_note, hx, quLike_some p x.f2 (by omega) (by omega), wrap_in (x := (i : Int) + 1) (by omega) (by omega), Option.bind_some, ix]
  cases lk p.data.toList x.f2.data.toList
  ·rw [if_neg (by simp), if_neg (by simp)]; exact ih k hk
  ·rw [if_pos rfl, if_pos rfl, List.foldl_cons]
   rcases hk with hk | ⟨m, rfl, hm⟩
   ·rw [if_pos hk, better, if_pos hk]
    exact ih _ (.inr ⟨i, rfl, hi⟩)
   ·have hmm : L.getD m z50 ∈ L := by
     rw [List.getD_eq_getElem?_getD, List.getElem?_eq_getElem hm, Option.getD_some]; exact List.getElem_mem hm
    have hfm := hl2 _ hmm
    have hbt : better L a (m : Int) (i : Int) = if aw x a < aw (L.getD m z50) a then (i : Int) else (m : Int) := by
     rw [better, if_neg (by omega), Int.toNat_natCast, Int.toNat_natCast, hx]
    rw [hbt, if_neg (by omega), quAway_some hf.1 ha, Option.bind_some, if_pos (by omega), if_pos (by omega), rd_note, quAway_some hfm.1 ha, Option.bind_some]
    split
    ·exact ih _ (.inr ⟨i, rfl, hi⟩)
    ·exact ih _ (.inr ⟨m, rfl, hm⟩)
omit hp in
theorem impl_best (I : List Int) (hI : I.length ≤ 40 ∧ ∀ k ∈ I, ∃ m : Nat, k = m ∧ m < L.length) : impl_NearestLike.L0 L a (-1) 0 I I.length 0 = res (I.foldl (better L a) (-1)) := by
 obtain ⟨hl1, hl2⟩ := hl
 refine each (L := fun i => fun k d => impl_NearestLike.L0 L a k d I I.length i) I 0 (fun i t f => ∀ k d : Int, (k < 0 ∨ ((∃ m : Nat, k = m ∧ m < L.length) ∧ d = aw (L.getD k.toNat z50) a)) → f k d = res (t.foldl (better L a) k)) ?_ ?_ (-1) 0 (.inl (by omega))
 ·intro k d hk
  show impl_NearestLike.L0 L a k d I _ _ = _
  rw [impl_NearestLike.L0_eq, if_neg (by omega)]; rfl
 ·intro i x t hi hx hd _ ih k d hk
  obtain ⟨n, rfl, hn⟩ := hI.2 x (mem_drop hd)
  have hI1 := hI.1
  have hnm : L.getD n z50 ∈ L := by
   rw [List.getD_eq_getElem?_getD, List.getElem?_eq_getElem hn, Option.getD_some]; exact List.getElem_mem hn
  have hf := (hl2 _ hnm).1
  have hb := aw_bd hf ha
  show impl_NearestLike.L0 L a k d I _ _ = _
  rw [impl_NearestLike.L0_eq, if_pos (by omega), if_pos (by omega), if_pos (by omega), rd_int, hx, if_pos (by omega), if_pos (by omega), rd_note, wrap_in (x := (i : Int) + 1) (by omega) (by omega), wrap_in (x := (L.getD n z50).f0 - a) (by omega) (by omega), wrap_in (x := (L.getD n z50).f1 - 1) (by omega) (by omega), wrap_in (x := a - ((L.getD n z50).f1 - 1)) (by omega) (by omega), List.foldl_cons]
  have he : aw (L.getD n z50) a = mx (mx 0 ((L.getD n z50).f0 - a)) (a - ((L.getD n z50).f1 - 1)) := rfl
  rw [← he]
  rcases hk with hk | ⟨⟨m, rfl, hm⟩, rfl⟩
  ·rw [if_pos hk, better, if_pos hk]
   exact ih _ _ (.inr ⟨⟨n, rfl, hn⟩, by rw [Int.toNat_natCast]⟩)
  ·have hbt : better L a (m : Int) (n : Int) = if aw (L.getD n z50) a < aw (L.getD m z50) a then (n : Int) else (m : Int) := by
    rw [better, if_neg (by omega), Int.toNat_natCast, Int.toNat_natCast]
   rw [hbt, if_neg (by omega), Int.toNat_natCast]
   split
   ·exact ih _ _ (.inr ⟨⟨n, rfl, hn⟩, by rw [Int.toNat_natCast]⟩)
   ·exact ih _ _ (.inr ⟨⟨m, rfl, hm⟩, rfl⟩)
end

theorem isGloss_some (s : ByteArray) (hs : s.size ≤ 9223372036854775807) : impl_IsGloss.F s = some (isWord 65 90 s) := by
 rw [impl_IsGloss.F_eq, isWordOf_some 65 90 _ _ hs (by decide +kernel)]; rfl
theorem qInts_refl (l : List Int) (hl : l.length ≤ 9223372036854775807) : laws_qInts.F l l = some true := by
 rw [laws_qInts.F_eq, if_pos rfl]
 refine each (L := fun i => laws_qInts.L0 l l l.length i) l 0 (fun _ _ o => o = some true) ?_ ?_
 ·show laws_qInts.L0 l l _ _ = _
  rw [laws_qInts.L0_eq, if_neg (by omega)]
 ·intro i x t hi hx _ _ ih
  show laws_qInts.L0 l l _ _ = _
  rw [laws_qInts.L0_eq, if_pos (by omega), if_pos (by omega), if_pos (by omega), if_pos (by omega), if_pos rfl, wrap_in (x := (i : Int) + 1) (by omega) (by omega)]
  exact ih
theorem rd_row (l : List (List Int)) (i : Nat) : rd_L5 l (i : Int) = l.getD i [] := by simp [rd_L5]
theorem qLists_refl (l : List (List Int)) (hl : l.length ≤ 9223372036854775807) (hw : ∀ x ∈ l, x.length ≤ 9223372036854775807) : laws_qLists.F l l = some true := by
 rw [laws_qLists.F_eq, if_pos rfl]
 refine each (L := fun i => laws_qLists.L0 l l l.length i) l [] (fun _ _ o => o = some true) ?_ ?_
 ·show laws_qLists.L0 l l _ _ = _
  rw [laws_qLists.L0_eq, if_neg (by omega)]
 ·intro i x t hi hx hd _ ih
  show laws_qLists.L0 l l _ _ = _
  rw [laws_qLists.L0_eq, if_pos (by omega), if_pos (by omega), if_pos (by omega), if_pos (by omega), rd_row, hx, qInts_refl x (hw x (mem_drop hd)), Option.bind_some, if_pos rfl, wrap_in (x := (i : Int) + 1) (by omega) (by omega)]
  exact ih
/-! ### Patterns and glosses -/
def mg (p g : ByteArray) : Bool × Bool := if isPat p = true ∧ isWord 65 90 g = true then (lk p.data.toList g.data.toList, true) else (false, false)
theorem implMatches_some (p g : ByteArray) (hp : p.size ≤ 1048576) (hg : g.size ≤ 1048576) : impl_MatchesGloss.F p g = some (mg p g) := by
 rw [impl_MatchesGloss.F_eq, isPat_some _ (by omega), Option.bind_some, isGloss_some _ (by omega), Option.bind_some, fits_some _ _ hp hg]
 unfold mg
 cases isPat p <;> cases isWord 65 90 g <;> rfl
theorem specMatches_some (p g : ByteArray) (hp : p.size ≤ 1048576) (hg : g.size ≤ 1048576) : spec_MatchesGloss.F p g = some (mg p g) := by
 rw [spec_MatchesGloss.F_eq, quPattern_some _ (by omega), Option.bind_some, fsWord_some _ (by omega), Option.bind_some, quLike_some _ _ hp hg]
 unfold mg
 cases isPat p <;> cases isWord 65 90 g <;> rfl
theorem tier_word {L : List Note} (h : isTier L = true) : ∀ x ∈ L, isWord 65 90 x.f2 = true := by
 have key : ∀ (t : List Note) (i : Nat), tierFrom L i t = true → ∀ x ∈ t, isWord 65 90 x.f2 = true := by
  intro t
  induction t with
  | nil => intro _ _ x hx; simp at hx
  | cons y t ih =>
   intro i h x hx
   simp only [tierFrom, isNote, Bool.and_eq_true] at h
   rcases List.mem_cons.1 hx with rfl | hx
   ·exact h.1.1.2.2.2
   ·exact ih _ h.2 x hx
 exact key L 0 h
theorem note_mem {L : List Note} {m : Nat} (h : m < L.length) : L.getD m z50 ∈ L := by
 rw [List.getD_eq_getElem?_getD, List.getElem?_eq_getElem h]; exact List.getElem_mem h
theorem qHas_some (l : List Int) (n : Int) (hl : l.length ≤ 1000000) : laws_qHas.F l n = some (decide (n ∈ l)) := by
 rw [laws_qHas.F_eq]
 refine each (L := fun i => laws_qHas.L0 n l l.length i) l 0 (fun _ t o => o = some (decide (n ∈ t))) ?_ ?_
 ·show laws_qHas.L0 n l _ _ = _
  rw [laws_qHas.L0_eq, if_neg (by omega)]; simp
 ·intro i x t hi hx _ _ ih
  have e : rd l (i : Int) = x := by rw [← hx]; simp [rd]
  show laws_qHas.L0 n l _ _ = _
  rw [laws_qHas.L0_eq, if_pos (by omega), if_pos (by omega), if_pos (by omega), e, wrap_in (x := (i : Int) + 1) (by omega) (by omega)]
  by_cases c : x = n
  ·rw [if_pos c]; simp [c]
  ·have c' : ¬ n = x := fun h => c h.symm
   rw [if_neg c, ih]; simp [c']

theorem qTexts_refl (l : List ByteArray) (hl : l.length ≤ 9223372036854775807) : laws_qTexts.F l l = some true := by
 rw [laws_qTexts.F_eq, if_pos rfl]
 refine each (L := fun i => laws_qTexts.L0 l l l.length i) l ByteArray.empty (fun _ _ o => o = some true) ?_ ?_
 ·show laws_qTexts.L0 l l _ _ = _
  rw [laws_qTexts.L0_eq, if_neg (by omega)]
 ·intro i x t hi hx _ _ ih
  show laws_qTexts.L0 l l _ _ = _
  rw [laws_qTexts.L0_eq, if_pos (by omega), if_pos (by omega), if_pos (by omega), if_pos (by omega), if_pos rfl, wrap_in (x := (i : Int) + 1) (by omega) (by omega)]
  exact ih
/-! ### Notes in their order -/
theorem tier_step {L : List Note} (h : isTier L = true) (j : Nat) (hj : j + 1 < L.length) : (L.getD j z50).f1 ≤ (L.getD (j + 1) z50).f0 := by
 have key : ∀ (t : List Note) (i : Nat), L.drop i = t → tierFrom L i t = true → ∀ j, i ≤ j → j < L.length → j = 0 ∨ (L.getD (j - 1) z50).f1 ≤ (L.getD j z50).f0 := by
  intro t
  induction t with
  | nil => intro i hd _ j h1 h2; have := List.drop_eq_nil_iff.1 hd; omega
  | cons y t ih =>
   intro i hd ht j h1 h2
   have hlt : i < L.length := by omega
   have h3 := List.drop_eq_getElem_cons hlt
   rw [hd] at h3
   injection h3 with h4 h5
   simp only [tierFrom, Bool.and_eq_true, decide_eq_true_eq] at ht
   by_cases e : i = j
   ·subst e
    rw [show L.getD i z50 = y from by rw [List.getD_eq_getElem?_getD, List.getElem?_eq_getElem hlt]; exact h4.symm]
    exact ht.1.2
   ·exact ih (i + 1) h5.symm ht.2 j (by omega) h2
 have := key L 0 (by simp) h (j + 1) (by omega) hj
 simpa using this
theorem tier_order {L : List Note} (h : isTier L = true) : ∀ (d i : Nat), i + d + 1 < L.length → (L.getD i z50).f1 ≤ (L.getD (i + d + 1) z50).f0
 | 0, i, hi => tier_step h i hi
 | d + 1, i, hi => by
  have h1 := tier_order h d i (by omega)
  have h2 := tier_step h (i + d + 1) (by omega)
  have h3 := ((tier_facts h).2 _ (note_mem (L := L) (m := i + d + 1) (by omega))).1
  have e : i + (d + 1) + 1 = i + d + 1 + 1 := by omega
  rw [e]
  exact Int.le_trans h1 (Int.le_trans (by have : (L.getD (i + d + 1) z50).f0 < (L.getD (i + d + 1) z50).f1 := h3.2.1; omega) h2)
/-- Where a frame lies within two notes, they are one. -/
theorem tier_one {L : List Note} (h : isTier L = true) {i j : Nat} {a : Int} (hi : i < L.length) (hj : j < L.length) (h1 : (L.getD i z50).f0 ≤ a ∧ a < (L.getD i z50).f1) (h2 : (L.getD j z50).f0 ≤ a ∧ a < (L.getD j z50).f1) : i = j := by
 rcases Nat.lt_trichotomy i j with c | c | c
 ·have := tier_order h (j - i - 1) i (by omega)
  rw [show i + (j - i - 1) + 1 = j from by omega] at this
  omega
 ·exact c
 ·have := tier_order h (i - j - 1) j (by omega)
  rw [show j + (i - j - 1) + 1 = i from by omega] at this
  omega
/-! ### Counts -/
theorem putCount_sum (w : ByteArray) : ∀ P : List TC, ((putCount w P).map (·.2)).sum = (P.map (·.2)).sum + 1
 | [] => by simp [putCount]
 | (y, c) :: t => by
  have := putCount_sum w t
  unfold putCount
  split
  ·simp only [List.map_cons, List.sum_cons, this]; omega
  ·split <;> simp only [List.map_cons, List.sum_cons] <;> omega
theorem putCount_pos (w : ByteArray) : ∀ P : List TC, (∀ p ∈ P, 1 ≤ p.2) → ∀ p ∈ putCount w P, 1 ≤ p.2
 | [], _, p, hp => by
  simp only [putCount, List.mem_singleton] at hp
  subst hp; simp
 | (y, c) :: t, h, p, hp => by
  have h0 : 1 ≤ c := h (y, c) (by simp)
  have ht := putCount_pos w t (fun q hq => h q (by simp [hq]))
  unfold putCount at hp
  split at hp
  ·rcases List.mem_cons.1 hp with rfl | hp
   ·exact h0
   ·exact ht p hp
  ·split at hp
   ·rcases List.mem_cons.1 hp with rfl | hp
    ·show 1 ≤ c + 1; omega
    ·exact h p (by simp [hp])
   ·rcases List.mem_cons.1 hp with rfl | hp
    ·simp
    ·exact h p hp
theorem fold_sum (l : List ByteArray) : ∀ P : List TC, (∀ p ∈ P, 1 ≤ p.2) → ((l.foldl (fun o w => putCount w o) P).map (·.2)).sum = (P.map (·.2)).sum + l.length ∧ ∀ p ∈ l.foldl (fun o w => putCount w o) P, 1 ≤ p.2 := by
 induction l with
 | nil => intro P h; exact ⟨by simp, h⟩
 | cons w t ih =>
  intro P h
  obtain ⟨h1, h2⟩ := ih (putCount w P) (putCount_pos w P h)
  refine ⟨?_, h2⟩
  rw [List.foldl_cons, h1, putCount_sum, List.length_cons]; omega
theorem counts_same (L : List Note) (hL : DrawnN L) : ∃ (P : List TC) (b : Bool), spec_CountGlosses.F L = some (P.map (·.1), P.map (·.2), b) ∧ impl_CountGlosses.F L = some (P.map (·.1), P.map (·.2), b) ∧ P.length ≤ 41 ∧
 (b = true → Strict (P.map (·.1)) ∧ (P.map (·.2)).sum = L.length ∧ (∀ p ∈ P, 1 ≤ p.2) ∧ L.length ≤ 40) := by
 have hz := hL.sized
 rw [spec_CountGlosses.F_eq, impl_CountGlosses.F_eq, tiGood_some _ hz, isTier_some _ hz]
 simp only [Option.bind_some]
 cases hg : isTier L
 ·exact ⟨[], false, rfl, rfl, by simp, by simp⟩
 have hl := (tier_facts hg).1
 have hu := uniq_length (L.map (·.f2))
 rw [List.length_map] at hu
 rw [if_pos rfl, if_pos rfl, specCounts L hl, implNames L hl, implCounts _ _ (by simpa using hl) (by omega)]
 obtain ⟨h1, h2⟩ := fold_sum (L.map (·.f2)) [] (by simp)
 refine ⟨(L.map (·.f2)).foldl (fun o w => putCount w o) [], true, rfl, ?_, ?_, fun _ => ⟨?_, by simpa using h1, h2, hl⟩⟩
 ·rw [fold_count0]; simp [Function.comp_def]
 ·rw [fold_count0]; simp; omega
 ·rw [fold_count0]
  have := uniq_strict (L.map (·.f2))
  simpa [Function.comp_def] using this
/-! ### The nearest -/
theorem ix_like (p : ByteArray) : ∀ (t : List Note) (i : Nat) (k : Int), k ∈ ix p t i → ∃ m : Nat, k = ((i + m : Nat) : Int) ∧ m < t.length ∧ lk p.data.toList (t.getD m z50).f2.data.toList = true
 | [], _, _, h => by simp [ix] at h
 | x :: t, i, k, h => by
  rw [ix] at h
  have rest : k ∈ ix p t (i + 1) → ∃ m : Nat, k = ((i + m : Nat) : Int) ∧ m < (x :: t).length ∧ lk p.data.toList ((x :: t).getD m z50).f2.data.toList = true := fun h => by
   obtain ⟨m, h1, h2, h3⟩ := ix_like p t (i + 1) k h
   exact ⟨m + 1, by omega, by simp; omega, by simpa using h3⟩
  split at h
  ·rename_i c
   rcases List.mem_cons.1 h with rfl | h
   ·exact ⟨0, rfl, by simp, by simpa using c⟩
   ·exact rest h
  ·exact rest h
theorem ix_has (p : ByteArray) : ∀ (t : List Note) (i m : Nat), m < t.length → lk p.data.toList (t.getD m z50).f2.data.toList = true → ((i + m : Nat) : Int) ∈ ix p t i
 | [], _, _, h, _ => by simp at h
 | x :: t, i, 0, _, h => by
  rw [ix, if_pos (by simpa using h)]; simp
 | x :: t, i, m + 1, h, h2 => by
  have := ix_has p t (i + 1) m (by simpa using h) (by simpa using h2)
  have e : i + (m + 1) = i + 1 + m := by omega
  rw [ix, e]
  split
  ·exact List.mem_cons_of_mem _ this
  ·exact this
theorem fold_best (L : List Note) (a : Int) : ∀ (I : List Int) (k : Int), (∀ x ∈ I, 0 ≤ x) → (I.foldl (better L a) k = k ∨ I.foldl (better L a) k ∈ I) ∧ (0 ≤ k → 0 ≤ I.foldl (better L a) k ∧ aw (L.getD (I.foldl (better L a) k).toNat z50) a ≤ aw (L.getD k.toNat z50) a) ∧ (∀ x ∈ I, 0 ≤ I.foldl (better L a) k ∧ aw (L.getD (I.foldl (better L a) k).toNat z50) a ≤ aw (L.getD x.toNat z50) a)
 | [], k, _ => ⟨.inl rfl, fun h => ⟨h, Int.le_refl _⟩, by simp⟩
 | x :: t, k, h => by
  have hx := h x (by simp)
  obtain ⟨h1, h2, h3⟩ := fold_best L a t (better L a k x) (fun y hy => h y (by simp [hy]))
  have hb : (better L a k x = k ∨ better L a k x = x) ∧ 0 ≤ better L a k x ∧ aw (L.getD (better L a k x).toNat z50) a ≤ aw (L.getD x.toNat z50) a ∧ (0 ≤ k → aw (L.getD (better L a k x).toNat z50) a ≤ aw (L.getD k.toNat z50) a) := by
   unfold better
   by_cases c : k < 0
   ·rw [if_pos c]; exact ⟨.inr rfl, hx, Int.le_refl _, fun h => by omega⟩
   ·rw [if_neg c]
    by_cases c2 : aw (L.getD x.toNat z50) a < aw (L.getD k.toNat z50) a
    ·rw [if_pos c2]; exact ⟨.inr rfl, hx, Int.le_refl _, fun _ => Int.le_of_lt c2⟩
    ·rw [if_neg c2]; exact ⟨.inl rfl, by omega, by omega, fun _ => Int.le_refl _⟩
  obtain ⟨b1, b2, b3, b4⟩ := hb
  obtain ⟨h4, h5⟩ := h2 b2
  rw [List.foldl_cons]
  refine ⟨?_, fun hk => ⟨h4, Int.le_trans h5 (b4 hk)⟩, fun y hy => ?_⟩
  ·rcases h1 with h1 | h1
   ·rw [h1]
    rcases b1 with b1 | b1
    ·exact .inl b1
    ·rw [b1]; exact .inr (by simp)
   ·exact .inr (by simp [h1])
  ·rcases List.mem_cons.1 hy with rfl | hy
   ·exact ⟨h4, Int.le_trans h5 b3⟩
   ·exact h3 y hy
theorem nearest_same (L : List Note) (p : ByteArray) (a : Int) (hL : DrawnN L) (hp : p.size ≤ 9) : ∃ k b, spec_NearestLike.F L p a = some (k, b) ∧ impl_NearestLike.F L p a = some (k, b) ∧
 (b = true → isTier L = true ∧ isPat p = true ∧ (0 ≤ a ∧ a ≤ 99999) ∧ ∃ m : Nat, k = m ∧ m < L.length ∧ lk p.data.toList (L.getD m z50).f2.data.toList = true ∧ ∀ j, j < L.length → lk p.data.toList (L.getD j z50).f2.data.toList = true → aw (L.getD m z50) a ≤ aw (L.getD j z50) a) := by
 have hz := hL.sized
 rw [spec_NearestLike.F_eq, impl_NearestLike.F_eq, tiGood_some _ hz, isTier_some _ hz, quPattern_some _ (by omega), isPat_some _ (by omega), tiFrame_some, isFrame_some]
 simp only [Option.bind_some, spec_NearestLike.J0_eq, impl_NearestLike.J0_eq, impl_those_Note_impl_NearestLike_1.F_eq]
 cases hg : isTier L
 ·exact ⟨_, _, rfl, rfl, by simp⟩
 cases hgp : isPat p
 ·exact ⟨_, _, rfl, rfl, by simp⟩
 by_cases ha : 0 ≤ a ∧ a ≤ 99999
 case neg => rw [decide_eq_false ha]; exact ⟨_, _, rfl, rfl, by simp⟩
 have hp8 : p.size ≤ 8 := by
  simp only [isPat, Bool.and_eq_true, decide_eq_true_eq] at hgp
  exact hgp.1.2
 have tf := tier_facts hg
 have hix : (ix p L 0).length ≤ 40 ∧ ∀ k ∈ ix p L 0, ∃ m : Nat, k = m ∧ m < L.length := by
  refine ⟨Nat.le_trans (ix_len p L 0) tf.1, fun k hk => ?_⟩
  obtain ⟨m, h4, _, h5⟩ := ix_in p L 0 k hk
  exact ⟨m, h4, by omega⟩
 obtain ⟨f1, _, f3⟩ := fold_best L a (ix p L 0) (-1) (fun x hx => by obtain ⟨m, h4, _⟩ := hix.2 x hx; omega)
 rw [decide_eq_true ha]
 simp only [if_true, Bool.not_true, Bool.false_eq_true, if_false, those_ix L p hp8 tf, Option.bind_some, spec_best L p a hp8 ha tf, impl_best L a ha tf _ hix]
 unfold res
 split
 ·exact ⟨_, _, rfl, rfl, by simp⟩
 ·rename_i c
  refine ⟨_, _, rfl, rfl, fun _ => ⟨by first | trivial | rfl, by first | trivial | rfl, ha, ?_⟩⟩
  have hm : (ix p L 0).foldl (better L a) (-1) ∈ ix p L 0 := by
   rcases f1 with f1 | f1
   ·omega
   ·exact f1
  generalize (ix p L 0).foldl (better L a) (-1) = r at *
  obtain ⟨m, h1, h2, h3⟩ := ix_like p L 0 r hm
  rw [Nat.zero_add] at h1
  subst h1
  refine ⟨m, rfl, h2, h3, fun j hj hlk => ?_⟩
  have := f3 _ (ix_has p L 0 j hj hlk)
  simpa using this.2
/-! ### The note at a frame -/
def Holds (x : Note) (a : Int) : Prop := x.f0 ≤ a ∧ a < x.f1
theorem tiAt_tells (L : List Note) (a : Int) (hl : L.length ≤ 40 ∧ ∀ x ∈ L, (0 ≤ x.f0 ∧ x.f0 < x.f1 ∧ x.f1 ≤ 99999) ∧ x.f2.size ≤ 8) : ∃ r, spec_tiAt.F L a = some r ∧ (r = -1 ∨ ∃ m : Nat, r = m ∧ m < L.length ∧ Holds (L.getD m z50) a) := by
 rw [spec_tiAt.F_eq]
 obtain ⟨hl1, hl2⟩ := hl
 refine each (L := fun i => spec_tiAt.L0 a L L.length i) L z50 (fun _ _ o => ∃ r, o = some r ∧ (r = -1 ∨ ∃ m : Nat, r = m ∧ m < L.length ∧ Holds (L.getD m z50) a)) ?_ ?_
 ·show ∃ r, spec_tiAt.L0 a L _ _ = _ ∧ _
  rw [spec_tiAt.L0_eq, if_neg (by omega)]
  exact ⟨_, rfl, .inl rfl⟩
 ·intro i x t hi hx hd _ ih
  have hf := (hl2 x (mem_drop hd)).1
  show ∃ r, spec_tiAt.L0 a L _ _ = _ ∧ _
  rw [spec_tiAt.L0_eq, if_pos (by omega), if_pos (by omega), if_pos (by omega), rd_note, hx, wrap_in (x := x.f1 - 1) (by omega) (by omega), l1In_some, Option.bind_some, wrap_in (x := (i : Int) + 1) (by omega) (by omega)]
  by_cases c : x.f0 ≤ a ∧ a ≤ x.f1 - 1
  ·rw [if_pos (decide_eq_true c)]
   exact ⟨_, rfl, .inr ⟨i, rfl, hi, by rw [hx]; exact ⟨c.1, by omega⟩⟩⟩
  ·rw [if_neg (by simp only [decide_eq_false c]; simp)]
   exact ih
theorem noteAt_tells (L : List Note) (a : Int) (hg : isTier L = true) (ha : 0 ≤ a ∧ a ≤ 99999) : ∃ r b, spec_NoteAt.F L a = some (r, b) ∧ (b = true → ∃ m : Nat, r = m ∧ m < L.length ∧ Holds (L.getD m z50) a) := by
 have tf := tier_facts hg
 have hz : SizedN L := ⟨by have := tf.1; omega, fun x hx => by have := (tf.2 x hx).2; omega⟩
 obtain ⟨r, h1, h2⟩ := tiAt_tells L a tf
 rw [spec_NoteAt.F_eq, tiGood_some _ hz, hg, tiFrame_some, decide_eq_true ha, h1]
 simp only [Option.bind_some, if_true]
 by_cases c : r < 0
 ·rw [if_pos c]; exact ⟨_, _, rfl, by simp⟩
 ·rw [if_neg c]
  refine ⟨_, _, rfl, fun _ => ?_⟩
  rcases h2 with h2 | h2
  ·omega
  ·exact h2
theorem aw_zero {x : Note} {a : Int} (h : Holds x a) : aw x a ≤ 0 := by
 obtain ⟨h1, h2⟩ := h
 unfold aw mx
 repeat' split
 all_goals omega
theorem zero_aw {x : Note} {a : Int} (h : aw x a ≤ 0) : Holds x a := by
 unfold aw mx at h
 unfold Holds
 repeat' split at h
 all_goals omega
/-! ### Long notes -/
def selFrom (q : Note → Bool) : Nat → List Note → List Int
 | _, [] => []
 | i, x :: t => (if q x = true then [(i : Int)] else []) ++ selFrom q (i + 1) t
theorem sel_cons (q : Note → Bool) (i : Nat) (x : Note) (t : List Note) : selFrom q i (x :: t) = (if q x = true then [(i : Int)] else []) ++ selFrom q (i + 1) t := rfl
theorem sel_length (q : Note → Bool) : ∀ (i : Nat) (t : List Note), (selFrom q i t).length ≤ t.length
 | _, [] => by simp [selFrom]
 | i, x :: t => by
  have := sel_length q (i + 1) t
  rw [sel_cons, List.length_append]
  split <;> simp <;> omega
theorem mem_sel (q : Note → Bool) (n : Nat) : ∀ (t : List Note) (i : Nat), i ≤ n → n < i + t.length → (((n : Int) ∈ selFrom q i t) ↔ q (t.getD (n - i) z50) = true)
 | [], i, h1, h2 => by simp at h2; omega
 | x :: t, i, h1, h2 => by
  have low : ∀ (t : List Note) (i : Nat) (m : Int), m ∈ selFrom q i t → (i : Int) ≤ m := by
   intro t
   induction t with
   | nil => intro i m hm; simp [selFrom] at hm
   | cons y t ih =>
    intro i m hm
    rw [sel_cons] at hm
    rcases List.mem_append.1 hm with hm | hm
    ·split at hm
     ·obtain rfl := List.mem_singleton.1 hm; omega
     ·simp at hm
    ·have := ih (i + 1) m hm; omega
  simp only [List.length_cons] at h2
  rw [sel_cons, List.mem_append]
  by_cases e : i = n
  ·subst e
   have hn : ¬ ((i : Int) ∈ selFrom q (i + 1) t) := fun hm => by have := low t (i + 1) _ hm; omega
   rw [Nat.sub_self, List.getD_cons_zero]
   cases hx : q x <;> simp [hn]
  ·have ih := mem_sel q n t (i + 1) (by omega) (by omega)
   have hn : ¬ ((n : Int) ∈ (if q x = true then [(i : Int)] else [])) := fun hm => by
    split at hm
    ·have := List.mem_singleton.1 hm; omega
    ·simp at hm
   rw [show n - i = (n - (i + 1)) + 1 from by omega, List.getD_cons_succ, ← ih]
   simp [hn]
def isLong (n : Int) (x : Note) : Bool := decide (x.f1 - x.f0 ≥ n)
theorem longs_same (L : List Note) (n : Int) (hL : DrawnN L) : ∃ r b, spec_LongNotes.F L n = some (r, b) ∧ impl_LongNotes.F L n = some (r, b) ∧ r.length ≤ 41 ∧ (b = true → r = selFrom (isLong n) 0 L ∧ isTier L = true) := by
 have hz := hL.sized
 rw [spec_LongNotes.F_eq, impl_LongNotes.F_eq, tiGood_some _ hz, isTier_some _ hz, tiFrame_some, isFrame_some]
 simp only [Option.bind_some, spec_LongNotes.J0_eq, impl_those_Note_impl_LongNotes_1.F_eq]
 cases hg : isTier L
 ·exact ⟨_, _, rfl, rfl, by simp, by simp⟩
 by_cases ha : 0 ≤ n ∧ n ≤ 99999
 case neg => rw [decide_eq_false ha]; exact ⟨_, _, rfl, rfl, by simp, by simp⟩
 rw [decide_eq_true ha]
 obtain ⟨hl1, hl2⟩ := tier_facts hg
 have := each (L := fun i => ((fun o => spec_LongNotes.L0 n o L L.length i : List Int → _), (fun o => impl_those_Note_impl_LongNotes_1.L0 o L L.length i n : List Int → _))) L z50 (fun i t f => ∀ o : List Int, o.length ≤ i → f.1 o = some (o ++ selFrom (isLong n) i t, true) ∧ f.2 o = some (o ++ selFrom (isLong n) i t)) ?_ ?_ [] (by simp)
 ·obtain ⟨k1, k2⟩ := this
  rw [List.nil_append] at k1 k2
  have := sel_length (isLong n) 0 L
  refine ⟨selFrom (isLong n) 0 L, true, k1, ?_, by omega, fun _ => ⟨rfl, rfl⟩⟩
  have k2' : impl_those_Note_impl_LongNotes_1.L0 [] L L.length 0 n = _ := k2
  simp only [if_true, k2', Option.bind_some]
 ·intro o ho
  show spec_LongNotes.L0 n o L _ _ = _ ∧ impl_those_Note_impl_LongNotes_1.L0 o L _ _ n = _
  rw [spec_LongNotes.L0_eq, impl_those_Note_impl_LongNotes_1.L0_eq, if_neg (by omega), if_neg (by omega)]
  simp [selFrom]
 ·intro i x t hi hx hd _ ih o ho
  have hf := (hl2 x (mem_drop hd)).1
  have ih1 := ih o (by omega)
  have ih2 := ih (o ++ [(i : Int)]) (by simp; omega)
  show spec_LongNotes.L0 n o L _ _ = _ ∧ impl_those_Note_impl_LongNotes_1.L0 o L _ _ n = _
  have i1 : (i : Int) < (L.length : Int) := by omega
  have i2 : (0 : Int) ≤ (i : Int) := by omega
  have o1 : o.length < 17592186044416 := by omega
  rw [spec_LongNotes.L0_eq, impl_those_Note_impl_LongNotes_1.L0_eq, sel_cons]
  simp only [i1, i2, o1, if_true, rd_note, hx, impl_LongNotes_1.f, Option.bind_some, wrap_in (x := x.f1 - x.f0) (by omega) (by omega), wrap_in (x := (i : Int) + 1) (by omega) (by omega), isLong]
  by_cases c : x.f1 - x.f0 ≥ n
  ·simpa [c] using ih2
  ·simpa [c] using ih1
/-! ### The longest gap -/
def gapAt (L : List Note) (i : Nat) : Int := (L.getD (i + 1) z50).f0 - (L.getD i z50).f1
theorem gap_rounds (L : List Note) (hg : isTier L = true) : ∀ (d i k : Nat), i + d + 1 = L.length → k + 1 < L.length → (∀ j, j < i → gapAt L j ≤ gapAt L k) →
 ∃ k' : Nat, spec_LongestGap.L0 L k (gapAt L k) i = some ((k' : Int), gapAt L k', true) ∧ impl_LongestGap.L0 k ((L.length : Int) - 1) i L = some ((k' : Int), gapAt L k', true) ∧ ∀ j, j + 1 < L.length → gapAt L j ≤ gapAt L k' := by
 obtain ⟨hl1, hl2⟩ := tier_facts hg
 have one : ∀ k : Nat, k + 1 < L.length → impl_LongestGap_1.f k L = some (gapAt L k) ∧ wrap64 ((rd_T50 L ((k : Int) + 1)).f0 - (rd_T50 L (k : Int)).f1) = gapAt L k := by
  intro k hk
  have h1 := (hl2 _ (note_mem (L := L) (m := k) (by omega))).1
  have h2 := (hl2 _ (note_mem (L := L) (m := k + 1) (by omega))).1
  have e : (k : Int) + 1 = ((k + 1 : Nat) : Int) := by omega
  have w : wrap64 ((rd_T50 L ((k : Int) + 1)).f0 - (rd_T50 L (k : Int)).f1) = gapAt L k := by
   rw [e, rd_note, rd_note, wrap_in (by omega) (by omega)]; rfl
  refine ⟨?_, w⟩
  unfold impl_LongestGap_1.f
  rw [wrap_in (x := (k : Int) + 1) (by omega) (by omega), if_pos (by omega), if_pos (by omega), if_pos (by omega), if_pos (by omega), w]
 intro d
 induction d with
 | zero =>
  intro i k hi hk hj
  rw [spec_LongestGap.L0_eq, impl_LongestGap.L0_eq, wrap_in (x := (i : Int) + 1) (by omega) (by omega), if_neg (by omega), if_neg (by omega), (one k hk).1, Option.bind_some]
  exact ⟨k, rfl, rfl, fun j h => hj j (by omega)⟩
 | succ d ih =>
  intro i k hi hk hj
  have ei : (i : Int) + 1 = ((i + 1 : Nat) : Int) := by omega
  rw [spec_LongestGap.L0_eq, impl_LongestGap.L0_eq, wrap_in (x := (i : Int) + 1) (by omega) (by omega), if_pos (by omega), if_pos (by omega), if_pos (by omega), if_pos (by omega), (one i (by omega)).2, if_pos (show (i : Int) < (L.length : Int) - 1 by omega), (one k hk).1, (one i (by omega)).1, Option.bind_some, Option.bind_some]
  by_cases c : gapAt L i > gapAt L k
  ·rw [if_pos c, if_pos c, ei]
   exact ih (i + 1) i (by omega) (by omega) (fun j h => by
    by_cases e : j = i
    ·subst e; omega
    ·have := hj j (by omega); omega)
  ·rw [if_neg c, if_neg c, ei]
   exact ih (i + 1) k (by omega) hk (fun j h => by
    by_cases e : j = i
    ·subst e; omega
    ·exact hj j (by omega))
theorem gap_same (L : List Note) (hL : DrawnN L) : ∃ k f b, spec_LongestGap.F L = some (k, f, b) ∧ impl_LongestGap.F L = some (k, f, b) ∧ (b = true → isTier L = true ∧ ∀ j, j + 1 < L.length → gapAt L j ≤ f) := by
 have hz := hL.sized
 rw [spec_LongestGap.F_eq, impl_LongestGap.F_eq, tiGood_some _ hz, isTier_some _ hz]
 simp only [Option.bind_some, spec_LongestGap.J0_eq, impl_LongestGap.J0_eq]
 cases hg : isTier L
 ·exact ⟨_, _, _, rfl, rfl, by simp⟩
 by_cases c : (L.length : Int) < 2
 ·rw [decide_eq_true c]; exact ⟨_, _, _, rfl, rfl, by simp⟩
 rw [decide_eq_false c]
 simp only [if_true, Bool.false_eq_true, if_false]
 obtain ⟨hl1, hl2⟩ := tier_facts hg
 have h1 := (hl2 _ (note_mem (L := L) (m := 0) (by omega))).1
 have h2 := (hl2 _ (note_mem (L := L) (m := 0 + 1) (by omega))).1
 have h3 := tier_step hg 0 (by omega)
 have e1 : (0 : Int) + 1 = ((0 + 1 : Nat) : Int) := rfl
 have e0 : rd_T50 L 0 = L.getD 0 z50 := rd_note L 0
 have g0 : (L.getD (0 + 1) z50).f0 - (L.getD 0 z50).f1 = gapAt L 0 := rfl
 obtain ⟨k', k1, k2, k3⟩ := gap_rounds L hg (L.length - 1 - 1) 1 0 (by omega) (by omega) (fun j h => by
  have : j = 0 := by omega
  subst this; exact Int.le_refl _)
 have ones : impl_LongestGap_1.f 0 L = some (gapAt L 0) := by
  unfold impl_LongestGap_1.f
  rw [wrap_in (x := (0 : Int) + 1) (by omega) (by omega), e1, if_pos (by omega), if_pos (by omega), if_pos (by omega), if_pos (by omega), rd_note, e0, wrap_in (by omega) (by omega)]
  rfl
 refine ⟨k', gapAt L k', true, ?_, ?_, fun _ => ⟨by first | trivial | rfl, k3⟩⟩
 ·rw [spec_LongestGap.L0_eq, wrap_in (x := (0 : Int) + 1) (by omega) (by omega), e1, if_pos (by omega), if_pos (by omega), if_pos (by omega), if_pos (by omega), rd_note, e0, wrap_in (by omega) (by omega), g0, if_pos (by rw [← g0]; omega)]
  exact k1
 ·rw [impl_LongestGap.L0_eq, wrap_in (x := (L.length : Int) - 1) (by omega) (by omega), if_pos (by omega), ones, Option.bind_some, Option.bind_some, if_neg (by omega), wrap_in (x := (0 : Int) + 1) (by omega) (by omega), e1]
  exact k2
/-! ### Notes inside -/
def InsOk (A B : List Note) (y : List Int) : Prop := ∃ i k : Nat, y = [(i : Int), (k : Int)] ∧ i < A.length ∧ k < B.length ∧ (B.getD k z50).f0 ≤ (A.getD i z50).f0 ∧ (A.getD i z50).f1 ≤ (B.getD k z50).f1
theorem inside_row (A B : List Note) (i : Nat) (x : Note) (hB : B.length ≤ 40) (o : List (List Int)) (ho : o.length ≤ 40 * i) (hi : i < 40) (hiA : i < A.length) (hx : A.getD i z50 = x) (h2 : ∀ y ∈ o, InsOk A B y) : ∃ o', spec_NotesInside.L1 B o i A A.length i B B.length 0 x.f0 x.f1 x.f2 = spec_NotesInside.L0 B o' A A.length ((i : Int) + 1) ∧ impl_NotesInside.L1 B o i A A.length i B B.length 0 x.f0 x.f1 x.f2 = impl_NotesInside.L0 B o' A A.length ((i : Int) + 1) ∧ o'.length ≤ 40 * (i + 1) ∧ ∀ y ∈ o', InsOk A B y := by
 refine each (L := fun j => ((fun o => spec_NotesInside.L1 B o i A A.length i B B.length j x.f0 x.f1 x.f2 : List (List Int) → _), (fun o => impl_NotesInside.L1 B o i A A.length i B B.length j x.f0 x.f1 x.f2 : List (List Int) → _))) B z50 (fun j t f => ∀ o : List (List Int), o.length ≤ 40 * i + j → (∀ y ∈ o, InsOk A B y) → ∃ o', f.1 o = spec_NotesInside.L0 B o' A A.length ((i : Int) + 1) ∧ f.2 o = impl_NotesInside.L0 B o' A A.length ((i : Int) + 1) ∧ o'.length ≤ 40 * (i + 1) ∧ ∀ y ∈ o', InsOk A B y) ?_ ?_ o (by omega) h2
 ·intro o ho h2
  show ∃ o', spec_NotesInside.L1 B o _ A _ _ B _ _ _ _ _ = _ ∧ impl_NotesInside.L1 B o _ A _ _ B _ _ _ _ _ = _ ∧ _
  rw [spec_NotesInside.L1_eq, impl_NotesInside.L1_eq, if_neg (by omega), if_neg (by omega), wrap_in (x := (i : Int) + 1) (by omega) (by omega)]
  exact ⟨o, rfl, rfl, by omega, h2⟩
 ·intro j y t hj hy hd _ ih o ho h2
  have ih1 := ih o (by omega) h2
  show ∃ o', spec_NotesInside.L1 B o _ A _ _ B _ _ _ _ _ = _ ∧ impl_NotesInside.L1 B o _ A _ _ B _ _ _ _ _ = _ ∧ _
  have o1 : o.length < 5864062014805 := by omega
  have j1 : (j : Int) < (B.length : Int) := by omega
  have j2 : (0 : Int) ≤ (j : Int) := by omega
  rw [spec_NotesInside.L1_eq, impl_NotesInside.L1_eq]
  simp only [j1, j2, o1, if_true, rd_note, hy, wrap_in (x := (j : Int) + 1) (by omega) (by omega)]
  by_cases c1 : y.f0 ≤ x.f0
  ·have c1' : x.f0 ≥ y.f0 := c1
   by_cases c2 : x.f1 ≤ y.f1
   ·have ih2 := ih (o ++ [[(i : Int), (j : Int)]]) (by simp; omega) (fun z hz => by
     rcases List.mem_append.1 hz with hz | hz
     ·exact h2 z hz
     ·obtain rfl := List.mem_singleton.1 hz
      exact ⟨i, j, rfl, hiA, hj, by rw [hx, hy]; exact c1, by rw [hx, hy]; exact c2⟩)
    simpa only [c1, c1', c2, if_true] using ih2
   ·simpa only [c1, c1', c2, if_true, if_false] using ih1
  ·have c1' : ¬ x.f0 ≥ y.f0 := c1
   simpa only [c1, c1', if_false] using ih1
theorem inside_rows (A B : List Note) (hA : A.length ≤ 40) (hB : B.length ≤ 40) : ∃ r, spec_NotesInside.L0 B [] A A.length 0 = some (r, true) ∧ impl_NotesInside.L0 B [] A A.length 0 = some (r, true) ∧ r.length ≤ 1600 ∧ ∀ y ∈ r, InsOk A B y := by
 refine each (L := fun i => ((fun o => spec_NotesInside.L0 B o A A.length i : List (List Int) → _), (fun o => impl_NotesInside.L0 B o A A.length i : List (List Int) → _))) A z50 (fun i t f => ∀ o : List (List Int), o.length ≤ 40 * i → (∀ y ∈ o, InsOk A B y) → ∃ r, f.1 o = some (r, true) ∧ f.2 o = some (r, true) ∧ r.length ≤ 1600 ∧ ∀ y ∈ r, InsOk A B y) ?_ ?_ [] (by simp) (by simp)
 ·intro o ho h2
  show ∃ o', spec_NotesInside.L0 B o A _ _ = _ ∧ impl_NotesInside.L0 B o A _ _ = _ ∧ _
  rw [spec_NotesInside.L0_eq, impl_NotesInside.L0_eq, if_neg (by omega), if_neg (by omega)]
  exact ⟨o, rfl, rfl, by omega, h2⟩
 ·intro i x t hi hx hd _ ih o ho h2
  obtain ⟨o', k1, k2, k3, k4⟩ := inside_row A B i x hB o ho (by omega) hi hx h2
  show ∃ r, spec_NotesInside.L0 B o A _ _ = _ ∧ impl_NotesInside.L0 B o A _ _ = _ ∧ _
  rw [spec_NotesInside.L0_eq, impl_NotesInside.L0_eq, if_pos (by omega), if_pos (by omega), if_pos (by omega), if_pos (by omega), if_pos (by omega), if_pos (by omega), rd_note, hx, k1, k2]
  exact ih o' (by omega) k4
theorem inside_same (A B : List Note) (hA : DrawnN A) (hB : DrawnN B) : ∃ r b, spec_NotesInside.F A B = some (r, b) ∧ impl_NotesInside.F A B = some (r, b) ∧ r.length ≤ 1600 ∧ ∀ y ∈ r, InsOk A B y := by
 have hz := hA.sized
 have hy := hB.sized
 rw [spec_NotesInside.F_eq, impl_NotesInside.F_eq, spec_meBoth.F_eq, tiGood_some _ hz, isTier_some _ hz, tiGood_some _ hy, isTier_some _ hy]
 simp only [Option.bind_some, impl_NotesInside.J0_eq]
 cases hg : isTier A
 ·exact ⟨_, _, rfl, rfl, by simp, by simp⟩
 cases hh : isTier B
 ·exact ⟨_, _, rfl, rfl, by simp, by simp⟩
 obtain ⟨r, k1, k2, k3, k4⟩ := inside_rows A B (tier_facts hg).1 (tier_facts hh).1
 refine ⟨r, true, ?_, ?_, k3, k4⟩
 ·simp only [if_true, Option.bind_some, k1]
 ·simp only [if_true, Bool.not_true, Bool.false_eq_true, if_false, k2]

/-! ### What is drawn -/
theorem drawTier_tells (l : List Int) (hl : Bytes l) : ∃ L, spec_DrawIsTier.F l = some L ∧ DrawnN L := by
 obtain ⟨L, b, t, h1, hL, _⟩ := tier_tells l hl
 rw [spec_DrawIsTier.F_eq]
 simp only [h1, Option.bind_some]
 exact ⟨_, rfl, hL⟩
theorem frame_tells (l : List Int) (hl : Bytes l) (a s : Int) (ha : 0 ≤ a ∧ a ≤ 100000) : ∃ r b t, spec_l1Cur_frame.f l a s = some (r, b, t) := by
 unfold spec_l1Cur_frame.f
 obtain ⟨r1, b1, t1, h1, _, _, i1, j1⟩ := pick_tells l hl a s 60 (by omega) (by omega)
 simp only [h1, Option.bind_some]
 obtain ⟨r2, b2, t2, h2, _, i2, j2⟩ := among_tells l hl b1 t1 [15, -1, 100000] (by omega) (by simp)
 simp only [h2, Option.bind_some]
 obtain ⟨r3, b3, t3, h3, _, i3, j3⟩ := among_tells l hl b2 t2 [0, 5, 10, 12, r1, 99999, r2] (by omega) (by simp)
 simp only [h3, Option.bind_some]
 exact ⟨_, _, _, rfl⟩
theorem drawNear_tells (l : List Int) (hl : Bytes l) : ∃ L p a, spec_DrawNearestLike.F l = some (L, p, a) ∧ DrawnN L ∧ p.size ≤ 9 := by
 obtain ⟨L, b, t, h1, hL, i1, j1⟩ := tier_tells l hl
 obtain ⟨p, b2, t2, h2, z2, i2, j2⟩ := pattern_tells l hl b t (by omega)
 obtain ⟨a, b3, t3, h3⟩ := frame_tells l hl b2 t2 (by omega)
 rw [spec_DrawNearestLike.F_eq]
 simp only [h1, h2, h3, Option.bind_some]
 exact ⟨_, _, _, rfl, hL, z2⟩
theorem drawLong_tells (l : List Int) (hl : Bytes l) : ∃ L n, spec_DrawLongNotes.F l = some (L, n) ∧ DrawnN L := by
 obtain ⟨L, b, t, h1, hL, i1, j1⟩ := tier_tells l hl
 obtain ⟨r2, b2, t2, h2, _, i2, j2⟩ := among_tells l hl b t [8, -1, 100000] (by omega) (by simp)
 obtain ⟨r3, b3, t3, h3, _, i3, j3⟩ := among_tells l hl b2 t2 [0, 1, 5, 6, 20, 99999, r2] (by omega) (by simp)
 rw [spec_DrawLongNotes.F_eq]
 simp only [h1, h2, h3, Option.bind_some]
 exact ⟨_, _, rfl, hL⟩
theorem tier_tells' (l : List Int) (hl : Bytes l) (a s : Int) (ha : 0 ≤ a ∧ a ≤ 3000) : ∃ L b t, spec_l1Cur_tier.F l a s = some (L, b, t) ∧ DrawnN L := by
 have rounds : ∀ (N : Int), N ≤ 41 → ∀ (d : Nat) (L : List Note) (n a s : Int), L.length + d = 41 → DrawnN L → (0 ≤ a ∧ a ≤ 10000 - 40 * d) → ∃ L' b t, spec_l1Cur_tier.L0 L n N l a s = some (L', b, t) ∧ DrawnN L' := by
  intro N hN d
  induction d with
  | zero =>
   intro L n a s hd hL ha
   rw [spec_l1Cur_tier.L0_eq, if_neg (by omega)]
   exact ⟨_, _, _, rfl, hL⟩
  | succ d ih =>
   intro L n a s hd hL ha
   rw [spec_l1Cur_tier.L0_eq]
   by_cases hlt : (L.length : Int) < N
   case neg =>
    rw [if_neg hlt]
    exact ⟨_, _, _, rfl, hL⟩
   rw [if_pos hlt]
   obtain ⟨x, y, g, b1, t1, h1, z1, i1, j1⟩ := note_tells l hl a s n (by omega)
   simp only [h1, Option.bind_some]
   obtain ⟨m1, e1⟩ := most_tells 0 y
   obtain ⟨m2, e2⟩ := least_tells 90000 m1
   have grow : ∀ g' : ByteArray, g'.size ≤ 9 → DrawnN (L ++ [(⟨x, y, g'⟩ : Note)]) := fun g' hg => ⟨by simp; omega, fun z hz => by
    rcases List.mem_append.1 hz with hz | hz
    ·exact hL.2 z hz
    ·obtain rfl := List.mem_singleton.1 hz
     exact hg⟩
   by_cases h0 : (L.length : Int) > 0
   ·rw [if_pos h0]
    obtain ⟨c, b2, t2, h2, i2, j2⟩ := one_tells l hl b1 t1 4 (by omega) (by omega)
    simp only [h2, Option.bind_some]
    rw [spec_l1Cur_tier.J2_eq, wrap_in (x := (L.length : Int) - 1) (by omega) (by omega)]
    obtain ⟨k, b3, t3, h3, _, i3, j3⟩ := among_tells l hl b2 t2 [0, 0, 2, 5] (by omega) (by simp)
    simp only [e1, e2, h3, Option.bind_some]
    cases c
    ·rw [if_neg (by simp), if_pos (by omega)]
     exact ih _ _ _ _ (by simp; omega) (grow g z1) (by omega)
    ·rw [if_pos rfl, if_pos (by omega), if_pos (by omega), if_pos (by omega)]
     have e : (L.length : Int) - 1 = ((L.length - 1 : Nat) : Int) := by omega
     refine ih _ _ _ _ (by simp; omega) (grow _ ?_) (by omega)
     rw [e, rd_note]
     exact hL.2 _ (note_mem (by omega))
   ·rw [if_neg h0, spec_l1Cur_tier.J2_eq, if_neg (by simp), if_pos (by omega)]
    obtain ⟨k, b3, t3, h3, _, i3, j3⟩ := among_tells l hl b1 t1 [0, 0, 2, 5] (by omega) (by simp)
    simp only [e1, e2, h3, Option.bind_some]
    exact ih _ _ _ _ (by simp; omega) (grow g z1) (by omega)
 rw [spec_l1Cur_tier.F_eq]
 obtain ⟨r1, b1, t1, h1, p1, q1, i1, j1⟩ := pick_tells l hl a s 10 (by omega) (by omega)
 simp only [h1, Option.bind_some]
 obtain ⟨r2, b2, t2, h2, p2, q2, i2, j2⟩ := pick_tells l hl b1 t1 8 (by omega) (by omega)
 have q3 := q2 (by omega)
 simp only [h2, Option.bind_some]
 obtain ⟨c, b3, t3, h3, i3, j3⟩ := one_tells l hl b2 t2 12 (by omega) (by omega)
 simp only [h3, Option.bind_some]
 have e : DrawnN [] := ⟨by simp, by simp⟩
 cases c
 ·rw [if_neg (by simp), spec_l1Cur_tier.J0_eq]
  exact rounds r2 (by omega) 41 [] r1 b3 t3 (by simp) e (by omega)
 ·rw [if_pos rfl]
  obtain ⟨r4, b4, t4, h4, p4, q4, i4, j4⟩ := pick_tells l hl b3 t3 2 (by omega) (by omega)
  have q5 := q4 (by omega)
  simp only [h4, Option.bind_some]
  rw [spec_l1Cur_tier.J0_eq, wrap_in (by omega) (by omega)]
  exact rounds (40 + r4) (by omega) 41 [] r1 b4 t4 (by simp) e (by omega)
theorem changed_tells (l : List Int) (hl : Bytes l) (a s : Int) (L : List Note) (hL : DrawnN L) (ha : 0 ≤ a ∧ a ≤ 3000) : ∃ X b t, spec_l1Cur_changed.F l a s L = some (X, b, t) ∧ DrawnN X := by
 rw [spec_l1Cur_changed.F_eq]
 obtain ⟨hl1, hl2⟩ := hL
 refine each (L := fun i => fun X b s => spec_l1Cur_changed.L0 X L L.length i l b s) L z50 (fun i t f => ∀ (X : List Note) (b s : Int), X.length ≤ i → (∀ x ∈ X, x.f2.size ≤ 9) → (0 ≤ b ∧ b ≤ 3000 + 10 * i) → ∃ X' b' t', f X b s = some (X', b', t') ∧ DrawnN X') ?_ ?_ [] a s (by simp) (by simp) (by omega)
 ·intro X b s hX hs hb
  show ∃ X' b' t', spec_l1Cur_changed.L0 X L _ _ l b s = _ ∧ _
  have stop : ∀ b s, ∃ X' b' t', spec_l1Cur_changed.J1 X X.length false l b s = some (X', b', t') ∧ DrawnN X' := fun b s => by
   rw [spec_l1Cur_changed.J1_eq, if_neg (by simp)]
   exact ⟨_, _, _, rfl, by omega, hs⟩
  rw [spec_l1Cur_changed.L0_eq, if_neg (by omega)]
  by_cases c1 : (X.length : Int) > 0
  case neg => rw [if_neg c1]; exact stop _ _
  rw [if_pos c1]
  by_cases c2 : (X.length : Int) < 40
  case neg => rw [if_neg c2]; exact stop _ _
  rw [if_pos c2]
  obtain ⟨c, b2, t2, h2, i2, j2⟩ := one_tells l hl b s 2 (by omega) (by omega)
  simp only [h2, Option.bind_some]
  cases c
  ·exact stop _ _
  obtain ⟨r3, b3, t3, h3, _, _, i3, j3⟩ := pick_tells l hl b2 t2 4 (by omega) (by omega)
  rw [spec_l1Cur_changed.J1_eq, if_pos rfl, wrap_in (x := (X.length : Int) - 1) (by omega) (by omega), if_pos (by omega), if_pos (by omega)]
  simp only [h3, Option.bind_some]
  obtain ⟨x, y, g, b4, t4, h4, z4, i4, j4⟩ := note_tells l hl b3 t3 (wrap64 ((rd_T50 X ((X.length : Int) - 1)).f1 + r3)) (by omega)
  simp only [h4, Option.bind_some]
  rw [if_pos (by omega)]
  refine ⟨_, _, _, rfl, by simp; omega, fun z hz => ?_⟩
  rcases List.mem_append.1 hz with hz | hz
  ·exact hs z hz
  ·obtain rfl := List.mem_singleton.1 hz
   exact z4
 ·intro i x t hi hx hd _ ih X b s hX hs hb
  have hxs := hl2 x (mem_drop hd)
  have fin : ∀ (y : Note) (v b' s' : Int), y.f2.size ≤ 9 → (0 ≤ b' ∧ b' ≤ 3000 + 10 * i + 10) → ∃ X' b'' t', (if (X.length : Int) = 0 then (if X.length < 4398046511104 then (spec_l1Cur_changed.L0 (X ++ [y]) L L.length ((i : Int) + 1) l b' s') else none) else (if 0 ≤ (wrap64 ((X.length : Int) - 1)) then (if (wrap64 ((X.length : Int) - 1)) < (X.length : Int) then (if ((rd_T50 X (wrap64 ((X.length : Int) - 1))).f1) ≤ v then (if X.length < 4398046511104 then (spec_l1Cur_changed.L0 (X ++ [y]) L L.length ((i : Int) + 1) l b' s') else none) else (spec_l1Cur_changed.L0 X L L.length ((i : Int) + 1) l b' s')) else none) else none)) = some (X', b'', t') ∧ DrawnN X' := by
   intro y v b' s' hy hb'
   have add := ih (X ++ [y]) b' s' (by simp; omega) (fun z hz => by
    rcases List.mem_append.1 hz with hz | hz
    ·exact hs z hz
    ·obtain rfl := List.mem_singleton.1 hz
     exact hy) (by omega)
   by_cases c : (X.length : Int) = 0
   ·rw [if_pos c, if_pos (by omega)]; exact add
   ·rw [if_neg c, wrap_in (x := (X.length : Int) - 1) (by omega) (by omega), if_pos (by omega), if_pos (by omega)]
    split
    ·rw [if_pos (by omega)]; exact add
    ·exact ih X b' s' (by omega) hs (by omega)
  show ∃ X' b' t', spec_l1Cur_changed.L0 X L _ _ l b s = _ ∧ _
  rw [spec_l1Cur_changed.L0_eq, if_pos (by omega), if_pos (by omega), if_pos (by omega), rd_note, hx, wrap_in (x := (i : Int) + 1) (by omega) (by omega)]
  obtain ⟨r1, b1, t1, h1, _, _, i1, j1⟩ := pick_tells l hl b s 6 (by omega) (by omega)
  simp only [h1, Option.bind_some]
  by_cases c0 : r1 = 0
  ·rw [if_pos c0]; exact ih X b1 t1 (by omega) hs (by omega)
  rw [if_neg c0]
  by_cases c1 : r1 = 1
  ·rw [if_pos c1]
   generalize hq : ([(⟨#[71, 79]⟩ : ByteArray), (⟨#[73]⟩ : ByteArray), (⟨#[66, 79, 79, 75]⟩ : ByteArray)] : List ByteArray) = q
   have hqq : ∀ x ∈ q, x.size ≤ 9 := by rw [← hq]; simp only [List.mem_cons, List.not_mem_nil, or_false]; rintro x (rfl | rfl | rfl) <;> decide
   obtain ⟨r2, b2, t2, h2, m2, i2, j2⟩ := of_tells l hl b1 t1 q (by omega) (by rw [← hq]; simp)
   simp only [h2, Option.bind_some]
   exact fin ⟨x.f0, x.f1, r2⟩ _ _ _ (hqq _ m2) (by omega)
  rw [if_neg c1]
  by_cases c2 : r1 = 2
  ·rw [if_pos c2]
   obtain ⟨r2, b2, t2, h2, _, _, i2, j2⟩ := pick_tells l hl b1 t1 3 (by omega) (by omega)
   obtain ⟨m, hm⟩ := most_tells (wrap64 (x.f0 + 1)) (wrap64 (x.f1 - r2))
   simp only [h2, hm, Option.bind_some]
   exact fin ⟨x.f0, m, x.f2⟩ _ _ _ hxs (by omega)
  rw [if_neg c2]
  exact fin x _ _ _ hxs (by omega)
theorem drawIns_tells (l : List Int) (hl : Bytes l) : ∃ A B, spec_DrawNotesInside.F l = some (A, B) ∧ DrawnN A ∧ DrawnN B := by
 obtain ⟨L, b, t, h1, hL, i1, j1⟩ := tier_tells l hl
 rw [spec_DrawNotesInside.F_eq, spec_DrawCommonNotes.F_eq]
 simp only [h1, Option.bind_some, tiGood_some _ hL.sized]
 have two : ∀ (c : Bool) (b t : Int), (0 ≤ b ∧ b ≤ 3000) → ∃ B, spec_DrawCommonNotes.J0 L c l b t = some (L, B) ∧ DrawnN B := by
  intro c b t hb
  rw [spec_DrawCommonNotes.J0_eq]
  cases c
  ·obtain ⟨X, b', t', h2, hX⟩ := tier_tells' l hl b t hb
   rw [if_neg (by simp)]
   simp only [h2, Option.bind_some]
   exact ⟨_, rfl, hX⟩
  ·obtain ⟨X, b', t', h2, hX⟩ := changed_tells l hl b t L hL hb
   rw [if_pos rfl]
   simp only [h2, Option.bind_some]
   exact ⟨_, rfl, hX⟩
 cases isTier L
 ·obtain ⟨B, h2, hB⟩ := two false b t (by omega)
  rw [if_neg (by simp)]
  simp only [h2, Option.bind_some]
  exact ⟨_, _, rfl, hL, hB⟩
 ·rw [if_pos rfl]
  obtain ⟨c, b2, t2, h2, i2, j2⟩ := one_tells l hl b t 6 (by omega) (by omega)
  simp only [h2, Option.bind_some]
  obtain ⟨B, h3, hB⟩ := two (!c) b2 t2 (by omega)
  simp only [h3, Option.bind_some]
  exact ⟨_, _, rfl, hL, hB⟩

/-! ### The law, from its end -/
theorem j8 (W : List Note) (seven : Bool) (f : Int) (h : seven = true → isTier W = true ∧ ∀ j, j + 1 < W.length → gapAt W j ≤ f) : laws_FnTierCounts.J8 W seven f = some true := by
 rw [laws_FnTierCounts.J8_eq]
 cases seven
 ·rfl
 rw [if_pos rfl]
 obtain ⟨hg, hf⟩ := h rfl
 obtain ⟨hl1, hl2⟩ := tier_facts hg
 have key : ∀ d i : Nat, i + 1 + d = W.length + 1 → laws_FnTierCounts.L3 W f ((i + 1 : Nat) : Int) = some true := by
  intro d
  induction d with
  | zero => intro i hi; rw [laws_FnTierCounts.L3_eq, if_neg (by omega)]
  | succ d ih =>
   intro i hi
   by_cases c : i + 1 < W.length
   case neg => rw [laws_FnTierCounts.L3_eq, if_neg (by omega)]
   have h1 := (hl2 _ (note_mem (L := W) (m := i) (by omega))).1
   have h2 := (hl2 _ (note_mem (L := W) (m := i + 1) c)).1
   have h3 := hf i c
   have e : ((i + 1 : Nat) : Int) - 1 = (i : Int) := by omega
   unfold gapAt at h3
   rw [laws_FnTierCounts.L3_eq, if_pos (by omega), if_pos (by omega), wrap_in (x := ((i + 1 : Nat) : Int) - 1) (by omega) (by omega), e, if_pos (by omega), if_pos (by omega), rd_note, rd_note, wrap_in (by omega) (by omega), if_neg (by omega), wrap_in (by omega) (by omega)]
   exact ih (i + 1) (by omega)
 exact key W.length 0 (by omega)
theorem l2 (n : Int) (W V : List Note) (seven : Bool) (f : Int) (hV : isTier V = true) (hj : laws_FnTierCounts.J8 W seven f = some true) : laws_FnTierCounts.L2 n (selFrom (isLong n) 0 V) W seven f V V.length 0 = some true := by
 obtain ⟨hl1, hl2⟩ := tier_facts hV
 have hll := sel_length (isLong n) 0 V
 refine each (L := fun i => laws_FnTierCounts.L2 n (selFrom (isLong n) 0 V) W seven f V V.length i) V z50 (fun _ _ o => o = some true) ?_ ?_
 ·show laws_FnTierCounts.L2 n _ W seven f V _ _ = _
  rw [laws_FnTierCounts.L2_eq, if_neg (by omega), hj]
 ·intro i x t hi hx hd _ ih
  have hf := (hl2 x (mem_drop hd)).1
  have hq := mem_sel (isLong n) i V 0 (by omega) (by omega)
  rw [Nat.sub_zero, hx] at hq
  have hd2 : decide ((i : Int) ∈ selFrom (isLong n) 0 V) = isLong n x := by
   cases hk : isLong n x
   ·exact decide_eq_false (fun hmem => by rw [hk] at hq; exact absurd (hq.1 hmem) (by simp))
   ·exact decide_eq_true (hq.2 hk)
  show laws_FnTierCounts.L2 n _ W seven f V _ _ = _
  rw [laws_FnTierCounts.L2_eq, if_pos (by omega), if_pos (by omega), if_pos (by omega), qHas_some _ _ (by omega), hd2, Option.bind_some, rd_note, hx, wrap_in (x := x.f1 - x.f0) (by omega) (by omega), wrap_in (x := (i : Int) + 1) (by omega) (by omega), if_neg (by simp [isLong])]
  exact ih
theorem j5 (A B : List Note) (r : List (List Int)) (V : List Note) (n : Int) (five : Bool) (g : List Int) (W : List Note) (seven : Bool) (f : Int) (hr : r.length ≤ 1600) (hok : ∀ y ∈ r, InsOk A B y)
 (hj : laws_FnTierCounts.J8 W seven f = some true) (h5 : five = true → laws_FnTierCounts.L2 n g W seven f V V.length 0 = some true) (hA : A.length ≤ 41) (hB : B.length ≤ 41) : laws_FnTierCounts.J5 A B r V n five g W seven f = some true := by
 rw [laws_FnTierCounts.J5_eq]
 refine each (L := fun i => laws_FnTierCounts.L1 A B V n five g W seven f r r.length i) r [] (fun _ _ o => o = some true) ?_ ?_
 ·show laws_FnTierCounts.L1 A B V n five g W seven f r _ _ = _
  rw [laws_FnTierCounts.L1_eq, if_neg (by omega)]
  cases five
  ·rw [if_neg (by simp)]; exact hj
  ·rw [if_pos rfl]; exact h5 rfl
 ·intro m x t hm hx hd _ ih
  obtain ⟨i, k, rfl, h1, h2, h3, h4⟩ := hok x (mem_drop hd)
  have e0 : rd [(i : Int), (k : Int)] 0 = i := rfl
  have e1 : rd [(i : Int), (k : Int)] 1 = k := rfl
  show laws_FnTierCounts.L1 A B V n five g W seven f r _ _ = _
  rw [laws_FnTierCounts.L1_eq, if_pos (by omega), if_pos (by omega), if_pos (by omega), rd_row, hx, e0, e1, if_pos (by simp), if_pos (by omega), if_pos (by omega), if_pos (by simp), if_pos (by omega), if_pos (by omega), rd_note, rd_note, if_neg (by omega), if_neg (by omega), wrap_in (x := (m : Int) + 1) (by omega) (by omega)]
  exact ih
theorem j2 (u : List Note) (p : ByteArray) (a : Int) (one : Bool) (k : Int) (A B : List Note) (r : List (List Int)) (V : List Note) (n : Int) (five : Bool) (g : List Int) (W : List Note) (seven : Bool) (f : Int) (hu : DrawnN u) (hp : p.size ≤ 9)
 (hj : laws_FnTierCounts.J5 A B r V n five g W seven f = some true)
 (h1 : one = true → isTier u = true ∧ isPat p = true ∧ (0 ≤ a ∧ a ≤ 99999) ∧ ∃ m : Nat, k = m ∧ m < u.length ∧ lk p.data.toList (u.getD m z50).f2.data.toList = true ∧ ∀ j, j < u.length → lk p.data.toList (u.getD j z50).f2.data.toList = true → aw (u.getD m z50) a ≤ aw (u.getD j z50) a) :
 laws_FnTierCounts.J2 u p a one k A B r V n five g W seven f = some true := by
 rw [laws_FnTierCounts.J2_eq]
 cases one
 ·rw [if_neg (by simp)]; exact hj
 obtain ⟨hg, hip, ha, m, rfl, hm, hlk, hbest⟩ := h1 rfl
 have hmem := note_mem (L := u) hm
 have hw := tier_word hg _ hmem
 have e : mg p (u.getD m z50).f2 = (true, true) := by unfold mg; rw [if_pos ⟨hip, hw⟩, hlk]
 obtain ⟨at_, was, k1, k2⟩ := noteAt_tells u a hg ha
 rw [if_pos rfl, if_pos (by omega), if_pos (by omega), rd_note, implMatches_some _ _ (by omega) (by have := hu.2 _ hmem; omega), e, Option.bind_some]
 simp only [if_true, Bool.not_true, laws_FnTierCounts.J3_eq, Bool.false_eq_true, if_false, k1, Option.bind_some]
 cases was
 ·rw [if_neg (by simp), laws_FnTierCounts.J4_eq, if_neg (by simp)]; exact hj
 rw [if_pos rfl, laws_FnTierCounts.J4_eq]
 obtain ⟨j, rfl, hj1, hj2⟩ := k2 rfl
 by_cases c : ((j : Int) != (m : Int)) = true
 case neg => rw [if_neg c]; exact hj
 rw [if_pos c]
 have hjm := note_mem (L := u) hj1
 have hno : lk p.data.toList (u.getD j z50).f2.data.toList = false := by
  cases hx : lk p.data.toList (u.getD j z50).f2.data.toList
  ·rfl
  ·have h3 := hbest j hj1 hx
   have h4 := zero_aw (x := u.getD m z50) (a := a) (Int.le_trans h3 (aw_zero hj2))
   have := tier_one hg hj1 hm hj2 h4
   subst this
   simp at c
 have e2 : mg p (u.getD j z50).f2 = (false, true) := by unfold mg; rw [if_pos ⟨hip, tier_word hg _ hjm⟩, hno]
 rw [if_pos (by omega), if_pos (by omega), rd_note, specMatches_some _ _ (by omega) (by have := hu.2 _ hjm; omega), e2, Option.bind_some]
 simpa using hj
theorem l0 (L : List Note) (P : List TC) (u : List Note) (p : ByteArray) (a : Int) (one : Bool) (k : Int) (A B : List Note) (r : List (List Int)) (V : List Note) (n : Int) (five : Bool) (g : List Int) (W : List Note) (seven : Bool) (f : Int)
 (hL : L.length ≤ 40) (hP : P.length ≤ 41) (hs : Strict (P.map (·.1))) (hsum : (P.map (·.2)).sum = L.length) (hpos : ∀ q ∈ P, 1 ≤ q.2)
 (hj : laws_FnTierCounts.J2 u p a one k A B r V n five g W seven f = some true) :
 laws_FnTierCounts.L0 L (P.map (·.1)) (P.map (·.2)) u p a one k A B r V n five g W seven f 0 (P.map (·.2)) (P.map (·.2)).length 0 = some true := by
 have len1 : (P.map (·.1)).length = P.length := by simp
 have len2 : (P.map (·.2)).length = P.length := by simp
 have sum_nn : ∀ t : List TC, (∀ q ∈ t, 1 ≤ q.2) → 0 ≤ (t.map (·.2)).sum := by
  intro t
  induction t with
  | nil => intro _; simp
  | cons q t ih =>
   intro h
   have := ih (fun x hx => h x (by simp [hx]))
   have := h q (by simp)
   simp only [List.map_cons, List.sum_cons]; omega
 refine each (L := fun i => fun s => laws_FnTierCounts.L0 L (P.map (·.1)) (P.map (·.2)) u p a one k A B r V n five g W seven f s (P.map (·.2)) (P.map (·.2)).length i) P (ByteArray.empty, (0 : Int)) (fun i t o => ∀ s : Int, 0 ≤ s → s + (t.map (·.2)).sum = L.length → (∀ q ∈ t, 1 ≤ q.2) → o s = some true) ?_ ?_ 0 (by omega) (by simpa using hsum) hpos
 ·intro s _ h1 _
  show laws_FnTierCounts.L0 L _ _ u p a one k A B r V n five g W seven f s _ _ _ = _
  rw [laws_FnTierCounts.L0_eq, if_neg (by omega), if_pos (by simpa using h1), if_pos (by omega)]
  exact hj
 ·intro i x t hi hx hd _ ih s hs0 h1 h2
  have hx1 := h2 x (by simp)
  have hst := sum_nn t (fun q hq => h2 q (by simp [hq]))
  simp only [List.map_cons, List.sum_cons] at h1
  have g1 : ∀ j, j < P.length → (P.map (·.1)).getD j ByteArray.empty = (P.getD j (ByteArray.empty, (0 : Int))).1 := fun j hj => by
   simp [hj]
  have g2 : (P.map (·.2)).getD i 0 = x.2 := by
   rw [← hx]; simp [hi]
  show laws_FnTierCounts.L0 L _ _ u p a one k A B r V n five g W seven f s _ _ _ = _
  rw [laws_FnTierCounts.L0_eq, if_pos (by omega), if_pos (by omega), if_pos (by omega), rdI, g2, if_neg (by omega), wrap_in (x := s + x.2) (by omega) (by omega), wrap_in (x := (i : Int) + 1) (by omega) (by omega)]
  have go := ih (s + x.2) (by omega) (by omega) (fun q hq => h2 q (by simp [hq]))
  by_cases c : (i : Int) > 0
  case neg => rw [if_neg c]; exact go
  have e : (i : Int) - 1 = ((i - 1 : Nat) : Int) := by omega
  have hlt : (rdOf ByteArray.empty (P.map (·.1)) ((i - 1 : Nat) : Int)).toList < (rdOf ByteArray.empty (P.map (·.1)) (i : Int)).toList := by
   have hp := List.pairwise_iff_getElem.1 hs (i - 1) i (by omega) (by omega) (by omega)
   rw [rd_txt, rd_txt, List.getD_eq_getElem?_getD, List.getD_eq_getElem?_getD, List.getElem?_eq_getElem (by omega), List.getElem?_eq_getElem (by omega)]
   exact hp
  rw [if_pos c, wrap_in (x := (i : Int) - 1) (by omega) (by omega), e, if_pos (by omega), if_pos (by omega), if_pos (by omega), bytesLess_eq, if_pos (decide_eq_true hlt)]
  exact go
theorem FnTierCounts : laws_FnTierCounts.Pure := by
 intro l0_ l1 _ m0 w0 _ m1 w1
 refine lim_rounds (?_ : laws_FnTierCounts.F l0_ l1 = some true)
 rw [laws_FnTierCounts.F_eq]
 by_cases hbig : (wrap64 ((l0_.length : Int) + (l1.length : Int))) > 1048576
 ·rw [if_pos hbig]
 rw [if_neg hbig]
 rw [wrap_in (by omega) (by omega)] at hbig
 have B0 := bytes_of (l := l0_) (by omega) w0
 have B1 := bytes_of (l := l1) (by omega) w1
 obtain ⟨L, d1, hL⟩ := drawTier_tells l0_ B0
 obtain ⟨u, p, a, d2, hu, hp⟩ := drawNear_tells l1 B1
 obtain ⟨A, B, d3, hA, hB⟩ := drawIns_tells l1 B1
 obtain ⟨V, n, d4, hV⟩ := drawLong_tells l1 B1
 obtain ⟨W, d5, hW⟩ := drawTier_tells l1 B1
 obtain ⟨P, ok, c1, c2, c3, c4⟩ := counts_same L hL
 obtain ⟨k, one, n1, n2, n3⟩ := nearest_same u p a hu hp
 obtain ⟨r, three, r1, r2, r3, r4⟩ := inside_same A B hA hB
 obtain ⟨g, five, g1, g2, g3, g4⟩ := longs_same V n hV
 obtain ⟨gk, f, seven, f1, f2, f3⟩ := gap_same W hW
 have hj8 := j8 W seven f f3
 have h5 : five = true → laws_FnTierCounts.L2 n g W seven f V V.length 0 = some true := fun e => by
  obtain ⟨rfl, hg⟩ := g4 e
  exact l2 n W V seven f hg hj8
 have hj5 := j5 A B r V n five g W seven f r3 r4 hj8 h5 hA.1 hB.1
 have hj2 := j2 u p a one k A B r V n five g W seven f hu hp hj5 n3
 have q0 := qTexts_refl (P.map (·.1)) (by simp; omega)
 have q1 := qInts_refl (P.map (·.2)) (by simp; omega)
 have q2 := qLists_refl r (by omega) (fun x hx => by obtain ⟨i, k, rfl, _⟩ := r4 x hx; simp)
 have q3 := qInts_refl g (by omega)
 have d1' : spec_DrawCountGlosses.F l0_ = some L := by rw [spec_DrawCountGlosses.F_eq, d1]; rfl
 have d5' : spec_DrawLongestGap.F l1 = some W := by rw [spec_DrawLongestGap.F_eq, d5]; rfl
 simp only [d1', d2, d3, d4, d5', Option.bind_some, c1, c2, n1, n2, r1, r2, g1, g2, f1, f2, bne_self_eq_false, Bool.false_eq_true, if_false, q0, q1, q2, q3, if_true, laws_FnTierCounts.J0_eq]
 cases ok
 ·rw [if_neg (by simp)]; exact hj2
 ·obtain ⟨s1, s2, s3, s4⟩ := c4 rfl
  rw [if_pos rfl]
  exact l0 L P u p a one k A B r V n five g W seven f s4 c3 s1 s2 s3 hj2

end Go.Proofs.Ytbfkpgmdbafmhaa.Pure
