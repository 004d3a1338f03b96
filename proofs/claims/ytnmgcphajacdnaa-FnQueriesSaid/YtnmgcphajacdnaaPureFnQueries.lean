/- The pure statement of the law FnQueries: for all arguments within their bounds its Lean function answers true. -/
import Derived.Test.YtnmgcphajacdnaaPFnQueriesxD0
namespace Go.Proofs.Ytnmgcphajacdnaa.Pure
open Go.RowKit Go.Proofs.Ytnmgcphajacdnaa.PFnQueries Go.Proofs.YtnmgcphajacdnaaW.PrintWords Go.Proofs.YtnmgcphajacdnaaW.PrintLast
set_option linter.unusedVariables false
set_option linter.unusedSimpArgs false
/-! ### Numbers, loops, letters -/
theorem wrap_in {x : Int} (h0 : -9223372036854775808 ≤ x) (h1 : x ≤ 9223372036854775807) : wrap64 x = x := by
 unfold wrap64; omega
theorem wf_i64 {n : Int} (h : (Lit.int .i64 n).wf = true) : -9223372036854775808 ≤ n ∧ n ≤ 9223372036854775807 := by
 simpa [Lit.wf, IntKind.min, IntKind.max, IntKind.signed, IntKind.bits] using h
/-- A loop over a list, from its end. L: what the loop tells from place i on. -/
theorem each {α γ : Type} (L : Int → γ) (l : List α) (z : α) (R : Nat → List α → γ → Prop) (nil : R l.length [] (L l.length))
 (cons : ∀ (i : Nat) (x : α) (t : List α), i < l.length → l.getD i z = x → l.drop i = x :: t → l.drop (i + 1) = t → R (i + 1) t (L ((i : Int) + 1)) → R i (x :: t) (L i)) : R 0 l (L 0) := by
 have key : ∀ (t : List α) (i : Nat), l.drop i = t → i ≤ l.length → R i t (L i) := by
  intro t
  induction t with
  | nil =>
   intro i h hi
   have : l.length ≤ i := by simpa [List.drop_eq_nil_iff] using h
   obtain rfl : i = l.length := by omega
   exact nil
  | cons x t ih =>
   intro i h hi
   have hlt : i < l.length := by
    rcases Nat.lt_or_ge i l.length with h' | h'
    ·exact h'
    ·rw [List.drop_eq_nil_of_le h'] at h; cases h
   have h2 := List.drop_eq_getElem_cons hlt
   rw [h] at h2
   injection h2 with h3 h4
   refine cons i x t hlt ?_ h h4.symm ?_
   ·rw [List.getD_eq_getElem?_getD, List.getElem?_eq_getElem hlt]; exact h3.symm
   ·have := ih (i + 1) h4.symm (by omega)
    rwa [show ((i + 1 : Nat) : Int) = (i : Int) + 1 from by omega] at this
 have := key l 0 rfl (Nat.zero_le _)
 rwa [show ((0 : Nat) : Int) = 0 from rfl] at this
theorem bt_data (s : ByteArray) (i : Nat) (h : i < s.size) : bt s (i : Int) = ((s.data.toList.getD i 0).toNat : Int) := by
 obtain ⟨d⟩ := s
 have h' : i < d.size := h
 have : bt ⟨d⟩ (i : Int) = ((d[i]).toNat : Int) := by
  unfold bt
  rw [dif_pos (show ((i : Int)).toNat < (⟨d⟩ : ByteArray).size from by simpa using h)]
  rfl
 rw [this]
 simp [h']
theorem size_data (s : ByteArray) : s.size = s.data.toList.length := by
 obtain ⟨d⟩ := s; simp [ByteArray.size]
theorem toList_data (s : ByteArray) : s.toList = s.data.toList := by
 rw [ByteArray.toList_eq]
theorem ext_data {s t : ByteArray} (h : s.toList = t.toList) : s = t := by
 rw [toList_data, toList_data] at h
 obtain ⟨⟨a⟩⟩ := s
 obtain ⟨⟨b⟩⟩ := t
 simp at h
 rw [h]
theorem toList_iff {s t : ByteArray} : s.toList = t.toList ↔ s = t := ⟨ext_data, fun h => by rw [h]⟩
theorem mem_drop {α : Type} {l t : List α} {x : α} {i : Nat} (h : l.drop i = x :: t) : x ∈ l := List.mem_of_mem_drop (i := i) (by rw [h]; simp)

/-! ### Patterns: '*' (42) any letters, '?' (63) one -/
def anySuffix (f : List UInt8 → Bool) : List UInt8 → Bool
 | [] => f []
 | c :: t => f (c :: t) || anySuffix f t
def oneLetter (a : UInt8) (f : List UInt8 → Bool) : List UInt8 → Bool
 | [] => false
 | c :: t => (a == 63 || a == c) && f t
def lk : List UInt8 → List UInt8 → Bool
 | [] => List.isEmpty
 | a :: p => if a = 42 then anySuffix (lk p) else oneLetter a (lk p)
theorem anySuffix_iff (f : List UInt8 → Bool) : ∀ w, anySuffix f w = true ↔ ∃ s v, w = s ++ v ∧ f v = true
 | [] => by
  constructor
  ·intro h; exact ⟨[], [], rfl, h⟩
  ·rintro ⟨s, v, h1, h2⟩
   have := (List.append_eq_nil_iff.1 h1.symm).2
   subst this; exact h2
 | c :: t => by
  rw [anySuffix, Bool.or_eq_true, anySuffix_iff f t]
  constructor
  ·rintro (h | ⟨s, v, rfl, h⟩)
   ·exact ⟨[], c :: t, rfl, h⟩
   ·exact ⟨c :: s, v, rfl, h⟩
  ·rintro ⟨s, v, h1, h2⟩
   cases s with
   | nil => exact .inl (by rw [List.nil_append] at h1; rw [h1]; exact h2)
   | cons d s =>
    injection h1 with h3 h4
    exact .inr ⟨s, v, h4, h2⟩
theorem lk_append : ∀ (p q w : List UInt8), lk (p ++ q) w = true ↔ ∃ t u, w = t ++ u ∧ lk p t = true ∧ lk q u = true
 | [], q, w => by
  constructor
  ·intro h; exact ⟨[], w, rfl, rfl, h⟩
  ·rintro ⟨t, u, rfl, h1, h2⟩
   have : t = [] := by simpa [lk] using h1
   subst this; exact h2
 | a :: p, q, w => by
  by_cases ha : a = 42
  ·show lk (a :: (p ++ q)) w = true ↔ _
   rw [lk, if_pos ha, anySuffix_iff]
   constructor
   ·rintro ⟨s, v, rfl, h⟩
    obtain ⟨t, u, rfl, h1, h2⟩ := (lk_append p q v).1 h
    refine ⟨s ++ t, u, by simp, ?_, h2⟩
    rw [lk, if_pos ha, anySuffix_iff]
    exact ⟨s, t, rfl, h1⟩
   ·rintro ⟨t, u, rfl, h1, h2⟩
    rw [lk, if_pos ha, anySuffix_iff] at h1
    obtain ⟨s, v, rfl, h3⟩ := h1
    exact ⟨s, v ++ u, by simp, (lk_append p q _).2 ⟨v, u, rfl, h3, h2⟩⟩
  ·show lk (a :: (p ++ q)) w = true ↔ _
   rw [lk, if_neg ha]
   constructor
   ·intro h
    cases w with
    | nil => simp [oneLetter] at h
    | cons c w =>
     rw [oneLetter, Bool.and_eq_true] at h
     obtain ⟨t, u, rfl, h1, h2⟩ := (lk_append p q w).1 h.2
     refine ⟨c :: t, u, rfl, ?_, h2⟩
     rw [lk, if_neg ha, oneLetter, Bool.and_eq_true]
     exact ⟨h.1, h1⟩
   ·rintro ⟨t, u, rfl, h1, h2⟩
    rw [lk, if_neg ha] at h1
    cases t with
    | nil => simp [oneLetter] at h1
    | cons c t =>
     rw [oneLetter, Bool.and_eq_true] at h1
     rw [List.cons_append, oneLetter, Bool.and_eq_true]
     exact ⟨h1.1, (lk_append p q _).2 ⟨t, u, rfl, h1.2, h2⟩⟩
theorem lk_star (u : List UInt8) : lk [42] u = true := by
 rw [lk, if_pos rfl, anySuffix_iff]
 exact ⟨u, [], by simp, rfl⟩
theorem lk_one (a : UInt8) (ha : a ≠ 42) (u : List UInt8) : lk [a] u = true ↔ ∃ c, u = [c] ∧ (a = 63 ∨ a = c) := by
 rw [lk, if_neg ha]
 cases u with
 | nil => simp [oneLetter]
 | cons c u =>
  simp only [oneLetter, Bool.and_eq_true, Bool.or_eq_true, beq_iff_eq, lk, List.isEmpty_iff]
  constructor
  ·rintro ⟨h1, rfl⟩; exact ⟨c, rfl, h1⟩
  ·rintro ⟨d, h1, h2⟩
   injection h1 with h3 h4
   subst h3; exact ⟨h2, h4⟩
/-- A row's letter: what it is after one letter more of the pattern. -/
theorem lk_row0 (P : List UInt8) (c : UInt8) : lk (P ++ [c]) [] = true ↔ (c = 42 ∧ lk P [] = true) := by
 rw [lk_append]
 constructor
 ·rintro ⟨t, u, h, h1, h2⟩
  obtain ⟨rfl, rfl⟩ := List.append_eq_nil_iff.1 h.symm
  by_cases hc : c = 42
  ·exact ⟨hc, h1⟩
  ·obtain ⟨d, h3, _⟩ := (lk_one c hc []).1 h2
   cases h3
 ·rintro ⟨rfl, h⟩
  exact ⟨[], [], rfl, h, lk_star []⟩
theorem lk_rowS (P T : List UInt8) (c d : UInt8) : lk (P ++ [c]) (T ++ [d]) = true ↔ if c = 42 then (lk P (T ++ [d]) = true ∨ lk (P ++ [c]) T = true) else (lk P T = true ∧ (c = 63 ∨ c = d)) := by
 rw [lk_append]
 by_cases hc : c = 42
 ·subst hc
  rw [if_pos rfl]
  constructor
  ·rintro ⟨t, u, h, h1, _⟩
   rcases List.eq_nil_or_concat u with rfl | ⟨v, e, rfl⟩
   ·rw [List.append_nil] at h
    exact .inl (by rw [h]; exact h1)
   ·rw [List.concat_eq_append, ← List.append_assoc] at h
    obtain ⟨h3, _⟩ := List.append_inj' h rfl
    refine .inr ((lk_append _ _ _).2 ⟨t, v, h3, h1, lk_star v⟩)
  ·rintro (h | h)
   ·exact ⟨T ++ [d], [], by simp, h, lk_star []⟩
   ·obtain ⟨t, u, rfl, h1, _⟩ := (lk_append _ _ _).1 h
    exact ⟨t, u ++ [d], by simp, h1, lk_star _⟩
 ·rw [if_neg hc]
  constructor
  ·rintro ⟨t, u, h, h1, h2⟩
   obtain ⟨e, rfl, h3⟩ := (lk_one c hc u).1 h2
   obtain ⟨h4, h5⟩ := List.append_inj' h rfl
   injection h5 with h6
   subst h4; subst h6
   exact ⟨h1, h3⟩
  ·rintro ⟨h1, h2⟩
   exact ⟨T, [d], rfl, h1, (lk_one c hc [d]).2 ⟨d, rfl, h2⟩⟩
/-- A loop over places, from its end. -/
theorem upto {γ : Type} (L : Int → γ) (n : Nat) (R : Nat → γ → Prop) (fin : R n (L n)) (step : ∀ i : Nat, i < n → R (i + 1) (L ((i : Int) + 1)) → R i (L i)) : R 0 (L 0) := by
 have key : ∀ d i : Nat, i + d = n → R i (L i) := by
  intro d
  induction d with
  | zero =>
   intro i h
   obtain rfl : i = n := by omega
   exact fin
  | succ d ih =>
   intro i h
   refine step i (by omega) ?_
   have := ih (i + 1) (by omega)
   rwa [show ((i + 1 : Nat) : Int) = (i : Int) + 1 from by omega] at this
 exact key n 0 (by omega)


/-! ### Words of letters; angles -/
theorem within_some (a b c : Int) : impl_within.f a b c = some (decide (b ≤ a ∧ a ≤ c)) := by
 unfold impl_within.f
 by_cases h : b ≤ a
 ·rw [if_pos h]; simp [h]
 ·rw [if_neg h]; simp [h]
theorem l1In_some (a b c : Int) : spec_l1In.f a b c = some (decide (b ≤ a ∧ a ≤ c)) := by
 unfold spec_l1In.f
 by_cases h : b ≤ a
 ·rw [if_pos h]; simp [h]
 ·rw [if_neg h]; simp [h]
/-- All letters between two. -/
def inRange (lo hi : Nat) (l : List UInt8) : Bool := l.all fun c => decide (lo ≤ c.toNat ∧ c.toNat ≤ hi)
/-- One to eight letters between two. -/
def isWord (lo hi : Nat) (s : ByteArray) : Bool := decide (1 ≤ s.size ∧ s.size ≤ 8) && inRange lo hi s.data.toList
theorem dec_size (s : ByteArray) : decide ((1 : Int) ≤ s.size ∧ (s.size : Int) ≤ 8) = decide (1 ≤ s.size ∧ s.size ≤ 8) := by
 by_cases h : 1 ≤ s.size ∧ s.size ≤ 8
 ·rw [decide_eq_true h, decide_eq_true (by omega)]
 ·rw [decide_eq_false h, decide_eq_false (by omega)]


/-- What 'letters' says of a list of letters: they are those from lo to hi. -/
def Letters (lo hi : Nat) (m : ByteArray) : Prop := ∀ n, n < 256 → (decide (Lib.indexByte m.data.toList n.toUInt8 < 0)) = !decide (lo ≤ n ∧ n ≤ hi)
instance (lo hi : Nat) (m : ByteArray) : Decidable (Letters lo hi m) := by unfold Letters; infer_instance
theorem hasOnly_some (lo hi : Nat) (s m : ByteArray) (hs : s.size ≤ 9223372036854775807) (hm : Letters lo hi m) : impl_hasOnly.F s m = some (inRange lo hi s.data.toList) := by
 rw [impl_hasOnly.F_eq]
 refine each (L := fun i => impl_hasOnly.L0 s m s.size i) s.data.toList 0 (fun _ t o => o = some (inRange lo hi t)) ?_ ?_
 ·show impl_hasOnly.L0 s m _ _ = _
  rw [impl_hasOnly.L0_eq, if_neg (by rw [← size_data]; omega)]; rfl
 ·intro i x t hi' hx _ _ ih
  have hi2 : i < s.size := by rw [size_data]; exact hi'
  have hb := hm x.toNat x.toNat_lt
  show impl_hasOnly.L0 s m _ _ = _
  rw [impl_hasOnly.L0_eq, if_pos (by omega), if_pos (by omega), if_pos (by omega), bt_data s i hi2, hx, wrap_in (by omega) (by omega)]
  simp only [strings_IndexByte.f, stringslite_IndexByte.f, Option.bind_some, Int.toNat_natCast]
  by_cases h1 : lo ≤ x.toNat ∧ x.toNat ≤ hi
  ·rw [if_neg (by simp [h1] at hb; simpa using hb), ih]
   simp [inRange, h1]
  ·rw [if_pos (by simpa [h1] using hb)]
   simp [inRange, h1]
theorem isWordOf_some (lo hi : Nat) (s m : ByteArray) (hs : s.size ≤ 9223372036854775807) (hm : Letters lo hi m) : impl_isWordOf.F s m = some (isWord lo hi s) := by
 rw [impl_isWordOf.F_eq, within_some, hasOnly_some lo hi s m hs hm]
 simp only [Option.bind_some, isWord]
 by_cases h : 1 ≤ s.size ∧ s.size ≤ 8
 ·have : (1 : Int) ≤ s.size ∧ (s.size : Int) ≤ 8 := by omega
  simp [h, this]
 ·have : ¬ ((1 : Int) ≤ s.size ∧ (s.size : Int) ≤ 8) := by omega
  simp [h, this]

theorem hasOnlyP_some (p : Nat → Bool) (s m : ByteArray) (hs : s.size ≤ 9223372036854775807) (hm : ∀ n, n < 256 → (decide (Lib.indexByte m.data.toList n.toUInt8 < 0)) = !(p n)) : impl_hasOnly.F s m = some (s.data.toList.all fun c => p c.toNat) := by
 rw [impl_hasOnly.F_eq]
 refine each (L := fun i => impl_hasOnly.L0 s m s.size i) s.data.toList 0 (fun _ t o => o = some (t.all fun c => p c.toNat)) ?_ ?_
 ·show impl_hasOnly.L0 s m _ _ = _
  rw [impl_hasOnly.L0_eq, if_neg (by rw [← size_data]; omega)]; rfl
 ·intro i x t hi' hx _ _ ih
  have hi2 : i < s.size := by rw [size_data]; exact hi'
  have hb := hm x.toNat x.toNat_lt
  show impl_hasOnly.L0 s m _ _ = _
  rw [impl_hasOnly.L0_eq, if_pos (by omega), if_pos (by omega), if_pos (by omega), bt_data s i hi2, hx, wrap_in (by omega) (by omega)]
  simp only [strings_IndexByte.f, stringslite_IndexByte.f, Option.bind_some, Int.toNat_natCast]
  cases h1 : p x.toNat
  ·rw [if_pos (by simpa [h1] using hb)]; simp [h1]
  ·rw [if_neg (by simpa [h1] using hb), ih]; simp [h1]
def patLetter (n : Nat) : Bool := decide (65 ≤ n ∧ n ≤ 90) || n == 63 || n == 42
def isPat (s : ByteArray) : Bool := decide (1 ≤ s.size ∧ s.size ≤ 8) && (s.data.toList.all fun c => patLetter c.toNat)
theorem isPat_some (s : ByteArray) (hs : s.size ≤ 9223372036854775807) : impl_isGlossPattern.F s = some (isPat s) := by
 rw [impl_isGlossPattern.F_eq, impl_isWordOf.F_eq, within_some, hasOnlyP_some patLetter _ _ hs (by decide +kernel), dec_size]
 unfold isPat
 cases decide (1 ≤ s.size ∧ s.size ≤ 8) <;> simp
theorem quPattern_some (s : ByteArray) (hs : s.size ≤ 9223372036854775807) : spec_quPattern.F s = some (isPat s) := by
 rw [spec_quPattern.F_eq]
 have := each (L := fun i => spec_quPattern.L0 s i) s.data.toList 0 (fun _ t o => o = some ((t.all fun c => patLetter c.toNat) && decide (1 ≤ s.size ∧ s.size ≤ 8))) ?_ ?_
 ·rw [this, isPat, Bool.and_comm]
 ·show spec_quPattern.L0 s _ = _
  rw [spec_quPattern.L0_eq, if_neg (by rw [← size_data]; omega), l1In_some]
  simp only [Option.bind_some, List.all_nil, Bool.true_and, dec_size]
 ·intro i x t hi hx _ _ ih
  have hi' : i < s.size := by rw [size_data]; exact hi
  show spec_quPattern.L0 s _ = _
  rw [spec_quPattern.L0_eq, if_pos (by omega), if_pos (by omega), bt_data s i hi', hx, wrap_in (by omega) (by omega), List.all_cons]
  generalize x.toNat = n
  by_cases h3 : n = 63
  ·subst h3
   rw [if_pos (by omega), if_pos (by omega), show patLetter 63 = true from rfl, Bool.true_and]; exact ih
  by_cases h4 : n = 42
  ·subst h4
   rw [if_pos (by omega), if_neg (by omega), if_pos (by omega), show patLetter 42 = true from rfl, Bool.true_and]; exact ih
  by_cases h1 : n < 65
  ·have : patLetter n = false := by simp [patLetter, h3, h4]; omega
   rw [if_pos (by omega), if_neg (by omega), if_neg (by omega), this]; rfl
  by_cases h2 : n > 90
  ·have : patLetter n = false := by simp [patLetter, h3, h4]; omega
   rw [if_neg (by omega), if_pos (by omega), if_neg (by omega), if_neg (by omega), this]; rfl
  ·have : patLetter n = true := by simp [patLetter]; omega
   rw [if_neg (by omega), if_neg (by omega), this, Bool.true_and]; exact ih
theorem tail_data (s : ByteArray) (c : UInt8) (t : List UInt8) (h : s.data.toList = c :: t) : (s.extract 1 s.size).data.toList = t := by
 have hs := size_data s
 rw [h] at hs
 obtain ⟨d⟩ := s
 simp only at h
 simp [ByteArray.extract, ByteArray.copySlice, h] at hs ⊢
 rw [List.take_of_length_le (by omega)] 
theorem quLike_some (p t : ByteArray) (hp : p.size ≤ 1048576) (ht : t.size ≤ 1048576) : spec_quLike.F p t = some (lk p.data.toList t.data.toList) := by
 have key : ∀ (n : Nat) (p t : ByteArray), p.size + t.size ≤ n → p.size ≤ 1048576 → t.size ≤ 1048576 → spec_quLike.F p t = some (lk p.data.toList t.data.toList) := by
  intro n
  induction n with
  | zero =>
   intro p t h _ _
   have h1 : p.data.toList = [] := List.eq_nil_of_length_eq_zero (by rw [← size_data]; omega)
   have h2 : t.data.toList = [] := List.eq_nil_of_length_eq_zero (by rw [← size_data]; omega)
   rw [spec_quLike.F_eq, toList_data, toList_data, h1, h2, if_pos rfl]; rfl
  | succ n ih =>
   intro p t h hp ht
   have sp := size_data p
   have st := size_data t
   rw [spec_quLike.F_eq, toList_data, toList_data]
   cases hpl : p.data.toList with
   | nil => rw [if_pos rfl]; cases t.data.toList <;> rfl
   | cons a P =>
    rw [hpl, List.length_cons] at sp
    have hpt := tail_data p a P hpl
    have spt := size_data (p.extract 1 p.size)
    rw [hpt] at spt
    have b0 : bt p 0 = (a.toNat : Int) := by
     have := bt_data p 0 (by omega)
     rw [hpl] at this; simpa using this
    rw [if_neg (by simp), if_pos (by omega), b0]
    by_cases ha : a = 42
    ·subst ha
     rw [if_pos (show ((UInt8.toNat 42 : Nat) : Int) = 42 from rfl), if_pos (by omega), ih _ _ (by omega) (by omega) ht, hpt, Option.bind_some, lk, if_pos rfl]
     cases htl : t.data.toList with
     | nil =>
      rw [anySuffix]
      cases hb : lk P []
      ·rw [if_neg (by simp), if_pos rfl]
      ·rw [if_pos rfl]
     | cons d T =>
      rw [htl, List.length_cons] at st
      have htt := tail_data t d T htl
      have stt := size_data (t.extract 1 t.size)
      rw [htt] at stt
      rw [anySuffix]
      cases hb : lk P (d :: T)
      ·rw [if_neg (by simp), if_neg (by simp), if_pos (by omega), ih _ _ (by omega) hp (by omega), htt, hpl, Option.bind_some, lk, if_pos rfl, Bool.false_or]
      ·rw [if_pos rfl]; rfl
    ·have ha' : ¬ ((a.toNat : Int) = 42) := fun h => ha (UInt8.toNat_inj.1 (by rw [show (42 : UInt8).toNat = 42 from rfl]; omega))
     rw [if_neg ha', lk, if_neg ha]
     cases htl : t.data.toList with
     | nil => rw [if_pos rfl]; rfl
     | cons d T =>
      rw [htl, List.length_cons] at st
      have htt := tail_data t d T htl
      have stt := size_data (t.extract 1 t.size)
      rw [htt] at stt
      have b1 : bt t 0 = (d.toNat : Int) := by
       have := bt_data t 0 (by omega)
       rw [htl] at this; simpa using this
      have e63 : ((a.toNat : Int) = 63) ↔ a = 63 := ⟨fun h => UInt8.toNat_inj.1 (by rw [show (63 : UInt8).toNat = 63 from rfl]; omega), fun h => by subst h; rfl⟩
      have ed : ((a.toNat : Int) = (d.toNat : Int)) ↔ a = d := ⟨fun h => UInt8.toNat_inj.1 (by omega), fun h => by subst h; rfl⟩
      rw [if_neg (by simp), oneLetter, b1]
      by_cases h6 : a = 63
      ·rw [if_pos (e63.2 h6), if_pos (by omega), if_pos (by omega), ih _ _ (by omega) (by omega) (by omega), hpt, htt]; simp [h6]
      ·rw [if_neg (fun h => h6 (e63.1 h)), if_pos (by omega)]
       by_cases h7 : a = d
       ·rw [if_pos (ed.2 h7), if_pos (by omega), if_pos (by omega), ih _ _ (by omega) (by omega) (by omega), hpt, htt]; simp [h7]
       ·rw [if_neg (fun h => h7 (ed.1 h))]; simp [h6, h7]
 exact key _ p t (Nat.le_refl _) hp ht

/-! ### The table of fits -/
theorem rd_bool (l : List Bool) (i : Nat) : rdOf false l (i : Int) = l.getD i false := by simp [rdOf]
/-- A row is right: at j it tells whether i letters of the pattern fit j letters of the text. -/
def RowOk (p t : List UInt8) (i : Nat) (row : List Bool) (upTo : Nat) : Prop := ∀ j, j < upTo → row.getD j false = lk (p.take i) (t.take j)
theorem getD_set_eq (l : List Bool) (i : Nat) (v : Bool) (h : i < l.length) : (l.set i v).getD i false = v := by
 rw [List.getD_eq_getElem?_getD, List.getElem?_set_self h]; rfl
theorem getD_set_ne (l : List Bool) (i j : Nat) (v : Bool) (h : i ≠ j) : (l.set i v).getD j false = l.getD j false := by
 rw [List.getD_eq_getElem?_getD, List.getElem?_set_ne h, ← List.getD_eq_getElem?_getD]
theorem take_last {α : Type} (l : List α) (i : Nat) (h : i < l.length) : l.take (i + 1) = l.take i ++ [l[i]] := List.take_succ_eq_append_getElem h
theorem rowSet {p t : List UInt8} {i j : Nat} {row : List Bool} {v : Bool} (hr : RowOk p t i row j) (hj : j < row.length) (hv : v = lk (p.take i) (t.take j)) : RowOk p t i (row.set j v) (j + 1) := by
 intro k hk
 by_cases h : k = j
 ·subst h; rw [getD_set_eq _ _ _ hj, hv]
 ·rw [getD_set_ne _ _ _ _ (fun e => h e.symm)]; exact hr k (by omega)
theorem fits_inner (p t : ByteArray) (i : Nat) (hi : i < p.size) (hp : p.size ≤ 1048576) (ht : t.size ≤ 1048576) (x5 : List Bool) (h5 : x5.length = t.size + 1) (r5 : RowOk p.data.toList t.data.toList i x5 (t.size + 1)) (r : Option Bool)
 (next : ∀ x7 : List Bool, x7.length = t.size + 1 → RowOk p.data.toList t.data.toList (i + 1) x7 (t.size + 1) → impl_fits.L0 p t x7 p.size ((i : Int) + 1) = r) :
 impl_fits.L1 p t x5 i (List.replicate x5.length false) p.size i x5.length 0 = r := by
 have sp := size_data p
 have st := size_data t
 have hip : i < p.data.toList.length := by omega
 have bi : bt p (i : Int) = ((p.data.toList[i]).toNat : Int) := by
  rw [bt_data p i hi, List.getD_eq_getElem?_getD, List.getElem?_eq_getElem hip]; rfl
 have tk := take_last p.data.toList i hip
 generalize hc : p.data.toList[i] = c at bi tk
 refine upto (fun j => fun x7 => impl_fits.L1 p t x5 i x7 p.size i x5.length j) x5.length (fun j f => ∀ x7 : List Bool, x7.length = t.size + 1 → RowOk p.data.toList t.data.toList (i + 1) x7 j → f x7 = r) ?_ ?_ _ (by simp [h5]) (fun j hj => absurd hj (by omega))
 ·intro x7 h7 r7
  show impl_fits.L1 p t x5 i x7 _ _ _ _ = _
  rw [impl_fits.L1_eq, if_neg (by omega), wrap_in (by omega) (by omega)]
  exact next x7 h7 (by rw [← h5]; exact r7)
 ·intro j hj ih x7 h7 r7
  have r5j := r5 j (by omega)
  have go : ∀ v : Bool, v = lk (p.data.toList.take (i + 1)) (t.data.toList.take j) → impl_fits.L1 p t x5 i (x7.set j v) p.size i x5.length ((j : Int) + 1) = r := fun v hv => ih _ (by simpa using h7) (rowSet r7 (by omega) hv)
  rw [tk] at go
  have e63 : ((c.toNat : Int) = 63) ↔ c = 63 := ⟨fun h => UInt8.toNat_inj.1 (by rw [show (63 : UInt8).toNat = 63 from rfl]; omega), fun h => by subst h; rfl⟩
  have e42 : ((c.toNat : Int) = 42) ↔ c = 42 := ⟨fun h => UInt8.toNat_inj.1 (by rw [show (42 : UInt8).toNat = 42 from rfl]; omega), fun h => by subst h; rfl⟩
  show impl_fits.L1 p t x5 i x7 _ _ _ _ = _
  rw [impl_fits.L1_eq, if_pos (by omega), if_pos (by omega), if_pos (by omega), bi, wrap_in (x := (j : Int) + 1) (by omega) (by omega), rd_bool, r5j, Int.toNat_natCast]
  rcases Nat.eq_zero_or_pos j with h0 | h0
  ·subst h0
   rw [List.take_zero] at go ⊢
   have g0 := lk_row0 (p.data.toList.take i) c
   by_cases hc42 : c = 42
   ·rw [if_pos (e42.2 hc42), if_pos (by omega), if_pos (by omega)]
    cases hv : lk (p.data.toList.take i) []
    ·rw [if_neg (by simp), if_neg (by omega), if_pos (by omega)]
     refine go false ?_
     rw [Bool.eq_iff_iff, g0, hv]; simp
    ·rw [if_pos rfl, if_pos (by omega)]
     refine go true ?_
     rw [Bool.eq_iff_iff, g0, hv]; simp [hc42]
   ·rw [if_neg (fun h => hc42 (e42.1 h)), if_neg (by omega), if_pos (by omega), if_pos (by omega)]
    refine go false ?_
    rw [Bool.eq_iff_iff, g0]; simp [hc42]
  ·obtain ⟨k, rfl⟩ : ∃ k, j = k + 1 := ⟨j - 1, by omega⟩
   have hkt : k < t.data.toList.length := by omega
   have tt := take_last t.data.toList k hkt
   have bk : bt t (k : Int) = ((t.data.toList[k]).toNat : Int) := by
    rw [bt_data t k (by omega), List.getD_eq_getElem?_getD, List.getElem?_eq_getElem hkt]; rfl
   generalize hd : t.data.toList[k] = d at tt bk
   have g1 := lk_rowS (p.data.toList.take i) (t.data.toList.take k) c d
   rw [← tt] at g1
   have ek : ((k + 1 : Nat) : Int) - 1 = (k : Int) := by omega
   rw [wrap_in (x := ((k + 1 : Nat) : Int) - 1) (by omega) (by omega), ek, rd_bool, rd_bool, r5 k (by omega), r7 k (by omega), tk, bk]
   by_cases hc42 : c = 42
   ·rw [if_pos (e42.2 hc42), if_pos (by omega), if_pos (by omega)]
    rw [if_pos hc42] at g1
    cases hv : lk (p.data.toList.take i) (t.data.toList.take (k + 1))
    ·rw [if_neg (by simp), if_pos (by omega), if_pos (by omega), if_pos (by omega), if_pos (by omega)]
     refine go _ ?_
     rw [Bool.eq_iff_iff, g1, hv]; simp
    ·rw [if_pos rfl, if_pos (by omega)]
     refine go true ?_
     rw [Bool.eq_iff_iff, g1, hv]; simp
   ·rw [if_neg (fun h => hc42 (e42.1 h)), if_pos (by omega), if_pos (by omega), if_pos (by omega)]
    rw [if_neg hc42] at g1
    cases hv : lk (p.data.toList.take i) (t.data.toList.take k)
    ·rw [if_neg (by simp), if_pos (by omega), if_pos (by omega)]
     refine go false ?_
     rw [Bool.eq_iff_iff, g1, hv]; simp
    ·rw [if_pos rfl]
     by_cases h63 : c = 63
     ·rw [if_pos (e63.2 h63), if_pos (by omega), if_pos (by omega)]
      refine go true ?_
      rw [Bool.eq_iff_iff, g1, hv]; simp [h63]
     ·rw [if_neg (fun h => h63 (e63.1 h)), if_pos (by omega), if_pos (by omega), if_pos (by omega)]
      refine go _ ?_
      rw [Bool.eq_iff_iff, g1, hv]
      have ed : ((c.toNat : Int) = (d.toNat : Int)) ↔ c = d := ⟨fun h => UInt8.toNat_inj.1 (by omega), fun h => by subst h; rfl⟩
      simp only [beq_iff_eq, ed, h63, false_or, true_and]
theorem fits_some (p t : ByteArray) (hp : p.size ≤ 1048576) (ht : t.size ≤ 1048576) : impl_fits.F p t = some (lk p.data.toList t.data.toList) := by
 have sp := size_data p
 have st := size_data t
 rw [impl_fits.F_eq, toList_data, toList_data]
 by_cases h0 : p.data.toList = []
 ·rw [if_pos h0, h0]; cases t.data.toList <;> rfl
 rw [if_neg h0, wrap_in (by omega) (by omega), if_pos (by omega), if_pos (by omega), Option.bind_some, List.length_replicate, if_pos (by omega)]
 have key := upto (fun i => fun x5 => impl_fits.L0 p t x5 p.size i) p.size (fun i f => ∀ x5 : List Bool, x5.length = t.size + 1 → RowOk p.data.toList t.data.toList i x5 (t.size + 1) → f x5 = some (lk p.data.toList t.data.toList)) ?_ ?_
 ·refine key _ (by simp) ?_
  intro j hj
  rw [List.take_zero, lk]
  rcases Nat.eq_zero_or_pos j with h | h
  ·subst h
   rw [Int.toNat_zero, getD_set_eq _ _ _ (by simp)]; rfl
  ·rw [Int.toNat_zero, getD_set_ne _ _ _ _ (by omega)]
   have h1 : j < t.data.toList.length + 1 := by omega
   rw [List.getD_eq_getElem?_getD, List.getElem?_replicate, if_pos (by omega), Option.getD_some, eq_comm]
   cases hh : t.data.toList with
   | nil => rw [hh] at h1; simp at h1; omega
   | cons d T => obtain ⟨k, rfl⟩ : ∃ k, j = k + 1 := ⟨j - 1, by omega⟩; rfl
 ·intro x5 h5 r5
  show impl_fits.L0 p t x5 _ _ = _
  have := r5 t.size (by omega)
  rw [impl_fits.L0_eq, if_neg (by omega), if_pos (by omega), if_pos (by omega), rd_bool, this, List.take_of_length_le (by omega), List.take_of_length_le (by omega)]
 ·intro i hi ih x5 h5 r5
  show impl_fits.L0 p t x5 _ _ = _
  rw [impl_fits.L0_eq, if_pos (by omega), if_pos (by omega), if_pos (by omega), Int.toNat_natCast]
  exact fits_inner p t i hi hp ht x5 h5 r5 _ fun x7 h7 r7 => ih x7 h7 r7


/-! ### What is drawn -/
def Bytes (l : List Int) : Prop := l.length ≤ 1048576 ∧ ∀ x ∈ l, 0 ≤ x ∧ x < 256
theorem bytes_of {l : List Int} (h : l.length ≤ 1048576) (hw : ∀ x ∈ l, (Lit.int .u8 x).wf = true) : Bytes l := ⟨h, fun x hx => by
 have := hw x hx
 simp [Lit.wf, IntKind.min, IntKind.max, IntKind.signed, IntKind.bits] at this
 omega⟩
theorem and_byte (z : Int) (h0 : 0 ≤ z) (h1 : z < 18446744073709551616) : 0 ≤ Go.bits .and .u64 z 255 ∧ Go.bits .and .u64 z 255 < 256 := by
 obtain ⟨n, rfl⟩ := Int.eq_ofNat_of_zero_le h0
 have h := bits_and_u64_nat n 255 (by omega) (by omega)
 have e : (((255 : Nat) : Int)) = 255 := rfl
 rw [e] at h
 rw [h]
 have : n &&& 255 ≤ 255 := Nat.and_le_right
 omega
theorem next_tells (l : List Int) (hl : Bytes l) (a s : Int) (ha : 0 ≤ a ∧ a ≤ 2000000000) : ∃ r b t, spec_l1Cur_next.f l a s = some (r, b, t) ∧ (0 ≤ r ∧ r < 256) ∧ 0 ≤ b ∧ b ≤ a + 1 := by
 have hu : ∀ y : Int, 0 ≤ IntKind.u64.wrap y ∧ IntKind.u64.wrap y < 18446744073709551616 := fun y => by
  simp only [IntKind.wrap, IntKind.signed, IntKind.bits]
  simp
  omega
 have tail : ∀ y : Int, 0 ≤ wrap64 (Go.bits .and .u64 ((IntKind.u64.wrap y) / 1099511627776) 255) ∧ wrap64 (Go.bits .and .u64 ((IntKind.u64.wrap y) / 1099511627776) 255) < 256 := fun y => by
  have h1 := hu y
  have h2 := and_byte (IntKind.u64.wrap y / 1099511627776) (by omega) (by omega)
  rw [wrap_in (by omega) (by omega)]
  exact h2
 unfold spec_l1Cur_next.f
 rw [wrap_in (x := a + 1) (by omega) (by omega)]
 by_cases h : a < (l.length : Int)
 ·rw [if_pos h, if_pos ha.1]
  have hr : 0 ≤ rd l a ∧ rd l a < 256 := by
   obtain ⟨n, rfl⟩ := Int.eq_ofNat_of_zero_le ha.1
   have hn : n < l.length := by omega
   have := hl.2 l[n] (List.getElem_mem hn)
   have e : rd l (n : Int) = l[n] := by simp [rd, hn]
   rw [e]
   exact this
  split
  ·refine ⟨_, _, _, rfl, ?_, by omega, by omega⟩
   rw [wrap_in (by omega) (by omega)]
   exact hr
  ·exact ⟨_, _, _, rfl, tail _, by omega, by omega⟩
 ·rw [if_neg h]
  split
  ·exact ⟨_, _, _, rfl, by omega, by omega, by omega⟩
  ·exact ⟨_, _, _, rfl, tail _, by omega, by omega⟩
theorem pick_tells (l : List Int) (hl : Bytes l) (a s n : Int) (ha : 0 ≤ a ∧ a ≤ 1000000000) (hn : n ≤ 1048576) : ∃ r b t, spec_l1Cur_pick.f l a s n = some (r, b, t) ∧ 0 ≤ r ∧ (1 ≤ n → r < n) ∧ 0 ≤ b ∧ b ≤ a + 2 := by
 unfold spec_l1Cur_pick.f
 by_cases h : n ≤ 1
 ·rw [if_pos h]
  exact ⟨_, _, _, rfl, by omega, by omega, by omega, by omega⟩
 rw [if_neg h]
 obtain ⟨r, b, t, h1, h2, h3, h4⟩ := next_tells l hl a s (by omega)
 rw [h1, Option.bind_some]
 dsimp only
 by_cases h5 : n > 200
 ·rw [if_pos h5]
  obtain ⟨r2, b2, t2, k1, k2, k3, k4⟩ := next_tells l hl b t (by omega)
  rw [k1, Option.bind_some]
  dsimp only
  rw [if_neg (by omega), wrap_in (x := r * 256) (by omega) (by omega), wrap_in (x := r * 256 + r2) (by omega) (by omega)]
  refine ⟨_, _, _, rfl, Int.tmod_nonneg _ (by omega), fun _ => Int.tmod_lt_of_pos _ (by omega), by omega, by omega⟩
 ·rw [if_neg h5, if_neg (by omega)]
  refine ⟨_, _, _, rfl, Int.tmod_nonneg _ (by omega), fun _ => Int.tmod_lt_of_pos _ (by omega), by omega, by omega⟩
theorem of_tells (l : List Int) (hl : Bytes l) (a s : Int) (m : List ByteArray) (ha : 0 ≤ a ∧ a ≤ 1000000000) (hm : m ≠ [] ∧ m.length ≤ 1048576) : ∃ r b t, spec_l1Cur_of.f l a s m = some (r, b, t) ∧ r ∈ m ∧ 0 ≤ b ∧ b ≤ a + 2 := by
 have h0 : 0 < m.length := List.length_pos_iff.2 hm.1
 obtain ⟨r, b, t, h1, h2, h3, h4, h5⟩ := pick_tells l hl a s m.length ha (by omega)
 obtain ⟨n, rfl⟩ := Int.eq_ofNat_of_zero_le h2
 have hn : n < m.length := by omega
 unfold spec_l1Cur_of.f
 rw [h1, Option.bind_some]
 dsimp only
 rw [if_pos (by omega), if_pos (by omega)]
 refine ⟨_, _, _, rfl, ?_, h4, h5⟩
 have e : rdOf ByteArray.empty m (n : Int) = m[n] := by simp [rdOf, hn]
 show rdOf ByteArray.empty m (n : Int) ∈ m
 rw [e]
 exact List.getElem_mem hn
theorem among_tells (l : List Int) (hl : Bytes l) (a s : Int) (m : List Int) (ha : 0 ≤ a ∧ a ≤ 1000000000) (hm : m ≠ [] ∧ m.length ≤ 1048576) : ∃ r b t, spec_l1Cur_among.f l a s m = some (r, b, t) ∧ r ∈ m ∧ 0 ≤ b ∧ b ≤ a + 2 := by
 have h0 : 0 < m.length := List.length_pos_iff.2 hm.1
 obtain ⟨r, b, t, h1, h2, h3, h4, h5⟩ := pick_tells l hl a s m.length ha (by omega)
 obtain ⟨n, rfl⟩ := Int.eq_ofNat_of_zero_le h2
 have hn : n < m.length := by omega
 unfold spec_l1Cur_among.f
 rw [h1, Option.bind_some]
 dsimp only
 rw [if_pos (by omega), if_pos (by omega)]
 refine ⟨_, _, _, rfl, ?_, h4, h5⟩
 have e : rd m (n : Int) = m[n] := by simp [rd, hn]
 show rd m (n : Int) ∈ m
 rw [e]
 exact List.getElem_mem hn

theorem one_tells (l : List Int) (hl : Bytes l) (a s n : Int) (ha : 0 ≤ a ∧ a ≤ 1000000000) (hn : n ≤ 1048576) : ∃ r b t, spec_l1Cur_one.f l a s n = some (r, b, t) ∧ 0 ≤ b ∧ b ≤ a + 2 := by
 obtain ⟨r, b, t, h1, h2, h3, h4, h5⟩ := pick_tells l hl a s n ha hn
 unfold spec_l1Cur_one.f
 rw [h1, Option.bind_some]
 exact ⟨_, _, _, rfl, h4, h5⟩


theorem fsWord_some (s : ByteArray) (hs : s.size ≤ 9223372036854775807) : spec_fsWord.F s = some (isWord 65 90 s) := by
 rw [spec_fsWord.F_eq]
 have := each (L := fun i => spec_fsWord.L0 s i) s.data.toList 0 (fun _ t o => o = some (inRange 65 90 t && decide (1 ≤ s.size ∧ s.size ≤ 8))) ?_ ?_
 ·rw [this, isWord, Bool.and_comm]
 ·show spec_fsWord.L0 s _ = _
  rw [spec_fsWord.L0_eq, if_neg (by rw [← size_data]; omega), l1In_some]
  simp only [Option.bind_some, inRange, List.all_nil, Bool.true_and, dec_size]
 ·intro i x t hi hx _ _ ih
  have hi' : i < s.size := by rw [size_data]; exact hi
  show spec_fsWord.L0 s _ = _
  rw [spec_fsWord.L0_eq, if_pos (by omega), if_pos (by omega), bt_data s i hi', hx, wrap_in (by omega) (by omega)]
  by_cases h1 : x.toNat < 65
  ·rw [if_pos (by omega)]; simp [inRange]; omega
  ·rw [if_neg (by omega)]
   by_cases h2 : 90 < x.toNat
   ·rw [if_pos (by omega)]; simp [inRange]; omega
   ·rw [if_neg (by omega), ih]
    have h3 : 65 ≤ x.toNat := by omega
    have h4 : x.toNat ≤ 90 := by omega
    simp [inRange, h3, h4]


/-! ### Notes and tiers -/
abbrev Note := S66
theorem rd_note (l : List Note) (i : Nat) : rd_T66 l (i : Int) = l.getD i z66 := by simp [rd_T66]
def SizedN (l : List Note) : Prop := l.length ≤ 9223372036854775807 ∧ ∀ x ∈ l, x.f2.size ≤ 9223372036854775807
/-- Is it a note? -/
def isNote (x : Note) : Bool := decide (0 ≤ x.f0 ∧ x.f0 ≤ 99999) && (decide (0 ≤ x.f1 ∧ x.f1 ≤ 99999) && (decide (x.f0 < x.f1) && isWord 65 90 x.f2))
theorem isFrame_some (a : Int) : impl_isFrame.f a = some (decide (0 ≤ a ∧ a ≤ 99999)) := by unfold impl_isFrame.f; rw [within_some]; rfl
theorem tiFrame_some (a : Int) : spec_tiFrame.f a = some (decide (0 ≤ a ∧ a ≤ 99999)) := by unfold spec_tiFrame.f; rw [l1In_some]; rfl
theorem isNote_some (x : Note) (h : x.f2.size ≤ 9223372036854775807) : impl_IsNote.F x.f0 x.f1 x.f2 = some (isNote x) := by
 rw [impl_IsNote.F_eq, isFrame_some, isFrame_some, isWordOf_some 65 90 _ _ h (by decide +kernel)]
 unfold isNote
 cases decide (0 ≤ x.f0 ∧ x.f0 ≤ 99999) <;> cases decide (0 ≤ x.f1 ∧ x.f1 ≤ 99999) <;> by_cases c : x.f0 < x.f1 <;> simp [c]
theorem tiNote_some (x : Note) (h : x.f2.size ≤ 9223372036854775807) : spec_tiNote.F x.f0 x.f1 x.f2 = some (isNote x) := by
 rw [spec_tiNote.F_eq, tiFrame_some, tiFrame_some, fsWord_some _ h]
 unfold isNote
 cases decide (0 ≤ x.f0 ∧ x.f0 ≤ 99999) <;> cases decide (0 ≤ x.f1 ∧ x.f1 ≤ 99999) <;> by_cases c : x.f0 < x.f1 <;> simp [c]
def tierFrom (l : List Note) : Nat → List Note → Bool
 | _, [] => decide (l.length ≤ 40)
 | i, x :: t => (isNote x && decide (i = 0 ∨ (l.getD (i - 1) z66).f1 ≤ x.f0)) && tierFrom l (i + 1) t
def isTier (l : List Note) : Bool := tierFrom l 0 l
theorem isTier_some (l : List Note) (hl : SizedN l) : impl_IsTier.F l = some (isTier l) := by
 have hl1 := hl.1
 rw [impl_IsTier.F_eq]
 refine each (L := fun i => impl_IsTier.L0 l l l.length i) l z66 (fun i t o => o = some (tierFrom l i t)) ?_ ?_
 ·show impl_IsTier.L0 l l _ _ = _
  rw [impl_IsTier.L0_eq, if_neg (by omega)]
  simp only [tierFrom, Option.some.injEq, decide_eq_decide]; omega
 ·intro i x t hi hx hd _ ih
  have hs := hl.2 x (mem_drop hd)
  show impl_IsTier.L0 l l _ _ = _
  rw [impl_IsTier.L0_eq, if_pos (by omega), if_pos (by omega), if_pos (by omega), rd_note, hx, wrap_in (x := (i : Int) + 1) (by omega) (by omega), isNote_some _ hs, Option.bind_some, tierFrom]
  cases isNote x
  ·simp
  rw [if_pos rfl]
  by_cases h0 : i = 0
  ·subst h0
   rw [if_neg (by omega)]
   simpa using ih
  ·have h1 : (i : Int) - 1 = ((i - 1 : Nat) : Int) := by omega
   rw [if_pos (by omega), wrap_in (by omega) (by omega), h1, if_pos (by omega), if_pos (by omega), rd_note]
   by_cases h2 : (l.getD (i - 1) z66).f1 ≤ x.f0
   ·rw [if_neg (by omega), decide_eq_true (p := i = 0 ∨ _) (.inr h2)]; simpa using ih
   ·rw [if_pos (by omega), decide_eq_false (p := i = 0 ∨ _) (by omega)]; rfl
theorem tiGood_some (l : List Note) (hl : SizedN l) : spec_tiGood.F l = some (isTier l) := by
 have hl1 := hl.1
 rw [spec_tiGood.F_eq]
 refine each (L := fun i => spec_tiGood.L0 l l l.length i) l z66 (fun i t o => o = some (tierFrom l i t)) ?_ ?_
 ·show spec_tiGood.L0 l l _ _ = _
  rw [spec_tiGood.L0_eq, if_neg (by omega)]
  simp only [tierFrom, Option.some.injEq, decide_eq_decide]; omega
 ·intro i x t hi hx hd _ ih
  have hs := hl.2 x (mem_drop hd)
  show spec_tiGood.L0 l l _ _ = _
  rw [spec_tiGood.L0_eq, if_pos (by omega), if_pos (by omega), if_pos (by omega), rd_note, hx, wrap_in (x := (i : Int) + 1) (by omega) (by omega), tiNote_some _ hs, Option.bind_some, tierFrom]
  cases isNote x
  ·simp
  rw [if_pos rfl]
  by_cases h0 : i = 0
  ·subst h0
   rw [if_neg (by omega)]
   simpa using ih
  ·have h1 : (i : Int) - 1 = ((i - 1 : Nat) : Int) := by omega
   rw [if_pos (by omega), wrap_in (by omega) (by omega), h1, if_pos (by omega), if_pos (by omega), rd_note]
   by_cases h2 : (l.getD (i - 1) z66).f1 ≤ x.f0
   ·rw [if_neg (by omega), decide_eq_true (p := i = 0 ∨ _) (.inr h2)]; simpa using ih
   ·rw [if_pos (by omega), decide_eq_false (p := i = 0 ∨ _) (by omega)]; rfl
theorem tier_facts {l : List Note} (h : isTier l = true) : l.length ≤ 40 ∧ ∀ x ∈ l, (0 ≤ x.f0 ∧ x.f0 < x.f1 ∧ x.f1 ≤ 99999) ∧ x.f2.size ≤ 8 := by
 have key : ∀ (t : List Note) (i : Nat), tierFrom l i t = true → l.length ≤ 40 ∧ ∀ x ∈ t, (0 ≤ x.f0 ∧ x.f0 < x.f1 ∧ x.f1 ≤ 99999) ∧ x.f2.size ≤ 8 := by
  intro t
  induction t with
  | nil => intro i h; exact ⟨by simpa [tierFrom] using h, by simp⟩
  | cons y t ih =>
   intro i h
   simp only [tierFrom, isNote, isWord, Bool.and_eq_true, decide_eq_true_eq] at h
   obtain ⟨h1, h2⟩ := ih _ h.2
   refine ⟨h1, fun x hx => ?_⟩
   rcases List.mem_cons.1 hx with rfl | hx
   ·have := h.1.1; exact ⟨⟨this.1.1, this.2.2.1, this.2.1.2⟩, this.2.2.2.1.2⟩
   ·exact h2 x hx
 exact key l 0 h

/-! ### Drawn tiers -/
def DrawnN (L : List Note) : Prop := L.length ≤ 41 ∧ ∀ x ∈ L, x.f2.size ≤ 9
theorem DrawnN.sized {L : List Note} (h : DrawnN L) : SizedN L := ⟨by have := h.1; omega, fun x hx => by have := h.2 x hx; omega⟩
theorem note_tells (l : List Int) (hl : Bytes l) (a s n : Int) (ha : 0 ≤ a ∧ a ≤ 1000000) : ∃ x y g b t, spec_l1Cur_note.f l a s n = some (x, y, g, b, t) ∧ g.size ≤ 9 ∧ 0 ≤ b ∧ b ≤ a + 10 := by
 unfold spec_l1Cur_note.f
 obtain ⟨r1, b1, t1, h1, _, i1, j1⟩ := among_tells l hl a s [1, 5, 8, 20] (by omega) (by simp)
 simp only [h1, Option.bind_some]
 generalize hq : ([(⟨#[72, 79, 85, 83, 69]⟩ : ByteArray), (⟨#[71, 79]⟩ : ByteArray), (⟨#[73]⟩ : ByteArray), (⟨#[89, 79, 85]⟩ : ByteArray), (⟨#[71, 79]⟩ : ByteArray), (⟨#[71, 73, 86, 69]⟩ : ByteArray), (⟨#[66, 79, 79, 75]⟩ : ByteArray)] : List ByteArray) = q
 have hqq : ∀ x ∈ q, x.size ≤ 9 := by rw [← hq]; simp only [List.mem_cons, List.not_mem_nil, or_false]; rintro x (rfl | rfl | rfl | rfl | rfl | rfl | rfl) <;> decide
 obtain ⟨r2, b2, t2, h2, m2, i2, j2⟩ := of_tells l hl b1 t1 q (by omega) (by rw [← hq]; simp)
 have z2 := hqq _ m2
 simp only [h2, Option.bind_some]
 obtain ⟨r3, b3, t3, h3, _, _, i3, j3⟩ := pick_tells l hl b2 t2 60 (by omega) (by omega)
 simp only [h3, Option.bind_some]
 by_cases c0 : r3 = 0
 ·rw [if_pos c0]
  obtain ⟨r4, b4, t4, h4, _, i4, j4⟩ := among_tells l hl b3 t3 [n, wrap64 (n - 1), 100000] (by omega) (by simp)
  simp only [h4, Option.bind_some]
  exact ⟨_, _, _, _, _, rfl, z2, i4, by omega⟩
 rw [if_neg c0]
 by_cases c1 : r3 = 1
 ·rw [if_pos c1]
  generalize hq' : ([(⟨#[]⟩ : ByteArray), (⟨#[103, 111]⟩ : ByteArray), (⟨#[78, 73, 78, 69, 76, 69, 84, 84, 82]⟩ : ByteArray)] : List ByteArray) = q'
  have hqq' : ∀ x ∈ q', x.size ≤ 9 := by rw [← hq']; simp only [List.mem_cons, List.not_mem_nil, or_false]; rintro x (rfl | rfl | rfl) <;> decide
  obtain ⟨r4, b4, t4, h4, m4, i4, j4⟩ := of_tells l hl b3 t3 q' (by omega) (by rw [← hq']; simp)
  simp only [h4, Option.bind_some]
  exact ⟨_, _, _, _, _, rfl, hqq' _ m4, i4, by omega⟩
 rw [if_neg c1]
 by_cases c2 : r3 = 2
 ·rw [if_pos c2]
  obtain ⟨r4, b4, t4, h4, _, i4, j4⟩ := among_tells l hl b3 t3 [-1, -9223372036854775808] (by omega) (by simp)
  simp only [h4, Option.bind_some]
  exact ⟨_, _, _, _, _, rfl, z2, i4, by omega⟩
 rw [if_neg c2]
 exact ⟨_, _, _, _, _, rfl, z2, i3, by omega⟩
theorem most_tells (a b : Int) : ∃ m, spec_l1Most.f a b = some m := by unfold spec_l1Most.f; split <;> exact ⟨_, rfl⟩
theorem least_tells (a b : Int) : ∃ m, spec_l1Least.f a b = some m := by unfold spec_l1Least.f; split <;> exact ⟨_, rfl⟩
theorem tier_rounds (l : List Int) (hl : Bytes l) (N : Int) (hN : N ≤ 41) : ∀ (d : Nat) (L : List Note) (n a s : Int), L.length + d = 41 → DrawnN L → (0 ≤ a ∧ a ≤ 2000 - 40 * d) → ∃ L' b t, spec_l1Cur_tier.L0 L n N l a s = some (L', b, t) ∧ DrawnN L' ∧ 0 ≤ b ∧ b ≤ 2100 := by
 intro d
 induction d with
 | zero =>
  intro L n a s hd hL ha
  rw [spec_l1Cur_tier.L0_eq, if_neg (by omega)]
  exact ⟨_, _, _, rfl, hL, by omega, by omega⟩
 | succ d ih =>
  intro L n a s hd hL ha
  rw [spec_l1Cur_tier.L0_eq]
  by_cases hlt : (L.length : Int) < N
  case neg =>
   rw [if_neg hlt]
   exact ⟨_, _, _, rfl, hL, by omega, by omega⟩
  rw [if_pos hlt]
  obtain ⟨x, y, g, b1, t1, h1, z1, i1, j1⟩ := note_tells l hl a s n (by omega)
  simp only [h1, Option.bind_some]
  obtain ⟨m1, e1⟩ := most_tells 0 y
  obtain ⟨m2, e2⟩ := least_tells 90000 m1
  have grow : ∀ g' : ByteArray, g'.size ≤ 9 → DrawnN (L ++ [(⟨x, y, g'⟩ : Note)]) := fun g' hg => ⟨by simp; omega, fun z hz => by
   rcases List.mem_append.1 hz with hz | hz
   ·exact hL.2 z hz
   ·obtain rfl := List.mem_singleton.1 hz
    exact hg⟩
  by_cases h0 : (L.length : Int) > 0
  ·rw [if_pos h0]
   obtain ⟨c, b2, t2, h2, i2, j2⟩ := one_tells l hl b1 t1 4 (by omega) (by omega)
   simp only [h2, Option.bind_some]
   rw [spec_l1Cur_tier.J2_eq, wrap_in (x := (L.length : Int) - 1) (by omega) (by omega)]
   obtain ⟨k, b3, t3, h3, _, i3, j3⟩ := among_tells l hl b2 t2 [0, 0, 2, 5] (by omega) (by simp)
   simp only [e1, e2, h3, Option.bind_some]
   cases c
   ·rw [if_neg (by simp), if_pos (by omega)]
    exact ih _ _ _ _ (by simp; omega) (grow g z1) (by omega)
   ·rw [if_pos rfl, if_pos (by omega), if_pos (by omega), if_pos (by omega)]
    have e : (L.length : Int) - 1 = ((L.length - 1 : Nat) : Int) := by omega
    refine ih _ _ _ _ (by simp; omega) (grow _ ?_) (by omega)
    rw [e, rd_note]
    refine hL.2 _ ?_
    rw [List.getD_eq_getElem?_getD, List.getElem?_eq_getElem (show L.length - 1 < L.length by omega)]
    exact List.getElem_mem _
  ·rw [if_neg h0, spec_l1Cur_tier.J2_eq, if_neg (by simp), if_pos (by omega)]
   obtain ⟨k, b3, t3, h3, _, i3, j3⟩ := among_tells l hl b1 t1 [0, 0, 2, 5] (by omega) (by simp)
   simp only [e1, e2, h3, Option.bind_some]
   exact ih _ _ _ _ (by simp; omega) (grow g z1) (by omega)
theorem tier_tells (l : List Int) (hl : Bytes l) : ∃ L b t, spec_l1Cur_tier.F l 0 0 = some (L, b, t) ∧ DrawnN L ∧ 0 ≤ b ∧ b ≤ 2100 := by
 rw [spec_l1Cur_tier.F_eq]
 obtain ⟨r1, b1, t1, h1, p1, q1, i1, j1⟩ := pick_tells l hl 0 0 10 (by omega) (by omega)
 simp only [h1, Option.bind_some]
 obtain ⟨r2, b2, t2, h2, p2, q2, i2, j2⟩ := pick_tells l hl b1 t1 8 (by omega) (by omega)
 have q3 := q2 (by omega)
 simp only [h2, Option.bind_some]
 obtain ⟨c, b3, t3, h3, i3, j3⟩ := one_tells l hl b2 t2 12 (by omega) (by omega)
 simp only [h3, Option.bind_some]
 have e : DrawnN [] := ⟨by simp, by simp⟩
 cases c
 ·rw [if_neg (by simp), spec_l1Cur_tier.J0_eq]
  exact tier_rounds l hl r2 (by omega) 41 [] r1 b3 t3 (by simp) e (by omega)
 ·rw [if_pos rfl]
  obtain ⟨r4, b4, t4, h4, p4, q4, i4, j4⟩ := pick_tells l hl b3 t3 2 (by omega) (by omega)
  have q5 := q4 (by omega)
  simp only [h4, Option.bind_some]
  rw [spec_l1Cur_tier.J0_eq, wrap_in (by omega) (by omega)]
  exact tier_rounds l hl (40 + r4) (by omega) 41 [] r1 b4 t4 (by simp) e (by omega)

theorem pattern_tells (l : List Int) (hl : Bytes l) (a s : Int) (ha : 0 ≤ a ∧ a ≤ 1000000) : ∃ r b t, spec_l1Cur_glossPattern.f l a s = some (r, b, t) ∧ r.size ≤ 9 ∧ 0 ≤ b ∧ b ≤ a + 10 := by
 unfold spec_l1Cur_glossPattern.f
 generalize hm : ([(⟨#[69, 73, 71, 72, 84, 76, 69, 84]⟩ : ByteArray), (⟨#[78, 73, 78, 69, 76, 69, 84, 84, 82]⟩ : ByteArray), (⟨#[]⟩ : ByteArray), (⟨#[103, 111]⟩ : ByteArray), (⟨#[42, 63, 42]⟩ : ByteArray)] : List ByteArray) = m
 have hmm : ∀ x ∈ m, x.size ≤ 9 := by rw [← hm]; simp only [List.mem_cons, List.not_mem_nil, or_false]; rintro x (rfl | rfl | rfl | rfl | rfl) <;> decide
 obtain ⟨r, b, t, h1, h2, h3, h4⟩ := of_tells l hl a s m (by omega) (by rw [← hm]; simp)
 have hr := hmm _ h2
 simp only [h1, Option.bind_some]
 generalize hq : ([(⟨#[42]⟩ : ByteArray), (⟨#[71, 79]⟩ : ByteArray), (⟨#[71, 42]⟩ : ByteArray), (⟨#[63, 79]⟩ : ByteArray), (⟨#[42, 79, 42]⟩ : ByteArray), (⟨#[72, 79, 85, 83, 69]⟩ : ByteArray), (⟨#[73]⟩ : ByteArray), (⟨#[63, 63, 63, 63]⟩ : ByteArray), (⟨#[89, 42, 85]⟩ : ByteArray), (⟨#[66, 63, 79, 75]⟩ : ByteArray), r] : List ByteArray) = q
 have hqq : ∀ x ∈ q, x.size ≤ 9 := by rw [← hq]; simp only [List.mem_cons, List.not_mem_nil, or_false]; rintro x (rfl | rfl | rfl | rfl | rfl | rfl | rfl | rfl | rfl | rfl | rfl) <;> first | exact hr | decide
 obtain ⟨r2, b2, t2, k1, k2, k3, k4⟩ := of_tells l hl b t q (by omega) (by rw [← hq]; simp)
 simp only [k1, Option.bind_some]
 exact ⟨_, _, _, rfl, hqq _ k2, k3, by omega⟩

theorem rd_txt' (l : List ByteArray) (i : Nat) : rdOf ByteArray.empty l (i : Int) = l.getD i ByteArray.empty := by simp [rdOf]
theorem isGloss_some (s : ByteArray) (hs : s.size ≤ 9223372036854775807) : impl_IsGloss.F s = some (isWord 65 90 s) := by
 rw [impl_IsGloss.F_eq, isWordOf_some 65 90 _ _ hs (by decide +kernel)]; rfl
abbrev Tie (L : List Note) : Prop := L.length ≤ 40 ∧ ∀ x ∈ L, (0 ≤ x.f0 ∧ x.f0 < x.f1 ∧ x.f1 ≤ 99999) ∧ x.f2.size ≤ 8
/-- Does a pattern fit a note? -/
def lkN (p : ByteArray) (x : Note) : Bool := lk p.data.toList x.f2.data.toList
theorem quLikeN (p : ByteArray) (x : Note) (hp : p.size ≤ 9) (hx : x.f2.size ≤ 8) : spec_quLike.F p x.f2 = some (lkN p x) := quLike_some p x.f2 (by omega) (by omega)
theorem fitsN (p : ByteArray) (x : Note) (hp : p.size ≤ 9) (hx : x.f2.size ≤ 8) : impl_fits.F p x.f2 = some (lkN p x) := fits_some p x.f2 (by omega) (by omega)
theorem qInts_refl (l : List Int) (hl : l.length ≤ 9223372036854775807) : laws_qInts.F l l = some true := by
 rw [laws_qInts.F_eq, if_pos rfl]
 refine each (L := fun i => laws_qInts.L0 l l l.length i) l 0 (fun _ _ o => o = some true) ?_ ?_
 ·show laws_qInts.L0 l l _ _ = _
  rw [laws_qInts.L0_eq, if_neg (by omega)]
 ·intro i x t hi hx _ _ ih
  show laws_qInts.L0 l l _ _ = _
  rw [laws_qInts.L0_eq, if_pos (by omega), if_pos (by omega), if_pos (by omega), if_pos (by omega), if_pos rfl, wrap_in (x := (i : Int) + 1) (by omega) (by omega)]
  exact ih
theorem rd_row (l : List (List Int)) (i : Nat) : rd_L4 l (i : Int) = l.getD i [] := by simp [rd_L4]
theorem qLists_refl (l : List (List Int)) (hl : l.length ≤ 9223372036854775807) (hw : ∀ x ∈ l, x.length ≤ 9223372036854775807) : laws_qLists.F l l = some true := by
 rw [laws_qLists.F_eq, if_pos rfl]
 refine each (L := fun i => laws_qLists.L0 l l l.length i) l [] (fun _ _ o => o = some true) ?_ ?_
 ·show laws_qLists.L0 l l _ _ = _
  rw [laws_qLists.L0_eq, if_neg (by omega)]
 ·intro i x t hi hx hd _ ih
  show laws_qLists.L0 l l _ _ = _
  rw [laws_qLists.L0_eq, if_pos (by omega), if_pos (by omega), if_pos (by omega), if_pos (by omega), rd_row, hx, qInts_refl x (hw x (mem_drop hd)), Option.bind_some, if_pos rfl, wrap_in (x := (i : Int) + 1) (by omega) (by omega)]
  exact ih
/-! ### Patterns and glosses -/
def mg (p g : ByteArray) : Bool × Bool := if isPat p = true ∧ isWord 65 90 g = true then (lk p.data.toList g.data.toList, true) else (false, false)
theorem implMatches_some (p g : ByteArray) (hp : p.size ≤ 1048576) (hg : g.size ≤ 1048576) : impl_MatchesGloss.F p g = some (mg p g) := by
 rw [impl_MatchesGloss.F_eq, isPat_some _ (by omega), Option.bind_some, isGloss_some _ (by omega), Option.bind_some, fits_some _ _ hp hg]
 unfold mg
 cases isPat p <;> cases isWord 65 90 g <;> rfl
theorem specMatches_some (p g : ByteArray) (hp : p.size ≤ 1048576) (hg : g.size ≤ 1048576) : spec_MatchesGloss.F p g = some (mg p g) := by
 rw [spec_MatchesGloss.F_eq, quPattern_some _ (by omega), Option.bind_some, fsWord_some _ (by omega), Option.bind_some, quLike_some _ _ hp hg]
 unfold mg
 cases isPat p <;> cases isWord 65 90 g <;> rfl
theorem tier_word {L : List Note} (h : isTier L = true) : ∀ x ∈ L, isWord 65 90 x.f2 = true := by
 have key : ∀ (t : List Note) (i : Nat), tierFrom L i t = true → ∀ x ∈ t, isWord 65 90 x.f2 = true := by
  intro t
  induction t with
  | nil => intro _ _ x hx; simp at hx
  | cons y t ih =>
   intro i h x hx
   simp only [tierFrom, isNote, Bool.and_eq_true] at h
   rcases List.mem_cons.1 hx with rfl | hx
   ·exact h.1.1.2.2.2
   ·exact ih _ h.2 x hx
 exact key L 0 h
/-! ### Sequences -/
def fitAt (L : List Note) : Nat → List ByteArray → Bool
 | _, [] => true
 | m, x :: t => lkN x (L.getD m z66) && fitAt L (m + 1) t
theorem note_mem {L : List Note} {m : Nat} (h : m < L.length) : L.getD m z66 ∈ L := by
 rw [List.getD_eq_getElem?_getD, List.getElem?_eq_getElem h]; exact List.getElem_mem h
theorem seq_inner (L : List Note) (q : List ByteArray) (i : Nat) (n : Int) (o : List Int) (hq : ∀ x ∈ q, x.size ≤ 8) (hl : Tie L) (hi : i + q.length ≤ L.length) (ho : o.length ≤ i) :
 spec_SequencesOf.L2 L q o i true q q.length 0 = (if fitAt L i q = true then spec_SequencesOf.L1 L q (o ++ [(i : Int)]) ((i : Int) + 1) else spec_SequencesOf.L1 L q o ((i : Int) + 1)) ∧ impl_SequencesOf.L1 L q o i true n i q q.length 0 = (if fitAt L i q = true then impl_SequencesOf.L0 L q (o ++ [(i : Int)]) n ((i : Int) + 1) else impl_SequencesOf.L0 L q o n ((i : Int) + 1)) := by
 obtain ⟨hl1, hl2⟩ := hl
 have := each (L := fun j => ((fun ok => spec_SequencesOf.L2 L q o i ok q q.length j : Bool → _), (fun ok => impl_SequencesOf.L1 L q o i ok n i q q.length j : Bool → _))) q ByteArray.empty (fun j t f => ∀ ok : Bool, f.1 ok = (if (ok && fitAt L (i + j) t) = true then spec_SequencesOf.L1 L q (o ++ [(i : Int)]) ((i : Int) + 1) else spec_SequencesOf.L1 L q o ((i : Int) + 1)) ∧ f.2 ok = (if (ok && fitAt L (i + j) t) = true then impl_SequencesOf.L0 L q (o ++ [(i : Int)]) n ((i : Int) + 1) else impl_SequencesOf.L0 L q o n ((i : Int) + 1))) ?_ ?_ true
 ·simpa using this
 ·intro ok
  show spec_SequencesOf.L2 L q o _ ok q _ _ = _ ∧ impl_SequencesOf.L1 L q o _ ok n _ q _ _ = _
  have o1 : o.length < 17592186044416 := by omega
  rw [spec_SequencesOf.L2_eq, impl_SequencesOf.L1_eq]
  simp only [Int.lt_irrefl, if_false, o1, if_true, wrap_in (x := (i : Int) + 1) (by omega) (by omega), fitAt, Bool.and_true, and_self]
 ·intro j x t hj hx hd _ ih ok
  have hs := hq x (mem_drop hd)
  have hij : i + j < L.length := by omega
  have hms := (hl2 _ (note_mem hij)).2
  show spec_SequencesOf.L2 L q o _ ok q _ _ = _ ∧ impl_SequencesOf.L1 L q o _ ok n _ q _ _ = _
  have j1 : (j : Int) < (q.length : Int) := by omega
  have j2 : (0 : Int) ≤ (j : Int) := by omega
  have e : (i : Int) + (j : Int) = ((i + j : Nat) : Int) := by omega
  have j3 : (0 : Int) ≤ ((i + j : Nat) : Int) := by omega
  have j4 : ((i + j : Nat) : Int) < (L.length : Int) := by omega
  have ef : fitAt L (i + j) (x :: t) = (lkN x (L.getD (i + j) z66) && fitAt L (i + (j + 1)) t) := rfl
  rw [spec_SequencesOf.L2_eq, impl_SequencesOf.L1_eq, ef]
  cases ok
  ·simp only [j1, j2, if_true, Bool.false_eq_true, if_false, wrap_in (x := (j : Int) + 1) (by omega) (by omega)]
   simpa using ih false
  ·simp only [j1, j2, if_true, wrap_in (x := (j : Int) + 1) (by omega) (by omega), e, wrap_in (x := ((i + j : Nat) : Int)) (by omega) (by omega), j3, j4, rd_txt', hx, rd_note, quLikeN _ _ (show x.size ≤ 9 by omega) hms, fitsN _ _ (show x.size ≤ 9 by omega) hms, Option.bind_some, Bool.true_and]
   exact ih _
def SeqOk (L : List Note) (q : List ByteArray) (i : Int) : Prop := ∃ m : Nat, i = m ∧ m + q.length ≤ L.length ∧ fitAt L m q = true
theorem seq_same (L : List Note) (q : List ByteArray) (hq : ∀ x ∈ q, x.size ≤ 8) (hq8 : q.length ≤ 8) (hl : Tie L) :
 ∃ r, spec_SequencesOf.L1 L q [] 0 = some (r, true) ∧ impl_SequencesOf.L0 L q [] (wrap64 ((wrap64 ((L.length : Int) - (q.length : Int))) + 1)) 0 = some (r, true) ∧ r.length ≤ 41 ∧ ∀ i ∈ r, SeqOk L q i := by
 have hl1 := hl.1
 rw [wrap_in (x := (L.length : Int) - (q.length : Int)) (by omega) (by omega), wrap_in (by omega) (by omega)]
 refine upto (fun i => ((fun o => spec_SequencesOf.L1 L q o i : List Int → _), (fun o => impl_SequencesOf.L0 L q o ((L.length : Int) - (q.length : Int) + 1) i : List Int → _))) (L.length + 1 - q.length) (fun i f => ∀ o : List Int, o.length ≤ i → (∀ x ∈ o, SeqOk L q x) → ∃ r, f.1 o = some (r, true) ∧ f.2 o = some (r, true) ∧ r.length ≤ 41 ∧ ∀ i ∈ r, SeqOk L q i) ?_ ?_ [] (by simp) (by simp)
 ·intro o ho hg
  show ∃ r, spec_SequencesOf.L1 L q o _ = _ ∧ impl_SequencesOf.L0 L q o _ _ = _ ∧ _
  rw [spec_SequencesOf.L1_eq, impl_SequencesOf.L0_eq, wrap_in (by omega) (by omega), if_neg (by omega), if_neg (by omega)]
  exact ⟨o, rfl, rfl, by omega, hg⟩
 ·intro i hi ih o ho hg
  show ∃ r, spec_SequencesOf.L1 L q o _ = _ ∧ impl_SequencesOf.L0 L q o _ _ = _ ∧ _
  obtain ⟨k1, k2⟩ := seq_inner L q i ((L.length : Int) - (q.length : Int) + 1) o hq hl (by omega) ho
  rw [spec_SequencesOf.L1_eq, impl_SequencesOf.L0_eq, wrap_in (by omega) (by omega), if_pos (by omega), if_pos (by omega), k1, k2]
  cases hf : fitAt L i q
  ·exact ih o (by omega) hg
  ·exact ih (o ++ [(i : Int)]) (by simp; omega) (fun x hx => by
    rcases List.mem_append.1 hx with hx | hx
    ·exact hg x hx
    ·obtain rfl := List.mem_singleton.1 hx
     exact ⟨i, rfl, by omega, hf⟩)
theorem allPat_some (w : List ByteArray) (hl : w.length ≤ 9223372036854775807) (hw : ∀ x ∈ w, x.size ≤ 9223372036854775807) : impl_allOf_string_impl_isGlossPattern.F w = some (w.all isPat) := by
 rw [impl_allOf_string_impl_isGlossPattern.F_eq, slices_ContainsFunc_string_impl_allOf_string_1_impl_isGlossPattern.F_eq, slices_IndexFunc_string_impl_allOf_string_1_impl_isGlossPattern.F_eq]
 have := each (L := fun i => slices_IndexFunc_string_impl_allOf_string_1_impl_isGlossPattern.L0 w w.length i) w ByteArray.empty (fun _ t o => ∃ r, o = some r ∧ decide (r ≥ 0) = !(t.all isPat)) ?_ ?_
 ·obtain ⟨r, h1, h2⟩ := this
  rw [h1]; simp [h2]
 ·refine ⟨-1, ?_, by simp⟩
  show slices_IndexFunc_string_impl_allOf_string_1_impl_isGlossPattern.L0 w _ _ = _
  rw [slices_IndexFunc_string_impl_allOf_string_1_impl_isGlossPattern.L0_eq, if_neg (by omega)]
 ·intro i x t hi hx hd _ ih
  have hs := hw x (mem_drop hd)
  show ∃ r, slices_IndexFunc_string_impl_allOf_string_1_impl_isGlossPattern.L0 w _ _ = _ ∧ _
  rw [slices_IndexFunc_string_impl_allOf_string_1_impl_isGlossPattern.L0_eq, if_pos (by omega), if_pos (by omega), if_pos (by omega), rd_txt', hx, wrap_in (x := (i : Int) + 1) (by omega) (by omega), impl_allOf_string_1_impl_isGlossPattern.F_eq, isPat_some _ hs]
  simp only [Option.bind_some, List.all_cons]
  cases isPat x
  ·rw [if_pos (by simp)]; exact ⟨i, rfl, by simp⟩
  ·rw [if_neg (by simp), Bool.true_and]; exact ih
theorem pat8 {p : ByteArray} (h : isPat p = true) : p.size ≤ 8 := by
 simp only [isPat, Bool.and_eq_true, decide_eq_true_eq] at h
 exact h.1.2
theorem seqs_same (L : List Note) (q : List ByteArray) (hL : DrawnN L) (hq1 : q.length ≤ 9) (hqw : ∀ x ∈ q, x.size ≤ 9) : ∃ r b, spec_SequencesOf.F L q = some (r, b) ∧ impl_SequencesOf.F L q = some (r, b) ∧ r.length ≤ 41 ∧ ∀ i ∈ r, SeqOk L q i ∧ isTier L = true ∧ q.all isPat = true := by
 have hz := hL.sized
 rw [spec_SequencesOf.F_eq, impl_SequencesOf.F_eq, tiGood_some _ hz, isTier_some _ hz, l1In_some, within_some, allPat_some q (by omega) (fun x hx => by have := hqw x hx; omega)]
 simp only [Option.bind_some, spec_SequencesOf.J0_eq, impl_SequencesOf.J0_eq]
 cases hg : isTier L
 ·exact ⟨_, _, rfl, rfl, by simp, by simp⟩
 by_cases hq8 : (1 : Int) ≤ (q.length : Int) ∧ (q.length : Int) ≤ 8
 case neg => rw [decide_eq_false hq8]; exact ⟨_, _, rfl, rfl, by simp, by simp⟩
 rw [decide_eq_true hq8]
 simp only [if_true, Bool.not_true, Bool.false_eq_true, if_false]
 have pats := each (L := fun i => spec_SequencesOf.L0 L q q q.length i) q ByteArray.empty (fun _ t o => o = if t.all isPat = true then spec_SequencesOf.L1 L q [] 0 else some ([], false)) (by
  show spec_SequencesOf.L0 L q q _ _ = _
  rw [spec_SequencesOf.L0_eq, if_neg (by omega)]; rfl) (by
  intro i x t hi hx hd _ ih
  show spec_SequencesOf.L0 L q q _ _ = _
  rw [spec_SequencesOf.L0_eq, if_pos (by omega), if_pos (by omega), if_pos (by omega), rd_txt', hx, wrap_in (x := (i : Int) + 1) (by omega) (by omega), quPattern_some _ (by have := hqw x (mem_drop hd); omega), Option.bind_some, List.all_cons]
  cases isPat x
  ·rfl
  ·rw [if_pos rfl, Bool.true_and]; exact ih)
 rw [pats]
 cases ha : q.all isPat
 ·exact ⟨_, _, rfl, rfl, by simp, by simp⟩
 have hq3 : ∀ x ∈ q, x.size ≤ 8 := fun x hx => pat8 ((List.all_eq_true.1 ha) x hx)
 obtain ⟨r, k1, k2, k3, k4⟩ := seq_same L q hq3 (by omega) (tier_facts hg)
 exact ⟨r, true, k1, k2, k3, fun i hi => ⟨k4 i hi, by first | trivial | rfl, by first | trivial | rfl⟩⟩
/-! ### Notes like a pattern -/
def likeFrom (p : ByteArray) : Nat → List Note → List Int
 | _, [] => []
 | i, x :: t => (if lkN p x = true then [(i : Int)] else []) ++ likeFrom p (i + 1) t
theorem like_cons (p : ByteArray) (i : Nat) (x : Note) (t : List Note) : likeFrom p i (x :: t) = (if lkN p x = true then [(i : Int)] else []) ++ likeFrom p (i + 1) t := rfl
theorem like_length (p : ByteArray) : ∀ (i : Nat) (t : List Note), (likeFrom p i t).length ≤ t.length
 | _, [] => by simp [likeFrom]
 | i, x :: t => by
  have := like_length p (i + 1) t
  rw [like_cons, List.length_append]
  split <;> simp <;> omega
theorem those_same (L : List Note) (p : ByteArray) (hp : p.size ≤ 8) (hl : Tie L) : spec_NotesLike.L0 p [] L L.length 0 = some (likeFrom p 0 L, true) ∧ impl_those_Note_impl_NotesLike_1.L0 [] L L.length 0 p = some (likeFrom p 0 L) := by
 obtain ⟨hl1, hl2⟩ := hl
 have := each (L := fun i => ((fun o => spec_NotesLike.L0 p o L L.length i : List Int → _), (fun o => impl_those_Note_impl_NotesLike_1.L0 o L L.length i p : List Int → _))) L z66 (fun i t f => ∀ o : List Int, o.length ≤ i → f.1 o = some (o ++ likeFrom p i t, true) ∧ f.2 o = some (o ++ likeFrom p i t)) ?_ ?_ [] (by simp)
 ·simpa using this
 ·intro o ho
  show spec_NotesLike.L0 p o L _ _ = _ ∧ impl_those_Note_impl_NotesLike_1.L0 o L _ _ p = _
  rw [spec_NotesLike.L0_eq, impl_those_Note_impl_NotesLike_1.L0_eq, if_neg (by omega), if_neg (by omega)]
  simp [likeFrom]
 ·intro i x t hi hx hd _ ih o ho
  have hs := (hl2 x (mem_drop hd)).2
  have ih1 := ih o (by omega)
  have ih2 := ih (o ++ [(i : Int)]) (by simp; omega)
  show spec_NotesLike.L0 p o L _ _ = _ ∧ impl_those_Note_impl_NotesLike_1.L0 o L _ _ p = _
  have i1 : (i : Int) < (L.length : Int) := by omega
  have i2 : (0 : Int) ≤ (i : Int) := by omega
  have o1 : o.length < 17592186044416 := by omega
  rw [spec_NotesLike.L0_eq, impl_those_Note_impl_NotesLike_1.L0_eq, like_cons]
  simp only [i1, i2, o1, if_true, rd_note, hx, quLikeN p x (by omega) hs, impl_NotesLike_1.F_eq, fitsN p x (by omega) hs, Option.bind_some, wrap_in (x := (i : Int) + 1) (by omega) (by omega)]
  cases lkN p x
  ·simpa using ih1
  ·simpa using ih2
theorem likes_same (L : List Note) (p : ByteArray) (hL : DrawnN L) (hp : p.size ≤ 9) : ∃ r b, spec_NotesLike.F L p = some (r, b) ∧ impl_NotesLike.F L p = some (r, b) ∧ r.length ≤ 41 ∧ (b = true → r = likeFrom p 0 L ∧ isTier L = true ∧ isPat p = true) := by
 have hz := hL.sized
 rw [spec_NotesLike.F_eq, impl_NotesLike.F_eq, tiGood_some _ hz, isTier_some _ hz, quPattern_some _ (by omega), isPat_some _ (by omega)]
 simp only [Option.bind_some, spec_NotesLike.J0_eq, impl_those_Note_impl_NotesLike_1.F_eq]
 cases hg : isTier L
 ·exact ⟨_, _, rfl, rfl, by simp, by simp⟩
 cases hgp : isPat p
 ·exact ⟨_, _, rfl, rfl, by simp, by simp⟩
 obtain ⟨k1, k2⟩ := those_same L p (pat8 hgp) (tier_facts hg)
 have := like_length p 0 L
 have := hL.1
 refine ⟨likeFrom p 0 L, true, k1, ?_, by omega, fun _ => ⟨rfl, rfl, rfl⟩⟩
 simp only [if_true, k2, Option.bind_some]
theorem qHas_some (l : List Int) (n : Int) (hl : l.length ≤ 1000000) : laws_qHas.F l n = some (decide (n ∈ l)) := by
 rw [laws_qHas.F_eq]
 refine each (L := fun i => laws_qHas.L0 n l l.length i) l 0 (fun _ t o => o = some (decide (n ∈ t))) ?_ ?_
 ·show laws_qHas.L0 n l _ _ = _
  rw [laws_qHas.L0_eq, if_neg (by omega)]; simp
 ·intro i x t hi hx _ _ ih
  have e : rd l (i : Int) = x := by rw [← hx]; simp [rd]
  show laws_qHas.L0 n l _ _ = _
  rw [laws_qHas.L0_eq, if_pos (by omega), if_pos (by omega), if_pos (by omega), e, wrap_in (x := (i : Int) + 1) (by omega) (by omega)]
  by_cases c : x = n
  ·rw [if_pos c]; simp [c]
  ·have c' : ¬ n = x := fun h => c h.symm
   rw [if_neg c, ih]; simp [c']
theorem mem_like (p : ByteArray) (n : Nat) : ∀ (t : List Note) (i : Nat), i ≤ n → n < i + t.length → (((n : Int) ∈ likeFrom p i t) ↔ lkN p (t.getD (n - i) z66) = true)
 | [], i, h1, h2 => by simp at h2; omega
 | x :: t, i, h1, h2 => by
  have low : ∀ (t : List Note) (i : Nat) (m : Int), m ∈ likeFrom p i t → (i : Int) ≤ m := by
   intro t
   induction t with
   | nil => intro i m hm; simp [likeFrom] at hm
   | cons y t ih =>
    intro i m hm
    rw [like_cons] at hm
    rcases List.mem_append.1 hm with hm | hm
    ·split at hm
     ·obtain rfl := List.mem_singleton.1 hm; omega
     ·simp at hm
    ·have := ih (i + 1) m hm; omega
  simp only [List.length_cons] at h2
  rw [like_cons, List.mem_append]
  by_cases e : i = n
  ·subst e
   have hn : ¬ ((i : Int) ∈ likeFrom p (i + 1) t) := fun hm => by have := low t (i + 1) _ hm; omega
   rw [Nat.sub_self, List.getD_cons_zero]
   cases hx : lkN p x <;> simp [hn]
  ·have ih := mem_like p n t (i + 1) (by omega) (by omega)
   have hn : ¬ ((n : Int) ∈ (if lkN p x = true then [(i : Int)] else [])) := fun hm => by
    split at hm
    ·have := List.mem_singleton.1 hm; omega
    ·simp at hm
   rw [show n - i = (n - (i + 1)) + 1 from by omega, List.getD_cons_succ, ← ih]
   simp [hn]
/-! ### Pairs -/
def PairOk (L : List Note) (fr : Int) (x : List Int) : Prop := ∃ i k : Nat, x = [(i : Int), (k : Int)] ∧ i < k ∧ k < L.length ∧ (L.getD k z66).f0 - (L.getD i z66).f1 ≤ fr
theorem pair_inner (L : List Note) (p1 p2 : ByteArray) (fr : Int) (hp1 : p1.size ≤ 8) (hp2 : p2.size ≤ 8) (hl : Tie L) (i : Nat) (hi : i < L.length) : ∀ (d k : Nat) (o : List (List Int)), k + d = L.length → i < k → o.length + d ≤ 100000 → (∀ x ∈ o, PairOk L fr x) →
 ∃ o', spec_PairsWithin.L1 L p1 p2 fr o i k L L.length i (L.getD i z66).f0 (L.getD i z66).f1 (L.getD i z66).f2 = spec_PairsWithin.L0 L p1 p2 fr o' L L.length ((i : Int) + 1) ∧ impl_PairsWithin.L1 L p1 p2 fr o i k L L.length i (L.getD i z66).f0 (L.getD i z66).f1 (L.getD i z66).f2 = impl_PairsWithin.L0 L p1 p2 fr o' L L.length ((i : Int) + 1) ∧ o'.length ≤ o.length + d ∧ ∀ x ∈ o', PairOk L fr x := by
 intro d
 have hl1 := hl.1
 induction d with
 | zero =>
  intro k o hd hk ho hg
  rw [spec_PairsWithin.L1_eq, impl_PairsWithin.L1_eq, if_neg (by omega), if_neg (by omega), wrap_in (x := (i : Int) + 1) (by omega) (by omega)]
  exact ⟨o, rfl, rfl, by omega, hg⟩
 | succ d ih =>
  intro k o hd hk ho hg
  have hkl : k < L.length := by omega
  have m1 := hl.2 _ (note_mem hi)
  have m2 := hl.2 _ (note_mem hkl)
  have ek : (k : Int) + 1 = ((k + 1 : Nat) : Int) := by omega
  obtain ⟨oa, a1, a2, a3, a4⟩ := ih (k + 1) o (by omega) (by omega) (by omega) hg
  have skip : ∃ o', spec_PairsWithin.L1 L p1 p2 fr o i ((k + 1 : Nat) : Int) L L.length i (L.getD i z66).f0 (L.getD i z66).f1 (L.getD i z66).f2 = spec_PairsWithin.L0 L p1 p2 fr o' L L.length ((i : Int) + 1) ∧ impl_PairsWithin.L1 L p1 p2 fr o i ((k + 1 : Nat) : Int) L L.length i (L.getD i z66).f0 (L.getD i z66).f1 (L.getD i z66).f2 = impl_PairsWithin.L0 L p1 p2 fr o' L L.length ((i : Int) + 1) ∧ o'.length ≤ o.length + (d + 1) ∧ ∀ x ∈ o', PairOk L fr x := ⟨oa, a1, a2, by omega, a4⟩
  have k1 : (k : Int) < (L.length : Int) := by omega
  have k2 : (0 : Int) ≤ (k : Int) := by omega
  have k3 : o.length < 5864062014805 := by omega
  rw [spec_PairsWithin.L1_eq, impl_PairsWithin.L1_eq]
  simp only [k1, k2, if_true, quLikeN p1 _ (show p1.size ≤ 9 by omega) m1.2, fitsN p1 _ (show p1.size ≤ 9 by omega) m1.2, quLikeN p2 _ (show p2.size ≤ 9 by omega) m2.2, fitsN p2 _ (show p2.size ≤ 9 by omega) m2.2, Option.bind_some, rd_note, ek, wrap_in (x := ((k + 1 : Nat) : Int)) (by omega) (by omega), wrap_in (x := (L.getD k z66).f0 - (L.getD i z66).f1) (by omega) (by omega)]
  cases lkN p1 (L.getD i z66)
  ·simpa only [Bool.false_eq_true, if_false] using skip
  cases lkN p2 (L.getD k z66)
  ·simpa only [Bool.false_eq_true, if_false, if_true] using skip
  simp only [if_true]
  by_cases c : (L.getD k z66).f0 - (L.getD i z66).f1 ≤ fr
  case neg => simp only [c, if_false]; exact skip
  simp only [c, k3, if_true]
  obtain ⟨ob, b1, b2, b3, b4⟩ := ih (k + 1) (o ++ [[(i : Int), (k : Int)]]) (by omega) (by omega) (by simp; omega) (fun x hx => by
   rcases List.mem_append.1 hx with hx | hx
   ·exact hg x hx
   ·obtain rfl := List.mem_singleton.1 hx
    exact ⟨i, k, rfl, hk, hkl, c⟩)
  exact ⟨ob, b1, b2, by simp at b3; omega, b4⟩
theorem pair_outer (L : List Note) (p1 p2 : ByteArray) (fr : Int) (hp1 : p1.size ≤ 8) (hp2 : p2.size ≤ 8) (hl : Tie L) : ∀ (d i : Nat) (o : List (List Int)), i + d = L.length → o.length + 50 * d ≤ 50000 → (∀ x ∈ o, PairOk L fr x) →
 ∃ r, spec_PairsWithin.L0 L p1 p2 fr o L L.length i = some (r, true) ∧ impl_PairsWithin.L0 L p1 p2 fr o L L.length i = some (r, true) ∧ r.length ≤ 50000 ∧ ∀ x ∈ r, PairOk L fr x := by
 intro d
 have hl1 := hl.1
 induction d with
 | zero =>
  intro i o hd ho hg
  rw [spec_PairsWithin.L0_eq, impl_PairsWithin.L0_eq, if_neg (by omega), if_neg (by omega)]
  exact ⟨o, rfl, rfl, by omega, hg⟩
 | succ d ih =>
  intro i o hd ho hg
  have hi : i < L.length := by omega
  have ei : (i : Int) + 1 = ((i + 1 : Nat) : Int) := by omega
  obtain ⟨o', a1, a2, a3, a4⟩ := pair_inner L p1 p2 fr hp1 hp2 hl i hi d (i + 1) o (by omega) (by omega) (by omega) hg
  obtain ⟨r, b1, b2, b3, b4⟩ := ih (i + 1) o' (by omega) (by omega) a4
  rw [spec_PairsWithin.L0_eq, impl_PairsWithin.L0_eq, if_pos (by omega), if_pos (by omega), if_pos (by omega), if_pos (by omega), if_pos (by omega), if_pos (by omega), wrap_in (x := (i : Int) + 1) (by omega) (by omega), rd_note, ei, a1, a2, ei, b1, b2]
  exact ⟨r, rfl, rfl, b3, b4⟩
theorem pairs_same (L : List Note) (p1 p2 : ByteArray) (fr : Int) (hL : DrawnN L) (h1 : p1.size ≤ 9) (h2 : p2.size ≤ 9) : ∃ r b, spec_PairsWithin.F L p1 p2 fr = some (r, b) ∧ impl_PairsWithin.F L p1 p2 fr = some (r, b) ∧ r.length ≤ 50000 ∧ (∀ x ∈ r, PairOk L fr x) ∧ (r ≠ [] → Tie L) := by
 have hz := hL.sized
 rw [spec_PairsWithin.F_eq, impl_PairsWithin.F_eq, tiGood_some _ hz, isTier_some _ hz, quPattern_some _ (by omega), isPat_some _ (by omega), quPattern_some _ (by omega), isPat_some _ (by omega), tiFrame_some, isFrame_some]
 simp only [Option.bind_some, spec_PairsWithin.J0_eq, impl_PairsWithin.J0_eq]
 cases hg : isTier L
 ·exact ⟨_, _, rfl, rfl, by simp, by simp, by simp⟩
 cases g1 : isPat p1
 ·exact ⟨_, _, rfl, rfl, by simp, by simp, by simp⟩
 cases g2 : isPat p2
 ·exact ⟨_, _, rfl, rfl, by simp, by simp, by simp⟩
 by_cases c : 0 ≤ fr ∧ fr ≤ 99999
 case neg => rw [decide_eq_false c]; exact ⟨_, _, rfl, rfl, by simp, by simp, by simp⟩
 rw [decide_eq_true c]
 simp only [if_true, Bool.not_true, Bool.false_eq_true, if_false]
 have ht := tier_facts hg
 have hl1 := ht.1
 obtain ⟨r, k1, k2, k3, k4⟩ := pair_outer L p1 p2 fr (pat8 g1) (pat8 g2) ht L.length 0 [] (by omega) (by simp; omega) (by simp)
 exact ⟨r, true, k1, k2, k3, k4, fun _ => ht⟩
/-! ### What is drawn -/
theorem drawSeq_tells (l : List Int) (hl : Bytes l) : ∃ L q, spec_DrawSequencesOf.F l = some (L, q) ∧ DrawnN L ∧ q.length ≤ 9 ∧ ∀ x ∈ q, x.size ≤ 9 := by
 obtain ⟨L, b, t, h1, hL, i1, j1⟩ := tier_tells l hl
 have rounds : ∀ (N : Int), N ≤ 9 → ∀ (d : Nat) (q : List ByteArray) (a s : Int), q.length + d = 9 → (∀ x ∈ q, x.size ≤ 9) → (0 ≤ a ∧ a ≤ 100000 - 100 * d) → ∃ q', spec_DrawSequencesOf.L0 L q N l a s = some (L, q') ∧ q'.length ≤ 9 ∧ ∀ x ∈ q', x.size ≤ 9 := by
  intro N hN d
  have hlen := hL.1
  have stop : ∀ (q : List ByteArray) (a s : Int), q.length ≤ 9 → (∀ x ∈ q, x.size ≤ 9) → (0 ≤ a ∧ a ≤ 100000) → ¬ (q.length : Int) < N → ∃ q', spec_DrawSequencesOf.L0 L q N l a s = some (L, q') ∧ q'.length ≤ 9 ∧ ∀ x ∈ q', x.size ≤ 9 := by
   intro q a s hq hqw ha hn
   rw [spec_DrawSequencesOf.L0_eq, if_neg hn]
   by_cases c1 : (L.length : Int) > 1
   case neg => rw [if_neg c1]; exact ⟨q, rfl, hq, hqw⟩
   rw [if_pos c1]
   by_cases c2 : N = 2
   case neg => rw [if_neg c2]; exact ⟨q, rfl, hq, hqw⟩
   rw [if_pos c2]
   obtain ⟨c, b2, t2, h2, i2, j2⟩ := one_tells l hl a s 2 (by omega) (by omega)
   simp only [h2, Option.bind_some]
   cases c
   ·rw [if_neg (by simp)]; exact ⟨q, rfl, hq, hqw⟩
   rw [if_pos rfl, wrap_in (x := (L.length : Int) - 1) (by omega) (by omega)]
   obtain ⟨k, b3, t3, h3, p3, q3, i3, j3⟩ := pick_tells l hl b2 t2 ((L.length : Int) - 1) (by omega) (by omega)
   have q4 := q3 (by omega)
   obtain ⟨m, rfl⟩ := Int.eq_ofNat_of_zero_le p3
   have e : (m : Int) + 1 = ((m + 1 : Nat) : Int) := by omega
   simp only [h3, Option.bind_some]
   rw [wrap_in (x := (m : Int) + 1) (by omega) (by omega), if_pos (by omega), if_pos (by omega), if_pos (by omega), if_pos (by omega), e, rd_note, rd_note]
   refine ⟨_, rfl, by simp, fun x hx => ?_⟩
   simp only [List.mem_cons, List.not_mem_nil, or_false] at hx
   rcases hx with rfl | rfl
   ·exact hL.2 _ (note_mem (by omega))
   ·exact hL.2 _ (note_mem (by omega))
  induction d with
  | zero => intro q a s hd hqw ha; exact stop q a s (by omega) hqw (by omega) (by omega)
  | succ d ih =>
   intro q a s hd hqw ha
   by_cases c : (q.length : Int) < N
   case neg => exact stop q a s (by omega) hqw (by omega) c
   obtain ⟨r, b2, t2, h2, z2, i2, j2⟩ := pattern_tells l hl a s (by omega)
   rw [spec_DrawSequencesOf.L0_eq, if_pos c]
   simp only [h2, Option.bind_some]
   rw [if_pos (by omega)]
   exact ih _ _ _ (by simp; omega) (fun x hx => by
    rcases List.mem_append.1 hx with hx | hx
    ·exact hqw x hx
    ·obtain rfl := List.mem_singleton.1 hx
     exact z2) (by omega)
 rw [spec_DrawSequencesOf.F_eq]
 simp only [h1, Option.bind_some]
 obtain ⟨r2, b2, t2, h2, p2, q2, i2, j2⟩ := pick_tells l hl b t 3 (by omega) (by omega)
 have q3 := q2 (by omega)
 simp only [h2, Option.bind_some]
 obtain ⟨c, b3, t3, h3, i3, j3⟩ := one_tells l hl b2 t2 12 (by omega) (by omega)
 simp only [h3, Option.bind_some]
 cases c
 ·rw [if_neg (by simp), spec_DrawSequencesOf.J0_eq, wrap_in (by omega) (by omega)]
  obtain ⟨q', k1, k2, k3⟩ := rounds (1 + r2) (by omega) 9 [] b3 t3 (by simp) (by simp) (by omega)
  exact ⟨L, q', k1, hL, k2, k3⟩
 ·rw [if_pos rfl]
  obtain ⟨r4, b4, t4, h4, m4, i4, j4⟩ := among_tells l hl b3 t3 [0, 8, 9] (by omega) (by simp)
  simp only [h4, Option.bind_some, spec_DrawSequencesOf.J0_eq]
  have : r4 ≤ 9 := by simp at m4; omega
  obtain ⟨q', k1, k2, k3⟩ := rounds r4 this 9 [] b4 t4 (by simp) (by simp) (by omega)
  exact ⟨L, q', k1, hL, k2, k3⟩
theorem drawLike_tells (l : List Int) (hl : Bytes l) : ∃ L p, spec_DrawNotesLike.F l = some (L, p) ∧ DrawnN L ∧ p.size ≤ 9 := by
 obtain ⟨L, b, t, h1, hL, i1, j1⟩ := tier_tells l hl
 obtain ⟨r, b2, t2, h2, z2, i2, j2⟩ := pattern_tells l hl b t (by omega)
 rw [spec_DrawNotesLike.F_eq]
 simp only [h1, h2, Option.bind_some]
 exact ⟨_, _, rfl, hL, z2⟩
theorem drawPairs_tells (l : List Int) (hl : Bytes l) : ∃ L p1 p2 fr, spec_DrawPairsWithin.F l = some (L, p1, p2, fr) ∧ DrawnN L ∧ p1.size ≤ 9 ∧ p2.size ≤ 9 := by
 obtain ⟨L, b, t, h1, hL, i1, j1⟩ := tier_tells l hl
 obtain ⟨r, b2, t2, h2, z2, i2, j2⟩ := pattern_tells l hl b t (by omega)
 obtain ⟨r3, b3, t3, h3, z3, i3, j3⟩ := pattern_tells l hl b2 t2 (by omega)
 obtain ⟨r4, b4, t4, h4, _, i4, j4⟩ := among_tells l hl b3 t3 [10, -1, 100000] (by omega) (by simp)
 obtain ⟨r5, b5, t5, h5, _, i5, j5⟩ := among_tells l hl b4 t4 [0, 2, 5, 20, 99999, r4] (by omega) (by simp)
 rw [spec_DrawPairsWithin.F_eq]
 simp only [h1, h2, h3, h4, h5, Option.bind_some]
 exact ⟨_, _, _, _, rfl, hL, z2, z3⟩
theorem drawMatches_tells (l : List Int) (hl : Bytes l) : ∃ g h, spec_DrawMatchesGloss.f l = some (g, h) ∧ g.size ≤ 9 ∧ h.size ≤ 9 := by
 obtain ⟨r, b, t, h1, z1, i1, j1⟩ := pattern_tells l hl 0 0 (by omega)
 unfold spec_DrawMatchesGloss.f
 simp only [h1, Option.bind_some]
 generalize hm : ([(⟨#[]⟩ : ByteArray), (⟨#[103, 111]⟩ : ByteArray), (⟨#[69, 73, 71, 72, 84, 76, 69, 84]⟩ : ByteArray)] : List ByteArray) = m
 have hmm : ∀ x ∈ m, x.size ≤ 9 := by rw [← hm]; simp only [List.mem_cons, List.not_mem_nil, or_false]; rintro x (rfl | rfl | rfl) <;> decide
 obtain ⟨r2, b2, t2, h2, m2, i2, j2⟩ := of_tells l hl b t m (by omega) (by rw [← hm]; simp)
 have hr := hmm _ m2
 simp only [h2, Option.bind_some]
 generalize hq : ([(⟨#[71, 79]⟩ : ByteArray), (⟨#[72, 79, 85, 83, 69]⟩ : ByteArray), (⟨#[73]⟩ : ByteArray), (⟨#[89, 79, 85]⟩ : ByteArray), (⟨#[71, 73, 86, 69]⟩ : ByteArray), (⟨#[66, 79, 79, 75]⟩ : ByteArray), r2] : List ByteArray) = q
 have hqq : ∀ x ∈ q, x.size ≤ 9 := by rw [← hq]; simp only [List.mem_cons, List.not_mem_nil, or_false]; rintro x (rfl | rfl | rfl | rfl | rfl | rfl | rfl) <;> first | exact hr | decide
 obtain ⟨r3, b3, t3, h3, m3, i3, j3⟩ := of_tells l hl b2 t2 q (by omega) (by rw [← hq]; simp)
 simp only [h3, Option.bind_some]
 exact ⟨_, _, rfl, z1, hqq _ m3⟩
/-! ### The law, from its end -/
theorem lk_self : ∀ g : List UInt8, (∀ c ∈ g, 65 ≤ c.toNat ∧ c.toNat ≤ 90) → lk g g = true
 | [], _ => rfl
 | c :: g, h => by
  have hc := h c (by simp)
  have hn : ¬ c = 42 := fun e => by subst e; simp at hc
  have ih := lk_self g (fun x hx => h x (by simp [hx]))
  rw [lk, if_neg hn]
  simp [oneLetter, ih]
theorem lk_star_any (g : List UInt8) : lk [42] g = true := by
 rw [lk, if_pos rfl, anySuffix_iff]
 exact ⟨g, [], by simp, rfl⟩
theorem j4 (L : List Note) (fr : Int) (r : List (List Int)) (h : ByteArray) (five : Bool) (hr : r.length ≤ 50000) (hg : ∀ x ∈ r, PairOk L fr x) (ht : r ≠ [] → Tie L) (hh : h.size ≤ 9) (h5 : five = true → isWord 65 90 h = true) : laws_FnQueries.J4 L fr r h five = some true := by
 rw [laws_FnQueries.J4_eq]
 refine each (L := fun i => laws_FnQueries.L3 L fr h five r r.length i) r [] (fun _ _ o => o = some true) ?_ ?_
 ·show laws_FnQueries.L3 L fr h five r _ _ = _
  rw [laws_FnQueries.L3_eq, if_neg (by omega)]
  cases five
  ·rfl
  ·have hw := h5 rfl
   have hs : isPat ⟨#[42]⟩ = true := by decide +kernel
   have hp : isPat h = true := by
    have := hw
    simp only [isWord, inRange, isPat, Bool.and_eq_true, decide_eq_true_eq, List.all_eq_true] at this ⊢
    exact ⟨this.1, fun c hc => by have := this.2 c hc; simp [patLetter]; omega⟩
   have hl : lk h.data.toList h.data.toList = true := by
    refine lk_self _ (fun c hc => ?_)
    have := hw
    simp only [isWord, inRange, Bool.and_eq_true, decide_eq_true_eq, List.all_eq_true] at this
    have := this.2 c hc
    simpa using this
   have e1 : mg ⟨#[42]⟩ h = (true, true) := by unfold mg; rw [if_pos ⟨hs, hw⟩]; exact congrArg (·, true) (lk_star_any _)
   have e2 : mg h h = (true, true) := by unfold mg; rw [if_pos ⟨hp, hw⟩, hl]
   rw [if_pos rfl, implMatches_some _ _ (by decide) (by omega), implMatches_some _ _ (by omega) (by omega), e1, e2]
   rfl
 ·intro n x t hn hx hd _ ih
  have hm := mem_drop hd
  obtain ⟨i, k, rfl, h1, h2, h3⟩ := hg x hm
  have hT := ht (fun e => by rw [e] at hm; simp at hm)
  have m1 := hT.2 _ (note_mem (show i < L.length by omega))
  have m2 := hT.2 _ (note_mem h2)
  have hl1 := hT.1
  have e0 : rd [(i : Int), (k : Int)] 0 = i := rfl
  have e1 : rd [(i : Int), (k : Int)] 1 = k := rfl
  show laws_FnQueries.L3 L fr h five r _ _ = _
  rw [laws_FnQueries.L3_eq, if_pos (by omega), if_pos (by omega), if_pos (by omega), rd_row, hx, if_pos (by simp), if_pos (by simp), e0, e1, if_neg (by omega), if_pos (by omega), if_pos (by omega), if_pos (by omega), if_pos (by omega), rd_note, rd_note, wrap_in (by omega) (by omega), if_neg (by omega), wrap_in (x := (n : Int) + 1) (by omega) (by omega)]
  exact ih
theorem l2 (u : List Note) (p : ByteArray) (L : List Note) (fr : Int) (r : List (List Int)) (h : ByteArray) (five : Bool) (hu : DrawnN u) (hp : p.size ≤ 9) (hip : isPat p = true) (hit : isTier u = true) (hj : laws_FnQueries.J4 L fr r h five = some true) : laws_FnQueries.L2 p (likeFrom p 0 u) L fr r h five u u.length 0 = some true := by
 have hw := tier_word hit
 have hl1 := hu.1
 have hll := like_length p 0 u
 refine each (L := fun i => laws_FnQueries.L2 p (likeFrom p 0 u) L fr r h five u u.length i) u z66 (fun _ _ o => o = some true) ?_ ?_
 ·show laws_FnQueries.L2 p _ L fr r h five u _ _ = _
  rw [laws_FnQueries.L2_eq, if_neg (by omega), hj]
 ·intro i x t hi hx hd _ ih
  have hm := mem_drop hd
  have hxs := hu.2 x hm
  have e : mg p x.f2 = (lkN p x, true) := by unfold mg; rw [if_pos ⟨hip, hw x hm⟩]; rfl
  have hq := mem_like p i u 0 (by omega) (by omega)
  rw [Nat.sub_zero, hx] at hq
  have hd2 : decide ((i : Int) ∈ likeFrom p 0 u) = lkN p x := by
   cases hk : lkN p x
   ·exact decide_eq_false (fun hmem => by rw [hk] at hq; exact absurd (hq.1 hmem) (by simp))
   ·exact decide_eq_true (hq.2 hk)
  show laws_FnQueries.L2 p _ L fr r h five u _ _ = _
  rw [laws_FnQueries.L2_eq, if_pos (by omega), if_pos (by omega), if_pos (by omega), rd_note, hx, implMatches_some _ _ (by omega) (by omega), specMatches_some _ _ (by omega) (by omega), e, wrap_in (x := (i : Int) + 1) (by omega) (by omega)]
  simp only [Option.bind_some, if_true, bne_self_eq_false, Bool.false_eq_true, if_false, qHas_some _ _ (show (likeFrom p 0 u).length ≤ 1000000 by omega), hd2]
  exact ih
theorem l0 (L0 : List Note) (q : List ByteArray) (s : List Int) (u : List Note) (p : ByteArray) (one : Bool) (like : List Int) (L : List Note) (fr : Int) (r : List (List Int)) (h : ByteArray) (five : Bool) (hL : DrawnN L0) (hq1 : q.length ≤ 9) (hqw : ∀ x ∈ q, x.size ≤ 9) (hs1 : s.length ≤ 41) (hs : ∀ i ∈ s, SeqOk L0 q i ∧ isTier L0 = true ∧ q.all isPat = true)
 (hj : laws_FnQueries.J4 L fr r h five = some true) (h2 : one = true → laws_FnQueries.L2 p like L fr r h five u u.length 0 = some true) : laws_FnQueries.L0 L0 q u p one like L fr r h five s s.length 0 = some true := by
 have hl1 := hL.1
 refine each (L := fun i => laws_FnQueries.L0 L0 q u p one like L fr r h five s s.length i) s 0 (fun _ _ o => o = some true) ?_ ?_
 ·show laws_FnQueries.L0 L0 q u p one like L fr r h five s _ _ = _
  rw [laws_FnQueries.L0_eq, if_neg (by omega)]
  cases one
  ·rw [if_neg (by simp)]; exact hj
  ·rw [if_pos rfl]; exact h2 rfl
 ·intro n x t hn hx hd _ ih
  obtain ⟨⟨m, rfl, hm1, hm2⟩, hti, hpa⟩ := hs x (mem_drop hd)
  have hw := tier_word hti
  have e : rd s (n : Int) = (m : Int) := by rw [← hx]; simp [rd]
  show laws_FnQueries.L0 L0 q u p one like L fr r h five s _ _ = _
  rw [laws_FnQueries.L0_eq, if_pos (by omega), if_pos (by omega), if_pos (by omega), e]
  refine each (L := fun j => laws_FnQueries.L1 L0 q u p one like L fr r h five m s s.length n q q.length j) q ByteArray.empty (fun j t o => fitAt L0 (m + j) t = true → o = some true) ?_ ?_ hm2
  ·intro _
   show laws_FnQueries.L1 L0 q u p one like L fr r h five _ s _ _ q _ _ = _
   rw [laws_FnQueries.L1_eq, if_neg (by omega), wrap_in (x := (n : Int) + 1) (by omega) (by omega)]
   exact ih
  ·intro j y t' hj' hy hd' _ ih' hf
   have hmem := mem_drop hd'
   have hys := hqw y hmem
   have hij : m + j < L0.length := by omega
   have hnm := note_mem hij
   have hns := hL.2 _ hnm
   have ef : fitAt L0 (m + j) (y :: t') = (lkN y (L0.getD (m + j) z66) && fitAt L0 (m + (j + 1)) t') := rfl
   rw [ef, Bool.and_eq_true] at hf
   have e2 : mg y (L0.getD (m + j) z66).f2 = (true, true) := by
    unfold mg
    rw [if_pos ⟨(List.all_eq_true.1 hpa) y hmem, hw _ hnm⟩]
    exact congrArg (·, true) hf.1
   have ea : (m : Int) + (j : Int) = ((m + j : Nat) : Int) := by omega
   show laws_FnQueries.L1 L0 q u p one like L fr r h five _ s _ _ q _ _ = _
   rw [laws_FnQueries.L1_eq, if_pos (by omega), if_pos (by omega), if_pos (by omega), wrap_in (x := (m : Int) + (j : Int)) (by omega) (by omega), ea, if_pos (by omega), if_pos (by omega), rd_txt', hy, rd_note, implMatches_some _ _ (by omega) (by omega), e2, wrap_in (x := (j : Int) + 1) (by omega) (by omega)]
   exact ih' hf.2
theorem FnQueries : laws_FnQueries.Pure := by
 intro l0_ l1 _ m0 w0 _ m1 w1
 refine lim_rounds (?_ : laws_FnQueries.F l0_ l1 = some true)
 rw [laws_FnQueries.F_eq]
 by_cases hbig : (wrap64 ((l0_.length : Int) + (l1.length : Int))) > 1048576
 ·rw [if_pos hbig]
 rw [if_neg hbig]
 rw [wrap_in (by omega) (by omega)] at hbig
 have B0 := bytes_of (l := l0_) (by omega) w0
 have B1 := bytes_of (l := l1) (by omega) w1
 obtain ⟨L0, q, d1, hL0, hq1, hqw⟩ := drawSeq_tells l0_ B0
 obtain ⟨u, p, d2, hu, hp⟩ := drawLike_tells l1 B1
 obtain ⟨L, p1, p2, fr, d3, hL, hp1, hp2⟩ := drawPairs_tells l1 B1
 obtain ⟨g, h, d4, hgs, hhs⟩ := drawMatches_tells l1 B1
 obtain ⟨s, b1, s1, s2, s3, s4⟩ := seqs_same L0 q hL0 hq1 hqw
 obtain ⟨lk1, b2, k1, k2, k3, k4⟩ := likes_same u p hu hp
 obtain ⟨r, b3, r1, r2, r3, r4, r5⟩ := pairs_same L p1 p2 fr hL hp1 hp2
 have h5 : (mg g h).2 = true → isWord 65 90 h = true := fun e => by
  unfold mg at e
  split at e
  ·rename_i c; exact c.2
  ·cases e
 have hj := j4 L fr r h (mg g h).2 r3 r4 r5 hhs h5
 have h2 : b2 = true → laws_FnQueries.L2 p lk1 L fr r h (mg g h).2 u u.length 0 = some true := fun e => by
  obtain ⟨rfl, c2, c3⟩ := k4 e
  exact l2 u p L fr r h (mg g h).2 hu hp c3 c2 hj
 have hx := l0 L0 q s u p b2 lk1 L fr r h (mg g h).2 hL0 hq1 hqw s3 s4 hj h2
 have q1 := qInts_refl s (by omega)
 have q2 := qInts_refl lk1 (by omega)
 have q3 := qLists_refl r (by omega) (fun x hx => by obtain ⟨i, k, rfl, _⟩ := r4 x hx; simp)
 simp only [d1, d2, d3, d4, Option.bind_some, s1, s2, k1, k2, r1, r2, implMatches_some g h (show g.size ≤ 1048576 by omega) (show h.size ≤ 1048576 by omega), specMatches_some g h (show g.size ≤ 1048576 by omega) (show h.size ≤ 1048576 by omega), bne_self_eq_false, Bool.false_eq_true, if_false, q1, q2, q3, if_true, laws_FnQueries.J0_eq, hx]

end Go.Proofs.Ytnmgcphajacdnaa.Pure
