/- The pure statement of the law FnExactPairsWithin: for all arguments within their bounds its Lean function answers true. -/
import Derived.Test.YtnmgcphajacdnaaPFnExactPairsWithinxD0
namespace Go.Proofs.Ytnmgcphajacdnaa.Pure
open Go.RowKit Go.Proofs.Ytnmgcphajacdnaa.PFnExactPairsWithin Go.Proofs.YtnmgcphajacdnaaW.PrintWords Go.Proofs.YtnmgcphajacdnaaW.PrintLast
set_option linter.unusedVariables false
set_option linter.unusedSimpArgs false
/-! ### Numbers, loops, letters -/
theorem wrap_in {x : Int} (h0 : -9223372036854775808 ≤ x) (h1 : x ≤ 9223372036854775807) : wrap64 x = x := by
  unfold wrap64; omega
theorem wf_i64 {n : Int} (h : (Lit.int .i64 n).wf = true) : -9223372036854775808 ≤ n ∧ n ≤ 9223372036854775807 := by
  simpa [Lit.wf, IntKind.min, IntKind.max, IntKind.signed, IntKind.bits] using h
/-- A loop over a list, from its end. L: what the loop tells from place i on. -/
theorem each {α γ : Type} (L : Int → γ) (l : List α) (z : α) (R : Nat → List α → γ → Prop) (nil : R l.length [] (L l.length))
    (cons : ∀ (i : Nat) (x : α) (t : List α), i < l.length → l.getD i z = x → l.drop i = x :: t → l.drop (i + 1) = t → R (i + 1) t (L ((i : Int) + 1)) → R i (x :: t) (L i)) : R 0 l (L 0) := by
  have key : ∀ (t : List α) (i : Nat), l.drop i = t → i ≤ l.length → R i t (L i) := by
    intro t
    induction t with
    | nil =>
      intro i h hi
      have : l.length ≤ i := by simpa [List.drop_eq_nil_iff] using h
      obtain rfl : i = l.length := by omega
      exact nil
    | cons x t ih =>
      intro i h hi
      have hlt : i < l.length := by
        rcases Nat.lt_or_ge i l.length with h' | h'
        · exact h'
        · rw [List.drop_eq_nil_of_le h'] at h; cases h
      have h2 := List.drop_eq_getElem_cons hlt
      rw [h] at h2
      injection h2 with h3 h4
      refine cons i x t hlt ?_ h h4.symm ?_
      · rw [List.getD_eq_getElem?_getD, List.getElem?_eq_getElem hlt]; exact h3.symm
      · have := ih (i + 1) h4.symm (by omega)
        rwa [show ((i + 1 : Nat) : Int) = (i : Int) + 1 from by omega] at this
  have := key l 0 rfl (Nat.zero_le _)
  rwa [show ((0 : Nat) : Int) = 0 from rfl] at this
theorem bt_data (s : ByteArray) (i : Nat) (h : i < s.size) : bt s (i : Int) = ((s.data.toList.getD i 0).toNat : Int) := by
  obtain ⟨d⟩ := s
  have h' : i < d.size := h
  have : bt ⟨d⟩ (i : Int) = ((d[i]).toNat : Int) := by
    unfold bt
    rw [dif_pos (show ((i : Int)).toNat < (⟨d⟩ : ByteArray).size from by simpa using h)]
    rfl
  rw [this]
  simp [h']
theorem size_data (s : ByteArray) : s.size = s.data.toList.length := by
  obtain ⟨d⟩ := s; simp [ByteArray.size]
theorem toList_data (s : ByteArray) : s.toList = s.data.toList := by
  rw [ByteArray.toList_eq]
theorem ext_data {s t : ByteArray} (h : s.toList = t.toList) : s = t := by
  rw [toList_data, toList_data] at h
  obtain ⟨⟨a⟩⟩ := s
  obtain ⟨⟨b⟩⟩ := t
  simp at h
  rw [h]
theorem toList_iff {s t : ByteArray} : s.toList = t.toList ↔ s = t := ⟨ext_data, fun h => by rw [h]⟩
theorem mem_drop {α : Type} {l t : List α} {x : α} {i : Nat} (h : l.drop i = x :: t) : x ∈ l := List.mem_of_mem_drop (i := i) (by rw [h]; simp)

/-! ### Patterns: '*' (42) any letters, '?' (63) one -/
def anySuffix (f : List UInt8 → Bool) : List UInt8 → Bool
  | [] => f []
  | c :: t => f (c :: t) || anySuffix f t
def oneLetter (a : UInt8) (f : List UInt8 → Bool) : List UInt8 → Bool
  | [] => false
  | c :: t => (a == 63 || a == c) && f t
def lk : List UInt8 → List UInt8 → Bool
  | [] => List.isEmpty
  | a :: p => if a = 42 then anySuffix (lk p) else oneLetter a (lk p)
theorem anySuffix_iff (f : List UInt8 → Bool) : ∀ w, anySuffix f w = true ↔ ∃ s v, w = s ++ v ∧ f v = true
  | [] => by
    constructor
    · intro h; exact ⟨[], [], rfl, h⟩
    · rintro ⟨s, v, h1, h2⟩
      have := (List.append_eq_nil_iff.1 h1.symm).2
      subst this; exact h2
  | c :: t => by
    rw [anySuffix, Bool.or_eq_true, anySuffix_iff f t]
    constructor
    · rintro (h | ⟨s, v, rfl, h⟩)
      · exact ⟨[], c :: t, rfl, h⟩
      · exact ⟨c :: s, v, rfl, h⟩
    · rintro ⟨s, v, h1, h2⟩
      cases s with
      | nil => exact .inl (by rw [List.nil_append] at h1; rw [h1]; exact h2)
      | cons d s =>
        injection h1 with h3 h4
        exact .inr ⟨s, v, h4, h2⟩
theorem lk_append : ∀ (p q w : List UInt8), lk (p ++ q) w = true ↔ ∃ t u, w = t ++ u ∧ lk p t = true ∧ lk q u = true
  | [], q, w => by
    constructor
    · intro h; exact ⟨[], w, rfl, rfl, h⟩
    · rintro ⟨t, u, rfl, h1, h2⟩
      have : t = [] := by simpa [lk] using h1
      subst this; exact h2
  | a :: p, q, w => by
    by_cases ha : a = 42
    · show lk (a :: (p ++ q)) w = true ↔ _
      rw [lk, if_pos ha, anySuffix_iff]
      constructor
      · rintro ⟨s, v, rfl, h⟩
        obtain ⟨t, u, rfl, h1, h2⟩ := (lk_append p q v).1 h
        refine ⟨s ++ t, u, by simp, ?_, h2⟩
        rw [lk, if_pos ha, anySuffix_iff]
        exact ⟨s, t, rfl, h1⟩
      · rintro ⟨t, u, rfl, h1, h2⟩
        rw [lk, if_pos ha, anySuffix_iff] at h1
        obtain ⟨s, v, rfl, h3⟩ := h1
        exact ⟨s, v ++ u, by simp, (lk_append p q _).2 ⟨v, u, rfl, h3, h2⟩⟩
    · show lk (a :: (p ++ q)) w = true ↔ _
      rw [lk, if_neg ha]
      constructor
      · intro h
        cases w with
        | nil => simp [oneLetter] at h
        | cons c w =>
          rw [oneLetter, Bool.and_eq_true] at h
          obtain ⟨t, u, rfl, h1, h2⟩ := (lk_append p q w).1 h.2
          refine ⟨c :: t, u, rfl, ?_, h2⟩
          rw [lk, if_neg ha, oneLetter, Bool.and_eq_true]
          exact ⟨h.1, h1⟩
      · rintro ⟨t, u, rfl, h1, h2⟩
        rw [lk, if_neg ha] at h1
        cases t with
        | nil => simp [oneLetter] at h1
        | cons c t =>
          rw [oneLetter, Bool.and_eq_true] at h1
          rw [List.cons_append, oneLetter, Bool.and_eq_true]
          exact ⟨h1.1, (lk_append p q _).2 ⟨t, u, rfl, h1.2, h2⟩⟩
theorem lk_star (u : List UInt8) : lk [42] u = true := by
  rw [lk, if_pos rfl, anySuffix_iff]
  exact ⟨u, [], by simp, rfl⟩
theorem lk_one (a : UInt8) (ha : a ≠ 42) (u : List UInt8) : lk [a] u = true ↔ ∃ c, u = [c] ∧ (a = 63 ∨ a = c) := by
  rw [lk, if_neg ha]
  cases u with
  | nil => simp [oneLetter]
  | cons c u =>
    simp only [oneLetter, Bool.and_eq_true, Bool.or_eq_true, beq_iff_eq, lk, List.isEmpty_iff]
    constructor
    · rintro ⟨h1, rfl⟩; exact ⟨c, rfl, h1⟩
    · rintro ⟨d, h1, h2⟩
      injection h1 with h3 h4
      subst h3; exact ⟨h2, h4⟩
/-- A row's letter: what it is after one letter more of the pattern. -/
theorem lk_row0 (P : List UInt8) (c : UInt8) : lk (P ++ [c]) [] = true ↔ (c = 42 ∧ lk P [] = true) := by
  rw [lk_append]
  constructor
  · rintro ⟨t, u, h, h1, h2⟩
    obtain ⟨rfl, rfl⟩ := List.append_eq_nil_iff.1 h.symm
    by_cases hc : c = 42
    · exact ⟨hc, h1⟩
    · obtain ⟨d, h3, _⟩ := (lk_one c hc []).1 h2
      cases h3
  · rintro ⟨rfl, h⟩
    exact ⟨[], [], rfl, h, lk_star []⟩
theorem lk_rowS (P T : List UInt8) (c d : UInt8) : lk (P ++ [c]) (T ++ [d]) = true ↔ if c = 42 then (lk P (T ++ [d]) = true ∨ lk (P ++ [c]) T = true) else (lk P T = true ∧ (c = 63 ∨ c = d)) := by
  rw [lk_append]
  by_cases hc : c = 42
  · subst hc
    rw [if_pos rfl]
    constructor
    · rintro ⟨t, u, h, h1, _⟩
      rcases List.eq_nil_or_concat u with rfl | ⟨v, e, rfl⟩
      · rw [List.append_nil] at h
        exact .inl (by rw [h]; exact h1)
      · rw [List.concat_eq_append, ← List.append_assoc] at h
        obtain ⟨h3, _⟩ := List.append_inj' h rfl
        refine .inr ((lk_append _ _ _).2 ⟨t, v, h3, h1, lk_star v⟩)
    · rintro (h | h)
      · exact ⟨T ++ [d], [], by simp, h, lk_star []⟩
      · obtain ⟨t, u, rfl, h1, _⟩ := (lk_append _ _ _).1 h
        exact ⟨t, u ++ [d], by simp, h1, lk_star _⟩
  · rw [if_neg hc]
    constructor
    · rintro ⟨t, u, h, h1, h2⟩
      obtain ⟨e, rfl, h3⟩ := (lk_one c hc u).1 h2
      obtain ⟨h4, h5⟩ := List.append_inj' h rfl
      injection h5 with h6
      subst h4; subst h6
      exact ⟨h1, h3⟩
    · rintro ⟨h1, h2⟩
      exact ⟨T, [d], rfl, h1, (lk_one c hc [d]).2 ⟨d, rfl, h2⟩⟩
/-- A loop over places, from its end. -/
theorem upto {γ : Type} (L : Int → γ) (n : Nat) (R : Nat → γ → Prop) (fin : R n (L n)) (step : ∀ i : Nat, i < n → R (i + 1) (L ((i : Int) + 1)) → R i (L i)) : R 0 (L 0) := by
  have key : ∀ d i : Nat, i + d = n → R i (L i) := by
    intro d
    induction d with
    | zero =>
      intro i h
      obtain rfl : i = n := by omega
      exact fin
    | succ d ih =>
      intro i h
      refine step i (by omega) ?_
      have := ih (i + 1) (by omega)
      rwa [show ((i + 1 : Nat) : Int) = (i : Int) + 1 from by omega] at this
  exact key n 0 (by omega)


/-! ### Words of letters; angles -/
theorem within_some (a b c : Int) : impl_within.f a b c = some (decide (b ≤ a ∧ a ≤ c)) := by
  unfold impl_within.f
  by_cases h : b ≤ a
  · rw [if_pos h]; simp [h]
  · rw [if_neg h]; simp [h]
theorem l1In_some (a b c : Int) : spec_l1In.f a b c = some (decide (b ≤ a ∧ a ≤ c)) := by
  unfold spec_l1In.f
  by_cases h : b ≤ a
  · rw [if_pos h]; simp [h]
  · rw [if_neg h]; simp [h]
/-- All letters between two. -/
def inRange (lo hi : Nat) (l : List UInt8) : Bool := l.all fun c => decide (lo ≤ c.toNat ∧ c.toNat ≤ hi)
/-- One to eight letters between two. -/
def isWord (lo hi : Nat) (s : ByteArray) : Bool := decide (1 ≤ s.size ∧ s.size ≤ 8) && inRange lo hi s.data.toList
theorem dec_size (s : ByteArray) : decide ((1 : Int) ≤ s.size ∧ (s.size : Int) ≤ 8) = decide (1 ≤ s.size ∧ s.size ≤ 8) := by
  by_cases h : 1 ≤ s.size ∧ s.size ≤ 8
  · rw [decide_eq_true h, decide_eq_true (by omega)]
  · rw [decide_eq_false h, decide_eq_false (by omega)]


/-- What 'letters' says of a list of letters: they are those from lo to hi. -/
def Letters (lo hi : Nat) (m : ByteArray) : Prop := ∀ n, n < 256 → (decide (Lib.indexByte m.data.toList n.toUInt8 < 0)) = !decide (lo ≤ n ∧ n ≤ hi)
instance (lo hi : Nat) (m : ByteArray) : Decidable (Letters lo hi m) := by unfold Letters; infer_instance
theorem hasOnly_some (lo hi : Nat) (s m : ByteArray) (hs : s.size ≤ 9223372036854775807) (hm : Letters lo hi m) : impl_hasOnly.F s m = some (inRange lo hi s.data.toList) := by
  rw [impl_hasOnly.F_eq]
  refine each (L := fun i => impl_hasOnly.L0 s m s.size i) s.data.toList 0 (fun _ t o => o = some (inRange lo hi t)) ?_ ?_
  · show impl_hasOnly.L0 s m _ _ = _
    rw [impl_hasOnly.L0_eq, if_neg (by rw [← size_data]; omega)]; rfl
  · intro i x t hi' hx _ _ ih
    have hi2 : i < s.size := by rw [size_data]; exact hi'
    have hb := hm x.toNat x.toNat_lt
    show impl_hasOnly.L0 s m _ _ = _
    rw [impl_hasOnly.L0_eq, if_pos (by omega), if_pos (by omega), if_pos (by omega), bt_data s i hi2, hx, wrap_in (by omega) (by omega)]
    simp only [strings_IndexByte.f, stringslite_IndexByte.f, Option.bind_some, Int.toNat_natCast]
    by_cases h1 : lo ≤ x.toNat ∧ x.toNat ≤ hi
    · rw [if_neg (by simp [h1] at hb; simpa using hb), ih]
      simp [inRange, h1]
    · rw [if_pos (by simpa [h1] using hb)]
      simp [inRange, h1]
theorem isWordOf_some (lo hi : Nat) (s m : ByteArray) (hs : s.size ≤ 9223372036854775807) (hm : Letters lo hi m) : impl_isWordOf.F s m = some (isWord lo hi s) := by
  rw [impl_isWordOf.F_eq, within_some, hasOnly_some lo hi s m hs hm]
  simp only [Option.bind_some, isWord]
  by_cases h : 1 ≤ s.size ∧ s.size ≤ 8
  · have : (1 : Int) ≤ s.size ∧ (s.size : Int) ≤ 8 := by omega
    simp [h, this]
  · have : ¬ ((1 : Int) ≤ s.size ∧ (s.size : Int) ≤ 8) := by omega
    simp [h, this]

theorem hasOnlyP_some (p : Nat → Bool) (s m : ByteArray) (hs : s.size ≤ 9223372036854775807) (hm : ∀ n, n < 256 → (decide (Lib.indexByte m.data.toList n.toUInt8 < 0)) = !(p n)) : impl_hasOnly.F s m = some (s.data.toList.all fun c => p c.toNat) := by
  rw [impl_hasOnly.F_eq]
  refine each (L := fun i => impl_hasOnly.L0 s m s.size i) s.data.toList 0 (fun _ t o => o = some (t.all fun c => p c.toNat)) ?_ ?_
  · show impl_hasOnly.L0 s m _ _ = _
    rw [impl_hasOnly.L0_eq, if_neg (by rw [← size_data]; omega)]; rfl
  · intro i x t hi' hx _ _ ih
    have hi2 : i < s.size := by rw [size_data]; exact hi'
    have hb := hm x.toNat x.toNat_lt
    show impl_hasOnly.L0 s m _ _ = _
    rw [impl_hasOnly.L0_eq, if_pos (by omega), if_pos (by omega), if_pos (by omega), bt_data s i hi2, hx, wrap_in (by omega) (by omega)]
    simp only [strings_IndexByte.f, stringslite_IndexByte.f, Option.bind_some, Int.toNat_natCast]
    cases h1 : p x.toNat
    · rw [if_pos (by simpa [h1] using hb)]; simp [h1]
    · rw [if_neg (by simpa [h1] using hb), ih]; simp [h1]
def patLetter (n : Nat) : Bool := decide (65 ≤ n ∧ n ≤ 90) || n == 63 || n == 42
def isPat (s : ByteArray) : Bool := decide (1 ≤ s.size ∧ s.size ≤ 8) && (s.data.toList.all fun c => patLetter c.toNat)
theorem isPat_some (s : ByteArray) (hs : s.size ≤ 9223372036854775807) : impl_isGlossPattern.F s = some (isPat s) := by
  rw [impl_isGlossPattern.F_eq, impl_isWordOf.F_eq, within_some, hasOnlyP_some patLetter _ _ hs (by decide +kernel), dec_size]
  unfold isPat
  cases decide (1 ≤ s.size ∧ s.size ≤ 8) <;> simp
theorem quPattern_some (s : ByteArray) (hs : s.size ≤ 9223372036854775807) : spec_quPattern.F s = some (isPat s) := by
  rw [spec_quPattern.F_eq]
  have := each (L := fun i => spec_quPattern.L0 s i) s.data.toList 0 (fun _ t o => o = some ((t.all fun c => patLetter c.toNat) && decide (1 ≤ s.size ∧ s.size ≤ 8))) ?_ ?_
  · rw [this, isPat, Bool.and_comm]
  · show spec_quPattern.L0 s _ = _
    rw [spec_quPattern.L0_eq, if_neg (by rw [← size_data]; omega), l1In_some]
    simp only [Option.bind_some, List.all_nil, Bool.true_and, dec_size]
  · intro i x t hi hx _ _ ih
    have hi' : i < s.size := by rw [size_data]; exact hi
    show spec_quPattern.L0 s _ = _
    rw [spec_quPattern.L0_eq, if_pos (by omega), if_pos (by omega), bt_data s i hi', hx, wrap_in (by omega) (by omega), List.all_cons]
    generalize x.toNat = n
    by_cases h3 : n = 63
    · subst h3
      rw [if_pos (by omega), if_pos (by omega), show patLetter 63 = true from rfl, Bool.true_and]; exact ih
    by_cases h4 : n = 42
    · subst h4
      rw [if_pos (by omega), if_neg (by omega), if_pos (by omega), show patLetter 42 = true from rfl, Bool.true_and]; exact ih
    by_cases h1 : n < 65
    · have : patLetter n = false := by simp [patLetter, h3, h4]; omega
      rw [if_pos (by omega), if_neg (by omega), if_neg (by omega), this]; rfl
    by_cases h2 : n > 90
    · have : patLetter n = false := by simp [patLetter, h3, h4]; omega
      rw [if_neg (by omega), if_pos (by omega), if_neg (by omega), if_neg (by omega), this]; rfl
    · have : patLetter n = true := by simp [patLetter]; omega
      rw [if_neg (by omega), if_neg (by omega), this, Bool.true_and]; exact ih
theorem tail_data (s : ByteArray) (c : UInt8) (t : List UInt8) (h : s.data.toList = c :: t) : (s.extract 1 s.size).data.toList = t := by
  have hs := size_data s
  rw [h] at hs
  obtain ⟨d⟩ := s
  simp only at h
  simp [ByteArray.extract, ByteArray.copySlice, h] at hs ⊢
  rw [List.take_of_length_le (by omega)] 
theorem quLike_some (p t : ByteArray) (hp : p.size ≤ 1048576) (ht : t.size ≤ 1048576) : spec_quLike.F p t = some (lk p.data.toList t.data.toList) := by
  have key : ∀ (n : Nat) (p t : ByteArray), p.size + t.size ≤ n → p.size ≤ 1048576 → t.size ≤ 1048576 → spec_quLike.F p t = some (lk p.data.toList t.data.toList) := by
    intro n
    induction n with
    | zero =>
      intro p t h _ _
      have h1 : p.data.toList = [] := List.eq_nil_of_length_eq_zero (by rw [← size_data]; omega)
      have h2 : t.data.toList = [] := List.eq_nil_of_length_eq_zero (by rw [← size_data]; omega)
      rw [spec_quLike.F_eq, toList_data, toList_data, h1, h2, if_pos rfl]; rfl
    | succ n ih =>
      intro p t h hp ht
      have sp := size_data p
      have st := size_data t
      rw [spec_quLike.F_eq, toList_data, toList_data]
      cases hpl : p.data.toList with
      | nil => rw [if_pos rfl]; cases t.data.toList <;> rfl
      | cons a P =>
        rw [hpl, List.length_cons] at sp
        have hpt := tail_data p a P hpl
        have spt := size_data (p.extract 1 p.size)
        rw [hpt] at spt
        have b0 : bt p 0 = (a.toNat : Int) := by
          have := bt_data p 0 (by omega)
          rw [hpl] at this; simpa using this
        rw [if_neg (by simp), if_pos (by omega), b0]
        by_cases ha : a = 42
        · subst ha
          rw [if_pos (show ((UInt8.toNat 42 : Nat) : Int) = 42 from rfl), if_pos (by omega), ih _ _ (by omega) (by omega) ht, hpt, Option.bind_some, lk, if_pos rfl]
          cases htl : t.data.toList with
          | nil =>
            rw [anySuffix]
            cases hb : lk P []
            · rw [if_neg (by simp), if_pos rfl]
            · rw [if_pos rfl]
          | cons d T =>
            rw [htl, List.length_cons] at st
            have htt := tail_data t d T htl
            have stt := size_data (t.extract 1 t.size)
            rw [htt] at stt
            rw [anySuffix]
            cases hb : lk P (d :: T)
            · rw [if_neg (by simp), if_neg (by simp), if_pos (by omega), ih _ _ (by omega) hp (by omega), htt, hpl, Option.bind_some, lk, if_pos rfl, Bool.false_or]
            · rw [if_pos rfl]; rfl
        · have ha' : ¬ ((a.toNat : Int) = 42) := fun h => ha (UInt8.toNat_inj.1 (by rw [show (42 : UInt8).toNat = 42 from rfl]; omega))
          rw [if_neg ha', lk, if_neg ha]
          cases htl : t.data.toList with
          | nil => rw [if_pos rfl]; rfl
          | cons d T =>
            rw [htl, List.length_cons] at st
            have htt := tail_data t d T htl
            have stt := size_data (t.extract 1 t.size)
            rw [htt] at stt
            have b1 : bt t 0 = (d.toNat : Int) := by
              have := bt_data t 0 (by omega)
              rw [htl] at this; simpa using this
            have e63 : ((a.toNat : Int) = 63) ↔ a = 63 := ⟨fun h => UInt8.toNat_inj.1 (by rw [show (63 : UInt8).toNat = 63 from rfl]; omega), fun h => by subst h; rfl⟩
            have ed : ((a.toNat : Int) = (d.toNat : Int)) ↔ a = d := ⟨fun h => UInt8.toNat_inj.1 (by omega), fun h => by subst h; rfl⟩
            rw [if_neg (by simp), oneLetter, b1]
            by_cases h6 : a = 63
            · rw [if_pos (e63.2 h6), if_pos (by omega), if_pos (by omega), ih _ _ (by omega) (by omega) (by omega), hpt, htt]; simp [h6]
            · rw [if_neg (fun h => h6 (e63.1 h)), if_pos (by omega)]
              by_cases h7 : a = d
              · rw [if_pos (ed.2 h7), if_pos (by omega), if_pos (by omega), ih _ _ (by omega) (by omega) (by omega), hpt, htt]; simp [h7]
              · rw [if_neg (fun h => h7 (ed.1 h))]; simp [h6, h7]
  exact key _ p t (Nat.le_refl _) hp ht

/-! ### The table of fits -/
theorem rd_bool (l : List Bool) (i : Nat) : rdOf false l (i : Int) = l.getD i false := by simp [rdOf]
/-- A row is right: at j it tells whether i letters of the pattern fit j letters of the text. -/
def RowOk (p t : List UInt8) (i : Nat) (row : List Bool) (upTo : Nat) : Prop := ∀ j, j < upTo → row.getD j false = lk (p.take i) (t.take j)
theorem getD_set_eq (l : List Bool) (i : Nat) (v : Bool) (h : i < l.length) : (l.set i v).getD i false = v := by
  rw [List.getD_eq_getElem?_getD, List.getElem?_set_self h]; rfl
theorem getD_set_ne (l : List Bool) (i j : Nat) (v : Bool) (h : i ≠ j) : (l.set i v).getD j false = l.getD j false := by
  rw [List.getD_eq_getElem?_getD, List.getElem?_set_ne h, ← List.getD_eq_getElem?_getD]
theorem take_last {α : Type} (l : List α) (i : Nat) (h : i < l.length) : l.take (i + 1) = l.take i ++ [l[i]] := List.take_succ_eq_append_getElem h
theorem rowSet {p t : List UInt8} {i j : Nat} {row : List Bool} {v : Bool} (hr : RowOk p t i row j) (hj : j < row.length) (hv : v = lk (p.take i) (t.take j)) : RowOk p t i (row.set j v) (j + 1) := by
  intro k hk
  by_cases h : k = j
  · subst h; rw [getD_set_eq _ _ _ hj, hv]
  · rw [getD_set_ne _ _ _ _ (fun e => h e.symm)]; exact hr k (by omega)
theorem fits_inner (p t : ByteArray) (i : Nat) (hi : i < p.size) (hp : p.size ≤ 1048576) (ht : t.size ≤ 1048576) (x5 : List Bool) (h5 : x5.length = t.size + 1) (r5 : RowOk p.data.toList t.data.toList i x5 (t.size + 1)) (r : Option Bool)
    (next : ∀ x7 : List Bool, x7.length = t.size + 1 → RowOk p.data.toList t.data.toList (i + 1) x7 (t.size + 1) → impl_fits.L0 p t x7 p.size ((i : Int) + 1) = r) :
    impl_fits.L1 p t x5 i (List.replicate x5.length false) p.size i x5.length 0 = r := by
  have sp := size_data p
  have st := size_data t
  have hip : i < p.data.toList.length := by omega
  have bi : bt p (i : Int) = ((p.data.toList[i]).toNat : Int) := by
    rw [bt_data p i hi, List.getD_eq_getElem?_getD, List.getElem?_eq_getElem hip]; rfl
  have tk := take_last p.data.toList i hip
  generalize hc : p.data.toList[i] = c at bi tk
  refine upto (fun j => fun x7 => impl_fits.L1 p t x5 i x7 p.size i x5.length j) x5.length (fun j f => ∀ x7 : List Bool, x7.length = t.size + 1 → RowOk p.data.toList t.data.toList (i + 1) x7 j → f x7 = r) ?_ ?_ _ (by simp [h5]) (fun j hj => absurd hj (by omega))
  · intro x7 h7 r7
    show impl_fits.L1 p t x5 i x7 _ _ _ _ = _
    rw [impl_fits.L1_eq, if_neg (by omega), wrap_in (by omega) (by omega)]
    exact next x7 h7 (by rw [← h5]; exact r7)
  · intro j hj ih x7 h7 r7
    have r5j := r5 j (by omega)
    have go : ∀ v : Bool, v = lk (p.data.toList.take (i + 1)) (t.data.toList.take j) → impl_fits.L1 p t x5 i (x7.set j v) p.size i x5.length ((j : Int) + 1) = r := fun v hv => ih _ (by simpa using h7) (rowSet r7 (by omega) hv)
    rw [tk] at go
    have e63 : ((c.toNat : Int) = 63) ↔ c = 63 := ⟨fun h => UInt8.toNat_inj.1 (by rw [show (63 : UInt8).toNat = 63 from rfl]; omega), fun h => by subst h; rfl⟩
    have e42 : ((c.toNat : Int) = 42) ↔ c = 42 := ⟨fun h => UInt8.toNat_inj.1 (by rw [show (42 : UInt8).toNat = 42 from rfl]; omega), fun h => by subst h; rfl⟩
    show impl_fits.L1 p t x5 i x7 _ _ _ _ = _
    rw [impl_fits.L1_eq, if_pos (by omega), if_pos (by omega), if_pos (by omega), bi, wrap_in (x := (j : Int) + 1) (by omega) (by omega), rd_bool, r5j, Int.toNat_natCast]
    rcases Nat.eq_zero_or_pos j with h0 | h0
    · subst h0
      rw [List.take_zero] at go ⊢
      have g0 := lk_row0 (p.data.toList.take i) c
      by_cases hc42 : c = 42
      · rw [if_pos (e42.2 hc42), if_pos (by omega), if_pos (by omega)]
        cases hv : lk (p.data.toList.take i) []
        · rw [if_neg (by simp), if_neg (by omega), if_pos (by omega)]
          refine go false ?_
          rw [Bool.eq_iff_iff, g0, hv]; simp
        · rw [if_pos rfl, if_pos (by omega)]
          refine go true ?_
          rw [Bool.eq_iff_iff, g0, hv]; simp [hc42]
      · rw [if_neg (fun h => hc42 (e42.1 h)), if_neg (by omega), if_pos (by omega), if_pos (by omega)]
        refine go false ?_
        rw [Bool.eq_iff_iff, g0]; simp [hc42]
    · obtain ⟨k, rfl⟩ : ∃ k, j = k + 1 := ⟨j - 1, by omega⟩
      have hkt : k < t.data.toList.length := by omega
      have tt := take_last t.data.toList k hkt
      have bk : bt t (k : Int) = ((t.data.toList[k]).toNat : Int) := by
        rw [bt_data t k (by omega), List.getD_eq_getElem?_getD, List.getElem?_eq_getElem hkt]; rfl
      generalize hd : t.data.toList[k] = d at tt bk
      have g1 := lk_rowS (p.data.toList.take i) (t.data.toList.take k) c d
      rw [← tt] at g1
      have ek : ((k + 1 : Nat) : Int) - 1 = (k : Int) := by omega
      rw [wrap_in (x := ((k + 1 : Nat) : Int) - 1) (by omega) (by omega), ek, rd_bool, rd_bool, r5 k (by omega), r7 k (by omega), tk, bk]
      by_cases hc42 : c = 42
      · rw [if_pos (e42.2 hc42), if_pos (by omega), if_pos (by omega)]
        rw [if_pos hc42] at g1
        cases hv : lk (p.data.toList.take i) (t.data.toList.take (k + 1))
        · rw [if_neg (by simp), if_pos (by omega), if_pos (by omega), if_pos (by omega), if_pos (by omega)]
          refine go _ ?_
          rw [Bool.eq_iff_iff, g1, hv]; simp
        · rw [if_pos rfl, if_pos (by omega)]
          refine go true ?_
          rw [Bool.eq_iff_iff, g1, hv]; simp
      · rw [if_neg (fun h => hc42 (e42.1 h)), if_pos (by omega), if_pos (by omega), if_pos (by omega)]
        rw [if_neg hc42] at g1
        cases hv : lk (p.data.toList.take i) (t.data.toList.take k)
        · rw [if_neg (by simp), if_pos (by omega), if_pos (by omega)]
          refine go false ?_
          rw [Bool.eq_iff_iff, g1, hv]; simp
        · rw [if_pos rfl]
          by_cases h63 : c = 63
          · rw [if_pos (e63.2 h63), if_pos (by omega), if_pos (by omega)]
            refine go true ?_
            rw [Bool.eq_iff_iff, g1, hv]; simp [h63]
          · rw [if_neg (fun h => h63 (e63.1 h)), if_pos (by omega), if_pos (by omega), if_pos (by omega)]
            refine go _ ?_
            rw [Bool.eq_iff_iff, g1, hv]
            have ed : ((c.toNat : Int) = (d.toNat : Int)) ↔ c = d := ⟨fun h => UInt8.toNat_inj.1 (by omega), fun h => by subst h; rfl⟩
            simp only [beq_iff_eq, ed, h63, false_or, true_and]
theorem fits_some (p t : ByteArray) (hp : p.size ≤ 1048576) (ht : t.size ≤ 1048576) : impl_fits.F p t = some (lk p.data.toList t.data.toList) := by
  have sp := size_data p
  have st := size_data t
  rw [impl_fits.F_eq, toList_data, toList_data]
  by_cases h0 : p.data.toList = []
  · rw [if_pos h0, h0]; cases t.data.toList <;> rfl
  rw [if_neg h0, wrap_in (by omega) (by omega), if_pos (by omega), if_pos (by omega), Option.bind_some, List.length_replicate, if_pos (by omega)]
  have key := upto (fun i => fun x5 => impl_fits.L0 p t x5 p.size i) p.size (fun i f => ∀ x5 : List Bool, x5.length = t.size + 1 → RowOk p.data.toList t.data.toList i x5 (t.size + 1) → f x5 = some (lk p.data.toList t.data.toList)) ?_ ?_
  · refine key _ (by simp) ?_
    intro j hj
    rw [List.take_zero, lk]
    rcases Nat.eq_zero_or_pos j with h | h
    · subst h
      rw [Int.toNat_zero, getD_set_eq _ _ _ (by simp)]; rfl
    · rw [Int.toNat_zero, getD_set_ne _ _ _ _ (by omega)]
      have h1 : j < t.data.toList.length + 1 := by omega
      rw [List.getD_eq_getElem?_getD, List.getElem?_replicate, if_pos (by omega), Option.getD_some, eq_comm]
      cases hh : t.data.toList with
      | nil => rw [hh] at h1; simp at h1; omega
      | cons d T => obtain ⟨k, rfl⟩ : ∃ k, j = k + 1 := ⟨j - 1, by omega⟩; rfl
  · intro x5 h5 r5
    show impl_fits.L0 p t x5 _ _ = _
    have := r5 t.size (by omega)
    rw [impl_fits.L0_eq, if_neg (by omega), if_pos (by omega), if_pos (by omega), rd_bool, this, List.take_of_length_le (by omega), List.take_of_length_le (by omega)]
  · intro i hi ih x5 h5 r5
    show impl_fits.L0 p t x5 _ _ = _
    rw [impl_fits.L0_eq, if_pos (by omega), if_pos (by omega), if_pos (by omega), Int.toNat_natCast]
    exact fits_inner p t i hi hp ht x5 h5 r5 _ fun x7 h7 r7 => ih x7 h7 r7


theorem fsWord_some (s : ByteArray) (hs : s.size ≤ 9223372036854775807) : spec_fsWord.F s = some (isWord 65 90 s) := by
  rw [spec_fsWord.F_eq]
  have := each (L := fun i => spec_fsWord.L0 s i) s.data.toList 0 (fun _ t o => o = some (inRange 65 90 t && decide (1 ≤ s.size ∧ s.size ≤ 8))) ?_ ?_
  · rw [this, isWord, Bool.and_comm]
  · show spec_fsWord.L0 s _ = _
    rw [spec_fsWord.L0_eq, if_neg (by rw [← size_data]; omega), l1In_some]
    simp only [Option.bind_some, inRange, List.all_nil, Bool.true_and, dec_size]
  · intro i x t hi hx _ _ ih
    have hi' : i < s.size := by rw [size_data]; exact hi
    show spec_fsWord.L0 s _ = _
    rw [spec_fsWord.L0_eq, if_pos (by omega), if_pos (by omega), bt_data s i hi', hx, wrap_in (by omega) (by omega)]
    by_cases h1 : x.toNat < 65
    · rw [if_pos (by omega)]; simp [inRange]; omega
    · rw [if_neg (by omega)]
      by_cases h2 : 90 < x.toNat
      · rw [if_pos (by omega)]; simp [inRange]; omega
      · rw [if_neg (by omega), ih]
        have h3 : 65 ≤ x.toNat := by omega
        have h4 : x.toNat ≤ 90 := by omega
        simp [inRange, h3, h4]


/-! ### Notes and tiers -/
abbrev Note := S66
theorem rd_note (l : List Note) (i : Nat) : rd_T66 l (i : Int) = l.getD i z66 := by simp [rd_T66]
def SizedN (l : List Note) : Prop := l.length ≤ 9223372036854775807 ∧ ∀ x ∈ l, x.f2.size ≤ 9223372036854775807
/-- Is it a note? -/
def isNote (x : Note) : Bool := decide (0 ≤ x.f0 ∧ x.f0 ≤ 99999) && (decide (0 ≤ x.f1 ∧ x.f1 ≤ 99999) && (decide (x.f0 < x.f1) && isWord 65 90 x.f2))
theorem isFrame_some (a : Int) : impl_isFrame.f a = some (decide (0 ≤ a ∧ a ≤ 99999)) := by unfold impl_isFrame.f; rw [within_some]; rfl
theorem tiFrame_some (a : Int) : spec_tiFrame.f a = some (decide (0 ≤ a ∧ a ≤ 99999)) := by unfold spec_tiFrame.f; rw [l1In_some]; rfl
theorem isNote_some (x : Note) (h : x.f2.size ≤ 9223372036854775807) : impl_IsNote.F x.f0 x.f1 x.f2 = some (isNote x) := by
  rw [impl_IsNote.F_eq, isFrame_some, isFrame_some, isWordOf_some 65 90 _ _ h (by decide +kernel)]
  unfold isNote
  cases decide (0 ≤ x.f0 ∧ x.f0 ≤ 99999) <;> cases decide (0 ≤ x.f1 ∧ x.f1 ≤ 99999) <;> by_cases c : x.f0 < x.f1 <;> simp [c]
theorem tiNote_some (x : Note) (h : x.f2.size ≤ 9223372036854775807) : spec_tiNote.F x.f0 x.f1 x.f2 = some (isNote x) := by
  rw [spec_tiNote.F_eq, tiFrame_some, tiFrame_some, fsWord_some _ h]
  unfold isNote
  cases decide (0 ≤ x.f0 ∧ x.f0 ≤ 99999) <;> cases decide (0 ≤ x.f1 ∧ x.f1 ≤ 99999) <;> by_cases c : x.f0 < x.f1 <;> simp [c]
def tierFrom (l : List Note) : Nat → List Note → Bool
  | _, [] => decide (l.length ≤ 40)
  | i, x :: t => (isNote x && decide (i = 0 ∨ (l.getD (i - 1) z66).f1 ≤ x.f0)) && tierFrom l (i + 1) t
def isTier (l : List Note) : Bool := tierFrom l 0 l
theorem isTier_some (l : List Note) (hl : SizedN l) : impl_IsTier.F l = some (isTier l) := by
  have hl1 := hl.1
  rw [impl_IsTier.F_eq]
  refine each (L := fun i => impl_IsTier.L0 l l l.length i) l z66 (fun i t o => o = some (tierFrom l i t)) ?_ ?_
  · show impl_IsTier.L0 l l _ _ = _
    rw [impl_IsTier.L0_eq, if_neg (by omega)]
    simp only [tierFrom, Option.some.injEq, decide_eq_decide]; omega
  · intro i x t hi hx hd _ ih
    have hs := hl.2 x (mem_drop hd)
    show impl_IsTier.L0 l l _ _ = _
    rw [impl_IsTier.L0_eq, if_pos (by omega), if_pos (by omega), if_pos (by omega), rd_note, hx, wrap_in (x := (i : Int) + 1) (by omega) (by omega), isNote_some _ hs, Option.bind_some, tierFrom]
    cases isNote x
    · simp
    rw [if_pos rfl]
    by_cases h0 : i = 0
    · subst h0
      rw [if_neg (by omega)]
      simpa using ih
    · have h1 : (i : Int) - 1 = ((i - 1 : Nat) : Int) := by omega
      rw [if_pos (by omega), wrap_in (by omega) (by omega), h1, if_pos (by omega), if_pos (by omega), rd_note]
      by_cases h2 : (l.getD (i - 1) z66).f1 ≤ x.f0
      · rw [if_neg (by omega), decide_eq_true (p := i = 0 ∨ _) (.inr h2)]; simpa using ih
      · rw [if_pos (by omega), decide_eq_false (p := i = 0 ∨ _) (by omega)]; rfl
theorem tiGood_some (l : List Note) (hl : SizedN l) : spec_tiGood.F l = some (isTier l) := by
  have hl1 := hl.1
  rw [spec_tiGood.F_eq]
  refine each (L := fun i => spec_tiGood.L0 l l l.length i) l z66 (fun i t o => o = some (tierFrom l i t)) ?_ ?_
  · show spec_tiGood.L0 l l _ _ = _
    rw [spec_tiGood.L0_eq, if_neg (by omega)]
    simp only [tierFrom, Option.some.injEq, decide_eq_decide]; omega
  · intro i x t hi hx hd _ ih
    have hs := hl.2 x (mem_drop hd)
    show spec_tiGood.L0 l l _ _ = _
    rw [spec_tiGood.L0_eq, if_pos (by omega), if_pos (by omega), if_pos (by omega), rd_note, hx, wrap_in (x := (i : Int) + 1) (by omega) (by omega), tiNote_some _ hs, Option.bind_some, tierFrom]
    cases isNote x
    · simp
    rw [if_pos rfl]
    by_cases h0 : i = 0
    · subst h0
      rw [if_neg (by omega)]
      simpa using ih
    · have h1 : (i : Int) - 1 = ((i - 1 : Nat) : Int) := by omega
      rw [if_pos (by omega), wrap_in (by omega) (by omega), h1, if_pos (by omega), if_pos (by omega), rd_note]
      by_cases h2 : (l.getD (i - 1) z66).f1 ≤ x.f0
      · rw [if_neg (by omega), decide_eq_true (p := i = 0 ∨ _) (.inr h2)]; simpa using ih
      · rw [if_pos (by omega), decide_eq_false (p := i = 0 ∨ _) (by omega)]; rfl
theorem tier_facts {l : List Note} (h : isTier l = true) : l.length ≤ 40 ∧ ∀ x ∈ l, (0 ≤ x.f0 ∧ x.f0 < x.f1 ∧ x.f1 ≤ 99999) ∧ x.f2.size ≤ 8 := by
  have key : ∀ (t : List Note) (i : Nat), tierFrom l i t = true → l.length ≤ 40 ∧ ∀ x ∈ t, (0 ≤ x.f0 ∧ x.f0 < x.f1 ∧ x.f1 ≤ 99999) ∧ x.f2.size ≤ 8 := by
    intro t
    induction t with
    | nil => intro i h; exact ⟨by simpa [tierFrom] using h, by simp⟩
    | cons y t ih =>
      intro i h
      simp only [tierFrom, isNote, isWord, Bool.and_eq_true, decide_eq_true_eq] at h
      obtain ⟨h1, h2⟩ := ih _ h.2
      refine ⟨h1, fun x hx => ?_⟩
      rcases List.mem_cons.1 hx with rfl | hx
      · have := h.1.1; exact ⟨⟨this.1.1, this.2.2.1, this.2.1.2⟩, this.2.2.2.1.2⟩
      · exact h2 x hx
  exact key l 0 h

abbrev NoteL := S81
theorem rd_noteL (l : List NoteL) (i : Nat) : rd_T81 l (i : Int) = l.getD i z81 := by simp [rd_T81]
def convN (x : NoteL) : Note := ⟨x.f0, x.f1, x.f2⟩
theorem wfNote {x : NoteL} (h : Wf81 x) : x.f2.size ≤ 9223372036854775807 := by
  simp only [Wf81] at h; omega
theorem sized_convN {l : List NoteL} (hl : l.length ≤ 9223372036854775807) (hw : ∀ x ∈ l, Wf81 x) : SizedN (l.map convN) :=
  ⟨by simpa using hl, fun x hx => by
    obtain ⟨y, hy, rfl⟩ := List.mem_map.1 hx
    exact wfNote (hw y hy)⟩
theorem szNote_tells (l : List NoteL) (a : Int) (hl : l.length ≤ 9223372036854775807) (hw : ∀ x ∈ l, Wf81 x) (ha : 0 ≤ a ∧ a ≤ 1048576) : ∃ t, laws_szNoteS.F l a = some t ∧ (t < 0 ∨ (0 ≤ t ∧ t ≤ a ∧ l.length ≤ a)) := by
  rw [laws_szNoteS.F_eq, wrap_in (by omega) (by omega)]
  by_cases h0 : a - (l.length : Int) < 0
  · rw [if_pos h0]; exact ⟨-1, rfl, .inl (by omega)⟩
  · rw [if_neg h0]
    have := each (L := fun i => fun b => laws_szNoteS.L0 l b i) l z81 (fun _ t f => (∀ x ∈ t, x ∈ l) → ∀ b : Int, 0 ≤ b → b ≤ 1048576 → ∃ t, f b = some t ∧ (t < 0 ∨ (0 ≤ t ∧ t ≤ b))) ?_ ?_ (fun _ h => h) (a - l.length) (by omega) (by omega)
    · obtain ⟨t, h1, h2⟩ := this
      exact ⟨t, h1, by omega⟩
    · intro _ b h1 h2
      refine ⟨b, ?_, by omega⟩
      show laws_szNoteS.L0 l b _ = _
      rw [laws_szNoteS.L0_eq, if_neg (by omega)]
    · intro i x t hi hx hd _ ih hm b h1 h2
      have hz : x.f2.size ≤ 9223372036854775807 := wfNote (hw x (hm x (by simp)))
      show ∃ t, laws_szNoteS.L0 l b _ = some t ∧ _
      rw [laws_szNoteS.L0_eq, if_pos (by omega), if_pos (by omega), rd_noteL, hx, wrap_in (x := (i : Int) + 1) (by omega) (by omega)]
      unfold laws_szNote.f
      rw [wrap_in (by omega) (by omega)]
      by_cases h3 : b - (x.f2.size : Int) < 0
      · rw [if_pos h3]; exact ⟨-1, rfl, .inl (by omega)⟩
      · rw [if_neg h3, Option.bind_some, if_neg h3]
        obtain ⟨t, h4, h5⟩ := ih (fun y hy => hm y (by simp [hy])) (b - x.f2.size) (by omega) (by omega)
        exact ⟨t, h4, by omega⟩
theorem take_set {α : Type} (l : List α) (i : Nat) (v : α) (h : i < l.length) : (l.set i v).take (i + 1) = l.take i ++ [v] := by
  rw [List.take_succ_eq_append_getElem (by simpa using h), List.take_set_of_le (Nat.le_refl i)]
  simp
theorem toNote_some (l : List NoteL) (hl : l.length ≤ 1048576) : laws_toNoteS.F l = some (l.map convN) := by
  rw [laws_toNoteS.F_eq, if_pos (by omega), if_pos (by omega)]
  have := each (L := fun i => fun y => laws_toNoteS.L0 l y i) l z81 (fun i t f => ∀ y : List Note, y.length = l.length → f y = some (y.take i ++ t.map convN)) ?_ ?_ (List.replicate ((l.length : Int)).toNat z66) (by simp)
  · show laws_toNoteS.L0 l _ _ = _
    exact this.trans (by simp)
  · intro y hy
    show laws_toNoteS.L0 l y _ = _
    rw [laws_toNoteS.L0_eq, if_neg (by omega)]
    simp [← hy]
  · intro i x t hi hx _ _ ih y hy
    show laws_toNoteS.L0 l y _ = _
    rw [laws_toNoteS.L0_eq, if_pos (by omega), if_pos (by omega), rd_noteL, hx, wrap_in (x := (i : Int) + 1) (by omega) (by omega)]
    unfold laws_toNote.f
    rw [Option.bind_some, if_pos (by omega)]
    refine (ih _ (by simpa using hy)).trans ?_
    rw [Int.toNat_natCast, take_set _ _ _ (by omega)]
    simp [convN]
theorem eqNoteS_refl (l : List Note) (hl : l.length ≤ 9223372036854775807) : laws_eqNoteS.F l l = some true := by
  rw [laws_eqNoteS.F_eq, if_pos rfl]
  refine each (L := fun i => laws_eqNoteS.L0 l l i) l z66 (fun _ _ o => o = some true) ?_ ?_
  · show laws_eqNoteS.L0 l l _ = _
    rw [laws_eqNoteS.L0_eq, if_neg (by omega)]
  · intro i x t hi hx _ _ ih
    show laws_eqNoteS.L0 l l _ = _
    rw [laws_eqNoteS.L0_eq, if_pos (by omega), if_pos (by omega), if_pos (by omega), rd_note, hx, wrap_in (x := (i : Int) + 1) (by omega) (by omega)]
    unfold laws_eqNote.f
    rw [if_pos rfl, if_pos rfl, if_pos rfl, Option.bind_some, if_pos rfl]
    exact ih


/-! ### Marks -/
theorem strOfNums_one (x : Int) : (strOfNums [x]).size = 1 := by simp [strOfNums, ByteArray.size]
theorem markText_total (a : Int) (ha : 0 ≤ a ∧ a ≤ 9223372036854775807) : ∃ s, laws_markText.F a = some s := by
  have key : ∀ (d : Nat) (a : Int) (s : ByteArray), 0 ≤ a → a < 10 ^ d → a ≤ 9223372036854775807 → s.size + d ≤ 1000 → ∃ r, laws_markText.L0 a s = some r := by
    intro d
    induction d with
    | zero =>
      intro a s h0 h1 _ h2
      rw [laws_markText.L0_eq, if_neg (by simp at h1; omega), if_pos (by omega)]
      exact ⟨_, rfl⟩
    | succ d ih =>
      intro a s h0 h1 h3 h2
      rw [laws_markText.L0_eq]
      by_cases h : a > 0
      · rw [if_pos h, Option.bind_some, strOfNums_one, if_pos (by omega), Int.tdiv_eq_ediv_of_nonneg h0, wrap_in (by omega) (by omega)]
        refine ih _ _ (by omega) ?_ (by omega) (by rw [ByteArray.size_append, strOfNums_one]; omega)
        rw [Int.pow_succ] at h1
        omega
      · rw [if_neg h, if_pos (by omega)]
        exact ⟨_, rfl⟩
  rw [laws_markText.F_eq]
  split
  · exact ⟨_, rfl⟩
  · exact key 19 a _ ha.1 (by have := ha.2; omega) ha.2 (by decide +kernel)

theorem markNote_tells (l : List Note) (a : Int) (hl : l.length ≤ 1048576) (ha : 0 ≤ a ∧ a ≤ 4194304) : ∃ r, laws_markNoteS.F l a = some r ∧ 0 ≤ r.1 ∧ r.1 ≤ a + 3 * l.length := by
  rw [laws_markNoteS.F_eq]
  refine each (L := fun i => fun y b => laws_markNoteS.L0 y b i) l z66 (fun i t f => ∀ (y : List Note) (b : Int), y.length = l.length → b = a + 3 * i → ∃ r, f y b = some r ∧ 0 ≤ r.1 ∧ r.1 ≤ a + 3 * l.length) ?_ ?_ l a rfl (by omega)
  · intro y b hy hb
    show ∃ r, laws_markNoteS.L0 y b _ = _ ∧ _
    rw [laws_markNoteS.L0_eq, if_neg (by omega)]
    exact ⟨_, rfl, by show 0 ≤ b; omega, by show b ≤ _; omega⟩
  · intro i x t hi _ _ _ ih y b hy hb
    show ∃ r, laws_markNoteS.L0 y b _ = _ ∧ _
    obtain ⟨s, hs⟩ := markText_total (b + 2) (by omega)
    rw [laws_markNoteS.L0_eq, if_pos (by omega), if_pos (by omega), Option.bind_some, Option.bind_some, wrap_in (x := (i : Int) + 1) (by omega) (by omega), wrap_in (x := b + 1) (by omega) (by omega), wrap_in (x := b + 1 + 1) (by omega) (by omega), show b + 1 + 1 = b + 2 from by omega, hs, Option.bind_some, wrap_in (x := b + 2 + 1) (by omega) (by omega)]
    exact ih _ _ (by simpa using hy) (by omega)


theorem set_take {α : Type} (l : List α) (i : Nat) (v : α) (h : i < l.length) : (l.set i v).take (i + 1) = l.take i ++ [v] := by
  rw [List.take_succ_eq_append_getElem (by simpa using h), List.take_set_of_le (Nat.le_refl i)]
  simp

/-! ### Slices of numbers -/
theorem rd_int (l : List Int) (i : Nat) : rd l (i : Int) = l.getD i 0 := by simp [rd]
/-- The numbers from a on. -/
def nums (a : Int) : Nat → List Int
  | 0 => []
  | n + 1 => a :: nums (a + 1) n
theorem nums_length (a : Int) : ∀ n, (nums a n).length = n
  | 0 => rfl
  | n + 1 => by rw [nums, List.length_cons, nums_length]
theorem eqInt_refl (l : List Int) (hl : l.length ≤ 9223372036854775807) : laws_eqIntS.F l l = some true := by
  rw [laws_eqIntS.F_eq, if_pos rfl]
  refine each (L := fun i => laws_eqIntS.L0 l l i) l 0 (fun _ _ o => o = some true) ?_ ?_
  · show laws_eqIntS.L0 l l _ = _
    rw [laws_eqIntS.L0_eq, if_neg (by omega)]
  · intro i x t hi hx _ _ ih
    show laws_eqIntS.L0 l l _ = _
    rw [laws_eqIntS.L0_eq, if_pos (by omega), if_pos (by omega), if_pos (by omega), if_pos rfl, wrap_in (x := (i : Int) + 1) (by omega) (by omega)]
    exact ih
theorem markInt_some (l : List Int) (a : Int) (hl : l.length ≤ 1048576) (ha : 0 ≤ a ∧ a ≤ 1048576) : laws_markIntS.F l a = some (a + l.length, nums a l.length) := by
  rw [laws_markIntS.F_eq]
  have := each (L := fun i => fun y b => laws_markIntS.L0 y b i) l 0 (fun i t f => ∀ (y : List Int) (b : Int), y.length = l.length → b = a + i → f y b = some (b + t.length, y.take i ++ nums b t.length)) ?_ ?_ l a rfl (by omega)
  · simpa using this
  · intro y b hy hb
    show laws_markIntS.L0 y b _ = _
    rw [laws_markIntS.L0_eq, if_neg (by omega)]
    simp [nums, ← hy]
  · intro i x t hi _ hd _ ih y b hy hb
    have := congrArg List.length hd
    simp only [List.length_drop, List.length_cons] at this
    show laws_markIntS.L0 y b _ = _
    rw [laws_markIntS.L0_eq, if_pos (by omega), if_pos (by omega), wrap_in (x := (i : Int) + 1) (by omega) (by omega), wrap_in (by omega) (by omega), Int.toNat_natCast]
    refine (ih _ _ (by simpa using hy) (by omega)).trans ?_
    rw [set_take _ _ _ (by omega)]
    simp [nums]; omega
theorem heldInt_some (n : Nat) (a : Int) (hn : n ≤ 1048576) (ha : 0 ≤ a ∧ a ≤ 1048576) : laws_heldIntS.F (nums a n) a = some (a + n) := by
  rw [laws_heldIntS.F_eq]
  have hl := nums_length a n
  have := each (L := fun i => fun b => laws_heldIntS.L0 (nums a n) b i) (nums a n) 0 (fun i t f => ∀ (b : Int), b = a + i → t = nums b t.length → f b = some (b + t.length)) ?_ ?_ a (by omega) (by rw [hl])
  · simpa [hl] using this
  · intro b hb _
    show laws_heldIntS.L0 _ b _ = _
    rw [laws_heldIntS.L0_eq, if_neg (by omega)]; simp
  · intro i x t hi hx hd _ ih b hb ht
    rw [List.length_cons, nums] at ht
    injection ht with h1 h2
    show laws_heldIntS.L0 _ b _ = _
    rw [laws_heldIntS.L0_eq, if_pos (by omega), if_pos (by omega), rd_int, hx, if_pos h1, wrap_in (x := (i : Int) + 1) (by omega) (by omega), wrap_in (by omega) (by omega)]
    refine (ih _ (by omega) h2).trans ?_
    rw [List.length_cons]; congr 1; omega

/-! ### Rows of pairs of numbers -/
theorem rd_row (l : List (List Int)) (i : Nat) : rd_L4 l (i : Int) = l.getD i [] := by simp [rd_L4]
theorem eqIntSS_refl (l : List (List Int)) (hl : l.length ≤ 9223372036854775807) (hw : ∀ x ∈ l, x.length = 2) : laws_eqIntSS.F l l = some true := by
  rw [laws_eqIntSS.F_eq, if_pos rfl]
  refine each (L := fun i => laws_eqIntSS.L0 l l i) l [] (fun _ _ o => o = some true) ?_ ?_
  · show laws_eqIntSS.L0 l l _ = _
    rw [laws_eqIntSS.L0_eq, if_neg (by omega)]
  · intro i x t hi hx hd _ ih
    show laws_eqIntSS.L0 l l _ = _
    rw [laws_eqIntSS.L0_eq, if_pos (by omega), if_pos (by omega), if_pos (by omega), rd_row, hx, eqInt_refl x (by have := hw x (mem_drop hd); omega), Option.bind_some, if_pos rfl, wrap_in (x := (i : Int) + 1) (by omega) (by omega)]
    exact ih
def marks (a : Int) : Nat → List (List Int)
  | 0 => []
  | d + 1 => [a, a + 1] :: marks (a + 2) d
theorem marks_length (a : Int) : ∀ d, (marks a d).length = d
  | 0 => rfl
  | d + 1 => by rw [marks, List.length_cons, marks_length]
theorem markRun_some : ∀ (d i : Nat) (ys : List (List Int)) (a : Int), i + d = ys.length → (∀ y ∈ ys, y.length = 2) → laws_markIntSS.run d ys a i = (a + 2 * d, ys.take i ++ marks a d)
  | 0, i, ys, a, hd, _ => by
    rw [laws_markIntSS.run, List.take_of_length_le (by omega), marks, List.append_nil]
    simp
  | d + 1, i, ys, a, hd, h => by
    have hg : (ys.getD i []).length = 2 := by
      rw [List.getD_eq_getElem?_getD, List.getElem?_eq_getElem (show i < ys.length by omega)]
      exact h _ (List.getElem_mem _)
    rw [laws_markIntSS.run, hg, markRun_some d (i + 1) _ _ (by rw [List.length_set]; omega) (fun y hy => by
      rcases List.mem_or_eq_of_mem_set hy with hy | rfl
      · exact h y hy
      · rfl), set_take _ _ _ (by omega), marks, List.append_assoc]
    congr 1
    omega
theorem markIntSS_some (l : List (List Int)) (hl : l.length ≤ 1048576) (h : ∀ y ∈ l, y.length = 2) : laws_markIntSS.f l 1 = some (1 + 2 * (l.length : Int), marks 1 l.length) := by
  unfold laws_markIntSS.f
  rw [if_pos ⟨hl, fun y hy => by have := h y hy; omega, by omega, by omega⟩, markRun_some l.length 0 l 1 (by omega) h]
  rfl
theorem heldIntSS_some (n : Nat) (hn : n ≤ 524287) : laws_heldIntSS.F (marks 1 n) 1 = some (1 + 2 * (n : Int)) := by
  rw [laws_heldIntSS.F_eq]
  have hl := marks_length 1 n
  have := each (L := fun i => fun b => laws_heldIntSS.L0 (marks 1 n) b i) (marks 1 n) [] (fun i t f => ∀ (b : Int), b = 1 + 2 * i → t = marks b t.length → f b = some (b + 2 * t.length)) ?_ ?_ 1 (by omega) (by rw [hl])
  · simpa [hl] using this
  · intro b hb _
    show laws_heldIntSS.L0 _ b _ = _
    rw [laws_heldIntSS.L0_eq, if_neg (by omega)]; simp
  · intro i x t hi hx hd _ ih b hb ht
    rw [List.length_cons, marks] at ht
    injection ht with h1 h2
    have hr : laws_heldIntS.F x b = some (b + 2) := by rw [h1]; exact heldInt_some 2 b (by omega) (by omega)
    show laws_heldIntSS.L0 _ b _ = _
    rw [laws_heldIntSS.L0_eq, if_pos (by omega), if_pos (by omega), rd_row, hx, hr, Option.bind_some, if_neg (by omega), wrap_in (x := (i : Int) + 1) (by omega) (by omega)]
    refine (ih _ (by omega) h2).trans ?_
    rw [List.length_cons]; congr 1; omega
theorem two_snoc {o : List (List Int)} (h : ∀ y ∈ o, y.length = 2) (a b : Int) : ∀ y ∈ o ++ [[a, b]], y.length = 2 := by
  intro z hz
  rcases List.mem_append.1 hz with hz | hz
  · exact h z hz
  · obtain rfl := List.mem_singleton.1 hz
    rfl

abbrev Tie (L : List Note) : Prop := L.length ≤ 40 ∧ ∀ x ∈ L, (0 ≤ x.f0 ∧ x.f0 < x.f1 ∧ x.f1 ≤ 99999) ∧ x.f2.size ≤ 8
/-- Does a pattern fit a note? -/
def lkN (p : ByteArray) (x : Note) : Bool := lk p.data.toList x.f2.data.toList
theorem quLikeN (p : ByteArray) (x : Note) (hp : p.size ≤ 9) (hx : x.f2.size ≤ 8) : spec_quLike.F p x.f2 = some (lkN p x) := quLike_some p x.f2 (by omega) (by omega)
theorem fitsN (p : ByteArray) (x : Note) (hp : p.size ≤ 9) (hx : x.f2.size ≤ 8) : impl_fits.F p x.f2 = some (lkN p x) := fits_some p x.f2 (by omega) (by omega)
theorem note_mem {L : List Note} {m : Nat} (h : m < L.length) : L.getD m z66 ∈ L := by
  rw [List.getD_eq_getElem?_getD, List.getElem?_eq_getElem h]; exact List.getElem_mem h
theorem pat8 {p : ByteArray} (h : isPat p = true) : p.size ≤ 8 := by
  simp only [isPat, Bool.and_eq_true, decide_eq_true_eq] at h
  exact h.1.2
/-! ### Pairs -/
def PairOk (L : List Note) (fr : Int) (x : List Int) : Prop := ∃ i k : Nat, x = [(i : Int), (k : Int)] ∧ i < k ∧ k < L.length ∧ (L.getD k z66).f0 - (L.getD i z66).f1 ≤ fr
theorem pair_inner (L : List Note) (p1 p2 : ByteArray) (fr : Int) (hp1 : p1.size ≤ 8) (hp2 : p2.size ≤ 8) (hl : Tie L) (i : Nat) (hi : i < L.length) : ∀ (d k : Nat) (o : List (List Int)), k + d = L.length → i < k → o.length + d ≤ 100000 → (∀ x ∈ o, PairOk L fr x) →
    ∃ o', spec_PairsWithin.L1 L p1 p2 fr o i k L L.length i (L.getD i z66).f0 (L.getD i z66).f1 (L.getD i z66).f2 = spec_PairsWithin.L0 L p1 p2 fr o' L L.length ((i : Int) + 1) ∧ impl_PairsWithin.L1 L p1 p2 fr o i k L L.length i (L.getD i z66).f0 (L.getD i z66).f1 (L.getD i z66).f2 = impl_PairsWithin.L0 L p1 p2 fr o' L L.length ((i : Int) + 1) ∧ o'.length ≤ o.length + d ∧ ∀ x ∈ o', PairOk L fr x := by
  intro d
  have hl1 := hl.1
  induction d with
  | zero =>
    intro k o hd hk ho hg
    rw [spec_PairsWithin.L1_eq, impl_PairsWithin.L1_eq, if_neg (by omega), if_neg (by omega), wrap_in (x := (i : Int) + 1) (by omega) (by omega)]
    exact ⟨o, rfl, rfl, by omega, hg⟩
  | succ d ih =>
    intro k o hd hk ho hg
    have hkl : k < L.length := by omega
    have m1 := hl.2 _ (note_mem hi)
    have m2 := hl.2 _ (note_mem hkl)
    have ek : (k : Int) + 1 = ((k + 1 : Nat) : Int) := by omega
    obtain ⟨oa, a1, a2, a3, a4⟩ := ih (k + 1) o (by omega) (by omega) (by omega) hg
    have skip : ∃ o', spec_PairsWithin.L1 L p1 p2 fr o i ((k + 1 : Nat) : Int) L L.length i (L.getD i z66).f0 (L.getD i z66).f1 (L.getD i z66).f2 = spec_PairsWithin.L0 L p1 p2 fr o' L L.length ((i : Int) + 1) ∧ impl_PairsWithin.L1 L p1 p2 fr o i ((k + 1 : Nat) : Int) L L.length i (L.getD i z66).f0 (L.getD i z66).f1 (L.getD i z66).f2 = impl_PairsWithin.L0 L p1 p2 fr o' L L.length ((i : Int) + 1) ∧ o'.length ≤ o.length + (d + 1) ∧ ∀ x ∈ o', PairOk L fr x := ⟨oa, a1, a2, by omega, a4⟩
    have k1 : (k : Int) < (L.length : Int) := by omega
    have k2 : (0 : Int) ≤ (k : Int) := by omega
    have k3 : o.length < 5864062014805 := by omega
    rw [spec_PairsWithin.L1_eq, impl_PairsWithin.L1_eq]
    simp only [k1, k2, if_true, quLikeN p1 _ (show p1.size ≤ 9 by omega) m1.2, fitsN p1 _ (show p1.size ≤ 9 by omega) m1.2, quLikeN p2 _ (show p2.size ≤ 9 by omega) m2.2, fitsN p2 _ (show p2.size ≤ 9 by omega) m2.2, Option.bind_some, rd_note, ek, wrap_in (x := ((k + 1 : Nat) : Int)) (by omega) (by omega), wrap_in (x := (L.getD k z66).f0 - (L.getD i z66).f1) (by omega) (by omega)]
    cases lkN p1 (L.getD i z66)
    · simpa only [Bool.false_eq_true, if_false] using skip
    cases lkN p2 (L.getD k z66)
    · simpa only [Bool.false_eq_true, if_false, if_true] using skip
    simp only [if_true]
    by_cases c : (L.getD k z66).f0 - (L.getD i z66).f1 ≤ fr
    case neg => simp only [c, if_false]; exact skip
    simp only [c, k3, if_true]
    obtain ⟨ob, b1, b2, b3, b4⟩ := ih (k + 1) (o ++ [[(i : Int), (k : Int)]]) (by omega) (by omega) (by simp; omega) (fun x hx => by
      rcases List.mem_append.1 hx with hx | hx
      · exact hg x hx
      · obtain rfl := List.mem_singleton.1 hx
        exact ⟨i, k, rfl, hk, hkl, c⟩)
    exact ⟨ob, b1, b2, by simp at b3; omega, b4⟩
theorem pair_outer (L : List Note) (p1 p2 : ByteArray) (fr : Int) (hp1 : p1.size ≤ 8) (hp2 : p2.size ≤ 8) (hl : Tie L) : ∀ (d i : Nat) (o : List (List Int)), i + d = L.length → o.length + 50 * d ≤ 50000 → (∀ x ∈ o, PairOk L fr x) →
    ∃ r, spec_PairsWithin.L0 L p1 p2 fr o L L.length i = some (r, true) ∧ impl_PairsWithin.L0 L p1 p2 fr o L L.length i = some (r, true) ∧ r.length ≤ 50000 ∧ ∀ x ∈ r, PairOk L fr x := by
  intro d
  have hl1 := hl.1
  induction d with
  | zero =>
    intro i o hd ho hg
    rw [spec_PairsWithin.L0_eq, impl_PairsWithin.L0_eq, if_neg (by omega), if_neg (by omega)]
    exact ⟨o, rfl, rfl, by omega, hg⟩
  | succ d ih =>
    intro i o hd ho hg
    have hi : i < L.length := by omega
    have ei : (i : Int) + 1 = ((i + 1 : Nat) : Int) := by omega
    obtain ⟨o', a1, a2, a3, a4⟩ := pair_inner L p1 p2 fr hp1 hp2 hl i hi d (i + 1) o (by omega) (by omega) (by omega) hg
    obtain ⟨r, b1, b2, b3, b4⟩ := ih (i + 1) o' (by omega) (by omega) a4
    rw [spec_PairsWithin.L0_eq, impl_PairsWithin.L0_eq, if_pos (by omega), if_pos (by omega), if_pos (by omega), if_pos (by omega), if_pos (by omega), if_pos (by omega), wrap_in (x := (i : Int) + 1) (by omega) (by omega), rd_note, ei, a1, a2, ei, b1, b2]
    exact ⟨r, rfl, rfl, b3, b4⟩
theorem FnExactPairsWithin : laws_FnExactPairsWithin.Pure := by
  intro l p1 p2 fr hl hp1 hp2 _
  obtain ⟨hl1, hw⟩ := hl
  refine lim_rounds (?_ : laws_FnExactPairsWithin.F l p1 p2 fr = some true)
  rw [laws_FnExactPairsWithin.F_eq]
  by_cases c1 : (p1.size : Int) > 1048576
  · rw [if_pos c1]
  rw [if_neg c1]
  by_cases c2 : (p2.size : Int) > 1048576
  · rw [if_pos c2]
  rw [if_neg c2]
  obtain ⟨t, h1, h2⟩ := szNote_tells l 1048576 hl1 hw (by omega)
  rw [h1, Option.bind_some]
  by_cases h3 : t < 0
  · rw [if_pos h3]
  rw [if_neg h3]
  have hl2 : l.length ≤ 1048576 := by omega
  have hz := sized_convN hl1 hw
  have key : ∃ r b, spec_PairsWithin.F (l.map convN) p1 p2 fr = some (r, b) ∧ impl_PairsWithin.F (l.map convN) p1 p2 fr = some (r, b) ∧ r.length ≤ 50000 ∧ ∀ y ∈ r, y.length = 2 := by
    generalize l.map convN = L at hz
    rw [spec_PairsWithin.F_eq, impl_PairsWithin.F_eq, tiGood_some _ hz, isTier_some _ hz, quPattern_some _ hp1, isPat_some _ hp1, quPattern_some _ hp2, isPat_some _ hp2, tiFrame_some, isFrame_some]
    simp only [Option.bind_some, spec_PairsWithin.J0_eq, impl_PairsWithin.J0_eq]
    cases hg : isTier L
    · exact ⟨_, _, rfl, rfl, by simp, by simp⟩
    cases g1 : isPat p1
    · exact ⟨_, _, rfl, rfl, by simp, by simp⟩
    cases g2 : isPat p2
    · exact ⟨_, _, rfl, rfl, by simp, by simp⟩
    by_cases c : 0 ≤ fr ∧ fr ≤ 99999
    case neg => rw [decide_eq_false c]; exact ⟨_, _, rfl, rfl, by simp, by simp⟩
    rw [decide_eq_true c]
    simp only [if_true, Bool.not_true, Bool.false_eq_true, if_false]
    have ht := tier_facts hg
    have hl1 := ht.1
    obtain ⟨r, k1, k2, k3, k4⟩ := pair_outer L p1 p2 fr (pat8 g1) (pat8 g2) ht L.length 0 [] (by omega) (by simp; omega) (by simp)
    exact ⟨r, true, k1, k2, k3, fun y hy => by obtain ⟨i, k, rfl, _⟩ := k4 y hy; rfl⟩
  obtain ⟨r, b, k1, k2, k3, k4⟩ := key
  obtain ⟨m, m1, m2⟩ := markNote_tells (l.map convN) 1 (by simpa using hl2) (by omega)
  have e1 := eqIntSS_refl r (by omega) k4
  have e2 := markIntSS_some r (by omega) k4
  have e3 := heldIntSS_some r.length (by omega)
  have q1 : ¬ m.1 < 0 := by omega
  have q2 : ¬ (1 + 2 * (r.length : Int) < 0) := by omega
  simp only [toNote_some l hl2, Option.bind_some, k1, k2, laws_FnExactPairsWithin.J0_eq, laws_FnExactPairsWithin.J1_eq, laws_FnExactPairsWithin.J2_eq, eqNoteS_refl _ hz.1, m1, e1, e2, e3, if_true, bne_self_eq_false, q1, q2, if_false, Bool.false_eq_true]

end Go.Proofs.Ytnmgcphajacdnaa.Pure
