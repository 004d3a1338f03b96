/- The pure statement of the law FnExactCountGlosses: for all arguments within their bounds its Lean function answers true. -/
import Derived.Test.YtnmgcphajacdnaaPFnExactCountGlossesxD0
namespace Go.Proofs.Ytnmgcphajacdnaa.Pure
open Go.RowKit Go.Proofs.Ytnmgcphajacdnaa.PFnExactCountGlosses Go.Proofs.YtnmgcphajacdnaaW.PrintWords Go.Proofs.YtnmgcphajacdnaaW.PrintLast
set_option linter.unusedVariables false
set_option linter.unusedSimpArgs false
/-! ### Numbers, loops, letters -/
theorem wrap_in {x : Int} (h0 : -9223372036854775808 ≤ x) (h1 : x ≤ 9223372036854775807) : wrap64 x = x := by
  unfold wrap64; omega
theorem wf_i64 {n : Int} (h : (Lit.int .i64 n).wf = true) : -9223372036854775808 ≤ n ∧ n ≤ 9223372036854775807 := by
  simpa [Lit.wf, IntKind.min, IntKind.max, IntKind.signed, IntKind.bits] using h
/-- A loop over a list, from its end. L: what the loop tells from place i on. -/
theorem each {α γ : Type} (L : Int → γ) (l : List α) (z : α) (R : Nat → List α → γ → Prop) (nil : R l.length [] (L l.length))
    (cons : ∀ (i : Nat) (x : α) (t : List α), i < l.length → l.getD i z = x → l.drop i = x :: t → l.drop (i + 1) = t → R (i + 1) t (L ((i : Int) + 1)) → R i (x :: t) (L i)) : R 0 l (L 0) := by
  have key : ∀ (t : List α) (i : Nat), l.drop i = t → i ≤ l.length → R i t (L i) := by
    intro t
    induction t with
    | nil =>
      intro i h hi
      have : l.length ≤ i := by simpa [List.drop_eq_nil_iff] using h
      obtain rfl : i = l.length := by omega
      exact nil
    | cons x t ih =>
      intro i h hi
      have hlt : i < l.length := by
        rcases Nat.lt_or_ge i l.length with h' | h'
        · exact h'
        · rw [List.drop_eq_nil_of_le h'] at h; cases h
      have h2 := List.drop_eq_getElem_cons hlt
      rw [h] at h2
      injection h2 with h3 h4
      refine cons i x t hlt ?_ h h4.symm ?_
      · rw [List.getD_eq_getElem?_getD, List.getElem?_eq_getElem hlt]; exact h3.symm
      · have := ih (i + 1) h4.symm (by omega)
        rwa [show ((i + 1 : Nat) : Int) = (i : Int) + 1 from by omega] at this
  have := key l 0 rfl (Nat.zero_le _)
  rwa [show ((0 : Nat) : Int) = 0 from rfl] at this
theorem bt_data (s : ByteArray) (i : Nat) (h : i < s.size) : bt s (i : Int) = ((s.data.toList.getD i 0).toNat : Int) := by
  obtain ⟨d⟩ := s
  have h' : i < d.size := h
  have : bt ⟨d⟩ (i : Int) = ((d[i]).toNat : Int) := by
    unfold bt
    rw [dif_pos (show ((i : Int)).toNat < (⟨d⟩ : ByteArray).size from by simpa using h)]
    rfl
  rw [this]
  simp [h']
theorem size_data (s : ByteArray) : s.size = s.data.toList.length := by
  obtain ⟨d⟩ := s; simp [ByteArray.size]
theorem toList_data (s : ByteArray) : s.toList = s.data.toList := by
  rw [ByteArray.toList_eq]
theorem ext_data {s t : ByteArray} (h : s.toList = t.toList) : s = t := by
  rw [toList_data, toList_data] at h
  obtain ⟨⟨a⟩⟩ := s
  obtain ⟨⟨b⟩⟩ := t
  simp at h
  rw [h]
theorem toList_iff {s t : ByteArray} : s.toList = t.toList ↔ s = t := ⟨ext_data, fun h => by rw [h]⟩
theorem mem_drop {α : Type} {l t : List α} {x : α} {i : Nat} (h : l.drop i = x :: t) : x ∈ l := List.mem_of_mem_drop (i := i) (by rw [h]; simp)

/-! ### Words of letters; angles -/
theorem within_some (a b c : Int) : impl_within.f a b c = some (decide (b ≤ a ∧ a ≤ c)) := by
  unfold impl_within.f
  by_cases h : b ≤ a
  · rw [if_pos h]; simp [h]
  · rw [if_neg h]; simp [h]
theorem l1In_some (a b c : Int) : spec_l1In.f a b c = some (decide (b ≤ a ∧ a ≤ c)) := by
  unfold spec_l1In.f
  by_cases h : b ≤ a
  · rw [if_pos h]; simp [h]
  · rw [if_neg h]; simp [h]
/-- All letters between two. -/
def inRange (lo hi : Nat) (l : List UInt8) : Bool := l.all fun c => decide (lo ≤ c.toNat ∧ c.toNat ≤ hi)
/-- One to eight letters between two. -/
def isWord (lo hi : Nat) (s : ByteArray) : Bool := decide (1 ≤ s.size ∧ s.size ≤ 8) && inRange lo hi s.data.toList
theorem dec_size (s : ByteArray) : decide ((1 : Int) ≤ s.size ∧ (s.size : Int) ≤ 8) = decide (1 ≤ s.size ∧ s.size ≤ 8) := by
  by_cases h : 1 ≤ s.size ∧ s.size ≤ 8
  · rw [decide_eq_true h, decide_eq_true (by omega)]
  · rw [decide_eq_false h, decide_eq_false (by omega)]

theorem fsWord_some (s : ByteArray) (hs : s.size ≤ 9223372036854775807) : spec_fsWord.F s = some (isWord 65 90 s) := by
  rw [spec_fsWord.F_eq]
  have := each (L := fun i => spec_fsWord.L0 s i) s.data.toList 0 (fun _ t o => o = some (inRange 65 90 t && decide (1 ≤ s.size ∧ s.size ≤ 8))) ?_ ?_
  · rw [this, isWord, Bool.and_comm]
  · show spec_fsWord.L0 s _ = _
    rw [spec_fsWord.L0_eq, if_neg (by rw [← size_data]; omega), l1In_some]
    simp only [Option.bind_some, inRange, List.all_nil, Bool.true_and, dec_size]
  · intro i x t hi hx _ _ ih
    have hi' : i < s.size := by rw [size_data]; exact hi
    show spec_fsWord.L0 s _ = _
    rw [spec_fsWord.L0_eq, if_pos (by omega), if_pos (by omega), bt_data s i hi', hx, wrap_in (by omega) (by omega)]
    by_cases h1 : x.toNat < 65
    · rw [if_pos (by omega)]; simp [inRange]; omega
    · rw [if_neg (by omega)]
      by_cases h2 : 90 < x.toNat
      · rw [if_pos (by omega)]; simp [inRange]; omega
      · rw [if_neg (by omega), ih]
        have h3 : 65 ≤ x.toNat := by omega
        have h4 : x.toNat ≤ 90 := by omega
        simp [inRange, h3, h4]


/-- What 'letters' says of a list of letters: they are those from lo to hi. -/
def Letters (lo hi : Nat) (m : ByteArray) : Prop := ∀ n, n < 256 → (decide (Lib.indexByte m.data.toList n.toUInt8 < 0)) = !decide (lo ≤ n ∧ n ≤ hi)
instance (lo hi : Nat) (m : ByteArray) : Decidable (Letters lo hi m) := by unfold Letters; infer_instance
theorem hasOnly_some (lo hi : Nat) (s m : ByteArray) (hs : s.size ≤ 9223372036854775807) (hm : Letters lo hi m) : impl_hasOnly.F s m = some (inRange lo hi s.data.toList) := by
  rw [impl_hasOnly.F_eq]
  refine each (L := fun i => impl_hasOnly.L0 s m s.size i) s.data.toList 0 (fun _ t o => o = some (inRange lo hi t)) ?_ ?_
  · show impl_hasOnly.L0 s m _ _ = _
    rw [impl_hasOnly.L0_eq, if_neg (by rw [← size_data]; omega)]; rfl
  · intro i x t hi' hx _ _ ih
    have hi2 : i < s.size := by rw [size_data]; exact hi'
    have hb := hm x.toNat x.toNat_lt
    show impl_hasOnly.L0 s m _ _ = _
    rw [impl_hasOnly.L0_eq, if_pos (by omega), if_pos (by omega), if_pos (by omega), bt_data s i hi2, hx, wrap_in (by omega) (by omega)]
    simp only [strings_IndexByte.f, stringslite_IndexByte.f, Option.bind_some, Int.toNat_natCast]
    by_cases h1 : lo ≤ x.toNat ∧ x.toNat ≤ hi
    · rw [if_neg (by simp [h1] at hb; simpa using hb), ih]
      simp [inRange, h1]
    · rw [if_pos (by simpa [h1] using hb)]
      simp [inRange, h1]
theorem isWordOf_some (lo hi : Nat) (s m : ByteArray) (hs : s.size ≤ 9223372036854775807) (hm : Letters lo hi m) : impl_isWordOf.F s m = some (isWord lo hi s) := by
  rw [impl_isWordOf.F_eq, within_some, hasOnly_some lo hi s m hs hm]
  simp only [Option.bind_some, isWord]
  by_cases h : 1 ≤ s.size ∧ s.size ≤ 8
  · have : (1 : Int) ≤ s.size ∧ (s.size : Int) ≤ 8 := by omega
    simp [h, this]
  · have : ¬ ((1 : Int) ≤ s.size ∧ (s.size : Int) ≤ 8) := by omega
    simp [h, this]

/-! ### Notes and tiers -/
abbrev Note := S66
abbrev NoteL := S81
theorem rd_note (l : List Note) (i : Nat) : rd_T66 l (i : Int) = l.getD i z66 := by simp [rd_T66]
theorem rd_noteL (l : List NoteL) (i : Nat) : rd_T81 l (i : Int) = l.getD i z81 := by simp [rd_T81]
def convN (x : NoteL) : Note := ⟨x.f0, x.f1, x.f2⟩
def SizedN (l : List Note) : Prop := l.length ≤ 9223372036854775807 ∧ ∀ x ∈ l, x.f2.size ≤ 9223372036854775807
theorem wfNote {x : NoteL} (h : Wf81 x) : x.f2.size ≤ 9223372036854775807 := by
  simp only [Wf81] at h; omega
theorem sized_convN {l : List NoteL} (hl : l.length ≤ 9223372036854775807) (hw : ∀ x ∈ l, Wf81 x) : SizedN (l.map convN) :=
  ⟨by simpa using hl, fun x hx => by
    obtain ⟨y, hy, rfl⟩ := List.mem_map.1 hx
    exact wfNote (hw y hy)⟩
theorem szNote_tells (l : List NoteL) (a : Int) (hl : l.length ≤ 9223372036854775807) (hw : ∀ x ∈ l, Wf81 x) (ha : 0 ≤ a ∧ a ≤ 1048576) : ∃ t, laws_szNoteS.F l a = some t ∧ (t < 0 ∨ (0 ≤ t ∧ t ≤ a ∧ l.length ≤ a)) := by
  rw [laws_szNoteS.F_eq, wrap_in (by omega) (by omega)]
  by_cases h0 : a - (l.length : Int) < 0
  · rw [if_pos h0]; exact ⟨-1, rfl, .inl (by omega)⟩
  · rw [if_neg h0]
    have := each (L := fun i => fun b => laws_szNoteS.L0 l b i) l z81 (fun _ t f => (∀ x ∈ t, x ∈ l) → ∀ b : Int, 0 ≤ b → b ≤ 1048576 → ∃ t, f b = some t ∧ (t < 0 ∨ (0 ≤ t ∧ t ≤ b))) ?_ ?_ (fun _ h => h) (a - l.length) (by omega) (by omega)
    · obtain ⟨t, h1, h2⟩ := this
      exact ⟨t, h1, by omega⟩
    · intro _ b h1 h2
      refine ⟨b, ?_, by omega⟩
      show laws_szNoteS.L0 l b _ = _
      rw [laws_szNoteS.L0_eq, if_neg (by omega)]
    · intro i x t hi hx hd _ ih hm b h1 h2
      have hz : x.f2.size ≤ 9223372036854775807 := wfNote (hw x (hm x (by simp)))
      show ∃ t, laws_szNoteS.L0 l b _ = some t ∧ _
      rw [laws_szNoteS.L0_eq, if_pos (by omega), if_pos (by omega), rd_noteL, hx, wrap_in (x := (i : Int) + 1) (by omega) (by omega)]
      unfold laws_szNote.f
      rw [wrap_in (by omega) (by omega)]
      by_cases h3 : b - (x.f2.size : Int) < 0
      · rw [if_pos h3]; exact ⟨-1, rfl, .inl (by omega)⟩
      · rw [if_neg h3, Option.bind_some, if_neg h3]
        obtain ⟨t, h4, h5⟩ := ih (fun y hy => hm y (by simp [hy])) (b - x.f2.size) (by omega) (by omega)
        exact ⟨t, h4, by omega⟩
theorem take_set {α : Type} (l : List α) (i : Nat) (v : α) (h : i < l.length) : (l.set i v).take (i + 1) = l.take i ++ [v] := by
  rw [List.take_succ_eq_append_getElem (by simpa using h), List.take_set_of_le (Nat.le_refl i)]
  simp
theorem toNote_some (l : List NoteL) (hl : l.length ≤ 1048576) : laws_toNoteS.F l = some (l.map convN) := by
  rw [laws_toNoteS.F_eq, if_pos (by omega), if_pos (by omega)]
  have := each (L := fun i => fun y => laws_toNoteS.L0 l y i) l z81 (fun i t f => ∀ y : List Note, y.length = l.length → f y = some (y.take i ++ t.map convN)) ?_ ?_ (List.replicate ((l.length : Int)).toNat z66) (by simp)
  · show laws_toNoteS.L0 l _ _ = _
    exact this.trans (by simp)
  · intro y hy
    show laws_toNoteS.L0 l y _ = _
    rw [laws_toNoteS.L0_eq, if_neg (by omega)]
    simp [← hy]
  · intro i x t hi hx _ _ ih y hy
    show laws_toNoteS.L0 l y _ = _
    rw [laws_toNoteS.L0_eq, if_pos (by omega), if_pos (by omega), rd_noteL, hx, wrap_in (x := (i : Int) + 1) (by omega) (by omega)]
    unfold laws_toNote.f
    rw [Option.bind_some, if_pos (by omega)]
    refine (ih _ (by simpa using hy)).trans ?_
    rw [Int.toNat_natCast, take_set _ _ _ (by omega)]
    simp [convN]
theorem eqNoteS_refl (l : List Note) (hl : l.length ≤ 9223372036854775807) : laws_eqNoteS.F l l = some true := by
  rw [laws_eqNoteS.F_eq, if_pos rfl]
  refine each (L := fun i => laws_eqNoteS.L0 l l i) l z66 (fun _ _ o => o = some true) ?_ ?_
  · show laws_eqNoteS.L0 l l _ = _
    rw [laws_eqNoteS.L0_eq, if_neg (by omega)]
  · intro i x t hi hx _ _ ih
    show laws_eqNoteS.L0 l l _ = _
    rw [laws_eqNoteS.L0_eq, if_pos (by omega), if_pos (by omega), if_pos (by omega), rd_note, hx, wrap_in (x := (i : Int) + 1) (by omega) (by omega)]
    unfold laws_eqNote.f
    rw [if_pos rfl, if_pos rfl, if_pos rfl, Option.bind_some, if_pos rfl]
    exact ih
/-- Is it a note? -/
def isNote (x : Note) : Bool := decide (0 ≤ x.f0 ∧ x.f0 ≤ 99999) && (decide (0 ≤ x.f1 ∧ x.f1 ≤ 99999) && (decide (x.f0 < x.f1) && isWord 65 90 x.f2))
theorem isFrame_some (a : Int) : impl_isFrame.f a = some (decide (0 ≤ a ∧ a ≤ 99999)) := by unfold impl_isFrame.f; rw [within_some]; rfl
theorem tiFrame_some (a : Int) : spec_tiFrame.f a = some (decide (0 ≤ a ∧ a ≤ 99999)) := by unfold spec_tiFrame.f; rw [l1In_some]; rfl
theorem isNote_some (x : Note) (h : x.f2.size ≤ 9223372036854775807) : impl_IsNote.F x.f0 x.f1 x.f2 = some (isNote x) := by
  rw [impl_IsNote.F_eq, isFrame_some, isFrame_some, isWordOf_some 65 90 _ _ h (by decide +kernel)]
  unfold isNote
  cases decide (0 ≤ x.f0 ∧ x.f0 ≤ 99999) <;> cases decide (0 ≤ x.f1 ∧ x.f1 ≤ 99999) <;> by_cases c : x.f0 < x.f1 <;> simp [c]
theorem tiNote_some (x : Note) (h : x.f2.size ≤ 9223372036854775807) : spec_tiNote.F x.f0 x.f1 x.f2 = some (isNote x) := by
  rw [spec_tiNote.F_eq, tiFrame_some, tiFrame_some, fsWord_some _ h]
  unfold isNote
  cases decide (0 ≤ x.f0 ∧ x.f0 ≤ 99999) <;> cases decide (0 ≤ x.f1 ∧ x.f1 ≤ 99999) <;> by_cases c : x.f0 < x.f1 <;> simp [c]
def tierFrom (l : List Note) : Nat → List Note → Bool
  | _, [] => decide (l.length ≤ 40)
  | i, x :: t => (isNote x && decide (i = 0 ∨ (l.getD (i - 1) z66).f1 ≤ x.f0)) && tierFrom l (i + 1) t
def isTier (l : List Note) : Bool := tierFrom l 0 l
theorem isTier_some (l : List Note) (hl : SizedN l) : impl_IsTier.F l = some (isTier l) := by
  have hl1 := hl.1
  rw [impl_IsTier.F_eq]
  refine each (L := fun i => impl_IsTier.L0 l l l.length i) l z66 (fun i t o => o = some (tierFrom l i t)) ?_ ?_
  · show impl_IsTier.L0 l l _ _ = _
    rw [impl_IsTier.L0_eq, if_neg (by omega)]
    simp only [tierFrom, Option.some.injEq, decide_eq_decide]; omega
  · intro i x t hi hx hd _ ih
    have hs := hl.2 x (mem_drop hd)
    show impl_IsTier.L0 l l _ _ = _
    rw [impl_IsTier.L0_eq, if_pos (by omega), if_pos (by omega), if_pos (by omega), rd_note, hx, wrap_in (x := (i : Int) + 1) (by omega) (by omega), isNote_some _ hs, Option.bind_some, tierFrom]
    cases isNote x
    · simp
    rw [if_pos rfl]
    by_cases h0 : i = 0
    · subst h0
      rw [if_neg (by omega)]
      simpa using ih
    · have h1 : (i : Int) - 1 = ((i - 1 : Nat) : Int) := by omega
      rw [if_pos (by omega), wrap_in (by omega) (by omega), h1, if_pos (by omega), if_pos (by omega), rd_note]
      by_cases h2 : (l.getD (i - 1) z66).f1 ≤ x.f0
      · rw [if_neg (by omega), decide_eq_true (p := i = 0 ∨ _) (.inr h2)]; simpa using ih
      · rw [if_pos (by omega), decide_eq_false (p := i = 0 ∨ _) (by omega)]; rfl
theorem tiGood_some (l : List Note) (hl : SizedN l) : spec_tiGood.F l = some (isTier l) := by
  have hl1 := hl.1
  rw [spec_tiGood.F_eq]
  refine each (L := fun i => spec_tiGood.L0 l l l.length i) l z66 (fun i t o => o = some (tierFrom l i t)) ?_ ?_
  · show spec_tiGood.L0 l l _ _ = _
    rw [spec_tiGood.L0_eq, if_neg (by omega)]
    simp only [tierFrom, Option.some.injEq, decide_eq_decide]; omega
  · intro i x t hi hx hd _ ih
    have hs := hl.2 x (mem_drop hd)
    show spec_tiGood.L0 l l _ _ = _
    rw [spec_tiGood.L0_eq, if_pos (by omega), if_pos (by omega), if_pos (by omega), rd_note, hx, wrap_in (x := (i : Int) + 1) (by omega) (by omega), tiNote_some _ hs, Option.bind_some, tierFrom]
    cases isNote x
    · simp
    rw [if_pos rfl]
    by_cases h0 : i = 0
    · subst h0
      rw [if_neg (by omega)]
      simpa using ih
    · have h1 : (i : Int) - 1 = ((i - 1 : Nat) : Int) := by omega
      rw [if_pos (by omega), wrap_in (by omega) (by omega), h1, if_pos (by omega), if_pos (by omega), rd_note]
      by_cases h2 : (l.getD (i - 1) z66).f1 ≤ x.f0
      · rw [if_neg (by omega), decide_eq_true (p := i = 0 ∨ _) (.inr h2)]; simpa using ih
      · rw [if_pos (by omega), decide_eq_false (p := i = 0 ∨ _) (by omega)]; rfl
theorem tier_facts {l : List Note} (h : isTier l = true) : l.length ≤ 40 ∧ ∀ x ∈ l, (0 ≤ x.f0 ∧ x.f0 < x.f1 ∧ x.f1 ≤ 99999) ∧ x.f2.size ≤ 8 := by
  have key : ∀ (t : List Note) (i : Nat), tierFrom l i t = true → l.length ≤ 40 ∧ ∀ x ∈ t, (0 ≤ x.f0 ∧ x.f0 < x.f1 ∧ x.f1 ≤ 99999) ∧ x.f2.size ≤ 8 := by
    intro t
    induction t with
    | nil => intro i h; exact ⟨by simpa [tierFrom] using h, by simp⟩
    | cons y t ih =>
      intro i h
      simp only [tierFrom, isNote, isWord, Bool.and_eq_true, decide_eq_true_eq] at h
      obtain ⟨h1, h2⟩ := ih _ h.2
      refine ⟨h1, fun x hx => ?_⟩
      rcases List.mem_cons.1 hx with rfl | hx
      · have := h.1.1; exact ⟨⟨this.1.1, this.2.2.1, this.2.1.2⟩, this.2.2.2.1.2⟩
      · exact h2 x hx
  exact key l 0 h


/-! ### Marks -/
theorem strOfNums_one (x : Int) : (strOfNums [x]).size = 1 := by simp [strOfNums, ByteArray.size]
theorem markText_total (a : Int) (ha : 0 ≤ a ∧ a ≤ 9223372036854775807) : ∃ s, laws_markText.F a = some s := by
  have key : ∀ (d : Nat) (a : Int) (s : ByteArray), 0 ≤ a → a < 10 ^ d → a ≤ 9223372036854775807 → s.size + d ≤ 1000 → ∃ r, laws_markText.L0 a s = some r := by
    intro d
    induction d with
    | zero =>
      intro a s h0 h1 _ h2
      rw [laws_markText.L0_eq, if_neg (by simp at h1; omega), if_pos (by omega)]
      exact ⟨_, rfl⟩
    | succ d ih =>
      intro a s h0 h1 h3 h2
      rw [laws_markText.L0_eq]
      by_cases h : a > 0
      · rw [if_pos h, Option.bind_some, strOfNums_one, if_pos (by omega), Int.tdiv_eq_ediv_of_nonneg h0, wrap_in (by omega) (by omega)]
        refine ih _ _ (by omega) ?_ (by omega) (by rw [ByteArray.size_append, strOfNums_one]; omega)
        rw [Int.pow_succ] at h1
        omega
      · rw [if_neg h, if_pos (by omega)]
        exact ⟨_, rfl⟩
  rw [laws_markText.F_eq]
  split
  · exact ⟨_, rfl⟩
  · exact key 19 a _ ha.1 (by have := ha.2; omega) ha.2 (by decide +kernel)

theorem markNote_tells (l : List Note) (a : Int) (hl : l.length ≤ 1048576) (ha : 0 ≤ a ∧ a ≤ 4194304) : ∃ r, laws_markNoteS.F l a = some r ∧ 0 ≤ r.1 ∧ r.1 ≤ a + 3 * l.length := by
  rw [laws_markNoteS.F_eq]
  refine each (L := fun i => fun y b => laws_markNoteS.L0 y b i) l z66 (fun i t f => ∀ (y : List Note) (b : Int), y.length = l.length → b = a + 3 * i → ∃ r, f y b = some r ∧ 0 ≤ r.1 ∧ r.1 ≤ a + 3 * l.length) ?_ ?_ l a rfl (by omega)
  · intro y b hy hb
    show ∃ r, laws_markNoteS.L0 y b _ = _ ∧ _
    rw [laws_markNoteS.L0_eq, if_neg (by omega)]
    exact ⟨_, rfl, by show 0 ≤ b; omega, by show b ≤ _; omega⟩
  · intro i x t hi _ _ _ ih y b hy hb
    show ∃ r, laws_markNoteS.L0 y b _ = _ ∧ _
    obtain ⟨s, hs⟩ := markText_total (b + 2) (by omega)
    rw [laws_markNoteS.L0_eq, if_pos (by omega), if_pos (by omega), Option.bind_some, Option.bind_some, wrap_in (x := (i : Int) + 1) (by omega) (by omega), wrap_in (x := b + 1) (by omega) (by omega), wrap_in (x := b + 1 + 1) (by omega) (by omega), show b + 1 + 1 = b + 2 from by omega, hs, Option.bind_some, wrap_in (x := b + 2 + 1) (by omega) (by omega)]
    exact ih _ _ (by simpa using hy) (by omega)


theorem set_take {α : Type} (l : List α) (i : Nat) (v : α) (h : i < l.length) : (l.set i v).take (i + 1) = l.take i ++ [v] := by
  rw [List.take_succ_eq_append_getElem (by simpa using h), List.take_set_of_le (Nat.le_refl i)]
  simp

/-! ### Slices of numbers -/
theorem rd_int (l : List Int) (i : Nat) : rd l (i : Int) = l.getD i 0 := by simp [rd]
/-- The numbers from a on. -/
def nums (a : Int) : Nat → List Int
  | 0 => []
  | n + 1 => a :: nums (a + 1) n
theorem nums_length (a : Int) : ∀ n, (nums a n).length = n
  | 0 => rfl
  | n + 1 => by rw [nums, List.length_cons, nums_length]
theorem eqInt_refl (l : List Int) (hl : l.length ≤ 9223372036854775807) : laws_eqIntS.F l l = some true := by
  rw [laws_eqIntS.F_eq, if_pos rfl]
  refine each (L := fun i => laws_eqIntS.L0 l l i) l 0 (fun _ _ o => o = some true) ?_ ?_
  · show laws_eqIntS.L0 l l _ = _
    rw [laws_eqIntS.L0_eq, if_neg (by omega)]
  · intro i x t hi hx _ _ ih
    show laws_eqIntS.L0 l l _ = _
    rw [laws_eqIntS.L0_eq, if_pos (by omega), if_pos (by omega), if_pos (by omega), if_pos rfl, wrap_in (x := (i : Int) + 1) (by omega) (by omega)]
    exact ih
theorem markInt_some (l : List Int) (a : Int) (hl : l.length ≤ 1048576) (ha : 0 ≤ a ∧ a ≤ 1048576) : laws_markIntS.F l a = some (a + l.length, nums a l.length) := by
  rw [laws_markIntS.F_eq]
  have := each (L := fun i => fun y b => laws_markIntS.L0 y b i) l 0 (fun i t f => ∀ (y : List Int) (b : Int), y.length = l.length → b = a + i → f y b = some (b + t.length, y.take i ++ nums b t.length)) ?_ ?_ l a rfl (by omega)
  · simpa using this
  · intro y b hy hb
    show laws_markIntS.L0 y b _ = _
    rw [laws_markIntS.L0_eq, if_neg (by omega)]
    simp [nums, ← hy]
  · intro i x t hi _ hd _ ih y b hy hb
    have := congrArg List.length hd
    simp only [List.length_drop, List.length_cons] at this
    show laws_markIntS.L0 y b _ = _
    rw [laws_markIntS.L0_eq, if_pos (by omega), if_pos (by omega), wrap_in (x := (i : Int) + 1) (by omega) (by omega), wrap_in (by omega) (by omega), Int.toNat_natCast]
    refine (ih _ _ (by simpa using hy) (by omega)).trans ?_
    rw [set_take _ _ _ (by omega)]
    simp [nums]; omega
theorem heldInt_some (n : Nat) (a : Int) (hn : n ≤ 1048576) (ha : 0 ≤ a ∧ a ≤ 1048576) : laws_heldIntS.F (nums a n) a = some (a + n) := by
  rw [laws_heldIntS.F_eq]
  have hl := nums_length a n
  have := each (L := fun i => fun b => laws_heldIntS.L0 (nums a n) b i) (nums a n) 0 (fun i t f => ∀ (b : Int), b = a + i → t = nums b t.length → f b = some (b + t.length)) ?_ ?_ a (by omega) (by rw [hl])
  · simpa [hl] using this
  · intro b hb _
    show laws_heldIntS.L0 _ b _ = _
    rw [laws_heldIntS.L0_eq, if_neg (by omega)]; simp
  · intro i x t hi hx hd _ ih b hb ht
    rw [List.length_cons, nums] at ht
    injection ht with h1 h2
    show laws_heldIntS.L0 _ b _ = _
    rw [laws_heldIntS.L0_eq, if_pos (by omega), if_pos (by omega), rd_int, hx, if_pos h1, wrap_in (x := (i : Int) + 1) (by omega) (by omega), wrap_in (by omega) (by omega)]
    refine (ih _ (by omega) h2).trans ?_
    rw [List.length_cons]; congr 1; omega



/-! ### Slices of texts -/
theorem rd_txt (l : List ByteArray) (i : Nat) : rdOf ByteArray.empty l (i : Int) = l.getD i ByteArray.empty := by simp [rdOf]
noncomputable def mk (a : Int) : ByteArray := (laws_markText.F a).getD ⟨#[]⟩
theorem markText_some (a : Int) (ha : 0 ≤ a ∧ a ≤ 9223372036854775807) : laws_markText.F a = some (mk a) := by
  obtain ⟨s, hs⟩ := markText_total a ha
  unfold mk; rw [hs]; rfl
noncomputable def marks (a : Int) : Nat → List ByteArray
  | 0 => []
  | n + 1 => mk a :: marks (a + 1) n
theorem marks_length (a : Int) : ∀ n, (marks a n).length = n
  | 0 => rfl
  | n + 1 => by rw [marks, List.length_cons, marks_length]

theorem eqText_refl (l : List ByteArray) (hl : l.length ≤ 9223372036854775807) : laws_eqStringS.F l l = some true := by
  rw [laws_eqStringS.F_eq, if_pos rfl]
  refine each (L := fun i => laws_eqStringS.L0 l l i) l ⟨#[]⟩ (fun _ _ o => o = some true) ?_ ?_
  · show laws_eqStringS.L0 l l _ = _
    rw [laws_eqStringS.L0_eq, if_neg (by omega)]
  · intro i x t hi hx _ _ ih
    show laws_eqStringS.L0 l l _ = _
    rw [laws_eqStringS.L0_eq, if_pos (by omega), if_pos (by omega), if_pos (by omega), if_pos rfl, wrap_in (x := (i : Int) + 1) (by omega) (by omega)]
    exact ih
theorem markTexts_some (l : List ByteArray) (a : Int) (hl : l.length ≤ 1048576) (ha : 0 ≤ a ∧ a ≤ 4194304) : laws_markStringS.F l a = some (a + l.length, marks a l.length) := by
  rw [laws_markStringS.F_eq]
  have := each (L := fun i => fun y b => laws_markStringS.L0 y b i) l ⟨#[]⟩ (fun i t f => ∀ (y : List ByteArray) (b : Int), y.length = l.length → b = a + i → f y b = some (b + t.length, y.take i ++ marks b t.length)) ?_ ?_ l a rfl (by omega)
  · simpa using this
  · intro y b hy hb
    show laws_markStringS.L0 y b _ = _
    rw [laws_markStringS.L0_eq, if_neg (by omega)]
    simp [marks, ← hy]
  · intro i x t hi _ hd _ ih y b hy hb
    have := congrArg List.length hd
    simp only [List.length_drop, List.length_cons] at this
    show laws_markStringS.L0 y b _ = _
    rw [laws_markStringS.L0_eq, if_pos (by omega), markText_some b (by omega), Option.bind_some, if_pos (by omega), wrap_in (x := (i : Int) + 1) (by omega) (by omega), wrap_in (by omega) (by omega), Int.toNat_natCast]
    refine (ih _ _ (by simpa using hy) (by omega)).trans ?_
    rw [set_take _ _ _ (by omega)]
    simp [marks]; omega

theorem heldTexts_some (n : Nat) (a : Int) (hn : n ≤ 1048576) (ha : 0 ≤ a ∧ a ≤ 1048576) : laws_heldStringS.F (marks a n) a = some (a + n) := by
  rw [laws_heldStringS.F_eq]
  have hl := marks_length a n
  have := each (L := fun i => fun b => laws_heldStringS.L0 (marks a n) b i) (marks a n) ByteArray.empty (fun i t f => ∀ (b : Int), b = a + i → t = marks b t.length → f b = some (b + t.length)) ?_ ?_ a (by omega) (by rw [hl])
  · simpa [hl] using this
  · intro b hb _
    show laws_heldStringS.L0 _ b _ = _
    rw [laws_heldStringS.L0_eq, if_neg (by omega)]; simp
  · intro i x t hi hx hd _ ih b hb ht
    rw [List.length_cons, marks] at ht
    injection ht with h1 h2
    show laws_heldStringS.L0 _ b _ = _
    rw [laws_heldStringS.L0_eq, if_pos (by omega), if_pos (by omega), markText_some b (by omega), Option.bind_some, rd_txt, hx, if_pos (by rw [h1]), wrap_in (x := (i : Int) + 1) (by omega) (by omega), wrap_in (by omega) (by omega)]
    refine (ih _ (by omega) h2).trans ?_
    rw [List.length_cons]; congr 1; omega



/-! ### Texts in their order, each once -/
def Strict (l : List ByteArray) : Prop := l.Pairwise (fun a b => a.toList < b.toList)
theorem lsOf_toList (s : ByteArray) : lsOf s = s.toList := by rw [lsOf, toList_data]
theorem strict_ext {l m : List ByteArray} (hl : Strict l) (hm : Strict m) (h : ∀ x, x ∈ l ↔ x ∈ m) : l = m := by
  have nd : ∀ {l : List ByteArray}, Strict l → l.Nodup := fun hl => List.Pairwise.imp (fun {a b} h e => by subst e; exact List.lt_irrefl _ h) hl
  refine List.Perm.eq_of_pairwise (le := fun a b : ByteArray => a.toList < b.toList) (fun a b _ _ h1 h2 => ?_) hl hm ((List.perm_ext_iff_of_nodup (nd hl) (nd hm)).2 h)
  exact absurd (List.lt_trans h1 h2) (List.lt_irrefl _)
def putText (w : ByteArray) : List ByteArray → List ByteArray
  | [] => [w]
  | y :: t => if y.toList < w.toList then y :: putText w t else if y.toList = w.toList then y :: t else w :: y :: t
theorem putText_mem (w x : ByteArray) : ∀ l : List ByteArray, x ∈ putText w l ↔ x = w ∨ x ∈ l
  | [] => by simp [putText]
  | y :: t => by
    unfold putText
    split
    · rw [List.mem_cons, putText_mem w x t, List.mem_cons]
      constructor
      · rintro (h | h | h)
        · exact .inr (.inl h)
        · exact .inl h
        · exact .inr (.inr h)
      · rintro (h | h | h)
        · exact .inr (.inl h)
        · exact .inl h
        · exact .inr (.inr h)
    · split
      · rename_i h
        have : y = w := ext_data h
        subst this
        rw [List.mem_cons]
        constructor
        · exact fun h => .inr h
        · rintro (h | h)
          · exact .inl h
          · exact h
      · rw [List.mem_cons]
theorem text_lt {a b : ByteArray} (h1 : ¬ a.toList < b.toList) (h2 : ¬ a.toList = b.toList) : b.toList < a.toList :=
  Classical.byContradiction fun h3 => h2 (List.le_antisymm (List.not_lt.1 h3) (List.not_lt.1 h1))
theorem putText_strict (w : ByteArray) : ∀ {l : List ByteArray}, Strict l → Strict (putText w l)
  | [], _ => by simp [putText, Strict]
  | y :: t, h => by
    have h1 := List.pairwise_cons.1 h
    unfold putText
    split
    · rename_i hy
      refine List.pairwise_cons.2 ⟨fun b hb => ?_, putText_strict w h1.2⟩
      rcases (putText_mem w b t).1 hb with rfl | hb
      · exact hy
      · exact h1.1 b hb
    · split
      · exact h
      · rename_i hy he
        have hwy := text_lt hy he
        refine List.pairwise_cons.2 ⟨fun b hb => ?_, h⟩
        rcases List.mem_cons.1 hb with rfl | hb
        · exact hwy
        · exact List.lt_trans hwy (h1.1 b hb)
theorem putText_length (w : ByteArray) : ∀ l : List ByteArray, (putText w l).length ≤ l.length + 1
  | [] => by simp [putText]
  | y :: t => by
    have := putText_length w t
    unfold putText
    split
    · simp only [List.length_cons]; omega
    · split <;> simp only [List.length_cons] <;> omega
/-- Runs of a sorted row, each once. -/
theorem compact_strict (S : List (List UInt8)) (h : S.Pairwise (fun a b => a ≤ b)) : (Lib.compact S).Pairwise (fun a b => a < b) := by
  unfold Lib.compact Lib.compactUpTo
  rw [List.pairwise_map, List.pairwise_filter]
  refine List.Pairwise.imp_of_mem (R := fun a b => a < b) (fun {i j} hi hj hij _ kj => ?_) List.pairwise_lt_range
  have hi' : i < S.length := List.mem_range.1 hi
  have hj' : j < S.length := List.mem_range.1 hj
  have kj2 : j = 0 ∨ S.toArray[j]! ≠ S.toArray[j - 1]! := by simpa [Lib.keeps] using kj
  have hne : S.toArray[j]! ≠ S.toArray[j - 1]! := by
    rcases kj2 with h0 | h0
    · omega
    · exact h0
  have g : ∀ k, (hk : k < S.length) → S.toArray[k]! = S[k] := fun k hk => by simp [hk]
  rw [g j hj', g (j - 1) (by omega)] at hne
  rw [g i hi', g j hj']
  rw [List.pairwise_iff_getElem] at h
  have h1 : S[j - 1] ≤ S[j] := h (j - 1) j (by omega) hj' (by omega)
  have h2 : S[i] ≤ S[j - 1] := by
    rcases Nat.lt_or_ge i (j - 1) with h3 | h3
    · exact h i (j - 1) hi' (by omega) h3
    · have e : i = j - 1 := by omega
      subst e
      exact List.le_refl _
  refine List.lt_of_le_of_lt h2 ?_
  exact Classical.byContradiction fun h3 => hne (List.le_antisymm (List.not_lt.1 h3) h1)
theorem compact_mem {α : Type} [Inhabited α] [DecidableEq α] (S : List α) (x : α) : x ∈ Lib.compact S ↔ x ∈ S := by
  unfold Lib.compact Lib.compactUpTo
  have g : ∀ k, (hk : k < S.length) → S.toArray[k]! = S[k] := fun k hk => by simp [hk]
  constructor
  · intro h
    obtain ⟨j, hj, rfl⟩ := List.mem_map.1 h
    have hj' : j < S.length := List.mem_range.1 (List.mem_filter.1 hj).1
    rw [g j hj']
    exact List.getElem_mem hj'
  · intro h
    obtain ⟨i, hi, rfl⟩ := List.getElem_of_mem h
    have key : ∀ i, (hi : i < S.length) → ∃ j, j < S.length ∧ Lib.keeps S.toArray j = true ∧ S.toArray[j]! = S[i] := by
      intro i
      induction i with
      | zero => intro hi; exact ⟨0, hi, by simp [Lib.keeps], g 0 hi⟩
      | succ i ih =>
        intro hi
        by_cases hk : Lib.keeps S.toArray (i + 1) = true
        · exact ⟨i + 1, hi, hk, g _ hi⟩
        · obtain ⟨j, h1, h2, h3⟩ := ih (by omega)
          refine ⟨j, h1, h2, ?_⟩
          have : S.toArray[i + 1]! = S.toArray[i]! := by
            apply Classical.byContradiction
            intro h4
            exact hk (by simp [Lib.keeps]; simpa using h4)
          rw [g _ hi, g i (by omega)] at this
          rw [h3, this]
    obtain ⟨j, h1, h2, h3⟩ := key i hi
    exact List.mem_map.2 ⟨j, List.mem_filter.2 ⟨List.mem_range.2 h1, h2⟩, h3⟩
theorem bs_ls (s : ByteArray) : bsOf (lsOf s) = s := by cases s; rfl
def uniq (l : List ByteArray) : List ByteArray := onceTexts (sortTexts l)
theorem bsOf_toList (l : List UInt8) : (bsOf l).toList = l := by rw [toList_data]; simp [bsOf]
theorem uniq_eq (l : List ByteArray) : uniq l = (Lib.compact ((l.map lsOf).mergeSort fun x y => decide (x ≤ y))).map bsOf := by
  unfold uniq onceTexts sortTexts
  rw [List.map_map, show (lsOf ∘ bsOf) = id from funext fun l => by simp [lsOf, bsOf], List.map_id]
theorem uniq_strict (l : List ByteArray) : Strict (uniq l) := by
  rw [uniq_eq, Strict, List.pairwise_map]
  refine List.Pairwise.imp (fun {a b} h => ?_) (compact_strict _ (List.Pairwise.imp (fun {a b} h => of_decide_eq_true h) (List.pairwise_mergeSort (le := fun x y : List UInt8 => decide (x ≤ y)) (fun a b c h1 h2 => ?_) (fun a b => ?_) (l.map lsOf))))
  · rw [bsOf_toList, bsOf_toList]; exact h
  · exact decide_eq_true (List.le_trans (of_decide_eq_true h1) (of_decide_eq_true h2))
  · rcases List.le_total a b with h | h
    · simp [h]
    · simp [h]
theorem uniq_mem (l : List ByteArray) (x : ByteArray) : x ∈ uniq l ↔ x ∈ l := by
  rw [uniq_eq]
  constructor
  · intro h
    obtain ⟨y, hy, rfl⟩ := List.mem_map.1 h
    rw [compact_mem, List.mem_mergeSort] at hy
    obtain ⟨z, hz, rfl⟩ := List.mem_map.1 hy
    rw [bs_ls]
    exact hz
  · intro h
    refine List.mem_map.2 ⟨lsOf x, ?_, bs_ls x⟩
    rw [compact_mem, List.mem_mergeSort]
    exact List.mem_map.2 ⟨x, h, rfl⟩
theorem uniq_length (l : List ByteArray) : (uniq l).length ≤ l.length :=
  Nat.le_trans (onceTexts_length _) (by rw [sortTexts_length]; exact Nat.le_refl _)
theorem fold_put (l : List ByteArray) : ∀ o : List ByteArray, Strict o → Strict (l.foldl (fun o w => putText w o) o) ∧ ∀ x, x ∈ l.foldl (fun o w => putText w o) o ↔ x ∈ o ∨ x ∈ l := by
  induction l with
  | nil => intro o h; exact ⟨h, fun x => by simp⟩
  | cons w t ih =>
    intro o h
    obtain ⟨h1, h2⟩ := ih _ (putText_strict w h)
    refine ⟨h1, fun x => ?_⟩
    rw [List.foldl_cons, h2, putText_mem, List.mem_cons]
    constructor
    · rintro ((h | h) | h)
      · exact .inr (.inl h)
      · exact .inl h
      · exact .inr (.inr h)
    · rintro (h | h | h)
      · exact .inl (.inr h)
      · exact .inl (.inl h)
      · exact .inr h
theorem uniq_fold (l : List ByteArray) : l.foldl (fun o w => putText w o) [] = uniq l := by
  obtain ⟨h1, h2⟩ := fold_put l [] (by simp [Strict])
  exact strict_ext h1 (uniq_strict l) (fun x => by rw [h2, uniq_mem]; simp)
theorem distinct_some (l : List ByteArray) (hl : l.length ≤ 1048576) : impl_distinct_string.f l = some (uniq l) := by
  unfold impl_distinct_string.f slices_Clone_string.f slices_Sort_string.f slices_Compact_string.f
  have h1 := sortTexts_length l
  simp only [Option.bind_some, List.length_nil, List.nil_append]
  rw [if_pos (by omega), Option.bind_some, if_pos (by omega), Option.bind_some, if_pos (by omega)]
  rfl

theorem rdI (l : List Int) (i : Nat) : rd l (i : Int) = l.getD i 0 := by simp [rd]
/-- How many there are of a text. -/
def cnt (g : ByteArray) (l : List ByteArray) : Nat := (l.filter fun y => y.toList == g.toList).length
theorem cnt_le (g : ByteArray) (l : List ByteArray) : cnt g l ≤ l.length := List.length_filter_le _ _
theorem thoseT_some (l : List ByteArray) (g : ByteArray) (hl : l.length ≤ 1048576) : ∃ r, impl_those_string_impl_CountGlosses_1.F l g = some r ∧ r.length = cnt g l := by
  rw [impl_those_string_impl_CountGlosses_1.F_eq]
  refine each (L := fun i => fun o => impl_those_string_impl_CountGlosses_1.L0 o l l.length i g) l ByteArray.empty (fun i t f => ∀ o : List Int, o.length ≤ i → ∃ r, f o = some r ∧ r.length = o.length + cnt g t) ?_ ?_ [] (by simp) |>.imp (fun r h => ⟨h.1, by simpa using h.2⟩)
  · intro o ho
    show ∃ r, impl_those_string_impl_CountGlosses_1.L0 o l _ _ g = _ ∧ _
    rw [impl_those_string_impl_CountGlosses_1.L0_eq, if_neg (by omega)]
    exact ⟨o, rfl, by simp [cnt]⟩
  · intro i x t hi hx _ _ ih o ho
    show ∃ r, impl_those_string_impl_CountGlosses_1.L0 o l _ _ g = _ ∧ _
    rw [impl_those_string_impl_CountGlosses_1.L0_eq, if_pos (by omega), if_pos (by omega), if_pos (by omega), rd_txt, hx, impl_CountGlosses_1.f, Option.bind_some, wrap_in (x := (i : Int) + 1) (by omega) (by omega)]
    by_cases c : (x.toList == g.toList) = true
    · rw [if_pos c, if_pos (by omega)]
      obtain ⟨r, h1, h2⟩ := ih (o ++ [(i : Int)]) (by simp; omega)
      refine ⟨r, h1, ?_⟩
      rw [h2, cnt, cnt, List.filter_cons_of_pos (p := fun y : ByteArray => y.toList == g.toList) c]
      simp; omega
    · rw [if_neg c]
      obtain ⟨r, h1, h2⟩ := ih o (by omega)
      refine ⟨r, h1, ?_⟩
      rw [h2, cnt, cnt, List.filter_cons_of_neg (p := fun y : ByteArray => y.toList == g.toList) c]
theorem implNames (L : List Note) (hl : L.length ≤ 40) : impl_CountGlosses.L0 [] L L.length 0 = impl_CountGlosses.L1 (L.map (·.f2)) (uniq (L.map (·.f2))) [] (uniq (L.map (·.f2))) ((uniq (L.map (·.f2))).length : Int) 0 := by
  refine each (L := fun i => fun o => impl_CountGlosses.L0 o L L.length i) L z66 (fun i t f => ∀ o : List ByteArray, o.length ≤ i → f o = impl_CountGlosses.L1 (o ++ t.map (·.f2)) (uniq (o ++ t.map (·.f2))) [] (uniq (o ++ t.map (·.f2))) ((uniq (o ++ t.map (·.f2))).length : Int) 0) ?_ ?_ [] (by simp)
  · intro o ho
    show impl_CountGlosses.L0 o L _ _ = _
    rw [impl_CountGlosses.L0_eq, if_neg (by omega), distinct_some o (by omega), Option.bind_some]
    simp
  · intro i x t hi hx _ _ ih o ho
    show impl_CountGlosses.L0 o L _ _ = _
    rw [impl_CountGlosses.L0_eq, if_pos (by omega), if_pos (by omega), if_pos (by omega), if_pos (by omega), rd_note, hx, wrap_in (x := (i : Int) + 1) (by omega) (by omega)]
    refine (ih _ (by simp; omega)).trans ?_
    simp
theorem implCounts (names u : List ByteArray) (hn : names.length ≤ 40) (hu : u.length ≤ 40) : impl_CountGlosses.L1 names u [] u u.length 0 = some (u, u.map (fun g => (cnt g names : Int)), true) := by
  refine each (L := fun i => fun o => impl_CountGlosses.L1 names u o u u.length i) u ByteArray.empty (fun i t f => ∀ o : List Int, o.length ≤ i → f o = some (u, o ++ t.map (fun g => (cnt g names : Int)), true)) ?_ ?_ [] (by simp)
  · intro o ho
    show impl_CountGlosses.L1 names u o u _ _ = _
    rw [impl_CountGlosses.L1_eq, if_neg (by omega)]
    simp
  · intro i x t hi hx _ _ ih o ho
    obtain ⟨r, h1, h2⟩ := thoseT_some names x (by omega)
    show impl_CountGlosses.L1 names u o u _ _ = _
    rw [impl_CountGlosses.L1_eq, if_pos (by omega), if_pos (by omega), if_pos (by omega), rd_txt, hx, h1, Option.bind_some, if_pos (by omega), wrap_in (x := (i : Int) + 1) (by omega) (by omega), h2]
    refine (ih _ (by simp; omega)).trans ?_
    simp
/-! ### The same, kept in order as it is counted -/
abbrev TC := ByteArray × Int
def putCount (w : ByteArray) : List TC → List TC
  | [] => [(w, 1)]
  | (y, c) :: t => if y.toList < w.toList then (y, c) :: putCount w t else if y.toList = w.toList then (y, c + 1) :: t else (w, 1) :: (y, c) :: t
theorem putCount_map (w : ByteArray) (f f' : ByteArray → Int) : ∀ N : List ByteArray, Strict N → (∀ y ∈ N, y ≠ w → f' y = f y) → (w ∈ N → f' w = f w + 1) → (w ∉ N → f' w = 1) →
    putCount w (N.map fun g => (g, f g)) = (putText w N).map fun g => (g, f' g)
  | [], _, _, _, h3 => by simp [putCount, putText, h3]
  | y :: t, hs, h1, h2, h3 => by
    have hp := List.pairwise_cons.1 hs
    simp only [List.map_cons, putCount, putText]
    by_cases c : y.toList < w.toList
    · have hne : y ≠ w := fun e => by subst e; exact List.lt_irrefl _ c
      rw [if_pos c, if_pos c, List.map_cons, h1 y (by simp) hne, putCount_map w f f' t hp.2 (fun z hz => h1 z (by simp [hz])) (fun h => h2 (by simp [h])) (fun h => h3 (by simp [h]; exact fun e => hne e.symm))]
    · rw [if_neg c, if_neg c]
      by_cases c2 : y.toList = w.toList
      · have e : y = w := ext_data c2
        subst e
        rw [if_pos rfl, if_pos rfl, List.map_cons, h2 (by simp)]
        congr 1
        refine List.map_congr_left fun z hz => ?_
        rw [h1 z (by simp [hz]) (fun e => by subst e; exact List.lt_irrefl _ (hp.1 _ hz))]
      · have hwy := text_lt c c2
        have hn : w ∉ y :: t := by
          intro h
          rcases List.mem_cons.1 h with e | h
          · subst e; exact c2 rfl
          · exact List.lt_irrefl _ (List.lt_trans hwy (hp.1 _ h))
        rw [if_neg c2, if_neg c2, List.map_cons, List.map_cons, h3 hn, h1 y (by simp) (fun e => c2 (by rw [e]))]
        congr 2
        refine List.map_congr_left fun z hz => ?_
        rw [h1 z (by simp [hz]) (fun e => hn (by rw [← e]; simp [hz]))]
theorem cnt_snoc (g w : ByteArray) (l : List ByteArray) : cnt g (l ++ [w]) = cnt g l + if w.toList = g.toList then 1 else 0 := by
  unfold cnt
  rw [List.filter_append, List.length_append]
  by_cases c : w.toList = g.toList
  · simp [c]
  · simp [c]
theorem cnt_none {g : ByteArray} {l : List ByteArray} (h : g ∉ l) : cnt g l = 0 := by
  unfold cnt
  rw [List.length_eq_zero_iff, List.filter_eq_nil_iff]
  intro y hy c
  have : y = g := ext_data (by simpa using c)
  subst this
  exact h hy
theorem fold_count (l : List ByteArray) : ∀ pre : List ByteArray, l.foldl (fun o w => putCount w o) ((pre.foldl (fun o w => putText w o) []).map fun g => (g, (cnt g pre : Int))) = ((pre ++ l).foldl (fun o w => putText w o) []).map fun g => (g, (cnt g (pre ++ l) : Int)) := by
  induction l with
  | nil => intro pre; simp
  | cons w t ih =>
    intro pre
    obtain ⟨s1, s2⟩ := fold_put pre [] (by simp [Strict])
    have hm : ∀ x, x ∈ pre.foldl (fun o w => putText w o) [] ↔ x ∈ pre := fun x => by rw [s2]; simp
    rw [List.foldl_cons, putCount_map w _ (fun g => (cnt g (pre ++ [w]) : Int)) _ s1 (fun y _ hy => ?_) (fun hw => ?_) (fun hw => ?_)]
    · have h := ih (pre ++ [w])
      rw [List.foldl_append, List.foldl_cons, List.foldl_nil] at h
      rw [h]
      simp
    · simp only [cnt_snoc, if_neg (fun e : w.toList = y.toList => hy (ext_data e.symm)), Nat.add_zero]
    · simp [cnt_snoc]
    · rw [hm] at hw
      simp [cnt_snoc, cnt_none hw]
theorem fold_count0 (l : List ByteArray) : l.foldl (fun o w => putCount w o) [] = (uniq l).map fun g => (g, (cnt g l : Int)) := by
  have := fold_count l []
  simpa [uniq_fold] using this
theorem own_some (l : List Int) (hl : l.length ≤ 1048576) : spec_l1Own.f l = some l := by
  unfold spec_l1Own.f
  rw [Option.bind_some, if_pos (by simp; omega)]
  simp
theorem putCount_length (w : ByteArray) : ∀ P : List TC, (putCount w P).length ≤ P.length + 1
  | [] => by simp [putCount]
  | (y, c) :: t => by
    have := putCount_length w t
    unfold putCount
    split
    · simp only [List.length_cons]; omega
    · split <;> simp only [List.length_cons] <;> omega
theorem putCount_bound (w : ByteArray) (n : Int) (hn : 0 ≤ n) : ∀ P : List TC, (∀ p ∈ P, 0 ≤ p.2 ∧ p.2 ≤ n) → ∀ p ∈ putCount w P, 0 ≤ p.2 ∧ p.2 ≤ n + 1
  | [], _, p, hp => by
    simp only [putCount, List.mem_singleton] at hp
    subst hp
    simp only; omega
  | (y, c) :: t, h, p, hp => by
    have h0 := h (y, c) (by simp)
    simp only at h0
    have ht := putCount_bound w n hn t (fun q hq => h q (by simp [hq]))
    unfold putCount at hp
    split at hp
    · rcases List.mem_cons.1 hp with rfl | hp
      · simp only; omega
      · exact ht p hp
    · split at hp
      · rcases List.mem_cons.1 hp with rfl | hp
        · simp only; omega
        · have := h p (by simp [hp]); omega
      · rcases List.mem_cons.1 hp with rfl | hp
        · simp only; omega
        · have := h p hp; omega
theorem specPutC (w : ByteArray) (P : List TC) (L : List Note) (n i a b : Int) (hP : P.length ≤ 40) (hb : ∀ p ∈ P, 0 ≤ p.2 ∧ p.2 ≤ 40) :
    spec_CountGlosses.L1 (P.map (·.1)) (P.map (·.2)) 0 L n i a b w = spec_CountGlosses.L0 ((putCount w P).map (·.1)) ((putCount w P).map (·.2)) L n (wrap64 (i + 1)) := by
  have := each (L := fun k => spec_CountGlosses.L1 (P.map (·.1)) (P.map (·.2)) k L n i a b w) P (ByteArray.empty, (0 : Int)) (fun k t f => k + t.length = P.length → f = spec_CountGlosses.L0 ((P.take k ++ putCount w t).map (·.1)) ((P.take k ++ putCount w t).map (·.2)) L n (wrap64 (i + 1))) ?_ ?_ (by simp)
  · simpa using this
  · intro _
    show spec_CountGlosses.L1 (P.map (·.1)) (P.map (·.2)) _ L n i a b w = _
    have e1 : (P.map (·.1)).length = P.length := by simp
    have e2 : (P.map (·.2)).length = P.length := by simp
    have t1 : (P.map (·.1)).take P.length = P.map (·.1) := by rw [← e1, List.take_length]
    have t2 : (P.map (·.2)).take P.length = P.map (·.2) := by rw [← e2, List.take_length]
    have d1 : (P.map (·.1)).drop P.length = [] := by rw [← e1, List.drop_length]
    have d2 : (P.map (·.2)).drop P.length = [] := by rw [← e2, List.drop_length]
    rw [spec_CountGlosses.L1_eq, if_neg (by omega), spec_CountGlosses.J2_eq, if_neg (by omega), spec_CountGlosses.J3_eq]
    simp only [Bool.false_eq_true, if_false, Option.bind_some, Int.toNat_natCast, t1, t2, d1, d2, List.nil_append, List.length_nil, List.length_cons, List.append_nil, putCount]
    rw [if_pos (by omega), if_pos (by omega), if_pos (by omega), if_pos (by simp; omega), if_pos (by simp; omega), if_pos (by omega), own_some _ (by omega), Option.bind_some, if_pos (by simp; omega), if_pos (by simp; omega)]
    simp
  · intro k p t hk hp hd _ ih hlen
    obtain ⟨y, c⟩ := p
    have hpk : P[k] = (y, c) := by
      rw [List.getD_eq_getElem?_getD, List.getElem?_eq_getElem hk, Option.getD_some] at hp
      exact hp
    have hmem : (y, c) ∈ P := by rw [← hpk]; exact List.getElem_mem hk
    have hbc := hb _ hmem
    have hlen' : k + (t.length + 1) = P.length := by simpa using hlen
    simp only at hbc
    have e1 : (P.map (·.1)).length = P.length := by simp
    have e2 : (P.map (·.2)).length = P.length := by simp
    have g1 : (P.map (·.1)).getD k ByteArray.empty = y := by
      rw [List.getD_eq_getElem?_getD, List.getElem?_map, List.getElem?_eq_getElem hk, hpk]; rfl
    have g2 : (P.map (·.2)).getD k 0 = c := by
      rw [List.getD_eq_getElem?_getD, List.getElem?_map, List.getElem?_eq_getElem hk, hpk]; rfl
    have htk : P.take (k + 1) = P.take k ++ [(y, c)] := by rw [List.take_succ_eq_append_getElem hk, hpk]
    have hkl : (P.take k).length = k := by simp; omega
    show spec_CountGlosses.L1 (P.map (·.1)) (P.map (·.2)) _ L n i a b w = _
    rw [spec_CountGlosses.L1_eq, if_pos (by omega), if_pos (by omega), rd_txt, g1, bytesLess_eq, wrap_in (x := (k : Int) + 1) (by omega) (by omega)]
    by_cases c1 : y.toList < w.toList
    · rw [if_pos (decide_eq_true c1), ih (by simpa [Nat.add_assoc, Nat.add_comm 1] using hlen), htk]
      have hq : putCount w ((y, c) :: t) = (y, c) :: putCount w t := by rw [putCount, if_pos c1]
      rw [hq]
      simp
    · rw [if_neg (by simpa using c1), spec_CountGlosses.J2_eq, if_pos (by omega), if_pos (by omega), rd_txt, g1, spec_CountGlosses.J3_eq]
      by_cases c2 : y.toList = w.toList
      · have hq : putCount w ((y, c) :: t) = (y, c + 1) :: t := by rw [putCount, if_neg c1, if_pos c2]
        rw [if_pos (by simpa using c2), if_pos (by omega), if_pos (by omega), rdI, g2, wrap_in (x := c + 1) (by omega) (by omega), Int.toNat_natCast, hq]
        have hsplit : P = P.take k ++ (y, c) :: t := by rw [← hd, List.take_append_drop]
        have s1 : P.map (·.1) = (P.take k ++ (y, c + 1) :: t).map (·.1) := by
          conv => lhs; rw [hsplit]
          simp
        have s2 : (P.map (·.2)).set k (c + 1) = (P.take k ++ (y, c + 1) :: t).map (·.2) := by
          conv => lhs; rw [hsplit]
          rw [List.map_append, List.map_cons, List.set_append_right _ _ (by simp; omega)]
          have : k - ((P.take k).map (·.2)).length = 0 := by simp; omega
          rw [this]
          simp
        rw [s1, s2]
      · have hq : putCount w ((y, c) :: t) = (w, 1) :: (y, c) :: t := by rw [putCount, if_neg c1, if_neg c2]
        have d1 : (P.map (·.1)).drop k = y :: t.map (·.1) := by rw [← List.map_drop, hd]; simp
        have d2 : (P.map (·.2)).drop k = c :: t.map (·.2) := by rw [← List.map_drop, hd]; simp
        have l1 : ((P.map (·.1)).take k).length = k := by simp; omega
        have l2 : ((P.map (·.2)).take k).length = k := by simp; omega
        rw [if_neg (by simpa using c2)]
        simp only [Option.bind_some, Int.toNat_natCast, d1, d2, List.nil_append, List.length_nil, List.length_cons, List.length_append, List.length_map, l1]
        rw [if_pos (by omega), if_pos (by omega), if_pos (by omega), if_pos (by omega), if_pos (by omega), if_pos (by omega), own_some _ (by omega), Option.bind_some, l2, if_pos (by omega), if_pos (by omega), hq]
        simp [List.map_take]
theorem specCounts (L : List Note) (hl : L.length ≤ 40) : spec_CountGlosses.L0 [] [] L L.length 0 = some (((L.map (·.f2)).foldl (fun o w => putCount w o) []).map (·.1), ((L.map (·.f2)).foldl (fun o w => putCount w o) []).map (·.2), true) := by
  refine each (L := fun i => fun (P : List TC) => spec_CountGlosses.L0 (P.map (·.1)) (P.map (·.2)) L L.length i) L z66 (fun i t f => ∀ P : List TC, P.length ≤ i → (∀ p ∈ P, 0 ≤ p.2 ∧ p.2 ≤ (i : Int)) → f P = some (((t.map (·.f2)).foldl (fun o w => putCount w o) P).map (·.1), ((t.map (·.f2)).foldl (fun o w => putCount w o) P).map (·.2), true)) ?_ ?_ [] (by simp) (by simp)
  · intro P _ _
    show spec_CountGlosses.L0 (P.map (·.1)) (P.map (·.2)) L _ _ = _
    rw [spec_CountGlosses.L0_eq, if_neg (by omega)]
    rfl
  · intro i x t hi hx _ _ ih P hP hb
    show spec_CountGlosses.L0 (P.map (·.1)) (P.map (·.2)) L _ _ = _
    rw [spec_CountGlosses.L0_eq, if_pos (by omega), if_pos (by omega), if_pos (by omega), rd_note, hx, specPutC _ _ _ _ _ _ _ (by omega) (fun p hp => by have := hb p hp; omega), wrap_in (x := (i : Int) + 1) (by omega) (by omega)]
    refine (ih (putCount x.f2 P) (by have := putCount_length x.f2 P; omega) (fun p hp => by have := putCount_bound x.f2 i (by omega) P hb p hp; omega)).trans ?_
    rfl
theorem FnExactCountGlosses : laws_FnExactCountGlosses.Pure := by
  intro l hl
  obtain ⟨hl1, hw⟩ := hl
  refine lim_rounds (?_ : laws_FnExactCountGlosses.F l = some true)
  rw [laws_FnExactCountGlosses.F_eq]
  obtain ⟨t, h1, h2⟩ := szNote_tells l 1048576 hl1 hw (by omega)
  rw [h1, Option.bind_some]
  by_cases h3 : t < 0
  · rw [if_pos h3]
  rw [if_neg h3]
  have hl2 : l.length ≤ 1048576 := by omega
  have hz := sized_convN hl1 hw
  have key : ∃ r s b, spec_CountGlosses.F (l.map convN) = some (r, s, b) ∧ impl_CountGlosses.F (l.map convN) = some (r, s, b) ∧ r.length ≤ 40 ∧ s.length ≤ 40 := by
    generalize l.map convN = L at hz
    rw [spec_CountGlosses.F_eq, impl_CountGlosses.F_eq, tiGood_some _ hz, isTier_some _ hz]
    simp only [Option.bind_some]
    cases hg : isTier L
    · exact ⟨_, _, _, rfl, rfl, by simp, by simp⟩
    have hL := (tier_facts hg).1
    have hu := uniq_length (L.map (·.f2))
    rw [List.length_map] at hu
    rw [if_pos rfl, if_pos rfl, specCounts L hL, implNames L hL, implCounts _ _ (by simpa using hL) (by omega), fold_count0]
    refine ⟨_, _, _, rfl, ?_, by simp; omega, by simp; omega⟩
    simp [Function.comp_def]
  obtain ⟨r, s, b, k1, k2, k3, k4⟩ := key
  obtain ⟨m, m1, m2, m3⟩ := markNote_tells (l.map convN) 1 (by simpa using hl2) (by omega)
  have e1 := eqInt_refl s (by omega)
  have e2 := eqText_refl r (by omega)
  have e3 := markTexts_some r 1 (by omega) (by omega)
  have e4 := markInt_some s (1 + r.length) (by omega) (by omega)
  have e5 := heldTexts_some r.length 1 (by omega) (by omega)
  have e6 := heldInt_some s.length (1 + r.length) (by omega) (by omega)
  have q1 : ¬ m.1 < 0 := by omega
  have q2 : ¬ (1 + (r.length : Int) < 0) := by omega
  have q3 : ¬ (1 + (r.length : Int) + (s.length : Int) < 0) := by omega
  simp only [toNote_some l hl2, Option.bind_some, k1, k2, laws_FnExactCountGlosses.J0_eq, laws_FnExactCountGlosses.J1_eq, laws_FnExactCountGlosses.J2_eq, eqNoteS_refl _ hz.1, m1, e1, e2, e3, e4, e5, e6, if_true, bne_self_eq_false, q1, q2, q3, if_false, Bool.false_eq_true]

end Go.Proofs.Ytnmgcphajacdnaa.Pure
