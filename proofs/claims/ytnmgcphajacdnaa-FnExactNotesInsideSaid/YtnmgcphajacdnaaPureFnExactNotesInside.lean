/- The pure statement of the law FnExactNotesInside: for all arguments within their bounds its Lean function answers true. -/
import Derived.Test.YtnmgcphajacdnaaPFnExactNotesInsidexD0
namespace Go.Proofs.Ytnmgcphajacdnaa.Pure
open Go.RowKit Go.Proofs.Ytnmgcphajacdnaa.PFnExactNotesInside Go.Proofs.YtnmgcphajacdnaaW.PrintWords Go.Proofs.YtnmgcphajacdnaaW.PrintLast
set_option linter.unusedVariables false
set_option linter.unusedSimpArgs false
/-! ### Numbers, loops, letters -/
theorem wrap_in {x : Int} (h0 : -9223372036854775808 ≤ x) (h1 : x ≤ 9223372036854775807) : wrap64 x = x := by
  unfold wrap64; omega
theorem wf_i64 {n : Int} (h : (Lit.int .i64 n).wf = true) : -9223372036854775808 ≤ n ∧ n ≤ 9223372036854775807 := by
  simpa [Lit.wf, IntKind.min, IntKind.max, IntKind.signed, IntKind.bits] using h
/-- A loop over a list, from its end. L: what the loop tells from place i on. -/
theorem each {α γ : Type} (L : Int → γ) (l : List α) (z : α) (R : Nat → List α → γ → Prop) (nil : R l.length [] (L l.length))
    (cons : ∀ (i : Nat) (x : α) (t : List α), i < l.length → l.getD i z = x → l.drop i = x :: t → l.drop (i + 1) = t → R (i + 1) t (L ((i : Int) + 1)) → R i (x :: t) (L i)) : R 0 l (L 0) := by
  have key : ∀ (t : List α) (i : Nat), l.drop i = t → i ≤ l.length → R i t (L i) := by
    intro t
    induction t with
    | nil =>
      intro i h hi
      have : l.length ≤ i := by simpa [List.drop_eq_nil_iff] using h
      obtain rfl : i = l.length := by omega
      exact nil
    | cons x t ih =>
      intro i h hi
      have hlt : i < l.length := by
        rcases Nat.lt_or_ge i l.length with h' | h'
        · exact h'
        · rw [List.drop_eq_nil_of_le h'] at h; cases h
      have h2 := List.drop_eq_getElem_cons hlt
      rw [h] at h2
      injection h2 with h3 h4
      refine cons i x t hlt ?_ h h4.symm ?_
      · rw [List.getD_eq_getElem?_getD, List.getElem?_eq_getElem hlt]; exact h3.symm
      · have := ih (i + 1) h4.symm (by omega)
        rwa [show ((i + 1 : Nat) : Int) = (i : Int) + 1 from by omega] at this
  have := key l 0 rfl (Nat.zero_le _)
  rwa [show ((0 : Nat) : Int) = 0 from rfl] at this
theorem bt_data (s : ByteArray) (i : Nat) (h : i < s.size) : bt s (i : Int) = ((s.data.toList.getD i 0).toNat : Int) := by
  obtain ⟨d⟩ := s
  have h' : i < d.size := h
  have : bt ⟨d⟩ (i : Int) = ((d[i]).toNat : Int) := by
    unfold bt
    rw [dif_pos (show ((i : Int)).toNat < (⟨d⟩ : ByteArray).size from by simpa using h)]
    rfl
  rw [this]
  simp [h']
theorem size_data (s : ByteArray) : s.size = s.data.toList.length := by
  obtain ⟨d⟩ := s; simp [ByteArray.size]
theorem toList_data (s : ByteArray) : s.toList = s.data.toList := by
  rw [ByteArray.toList_eq]
theorem ext_data {s t : ByteArray} (h : s.toList = t.toList) : s = t := by
  rw [toList_data, toList_data] at h
  obtain ⟨⟨a⟩⟩ := s
  obtain ⟨⟨b⟩⟩ := t
  simp at h
  rw [h]
theorem toList_iff {s t : ByteArray} : s.toList = t.toList ↔ s = t := ⟨ext_data, fun h => by rw [h]⟩
theorem mem_drop {α : Type} {l t : List α} {x : α} {i : Nat} (h : l.drop i = x :: t) : x ∈ l := List.mem_of_mem_drop (i := i) (by rw [h]; simp)

/-! ### Words of letters; angles -/
theorem within_some (a b c : Int) : impl_within.f a b c = some (decide (b ≤ a ∧ a ≤ c)) := by
  unfold impl_within.f
  by_cases h : b ≤ a
  · rw [if_pos h]; simp [h]
  · rw [if_neg h]; simp [h]
theorem l1In_some (a b c : Int) : spec_l1In.f a b c = some (decide (b ≤ a ∧ a ≤ c)) := by
  unfold spec_l1In.f
  by_cases h : b ≤ a
  · rw [if_pos h]; simp [h]
  · rw [if_neg h]; simp [h]
/-- All letters between two. -/
def inRange (lo hi : Nat) (l : List UInt8) : Bool := l.all fun c => decide (lo ≤ c.toNat ∧ c.toNat ≤ hi)
/-- One to eight letters between two. -/
def isWord (lo hi : Nat) (s : ByteArray) : Bool := decide (1 ≤ s.size ∧ s.size ≤ 8) && inRange lo hi s.data.toList
theorem dec_size (s : ByteArray) : decide ((1 : Int) ≤ s.size ∧ (s.size : Int) ≤ 8) = decide (1 ≤ s.size ∧ s.size ≤ 8) := by
  by_cases h : 1 ≤ s.size ∧ s.size ≤ 8
  · rw [decide_eq_true h, decide_eq_true (by omega)]
  · rw [decide_eq_false h, decide_eq_false (by omega)]

theorem fsWord_some (s : ByteArray) (hs : s.size ≤ 9223372036854775807) : spec_fsWord.F s = some (isWord 65 90 s) := by
  rw [spec_fsWord.F_eq]
  have := each (L := fun i => spec_fsWord.L0 s i) s.data.toList 0 (fun _ t o => o = some (inRange 65 90 t && decide (1 ≤ s.size ∧ s.size ≤ 8))) ?_ ?_
  · rw [this, isWord, Bool.and_comm]
  · show spec_fsWord.L0 s _ = _
    rw [spec_fsWord.L0_eq, if_neg (by rw [← size_data]; omega), l1In_some]
    simp only [Option.bind_some, inRange, List.all_nil, Bool.true_and, dec_size]
  · intro i x t hi hx _ _ ih
    have hi' : i < s.size := by rw [size_data]; exact hi
    show spec_fsWord.L0 s _ = _
    rw [spec_fsWord.L0_eq, if_pos (by omega), if_pos (by omega), bt_data s i hi', hx, wrap_in (by omega) (by omega)]
    by_cases h1 : x.toNat < 65
    · rw [if_pos (by omega)]; simp [inRange]; omega
    · rw [if_neg (by omega)]
      by_cases h2 : 90 < x.toNat
      · rw [if_pos (by omega)]; simp [inRange]; omega
      · rw [if_neg (by omega), ih]
        have h3 : 65 ≤ x.toNat := by omega
        have h4 : x.toNat ≤ 90 := by omega
        simp [inRange, h3, h4]


/-- What 'letters' says of a list of letters: they are those from lo to hi. -/
def Letters (lo hi : Nat) (m : ByteArray) : Prop := ∀ n, n < 256 → (decide (Lib.indexByte m.data.toList n.toUInt8 < 0)) = !decide (lo ≤ n ∧ n ≤ hi)
instance (lo hi : Nat) (m : ByteArray) : Decidable (Letters lo hi m) := by unfold Letters; infer_instance
theorem hasOnly_some (lo hi : Nat) (s m : ByteArray) (hs : s.size ≤ 9223372036854775807) (hm : Letters lo hi m) : impl_hasOnly.F s m = some (inRange lo hi s.data.toList) := by
  rw [impl_hasOnly.F_eq]
  refine each (L := fun i => impl_hasOnly.L0 s m s.size i) s.data.toList 0 (fun _ t o => o = some (inRange lo hi t)) ?_ ?_
  · show impl_hasOnly.L0 s m _ _ = _
    rw [impl_hasOnly.L0_eq, if_neg (by rw [← size_data]; omega)]; rfl
  · intro i x t hi' hx _ _ ih
    have hi2 : i < s.size := by rw [size_data]; exact hi'
    have hb := hm x.toNat x.toNat_lt
    show impl_hasOnly.L0 s m _ _ = _
    rw [impl_hasOnly.L0_eq, if_pos (by omega), if_pos (by omega), if_pos (by omega), bt_data s i hi2, hx, wrap_in (by omega) (by omega)]
    simp only [strings_IndexByte.f, stringslite_IndexByte.f, Option.bind_some, Int.toNat_natCast]
    by_cases h1 : lo ≤ x.toNat ∧ x.toNat ≤ hi
    · rw [if_neg (by simp [h1] at hb; simpa using hb), ih]
      simp [inRange, h1]
    · rw [if_pos (by simpa [h1] using hb)]
      simp [inRange, h1]
theorem isWordOf_some (lo hi : Nat) (s m : ByteArray) (hs : s.size ≤ 9223372036854775807) (hm : Letters lo hi m) : impl_isWordOf.F s m = some (isWord lo hi s) := by
  rw [impl_isWordOf.F_eq, within_some, hasOnly_some lo hi s m hs hm]
  simp only [Option.bind_some, isWord]
  by_cases h : 1 ≤ s.size ∧ s.size ≤ 8
  · have : (1 : Int) ≤ s.size ∧ (s.size : Int) ≤ 8 := by omega
    simp [h, this]
  · have : ¬ ((1 : Int) ≤ s.size ∧ (s.size : Int) ≤ 8) := by omega
    simp [h, this]

/-! ### Notes and tiers -/
abbrev Note := S66
theorem rd_note (l : List Note) (i : Nat) : rd_T66 l (i : Int) = l.getD i z66 := by simp [rd_T66]
def SizedN (l : List Note) : Prop := l.length ≤ 9223372036854775807 ∧ ∀ x ∈ l, x.f2.size ≤ 9223372036854775807
/-- Is it a note? -/
def isNote (x : Note) : Bool := decide (0 ≤ x.f0 ∧ x.f0 ≤ 99999) && (decide (0 ≤ x.f1 ∧ x.f1 ≤ 99999) && (decide (x.f0 < x.f1) && isWord 65 90 x.f2))
theorem isFrame_some (a : Int) : impl_isFrame.f a = some (decide (0 ≤ a ∧ a ≤ 99999)) := by unfold impl_isFrame.f; rw [within_some]; rfl
theorem tiFrame_some (a : Int) : spec_tiFrame.f a = some (decide (0 ≤ a ∧ a ≤ 99999)) := by unfold spec_tiFrame.f; rw [l1In_some]; rfl
theorem isNote_some (x : Note) (h : x.f2.size ≤ 9223372036854775807) : impl_IsNote.F x.f0 x.f1 x.f2 = some (isNote x) := by
  rw [impl_IsNote.F_eq, isFrame_some, isFrame_some, isWordOf_some 65 90 _ _ h (by decide +kernel)]
  unfold isNote
  cases decide (0 ≤ x.f0 ∧ x.f0 ≤ 99999) <;> cases decide (0 ≤ x.f1 ∧ x.f1 ≤ 99999) <;> by_cases c : x.f0 < x.f1 <;> simp [c]
theorem tiNote_some (x : Note) (h : x.f2.size ≤ 9223372036854775807) : spec_tiNote.F x.f0 x.f1 x.f2 = some (isNote x) := by
  rw [spec_tiNote.F_eq, tiFrame_some, tiFrame_some, fsWord_some _ h]
  unfold isNote
  cases decide (0 ≤ x.f0 ∧ x.f0 ≤ 99999) <;> cases decide (0 ≤ x.f1 ∧ x.f1 ≤ 99999) <;> by_cases c : x.f0 < x.f1 <;> simp [c]
def tierFrom (l : List Note) : Nat → List Note → Bool
  | _, [] => decide (l.length ≤ 40)
  | i, x :: t => (isNote x && decide (i = 0 ∨ (l.getD (i - 1) z66).f1 ≤ x.f0)) && tierFrom l (i + 1) t
def isTier (l : List Note) : Bool := tierFrom l 0 l
theorem isTier_some (l : List Note) (hl : SizedN l) : impl_IsTier.F l = some (isTier l) := by
  have hl1 := hl.1
  rw [impl_IsTier.F_eq]
  refine each (L := fun i => impl_IsTier.L0 l l l.length i) l z66 (fun i t o => o = some (tierFrom l i t)) ?_ ?_
  · show impl_IsTier.L0 l l _ _ = _
    rw [impl_IsTier.L0_eq, if_neg (by omega)]
    simp only [tierFrom, Option.some.injEq, decide_eq_decide]; omega
  · intro i x t hi hx hd _ ih
    have hs := hl.2 x (mem_drop hd)
    show impl_IsTier.L0 l l _ _ = _
    rw [impl_IsTier.L0_eq, if_pos (by omega), if_pos (by omega), if_pos (by omega), rd_note, hx, wrap_in (x := (i : Int) + 1) (by omega) (by omega), isNote_some _ hs, Option.bind_some, tierFrom]
    cases isNote x
    · simp
    rw [if_pos rfl]
    by_cases h0 : i = 0
    · subst h0
      rw [if_neg (by omega)]
      simpa using ih
    · have h1 : (i : Int) - 1 = ((i - 1 : Nat) : Int) := by omega
      rw [if_pos (by omega), wrap_in (by omega) (by omega), h1, if_pos (by omega), if_pos (by omega), rd_note]
      by_cases h2 : (l.getD (i - 1) z66).f1 ≤ x.f0
      · rw [if_neg (by omega), decide_eq_true (p := i = 0 ∨ _) (.inr h2)]; simpa using ih
      · rw [if_pos (by omega), decide_eq_false (p := i = 0 ∨ _) (by omega)]; rfl
theorem tiGood_some (l : List Note) (hl : SizedN l) : spec_tiGood.F l = some (isTier l) := by
  have hl1 := hl.1
  rw [spec_tiGood.F_eq]
  refine each (L := fun i => spec_tiGood.L0 l l l.length i) l z66 (fun i t o => o = some (tierFrom l i t)) ?_ ?_
  · show spec_tiGood.L0 l l _ _ = _
    rw [spec_tiGood.L0_eq, if_neg (by omega)]
    simp only [tierFrom, Option.some.injEq, decide_eq_decide]; omega
  · intro i x t hi hx hd _ ih
    have hs := hl.2 x (mem_drop hd)
    show spec_tiGood.L0 l l _ _ = _
    rw [spec_tiGood.L0_eq, if_pos (by omega), if_pos (by omega), if_pos (by omega), rd_note, hx, wrap_in (x := (i : Int) + 1) (by omega) (by omega), tiNote_some _ hs, Option.bind_some, tierFrom]
    cases isNote x
    · simp
    rw [if_pos rfl]
    by_cases h0 : i = 0
    · subst h0
      rw [if_neg (by omega)]
      simpa using ih
    · have h1 : (i : Int) - 1 = ((i - 1 : Nat) : Int) := by omega
      rw [if_pos (by omega), wrap_in (by omega) (by omega), h1, if_pos (by omega), if_pos (by omega), rd_note]
      by_cases h2 : (l.getD (i - 1) z66).f1 ≤ x.f0
      · rw [if_neg (by omega), decide_eq_true (p := i = 0 ∨ _) (.inr h2)]; simpa using ih
      · rw [if_pos (by omega), decide_eq_false (p := i = 0 ∨ _) (by omega)]; rfl
theorem tier_facts {l : List Note} (h : isTier l = true) : l.length ≤ 40 ∧ ∀ x ∈ l, (0 ≤ x.f0 ∧ x.f0 < x.f1 ∧ x.f1 ≤ 99999) ∧ x.f2.size ≤ 8 := by
  have key : ∀ (t : List Note) (i : Nat), tierFrom l i t = true → l.length ≤ 40 ∧ ∀ x ∈ t, (0 ≤ x.f0 ∧ x.f0 < x.f1 ∧ x.f1 ≤ 99999) ∧ x.f2.size ≤ 8 := by
    intro t
    induction t with
    | nil => intro i h; exact ⟨by simpa [tierFrom] using h, by simp⟩
    | cons y t ih =>
      intro i h
      simp only [tierFrom, isNote, isWord, Bool.and_eq_true, decide_eq_true_eq] at h
      obtain ⟨h1, h2⟩ := ih _ h.2
      refine ⟨h1, fun x hx => ?_⟩
      rcases List.mem_cons.1 hx with rfl | hx
      · have := h.1.1; exact ⟨⟨this.1.1, this.2.2.1, this.2.1.2⟩, this.2.2.2.1.2⟩
      · exact h2 x hx
  exact key l 0 h

abbrev NoteL := S81
theorem rd_noteL (l : List NoteL) (i : Nat) : rd_T81 l (i : Int) = l.getD i z81 := by simp [rd_T81]
def convN (x : NoteL) : Note := ⟨x.f0, x.f1, x.f2⟩
theorem wfNote {x : NoteL} (h : Wf81 x) : x.f2.size ≤ 9223372036854775807 := by
  simp only [Wf81] at h; omega
theorem sized_convN {l : List NoteL} (hl : l.length ≤ 9223372036854775807) (hw : ∀ x ∈ l, Wf81 x) : SizedN (l.map convN) :=
  ⟨by simpa using hl, fun x hx => by
    obtain ⟨y, hy, rfl⟩ := List.mem_map.1 hx
    exact wfNote (hw y hy)⟩
theorem szNote_tells (l : List NoteL) (a : Int) (hl : l.length ≤ 9223372036854775807) (hw : ∀ x ∈ l, Wf81 x) (ha : 0 ≤ a ∧ a ≤ 1048576) : ∃ t, laws_szNoteS.F l a = some t ∧ (t < 0 ∨ (0 ≤ t ∧ t ≤ a ∧ l.length ≤ a)) := by
  rw [laws_szNoteS.F_eq, wrap_in (by omega) (by omega)]
  by_cases h0 : a - (l.length : Int) < 0
  · rw [if_pos h0]; exact ⟨-1, rfl, .inl (by omega)⟩
  · rw [if_neg h0]
    have := each (L := fun i => fun b => laws_szNoteS.L0 l b i) l z81 (fun _ t f => (∀ x ∈ t, x ∈ l) → ∀ b : Int, 0 ≤ b → b ≤ 1048576 → ∃ t, f b = some t ∧ (t < 0 ∨ (0 ≤ t ∧ t ≤ b))) ?_ ?_ (fun _ h => h) (a - l.length) (by omega) (by omega)
    · obtain ⟨t, h1, h2⟩ := this
      exact ⟨t, h1, by omega⟩
    · intro _ b h1 h2
      refine ⟨b, ?_, by omega⟩
      show laws_szNoteS.L0 l b _ = _
      rw [laws_szNoteS.L0_eq, if_neg (by omega)]
    · intro i x t hi hx hd _ ih hm b h1 h2
      have hz : x.f2.size ≤ 9223372036854775807 := wfNote (hw x (hm x (by simp)))
      show ∃ t, laws_szNoteS.L0 l b _ = some t ∧ _
      rw [laws_szNoteS.L0_eq, if_pos (by omega), if_pos (by omega), rd_noteL, hx, wrap_in (x := (i : Int) + 1) (by omega) (by omega)]
      unfold laws_szNote.f
      rw [wrap_in (by omega) (by omega)]
      by_cases h3 : b - (x.f2.size : Int) < 0
      · rw [if_pos h3]; exact ⟨-1, rfl, .inl (by omega)⟩
      · rw [if_neg h3, Option.bind_some, if_neg h3]
        obtain ⟨t, h4, h5⟩ := ih (fun y hy => hm y (by simp [hy])) (b - x.f2.size) (by omega) (by omega)
        exact ⟨t, h4, by omega⟩
theorem take_set {α : Type} (l : List α) (i : Nat) (v : α) (h : i < l.length) : (l.set i v).take (i + 1) = l.take i ++ [v] := by
  rw [List.take_succ_eq_append_getElem (by simpa using h), List.take_set_of_le (Nat.le_refl i)]
  simp
theorem toNote_some (l : List NoteL) (hl : l.length ≤ 1048576) : laws_toNoteS.F l = some (l.map convN) := by
  rw [laws_toNoteS.F_eq, if_pos (by omega), if_pos (by omega)]
  have := each (L := fun i => fun y => laws_toNoteS.L0 l y i) l z81 (fun i t f => ∀ y : List Note, y.length = l.length → f y = some (y.take i ++ t.map convN)) ?_ ?_ (List.replicate ((l.length : Int)).toNat z66) (by simp)
  · show laws_toNoteS.L0 l _ _ = _
    exact this.trans (by simp)
  · intro y hy
    show laws_toNoteS.L0 l y _ = _
    rw [laws_toNoteS.L0_eq, if_neg (by omega)]
    simp [← hy]
  · intro i x t hi hx _ _ ih y hy
    show laws_toNoteS.L0 l y _ = _
    rw [laws_toNoteS.L0_eq, if_pos (by omega), if_pos (by omega), rd_noteL, hx, wrap_in (x := (i : Int) + 1) (by omega) (by omega)]
    unfold laws_toNote.f
    rw [Option.bind_some, if_pos (by omega)]
    refine (ih _ (by simpa using hy)).trans ?_
    rw [Int.toNat_natCast, take_set _ _ _ (by omega)]
    simp [convN]
theorem eqNoteS_refl (l : List Note) (hl : l.length ≤ 9223372036854775807) : laws_eqNoteS.F l l = some true := by
  rw [laws_eqNoteS.F_eq, if_pos rfl]
  refine each (L := fun i => laws_eqNoteS.L0 l l i) l z66 (fun _ _ o => o = some true) ?_ ?_
  · show laws_eqNoteS.L0 l l _ = _
    rw [laws_eqNoteS.L0_eq, if_neg (by omega)]
  · intro i x t hi hx _ _ ih
    show laws_eqNoteS.L0 l l _ = _
    rw [laws_eqNoteS.L0_eq, if_pos (by omega), if_pos (by omega), if_pos (by omega), rd_note, hx, wrap_in (x := (i : Int) + 1) (by omega) (by omega)]
    unfold laws_eqNote.f
    rw [if_pos rfl, if_pos rfl, if_pos rfl, Option.bind_some, if_pos rfl]
    exact ih


/-! ### Marks -/
theorem strOfNums_one (x : Int) : (strOfNums [x]).size = 1 := by simp [strOfNums, ByteArray.size]
theorem markText_total (a : Int) (ha : 0 ≤ a ∧ a ≤ 9223372036854775807) : ∃ s, laws_markText.F a = some s := by
  have key : ∀ (d : Nat) (a : Int) (s : ByteArray), 0 ≤ a → a < 10 ^ d → a ≤ 9223372036854775807 → s.size + d ≤ 1000 → ∃ r, laws_markText.L0 a s = some r := by
    intro d
    induction d with
    | zero =>
      intro a s h0 h1 _ h2
      rw [laws_markText.L0_eq, if_neg (by simp at h1; omega), if_pos (by omega)]
      exact ⟨_, rfl⟩
    | succ d ih =>
      intro a s h0 h1 h3 h2
      rw [laws_markText.L0_eq]
      by_cases h : a > 0
      · rw [if_pos h, Option.bind_some, strOfNums_one, if_pos (by omega), Int.tdiv_eq_ediv_of_nonneg h0, wrap_in (by omega) (by omega)]
        refine ih _ _ (by omega) ?_ (by omega) (by rw [ByteArray.size_append, strOfNums_one]; omega)
        rw [Int.pow_succ] at h1
        omega
      · rw [if_neg h, if_pos (by omega)]
        exact ⟨_, rfl⟩
  rw [laws_markText.F_eq]
  split
  · exact ⟨_, rfl⟩
  · exact key 19 a _ ha.1 (by have := ha.2; omega) ha.2 (by decide +kernel)

theorem markNote_tells (l : List Note) (a : Int) (hl : l.length ≤ 1048576) (ha : 0 ≤ a ∧ a ≤ 4194304) : ∃ r, laws_markNoteS.F l a = some r ∧ 0 ≤ r.1 ∧ r.1 ≤ a + 3 * l.length := by
  rw [laws_markNoteS.F_eq]
  refine each (L := fun i => fun y b => laws_markNoteS.L0 y b i) l z66 (fun i t f => ∀ (y : List Note) (b : Int), y.length = l.length → b = a + 3 * i → ∃ r, f y b = some r ∧ 0 ≤ r.1 ∧ r.1 ≤ a + 3 * l.length) ?_ ?_ l a rfl (by omega)
  · intro y b hy hb
    show ∃ r, laws_markNoteS.L0 y b _ = _ ∧ _
    rw [laws_markNoteS.L0_eq, if_neg (by omega)]
    exact ⟨_, rfl, by show 0 ≤ b; omega, by show b ≤ _; omega⟩
  · intro i x t hi _ _ _ ih y b hy hb
    show ∃ r, laws_markNoteS.L0 y b _ = _ ∧ _
    obtain ⟨s, hs⟩ := markText_total (b + 2) (by omega)
    rw [laws_markNoteS.L0_eq, if_pos (by omega), if_pos (by omega), Option.bind_some, Option.bind_some, wrap_in (x := (i : Int) + 1) (by omega) (by omega), wrap_in (x := b + 1) (by omega) (by omega), wrap_in (x := b + 1 + 1) (by omega) (by omega), show b + 1 + 1 = b + 2 from by omega, hs, Option.bind_some, wrap_in (x := b + 2 + 1) (by omega) (by omega)]
    exact ih _ _ (by simpa using hy) (by omega)


theorem set_take {α : Type} (l : List α) (i : Nat) (v : α) (h : i < l.length) : (l.set i v).take (i + 1) = l.take i ++ [v] := by
  rw [List.take_succ_eq_append_getElem (by simpa using h), List.take_set_of_le (Nat.le_refl i)]
  simp

/-! ### Slices of numbers -/
theorem rd_int (l : List Int) (i : Nat) : rd l (i : Int) = l.getD i 0 := by simp [rd]
/-- The numbers from a on. -/
def nums (a : Int) : Nat → List Int
  | 0 => []
  | n + 1 => a :: nums (a + 1) n
theorem nums_length (a : Int) : ∀ n, (nums a n).length = n
  | 0 => rfl
  | n + 1 => by rw [nums, List.length_cons, nums_length]
theorem eqInt_refl (l : List Int) (hl : l.length ≤ 9223372036854775807) : laws_eqIntS.F l l = some true := by
  rw [laws_eqIntS.F_eq, if_pos rfl]
  refine each (L := fun i => laws_eqIntS.L0 l l i) l 0 (fun _ _ o => o = some true) ?_ ?_
  · show laws_eqIntS.L0 l l _ = _
    rw [laws_eqIntS.L0_eq, if_neg (by omega)]
  · intro i x t hi hx _ _ ih
    show laws_eqIntS.L0 l l _ = _
    rw [laws_eqIntS.L0_eq, if_pos (by omega), if_pos (by omega), if_pos (by omega), if_pos rfl, wrap_in (x := (i : Int) + 1) (by omega) (by omega)]
    exact ih
theorem markInt_some (l : List Int) (a : Int) (hl : l.length ≤ 1048576) (ha : 0 ≤ a ∧ a ≤ 1048576) : laws_markIntS.F l a = some (a + l.length, nums a l.length) := by
  rw [laws_markIntS.F_eq]
  have := each (L := fun i => fun y b => laws_markIntS.L0 y b i) l 0 (fun i t f => ∀ (y : List Int) (b : Int), y.length = l.length → b = a + i → f y b = some (b + t.length, y.take i ++ nums b t.length)) ?_ ?_ l a rfl (by omega)
  · simpa using this
  · intro y b hy hb
    show laws_markIntS.L0 y b _ = _
    rw [laws_markIntS.L0_eq, if_neg (by omega)]
    simp [nums, ← hy]
  · intro i x t hi _ hd _ ih y b hy hb
    have := congrArg List.length hd
    simp only [List.length_drop, List.length_cons] at this
    show laws_markIntS.L0 y b _ = _
    rw [laws_markIntS.L0_eq, if_pos (by omega), if_pos (by omega), wrap_in (x := (i : Int) + 1) (by omega) (by omega), wrap_in (by omega) (by omega), Int.toNat_natCast]
    refine (ih _ _ (by simpa using hy) (by omega)).trans ?_
    rw [set_take _ _ _ (by omega)]
    simp [nums]; omega
theorem heldInt_some (n : Nat) (a : Int) (hn : n ≤ 1048576) (ha : 0 ≤ a ∧ a ≤ 1048576) : laws_heldIntS.F (nums a n) a = some (a + n) := by
  rw [laws_heldIntS.F_eq]
  have hl := nums_length a n
  have := each (L := fun i => fun b => laws_heldIntS.L0 (nums a n) b i) (nums a n) 0 (fun i t f => ∀ (b : Int), b = a + i → t = nums b t.length → f b = some (b + t.length)) ?_ ?_ a (by omega) (by rw [hl])
  · simpa [hl] using this
  · intro b hb _
    show laws_heldIntS.L0 _ b _ = _
    rw [laws_heldIntS.L0_eq, if_neg (by omega)]; simp
  · intro i x t hi hx hd _ ih b hb ht
    rw [List.length_cons, nums] at ht
    injection ht with h1 h2
    show laws_heldIntS.L0 _ b _ = _
    rw [laws_heldIntS.L0_eq, if_pos (by omega), if_pos (by omega), rd_int, hx, if_pos h1, wrap_in (x := (i : Int) + 1) (by omega) (by omega), wrap_in (by omega) (by omega)]
    refine (ih _ (by omega) h2).trans ?_
    rw [List.length_cons]; congr 1; omega

/-! ### Rows of pairs of numbers -/
theorem rd_row (l : List (List Int)) (i : Nat) : rd_L4 l (i : Int) = l.getD i [] := by simp [rd_L4]
theorem eqIntSS_refl (l : List (List Int)) (hl : l.length ≤ 9223372036854775807) (hw : ∀ x ∈ l, x.length = 2) : laws_eqIntSS.F l l = some true := by
  rw [laws_eqIntSS.F_eq, if_pos rfl]
  refine each (L := fun i => laws_eqIntSS.L0 l l i) l [] (fun _ _ o => o = some true) ?_ ?_
  · show laws_eqIntSS.L0 l l _ = _
    rw [laws_eqIntSS.L0_eq, if_neg (by omega)]
  · intro i x t hi hx hd _ ih
    show laws_eqIntSS.L0 l l _ = _
    rw [laws_eqIntSS.L0_eq, if_pos (by omega), if_pos (by omega), if_pos (by omega), rd_row, hx, eqInt_refl x (by have := hw x (mem_drop hd); omega), Option.bind_some, if_pos rfl, wrap_in (x := (i : Int) + 1) (by omega) (by omega)]
    exact ih
def marks (a : Int) : Nat → List (List Int)
  | 0 => []
  | d + 1 => [a, a + 1] :: marks (a + 2) d
theorem marks_length (a : Int) : ∀ d, (marks a d).length = d
  | 0 => rfl
  | d + 1 => by rw [marks, List.length_cons, marks_length]
theorem markRun_some : ∀ (d i : Nat) (ys : List (List Int)) (a : Int), i + d = ys.length → (∀ y ∈ ys, y.length = 2) → laws_markIntSS.run d ys a i = (a + 2 * d, ys.take i ++ marks a d)
  | 0, i, ys, a, hd, _ => by
    rw [laws_markIntSS.run, List.take_of_length_le (by omega), marks, List.append_nil]
    simp
  | d + 1, i, ys, a, hd, h => by
    have hg : (ys.getD i []).length = 2 := by
      rw [List.getD_eq_getElem?_getD, List.getElem?_eq_getElem (show i < ys.length by omega)]
      exact h _ (List.getElem_mem _)
    rw [laws_markIntSS.run, hg, markRun_some d (i + 1) _ _ (by rw [List.length_set]; omega) (fun y hy => by
      rcases List.mem_or_eq_of_mem_set hy with hy | rfl
      · exact h y hy
      · rfl), set_take _ _ _ (by omega), marks, List.append_assoc]
    congr 1
    omega
theorem markIntSS_some (l : List (List Int)) (hl : l.length ≤ 1048576) (h : ∀ y ∈ l, y.length = 2) : laws_markIntSS.f l 1 = some (1 + 2 * (l.length : Int), marks 1 l.length) := by
  unfold laws_markIntSS.f
  rw [if_pos ⟨hl, fun y hy => by have := h y hy; omega, by omega, by omega⟩, markRun_some l.length 0 l 1 (by omega) h]
  rfl
theorem heldIntSS_some (n : Nat) (hn : n ≤ 524287) : laws_heldIntSS.F (marks 1 n) 1 = some (1 + 2 * (n : Int)) := by
  rw [laws_heldIntSS.F_eq]
  have hl := marks_length 1 n
  have := each (L := fun i => fun b => laws_heldIntSS.L0 (marks 1 n) b i) (marks 1 n) [] (fun i t f => ∀ (b : Int), b = 1 + 2 * i → t = marks b t.length → f b = some (b + 2 * t.length)) ?_ ?_ 1 (by omega) (by rw [hl])
  · simpa [hl] using this
  · intro b hb _
    show laws_heldIntSS.L0 _ b _ = _
    rw [laws_heldIntSS.L0_eq, if_neg (by omega)]; simp
  · intro i x t hi hx hd _ ih b hb ht
    rw [List.length_cons, marks] at ht
    injection ht with h1 h2
    have hr : laws_heldIntS.F x b = some (b + 2) := by rw [h1]; exact heldInt_some 2 b (by omega) (by omega)
    show laws_heldIntSS.L0 _ b _ = _
    rw [laws_heldIntSS.L0_eq, if_pos (by omega), if_pos (by omega), rd_row, hx, hr, Option.bind_some, if_neg (by omega), wrap_in (x := (i : Int) + 1) (by omega) (by omega)]
    refine (ih _ (by omega) h2).trans ?_
    rw [List.length_cons]; congr 1; omega
theorem two_snoc {o : List (List Int)} (h : ∀ y ∈ o, y.length = 2) (a b : Int) : ∀ y ∈ o ++ [[a, b]], y.length = 2 := by
  intro z hz
  rcases List.mem_append.1 hz with hz | hz
  · exact h z hz
  · obtain rfl := List.mem_singleton.1 hz
    rfl

theorem inside_row (A B : List Note) (i : Nat) (x : Note) (hB : B.length ≤ 40) (o : List (List Int)) (ho : o.length ≤ 40 * i) (hi : i < 40) (h2 : ∀ y ∈ o, y.length = 2) : ∃ o', spec_NotesInside.L1 B o i A A.length i B B.length 0 x.f0 x.f1 x.f2 = spec_NotesInside.L0 B o' A A.length ((i : Int) + 1) ∧ impl_NotesInside.L1 B o i A A.length i B B.length 0 x.f0 x.f1 x.f2 = impl_NotesInside.L0 B o' A A.length ((i : Int) + 1) ∧ o'.length ≤ 40 * (i + 1) ∧ ∀ y ∈ o', y.length = 2 := by
  refine each (L := fun j => ((fun o => spec_NotesInside.L1 B o i A A.length i B B.length j x.f0 x.f1 x.f2 : List (List Int) → _), (fun o => impl_NotesInside.L1 B o i A A.length i B B.length j x.f0 x.f1 x.f2 : List (List Int) → _))) B z66 (fun j t f => ∀ o : List (List Int), o.length ≤ 40 * i + j → (∀ y ∈ o, y.length = 2) → ∃ o', f.1 o = spec_NotesInside.L0 B o' A A.length ((i : Int) + 1) ∧ f.2 o = impl_NotesInside.L0 B o' A A.length ((i : Int) + 1) ∧ o'.length ≤ 40 * (i + 1) ∧ ∀ y ∈ o', y.length = 2) ?_ ?_ o (by omega) h2
  · intro o ho h2
    show ∃ o', spec_NotesInside.L1 B o _ A _ _ B _ _ _ _ _ = _ ∧ impl_NotesInside.L1 B o _ A _ _ B _ _ _ _ _ = _ ∧ _
    rw [spec_NotesInside.L1_eq, impl_NotesInside.L1_eq, if_neg (by omega), if_neg (by omega), wrap_in (x := (i : Int) + 1) (by omega) (by omega)]
    exact ⟨o, rfl, rfl, by omega, h2⟩
  · intro j y t hj hy hd _ ih o ho h2
    have ih1 := ih o (by omega) h2
    have ih2 := ih (o ++ [[(i : Int), (j : Int)]]) (by simp; omega) (two_snoc h2 _ _)
    show ∃ o', spec_NotesInside.L1 B o _ A _ _ B _ _ _ _ _ = _ ∧ impl_NotesInside.L1 B o _ A _ _ B _ _ _ _ _ = _ ∧ _
    have o1 : o.length < 5864062014805 := by omega
    have j1 : (j : Int) < (B.length : Int) := by omega
    have j2 : (0 : Int) ≤ (j : Int) := by omega
    rw [spec_NotesInside.L1_eq, impl_NotesInside.L1_eq]
    simp only [j1, j2, o1, if_true, rd_note, hy, wrap_in (x := (j : Int) + 1) (by omega) (by omega)]
    by_cases c1 : y.f0 ≤ x.f0
    · have c1' : x.f0 ≥ y.f0 := c1
      by_cases c2 : x.f1 ≤ y.f1
      · simpa only [c1, c1', c2, if_true] using ih2
      · simpa only [c1, c1', c2, if_true, if_false] using ih1
    · have c1' : ¬ x.f0 ≥ y.f0 := c1
      simpa only [c1, c1', if_false] using ih1
theorem inside_same (A B : List Note) (hA : A.length ≤ 40) (hB : B.length ≤ 40) : ∃ r, spec_NotesInside.L0 B [] A A.length 0 = some (r, true) ∧ impl_NotesInside.L0 B [] A A.length 0 = some (r, true) ∧ r.length ≤ 1600 ∧ ∀ y ∈ r, y.length = 2 := by
  refine each (L := fun i => ((fun o => spec_NotesInside.L0 B o A A.length i : List (List Int) → _), (fun o => impl_NotesInside.L0 B o A A.length i : List (List Int) → _))) A z66 (fun i t f => ∀ o : List (List Int), o.length ≤ 40 * i → (∀ y ∈ o, y.length = 2) → ∃ r, f.1 o = some (r, true) ∧ f.2 o = some (r, true) ∧ r.length ≤ 1600 ∧ ∀ y ∈ r, y.length = 2) ?_ ?_ [] (by simp) (by simp)
  · intro o ho h2
    show ∃ r, spec_NotesInside.L0 B o A _ _ = _ ∧ impl_NotesInside.L0 B o A _ _ = _ ∧ _
    rw [spec_NotesInside.L0_eq, impl_NotesInside.L0_eq, if_neg (by omega), if_neg (by omega)]
    exact ⟨o, rfl, rfl, by omega, h2⟩
  · intro i x t hi hx hd _ ih o ho h2
    obtain ⟨o', k1, k2, k3, k4⟩ := inside_row A B i x hB o ho (by omega) h2
    show ∃ r, spec_NotesInside.L0 B o A _ _ = _ ∧ impl_NotesInside.L0 B o A _ _ = _ ∧ _
    rw [spec_NotesInside.L0_eq, impl_NotesInside.L0_eq, if_pos (by omega), if_pos (by omega), if_pos (by omega), if_pos (by omega), if_pos (by omega), if_pos (by omega), rd_note, hx, k1, k2]
    exact ih o' (by omega) k4
theorem FnExactNotesInside : laws_FnExactNotesInside.Pure := by
  intro l0 l1 hl hk
  obtain ⟨hl1, hw⟩ := hl
  obtain ⟨hk1, hkw⟩ := hk
  refine lim_rounds (?_ : laws_FnExactNotesInside.F l0 l1 = some true)
  rw [laws_FnExactNotesInside.F_eq]
  obtain ⟨t, h1, h2⟩ := szNote_tells l0 1048576 hl1 hw (by omega)
  rw [h1, Option.bind_some]
  by_cases h3 : t < 0
  · rw [if_pos h3]
  rw [if_neg h3]
  obtain ⟨s, s1, s2⟩ := szNote_tells l1 t hk1 hkw (by omega)
  rw [s1, Option.bind_some]
  by_cases s3 : s < 0
  · rw [if_pos s3]
  rw [if_neg s3]
  have hl2 : l0.length ≤ 1048576 := by omega
  have hk2 : l1.length ≤ 1048576 := by omega
  have hz := sized_convN hl1 hw
  have hy := sized_convN hk1 hkw
  have key : ∃ r b, spec_NotesInside.F (l0.map convN) (l1.map convN) = some (r, b) ∧ impl_NotesInside.F (l0.map convN) (l1.map convN) = some (r, b) ∧ r.length ≤ 1600 ∧ ∀ y ∈ r, y.length = 2 := by
    generalize l0.map convN = A at hz
    generalize l1.map convN = B at hy
    rw [spec_NotesInside.F_eq, impl_NotesInside.F_eq, spec_meBoth.F_eq, tiGood_some _ hz, isTier_some _ hz, tiGood_some _ hy, isTier_some _ hy]
    simp only [Option.bind_some, impl_NotesInside.J0_eq]
    cases hg : isTier A
    · exact ⟨_, _, rfl, rfl, by simp, by simp⟩
    cases hh : isTier B
    · exact ⟨_, _, rfl, rfl, by simp, by simp⟩
    obtain ⟨r, k1, k2, k3, k4⟩ := inside_same A B (tier_facts hg).1 (tier_facts hh).1
    refine ⟨r, true, ?_, ?_, k3, k4⟩
    · simp only [if_true, Option.bind_some, k1]
    · simp only [if_true, Bool.not_true, Bool.false_eq_true, if_false, k2]
  obtain ⟨r, b, k1, k2, k3, k4⟩ := key
  obtain ⟨m, m1, m2⟩ := markNote_tells (l0.map convN) 1 (by simpa using hl2) (by omega)
  rw [List.length_map] at m2
  obtain ⟨m', m3, m4⟩ := markNote_tells (l1.map convN) m.1 (by simpa using hk2) (by omega)
  have e1 := eqIntSS_refl r (by omega) k4
  have e2 := markIntSS_some r (by omega) k4
  have e3 := heldIntSS_some r.length (by omega)
  have q1 : ¬ m'.1 < 0 := by omega
  have q2 : ¬ (1 + 2 * (r.length : Int) < 0) := by omega
  simp only [toNote_some l0 hl2, toNote_some l1 hk2, Option.bind_some, k1, k2, laws_FnExactNotesInside.J0_eq, laws_FnExactNotesInside.J1_eq, laws_FnExactNotesInside.J2_eq, eqNoteS_refl _ hz.1, eqNoteS_refl _ hy.1, m1, m3, e1, e2, e3, if_true, bne_self_eq_false, q1, q2, if_false, Bool.false_eq_true]

end Go.Proofs.Ytnmgcphajacdnaa.Pure
