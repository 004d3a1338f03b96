/- The pure statement of the law FnExactVerbText: for all arguments within their bounds its Lean function answers true. -/
import Derived.Test.YtbheajjagkdjmaaDoorPFnExactVerbTextxD0
namespace Go.Proofs.YtbheajjagkdjmaaDoor.Pure
open Go.RowKit Go.Proofs.YtbheajjagkdjmaaDoor.PFnExactVerbText Go.Proofs.YtbheajjagkdjmaaDoorW.PrintWords Go.Proofs.YtbheajjagkdjmaaDoorW.PrintLast
set_option linter.unusedVariables false
set_option linter.unusedSimpArgs false
/-! ### Numbers, loops, letters -/
theorem wrap_in {x : Int} (h0 : -9223372036854775808 ≤ x) (h1 : x ≤ 9223372036854775807) : wrap64 x = x := by
  unfold wrap64; omega
theorem wf_i64 {n : Int} (h : (Lit.int .i64 n).wf = true) : -9223372036854775808 ≤ n ∧ n ≤ 9223372036854775807 := by
  simpa [Lit.wf, IntKind.min, IntKind.max, IntKind.signed, IntKind.bits] using h
/-- A loop over a list, from its end. L: what the loop tells from place i on. -/
theorem each {α γ : Type} (L : Int → γ) (l : List α) (z : α) (R : Nat → List α → γ → Prop) (nil : R l.length [] (L l.length))
    (cons : ∀ (i : Nat) (x : α) (t : List α), i < l.length → l.getD i z = x → l.drop i = x :: t → l.drop (i + 1) = t → R (i + 1) t (L ((i : Int) + 1)) → R i (x :: t) (L i)) : R 0 l (L 0) := by
  have key : ∀ (t : List α) (i : Nat), l.drop i = t → i ≤ l.length → R i t (L i) := by
    intro t
    induction t with
    | nil =>
      intro i h hi
      have : l.length ≤ i := by simpa [List.drop_eq_nil_iff] using h
      obtain rfl : i = l.length := by omega
      exact nil
    | cons x t ih =>
      intro i h hi
      have hlt : i < l.length := by
        rcases Nat.lt_or_ge i l.length with h' | h'
        · exact h'
        · rw [List.drop_eq_nil_of_le h'] at h; cases h
      have h2 := List.drop_eq_getElem_cons hlt
      rw [h] at h2
      injection h2 with h3 h4
      refine cons i x t hlt ?_ h h4.symm ?_
      · rw [List.getD_eq_getElem?_getD, List.getElem?_eq_getElem hlt]; exact h3.symm
      · have := ih (i + 1) h4.symm (by omega)
        rwa [show ((i + 1 : Nat) : Int) = (i : Int) + 1 from by omega] at this
  have := key l 0 rfl (Nat.zero_le _)
  rwa [show ((0 : Nat) : Int) = 0 from rfl] at this
theorem bt_data (s : ByteArray) (i : Nat) (h : i < s.size) : bt s (i : Int) = ((s.data.toList.getD i 0).toNat : Int) := by
  obtain ⟨d⟩ := s
  have h' : i < d.size := h
  have : bt ⟨d⟩ (i : Int) = ((d[i]).toNat : Int) := by
    unfold bt
    rw [dif_pos (show ((i : Int)).toNat < (⟨d⟩ : ByteArray).size from by simpa using h)]
    rfl
  rw [this]
  simp [h']
theorem size_data (s : ByteArray) : s.size = s.data.toList.length := by
  obtain ⟨d⟩ := s; simp [ByteArray.size]
theorem toList_data (s : ByteArray) : s.toList = s.data.toList := by
  rw [ByteArray.toList_eq]
theorem ext_data {s t : ByteArray} (h : s.toList = t.toList) : s = t := by
  rw [toList_data, toList_data] at h
  obtain ⟨⟨a⟩⟩ := s
  obtain ⟨⟨b⟩⟩ := t
  simp at h
  rw [h]
theorem toList_iff {s t : ByteArray} : s.toList = t.toList ↔ s = t := ⟨ext_data, fun h => by rw [h]⟩
theorem mem_drop {α : Type} {l t : List α} {x : α} {i : Nat} (h : l.drop i = x :: t) : x ∈ l := List.mem_of_mem_drop (i := i) (by rw [h]; simp)

theorem l1In_some (a b c : Int) : spec_l1In.f a b c = some (decide (b ≤ a ∧ a ≤ c)) := by
  unfold spec_l1In.f
  by_cases h : a ≥ b
  · rw [if_pos h]; congr 1; simp; omega
  · rw [if_neg h]; congr 1; symm; simp; omega

/-! ### Words of letters; angles -/
theorem within_some (a b c : Int) : impl_within.f a b c = some (decide (b ≤ a ∧ a ≤ c)) := by
  unfold impl_within.f
  by_cases h : b ≤ a
  · rw [if_pos h]; simp [h]
  · rw [if_neg h]; simp [h]
/-- All letters between two. -/
def inRange (lo hi : Nat) (l : List UInt8) : Bool := l.all fun c => decide (lo ≤ c.toNat ∧ c.toNat ≤ hi)
/-- One to eight letters between two. -/
def isWord (lo hi : Nat) (s : ByteArray) : Bool := decide (1 ≤ s.size ∧ s.size ≤ 8) && inRange lo hi s.data.toList
theorem dec_size (s : ByteArray) : decide ((1 : Int) ≤ s.size ∧ (s.size : Int) ≤ 8) = decide (1 ≤ s.size ∧ s.size ≤ 8) := by
  by_cases h : 1 ≤ s.size ∧ s.size ≤ 8
  · rw [decide_eq_true h, decide_eq_true (by omega)]
  · rw [decide_eq_false h, decide_eq_false (by omega)]

theorem fsWord_some (s : ByteArray) (hs : s.size ≤ 9223372036854775807) : spec_fsWord.F s = some (isWord 65 90 s) := by
  rw [spec_fsWord.F_eq]
  have := each (L := fun i => spec_fsWord.L0 s i) s.data.toList 0 (fun _ t o => o = some (inRange 65 90 t && decide (1 ≤ s.size ∧ s.size ≤ 8))) ?_ ?_
  · rw [this, isWord, Bool.and_comm]
  · show spec_fsWord.L0 s _ = _
    rw [spec_fsWord.L0_eq, if_neg (by rw [← size_data]; omega), l1In_some]
    simp only [Option.bind_some, inRange, List.all_nil, Bool.true_and, dec_size]
  · intro i x t hi hx _ _ ih
    have hi' : i < s.size := by rw [size_data]; exact hi
    show spec_fsWord.L0 s _ = _
    rw [spec_fsWord.L0_eq, if_pos (by omega), if_pos (by omega), bt_data s i hi', hx, wrap_in (by omega) (by omega)]
    by_cases h1 : x.toNat < 65
    · rw [if_pos (by omega)]; simp [inRange]; omega
    · rw [if_neg (by omega)]
      by_cases h2 : 90 < x.toNat
      · rw [if_pos (by omega)]; simp [inRange]; omega
      · rw [if_neg (by omega), ih]
        have h3 : 65 ≤ x.toNat := by omega
        have h4 : x.toNat ≤ 90 := by omega
        simp [inRange, h3, h4]


/-- What 'letters' says of a list of letters: they are those from lo to hi. -/
def Letters (lo hi : Nat) (m : ByteArray) : Prop := ∀ n, n < 256 → (decide (Lib.indexByte m.data.toList n.toUInt8 < 0)) = !decide (lo ≤ n ∧ n ≤ hi)
instance (lo hi : Nat) (m : ByteArray) : Decidable (Letters lo hi m) := by unfold Letters; infer_instance
theorem hasOnly_some (lo hi : Nat) (s m : ByteArray) (hs : s.size ≤ 9223372036854775807) (hm : Letters lo hi m) : impl_hasOnly.F s m = some (inRange lo hi s.data.toList) := by
  rw [impl_hasOnly.F_eq]
  refine each (L := fun i => impl_hasOnly.L0 s m s.size i) s.data.toList 0 (fun _ t o => o = some (inRange lo hi t)) ?_ ?_
  · show impl_hasOnly.L0 s m _ _ = _
    rw [impl_hasOnly.L0_eq, if_neg (by rw [← size_data]; omega)]; rfl
  · intro i x t hi' hx _ _ ih
    have hi2 : i < s.size := by rw [size_data]; exact hi'
    have hb := hm x.toNat x.toNat_lt
    show impl_hasOnly.L0 s m _ _ = _
    rw [impl_hasOnly.L0_eq, if_pos (by omega), if_pos (by omega), if_pos (by omega), bt_data s i hi2, hx, wrap_in (by omega) (by omega)]
    simp only [strings_IndexByte.f, stringslite_IndexByte.f, Option.bind_some, Int.toNat_natCast]
    by_cases h1 : lo ≤ x.toNat ∧ x.toNat ≤ hi
    · rw [if_neg (by simp [h1] at hb; simpa using hb), ih]
      simp [inRange, h1]
    · rw [if_pos (by simpa [h1] using hb)]
      simp [inRange, h1]
theorem isWordOf_some (lo hi : Nat) (s m : ByteArray) (hs : s.size ≤ 9223372036854775807) (hm : Letters lo hi m) : impl_isWordOf.F s m = some (isWord lo hi s) := by
  rw [impl_isWordOf.F_eq, within_some, hasOnly_some lo hi s m hs hm]
  simp only [Option.bind_some, isWord]
  by_cases h : 1 ≤ s.size ∧ s.size ≤ 8
  · have : (1 : Int) ≤ s.size ∧ (s.size : Int) ≤ 8 := by omega
    simp [h, this]
  · have : ¬ ((1 : Int) ≤ s.size ∧ (s.size : Int) ≤ 8) := by omega
    simp [h, this]

theorem isGloss_some (s : ByteArray) (hs : s.size ≤ 9223372036854775807) : impl_IsGloss.F s = some (isWord 65 90 s) := by
  rw [impl_IsGloss.F_eq, isWordOf_some 65 90 s _ hs (by decide +kernel)]; rfl



theorem isAngle_some (a : Int) : impl_isAngle.f a = some (decide (-90 ≤ a ∧ a ≤ 90)) := by
  unfold impl_isAngle.f; rw [within_some]; rfl
theorem loAngle_some (a : Int) : spec_loAngle.f a = some (decide (-90 ≤ a ∧ a ≤ 90)) := by
  unfold spec_loAngle.f; rw [l1In_some]; rfl

/-- Is it a verb? -/
def isVerb (g : ByteArray) (a b : Int) : Bool := isWord 65 90 g && (decide (-90 ≤ a ∧ a ≤ 90) && (decide (-90 ≤ b ∧ b ≤ 90) && (a != b)))
theorem isVerb_some (g : ByteArray) (a b : Int) (hg : g.size ≤ 9223372036854775807) : impl_IsVerb.F g a b = some (isVerb g a b) := by
  rw [impl_IsVerb.F_eq, isGloss_some g hg, isAngle_some, isAngle_some]
  unfold isVerb
  cases isWord 65 90 g <;> cases decide (-90 ≤ a ∧ a ≤ 90) <;> cases decide (-90 ≤ b ∧ b ≤ 90) <;> simp
theorem veOne_some (g : ByteArray) (a b : Int) (hg : g.size ≤ 9223372036854775807) : spec_veOne.F g a b = some (isVerb g a b) := by
  rw [spec_veOne.F_eq, fsWord_some g hg, loAngle_some, loAngle_some]
  unfold isVerb
  cases isWord 65 90 g <;> cases decide (-90 ≤ a ∧ a ≤ 90) <;> cases decide (-90 ≤ b ∧ b ≤ 90) <;> simp


/-! ### Decimal digits -/
theorem dec_length (n : Nat) : (Lib.decDigits n).length ≤ n + 1 := by
  induction n using Nat.strongRecOn with
  | ind n ih =>
    rw [Lib.decDigits]
    split
    · simp
    · have := ih (n / 10) (by omega)
      rw [List.length_append]
      simp only [List.length_cons, List.length_nil]
      omega

/-! ### Numbers in decimal -/
theorem digit_fin : ∀ n : Fin 10, strOfNums [(wrap64 (48 + (n.val : Int))) % 256] = ⟨#[UInt8.ofNat (48 + n.val)]⟩ := by decide +kernel
theorem digit_some {n : Nat} (h : n < 10) : strOfNums [(wrap64 (48 + (n : Int))) % 256] = ⟨#[UInt8.ofNat (48 + n)]⟩ := digit_fin ⟨n, h⟩
theorem num_some (n : Nat) : n < 4611686018427387904 → spec_l1Num.F (n : Int) = some ⟨(Lib.decDigits n).toArray⟩ := by
  induction n using Nat.strongRecOn with
  | ind n ih =>
    intro hn
    rw [spec_l1Num.F_eq]
    by_cases c : n < 10
    · rw [if_pos (by omega), Lib.decDigits_one c, digit_some c]
    · have t1 : (n : Int).tdiv 10 = ((n / 10 : Nat) : Int) := by rw [Int.tdiv_eq_ediv_of_nonneg (by omega)]; omega
      have t2 : (n : Int).tmod 10 = ((n % 10 : Nat) : Int) := by rw [Int.tmod_eq_emod_of_nonneg (by omega)]; omega
      have hl := dec_length (n / 10)
      rw [if_neg (by omega), t1, wrap_in (by omega) (by omega), ih (n / 10) (by omega) (by omega), Option.bind_some, Option.bind_some, t2, digit_some (by omega)]
      have e : Lib.decDigits n = Lib.decDigits (n / 10) ++ [UInt8.ofNat (48 + n % 10)] := by rw [Lib.decDigits, dif_neg c]
      rw [if_pos (by simp only [ByteArray.size, List.size_toArray, List.length_cons, List.length_nil]; omega), e]
      first
      | rfl
      | (congr 1; done)
      | (congr 1; apply ext_data; rw [toList_data, toList_data]; simp)

/-! ### Small numbers with a sign, as texts -/
def it (n : Int) : ByteArray := ⟨(Lib.itoa n).toArray⟩
theorem it_data (n : Int) : (it n).data.toList = Lib.itoa n := rfl
theorem it_impl {n : Int} (h : -90 ≤ n ∧ n ≤ 90) : strconv_Itoa.f n = some (it n) := by
  unfold strconv_Itoa.f; rw [if_pos (by omega)]; rfl
theorem it_spec {n : Int} (h : -90 ≤ n ∧ n ≤ 90) : spec_l1Int.F n = some (it n) := by
  rw [spec_l1Int.F_eq]
  by_cases c : n < 0
  · obtain ⟨m, rfl⟩ : ∃ m : Nat, n = -(m : Int) := ⟨n.natAbs, by omega⟩
    have hl := dec_length m
    have e : - -(m : Int) = (m : Int) := by omega
    have hd : (⟨(Lib.decDigits m).toArray⟩ : ByteArray).size = (Lib.decDigits m).length := by simp [ByteArray.size]
    rw [if_pos c, e, wrap_in (by omega) (by omega), num_some m (by omega), Option.bind_some, if_pos (by omega)]
    congr 1
    apply ext_data
    rw [toList_data, toList_data, it_data]
    unfold Lib.itoa
    rw [if_pos c]
    simp
  · obtain ⟨m, rfl⟩ := Int.eq_ofNat_of_zero_le (show 0 ≤ n by omega)
    have e : it (m : Int) = ⟨(Lib.decDigits m).toArray⟩ := by
      unfold it Lib.itoa
      rw [if_neg c, Int.toNat_natCast]
    rw [if_neg c, num_some m (by omega), Option.bind_some, e]
theorem it_size {n : Int} (h : -90 ≤ n ∧ n ≤ 90) : (it n).size ≤ 92 := by
  rw [size_data, it_data]
  unfold Lib.itoa
  split
  · have := dec_length n.natAbs
    rw [List.length_cons]; omega
  · have := dec_length n.toNat
    omega

/-! ### Verbs as texts -/
def veTx (g : ByteArray) (a b : Int) : ByteArray := (((g ++ ⟨#[58]⟩) ++ it a) ++ ⟨#[62]⟩) ++ it b
theorem isVerb_facts {g : ByteArray} {a b : Int} (h : isVerb g a b = true) : (isWord 65 90 g = true ∧ g.size ≤ 8) ∧ (-90 ≤ a ∧ a ≤ 90) ∧ (-90 ≤ b ∧ b ≤ 90) := by
  unfold isVerb at h
  simp only [Bool.and_eq_true, decide_eq_true_eq] at h
  refine ⟨⟨h.1, ?_⟩, h.2.1, h.2.2.1⟩
  have := h.1
  simp only [isWord, Bool.and_eq_true, decide_eq_true_eq] at this
  exact this.1.2
theorem ve_texts {g : ByteArray} {a b : Int} (h : isVerb g a b = true) : spec_veText.F g a b = some (veTx g a b) ∧ impl_Verb_text.f g a b = some (veTx g a b) := by
  obtain ⟨⟨_, hg⟩, ha, hb⟩ := isVerb_facts h
  have sa := it_size ha
  have sb := it_size hb
  have n1 : ((⟨#[58]⟩ : ByteArray)).size = 1 := rfl
  have n2 : ((⟨#[62]⟩ : ByteArray)).size = 1 := rfl
  have k1 : g.size + 1 ≤ 9223372036854775807 := by omega
  have k2 : (g ++ (⟨#[58]⟩ : ByteArray)).size + (it a).size ≤ 9223372036854775807 := by simp only [ByteArray.size_append, n1]; omega
  have k3 : ((g ++ (⟨#[58]⟩ : ByteArray)) ++ it a).size + 1 ≤ 9223372036854775807 := by simp only [ByteArray.size_append, n1]; omega
  have k4 : (((g ++ (⟨#[58]⟩ : ByteArray)) ++ it a) ++ (⟨#[62]⟩ : ByteArray)).size + (it b).size ≤ 9223372036854775807 := by simp only [ByteArray.size_append, n1, n2]; omega
  rw [spec_veText.F_eq]
  unfold impl_Verb_text.f
  simp only [k1, k2, k3, k4, if_true, it_spec ha, it_spec hb, it_impl ha, it_impl hb, Option.bind_some, veTx, and_self]

theorem FnExactVerbText : laws_FnExactVerbText.Pure := by
  intro g a b hw
  have hg : g.size ≤ 9223372036854775807 := hw.1
  refine lim_rounds (?_ : laws_FnExactVerbText.F g a b = some true)
  rw [laws_FnExactVerbText.F_eq]
  obtain ⟨z, hz⟩ : ∃ z, laws_szVerb.f g a b 1048576 = some z := by
    unfold laws_szVerb.f
    split <;> exact ⟨_, rfl⟩
  rw [hz, Option.bind_some]
  by_cases h3 : z < 0
  · rw [if_pos h3]
  rw [if_neg h3]
  simp only [laws_toVerb.f, Option.bind_some]
  rw [spec_VerbText.F_eq, impl_VerbText.F_eq, veOne_some g a b hg, isVerb_some g a b hg, Option.bind_some, Option.bind_some]
  cases h : isVerb g a b
  · simp
  · obtain ⟨h1, h2⟩ := ve_texts h
    simp [h1, h2]

end Go.Proofs.YtbheajjagkdjmaaDoor.Pure
