/- The pure statement of the law FnExactParseVerb: for all arguments within their bounds its Lean function answers true. -/
import Derived.Test.YtbheajjagkdjmaaDoorPFnExactParseVerbxD0
namespace Go.Proofs.YtbheajjagkdjmaaDoor.Pure
open Go.RowKit Go.Proofs.YtbheajjagkdjmaaDoor.PFnExactParseVerb Go.Proofs.YtbheajjagkdjmaaDoorW.PrintWords Go.Proofs.YtbheajjagkdjmaaDoorW.PrintLast
set_option linter.unusedVariables false
set_option linter.unusedSimpArgs false
/-! ### Numbers, loops, letters -/
theorem wrap_in {x : Int} (h0 : -9223372036854775808 ≤ x) (h1 : x ≤ 9223372036854775807) : wrap64 x = x := by
  unfold wrap64; omega
theorem wf_i64 {n : Int} (h : (Lit.int .i64 n).wf = true) : -9223372036854775808 ≤ n ∧ n ≤ 9223372036854775807 := by
  simpa [Lit.wf, IntKind.min, IntKind.max, IntKind.signed, IntKind.bits] using h
/-- A loop over a list, from its end. L: what the loop tells from place i on. -/
theorem each {α γ : Type} (L : Int → γ) (l : List α) (z : α) (R : Nat → List α → γ → Prop) (nil : R l.length [] (L l.length))
    (cons : ∀ (i : Nat) (x : α) (t : List α), i < l.length → l.getD i z = x → l.drop i = x :: t → l.drop (i + 1) = t → R (i + 1) t (L ((i : Int) + 1)) → R i (x :: t) (L i)) : R 0 l (L 0) := by
  have key : ∀ (t : List α) (i : Nat), l.drop i = t → i ≤ l.length → R i t (L i) := by
    intro t
    induction t with
    | nil =>
      intro i h hi
      have : l.length ≤ i := by simpa [List.drop_eq_nil_iff] using h
      obtain rfl : i = l.length := by omega
      exact nil
    | cons x t ih =>
      intro i h hi
      have hlt : i < l.length := by
        rcases Nat.lt_or_ge i l.length with h' | h'
        · exact h'
        · rw [List.drop_eq_nil_of_le h'] at h; cases h
      have h2 := List.drop_eq_getElem_cons hlt
      rw [h] at h2
      injection h2 with h3 h4
      refine cons i x t hlt ?_ h h4.symm ?_
      · rw [List.getD_eq_getElem?_getD, List.getElem?_eq_getElem hlt]; exact h3.symm
      · have := ih (i + 1) h4.symm (by omega)
        rwa [show ((i + 1 : Nat) : Int) = (i : Int) + 1 from by omega] at this
  have := key l 0 rfl (Nat.zero_le _)
  rwa [show ((0 : Nat) : Int) = 0 from rfl] at this
theorem bt_data (s : ByteArray) (i : Nat) (h : i < s.size) : bt s (i : Int) = ((s.data.toList.getD i 0).toNat : Int) := by
  obtain ⟨d⟩ := s
  have h' : i < d.size := h
  have : bt ⟨d⟩ (i : Int) = ((d[i]).toNat : Int) := by
    unfold bt
    rw [dif_pos (show ((i : Int)).toNat < (⟨d⟩ : ByteArray).size from by simpa using h)]
    rfl
  rw [this]
  simp [h']
theorem size_data (s : ByteArray) : s.size = s.data.toList.length := by
  obtain ⟨d⟩ := s; simp [ByteArray.size]
theorem toList_data (s : ByteArray) : s.toList = s.data.toList := by
  rw [ByteArray.toList_eq]
theorem ext_data {s t : ByteArray} (h : s.toList = t.toList) : s = t := by
  rw [toList_data, toList_data] at h
  obtain ⟨⟨a⟩⟩ := s
  obtain ⟨⟨b⟩⟩ := t
  simp at h
  rw [h]
theorem toList_iff {s t : ByteArray} : s.toList = t.toList ↔ s = t := ⟨ext_data, fun h => by rw [h]⟩
theorem mem_drop {α : Type} {l t : List α} {x : α} {i : Nat} (h : l.drop i = x :: t) : x ∈ l := List.mem_of_mem_drop (i := i) (by rw [h]; simp)

theorem l1In_some (a b c : Int) : spec_l1In.f a b c = some (decide (b ≤ a ∧ a ≤ c)) := by
  unfold spec_l1In.f
  by_cases h : a ≥ b
  · rw [if_pos h]; congr 1; simp; omega
  · rw [if_neg h]; congr 1; symm; simp; omega

/-! ### Words of letters; angles -/
theorem within_some (a b c : Int) : impl_within.f a b c = some (decide (b ≤ a ∧ a ≤ c)) := by
  unfold impl_within.f
  by_cases h : b ≤ a
  · rw [if_pos h]; simp [h]
  · rw [if_neg h]; simp [h]
/-- All letters between two. -/
def inRange (lo hi : Nat) (l : List UInt8) : Bool := l.all fun c => decide (lo ≤ c.toNat ∧ c.toNat ≤ hi)
/-- One to eight letters between two. -/
def isWord (lo hi : Nat) (s : ByteArray) : Bool := decide (1 ≤ s.size ∧ s.size ≤ 8) && inRange lo hi s.data.toList
theorem dec_size (s : ByteArray) : decide ((1 : Int) ≤ s.size ∧ (s.size : Int) ≤ 8) = decide (1 ≤ s.size ∧ s.size ≤ 8) := by
  by_cases h : 1 ≤ s.size ∧ s.size ≤ 8
  · rw [decide_eq_true h, decide_eq_true (by omega)]
  · rw [decide_eq_false h, decide_eq_false (by omega)]

theorem fsWord_some (s : ByteArray) (hs : s.size ≤ 9223372036854775807) : spec_fsWord.F s = some (isWord 65 90 s) := by
  rw [spec_fsWord.F_eq]
  have := each (L := fun i => spec_fsWord.L0 s i) s.data.toList 0 (fun _ t o => o = some (inRange 65 90 t && decide (1 ≤ s.size ∧ s.size ≤ 8))) ?_ ?_
  · rw [this, isWord, Bool.and_comm]
  · show spec_fsWord.L0 s _ = _
    rw [spec_fsWord.L0_eq, if_neg (by rw [← size_data]; omega), l1In_some]
    simp only [Option.bind_some, inRange, List.all_nil, Bool.true_and, dec_size]
  · intro i x t hi hx _ _ ih
    have hi' : i < s.size := by rw [size_data]; exact hi
    show spec_fsWord.L0 s _ = _
    rw [spec_fsWord.L0_eq, if_pos (by omega), if_pos (by omega), bt_data s i hi', hx, wrap_in (by omega) (by omega)]
    by_cases h1 : x.toNat < 65
    · rw [if_pos (by omega)]; simp [inRange]; omega
    · rw [if_neg (by omega)]
      by_cases h2 : 90 < x.toNat
      · rw [if_pos (by omega)]; simp [inRange]; omega
      · rw [if_neg (by omega), ih]
        have h3 : 65 ≤ x.toNat := by omega
        have h4 : x.toNat ≤ 90 := by omega
        simp [inRange, h3, h4]


/-- What 'letters' says of a list of letters: they are those from lo to hi. -/
def Letters (lo hi : Nat) (m : ByteArray) : Prop := ∀ n, n < 256 → (decide (Lib.indexByte m.data.toList n.toUInt8 < 0)) = !decide (lo ≤ n ∧ n ≤ hi)
instance (lo hi : Nat) (m : ByteArray) : Decidable (Letters lo hi m) := by unfold Letters; infer_instance
theorem hasOnly_some (lo hi : Nat) (s m : ByteArray) (hs : s.size ≤ 9223372036854775807) (hm : Letters lo hi m) : impl_hasOnly.F s m = some (inRange lo hi s.data.toList) := by
  rw [impl_hasOnly.F_eq]
  refine each (L := fun i => impl_hasOnly.L0 s m s.size i) s.data.toList 0 (fun _ t o => o = some (inRange lo hi t)) ?_ ?_
  · show impl_hasOnly.L0 s m _ _ = _
    rw [impl_hasOnly.L0_eq, if_neg (by rw [← size_data]; omega)]; rfl
  · intro i x t hi' hx _ _ ih
    have hi2 : i < s.size := by rw [size_data]; exact hi'
    have hb := hm x.toNat x.toNat_lt
    show impl_hasOnly.L0 s m _ _ = _
    rw [impl_hasOnly.L0_eq, if_pos (by omega), if_pos (by omega), if_pos (by omega), bt_data s i hi2, hx, wrap_in (by omega) (by omega)]
    simp only [strings_IndexByte.f, stringslite_IndexByte.f, Option.bind_some, Int.toNat_natCast]
    by_cases h1 : lo ≤ x.toNat ∧ x.toNat ≤ hi
    · rw [if_neg (by simp [h1] at hb; simpa using hb), ih]
      simp [inRange, h1]
    · rw [if_pos (by simpa [h1] using hb)]
      simp [inRange, h1]
theorem isWordOf_some (lo hi : Nat) (s m : ByteArray) (hs : s.size ≤ 9223372036854775807) (hm : Letters lo hi m) : impl_isWordOf.F s m = some (isWord lo hi s) := by
  rw [impl_isWordOf.F_eq, within_some, hasOnly_some lo hi s m hs hm]
  simp only [Option.bind_some, isWord]
  by_cases h : 1 ≤ s.size ∧ s.size ≤ 8
  · have : (1 : Int) ≤ s.size ∧ (s.size : Int) ≤ 8 := by omega
    simp [h, this]
  · have : ¬ ((1 : Int) ≤ s.size ∧ (s.size : Int) ≤ 8) := by omega
    simp [h, this]

theorem isGloss_some (s : ByteArray) (hs : s.size ≤ 9223372036854775807) : impl_IsGloss.F s = some (isWord 65 90 s) := by
  rw [impl_IsGloss.F_eq, isWordOf_some 65 90 s _ hs (by decide +kernel)]; rfl



theorem isAngle_some (a : Int) : impl_isAngle.f a = some (decide (-90 ≤ a ∧ a ≤ 90)) := by
  unfold impl_isAngle.f; rw [within_some]; rfl
theorem loAngle_some (a : Int) : spec_loAngle.f a = some (decide (-90 ≤ a ∧ a ≤ 90)) := by
  unfold spec_loAngle.f; rw [l1In_some]; rfl

/-- Is it a verb? -/
def isVerb (g : ByteArray) (a b : Int) : Bool := isWord 65 90 g && (decide (-90 ≤ a ∧ a ≤ 90) && (decide (-90 ≤ b ∧ b ≤ 90) && (a != b)))
theorem isVerb_some (g : ByteArray) (a b : Int) (hg : g.size ≤ 9223372036854775807) : impl_IsVerb.F g a b = some (isVerb g a b) := by
  rw [impl_IsVerb.F_eq, isGloss_some g hg, isAngle_some, isAngle_some]
  unfold isVerb
  cases isWord 65 90 g <;> cases decide (-90 ≤ a ∧ a ≤ 90) <;> cases decide (-90 ≤ b ∧ b ≤ 90) <;> simp
theorem veOne_some (g : ByteArray) (a b : Int) (hg : g.size ≤ 9223372036854775807) : spec_veOne.F g a b = some (isVerb g a b) := by
  rw [spec_veOne.F_eq, fsWord_some g hg, loAngle_some, loAngle_some]
  unfold isVerb
  cases isWord 65 90 g <;> cases decide (-90 ≤ a ∧ a ≤ 90) <;> cases decide (-90 ≤ b ∧ b ≤ 90) <;> simp


/-! ### Decimal digits -/
theorem dec_length (n : Nat) : (Lib.decDigits n).length ≤ n + 1 := by
  induction n using Nat.strongRecOn with
  | ind n ih =>
    rw [Lib.decDigits]
    split
    · simp
    · have := ih (n / 10) (by omega)
      rw [List.length_append]
      simp only [List.length_cons, List.length_nil]
      omega

/-! ### Numbers in decimal -/
theorem digit_fin : ∀ n : Fin 10, strOfNums [(wrap64 (48 + (n.val : Int))) % 256] = ⟨#[UInt8.ofNat (48 + n.val)]⟩ := by decide +kernel
theorem digit_some {n : Nat} (h : n < 10) : strOfNums [(wrap64 (48 + (n : Int))) % 256] = ⟨#[UInt8.ofNat (48 + n)]⟩ := digit_fin ⟨n, h⟩
theorem num_some (n : Nat) : n < 4611686018427387904 → spec_l1Num.F (n : Int) = some ⟨(Lib.decDigits n).toArray⟩ := by
  induction n using Nat.strongRecOn with
  | ind n ih =>
    intro hn
    rw [spec_l1Num.F_eq]
    by_cases c : n < 10
    · rw [if_pos (by omega), Lib.decDigits_one c, digit_some c]
    · have t1 : (n : Int).tdiv 10 = ((n / 10 : Nat) : Int) := by rw [Int.tdiv_eq_ediv_of_nonneg (by omega)]; omega
      have t2 : (n : Int).tmod 10 = ((n % 10 : Nat) : Int) := by rw [Int.tmod_eq_emod_of_nonneg (by omega)]; omega
      have hl := dec_length (n / 10)
      rw [if_neg (by omega), t1, wrap_in (by omega) (by omega), ih (n / 10) (by omega) (by omega), Option.bind_some, Option.bind_some, t2, digit_some (by omega)]
      have e : Lib.decDigits n = Lib.decDigits (n / 10) ++ [UInt8.ofNat (48 + n % 10)] := by rw [Lib.decDigits, dif_neg c]
      rw [if_pos (by simp only [ByteArray.size, List.size_toArray, List.length_cons, List.length_nil]; omega), e]
      first
      | rfl
      | (congr 1; done)
      | (congr 1; apply ext_data; rw [toList_data, toList_data]; simp)

/-! ### Small numbers with a sign, as texts -/
def it (n : Int) : ByteArray := ⟨(Lib.itoa n).toArray⟩
theorem it_data (n : Int) : (it n).data.toList = Lib.itoa n := rfl
theorem it_impl {n : Int} (h : -90 ≤ n ∧ n ≤ 90) : strconv_Itoa.f n = some (it n) := by
  unfold strconv_Itoa.f; rw [if_pos (by omega)]; rfl
theorem it_spec {n : Int} (h : -90 ≤ n ∧ n ≤ 90) : spec_l1Int.F n = some (it n) := by
  rw [spec_l1Int.F_eq]
  by_cases c : n < 0
  · obtain ⟨m, rfl⟩ : ∃ m : Nat, n = -(m : Int) := ⟨n.natAbs, by omega⟩
    have hl := dec_length m
    have e : - -(m : Int) = (m : Int) := by omega
    have hd : (⟨(Lib.decDigits m).toArray⟩ : ByteArray).size = (Lib.decDigits m).length := by simp [ByteArray.size]
    rw [if_pos c, e, wrap_in (by omega) (by omega), num_some m (by omega), Option.bind_some, if_pos (by omega)]
    congr 1
    apply ext_data
    rw [toList_data, toList_data, it_data]
    unfold Lib.itoa
    rw [if_pos c]
    simp
  · obtain ⟨m, rfl⟩ := Int.eq_ofNat_of_zero_le (show 0 ≤ n by omega)
    have e : it (m : Int) = ⟨(Lib.decDigits m).toArray⟩ := by
      unfold it Lib.itoa
      rw [if_neg c, Int.toNat_natCast]
    rw [if_neg c, num_some m (by omega), Option.bind_some, e]
theorem it_size {n : Int} (h : -90 ≤ n ∧ n ≤ 90) : (it n).size ≤ 92 := by
  rw [size_data, it_data]
  unfold Lib.itoa
  split
  · have := dec_length n.natAbs
    rw [List.length_cons]; omega
  · have := dec_length n.toNat
    omega

/-! ### Verbs as texts -/
def veTx (g : ByteArray) (a b : Int) : ByteArray := (((g ++ ⟨#[58]⟩) ++ it a) ++ ⟨#[62]⟩) ++ it b
theorem isVerb_facts {g : ByteArray} {a b : Int} (h : isVerb g a b = true) : (isWord 65 90 g = true ∧ g.size ≤ 8) ∧ (-90 ≤ a ∧ a ≤ 90) ∧ (-90 ≤ b ∧ b ≤ 90) := by
  unfold isVerb at h
  simp only [Bool.and_eq_true, decide_eq_true_eq] at h
  refine ⟨⟨h.1, ?_⟩, h.2.1, h.2.2.1⟩
  have := h.1
  simp only [isWord, Bool.and_eq_true, decide_eq_true_eq] at this
  exact this.1.2
theorem ve_texts {g : ByteArray} {a b : Int} (h : isVerb g a b = true) : spec_veText.F g a b = some (veTx g a b) ∧ impl_Verb_text.f g a b = some (veTx g a b) := by
  obtain ⟨⟨_, hg⟩, ha, hb⟩ := isVerb_facts h
  have sa := it_size ha
  have sb := it_size hb
  have n1 : ((⟨#[58]⟩ : ByteArray)).size = 1 := rfl
  have n2 : ((⟨#[62]⟩ : ByteArray)).size = 1 := rfl
  have k1 : g.size + 1 ≤ 9223372036854775807 := by omega
  have k2 : (g ++ (⟨#[58]⟩ : ByteArray)).size + (it a).size ≤ 9223372036854775807 := by simp only [ByteArray.size_append, n1]; omega
  have k3 : ((g ++ (⟨#[58]⟩ : ByteArray)) ++ it a).size + 1 ≤ 9223372036854775807 := by simp only [ByteArray.size_append, n1]; omega
  have k4 : (((g ++ (⟨#[58]⟩ : ByteArray)) ++ it a) ++ (⟨#[62]⟩ : ByteArray)).size + (it b).size ≤ 9223372036854775807 := by simp only [ByteArray.size_append, n1, n2]; omega
  rw [spec_veText.F_eq]
  unfold impl_Verb_text.f
  simp only [k1, k2, k3, k4, if_true, it_spec ha, it_spec hb, it_impl ha, it_impl hb, Option.bind_some, veTx, and_self]




/-! ### Texts cut and read -/
theorem cut_data (s : ByteArray) (a b : Nat) : (s.extract a b).data.toList = (s.data.toList.drop a).take (b - a) := by
  simp [List.take_drop]
def mkB (l : List UInt8) : ByteArray := ⟨l.toArray⟩
theorem mkB_data (s : ByteArray) : mkB s.data.toList = s := by
  obtain ⟨⟨l⟩⟩ := s; rfl
theorem data_mkB (l : List UInt8) : (mkB l).data.toList = l := rfl
theorem mkB_size (l : List UInt8) : (mkB l).size = l.length := by simp [mkB, ByteArray.size]
theorem data_inj {s t : ByteArray} (h : s.data.toList = t.data.toList) : s = t := by
  rw [← mkB_data s, ← mkB_data t, h]
theorem mkB_inj {l m : List UInt8} (h : mkB l = mkB m) : l = m := by
  rw [← data_mkB l, h, data_mkB]
theorem cut_mkB (s : ByteArray) (a b : Nat) : s.extract a b = mkB ((s.data.toList.drop a).take (b - a)) := data_inj (by rw [cut_data, data_mkB])
/-- The parts between a byte. -/
def splitFrom (b : UInt8) (cur : List UInt8) : List UInt8 → List (List UInt8)
  | [] => [cur]
  | c :: t => if c = b then cur :: splitFrom b [] t else splitFrom b (cur ++ [c]) t
theorem split_cons (b : UInt8) (cur : List UInt8) (c : UInt8) (t : List UInt8) : splitFrom b cur (c :: t) = if c = b then cur :: splitFrom b [] t else splitFrom b (cur ++ [c]) t := rfl
theorem split_none (b : UInt8) : ∀ (xs cur : List UInt8), b ∉ xs → splitFrom b cur xs = [cur ++ xs]
  | [], cur, _ => by simp [splitFrom]
  | c :: t, cur, h => by
    simp only [List.mem_cons, not_or] at h
    rw [split_cons, if_neg (fun e => h.1 e.symm), split_none b t _ h.2]; simp
theorem split_app (b : UInt8) : ∀ (p cur t : List UInt8), b ∉ p → splitFrom b cur (p ++ b :: t) = (cur ++ p) :: splitFrom b [] t
  | [], cur, t, _ => by rw [List.nil_append, split_cons, if_pos rfl, List.append_nil]
  | c :: p, cur, t, h => by
    simp only [List.mem_cons, not_or] at h
    rw [List.cons_append, split_cons, if_neg (fun e => h.1 e.symm), split_app b p _ t h.2]; simp
theorem split_ne (b : UInt8) : ∀ (xs cur : List UInt8), splitFrom b cur xs ≠ []
  | [], cur => by simp [splitFrom]
  | c :: t, cur => by
    rw [split_cons]
    split
    · simp
    · exact split_ne b t _
theorem split_one (b : UInt8) : ∀ (xs cur p : List UInt8), splitFrom b cur xs = [p] → p = cur ++ xs ∧ b ∉ xs
  | [], cur, p, h => by
    simp only [splitFrom, List.cons.injEq, and_true] at h
    simp [h]
  | c :: t, cur, p, h => by
    rw [split_cons] at h
    split at h
    · simp only [List.cons.injEq] at h
      exact absurd h.2 (split_ne b t [])
    · rename_i hc
      obtain ⟨h1, h2⟩ := split_one b t _ p h
      refine ⟨by rw [h1]; simp, ?_⟩
      simp only [List.mem_cons, not_or]
      exact ⟨fun e => hc e.symm, h2⟩
theorem split_more (b : UInt8) : ∀ (xs cur p : List UInt8) (ps : List (List UInt8)), splitFrom b cur xs = p :: ps → ps ≠ [] → ∃ r t, p = cur ++ r ∧ b ∉ r ∧ xs = r ++ b :: t ∧ splitFrom b [] t = ps
  | [], cur, p, ps, h, hp => by
    simp only [splitFrom, List.cons.injEq] at h
    exact absurd h.2.symm hp
  | c :: t, cur, p, ps, h, hp => by
    rw [split_cons] at h
    split at h
    · rename_i hc
      simp only [List.cons.injEq] at h
      exact ⟨[], t, by simp [h.1], by simp, by simp [hc], h.2⟩
    · rename_i hc
      obtain ⟨r, u, h1, h2, h3, h4⟩ := split_more b t _ p ps h hp
      refine ⟨c :: r, u, by rw [h1]; simp, ?_, by rw [h3]; rfl, h4⟩
      simp only [List.mem_cons, not_or]
      exact ⟨fun e => hc e.symm, h2⟩
theorem split_count (b : UInt8) : ∀ (xs cur : List UInt8), (splitFrom b cur xs).length ≤ xs.length + 1
  | [], cur => by simp [splitFrom]
  | c :: t, cur => by
    rw [split_cons]
    split
    · have := split_count b t []
      simp only [List.length_cons]; omega
    · have := split_count b t (cur ++ [c])
      simp only [List.length_cons]; omega
theorem split_some (s : ByteArray) (b : UInt8) (hs : s.size ≤ 1048576) : spec_l1Split.F s (b.toNat : Int) = some ((splitFrom b [] s.data.toList).map mkB) := by
  rw [spec_l1Split.F_eq]
  have hn := size_data s
  have key : ∀ (t : List UInt8) (i fr : Nat) (acc : List ByteArray), s.data.toList.drop i = t → fr ≤ i → i ≤ s.size → acc.length ≤ i → spec_l1Split.L0 s (b.toNat : Int) acc (fr : Int) (i : Int) = some (acc ++ (splitFrom b ((s.data.toList.drop fr).take (i - fr)) t).map mkB) := by
    intro t
    induction t with
    | nil =>
      intro i fr acc hd hf hi ha
      have : s.data.toList.length ≤ i := by simpa [List.drop_eq_nil_iff] using hd
      obtain rfl : i = s.size := by omega
      rw [spec_l1Split.L0_eq, if_neg (by omega), if_pos (by omega), if_pos (by omega), if_pos (by omega), Int.toNat_natCast, cut_mkB]
      rfl
    | cons c t ih =>
      intro i fr acc hd hf hi ha
      have hlt : i < s.data.toList.length := by
        rcases Nat.lt_or_ge i s.data.toList.length with h' | h'
        · exact h'
        · rw [List.drop_eq_nil_of_le h'] at hd; cases hd
      have h2 := List.drop_eq_getElem_cons hlt
      rw [hd] at h2
      injection h2 with h3 h4
      have hb : bt s (i : Int) = (c.toNat : Int) := by
        rw [bt_data s i (by omega), List.getD_eq_getElem?_getD, List.getElem?_eq_getElem hlt, ← h3]
        rfl
      rw [spec_l1Split.L0_eq, if_pos (by omega), if_pos (by omega), hb, wrap_in (x := (i : Int) + 1) (by omega) (by omega), split_cons]
      have hi1 : ((i : Int) + 1) = ((i + 1 : Nat) : Int) := by omega
      by_cases hc : c = b
      · subst hc
        rw [if_pos rfl, if_pos (by omega), if_pos (by omega), if_pos (by omega), if_pos (by omega), if_pos rfl, hi1, ih (i + 1) (i + 1) _ h4.symm (by omega) (by omega) (by simp; omega), Int.toNat_natCast, Int.toNat_natCast, cut_mkB]
        simp
      · have hne : ¬ ((c.toNat : Int) = (b.toNat : Int)) := fun e => hc (UInt8.toNat_inj.1 (by omega))
        rw [if_neg hne, if_neg hc, hi1, ih (i + 1) fr acc h4.symm (by omega) (by omega) (by omega)]
        congr 4
        rw [show i + 1 - fr = (i - fr) + 1 from by omega, List.take_add_one]
        congr 1
        rw [List.getElem?_drop, show fr + (i - fr) = i from by omega, List.getElem?_eq_getElem hlt, ← h3]
        rfl
  have := key s.data.toList 0 0 [] rfl (by omega) (by omega) (by simp)
  simpa using this
/-! ### Numbers read -/
def dig (c : UInt8) : Bool := decide (48 ≤ c.toNat ∧ c.toNat ≤ 57)
def valF (n : Nat) (l : List UInt8) : Nat := l.foldl (fun n c => 10 * n + (c.toNat - 48)) n
/-- A canonical decimal number of at most six digits, or -1. -/
def readV (l : List UInt8) : Int := if (1 ≤ l.length ∧ l.length ≤ 6) ∧ l.all dig = true ∧ (l.length > 1 → l.head? ≠ some 48) then (valF 0 l : Int) else -1
theorem read_loop (s : ByteArray) (hs : s.size ≤ 6) : spec_l1Read.L0 s 0 0 = some (if s.data.toList.all dig = true then (valF 0 s.data.toList : Int) else -1) := by
  have hn := size_data s
  refine each (L := fun i => fun n => spec_l1Read.L0 s n i) s.data.toList 0 (fun i t f => ∀ n : Nat, n < 10 ^ i → i + t.length ≤ 6 → f (n : Int) = some (if t.all dig = true then (valF n t : Int) else -1)) ?_ ?_ 0 (by decide) (by omega)
  · intro n h1 h2
    show spec_l1Read.L0 s _ _ = _
    rw [spec_l1Read.L0_eq, if_neg (by omega)]; rfl
  · intro i c t hi hc _ _ ih n h1 h2
    show spec_l1Read.L0 s _ _ = _
    have hb : bt s (i : Int) = (c.toNat : Int) := by rw [bt_data s i (by omega), hc]
    have h10 : (10 : Nat) ^ i ≤ 10 ^ 6 := Nat.pow_le_pow_right (by omega) (by omega)
    simp only [List.length_cons] at h2
    rw [spec_l1Read.L0_eq, if_pos (by omega), if_pos (by omega), hb]
    by_cases c1 : (c.toNat : Int) < 48
    · have : dig c = false := by unfold dig; simp; omega
      rw [if_pos c1]; simp [this]
    rw [if_neg c1]
    by_cases c2 : (c.toNat : Int) > 57
    · have : dig c = false := by unfold dig; simp; omega
      rw [if_pos c2]; simp [this]
    have hd : dig c = true := by unfold dig; simp; omega
    rw [if_neg c2, wrap_in (x := 10 * (n : Int)) (by omega) (by omega), wrap_in (x := (i : Int) + 1) (by omega) (by omega)]
    have e : (10 * (n : Int) + ((c.toNat : Int) - 48) % 256) = ((10 * n + (c.toNat - 48) : Nat) : Int) := by omega
    rw [wrap_in (by omega) (by omega), e]
    refine (ih (10 * n + (c.toNat - 48)) (by rw [Nat.pow_succ]; omega) (by omega)).trans ?_
    simp [hd, valF]
theorem read_some (s : ByteArray) (hs : s.size ≤ 1048576) : spec_l1Read.F s = some (readV s.data.toList) := by
  have hn := size_data s
  rw [spec_l1Read.F_eq, l1In_some, Option.bind_some]
  unfold readV
  rw [← hn]
  by_cases h : 1 ≤ s.size ∧ s.size ≤ 6
  case neg =>
    rw [if_neg (by simp; omega), spec_l1Read.J0_eq, if_pos rfl, if_neg (fun q => h q.1)]
  rw [if_pos (by simp; omega), if_pos (by omega)]
  have hh : bt s 0 = ((s.data.toList.getD 0 0).toNat : Int) := bt_data s 0 (by omega)
  have hd : s.data.toList.head? = some (s.data.toList.getD 0 0) := by
    cases he : s.data.toList with
    | nil => rw [he] at hn; have : s.size = 0 := hn; omega
    | cons x t => rfl
  have hz : (bt s 0 = 48) ↔ s.data.toList.head? = some 48 := by
    rw [hh, hd]
    constructor
    · intro q
      congr 1
      exact UInt8.toNat_inj.1 (by rw [show (48 : UInt8).toNat = 48 from rfl]; omega)
    · intro q
      rw [Option.some.inj q]; rfl
  have hl := read_loop s h.2
  by_cases c : bt s 0 = 48
  · rw [if_pos c]
    by_cases c2 : (s.size : Int) > 1
    · rw [decide_eq_true c2, spec_l1Read.J0_eq, if_pos rfl, if_neg]
      rintro ⟨_, _, q⟩
      exact q (by omega) (hz.1 c)
    · rw [decide_eq_false c2, spec_l1Read.J0_eq, if_neg (by simp), hl]
      congr 1
      by_cases a : s.data.toList.all dig = true
      · rw [if_pos a, if_pos ⟨h, a, fun q => absurd q (by omega)⟩]
      · rw [if_neg a, if_neg (fun q => a q.2.1)]
  · rw [if_neg c, spec_l1Read.J0_eq, if_neg (by simp), hl]
    congr 1
    by_cases a : s.data.toList.all dig = true
    · rw [if_pos a, if_pos ⟨h, a, fun _ q => c (hz.2 q)⟩]
    · rw [if_neg a, if_neg (fun q => a q.2.1)]
theorem head_app {l m : List UInt8} (h : l ≠ []) : (l ++ m).head? = l.head? := by
  cases l with
  | nil => exact absurd rfl h
  | cons a l => rfl
theorem val_snoc (l : List UInt8) (c : UInt8) (n : Nat) : valF n (l ++ [c]) = 10 * valF n l + (c.toNat - 48) := by
  simp [valF]
theorem dig_back {c : UInt8} (h : dig c = true) : UInt8.ofNat (48 + (c.toNat - 48)) = c := by
  unfold dig at h
  simp only [decide_eq_true_eq] at h
  rw [show 48 + (c.toNat - 48) = c.toNat from by omega]
  simp
/-- What is read canonically is the number's text. -/
theorem val_back (l : List UInt8) : l ≠ [] → l.all dig = true → (l.length > 1 → l.head? ≠ some 48) → Lib.decDigits (valF 0 l) = l ∧ (l.head? ≠ some 48 → 1 ≤ valF 0 l) := by
  have key : ∀ (n : Nat) (l : List UInt8), l.length = n → l ≠ [] → l.all dig = true → (l.length > 1 → l.head? ≠ some 48) → Lib.decDigits (valF 0 l) = l ∧ (l.head? ≠ some 48 → 1 ≤ valF 0 l) := by
    intro n
    induction n with
    | zero => intro l hn hl; exact absurd (List.eq_nil_of_length_eq_zero hn) hl
    | succ n ih =>
      intro l hn hl ha hh
      obtain ⟨m, c, rfl⟩ : ∃ m c, l = m ++ [c] := ⟨l.dropLast, l.getLast hl, (List.dropLast_concat_getLast hl).symm⟩
      simp only [List.length_append, List.length_cons, List.length_nil] at hn
      simp only [List.all_append, List.all_cons, List.all_nil, Bool.and_true, Bool.and_eq_true] at ha
      have hc := ha.2
      have hc2 := hc
      unfold dig at hc2
      simp only [decide_eq_true_eq] at hc2
      rw [val_snoc]
      by_cases hm : m = []
      · subst hm
        simp only [List.nil_append]
        have e : valF 0 [] = 0 := rfl
        rw [e, Nat.mul_zero, Nat.zero_add, Lib.decDigits_one (by omega), dig_back hc]
        refine ⟨rfl, fun q => ?_⟩
        rcases Nat.lt_or_ge 48 c.toNat with h | h
        · omega
        · exfalso
          apply q
          simp only [List.head?_cons]
          congr 1
          exact UInt8.toNat_inj.1 (by rw [show (48 : UInt8).toNat = 48 from rfl]; omega)
      · have hp : 0 < m.length := List.length_pos_iff.2 hm
        have h0 : m.head? ≠ some 48 := by
          have := hh (by simp; omega)
          rwa [head_app hm] at this
        obtain ⟨i1, i2⟩ := ih m (by omega) hm ha.1 (fun _ => h0)
        have i3 := i2 h0
        have e1 : (10 * valF 0 m + (c.toNat - 48)) / 10 = valF 0 m := by omega
        have e2 : (10 * valF 0 m + (c.toNat - 48)) % 10 = c.toNat - 48 := by omega
        refine ⟨?_, fun _ => by omega⟩
        rw [Lib.decDigits, dif_neg (by omega), e1, e2, i1, dig_back hc]
  exact key l.length l rfl
theorem ofNat_dig {n : Nat} (h : n < 10) : dig (UInt8.ofNat (48 + n)) = true ∧ (UInt8.ofNat (48 + n)).toNat = 48 + n := by
  have : (UInt8.ofNat (48 + n)).toNat = 48 + n := by rw [UInt8.toNat_ofNat']; omega
  refine ⟨?_, this⟩
  unfold dig
  rw [this]
  simp
  omega
theorem dec_facts (n : Nat) : (Lib.decDigits n).all dig = true ∧ valF 0 (Lib.decDigits n) = n ∧ Lib.decDigits n ≠ [] ∧ (1 ≤ n → (Lib.decDigits n).head? ≠ some 48) ∧ ((Lib.decDigits n).length > 1 → 1 ≤ n) := by
  induction n using Nat.strongRecOn with
  | ind n ih =>
    by_cases c : n < 10
    · obtain ⟨d1, d2⟩ := ofNat_dig c
      rw [Lib.decDigits_one c]
      refine ⟨by rw [List.all_cons, List.all_nil, d1]; rfl, by rw [show valF 0 [UInt8.ofNat (48 + n)] = 10 * 0 + ((UInt8.ofNat (48 + n)).toNat - 48) from rfl, d2]; omega, by simp, fun h q => ?_, fun h => by simp at h⟩
      simp only [List.head?_cons, Option.some.injEq] at q
      have := congrArg UInt8.toNat q
      rw [d2] at this
      simp at this
      omega
    · obtain ⟨i1, i2, i3, i4, i5⟩ := ih (n / 10) (by omega)
      obtain ⟨d1, d2⟩ := ofNat_dig (n := n % 10) (by omega)
      have e : Lib.decDigits n = Lib.decDigits (n / 10) ++ [UInt8.ofNat (48 + n % 10)] := by rw [Lib.decDigits, dif_neg c]
      rw [e, val_snoc, i2, d2]
      refine ⟨by rw [List.all_append, i1, List.all_cons, List.all_nil, d1]; rfl, by omega, by simp, fun _ => ?_, fun _ => by omega⟩
      rw [head_app i3]
      exact i4 (by omega)
theorem dec_len (k : Nat) : ∀ n : Nat, n < 10 ^ (k + 1) → (Lib.decDigits n).length ≤ k + 1 := by
  induction k with
  | zero => intro n hn; rw [Lib.decDigits_one (by simpa using hn)]; simp
  | succ k ih =>
    intro n hn
    by_cases c : n < 10
    · rw [Lib.decDigits_one c]; simp
    · have := ih (n / 10) (by rw [Nat.pow_succ] at hn; omega)
      rw [Lib.decDigits, dif_neg c, List.length_append]
      simp only [List.length_cons, List.length_nil]
      omega
theorem read_dec {n : Nat} (h : n < 1000000) : readV (Lib.decDigits n) = n := by
  obtain ⟨h1, h2, h3, h4, h5⟩ := dec_facts n
  have hl := dec_len 5 n (by simpa using h)
  have hp : 0 < (Lib.decDigits n).length := List.length_pos_iff.2 h3
  unfold readV
  rw [if_pos ⟨⟨by omega, hl⟩, h1, fun q => h4 (h5 q)⟩, h2]
theorem read_back {l : List UInt8} (h : 0 ≤ readV l) : l = Lib.decDigits (readV l).toNat ∧ readV l < 1000000 := by
  unfold readV at h ⊢
  split at h
  case isFalse => omega
  case isTrue q =>
    have hne : l ≠ [] := fun e => by subst e; simp at q
    have := (val_back l hne q.2.1 q.2.2).1
    rw [if_pos q, Int.toNat_natCast, this]
    refine ⟨rfl, ?_⟩
    have bound : ∀ (t : List UInt8) (n i : Nat), n < 10 ^ i → t.all dig = true → valF n t < 10 ^ (i + t.length) := by
      intro t
      induction t with
      | nil => intro n i hn _; simpa [valF] using hn
      | cons c t ih =>
        intro n i hn ha
        simp only [List.all_cons, Bool.and_eq_true] at ha
        have hc := ha.1
        unfold dig at hc
        simp only [decide_eq_true_eq] at hc
        have := ih (10 * n + (c.toNat - 48)) (i + 1) (by rw [Nat.pow_succ]; omega) ha.2
        rw [List.length_cons, show i + (t.length + 1) = i + 1 + t.length from by omega]
        exact this
    have b := bound l 0 0 (by decide) q.2.1
    have : (10 : Nat) ^ (0 + l.length) ≤ 10 ^ 6 := Nat.pow_le_pow_right (by omega) (by omega)
    have e : (10 : Nat) ^ 6 = 1000000 := rfl
    omega

/-! ### Texts cut at a byte -/
theorem idx_none (c : UInt8) : ∀ l : List UInt8, c ∉ l → Lib.indexByte l c = -1
  | [], _ => rfl
  | b :: l, h => by
    simp only [List.mem_cons, not_or] at h
    have hb : (b == c) = false := by simpa using fun e : b = c => h.1 e.symm
    rw [Lib.indexByte, hb, idx_none c l h.2]; rfl
theorem idx_at (c : UInt8) (t : List UInt8) : ∀ p : List UInt8, c ∉ p → Lib.indexByte (p ++ c :: t) c = p.length
  | [], _ => by simp [Lib.indexByte]
  | b :: p, h => by
    simp only [List.mem_cons, not_or] at h
    have hb : (b == c) = false := by simpa using fun e : b = c => h.1 e.symm
    have hn : (((p.length : Int)) == -1) = false := by
      rw [beq_eq_false_iff_ne]; omega
    rw [List.cons_append, Lib.indexByte, hb, idx_at c t p h.2, hn]
    simp
theorem cut_none (s : ByteArray) (c : UInt8) (h : c ∉ s.data.toList) : strings_Cut.f s ⟨#[c]⟩ = some (s, ⟨#[]⟩, false) := by
  unfold strings_Cut.f stringslite_Cut.f stringslite_Index.f
  rw [if_pos (show (⟨#[c]⟩ : ByteArray).size = 1 from rfl), show (⟨#[c]⟩ : ByteArray).data.toList.getD 0 0 = c from rfl, idx_none c _ h]
  rfl
theorem cut_at (s : ByteArray) (c : UInt8) (p t : List UInt8) (hs : s.size ≤ 4611686018427387904) (h : s.data.toList = p ++ c :: t) (hp : c ∉ p) : strings_Cut.f s ⟨#[c]⟩ = some (mkB p, mkB t, true) := by
  have hn := size_data s
  have hl : s.data.toList.length = p.length + (t.length + 1) := by rw [h]; simp
  unfold strings_Cut.f stringslite_Cut.f stringslite_Index.f
  have one : (⟨#[c]⟩ : ByteArray).size = 1 := rfl
  rw [if_pos one, show (⟨#[c]⟩ : ByteArray).data.toList.getD 0 0 = c from rfl, h, idx_at c t p hp, one]
  simp only [Option.bind_some]
  have e1 : ((p.length : Int)) + ((1 : Nat) : Int) = ((p.length + 1 : Nat) : Int) := by omega
  rw [if_pos (by omega), if_pos (by omega), if_pos (by omega), e1, wrap_in (by omega) (by omega), if_pos (by omega), if_pos (by omega), Int.toNat_natCast, Int.toNat_natCast, cut_mkB, cut_mkB, h]
  have e2 : ((p ++ c :: t).drop 0).take (p.length - 0) = p := by simp
  have e3 : ((p ++ c :: t).drop (p.length + 1)).take (s.size - (p.length + 1)) = t := by
    rw [← List.drop_drop, List.drop_left, List.drop_succ_cons, List.drop_zero]
    exact List.take_of_length_le (by omega)
  rw [e2, e3]
  rfl
/-- Where a byte is first. -/
theorem first_at (c : UInt8) : ∀ l : List UInt8, c ∈ l → ∃ p t, l = p ++ c :: t ∧ c ∉ p
  | [], h => by cases h
  | b :: l, h => by
    by_cases hb : b = c
    · exact ⟨[], l, by rw [hb]; rfl, by simp⟩
    · obtain ⟨p, t, h1, h2⟩ := first_at c l (by
        rcases List.mem_cons.1 h with h | h
        · exact absurd h.symm hb
        · exact h)
      exact ⟨b :: p, t, by rw [h1]; rfl, by simp only [List.mem_cons, not_or]; exact ⟨fun e => hb e.symm, h2⟩⟩

/-! ### Small numbers with a sign, read -/
theorem itoa_facts : ∀ k : Fin 181, Lib.atoiAll (Lib.itoa ((k.val : Int) - 90)) = .ok ((k.val : Int) - 90) ∧ (Lib.itoa ((k.val : Int) - 90)).all (fun c => decide (c.toNat = 45 ∨ (48 ≤ c.toNat ∧ c.toNat ≤ 57))) = true := by decide +kernel
theorem itoa_at {n : Int} (h : -90 ≤ n ∧ n ≤ 90) : Lib.atoiAll (Lib.itoa n) = .ok n ∧ (Lib.itoa n).all (fun c => decide (c.toNat = 45 ∨ (48 ≤ c.toNat ∧ c.toNat ≤ 57))) = true := by
  have := itoa_facts ⟨(n + 90).toNat, by omega⟩
  have e : (((n + 90).toNat : Nat) : Int) - 90 = n := by omega
  simp only [e] at this
  exact this
theorem itoa_not {n : Int} (h : -90 ≤ n ∧ n ≤ 90) (c : UInt8) (hc : ¬ (c.toNat = 45 ∨ (48 ≤ c.toNat ∧ c.toNat ≤ 57))) : c ∉ Lib.itoa n := by
  intro hm
  have := List.all_eq_true.1 (itoa_at h).2 c hm
  simp only [decide_eq_true_eq] at this
  exact hc this
theorem decimal_it {n : Int} (h : -90 ≤ n ∧ n ≤ 90) : impl_decimal.f (it n) = some (n, true) := by
  have hz := it_size h
  unfold impl_decimal.f
  rw [if_pos (by omega), it_data, (itoa_at h).1]
  simp
theorem dec_some (t : ByteArray) (h : t.size ≤ 281474976710656) : ∃ v b, impl_decimal.f t = some (v, b) := by
  unfold impl_decimal.f
  rw [if_pos h]
  exact ⟨_, _, rfl⟩
theorem cut_any (s : ByteArray) (c : UInt8) (hs : s.size ≤ 4611686018427387904) : ∃ x y b, strings_Cut.f s ⟨#[c]⟩ = some (x, y, b) ∧ x.size ≤ s.size ∧ y.size ≤ s.size := by
  by_cases hm : c ∈ s.data.toList
  · obtain ⟨p, t, h1, h2⟩ := first_at c _ hm
    have hn := size_data s
    have hl : s.data.toList.length = p.length + (t.length + 1) := by rw [h1]; simp
    exact ⟨_, _, _, cut_at s c p t hs h1 h2, by rw [mkB_size]; omega, by rw [mkB_size]; omega⟩
  · exact ⟨_, _, _, cut_none s c hm, Nat.le_refl _, by show 0 ≤ _; omega⟩
/-- Two readers that read just what is written agree. -/
theorem parse_agree {α ρ : Type} {E : α → ρ} {V : α → Prop} {z : ρ} {S I : Option ρ}
    (S1 : ∀ v, V v → S = some (E v)) (S2 : S = some z ∨ ∃ v, V v ∧ S = some (E v)) (I1 : ∀ v, V v → I = some (E v)) (I2 : I = some z ∨ ∃ v, V v ∧ I = some (E v)) : ∃ R, S = some R ∧ I = some R := by
  rcases S2 with h | ⟨v, hv, h⟩
  · rcases I2 with h2 | ⟨v, hv, h2⟩
    · exact ⟨z, h, h2⟩
    · exact ⟨_, S1 v hv, h2⟩
  · exact ⟨_, h, I1 v hv⟩

/-! ### Verbs read -/
def veV (l : List UInt8) : Int := if (1 < l.length ∧ l.head? = some 45) ∧ 0 ≤ readV l.tail then -(readV l.tail) else if 0 ≤ readV l then readV l else 999
theorem read_lt (l : List UInt8) : readV l < 1000000 := by
  by_cases h : 0 ≤ readV l
  · exact (read_back h).2
  · omega
theorem read_ge (l : List UInt8) : -1 ≤ readV l := by
  unfold readV
  split <;> omega
theorem tail_cut (s : ByteArray) : s.extract 1 s.size = mkB s.data.toList.tail := by
  rw [cut_mkB]
  congr 1
  have hn := size_data s
  cases h : s.data.toList with
  | nil => simp
  | cons c t =>
    rw [h] at hn
    simp only [List.length_cons] at hn
    rw [List.drop_succ_cons, List.drop_zero, List.tail_cons]
    exact List.take_of_length_le (by omega)
theorem head_bt (s : ByteArray) (h : 0 < s.size) : bt s 0 = 45 ↔ s.data.toList.head? = some 45 := by
  have hb : bt s 0 = ((s.data.toList.getD 0 0).toNat : Int) := bt_data s 0 h
  have hn := size_data s
  rw [hb]
  clear hb
  generalize s.data.toList = l at hn ⊢
  cases l with
  | nil => rw [List.length_nil] at hn; omega
  | cons c t =>
    rw [List.head?_cons, List.getD_cons_zero]
    constructor
    · intro k
      have k2 : c.toNat = 45 := Int.ofNat_inj.1 (show ((c.toNat : Nat) : Int) = ((45 : Nat) : Int) from k)
      have : c = 45 := UInt8.toNat_inj.1 (k2.trans rfl)
      rw [this]
    · intro k
      simp only [Option.some.injEq] at k
      rw [k]; rfl
theorem veRead_some (s : ByteArray) (hs : s.size ≤ 1048576) : spec_veRead.F s = some (veV s.data.toList) := by
  have hn := size_data s
  have h1 := read_lt s.data.toList.tail
  have h2 := read_ge s.data.toList.tail
  have htz : (mkB s.data.toList.tail).size ≤ 1048576 := by rw [mkB_size, List.length_tail]; omega
  have rest : spec_veRead.J0 s false = some (if 0 ≤ readV s.data.toList then readV s.data.toList else 999) := by
    rw [spec_veRead.J0_eq, if_neg (by simp), read_some s hs, Option.bind_some]
    by_cases c : 0 ≤ readV s.data.toList
    · rw [if_pos c, if_pos c]
    · rw [if_neg c, if_neg c]
  rw [spec_veRead.F_eq]
  unfold veV
  by_cases c1 : (s.size : Int) > 1
  case neg => rw [if_neg c1, rest]; exact congrArg some (if_neg (fun h => by omega)).symm
  rw [if_pos c1, if_pos (by omega)]
  by_cases c2 : s.data.toList.head? = some 45
  case neg => rw [if_neg (fun h => c2 ((head_bt s (by omega)).1 h)), rest]; exact congrArg some (if_neg (fun h => c2 h.1.2)).symm
  rw [if_pos ((head_bt s (by omega)).2 c2), if_pos (by omega), tail_cut, read_some _ htz, data_mkB, Option.bind_some]
  by_cases c3 : 0 ≤ readV s.data.toList.tail
  · rw [decide_eq_true c3, spec_veRead.J0_eq, if_pos rfl, if_pos (by omega), tail_cut, read_some _ htz, data_mkB, Option.bind_some, if_pos ⟨⟨by omega, c2⟩, c3⟩, wrap_in (by omega) (by omega)]
  · rw [decide_eq_false c3, rest]; exact congrArg some (if_neg (fun h => c3 h.2)).symm
theorem veV_facts : ∀ k : Fin 181, veV (Lib.itoa ((k.val : Int) - 90)) = (k.val : Int) - 90 := by decide +kernel
theorem veRead_it {n : Int} (h : -90 ≤ n ∧ n ≤ 90) : spec_veRead.F (it n) = some n := by
  have hz := it_size h
  rw [veRead_some _ (by omega), it_data]
  have := veV_facts ⟨(n + 90).toNat, by omega⟩
  have e : (((n + 90).toNat : Nat) : Int) - 90 = n := by omega
  simp only [e] at this
  rw [this]
theorem word_not {g : ByteArray} (h : isWord 65 90 g = true) (c : UInt8) (hc : ¬ (65 ≤ c.toNat ∧ c.toNat ≤ 90)) : c ∉ g.data.toList := by
  intro hm
  simp only [isWord, inRange, Bool.and_eq_true] at h
  have := List.all_eq_true.1 h.2 c hm
  simp only [decide_eq_true_eq] at this
  exact hc this
theorem veTx_data (g : ByteArray) (a b : Int) : (veTx g a b).data.toList = g.data.toList ++ 58 :: (Lib.itoa a ++ 62 :: Lib.itoa b) := by
  unfold veTx
  simp [it_data]
theorem it_mkB (n : Int) : mkB (Lib.itoa n) = it n := rfl
def VeV (s : ByteArray) (v : ByteArray × Int × Int) : Prop := isVerb v.1 v.2.1 v.2.2 = true ∧ (veTx v.1 v.2.1 v.2.2).toList = s.toList
def veE (v : ByteArray × Int × Int) : ByteArray × Int × Int × Bool := (v.1, v.2.1, v.2.2, true)
theorem veParse_same (s : ByteArray) (hs : s.size ≤ 1048576) : ∃ R, spec_ParseVerb.F s = some R ∧ impl_ParseVerb.F s = some R := by
  have hn := size_data s
  have S0 : (58 : Int) = (((58 : UInt8).toNat : Nat) : Int) := rfl
  have S9 : (62 : Int) = (((62 : UInt8).toNat : Nat) : Int) := rfl
  refine parse_agree (E := veE) (V := VeV s) (z := (⟨#[]⟩, 0, 0, false)) ?_ ?_ ?_ ?_
  · rintro ⟨g, a, b⟩ ⟨h1, h2⟩
    simp only at h1 h2
    obtain ⟨⟨w1, w2⟩, ha, hb⟩ := isVerb_facts h1
    have hd : s.data.toList = g.data.toList ++ 58 :: (Lib.itoa a ++ 62 :: Lib.itoa b) := by rw [← veTx_data, ← toList_data, ← toList_data, h2]
    have hlen := congrArg List.length hd
    simp only [List.length_append, List.length_cons] at hlen
    have q1 : (58 : UInt8) ∉ Lib.itoa a ++ 62 :: Lib.itoa b := by
      simp only [List.mem_append, List.mem_cons, not_or]
      exact ⟨itoa_not ha 58 (by decide), by decide, itoa_not hb 58 (by decide)⟩
    have hz : (mkB (Lib.itoa a ++ 62 :: Lib.itoa b)).size ≤ 1048576 := by rw [mkB_size]; simp only [List.length_append, List.length_cons]; omega
    rw [spec_ParseVerb.F_eq, S0, S9, split_some s 58 hs, hd, split_app 58 g.data.toList [] _ (word_not w1 58 (by decide)), split_none 58 _ [] q1, Option.bind_some]
    simp only [List.nil_append, List.map_cons, List.map_nil]
    rw [if_pos (by simp), if_pos (by simp), show rdOf ByteArray.empty [mkB g.data.toList, mkB (Lib.itoa a ++ 62 :: Lib.itoa b)] 1 = mkB (Lib.itoa a ++ 62 :: Lib.itoa b) from rfl, split_some _ 62 hz, data_mkB, split_app 62 (Lib.itoa a) [] _ (itoa_not ha 62 (by decide)), split_none 62 _ [] (itoa_not hb 62 (by decide)), Option.bind_some]
    simp only [List.nil_append, List.map_cons, List.map_nil]
    rw [if_pos (by simp), if_pos (by simp), if_pos (by simp), show rdOf ByteArray.empty [mkB (Lib.itoa a), mkB (Lib.itoa b)] 0 = it a from rfl, show rdOf ByteArray.empty [mkB (Lib.itoa a), mkB (Lib.itoa b)] 1 = it b from rfl, veRead_it ha, Option.bind_some, if_pos (by simp), veRead_it hb, Option.bind_some, show rdOf ByteArray.empty [mkB g.data.toList, mkB (Lib.itoa a ++ 62 :: Lib.itoa b)] 0 = mkB g.data.toList from rfl, mkB_data, veOne_some g a b (by omega), h1, Option.bind_some, if_pos rfl, (ve_texts h1).1, Option.bind_some, if_pos h2]
    rfl
  · rw [spec_ParseVerb.F_eq, S0, S9, split_some s 58 hs, Option.bind_some]
    cases hw : splitFrom 58 [] s.data.toList with
    | nil => rw [if_neg (by simp)]; exact .inl rfl
    | cons p ps =>
      cases ps with
      | nil => rw [if_neg (by simp)]; exact .inl rfl
      | cons q qs =>
        cases qs with
        | cons _ _ => rw [if_neg (by simp; omega)]; exact .inl rfl
        | nil =>
          obtain ⟨r, t, e1, e2, e3, e4⟩ := split_more 58 _ [] p [q] hw (by simp)
          obtain ⟨e5, e6⟩ := split_one 58 t [] q e4
          simp only [List.nil_append] at e1 e5
          subst e1 e5
          have hlen := congrArg List.length e3
          simp only [List.length_append, List.length_cons] at hlen
          have hz : (mkB q).size ≤ 1048576 := by rw [mkB_size]; omega
          simp only [List.map_cons, List.map_nil]
          rw [if_pos (by simp), if_pos (by simp), show rdOf ByteArray.empty [mkB p, mkB q] 1 = mkB q from rfl, show rdOf ByteArray.empty [mkB p, mkB q] 0 = mkB p from rfl, split_some _ 62 hz, data_mkB, Option.bind_some]
          cases hw2 : splitFrom 62 [] q with
          | nil => rw [if_neg (by simp)]; exact .inl rfl
          | cons u us =>
            cases us with
            | nil => rw [if_neg (by simp)]; exact .inl rfl
            | cons v vs =>
              cases vs with
              | cons _ _ => rw [if_neg (by simp; omega)]; exact .inl rfl
              | nil =>
                obtain ⟨r2, t2, f1, f2, f3, f4⟩ := split_more 62 _ [] u [v] hw2 (by simp)
                obtain ⟨f5, f6⟩ := split_one 62 t2 [] v f4
                simp only [List.nil_append] at f1 f5
                subst f1 f5
                have hlen2 := congrArg List.length f3
                simp only [List.length_append, List.length_cons] at hlen2
                simp only [List.map_cons, List.map_nil]
                rw [if_pos (by simp), if_pos (by simp), if_pos (by simp), show rdOf ByteArray.empty [mkB u, mkB v] 0 = mkB u from rfl, show rdOf ByteArray.empty [mkB u, mkB v] 1 = mkB v from rfl, veRead_some _ (by rw [mkB_size]; omega), Option.bind_some, if_pos (by simp), veRead_some _ (by rw [mkB_size]; omega), Option.bind_some, veOne_some _ _ _ (by rw [mkB_size]; omega), Option.bind_some]
                cases hv : isVerb (mkB p) (veV (mkB u).data.toList) (veV (mkB v).data.toList)
                · rw [if_neg (by simp)]; exact .inl rfl
                · rw [if_pos rfl, (ve_texts hv).1, Option.bind_some]
                  by_cases hx : (veTx (mkB p) (veV (mkB u).data.toList) (veV (mkB v).data.toList)).toList = s.toList
                  · rw [if_pos hx]; exact .inr ⟨(_, _, _), ⟨hv, hx⟩, rfl⟩
                  · rw [if_neg hx]; exact .inl rfl
  · rintro ⟨g, a, b⟩ ⟨h1, h2⟩
    simp only at h1 h2
    obtain ⟨⟨w1, w2⟩, ha, hb⟩ := isVerb_facts h1
    have hd : s.data.toList = g.data.toList ++ 58 :: (Lib.itoa a ++ 62 :: Lib.itoa b) := by rw [← veTx_data, ← toList_data, ← toList_data, h2]
    have hlen := congrArg List.length hd
    simp only [List.length_append, List.length_cons] at hlen
    have hz : (mkB (Lib.itoa a ++ 62 :: Lib.itoa b)).size ≤ 1048576 := by rw [mkB_size]; simp only [List.length_append, List.length_cons]; omega
    rw [impl_ParseVerb.F_eq, cut_at s 58 g.data.toList (Lib.itoa a ++ 62 :: Lib.itoa b) (by omega) hd (word_not w1 58 (by decide)), Option.bind_some]
    simp only
    rw [cut_at (mkB (Lib.itoa a ++ 62 :: Lib.itoa b)) 62 (Lib.itoa a) (Lib.itoa b) (by omega) (data_mkB _) (itoa_not ha 62 (by decide)), Option.bind_some]
    simp only
    rw [it_mkB, it_mkB, decimal_it ha, decimal_it hb, Option.bind_some, Option.bind_some]
    simp only
    rw [mkB_data, isVerb_some g a b (by omega), h1, Option.bind_some, if_pos rfl, (ve_texts h1).2, Option.bind_some, if_pos h2]
    rfl
  · obtain ⟨x, y, c, k1, k2, k3⟩ := cut_any s 58 (by omega)
    obtain ⟨x2, y2, c2, m1, m2, m3⟩ := cut_any y 62 (by omega)
    obtain ⟨v1, b1, d1⟩ := dec_some x2 (by omega)
    obtain ⟨v2, b2, d2⟩ := dec_some y2 (by omega)
    rw [impl_ParseVerb.F_eq, k1, Option.bind_some]
    simp only [m1, d1, d2, Option.bind_some]
    rw [isVerb_some x v1 v2 (by omega), Option.bind_some]
    cases hv : isVerb x v1 v2
    · rw [if_neg (by simp)]; exact .inl rfl
    · rw [if_pos rfl, (ve_texts hv).2, Option.bind_some]
      by_cases hx : (veTx x v1 v2).toList = s.toList
      · rw [if_pos hx]; exact .inr ⟨(_, _, _), ⟨hv, hx⟩, rfl⟩
      · rw [if_neg hx]; exact .inl rfl

theorem FnExactParseVerb : laws_FnExactParseVerb.Pure := by
  intro s hs
  refine lim_rounds (?_ : laws_FnExactParseVerb.F s = some true)
  rw [laws_FnExactParseVerb.F_eq]
  by_cases h : (s.size : Int) > 1048576
  · rw [if_pos h]
  rw [if_neg h]
  obtain ⟨R, r1, r2⟩ := veParse_same s (by omega)
  rw [r1, r2]
  simp only [Option.bind_some, laws_eqVerb.f, if_true, bne_self_eq_false, Bool.false_eq_true, if_false]

end Go.Proofs.YtbheajjagkdjmaaDoor.Pure
