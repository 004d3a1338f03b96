/- The pure statement of the law FnExactPatternText: for all arguments within their bounds its Lean function answers true. -/
import Derived.Test.YtnmgcphajacdnaaDoorPFnExactPatternTextxD0
namespace Go.Proofs.YtnmgcphajacdnaaDoor.Pure
open Go.RowKit Go.Proofs.YtnmgcphajacdnaaDoor.PFnExactPatternText Go.Proofs.YtnmgcphajacdnaaDoorW.PrintWords Go.Proofs.YtnmgcphajacdnaaDoorW.PrintLast
set_option linter.unusedVariables false
set_option linter.unusedSimpArgs false
/-! ### Numbers, loops, letters -/
theorem wrap_in {x : Int} (h0 : -9223372036854775808 ≤ x) (h1 : x ≤ 9223372036854775807) : wrap64 x = x := by
  unfold wrap64; omega
theorem wf_i64 {n : Int} (h : (Lit.int .i64 n).wf = true) : -9223372036854775808 ≤ n ∧ n ≤ 9223372036854775807 := by
  simpa [Lit.wf, IntKind.min, IntKind.max, IntKind.signed, IntKind.bits] using h
/-- A loop over a list, from its end. L: what the loop tells from place i on. -/
theorem each {α γ : Type} (L : Int → γ) (l : List α) (z : α) (R : Nat → List α → γ → Prop) (nil : R l.length [] (L l.length))
    (cons : ∀ (i : Nat) (x : α) (t : List α), i < l.length → l.getD i z = x → l.drop i = x :: t → l.drop (i + 1) = t → R (i + 1) t (L ((i : Int) + 1)) → R i (x :: t) (L i)) : R 0 l (L 0) := by
  have key : ∀ (t : List α) (i : Nat), l.drop i = t → i ≤ l.length → R i t (L i) := by
    intro t
    induction t with
    | nil =>
      intro i h hi
      have : l.length ≤ i := by simpa [List.drop_eq_nil_iff] using h
      obtain rfl : i = l.length := by omega
      exact nil
    | cons x t ih =>
      intro i h hi
      have hlt : i < l.length := by
        rcases Nat.lt_or_ge i l.length with h' | h'
        · exact h'
        · rw [List.drop_eq_nil_of_le h'] at h; cases h
      have h2 := List.drop_eq_getElem_cons hlt
      rw [h] at h2
      injection h2 with h3 h4
      refine cons i x t hlt ?_ h h4.symm ?_
      · rw [List.getD_eq_getElem?_getD, List.getElem?_eq_getElem hlt]; exact h3.symm
      · have := ih (i + 1) h4.symm (by omega)
        rwa [show ((i + 1 : Nat) : Int) = (i : Int) + 1 from by omega] at this
  have := key l 0 rfl (Nat.zero_le _)
  rwa [show ((0 : Nat) : Int) = 0 from rfl] at this
theorem bt_data (s : ByteArray) (i : Nat) (h : i < s.size) : bt s (i : Int) = ((s.data.toList.getD i 0).toNat : Int) := by
  obtain ⟨d⟩ := s
  have h' : i < d.size := h
  have : bt ⟨d⟩ (i : Int) = ((d[i]).toNat : Int) := by
    unfold bt
    rw [dif_pos (show ((i : Int)).toNat < (⟨d⟩ : ByteArray).size from by simpa using h)]
    rfl
  rw [this]
  simp [h']
theorem size_data (s : ByteArray) : s.size = s.data.toList.length := by
  obtain ⟨d⟩ := s; simp [ByteArray.size]
theorem toList_data (s : ByteArray) : s.toList = s.data.toList := by
  rw [ByteArray.toList_eq]
theorem ext_data {s t : ByteArray} (h : s.toList = t.toList) : s = t := by
  rw [toList_data, toList_data] at h
  obtain ⟨⟨a⟩⟩ := s
  obtain ⟨⟨b⟩⟩ := t
  simp at h
  rw [h]
theorem toList_iff {s t : ByteArray} : s.toList = t.toList ↔ s = t := ⟨ext_data, fun h => by rw [h]⟩
theorem mem_drop {α : Type} {l t : List α} {x : α} {i : Nat} (h : l.drop i = x :: t) : x ∈ l := List.mem_of_mem_drop (i := i) (by rw [h]; simp)

/-! ### Decimal digits -/
theorem dec_length (n : Nat) : (Lib.decDigits n).length ≤ n + 1 := by
  induction n using Nat.strongRecOn with
  | ind n ih =>
    rw [Lib.decDigits]
    split
    · simp
    · have := ih (n / 10) (by omega)
      rw [List.length_append]
      simp only [List.length_cons, List.length_nil]
      omega

/-! ### Numbers in decimal -/
theorem digit_fin : ∀ n : Fin 10, strOfNums [(wrap64 (48 + (n.val : Int))) % 256] = ⟨#[UInt8.ofNat (48 + n.val)]⟩ := by decide +kernel
theorem digit_some {n : Nat} (h : n < 10) : strOfNums [(wrap64 (48 + (n : Int))) % 256] = ⟨#[UInt8.ofNat (48 + n)]⟩ := digit_fin ⟨n, h⟩
theorem num_some (n : Nat) : n < 4611686018427387904 → spec_l1Num.F (n : Int) = some ⟨(Lib.decDigits n).toArray⟩ := by
  induction n using Nat.strongRecOn with
  | ind n ih =>
    intro hn
    rw [spec_l1Num.F_eq]
    by_cases c : n < 10
    · rw [if_pos (by omega), Lib.decDigits_one c, digit_some c]
    · have t1 : (n : Int).tdiv 10 = ((n / 10 : Nat) : Int) := by rw [Int.tdiv_eq_ediv_of_nonneg (by omega)]; omega
      have t2 : (n : Int).tmod 10 = ((n % 10 : Nat) : Int) := by rw [Int.tmod_eq_emod_of_nonneg (by omega)]; omega
      have hl := dec_length (n / 10)
      rw [if_neg (by omega), t1, wrap_in (by omega) (by omega), ih (n / 10) (by omega) (by omega), Option.bind_some, Option.bind_some, t2, digit_some (by omega)]
      have e : Lib.decDigits n = Lib.decDigits (n / 10) ++ [UInt8.ofNat (48 + n % 10)] := by rw [Lib.decDigits, dif_neg c]
      rw [if_pos (by simp only [ByteArray.size, List.size_toArray, List.length_cons, List.length_nil]; omega), e]
      first
      | rfl
      | (congr 1; done)
      | (congr 1; apply ext_data; rw [toList_data, toList_data]; simp)

/-! ### Letters of a pattern -/
theorem within_at (a b c : Int) : impl_within.f a b c = some (decide (b ≤ a ∧ a ≤ c)) := by
  unfold impl_within.f
  by_cases h : b ≤ a
  · rw [if_pos h]; simp [h]
  · rw [if_neg h]; simp [h]
theorem l1In_at (a b c : Int) : spec_l1In.f a b c = some (decide (b ≤ a ∧ a ≤ c)) := by
  unfold spec_l1In.f
  by_cases h : b ≤ a
  · rw [if_pos h]; simp [h]
  · rw [if_neg h]; simp [h]
/-- Are all letters out of a list? -/
def allOf (g : List Nat) (s : ByteArray) : Bool := s.data.toList.all fun x => g.contains x.toNat
def FitsI (g : List Nat) (m : ByteArray) : Prop := ∀ n : Fin 256, decide (Lib.indexByte m.data.toList n.val.toUInt8 < 0) = !g.contains n.val
def FitsS (g : List Nat) (m : ByteArray) : Prop := ∀ n : Fin 256, (decide (n.val = 63) || m.data.toList.any (fun x => decide (x.toNat = n.val))) = g.contains n.val
instance (g : List Nat) (m : ByteArray) : Decidable (FitsI g m) := by unfold FitsI; infer_instance
instance (g : List Nat) (m : ByteArray) : Decidable (FitsS g m) := by unfold FitsS; infer_instance
theorem only_some (g : List Nat) (s m : ByteArray) (hs : s.size ≤ 9223372036854775807) (hm : FitsI g m) : impl_hasOnly.F s m = some (allOf g s) := by
  rw [impl_hasOnly.F_eq]
  refine each (L := fun i => impl_hasOnly.L0 s m s.size i) s.data.toList 0 (fun _ t o => o = some (t.all fun x => g.contains x.toNat)) ?_ ?_
  · show impl_hasOnly.L0 s m _ _ = _
    rw [impl_hasOnly.L0_eq, if_neg (by rw [← size_data]; omega)]; rfl
  · intro i x t hi' hx _ _ ih
    have hi2 : i < s.size := by rw [size_data]; exact hi'
    have hb := hm ⟨x.toNat, x.toNat_lt⟩
    show impl_hasOnly.L0 s m _ _ = _
    rw [impl_hasOnly.L0_eq, if_pos (by omega), if_pos (by omega), if_pos (by omega), bt_data s i hi2, hx, wrap_in (by omega) (by omega)]
    simp only [strings_IndexByte.f, stringslite_IndexByte.f, Option.bind_some, Int.toNat_natCast, List.all_cons]
    simp only at hb
    cases h1 : g.contains x.toNat
    · rw [h1] at hb
      rw [if_pos (by simpa using hb)]; rfl
    · rw [h1] at hb
      rw [if_neg (by simpa using hb), ih]; rfl
theorem in_some (m : ByteArray) (v : Nat) (hs : m.size ≤ 9223372036854775807) : spec_seIn.F m (v : Int) = some (m.data.toList.any fun x => decide (x.toNat = v)) := by
  rw [spec_seIn.F_eq]
  refine each (L := fun i => spec_seIn.L0 m v i) m.data.toList 0 (fun _ t o => o = some (t.any fun x => decide (x.toNat = v))) ?_ ?_
  · show spec_seIn.L0 m v _ = _
    rw [spec_seIn.L0_eq, if_neg (by rw [← size_data]; omega)]; rfl
  · intro i x t hi' hx _ _ ih
    have hi2 : i < m.size := by rw [size_data]; exact hi'
    show spec_seIn.L0 m v _ = _
    rw [spec_seIn.L0_eq, if_pos (by omega), if_pos (by omega), bt_data m i hi2, hx, wrap_in (by omega) (by omega), List.any_cons]
    by_cases h1 : x.toNat = v
    · rw [if_pos (by omega)]; simp [h1]
    · rw [if_neg (by omega), ih]; simp [h1]
theorem wild_some (g : List Nat) (s m : ByteArray) (n : Int) (hs : s.size ≤ 9223372036854775807) (hm : FitsS g m) (hz : m.size ≤ 9223372036854775807) : spec_seWild.F s m n = some (decide ((s.size : Int) = n) && allOf g s) := by
  rw [spec_seWild.F_eq]
  by_cases hn : (s.size : Int) = n
  case neg => rw [if_neg hn]; simp [hn]
  rw [if_pos hn, decide_eq_true hn, Bool.true_and]
  refine each (L := fun i => spec_seWild.L0 s m i) s.data.toList 0 (fun _ t o => o = some (t.all fun x => g.contains x.toNat)) ?_ ?_
  · show spec_seWild.L0 s m _ = _
    rw [spec_seWild.L0_eq, if_neg (by rw [← size_data]; omega)]; rfl
  · intro i x t hi' hx _ _ ih
    have hi2 : i < s.size := by rw [size_data]; exact hi'
    have hb := hm ⟨x.toNat, x.toNat_lt⟩
    simp only at hb
    show spec_seWild.L0 s m _ = _
    rw [spec_seWild.L0_eq, if_pos (by omega), if_pos (by omega), bt_data s i hi2, hx, wrap_in (by omega) (by omega), List.all_cons, ← hb]
    by_cases h1 : x.toNat = 63
    · rw [if_pos (by omega), ih]; simp [h1]
    · rw [if_neg (by omega), in_some m _ hz, Option.bind_some]
      cases h2 : m.data.toList.any fun y => decide (y.toNat = x.toNat)
      · rw [if_neg (by simp)]; simp [h1]
      · rw [if_pos rfl, ih]; simp
/-- Is it a pattern? -/
def okP (a b : ByteArray) (r : Int) (c : ByteArray) (h : Int) : Bool := (decide ((a.size : Int) = 5) && allOf [48, 49, 50, 63] a) && ((decide ((b.size : Int) = 2) && allOf [117, 100, 108, 114, 102, 98, 63] b) && (decide (-1 ≤ r ∧ r ≤ 9) && (decide ((c.size : Int) ≤ 20) && (allOf [117, 100, 108, 114, 102, 98, 63, 42] c && decide (0 ≤ h ∧ h ≤ 2)))))
theorem specGood (a b : ByteArray) (r : Int) (c : ByteArray) (h : Int) (ha : a.size ≤ 9223372036854775807) (hb : b.size ≤ 9223372036854775807) (hc : c.size ≤ 9223372036854775807) : spec_seGood.F a b r c h = some (okP a b r c h) := by
  rw [spec_seGood.F_eq, wild_some [48, 49, 50, 63] a _ _ ha (by decide +kernel) (by decide), wild_some [117, 100, 108, 114, 102, 98, 63] b _ _ hb (by decide +kernel) (by decide), wild_some [117, 100, 108, 114, 102, 98, 63, 42] c _ _ hc (by decide +kernel) (by decide), l1In_at, l1In_at]
  simp only [Option.bind_some, okP, decide_true, Bool.true_and]
  cases (decide ((a.size : Int) = 5) && allOf [48, 49, 50, 63] a)
  · rfl
  cases (decide ((b.size : Int) = 2) && allOf [117, 100, 108, 114, 102, 98, 63] b)
  · rfl
  cases decide (-1 ≤ r ∧ r ≤ 9)
  · rfl
  by_cases h1 : (c.size : Int) ≤ 20
  case neg => simp [h1]
  cases allOf [117, 100, 108, 114, 102, 98, 63, 42] c
  · simp [h1]
  · simp [h1]
theorem implGood (a b : ByteArray) (r : Int) (c : ByteArray) (h : Int) (ha : a.size ≤ 9223372036854775807) (hb : b.size ≤ 9223372036854775807) (hc : c.size ≤ 9223372036854775807) : impl_IsPattern.F a b r c h = some (okP a b r c h) := by
  rw [impl_IsPattern.F_eq, only_some [48, 49, 50, 63] a _ ha (by decide +kernel), only_some [117, 100, 108, 114, 102, 98, 63] b _ hb (by decide +kernel), only_some [117, 100, 108, 114, 102, 98, 63, 42] c _ hc (by decide +kernel), within_at, within_at]
  simp only [Option.bind_some, okP]
  by_cases h0 : (a.size : Int) = 5
  case neg => simp [h0]
  cases allOf [48, 49, 50, 63] a
  · simp [h0]
  by_cases h1 : (b.size : Int) = 2
  case neg => simp [h0, h1]
  cases allOf [117, 100, 108, 114, 102, 98, 63] b
  · simp [h0, h1]
  cases decide (-1 ≤ r ∧ r ≤ 9)
  · simp [h0, h1]
  by_cases h2 : (c.size : Int) ≤ 20
  case neg => simp [h0, h1, h2]
  cases allOf [117, 100, 108, 114, 102, 98, 63, 42] c
  · simp [h0, h1, h2]
  · simp [h0, h1, h2]
/-- A number, or a question mark. -/
def shown (n : Int) (b : Bool) : ByteArray := if b = true then ⟨(Lib.decDigits n.toNat).toArray⟩ else ⟨#[63]⟩
theorem shown_size (n : Int) (b : Bool) (h : n ≤ 9) : (shown n b).size ≤ 11 := by
  unfold shown
  split
  · have := dec_length n.toNat
    show (Lib.decDigits n.toNat).toArray.size ≤ 11
    simp only [List.size_toArray]; omega
  · show 1 ≤ 11; omega
theorem known_some (n : Int) (b : Bool) (h : n ≤ 9) (hb : b = true → 0 ≤ n) : spec_seKnown.F n b = some (shown n b) := by
  rw [spec_seKnown.F_eq]
  cases b
  · rfl
  · obtain ⟨m, rfl⟩ := Int.eq_ofNat_of_zero_le (hb rfl)
    rw [if_pos rfl, num_some m (by omega), Option.bind_some]; rfl
theorem text1_some (n u : Int) (b : Bool) (h : n ≤ 9) (hb : b = true → 0 ≤ n) (hu : b = !decide (n = u)) : impl_Pattern_text_1.f n u = some (shown n b) := by
  unfold impl_Pattern_text_1.f strconv_Itoa.f
  subst hu
  by_cases c : n = u
  · rw [if_pos c]; simp [c, shown]
  · have h0 := hb (by simp [c])
    rw [if_neg c, if_pos ⟨h0, by omega⟩]
    simp [shown, c]
theorem FnExactPatternText : laws_FnExactPatternText.Pure := by
  intro a b r c h hw
  have hs : a.size ≤ 9223372036854775807 ∧ b.size ≤ 9223372036854775807 ∧ c.size ≤ 9223372036854775807 := by
    simp only [Wf23] at hw; omega
  obtain ⟨ha, hb, hc⟩ := hs
  refine lim_rounds (?_ : laws_FnExactPatternText.F a b r c h = some true)
  rw [laws_FnExactPatternText.F_eq]
  obtain ⟨t, ht⟩ : ∃ t, laws_szPattern.f a b r c h 1048576 = some t := by
    unfold laws_szPattern.f
    split
    · exact ⟨_, rfl⟩
    split
    · exact ⟨_, rfl⟩
    split
    · exact ⟨_, rfl⟩
    · exact ⟨_, rfl⟩
  rw [ht, Option.bind_some]
  by_cases h3 : t < 0
  · rw [if_pos h3]
  rw [if_neg h3]
  simp only [laws_toPattern.f, Option.bind_some]
  have key : ∃ R, spec_PatternText.F a b r c h = some R ∧ impl_PatternText.F a b r c h = some R := by
    rw [spec_PatternText.F_eq, impl_PatternText.F_eq, specGood a b r c h ha hb hc, implGood a b r c h ha hb hc, Option.bind_some, Option.bind_some]
    cases ho : okP a b r c h
    · exact ⟨_, rfl, rfl⟩
    simp only [okP, Bool.and_eq_true, decide_eq_true_eq] at ho
    obtain ⟨⟨o1, _⟩, ⟨o2, _⟩, o3, o4, _, o5⟩ := ho
    have k1 := known_some r (decide (r ≥ 0)) o3.2 (by simp)
    have k2 := known_some h (decide (h > 0)) (by omega) (by simp; omega)
    have k3 := text1_some r (-1) (decide (r ≥ 0)) o3.2 (by simp) (by by_cases q : r = -1 <;> simp [q] <;> omega)
    have k4 := text1_some h 0 (decide (h > 0)) (by omega) (by simp; omega) (by by_cases q : h = 0 <;> simp [q] <;> omega)
    have z1 := shown_size r (decide (r ≥ 0)) o3.2
    have z2 := shown_size h (decide (h > 0)) (by omega)
    have one : ((⟨#[47]⟩ : ByteArray)).size = 1 := rfl
    unfold impl_Pattern_text.f
    rw [k3, k4]
    simp only [if_true, k1, k2, Option.bind_some]
    generalize shown r (decide (r ≥ 0)) = x at z1
    generalize shown h (decide (h > 0)) = y at z2
    rw [if_pos (by omega), if_pos (by simp only [ByteArray.size_append]; omega), if_pos (by simp only [ByteArray.size_append]; omega), if_pos (by simp only [ByteArray.size_append]; omega), if_pos (by simp only [ByteArray.size_append]; omega), if_pos (by simp only [ByteArray.size_append]; omega), if_pos (by simp only [ByteArray.size_append]; omega), if_pos (by simp only [ByteArray.size_append]; omega)]
    have hj : Lib.join ([a, b, x, c, y].map (·.data.toList)) (⟨#[47]⟩ : ByteArray).data.toList = (((((((((a ++ (⟨#[47]⟩ : ByteArray)) ++ b) ++ (⟨#[47]⟩ : ByteArray)) ++ x) ++ (⟨#[47]⟩ : ByteArray)) ++ c) ++ (⟨#[47]⟩ : ByteArray)) ++ y)).data.toList := by
      simp only [List.map_cons, List.map_nil, Lib.join_cons, Lib.joinTail, ByteArray.data_append, Array.toList_append, List.flatten_cons, List.flatten_nil, List.append_assoc, List.append_nil]
    refine ⟨_, rfl, ?_⟩
    unfold strings_Join.f
    rw [if_pos ⟨by simp, by rw [hj, ← size_data]; simp only [ByteArray.size_append]; omega⟩, Option.bind_some, Option.bind_some]
    unfold joined
    rw [hj]
  obtain ⟨R, k1, k2⟩ := key
  simp only [k1, k2, Option.bind_some, if_true, bne_self_eq_false, Bool.false_eq_true, if_false]

end Go.Proofs.YtnmgcphajacdnaaDoor.Pure
