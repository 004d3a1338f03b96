/- The pure statement of the law FnExactMoveText: for all arguments within their bounds its Lean function answers true. -/
import Derived.Test.YtmffndjbpealmaaDoorPFnExactMoveTextxD0
namespace Go.Proofs.YtmffndjbpealmaaDoor.Pure
open Go.RowKit Go.Proofs.YtmffndjbpealmaaDoor.PFnExactMoveText Go.Proofs.YtmffndjbpealmaaDoorW.PrintWords Go.Proofs.YtmffndjbpealmaaDoorW.PrintLast
set_option linter.unusedVariables false
set_option linter.unusedSimpArgs false
/-! ### Numbers, loops, letters -/
theorem wrap_in {x : Int} (h0 : -9223372036854775808 ≤ x) (h1 : x ≤ 9223372036854775807) : wrap64 x = x := by
  unfold wrap64; omega
theorem wf_i64 {n : Int} (h : (Lit.int .i64 n).wf = true) : -9223372036854775808 ≤ n ∧ n ≤ 9223372036854775807 := by
  simpa [Lit.wf, IntKind.min, IntKind.max, IntKind.signed, IntKind.bits] using h
/-- A loop over a list, from its end. L: what the loop tells from place i on. -/
theorem each {α γ : Type} (L : Int → γ) (l : List α) (z : α) (R : Nat → List α → γ → Prop) (nil : R l.length [] (L l.length))
    (cons : ∀ (i : Nat) (x : α) (t : List α), i < l.length → l.getD i z = x → l.drop i = x :: t → l.drop (i + 1) = t → R (i + 1) t (L ((i : Int) + 1)) → R i (x :: t) (L i)) : R 0 l (L 0) := by
  have key : ∀ (t : List α) (i : Nat), l.drop i = t → i ≤ l.length → R i t (L i) := by
    intro t
    induction t with
    | nil =>
      intro i h hi
      have : l.length ≤ i := by simpa [List.drop_eq_nil_iff] using h
      obtain rfl : i = l.length := by omega
      exact nil
    | cons x t ih =>
      intro i h hi
      have hlt : i < l.length := by
        rcases Nat.lt_or_ge i l.length with h' | h'
        · exact h'
        · rw [List.drop_eq_nil_of_le h'] at h; cases h
      have h2 := List.drop_eq_getElem_cons hlt
      rw [h] at h2
      injection h2 with h3 h4
      refine cons i x t hlt ?_ h h4.symm ?_
      · rw [List.getD_eq_getElem?_getD, List.getElem?_eq_getElem hlt]; exact h3.symm
      · have := ih (i + 1) h4.symm (by omega)
        rwa [show ((i + 1 : Nat) : Int) = (i : Int) + 1 from by omega] at this
  have := key l 0 rfl (Nat.zero_le _)
  rwa [show ((0 : Nat) : Int) = 0 from rfl] at this
theorem bt_data (s : ByteArray) (i : Nat) (h : i < s.size) : bt s (i : Int) = ((s.data.toList.getD i 0).toNat : Int) := by
  obtain ⟨d⟩ := s
  have h' : i < d.size := h
  have : bt ⟨d⟩ (i : Int) = ((d[i]).toNat : Int) := by
    unfold bt
    rw [dif_pos (show ((i : Int)).toNat < (⟨d⟩ : ByteArray).size from by simpa using h)]
    rfl
  rw [this]
  simp [h']
theorem size_data (s : ByteArray) : s.size = s.data.toList.length := by
  obtain ⟨d⟩ := s; simp [ByteArray.size]
theorem toList_data (s : ByteArray) : s.toList = s.data.toList := by
  rw [ByteArray.toList_eq]
theorem ext_data {s t : ByteArray} (h : s.toList = t.toList) : s = t := by
  rw [toList_data, toList_data] at h
  obtain ⟨⟨a⟩⟩ := s
  obtain ⟨⟨b⟩⟩ := t
  simp at h
  rw [h]
theorem toList_iff {s t : ByteArray} : s.toList = t.toList ↔ s = t := ⟨ext_data, fun h => by rw [h]⟩
theorem mem_drop {α : Type} {l t : List α} {x : α} {i : Nat} (h : l.drop i = x :: t) : x ∈ l := List.mem_of_mem_drop (i := i) (by rw [h]; simp)

/-! ### Decimal digits -/
theorem dec_length (n : Nat) : (Lib.decDigits n).length ≤ n + 1 := by
  induction n using Nat.strongRecOn with
  | ind n ih =>
    rw [Lib.decDigits]
    split
    · simp
    · have := ih (n / 10) (by omega)
      rw [List.length_append]
      simp only [List.length_cons, List.length_nil]
      omega

/-! ### Numbers in decimal -/
theorem digit_fin : ∀ n : Fin 10, strOfNums [(wrap64 (48 + (n.val : Int))) % 256] = ⟨#[UInt8.ofNat (48 + n.val)]⟩ := by decide +kernel
theorem digit_some {n : Nat} (h : n < 10) : strOfNums [(wrap64 (48 + (n : Int))) % 256] = ⟨#[UInt8.ofNat (48 + n)]⟩ := digit_fin ⟨n, h⟩
theorem num_some (n : Nat) : n < 4611686018427387904 → spec_l1Num.F (n : Int) = some ⟨(Lib.decDigits n).toArray⟩ := by
  induction n using Nat.strongRecOn with
  | ind n ih =>
    intro hn
    rw [spec_l1Num.F_eq]
    by_cases c : n < 10
    · rw [if_pos (by omega), Lib.decDigits_one c, digit_some c]
    · have t1 : (n : Int).tdiv 10 = ((n / 10 : Nat) : Int) := by rw [Int.tdiv_eq_ediv_of_nonneg (by omega)]; omega
      have t2 : (n : Int).tmod 10 = ((n % 10 : Nat) : Int) := by rw [Int.tmod_eq_emod_of_nonneg (by omega)]; omega
      have hl := dec_length (n / 10)
      rw [if_neg (by omega), t1, wrap_in (by omega) (by omega), ih (n / 10) (by omega) (by omega), Option.bind_some, Option.bind_some, t2, digit_some (by omega)]
      have e : Lib.decDigits n = Lib.decDigits (n / 10) ++ [UInt8.ofNat (48 + n % 10)] := by rw [Lib.decDigits, dif_neg c]
      rw [if_pos (by simp only [ByteArray.size, List.size_toArray, List.length_cons, List.length_nil]; omega), e]
      first
      | rfl
      | (congr 1; done)
      | (congr 1; apply ext_data; rw [toList_data, toList_data]; simp)


/-! ### Bounds -/
theorem within_at (a b c : Int) : impl_within.f a b c = some (decide (b ≤ a ∧ a ≤ c)) := by
  unfold impl_within.f
  by_cases h : b ≤ a
  · rw [if_pos h]; simp [h]
  · rw [if_neg h]; simp [h]
theorem l1In_at (a b c : Int) : spec_l1In.f a b c = some (decide (b ≤ a ∧ a ≤ c)) := by
  unfold spec_l1In.f
  by_cases h : b ≤ a
  · rw [if_pos h]; simp [h]
  · rw [if_neg h]; simp [h]

/-! ### Letters out of a list -/
/-- Are all letters out of a list? -/
def allOf (g : List Nat) (s : ByteArray) : Bool := s.data.toList.all fun x => g.contains x.toNat
def FitsI (g : List Nat) (m : ByteArray) : Prop := ∀ n : Fin 256, decide (Lib.indexByte m.data.toList n.val.toUInt8 < 0) = !g.contains n.val
instance (g : List Nat) (m : ByteArray) : Decidable (FitsI g m) := by unfold FitsI; infer_instance
theorem only_some (g : List Nat) (s m : ByteArray) (hs : s.size ≤ 9223372036854775807) (hm : FitsI g m) : impl_hasOnly.F s m = some (allOf g s) := by
  rw [impl_hasOnly.F_eq]
  refine each (L := fun i => impl_hasOnly.L0 s m s.size i) s.data.toList 0 (fun _ t o => o = some (t.all fun x => g.contains x.toNat)) ?_ ?_
  · show impl_hasOnly.L0 s m _ _ = _
    rw [impl_hasOnly.L0_eq, if_neg (by rw [← size_data]; omega)]; rfl
  · intro i x t hi' hx _ _ ih
    have hi2 : i < s.size := by rw [size_data]; exact hi'
    have hb := hm ⟨x.toNat, x.toNat_lt⟩
    show impl_hasOnly.L0 s m _ _ = _
    rw [impl_hasOnly.L0_eq, if_pos (by omega), if_pos (by omega), if_pos (by omega), bt_data s i hi2, hx, wrap_in (by omega) (by omega)]
    simp only [strings_IndexByte.f, stringslite_IndexByte.f, Option.bind_some, Int.toNat_natCast, List.all_cons]
    simp only at hb
    cases h1 : g.contains x.toNat
    · rw [h1] at hb
      rw [if_pos (by simpa using hb)]; rfl
    · rw [h1] at hb
      rw [if_neg (by simpa using hb), ih]; rfl

/-! ### Steps -/
def dirs : List Nat := [117, 100, 108, 114, 102, 98]
def dirB : ByteArray := ⟨#[117, 100, 108, 114, 102, 98]⟩
theorem mvIndex_some (v : Nat) : ∃ r, spec_mvIndex.F (v : Int) = some r ∧ decide (r < 0) = !dirs.contains v := by
  rw [spec_mvIndex.F_eq]
  have := each (L := fun i => spec_mvIndex.L0 v i) dirB.data.toList 0 (fun i t o => ∃ r, o = some r ∧ decide (r < 0) = !(t.any fun x => decide (x.toNat = v))) ?_ ?_
  · obtain ⟨r, h1, h2⟩ := this
    refine ⟨r, h1, h2.trans ?_⟩
    congr 1
    simp [dirB, dirs, eq_comm]
  · refine ⟨-1, ?_, rfl⟩
    show spec_mvIndex.L0 v _ = _
    rw [spec_mvIndex.L0_eq]
    rfl
  · intro i x t hi' hx _ _ ih
    have hi2 : i < dirB.size := by rw [size_data]; exact hi'
    show ∃ r, spec_mvIndex.L0 v _ = _ ∧ _
    rw [spec_mvIndex.L0_eq]
    simp only [spec_mvLetters.f, Option.bind_some]
    have hz : dirB.size = 6 := rfl
    show ∃ r, (if (i : Int) < (dirB.size : Int) then (if 0 ≤ (i : Int) then (if (i : Int) < (dirB.size : Int) then (if bt dirB (i : Int) = (v : Int) then _ else _) else _) else _) else _) = _ ∧ _
    rw [if_pos (by omega), if_pos (by omega), if_pos (by omega), bt_data dirB i hi2, hx, wrap_in (by omega) (by omega), List.any_cons]
    by_cases h1 : x.toNat = v
    · rw [if_pos (by omega)]; exact ⟨i, rfl, by simp [h1]⟩
    · rw [if_neg (by omega)]; simpa [h1] using ih
theorem mvSteps_some (s : ByteArray) (hs : s.size ≤ 9223372036854775807) : spec_mvSteps.F s = some (allOf dirs s) := by
  rw [spec_mvSteps.F_eq]
  refine each (L := fun i => spec_mvSteps.L0 s i) s.data.toList 0 (fun _ t o => o = some (t.all fun x => dirs.contains x.toNat)) ?_ ?_
  · show spec_mvSteps.L0 s _ = _
    rw [spec_mvSteps.L0_eq, if_neg (by rw [← size_data]; omega)]; rfl
  · intro i x t hi' hx _ _ ih
    have hi2 : i < s.size := by rw [size_data]; exact hi'
    obtain ⟨r, h1, h2⟩ := mvIndex_some x.toNat
    show spec_mvSteps.L0 s _ = _
    rw [spec_mvSteps.L0_eq, if_pos (by omega), if_pos (by omega), bt_data s i hi2, hx, wrap_in (by omega) (by omega), h1, Option.bind_some, List.all_cons]
    cases hc : dirs.contains x.toNat
    · rw [hc] at h2
      rw [if_pos (by simpa using h2)]; rfl
    · rw [hc] at h2
      rw [if_neg (by simpa using h2), ih]; rfl
theorem FnExactMoveText : laws_FnExactMoveText.Pure := by
  intro a n hw
  have ha : a.size ≤ 9223372036854775807 := by
    simp only [Wf29] at hw; omega
  refine lim_rounds (?_ : laws_FnExactMoveText.F a n = some true)
  rw [laws_FnExactMoveText.F_eq]
  obtain ⟨t, ht⟩ : ∃ t, laws_szMove.f a n 1048576 = some t := by
    unfold laws_szMove.f
    split
    · exact ⟨_, rfl⟩
    · exact ⟨_, rfl⟩
  rw [ht, Option.bind_some]
  by_cases h3 : t < 0
  · rw [if_pos h3]
  rw [if_neg h3]
  simp only [laws_toMove.f, Option.bind_some]
  have good : spec_mvGood.F a n = impl_IsMove.F a n := by
    rw [spec_mvGood.F_eq, impl_IsMove.F_eq, mvSteps_some a ha, only_some dirs a _ ha (by decide +kernel), l1In_at, within_at]
  have key : ∃ R, spec_MoveText.F a n = some R ∧ impl_MoveText.F a n = some R := by
    rw [spec_MoveText.F_eq, impl_MoveText.F_eq, good, impl_IsMove.F_eq, only_some dirs a _ ha (by decide +kernel), within_at]
    by_cases c1 : (a.size : Int) ≤ 6
    case neg => rw [if_neg c1]; exact ⟨_, rfl, rfl⟩
    rw [if_pos c1, Option.bind_some]
    cases allOf dirs a
    · exact ⟨_, rfl, rfl⟩
    rw [if_pos rfl, Option.bind_some]
    by_cases c2 : 1 ≤ n ∧ n ≤ 3
    case neg => rw [decide_eq_false c2]; exact ⟨_, rfl, rfl⟩
    rw [decide_eq_true c2, if_pos rfl, spec_mvText.F_eq]
    unfold impl_Move_text.f
    by_cases c3 : a.toList = []
    · rw [if_pos c3, if_pos c3, if_pos c3]
      cases (n == 1)
      · exact ⟨_, rfl, rfl⟩
      · exact ⟨_, rfl, rfl⟩
    rw [if_neg c3, if_neg c3, if_neg c3]
    simp only [Option.bind_some, if_true]
    by_cases c4 : n = 1
    · subst c4; exact ⟨_, rfl, rfl⟩
    obtain ⟨m, rfl⟩ := Int.eq_ofNat_of_zero_le (show 0 ≤ n by omega)
    have hl := dec_length m
    have hd : (⟨(Lib.decDigits m).toArray⟩ : ByteArray).size = (Lib.decDigits m).length := by simp [ByteArray.size]
    have one : ((⟨#[42]⟩ : ByteArray)).size = 1 := rfl
    unfold strconv_Itoa.f
    rw [if_pos (show (m : Int) > 1 by omega), if_neg c4, if_pos (by omega), if_pos (by omega), num_some m (by omega), if_pos ⟨by omega, by omega⟩, Int.toNat_natCast]
    simp only [Option.bind_some]
    rw [if_pos (by rw [ByteArray.size_append, hd]; omega)]
    exact ⟨_, rfl, rfl⟩
  obtain ⟨R, k1, k2⟩ := key
  simp only [k1, k2, Option.bind_some, if_true, bne_self_eq_false, Bool.false_eq_true, if_false]

end Go.Proofs.YtmffndjbpealmaaDoor.Pure
