/- The pure statement of the law FnExactConstraintText: for all arguments within their bounds its Lean function answers true. -/
import Derived.Test.YtmlpogmedglncaaDoorPFnExactConstraintTextxD0
namespace Go.Proofs.YtmlpogmedglncaaDoor.Pure
open Go.RowKit Go.Proofs.YtmlpogmedglncaaDoor.PFnExactConstraintText Go.Proofs.YtmlpogmedglncaaDoorW.PrintWords Go.Proofs.YtmlpogmedglncaaDoorW.PrintLast
set_option linter.unusedVariables false
set_option linter.unusedSimpArgs false
/-! ### Numbers, loops, letters -/
theorem wrap_in {x : Int} (h0 : -9223372036854775808 ≤ x) (h1 : x ≤ 9223372036854775807) : wrap64 x = x := by
  unfold wrap64; omega
theorem wf_i64 {n : Int} (h : (Lit.int .i64 n).wf = true) : -9223372036854775808 ≤ n ∧ n ≤ 9223372036854775807 := by
  simpa [Lit.wf, IntKind.min, IntKind.max, IntKind.signed, IntKind.bits] using h
/-- A loop over a list, from its end. L: what the loop tells from place i on. -/
theorem each {α γ : Type} (L : Int → γ) (l : List α) (z : α) (R : Nat → List α → γ → Prop) (nil : R l.length [] (L l.length))
    (cons : ∀ (i : Nat) (x : α) (t : List α), i < l.length → l.getD i z = x → l.drop i = x :: t → l.drop (i + 1) = t → R (i + 1) t (L ((i : Int) + 1)) → R i (x :: t) (L i)) : R 0 l (L 0) := by
  have key : ∀ (t : List α) (i : Nat), l.drop i = t → i ≤ l.length → R i t (L i) := by
    intro t
    induction t with
    | nil =>
      intro i h hi
      have : l.length ≤ i := by simpa [List.drop_eq_nil_iff] using h
      obtain rfl : i = l.length := by omega
      exact nil
    | cons x t ih =>
      intro i h hi
      have hlt : i < l.length := by
        rcases Nat.lt_or_ge i l.length with h' | h'
        · exact h'
        · rw [List.drop_eq_nil_of_le h'] at h; cases h
      have h2 := List.drop_eq_getElem_cons hlt
      rw [h] at h2
      injection h2 with h3 h4
      refine cons i x t hlt ?_ h h4.symm ?_
      · rw [List.getD_eq_getElem?_getD, List.getElem?_eq_getElem hlt]; exact h3.symm
      · have := ih (i + 1) h4.symm (by omega)
        rwa [show ((i + 1 : Nat) : Int) = (i : Int) + 1 from by omega] at this
  have := key l 0 rfl (Nat.zero_le _)
  rwa [show ((0 : Nat) : Int) = 0 from rfl] at this
theorem bt_data (s : ByteArray) (i : Nat) (h : i < s.size) : bt s (i : Int) = ((s.data.toList.getD i 0).toNat : Int) := by
  obtain ⟨d⟩ := s
  have h' : i < d.size := h
  have : bt ⟨d⟩ (i : Int) = ((d[i]).toNat : Int) := by
    unfold bt
    rw [dif_pos (show ((i : Int)).toNat < (⟨d⟩ : ByteArray).size from by simpa using h)]
    rfl
  rw [this]
  simp [h']
theorem size_data (s : ByteArray) : s.size = s.data.toList.length := by
  obtain ⟨d⟩ := s; simp [ByteArray.size]
theorem toList_data (s : ByteArray) : s.toList = s.data.toList := by
  rw [ByteArray.toList_eq]
theorem ext_data {s t : ByteArray} (h : s.toList = t.toList) : s = t := by
  rw [toList_data, toList_data] at h
  obtain ⟨⟨a⟩⟩ := s
  obtain ⟨⟨b⟩⟩ := t
  simp at h
  rw [h]
theorem toList_iff {s t : ByteArray} : s.toList = t.toList ↔ s = t := ⟨ext_data, fun h => by rw [h]⟩
theorem mem_drop {α : Type} {l t : List α} {x : α} {i : Nat} (h : l.drop i = x :: t) : x ∈ l := List.mem_of_mem_drop (i := i) (by rw [h]; simp)

/-! ### Decimal digits -/
theorem dec_length (n : Nat) : (Lib.decDigits n).length ≤ n + 1 := by
  induction n using Nat.strongRecOn with
  | ind n ih =>
    rw [Lib.decDigits]
    split
    · simp
    · have := ih (n / 10) (by omega)
      rw [List.length_append]
      simp only [List.length_cons, List.length_nil]
      omega

/-! ### Numbers in decimal -/
theorem digit_fin : ∀ n : Fin 10, strOfNums [(wrap64 (48 + (n.val : Int))) % 256] = ⟨#[UInt8.ofNat (48 + n.val)]⟩ := by decide +kernel
theorem digit_some {n : Nat} (h : n < 10) : strOfNums [(wrap64 (48 + (n : Int))) % 256] = ⟨#[UInt8.ofNat (48 + n)]⟩ := digit_fin ⟨n, h⟩
theorem num_some (n : Nat) : n < 4611686018427387904 → spec_l1Num.F (n : Int) = some ⟨(Lib.decDigits n).toArray⟩ := by
  induction n using Nat.strongRecOn with
  | ind n ih =>
    intro hn
    rw [spec_l1Num.F_eq]
    by_cases c : n < 10
    · rw [if_pos (by omega), Lib.decDigits_one c, digit_some c]
    · have t1 : (n : Int).tdiv 10 = ((n / 10 : Nat) : Int) := by rw [Int.tdiv_eq_ediv_of_nonneg (by omega)]; omega
      have t2 : (n : Int).tmod 10 = ((n % 10 : Nat) : Int) := by rw [Int.tmod_eq_emod_of_nonneg (by omega)]; omega
      have hl := dec_length (n / 10)
      rw [if_neg (by omega), t1, wrap_in (by omega) (by omega), ih (n / 10) (by omega) (by omega), Option.bind_some, Option.bind_some, t2, digit_some (by omega)]
      have e : Lib.decDigits n = Lib.decDigits (n / 10) ++ [UInt8.ofNat (48 + n % 10)] := by rw [Lib.decDigits, dif_neg c]
      rw [if_pos (by simp only [ByteArray.size, List.size_toArray, List.length_cons, List.length_nil]; omega), e]
      first
      | rfl
      | (congr 1; done)
      | (congr 1; apply ext_data; rw [toList_data, toList_data]; simp)


theorem l1In_some (a b c : Int) : spec_l1In.f a b c = some (decide (b ≤ a ∧ a ≤ c)) := by
  unfold spec_l1In.f
  by_cases h : a ≥ b
  · rw [if_pos h]; congr 1; simp; omega
  · rw [if_neg h]; congr 1; symm; simp; omega

def okC (a b : Int) : Bool := if 0 ≤ a ∧ a ≤ 4 then decide (0 ≤ b ∧ b ≤ ([18, 9, 4, 3, 9] : List Int).getD a.toNat 0) else false
theorem kinds {a : Int} (h : 0 ≤ a ∧ a ≤ 4) : a = 0 ∨ a = 1 ∨ a = 2 ∨ a = 3 ∨ a = 4 := by omega
theorem ruGood_at (a b M : Int) (ha : 0 ≤ a ∧ a ≤ 4) (hM : spec_ruMost.f a = some M) (h3 : a = 3 → M = 3) : spec_ruGood.f a b = some (decide (0 ≤ b ∧ b ≤ M)) := by
  unfold spec_ruGood.f
  simp only [l1In_some, Option.bind_some, hM]
  rw [if_pos (by simpa using ha)]
  by_cases hb : 0 ≤ b ∧ b ≤ M
  · rw [if_pos (by simpa using hb)]
    by_cases c : a = 3
    · rw [if_pos c, ← h3 c]
    · rw [if_neg c]; simp [hb]
  · rw [if_neg (by simpa using hb)]; simp only [hb, decide_false]
theorem ruGood_some (a b : Int) : spec_ruGood.f a b = some (okC a b) := by
  by_cases h : 0 ≤ a ∧ a ≤ 4
  · unfold okC
    rw [if_pos h]
    rcases kinds h with rfl | rfl | rfl | rfl | rfl
    · exact ruGood_at 0 b 18 (by omega) (by kernel_rfl) (by omega)
    · exact ruGood_at 1 b 9 (by omega) (by kernel_rfl) (by omega)
    · exact ruGood_at 2 b 4 (by omega) (by kernel_rfl) (by omega)
    · exact ruGood_at 3 b 3 (by omega) (by kernel_rfl) (by omega)
    · exact ruGood_at 4 b 9 (by omega) (by kernel_rfl) (by omega)
  · unfold spec_ruGood.f okC
    simp only [l1In_some, Option.bind_some]
    simp [h]
theorem bound5 {a b : Int} (h : okC a b = true) : (0 ≤ a ∧ a ≤ 4) ∧ 0 ≤ b ∧ b < 100 := by
  unfold okC at h
  split at h
  case isFalse => cases h
  case isTrue ha =>
    refine ⟨ha, ?_⟩
    simp only [decide_eq_true_eq] at h
    rcases kinds ha with rfl | rfl | rfl | rfl | rfl <;> (simp at h; omega)

theorem FnExactConstraintText : laws_FnExactConstraintText.Pure := by
  intro a b _
  refine lim_rounds (?_ : laws_FnExactConstraintText.F a b = some true)
  rw [laws_FnExactConstraintText.F_eq]
  have hi : impl_IsConstraint.f a b = some (okC a b) := rfl
  simp only [laws_toConstraint.f, Option.bind_some, spec_ConstraintText.F_eq, ruGood_some, impl_ConstraintText.f, hi]
  cases h : okC a b
  · simp
  · obtain ⟨ha, hb0, hb1⟩ := bound5 h
    obtain ⟨n, rfl⟩ := Int.eq_ofNat_of_zero_le hb0
    have hl := dec_length n
    have hd : (⟨(Lib.decDigits n).toArray⟩ : ByteArray).size = (Lib.decDigits n).length := by simp [ByteArray.size]
    have hx : impl_Constraint_text.f a n = some ((impl_Constraint_text.nm a.toNat ++ ⟨#[61]⟩) ++ ⟨(Lib.decDigits n).toArray⟩) := by
      unfold impl_Constraint_text.f
      rw [if_pos ⟨ha.1, ha.2, hb0, hb1⟩, Int.toNat_natCast]
    have hr : ∀ l : List ByteArray, l = [(⟨#[115, 116, 101, 112, 115]⟩ : ByteArray), (⟨#[114, 101, 103, 105, 111, 110]⟩ : ByteArray), (⟨#[111, 112, 101, 110]⟩ : ByteArray), (⟨#[107, 105, 110, 100]⟩ : ByteArray), (⟨#[98, 101, 108, 111, 119]⟩ : ByteArray)] → rdOf ByteArray.empty l a = impl_Constraint_text.nm a.toNat := fun l hl => by subst hl; rfl
    have hs : (impl_Constraint_text.nm a.toNat).size ≤ 6 := by
      rcases kinds ha with rfl | rfl | rfl | rfl | rfl <;> decide
    simp only [if_true, hx, Option.bind_some, spec_ruNames.f, ha.1, num_some n (by omega)]
    rw [hr _ rfl, if_pos (by simp; omega), if_pos (by omega), if_pos (by rw [ByteArray.size_append, hd]; show _ + 1 + _ ≤ _; omega)]
    simp

end Go.Proofs.YtmlpogmedglncaaDoor.Pure
