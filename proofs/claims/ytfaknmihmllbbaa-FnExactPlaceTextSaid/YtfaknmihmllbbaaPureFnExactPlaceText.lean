/- The pure statement of the law FnExactPlaceText: for all arguments within their bounds its Lean function answers true. -/
import Derived.Test.YtfaknmihmllbbaaPFnExactPlaceTextxD0
namespace Go.Proofs.Ytfaknmihmllbbaa.Pure
open Go.RowKit Go.Proofs.Ytfaknmihmllbbaa.PFnExactPlaceText Go.Proofs.YtfaknmihmllbbaaW.PrintWords Go.Proofs.YtfaknmihmllbbaaW.PrintLast
set_option linter.unusedVariables false
set_option linter.unusedSimpArgs false
/-! ### Numbers, loops, letters -/
theorem wrap_in {x : Int} (h0 : -9223372036854775808 ≤ x) (h1 : x ≤ 9223372036854775807) : wrap64 x = x := by
  unfold wrap64; omega
theorem wf_i64 {n : Int} (h : (Lit.int .i64 n).wf = true) : -9223372036854775808 ≤ n ∧ n ≤ 9223372036854775807 := by
  simpa [Lit.wf, IntKind.min, IntKind.max, IntKind.signed, IntKind.bits] using h
/-- A loop over a list, from its end. L: what the loop tells from place i on. -/
theorem each {α γ : Type} (L : Int → γ) (l : List α) (z : α) (R : Nat → List α → γ → Prop) (nil : R l.length [] (L l.length))
    (cons : ∀ (i : Nat) (x : α) (t : List α), i < l.length → l.getD i z = x → l.drop i = x :: t → l.drop (i + 1) = t → R (i + 1) t (L ((i : Int) + 1)) → R i (x :: t) (L i)) : R 0 l (L 0) := by
  have key : ∀ (t : List α) (i : Nat), l.drop i = t → i ≤ l.length → R i t (L i) := by
    intro t
    induction t with
    | nil =>
      intro i h hi
      have : l.length ≤ i := by simpa [List.drop_eq_nil_iff] using h
      obtain rfl : i = l.length := by omega
      exact nil
    | cons x t ih =>
      intro i h hi
      have hlt : i < l.length := by
        rcases Nat.lt_or_ge i l.length with h' | h'
        · exact h'
        · rw [List.drop_eq_nil_of_le h'] at h; cases h
      have h2 := List.drop_eq_getElem_cons hlt
      rw [h] at h2
      injection h2 with h3 h4
      refine cons i x t hlt ?_ h h4.symm ?_
      · rw [List.getD_eq_getElem?_getD, List.getElem?_eq_getElem hlt]; exact h3.symm
      · have := ih (i + 1) h4.symm (by omega)
        rwa [show ((i + 1 : Nat) : Int) = (i : Int) + 1 from by omega] at this
  have := key l 0 rfl (Nat.zero_le _)
  rwa [show ((0 : Nat) : Int) = 0 from rfl] at this
theorem bt_data (s : ByteArray) (i : Nat) (h : i < s.size) : bt s (i : Int) = ((s.data.toList.getD i 0).toNat : Int) := by
  obtain ⟨d⟩ := s
  have h' : i < d.size := h
  have : bt ⟨d⟩ (i : Int) = ((d[i]).toNat : Int) := by
    unfold bt
    rw [dif_pos (show ((i : Int)).toNat < (⟨d⟩ : ByteArray).size from by simpa using h)]
    rfl
  rw [this]
  simp [h']
theorem size_data (s : ByteArray) : s.size = s.data.toList.length := by
  obtain ⟨d⟩ := s; simp [ByteArray.size]
theorem toList_data (s : ByteArray) : s.toList = s.data.toList := by
  rw [ByteArray.toList_eq]
theorem ext_data {s t : ByteArray} (h : s.toList = t.toList) : s = t := by
  rw [toList_data, toList_data] at h
  obtain ⟨⟨a⟩⟩ := s
  obtain ⟨⟨b⟩⟩ := t
  simp at h
  rw [h]
theorem toList_iff {s t : ByteArray} : s.toList = t.toList ↔ s = t := ⟨ext_data, fun h => by rw [h]⟩
theorem mem_drop {α : Type} {l t : List α} {x : α} {i : Nat} (h : l.drop i = x :: t) : x ∈ l := List.mem_of_mem_drop (i := i) (by rw [h]; simp)

/-! ### Places and their names -/
def isPl (a b : Int) (c : Bool) : Bool := decide (0 ≤ a ∧ a ≤ 9) && (decide (-1 ≤ b ∧ b ≤ 1) && (!c || decide (a > 0)))
theorem l1In_some (a b c : Int) : spec_l1In.f a b c = some (decide (b ≤ a ∧ a ≤ c)) := by
  unfold spec_l1In.f
  by_cases h : a ≥ b
  · rw [if_pos h]; congr 1; simp; omega
  · rw [if_neg h]; congr 1; symm; simp; omega
theorem within_some (a b c : Int) : impl_within.f a b c = some (decide (b ≤ a ∧ a ≤ c)) := by
  unfold impl_within.f
  by_cases h : a ≥ b
  · rw [if_pos h]; congr 1; simp; omega
  · rw [if_neg h]; congr 1; symm; simp; omega
theorem plGood_some (a b : Int) (c : Bool) : spec_plGood.f a b c = some (isPl a b c) := by
  unfold spec_plGood.f isPl
  rw [l1In_some, l1In_some, Option.bind_some, Option.bind_some]
  by_cases h1 : 0 ≤ a ∧ a ≤ 9 <;> by_cases h2 : -1 ≤ b ∧ b ≤ 1 <;> by_cases h3 : a > 0 <;> cases c <;> simp [h1, h2, h3]
theorem isPlace_some (a b : Int) (c : Bool) : impl_IsPlace.f a b c = some (isPl a b c) := by
  unfold impl_IsPlace.f isPl
  rw [within_some, within_some, Option.bind_some, Option.bind_some]
  by_cases h1 : 0 ≤ a ∧ a ≤ 9
  · have h4 : (a > 0) ↔ ¬ a = 0 := by omega
    by_cases h2 : -1 ≤ b ∧ b ≤ 1 <;> by_cases h3 : a = 0 <;> cases c <;> simp [h1, h2, h3, h4]
  · simp [h1]
theorem nm_size (n : Nat) : (impl_Place_text.nm n).size ≤ 5 := by
  by_cases h : n < 10
  · have : n = 0 ∨ n = 1 ∨ n = 2 ∨ n = 3 ∨ n = 4 ∨ n = 5 ∨ n = 6 ∨ n = 7 ∨ n = 8 ∨ n = 9 := by omega
    rcases this with rfl | rfl | rfl | rfl | rfl | rfl | rfl | rfl | rfl | rfl <;> decide
  · unfold impl_Place_text.nm
    rw [List.getD_eq_getElem?_getD, List.getElem?_eq_none (by simpa using h)]
    decide
theorem app_nil (s : ByteArray) : s ++ (⟨#[]⟩ : ByteArray) = s := by
  apply ext_data
  rw [toList_data, toList_data]
  simp
def plTxt (a b : Int) (c : Bool) : ByteArray :=
  let s := impl_Place_text.nm a.toNat ++ (if b = -1 then ⟨#[60]⟩ else if b = 1 then ⟨#[62]⟩ else ⟨#[]⟩ : ByteArray)
  if c then s ++ ⟨#[42]⟩ else s
theorem plText_some (a b : Int) (c : Bool) (h : isPl a b c = true) : spec_plText.f a b c = some (plTxt a b c) := by
  unfold isPl at h
  simp only [Bool.and_eq_true, decide_eq_true_eq] at h
  obtain ⟨⟨h1, h2⟩, ⟨h3, h4⟩, _⟩ := h
  have hr : ∀ l d, l = [(⟨#[115, 112, 97, 99, 101]⟩ : ByteArray), ⟨#[104, 101, 97, 100]⟩, ⟨#[101, 121, 101]⟩, ⟨#[99, 104, 101, 101, 107]⟩, ⟨#[109, 111, 117, 116, 104]⟩, ⟨#[99, 104, 105, 110]⟩, ⟨#[110, 101, 99, 107]⟩, ⟨#[99, 104, 101, 115, 116]⟩, ⟨#[119, 97, 105, 115, 116]⟩, ⟨#[104, 105, 112]⟩] → d = (⟨#[]⟩ : ByteArray) → rdOf d l a = impl_Place_text.nm a.toNat := by
    intro l d h5 h6; subst h5 h6; rfl
  unfold spec_plText.f spec_plNames.f plTxt
  have hs := nm_size a.toNat
  rw [Option.bind_some, if_pos h1, if_pos (by simp; omega), hr _ ByteArray.empty rfl rfl]
  generalize impl_Place_text.nm a.toNat = s at hs
  have e : ∀ x : ByteArray, (s ++ x).size = s.size + x.size := fun x => ByteArray.size_append
  by_cases c1 : b = -1
  · subst c1
    rw [if_pos rfl, if_pos rfl, if_pos (by omega)]
    cases c
    · rfl
    · rw [if_pos rfl, if_pos (by rw [e]; show s.size + 1 + 1 ≤ _; omega)]; rfl
  rw [if_neg c1, if_neg c1]
  by_cases c2 : b = 1
  · subst c2
    rw [if_pos rfl, if_pos rfl, if_pos (by omega)]
    cases c
    · rfl
    · rw [if_pos rfl, if_pos (by rw [e]; show s.size + 1 + 1 ≤ _; omega)]; rfl
  rw [if_neg c2, if_neg c2, app_nil]
  cases c
  · rfl
  · rw [if_pos rfl, if_pos (by omega)]; rfl
theorem Place_text_some (a b : Int) (c : Bool) (h : isPl a b c = true) : impl_Place_text.f a b c = some (plTxt a b c) := by
  unfold isPl at h
  simp only [Bool.and_eq_true, decide_eq_true_eq] at h
  obtain ⟨⟨h1, h2⟩, ⟨h3, h4⟩, _⟩ := h
  unfold impl_Place_text.f plTxt
  rw [if_pos ⟨h1, h2⟩]
  by_cases c1 : b = -1
  · subst c1; rfl
  rw [if_neg c1, if_neg c1]
  by_cases c2 : b = 0
  · subst c2; rfl
  obtain rfl : b = 1 := by omega
  rfl

theorem FnExactPlaceText : laws_FnExactPlaceText.Pure := by
  intro a b c _
  unfold laws_FnExactPlaceText.f laws_toPlace.f spec_PlaceText.f impl_PlaceText.f
  simp only [Option.bind_some, plGood_some, isPlace_some]
  by_cases h : isPl a b c = true
  · simp [h, plText_some a b c h, Place_text_some a b c h]
  · simp [h]

end Go.Proofs.Ytfaknmihmllbbaa.Pure
