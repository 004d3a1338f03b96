/- The pure statement of the law FnExactParsePlace: for all arguments within their bounds its Lean function answers true. -/
import Derived.Test.YtfaknmihmllbbaaPFnExactParsePlacexD0
namespace Go.Proofs.Ytfaknmihmllbbaa.Pure
open Go.RowKit Go.Proofs.Ytfaknmihmllbbaa.PFnExactParsePlace Go.Proofs.YtfaknmihmllbbaaW.PrintWords Go.Proofs.YtfaknmihmllbbaaW.PrintLast
set_option linter.unusedVariables false
set_option linter.unusedSimpArgs false
/-! ### Numbers, loops, letters -/
theorem wrap_in {x : Int} (h0 : -9223372036854775808 ≤ x) (h1 : x ≤ 9223372036854775807) : wrap64 x = x := by
  unfold wrap64; omega
theorem wf_i64 {n : Int} (h : (Lit.int .i64 n).wf = true) : -9223372036854775808 ≤ n ∧ n ≤ 9223372036854775807 := by
  simpa [Lit.wf, IntKind.min, IntKind.max, IntKind.signed, IntKind.bits] using h
/-- A loop over a list, from its end. L: what the loop tells from place i on. -/
theorem each {α γ : Type} (L : Int → γ) (l : List α) (z : α) (R : Nat → List α → γ → Prop) (nil : R l.length [] (L l.length))
    (cons : ∀ (i : Nat) (x : α) (t : List α), i < l.length → l.getD i z = x → l.drop i = x :: t → l.drop (i + 1) = t → R (i + 1) t (L ((i : Int) + 1)) → R i (x :: t) (L i)) : R 0 l (L 0) := by
  have key : ∀ (t : List α) (i : Nat), l.drop i = t → i ≤ l.length → R i t (L i) := by
    intro t
    induction t with
    | nil =>
      intro i h hi
      have : l.length ≤ i := by simpa [List.drop_eq_nil_iff] using h
      obtain rfl : i = l.length := by omega
      exact nil
    | cons x t ih =>
      intro i h hi
      have hlt : i < l.length := by
        rcases Nat.lt_or_ge i l.length with h' | h'
        · exact h'
        · rw [List.drop_eq_nil_of_le h'] at h; cases h
      have h2 := List.drop_eq_getElem_cons hlt
      rw [h] at h2
      injection h2 with h3 h4
      refine cons i x t hlt ?_ h h4.symm ?_
      · rw [List.getD_eq_getElem?_getD, List.getElem?_eq_getElem hlt]; exact h3.symm
      · have := ih (i + 1) h4.symm (by omega)
        rwa [show ((i + 1 : Nat) : Int) = (i : Int) + 1 from by omega] at this
  have := key l 0 rfl (Nat.zero_le _)
  rwa [show ((0 : Nat) : Int) = 0 from rfl] at this
theorem bt_data (s : ByteArray) (i : Nat) (h : i < s.size) : bt s (i : Int) = ((s.data.toList.getD i 0).toNat : Int) := by
  obtain ⟨d⟩ := s
  have h' : i < d.size := h
  have : bt ⟨d⟩ (i : Int) = ((d[i]).toNat : Int) := by
    unfold bt
    rw [dif_pos (show ((i : Int)).toNat < (⟨d⟩ : ByteArray).size from by simpa using h)]
    rfl
  rw [this]
  simp [h']
theorem size_data (s : ByteArray) : s.size = s.data.toList.length := by
  obtain ⟨d⟩ := s; simp [ByteArray.size]
theorem toList_data (s : ByteArray) : s.toList = s.data.toList := by
  rw [ByteArray.toList_eq]
theorem ext_data {s t : ByteArray} (h : s.toList = t.toList) : s = t := by
  rw [toList_data, toList_data] at h
  obtain ⟨⟨a⟩⟩ := s
  obtain ⟨⟨b⟩⟩ := t
  simp at h
  rw [h]
theorem toList_iff {s t : ByteArray} : s.toList = t.toList ↔ s = t := ⟨ext_data, fun h => by rw [h]⟩
theorem mem_drop {α : Type} {l t : List α} {x : α} {i : Nat} (h : l.drop i = x :: t) : x ∈ l := List.mem_of_mem_drop (i := i) (by rw [h]; simp)

/-! ### Places and their names -/
def isPl (a b : Int) (c : Bool) : Bool := decide (0 ≤ a ∧ a ≤ 9) && (decide (-1 ≤ b ∧ b ≤ 1) && (!c || decide (a > 0)))
theorem l1In_some (a b c : Int) : spec_l1In.f a b c = some (decide (b ≤ a ∧ a ≤ c)) := by
  unfold spec_l1In.f
  by_cases h : a ≥ b
  · rw [if_pos h]; congr 1; simp; omega
  · rw [if_neg h]; congr 1; symm; simp; omega
theorem within_some (a b c : Int) : impl_within.f a b c = some (decide (b ≤ a ∧ a ≤ c)) := by
  unfold impl_within.f
  by_cases h : a ≥ b
  · rw [if_pos h]; congr 1; simp; omega
  · rw [if_neg h]; congr 1; symm; simp; omega
theorem plGood_some (a b : Int) (c : Bool) : spec_plGood.f a b c = some (isPl a b c) := by
  unfold spec_plGood.f isPl
  rw [l1In_some, l1In_some, Option.bind_some, Option.bind_some]
  by_cases h1 : 0 ≤ a ∧ a ≤ 9 <;> by_cases h2 : -1 ≤ b ∧ b ≤ 1 <;> by_cases h3 : a > 0 <;> cases c <;> simp [h1, h2, h3]
theorem isPlace_some (a b : Int) (c : Bool) : impl_IsPlace.f a b c = some (isPl a b c) := by
  unfold impl_IsPlace.f isPl
  rw [within_some, within_some, Option.bind_some, Option.bind_some]
  by_cases h1 : 0 ≤ a ∧ a ≤ 9
  · have h4 : (a > 0) ↔ ¬ a = 0 := by omega
    by_cases h2 : -1 ≤ b ∧ b ≤ 1 <;> by_cases h3 : a = 0 <;> cases c <;> simp [h1, h2, h3, h4]
  · simp [h1]
theorem nm_size (n : Nat) : (impl_Place_text.nm n).size ≤ 5 := by
  by_cases h : n < 10
  · have : n = 0 ∨ n = 1 ∨ n = 2 ∨ n = 3 ∨ n = 4 ∨ n = 5 ∨ n = 6 ∨ n = 7 ∨ n = 8 ∨ n = 9 := by omega
    rcases this with rfl | rfl | rfl | rfl | rfl | rfl | rfl | rfl | rfl | rfl <;> decide
  · unfold impl_Place_text.nm
    rw [List.getD_eq_getElem?_getD, List.getElem?_eq_none (by simpa using h)]
    decide
theorem app_nil (s : ByteArray) : s ++ (⟨#[]⟩ : ByteArray) = s := by
  apply ext_data
  rw [toList_data, toList_data]
  simp
def plTxt (a b : Int) (c : Bool) : ByteArray :=
  let s := impl_Place_text.nm a.toNat ++ (if b = -1 then ⟨#[60]⟩ else if b = 1 then ⟨#[62]⟩ else ⟨#[]⟩ : ByteArray)
  if c then s ++ ⟨#[42]⟩ else s
theorem plText_some (a b : Int) (c : Bool) (h : isPl a b c = true) : spec_plText.f a b c = some (plTxt a b c) := by
  unfold isPl at h
  simp only [Bool.and_eq_true, decide_eq_true_eq] at h
  obtain ⟨⟨h1, h2⟩, ⟨h3, h4⟩, _⟩ := h
  have hr : ∀ l d, l = [(⟨#[115, 112, 97, 99, 101]⟩ : ByteArray), ⟨#[104, 101, 97, 100]⟩, ⟨#[101, 121, 101]⟩, ⟨#[99, 104, 101, 101, 107]⟩, ⟨#[109, 111, 117, 116, 104]⟩, ⟨#[99, 104, 105, 110]⟩, ⟨#[110, 101, 99, 107]⟩, ⟨#[99, 104, 101, 115, 116]⟩, ⟨#[119, 97, 105, 115, 116]⟩, ⟨#[104, 105, 112]⟩] → d = (⟨#[]⟩ : ByteArray) → rdOf d l a = impl_Place_text.nm a.toNat := by
    intro l d h5 h6; subst h5 h6; rfl
  unfold spec_plText.f spec_plNames.f plTxt
  have hs := nm_size a.toNat
  rw [Option.bind_some, if_pos h1, if_pos (by simp; omega), hr _ ByteArray.empty rfl rfl]
  generalize impl_Place_text.nm a.toNat = s at hs
  have e : ∀ x : ByteArray, (s ++ x).size = s.size + x.size := fun x => ByteArray.size_append
  by_cases c1 : b = -1
  · subst c1
    rw [if_pos rfl, if_pos rfl, if_pos (by omega)]
    cases c
    · rfl
    · rw [if_pos rfl, if_pos (by rw [e]; show s.size + 1 + 1 ≤ _; omega)]; rfl
  rw [if_neg c1, if_neg c1]
  by_cases c2 : b = 1
  · subst c2
    rw [if_pos rfl, if_pos rfl, if_pos (by omega)]
    cases c
    · rfl
    · rw [if_pos rfl, if_pos (by rw [e]; show s.size + 1 + 1 ≤ _; omega)]; rfl
  rw [if_neg c2, if_neg c2, app_nil]
  cases c
  · rfl
  · rw [if_pos rfl, if_pos (by omega)]; rfl
theorem Place_text_some (a b : Int) (c : Bool) (h : isPl a b c = true) : impl_Place_text.f a b c = some (plTxt a b c) := by
  unfold isPl at h
  simp only [Bool.and_eq_true, decide_eq_true_eq] at h
  obtain ⟨⟨h1, h2⟩, ⟨h3, h4⟩, _⟩ := h
  unfold impl_Place_text.f plTxt
  rw [if_pos ⟨h1, h2⟩]
  by_cases c1 : b = -1
  · subst c1; rfl
  rw [if_neg c1, if_neg c1]
  by_cases c2 : b = 0
  · subst c2; rfl
  obtain rfl : b = 1 := by omega
  rfl

abbrev Pla := S32
theorem rd_pla (l : List Pla) (i : Nat) : rd_T32 l (i : Int) = l.getD i z32 := by simp [rd_T32]
def ok3 (p : Pla) : Bool := isPl p.f0 p.f1 p.f2
/-- The places of a region, by their codes. -/
def six (r : Int) : List Pla := [⟨r, -1, false⟩, ⟨r, -1, true⟩, ⟨r, 0, false⟩, ⟨r, 0, true⟩, ⟨r, 1, false⟩, ⟨r, 1, true⟩].filter ok3
theorem six_len (r : Int) : (six r).length ≤ 6 := List.length_filter_le _ _
def regions : List Int := [0, 1, 2, 3, 4, 5, 6, 7, 8, 9]
theorem plPair_some (x : List Pla) (r s : Int) (k : Nat) (b : Bool) (hb : rdOf false [false, true] (k : Int) = b) (hk : k < 2) (hx : x.length ≤ 100) : spec_plAll.L2 x r s [false, true] 2 k = spec_plAll.L2 (x ++ [(⟨r, s, b⟩ : Pla)].filter ok3) r s [false, true] 2 ((k : Int) + 1) := by
  have e0 : ok3 (⟨r, s, b⟩ : Pla) = isPl r s b := rfl
  rw [spec_plAll.L2_eq, if_pos (by omega), if_pos (by omega), if_pos (by simp; omega), hb, plGood_some, Option.bind_some, wrap_in (x := (k : Int) + 1) (by omega) (by omega), List.filter_cons, List.filter_nil, e0]
  by_cases c : isPl r s b = true
  · rw [if_pos c, if_pos (by omega), if_pos c]
  · rw [if_neg c, if_neg c, List.append_nil]
theorem pair_filter (p q : Pla) : [p].filter ok3 ++ [q].filter ok3 = [p, q].filter ok3 := by
  rw [← List.filter_append]; rfl
theorem filter_len (l : List Pla) : (l.filter ok3).length ≤ l.length := List.length_filter_le _ _
theorem plSide_some (x : List Pla) (r s : Int) (hx : x.length ≤ 90) (hs : -1 ≤ s ∧ s ≤ 1) : spec_plAll.L1 x r s = spec_plAll.L1 (x ++ [(⟨r, s, false⟩ : Pla), ⟨r, s, true⟩].filter ok3) r (s + 1) := by
  rw [spec_plAll.L1_eq, if_pos hs.2, Option.bind_some]
  have h1 := plPair_some x r s 0 false rfl (by omega) (by omega)
  have f1 := filter_len [(⟨r, s, false⟩ : Pla)]
  have h2 := plPair_some (x ++ [(⟨r, s, false⟩ : Pla)].filter ok3) r s 1 true rfl (by omega) (by rw [List.length_append]; simp only [List.length_cons, List.length_nil] at f1; omega)
  refine (h1.trans h2).trans ?_
  rw [spec_plAll.L2_eq, if_neg (by omega), wrap_in (by omega) (by omega), List.append_assoc, pair_filter]
theorem plRegion_some (x : List Pla) (r : Int) (hx : x.length ≤ 60) (hr : 0 ≤ r ∧ r < 10) : spec_plAll.L0 x r = spec_plAll.L0 (x ++ six r) (r + 1) := by
  have f := fun s : Int => filter_len [(⟨r, s, false⟩ : Pla), ⟨r, s, true⟩]
  simp only [List.length_cons, List.length_nil] at f
  have f1 := f (-1)
  have f2 := f 0
  rw [spec_plAll.L0_eq, if_pos hr.2, plSide_some x r (-1) (by omega) (by omega)]
  rw [plSide_some _ r (-1 + 1) (by rw [List.length_append]; omega) (by omega)]
  rw [plSide_some _ r (-1 + 1 + 1) (by rw [List.length_append, List.length_append]; have : (-1 : Int) + 1 = 0 := rfl; rw [this]; omega) (by omega)]
  rw [spec_plAll.L1_eq, if_neg (by omega), wrap_in (x := r + 1) (by omega) (by omega), List.append_assoc, List.append_assoc, ← List.filter_append, ← List.filter_append]
  rfl
def plFrom : Nat → Int → List Pla
  | 0, _ => []
  | n + 1, r => six r ++ plFrom n (r + 1)
theorem plAll_from : ∀ (n : Nat) (x : List Pla) (r : Int), 0 ≤ r → r + n = 10 → x.length ≤ 6 * r.toNat → spec_plAll.L0 x r = some (x ++ plFrom n r)
  | 0, x, r, h0, h1, h2 => by
    rw [spec_plAll.L0_eq, if_neg (by omega)]; simp [plFrom]
  | n + 1, x, r, h0, h1, h2 => by
    have := six_len r
    rw [plRegion_some x r (by omega) (by omega), plAll_from n _ (r + 1) (by omega) (by omega) (by rw [List.length_append]; omega), List.append_assoc]
    rfl
theorem plAll_some : spec_plAll.F = some (plFrom 10 0) := by
  rw [spec_plAll.F_eq, plAll_from 10 [] 0 (by omega) (by omega) (by simp)]
  rfl
theorem plFrom_ok : ∀ (n : Nat) (r : Int), ∀ p ∈ plFrom n r, ok3 p = true
  | 0, _, p, h => by cases h
  | n + 1, r, p, h => by
    rcases List.mem_append.1 h with h | h
    · exact (List.mem_filter.1 h).2
    · exact plFrom_ok n _ p h
/-- The first place with a text. -/
def search (s : ByteArray) : List Pla → Int × Int × Bool × Bool
  | [] => (0, 0, false, false)
  | p :: t => if (plTxt p.f0 p.f1 p.f2).toList = s.toList then (p.f0, p.f1, p.f2, true) else search s t
theorem search_cons (s : ByteArray) (p : Pla) (t : List Pla) : search s (p :: t) = if (plTxt p.f0 p.f1 p.f2).toList = s.toList then (p.f0, p.f1, p.f2, true) else search s t := rfl
theorem plParse_some (s : ByteArray) : spec_plParse.F s = some (search s (plFrom 10 0)) := by
  rw [spec_plParse.F_eq, plAll_some, Option.bind_some]
  have hok := plFrom_ok 10 0
  have hlen : (plFrom 10 0).length ≤ 60 := by decide
  generalize plFrom 10 0 = l at hok hlen
  refine each (L := fun i => spec_plParse.L0 s l l.length i) l z32 (fun _ t o => (∀ p ∈ t, ok3 p = true) → o = some (search s t)) ?_ ?_ hok
  · intro _
    show spec_plParse.L0 s l _ _ = _
    rw [spec_plParse.L0_eq, if_neg (by omega)]; rfl
  · intro i p t hi hp _ _ ih hm
    show spec_plParse.L0 s l _ _ = _
    rw [spec_plParse.L0_eq, if_pos (by omega), if_pos (by omega), if_pos (by omega), rd_pla, hp, plText_some _ _ _ (hm p (by simp)), Option.bind_some, wrap_in (x := (i : Int) + 1) (by omega) (by omega)]
    rw [search_cons]
    by_cases c : (plTxt p.f0 p.f1 p.f2).toList = s.toList
    · rw [if_pos c, if_pos c]
    · rw [if_neg c, if_neg c, ih (fun q hq => hm q (by simp [hq]))]
/-- A place by its code. -/
def plc (n : Int) : Pla := ⟨n.tdiv 6, (n.tmod 6).tdiv 2 - 1, n.tmod 2 == 1⟩
def codeFrom : Nat → Int → List Pla
  | 0, _ => []
  | n + 1, c => [plc c].filter ok3 ++ codeFrom n (c + 1)
theorem code_same : codeFrom 60 0 = plFrom 10 0 := by kernel_rfl
theorem parse_from (s : ByteArray) : ∀ (n : Nat) (c : Int), 0 ≤ c → c + n = 60 → impl_ParsePlace.L0 s c = some (search s (codeFrom n c))
  | 0, c, h0, h1 => by
    rw [impl_ParsePlace.L0_eq, if_neg (by omega)]; rfl
  | n + 1, c, h0, h1 => by
    have ih := parse_from s n (c + 1) (by omega) (by omega)
    have hw : wrap64 (c + 1) = c + 1 := wrap_in (by omega) (by omega)
    have t1 : c.tdiv 6 = c / 6 := Int.tdiv_eq_ediv_of_nonneg h0
    have t2 : c.tmod 6 = c % 6 := Int.tmod_eq_emod_of_nonneg h0
    have t3 : (c % 6).tdiv 2 = c % 6 / 2 := Int.tdiv_eq_ediv_of_nonneg (by omega)
    have hp : impl_PlaceOfCode.f c = some (if ok3 (plc c) = true then ((plc c).f0, (plc c).f1, (plc c).f2, true) else (0, 0, false, false)) := by
      unfold impl_PlaceOfCode.f
      rw [within_some, Option.bind_some, if_pos (by simp; omega), isPlace_some, Option.bind_some]
      have w1 : wrap64 (c.tdiv 6) = c.tdiv 6 := wrap_in (by omega) (by omega)
      have w2 : wrap64 ((c.tmod 6).tdiv 2) = (c.tmod 6).tdiv 2 := wrap_in (by rw [t2, t3]; omega) (by rw [t2, t3]; omega)
      have w3 : wrap64 ((c.tmod 6).tdiv 2 - 1) = (c.tmod 6).tdiv 2 - 1 := wrap_in (by rw [t2, t3]; omega) (by rw [t2, t3]; omega)
      rw [w1, w2, w3]
      show (if ok3 (plc c) = true then _ else _) = _
      by_cases h : ok3 (plc c) = true
      · rw [if_pos h, if_pos h]; rfl
      · rw [if_neg h, if_neg h]
    rw [impl_ParsePlace.L0_eq, if_pos (by omega), hp, Option.bind_some, hw, ih]
    show _ = some (search s ([plc c].filter ok3 ++ codeFrom n (c + 1)))
    by_cases h : ok3 (plc c) = true
    · have ht := Place_text_some (plc c).f0 (plc c).f1 (plc c).f2 h
      simp only [h, if_true, ht, Option.bind_some, List.filter_cons, List.filter_nil]
      show _ = some (if _ then _ else search s (codeFrom n (c + 1)))
      split <;> rfl
    · simp only [h, if_false, Bool.false_eq_true, List.filter_cons, List.filter_nil, List.nil_append]
theorem parsePlace_some (s : ByteArray) : impl_ParsePlace.F s = some (search s (plFrom 10 0)) := by
  rw [impl_ParsePlace.F_eq, parse_from s 60 0 (by omega) (by omega), code_same]

theorem FnExactParsePlace : laws_FnExactParsePlace.Pure := by
  intro s _
  refine lim_rounds (?_ : laws_FnExactParsePlace.F s = some true)
  rw [laws_FnExactParsePlace.F_eq]
  by_cases h : (s.size : Int) > 1048576
  · rw [if_pos h]
  rw [if_neg h, spec_ParsePlace.F_eq, plParse_some, parsePlace_some]
  simp [laws_eqPlace.f]

end Go.Proofs.Ytfaknmihmllbbaa.Pure
