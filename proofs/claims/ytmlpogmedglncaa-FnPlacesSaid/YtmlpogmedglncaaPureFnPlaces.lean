/- The pure statement of the law FnPlaces: for all arguments within their bounds its Lean function answers true. -/
import Derived.Test.YtmlpogmedglncaaPFnPlacesxD0
namespace Go.Proofs.Ytmlpogmedglncaa.Pure
open Go.RowKit Go.Proofs.Ytmlpogmedglncaa.PFnPlaces Go.Proofs.YtmlpogmedglncaaW.PrintWords Go.Proofs.YtmlpogmedglncaaW.PrintLast
set_option linter.unusedVariables false
set_option linter.unusedSimpArgs false
/-! ### Numbers, loops, letters -/
theorem wrap_in {x : Int} (h0 : -9223372036854775808 ≤ x) (h1 : x ≤ 9223372036854775807) : wrap64 x = x := by
  unfold wrap64; omega
theorem wf_i64 {n : Int} (h : (Lit.int .i64 n).wf = true) : -9223372036854775808 ≤ n ∧ n ≤ 9223372036854775807 := by
  simpa [Lit.wf, IntKind.min, IntKind.max, IntKind.signed, IntKind.bits] using h
/-- A loop over a list, from its end. L: what the loop tells from place i on. -/
theorem each {α γ : Type} (L : Int → γ) (l : List α) (z : α) (R : Nat → List α → γ → Prop) (nil : R l.length [] (L l.length))
    (cons : ∀ (i : Nat) (x : α) (t : List α), i < l.length → l.getD i z = x → l.drop i = x :: t → l.drop (i + 1) = t → R (i + 1) t (L ((i : Int) + 1)) → R i (x :: t) (L i)) : R 0 l (L 0) := by
  have key : ∀ (t : List α) (i : Nat), l.drop i = t → i ≤ l.length → R i t (L i) := by
    intro t
    induction t with
    | nil =>
      intro i h hi
      have : l.length ≤ i := by simpa [List.drop_eq_nil_iff] using h
      obtain rfl : i = l.length := by omega
      exact nil
    | cons x t ih =>
      intro i h hi
      have hlt : i < l.length := by
        rcases Nat.lt_or_ge i l.length with h' | h'
        · exact h'
        · rw [List.drop_eq_nil_of_le h'] at h; cases h
      have h2 := List.drop_eq_getElem_cons hlt
      rw [h] at h2
      injection h2 with h3 h4
      refine cons i x t hlt ?_ h h4.symm ?_
      · rw [List.getD_eq_getElem?_getD, List.getElem?_eq_getElem hlt]; exact h3.symm
      · have := ih (i + 1) h4.symm (by omega)
        rwa [show ((i + 1 : Nat) : Int) = (i : Int) + 1 from by omega] at this
  have := key l 0 rfl (Nat.zero_le _)
  rwa [show ((0 : Nat) : Int) = 0 from rfl] at this
theorem bt_data (s : ByteArray) (i : Nat) (h : i < s.size) : bt s (i : Int) = ((s.data.toList.getD i 0).toNat : Int) := by
  obtain ⟨d⟩ := s
  have h' : i < d.size := h
  have : bt ⟨d⟩ (i : Int) = ((d[i]).toNat : Int) := by
    unfold bt
    rw [dif_pos (show ((i : Int)).toNat < (⟨d⟩ : ByteArray).size from by simpa using h)]
    rfl
  rw [this]
  simp [h']
theorem size_data (s : ByteArray) : s.size = s.data.toList.length := by
  obtain ⟨d⟩ := s; simp [ByteArray.size]
theorem toList_data (s : ByteArray) : s.toList = s.data.toList := by
  rw [ByteArray.toList_eq]
theorem ext_data {s t : ByteArray} (h : s.toList = t.toList) : s = t := by
  rw [toList_data, toList_data] at h
  obtain ⟨⟨a⟩⟩ := s
  obtain ⟨⟨b⟩⟩ := t
  simp at h
  rw [h]
theorem toList_iff {s t : ByteArray} : s.toList = t.toList ↔ s = t := ⟨ext_data, fun h => by rw [h]⟩
theorem mem_drop {α : Type} {l t : List α} {x : α} {i : Nat} (h : l.drop i = x :: t) : x ∈ l := List.mem_of_mem_drop (i := i) (by rw [h]; simp)

/-! ### Places and their names -/
def isPl (a b : Int) (c : Bool) : Bool := decide (0 ≤ a ∧ a ≤ 9) && (decide (-1 ≤ b ∧ b ≤ 1) && (!c || decide (a > 0)))
theorem l1In_some (a b c : Int) : spec_l1In.f a b c = some (decide (b ≤ a ∧ a ≤ c)) := by
  unfold spec_l1In.f
  by_cases h : a ≥ b
  · rw [if_pos h]; congr 1; simp; omega
  · rw [if_neg h]; congr 1; symm; simp; omega
theorem within_some (a b c : Int) : impl_within.f a b c = some (decide (b ≤ a ∧ a ≤ c)) := by
  unfold impl_within.f
  by_cases h : a ≥ b
  · rw [if_pos h]; congr 1; simp; omega
  · rw [if_neg h]; congr 1; symm; simp; omega
theorem plGood_some (a b : Int) (c : Bool) : spec_plGood.f a b c = some (isPl a b c) := by
  unfold spec_plGood.f isPl
  rw [l1In_some, l1In_some, Option.bind_some, Option.bind_some]
  by_cases h1 : 0 ≤ a ∧ a ≤ 9 <;> by_cases h2 : -1 ≤ b ∧ b ≤ 1 <;> by_cases h3 : a > 0 <;> cases c <;> simp [h1, h2, h3]
theorem isPlace_some (a b : Int) (c : Bool) : impl_IsPlace.f a b c = some (isPl a b c) := by
  unfold impl_IsPlace.f isPl
  rw [within_some, within_some, Option.bind_some, Option.bind_some]
  by_cases h1 : 0 ≤ a ∧ a ≤ 9
  · have h4 : (a > 0) ↔ ¬ a = 0 := by omega
    by_cases h2 : -1 ≤ b ∧ b ≤ 1 <;> by_cases h3 : a = 0 <;> cases c <;> simp [h1, h2, h3, h4]
  · simp [h1]
theorem nm_size (n : Nat) : (impl_Place_text.nm n).size ≤ 5 := by
  by_cases h : n < 10
  · have : n = 0 ∨ n = 1 ∨ n = 2 ∨ n = 3 ∨ n = 4 ∨ n = 5 ∨ n = 6 ∨ n = 7 ∨ n = 8 ∨ n = 9 := by omega
    rcases this with rfl | rfl | rfl | rfl | rfl | rfl | rfl | rfl | rfl | rfl <;> decide
  · unfold impl_Place_text.nm
    rw [List.getD_eq_getElem?_getD, List.getElem?_eq_none (by simpa using h)]
    decide
theorem app_nil (s : ByteArray) : s ++ (⟨#[]⟩ : ByteArray) = s := by
  apply ext_data
  rw [toList_data, toList_data]
  simp
def plTxt (a b : Int) (c : Bool) : ByteArray :=
  let s := impl_Place_text.nm a.toNat ++ (if b = -1 then ⟨#[60]⟩ else if b = 1 then ⟨#[62]⟩ else ⟨#[]⟩ : ByteArray)
  if c then s ++ ⟨#[42]⟩ else s
theorem plText_some (a b : Int) (c : Bool) (h : isPl a b c = true) : spec_plText.f a b c = some (plTxt a b c) := by
  unfold isPl at h
  simp only [Bool.and_eq_true, decide_eq_true_eq] at h
  obtain ⟨⟨h1, h2⟩, ⟨h3, h4⟩, _⟩ := h
  have hr : ∀ l d, l = [(⟨#[115, 112, 97, 99, 101]⟩ : ByteArray), ⟨#[104, 101, 97, 100]⟩, ⟨#[101, 121, 101]⟩, ⟨#[99, 104, 101, 101, 107]⟩, ⟨#[109, 111, 117, 116, 104]⟩, ⟨#[99, 104, 105, 110]⟩, ⟨#[110, 101, 99, 107]⟩, ⟨#[99, 104, 101, 115, 116]⟩, ⟨#[119, 97, 105, 115, 116]⟩, ⟨#[104, 105, 112]⟩] → d = (⟨#[]⟩ : ByteArray) → rdOf d l a = impl_Place_text.nm a.toNat := by
    intro l d h5 h6; subst h5 h6; rfl
  unfold spec_plText.f spec_plNames.f plTxt
  have hs := nm_size a.toNat
  rw [Option.bind_some, if_pos h1, if_pos (by simp; omega), hr _ ByteArray.empty rfl rfl]
  generalize impl_Place_text.nm a.toNat = s at hs
  have e : ∀ x : ByteArray, (s ++ x).size = s.size + x.size := fun x => ByteArray.size_append
  by_cases c1 : b = -1
  · subst c1
    rw [if_pos rfl, if_pos rfl, if_pos (by omega)]
    cases c
    · rfl
    · rw [if_pos rfl, if_pos (by rw [e]; show s.size + 1 + 1 ≤ _; omega)]; rfl
  rw [if_neg c1, if_neg c1]
  by_cases c2 : b = 1
  · subst c2
    rw [if_pos rfl, if_pos rfl, if_pos (by omega)]
    cases c
    · rfl
    · rw [if_pos rfl, if_pos (by rw [e]; show s.size + 1 + 1 ≤ _; omega)]; rfl
  rw [if_neg c2, if_neg c2, app_nil]
  cases c
  · rfl
  · rw [if_pos rfl, if_pos (by omega)]; rfl
theorem Place_text_some (a b : Int) (c : Bool) (h : isPl a b c = true) : impl_Place_text.f a b c = some (plTxt a b c) := by
  unfold isPl at h
  simp only [Bool.and_eq_true, decide_eq_true_eq] at h
  obtain ⟨⟨h1, h2⟩, ⟨h3, h4⟩, _⟩ := h
  unfold impl_Place_text.f plTxt
  rw [if_pos ⟨h1, h2⟩]
  by_cases c1 : b = -1
  · subst c1; rfl
  rw [if_neg c1, if_neg c1]
  by_cases c2 : b = 0
  · subst c2; rfl
  obtain rfl : b = 1 := by omega
  rfl

abbrev Pla := S24
theorem rd_pla (l : List Pla) (i : Nat) : rd_T24 l (i : Int) = l.getD i z24 := by simp [rd_T24]
def ok3 (p : Pla) : Bool := isPl p.f0 p.f1 p.f2
/-- The places of a region, by their codes. -/
def six (r : Int) : List Pla := [⟨r, -1, false⟩, ⟨r, -1, true⟩, ⟨r, 0, false⟩, ⟨r, 0, true⟩, ⟨r, 1, false⟩, ⟨r, 1, true⟩].filter ok3
theorem six_len (r : Int) : (six r).length ≤ 6 := List.length_filter_le _ _
def regions : List Int := [0, 1, 2, 3, 4, 5, 6, 7, 8, 9]
theorem plPair_some (x : List Pla) (r s : Int) (k : Nat) (b : Bool) (hb : rdOf false [false, true] (k : Int) = b) (hk : k < 2) (hx : x.length ≤ 100) : spec_plAll.L2 x r s [false, true] 2 k = spec_plAll.L2 (x ++ [(⟨r, s, b⟩ : Pla)].filter ok3) r s [false, true] 2 ((k : Int) + 1) := by
  have e0 : ok3 (⟨r, s, b⟩ : Pla) = isPl r s b := rfl
  rw [spec_plAll.L2_eq, if_pos (by omega), if_pos (by omega), if_pos (by simp; omega), hb, plGood_some, Option.bind_some, wrap_in (x := (k : Int) + 1) (by omega) (by omega), List.filter_cons, List.filter_nil, e0]
  by_cases c : isPl r s b = true
  · rw [if_pos c, if_pos (by omega), if_pos c]
  · rw [if_neg c, if_neg c, List.append_nil]
theorem pair_filter (p q : Pla) : [p].filter ok3 ++ [q].filter ok3 = [p, q].filter ok3 := by
  rw [← List.filter_append]; rfl
theorem filter_len (l : List Pla) : (l.filter ok3).length ≤ l.length := List.length_filter_le _ _
theorem plSide_some (x : List Pla) (r s : Int) (hx : x.length ≤ 90) (hs : -1 ≤ s ∧ s ≤ 1) : spec_plAll.L1 x r s = spec_plAll.L1 (x ++ [(⟨r, s, false⟩ : Pla), ⟨r, s, true⟩].filter ok3) r (s + 1) := by
  rw [spec_plAll.L1_eq, if_pos hs.2, Option.bind_some]
  have h1 := plPair_some x r s 0 false rfl (by omega) (by omega)
  have f1 := filter_len [(⟨r, s, false⟩ : Pla)]
  have h2 := plPair_some (x ++ [(⟨r, s, false⟩ : Pla)].filter ok3) r s 1 true rfl (by omega) (by rw [List.length_append]; simp only [List.length_cons, List.length_nil] at f1; omega)
  refine (h1.trans h2).trans ?_
  rw [spec_plAll.L2_eq, if_neg (by omega), wrap_in (by omega) (by omega), List.append_assoc, pair_filter]
theorem plRegion_some (x : List Pla) (r : Int) (hx : x.length ≤ 60) (hr : 0 ≤ r ∧ r < 10) : spec_plAll.L0 x r = spec_plAll.L0 (x ++ six r) (r + 1) := by
  have f := fun s : Int => filter_len [(⟨r, s, false⟩ : Pla), ⟨r, s, true⟩]
  simp only [List.length_cons, List.length_nil] at f
  have f1 := f (-1)
  have f2 := f 0
  rw [spec_plAll.L0_eq, if_pos hr.2, plSide_some x r (-1) (by omega) (by omega)]
  rw [plSide_some _ r (-1 + 1) (by rw [List.length_append]; omega) (by omega)]
  rw [plSide_some _ r (-1 + 1 + 1) (by rw [List.length_append, List.length_append]; have : (-1 : Int) + 1 = 0 := rfl; rw [this]; omega) (by omega)]
  rw [spec_plAll.L1_eq, if_neg (by omega), wrap_in (x := r + 1) (by omega) (by omega), List.append_assoc, List.append_assoc, ← List.filter_append, ← List.filter_append]
  rfl
def plFrom : Nat → Int → List Pla
  | 0, _ => []
  | n + 1, r => six r ++ plFrom n (r + 1)
theorem plAll_from : ∀ (n : Nat) (x : List Pla) (r : Int), 0 ≤ r → r + n = 10 → x.length ≤ 6 * r.toNat → spec_plAll.L0 x r = some (x ++ plFrom n r)
  | 0, x, r, h0, h1, h2 => by
    rw [spec_plAll.L0_eq, if_neg (by omega)]; simp [plFrom]
  | n + 1, x, r, h0, h1, h2 => by
    have := six_len r
    rw [plRegion_some x r (by omega) (by omega), plAll_from n _ (r + 1) (by omega) (by omega) (by rw [List.length_append]; omega), List.append_assoc]
    rfl
theorem plAll_some : spec_plAll.F = some (plFrom 10 0) := by
  rw [spec_plAll.F_eq, plAll_from 10 [] 0 (by omega) (by omega) (by simp)]
  rfl
theorem plFrom_ok : ∀ (n : Nat) (r : Int), ∀ p ∈ plFrom n r, ok3 p = true
  | 0, _, p, h => by cases h
  | n + 1, r, p, h => by
    rcases List.mem_append.1 h with h | h
    · exact (List.mem_filter.1 h).2
    · exact plFrom_ok n _ p h
/-- The first place with a text. -/
def search (s : ByteArray) : List Pla → Int × Int × Bool × Bool
  | [] => (0, 0, false, false)
  | p :: t => if (plTxt p.f0 p.f1 p.f2).toList = s.toList then (p.f0, p.f1, p.f2, true) else search s t
theorem search_cons (s : ByteArray) (p : Pla) (t : List Pla) : search s (p :: t) = if (plTxt p.f0 p.f1 p.f2).toList = s.toList then (p.f0, p.f1, p.f2, true) else search s t := rfl
theorem plParse_some (s : ByteArray) : spec_plParse.F s = some (search s (plFrom 10 0)) := by
  rw [spec_plParse.F_eq, plAll_some, Option.bind_some]
  have hok := plFrom_ok 10 0
  have hlen : (plFrom 10 0).length ≤ 60 := by decide
  generalize plFrom 10 0 = l at hok hlen
  refine each (L := fun i => spec_plParse.L0 s l l.length i) l z24 (fun _ t o => (∀ p ∈ t, ok3 p = true) → o = some (search s t)) ?_ ?_ hok
  · intro _
    show spec_plParse.L0 s l _ _ = _
    rw [spec_plParse.L0_eq, if_neg (by omega)]; rfl
  · intro i p t hi hp _ _ ih hm
    show spec_plParse.L0 s l _ _ = _
    rw [spec_plParse.L0_eq, if_pos (by omega), if_pos (by omega), if_pos (by omega), rd_pla, hp, plText_some _ _ _ (hm p (by simp)), Option.bind_some, wrap_in (x := (i : Int) + 1) (by omega) (by omega)]
    rw [search_cons]
    by_cases c : (plTxt p.f0 p.f1 p.f2).toList = s.toList
    · rw [if_pos c, if_pos c]
    · rw [if_neg c, if_neg c, ih (fun q hq => hm q (by simp [hq]))]
/-- A place by its code. -/
def plc (n : Int) : Pla := ⟨n.tdiv 6, (n.tmod 6).tdiv 2 - 1, n.tmod 2 == 1⟩
def codeFrom : Nat → Int → List Pla
  | 0, _ => []
  | n + 1, c => [plc c].filter ok3 ++ codeFrom n (c + 1)
theorem code_same : codeFrom 60 0 = plFrom 10 0 := by kernel_rfl
theorem parse_from (s : ByteArray) : ∀ (n : Nat) (c : Int), 0 ≤ c → c + n = 60 → impl_ParsePlace.L0 s c = some (search s (codeFrom n c))
  | 0, c, h0, h1 => by
    rw [impl_ParsePlace.L0_eq, if_neg (by omega)]; rfl
  | n + 1, c, h0, h1 => by
    have ih := parse_from s n (c + 1) (by omega) (by omega)
    have hw : wrap64 (c + 1) = c + 1 := wrap_in (by omega) (by omega)
    have t1 : c.tdiv 6 = c / 6 := Int.tdiv_eq_ediv_of_nonneg h0
    have t2 : c.tmod 6 = c % 6 := Int.tmod_eq_emod_of_nonneg h0
    have t3 : (c % 6).tdiv 2 = c % 6 / 2 := Int.tdiv_eq_ediv_of_nonneg (by omega)
    have hp : impl_PlaceOfCode.f c = some (if ok3 (plc c) = true then ((plc c).f0, (plc c).f1, (plc c).f2, true) else (0, 0, false, false)) := by
      unfold impl_PlaceOfCode.f
      rw [within_some, Option.bind_some, if_pos (by simp; omega), isPlace_some, Option.bind_some]
      have w1 : wrap64 (c.tdiv 6) = c.tdiv 6 := wrap_in (by omega) (by omega)
      have w2 : wrap64 ((c.tmod 6).tdiv 2) = (c.tmod 6).tdiv 2 := wrap_in (by rw [t2, t3]; omega) (by rw [t2, t3]; omega)
      have w3 : wrap64 ((c.tmod 6).tdiv 2 - 1) = (c.tmod 6).tdiv 2 - 1 := wrap_in (by rw [t2, t3]; omega) (by rw [t2, t3]; omega)
      rw [w1, w2, w3]
      show (if ok3 (plc c) = true then _ else _) = _
      by_cases h : ok3 (plc c) = true
      · rw [if_pos h, if_pos h]; rfl
      · rw [if_neg h, if_neg h]
    rw [impl_ParsePlace.L0_eq, if_pos (by omega), hp, Option.bind_some, hw, ih]
    show _ = some (search s ([plc c].filter ok3 ++ codeFrom n (c + 1)))
    by_cases h : ok3 (plc c) = true
    · have ht := Place_text_some (plc c).f0 (plc c).f1 (plc c).f2 h
      simp only [h, if_true, ht, Option.bind_some, List.filter_cons, List.filter_nil]
      show _ = some (if _ then _ else search s (codeFrom n (c + 1)))
      split <;> rfl
    · simp only [h, if_false, Bool.false_eq_true, List.filter_cons, List.filter_nil, List.nil_append]
theorem parsePlace_some (s : ByteArray) : impl_ParsePlace.F s = some (search s (plFrom 10 0)) := by
  rw [impl_ParsePlace.F_eq, parse_from s 60 0 (by omega) (by omega), code_same]


/-! ### What is drawn -/
def Bytes (l : List Int) : Prop := l.length ≤ 1048576 ∧ ∀ x ∈ l, 0 ≤ x ∧ x < 256
theorem bytes_of {l : List Int} (h : l.length ≤ 1048576) (hw : ∀ x ∈ l, (Lit.int .u8 x).wf = true) : Bytes l := ⟨h, fun x hx => by
  have := hw x hx
  simp [Lit.wf, IntKind.min, IntKind.max, IntKind.signed, IntKind.bits] at this
  omega⟩
theorem and_byte (z : Int) (h0 : 0 ≤ z) (h1 : z < 18446744073709551616) : 0 ≤ Go.bits .and .u64 z 255 ∧ Go.bits .and .u64 z 255 < 256 := by
  obtain ⟨n, rfl⟩ := Int.eq_ofNat_of_zero_le h0
  have h := bits_and_u64_nat n 255 (by omega) (by omega)
  have e : (((255 : Nat) : Int)) = 255 := rfl
  rw [e] at h
  rw [h]
  have : n &&& 255 ≤ 255 := Nat.and_le_right
  omega
theorem next_tells (l : List Int) (hl : Bytes l) (a s : Int) (ha : 0 ≤ a ∧ a ≤ 2000000000) : ∃ r b t, spec_l1Cur_next.f l a s = some (r, b, t) ∧ (0 ≤ r ∧ r < 256) ∧ 0 ≤ b ∧ b ≤ a + 1 := by
  have hu : ∀ y : Int, 0 ≤ IntKind.u64.wrap y ∧ IntKind.u64.wrap y < 18446744073709551616 := fun y => by
    simp only [IntKind.wrap, IntKind.signed, IntKind.bits]
    simp
    omega
  have tail : ∀ y : Int, 0 ≤ wrap64 (Go.bits .and .u64 ((IntKind.u64.wrap y) / 1099511627776) 255) ∧ wrap64 (Go.bits .and .u64 ((IntKind.u64.wrap y) / 1099511627776) 255) < 256 := fun y => by
    have h1 := hu y
    have h2 := and_byte (IntKind.u64.wrap y / 1099511627776) (by omega) (by omega)
    rw [wrap_in (by omega) (by omega)]
    exact h2
  unfold spec_l1Cur_next.f
  rw [wrap_in (x := a + 1) (by omega) (by omega)]
  by_cases h : a < (l.length : Int)
  · rw [if_pos h, if_pos ha.1]
    have hr : 0 ≤ rd l a ∧ rd l a < 256 := by
      obtain ⟨n, rfl⟩ := Int.eq_ofNat_of_zero_le ha.1
      have hn : n < l.length := by omega
      have := hl.2 l[n] (List.getElem_mem hn)
      have e : rd l (n : Int) = l[n] := by simp [rd, hn]
      rw [e]
      exact this
    split
    · refine ⟨_, _, _, rfl, ?_, by omega, by omega⟩
      rw [wrap_in (by omega) (by omega)]
      exact hr
    · exact ⟨_, _, _, rfl, tail _, by omega, by omega⟩
  · rw [if_neg h]
    split
    · exact ⟨_, _, _, rfl, by omega, by omega, by omega⟩
    · exact ⟨_, _, _, rfl, tail _, by omega, by omega⟩
theorem pick_tells (l : List Int) (hl : Bytes l) (a s n : Int) (ha : 0 ≤ a ∧ a ≤ 1000000000) (hn : n ≤ 1048576) : ∃ r b t, spec_l1Cur_pick.f l a s n = some (r, b, t) ∧ 0 ≤ r ∧ (1 ≤ n → r < n) ∧ 0 ≤ b ∧ b ≤ a + 2 := by
  unfold spec_l1Cur_pick.f
  by_cases h : n ≤ 1
  · rw [if_pos h]
    exact ⟨_, _, _, rfl, by omega, by omega, by omega, by omega⟩
  rw [if_neg h]
  obtain ⟨r, b, t, h1, h2, h3, h4⟩ := next_tells l hl a s (by omega)
  rw [h1, Option.bind_some]
  dsimp only
  by_cases h5 : n > 200
  · rw [if_pos h5]
    obtain ⟨r2, b2, t2, k1, k2, k3, k4⟩ := next_tells l hl b t (by omega)
    rw [k1, Option.bind_some]
    dsimp only
    rw [if_neg (by omega), wrap_in (x := r * 256) (by omega) (by omega), wrap_in (x := r * 256 + r2) (by omega) (by omega)]
    refine ⟨_, _, _, rfl, Int.tmod_nonneg _ (by omega), fun _ => Int.tmod_lt_of_pos _ (by omega), by omega, by omega⟩
  · rw [if_neg h5, if_neg (by omega)]
    refine ⟨_, _, _, rfl, Int.tmod_nonneg _ (by omega), fun _ => Int.tmod_lt_of_pos _ (by omega), by omega, by omega⟩
theorem of_tells (l : List Int) (hl : Bytes l) (a s : Int) (m : List ByteArray) (ha : 0 ≤ a ∧ a ≤ 1000000000) (hm : m ≠ [] ∧ m.length ≤ 1048576) : ∃ r b t, spec_l1Cur_of.f l a s m = some (r, b, t) ∧ r ∈ m ∧ 0 ≤ b ∧ b ≤ a + 2 := by
  have h0 : 0 < m.length := List.length_pos_iff.2 hm.1
  obtain ⟨r, b, t, h1, h2, h3, h4, h5⟩ := pick_tells l hl a s m.length ha (by omega)
  obtain ⟨n, rfl⟩ := Int.eq_ofNat_of_zero_le h2
  have hn : n < m.length := by omega
  unfold spec_l1Cur_of.f
  rw [h1, Option.bind_some]
  dsimp only
  rw [if_pos (by omega), if_pos (by omega)]
  refine ⟨_, _, _, rfl, ?_, h4, h5⟩
  have e : rdOf ByteArray.empty m (n : Int) = m[n] := by simp [rdOf, hn]
  show rdOf ByteArray.empty m (n : Int) ∈ m
  rw [e]
  exact List.getElem_mem hn
theorem among_tells (l : List Int) (hl : Bytes l) (a s : Int) (m : List Int) (ha : 0 ≤ a ∧ a ≤ 1000000000) (hm : m ≠ [] ∧ m.length ≤ 1048576) : ∃ r b t, spec_l1Cur_among.f l a s m = some (r, b, t) ∧ r ∈ m ∧ 0 ≤ b ∧ b ≤ a + 2 := by
  have h0 : 0 < m.length := List.length_pos_iff.2 hm.1
  obtain ⟨r, b, t, h1, h2, h3, h4, h5⟩ := pick_tells l hl a s m.length ha (by omega)
  obtain ⟨n, rfl⟩ := Int.eq_ofNat_of_zero_le h2
  have hn : n < m.length := by omega
  unfold spec_l1Cur_among.f
  rw [h1, Option.bind_some]
  dsimp only
  rw [if_pos (by omega), if_pos (by omega)]
  refine ⟨_, _, _, rfl, ?_, h4, h5⟩
  have e : rd m (n : Int) = m[n] := by simp [rd, hn]
  show rd m (n : Int) ∈ m
  rw [e]
  exact List.getElem_mem hn

theorem nums_one (x : Int) : (strOfNums [x]).size = 1 := rfl
theorem spoilt_rounds (l : List Int) (hl : Bytes l) (w : ByteArray) (hw : 1 ≤ w.size ∧ w.size ≤ 1000) : ∀ (n : Nat) (s : ByteArray) (k a t : Int), k = n → s.size + n ≤ 1000 → (0 ≤ a ∧ a + 6 * n ≤ 1000000) → ∃ r b t', spec_l1Cur_spoilt.L0 s w k l a t = some (r, b, t') ∧ r.size ≤ s.size + n ∧ 0 ≤ b ∧ b ≤ a + 6 * n := by
  intro n
  induction n with
  | zero =>
    intro s k a t hk hs ha
    rw [spec_l1Cur_spoilt.L0_eq, if_neg (by omega), spec_l1Cur_spoilt.J1_eq, if_neg (by simp)]
    exact ⟨s, a, t, rfl, by omega, by omega, by omega⟩
  | succ n ih =>
    intro s k a t hk hs ha
    rw [spec_l1Cur_spoilt.L0_eq, if_pos (by omega)]
    by_cases h0 : (s.size : Int) > 0
    case neg =>
      rw [decide_eq_false h0, spec_l1Cur_spoilt.J1_eq, if_neg (by simp)]
      exact ⟨s, a, t, rfl, by omega, by omega, by omega⟩
    rw [decide_eq_true h0, spec_l1Cur_spoilt.J1_eq, if_pos rfl]
    obtain ⟨i, b1, t1, e1, p1, p2, p3, p4⟩ := pick_tells l hl a t s.size (by omega) (by omega)
    have p5 := p2 (by omega)
    rw [e1, Option.bind_some]
    simp only
    obtain ⟨j, b2, t2, e2, q1, q2, q3, q4⟩ := pick_tells l hl b1 t1 w.size (by omega) (by omega)
    have q5 := q2 (by omega)
    simp only [e2, Option.bind_some]
    rw [if_pos q1, if_pos q5]
    obtain ⟨c, b3, t3, e3, u1, u2, u3, u4⟩ := pick_tells l hl b2 t2 3 (by omega) (by omega)
    simp only [e3, Option.bind_some]
    have hy := nums_one (bt w j)
    generalize strOfNums [bt w j] = y at hy
    rw [wrap_in (x := i + 1) (by omega) (by omega), wrap_in (x := k - 1) (by omega) (by omega)]
    have step : ∀ s' : ByteArray, s'.size ≤ s.size + 1 → ∃ r b t', spec_l1Cur_spoilt.L0 s' w (k - 1) l b3 t3 = some (r, b, t') ∧ r.size ≤ s.size + (n + 1) ∧ 0 ≤ b ∧ b ≤ a + 6 * ((n + 1 : Nat) : Int) := fun s' hs' => by
      obtain ⟨r, b, t', e, z1, z2, z3⟩ := ih s' (k - 1) b3 t3 (by omega) (by omega) (by omega)
      exact ⟨r, b, t', e, by omega, z2, by omega⟩
    by_cases c0 : c = 0
    · rw [if_pos c0, if_pos p1, if_pos (by omega), if_pos (by simp only [ByteArray.size_extract]; omega), if_pos (by simp only [ByteArray.size_append, ByteArray.size_extract]; omega)]
      exact step _ (by simp only [ByteArray.size_append, ByteArray.size_extract]; omega)
    rw [if_neg c0]
    by_cases c1 : c = 1
    · rw [if_pos c1, if_pos p1, if_pos (by omega), if_pos (by simp only [ByteArray.size_extract]; omega), if_pos (by omega), if_pos (by omega), if_pos (by simp only [ByteArray.size_append, ByteArray.size_extract]; omega)]
      exact step _ (by simp only [ByteArray.size_append, ByteArray.size_extract]; omega)
    rw [if_neg c1, if_pos p1, if_pos (by omega), if_pos (by omega), if_pos (by omega), if_pos (by simp only [ByteArray.size_extract]; omega)]
    exact step _ (by simp only [ByteArray.size_append, ByteArray.size_extract]; omega)
theorem spoilt_tells (l : List Int) (hl : Bytes l) (a t : Int) (s w : ByteArray) (hw : 1 ≤ w.size ∧ w.size ≤ 1000) (hs : s.size ≤ 900) (ha : 0 ≤ a ∧ a ≤ 900000) : ∃ r b t', spec_l1Cur_spoilt.F l a t s w = some (r, b, t') ∧ r.size ≤ s.size + 2 ∧ 0 ≤ b ∧ b ≤ a + 20 := by
  obtain ⟨n, b1, t1, e1, p1, p2, p3, p4⟩ := pick_tells l hl a t 2 (by omega) (by omega)
  have p5 := p2 (by omega)
  obtain ⟨m, rfl⟩ := Int.eq_ofNat_of_zero_le p1
  rw [spec_l1Cur_spoilt.F_eq, e1, Option.bind_some]
  simp only
  rw [wrap_in (by omega) (by omega)]
  obtain ⟨r, b, t', e, z1, z2, z3⟩ := spoilt_rounds l hl w hw (m + 1) s (1 + (m : Int)) b1 t1 (by omega) (by omega) (by omega)
  rw [e]
  exact ⟨r, b, t', rfl, by omega, z2, by omega⟩

/-! ### Drawn places -/
theorem all_len : (plFrom 10 0).length = 57 := by kernel_rfl
theorem place_tells (l : List Int) (hl : Bytes l) (a s : Int) (ha : 0 ≤ a ∧ a ≤ 1000000) : ∃ p b t, spec_l1Cur_place.F l a s = some (p.f0, p.f1, p.f2, b, t) ∧ p ∈ plFrom 10 0 ∧ 0 ≤ b ∧ b ≤ a + 2 := by
  rw [spec_l1Cur_place.F_eq, plAll_some, Option.bind_some]
  have hlen := all_len
  generalize plFrom 10 0 = m at hlen
  obtain ⟨r, b, t, h1, h2, h3, h4, h5⟩ := pick_tells l hl a s m.length (by omega) (by omega)
  obtain ⟨n, rfl⟩ := Int.eq_ofNat_of_zero_le h2
  have hn : n < m.length := by omega
  rw [h1, Option.bind_some]
  simp only
  rw [if_pos (by omega), if_pos (by omega), rd_pla]
  refine ⟨m[n], b, t, ?_, List.getElem_mem hn, h4, by omega⟩
  rw [List.getD_eq_getElem?_getD, List.getElem?_eq_getElem hn]
  rfl
theorem drawIsPlace_tells (l : List Int) (hl : Bytes l) : ∃ x y z, spec_DrawIsPlace.F l = some (x, y, z) := by
  rw [spec_DrawIsPlace.F_eq, spec_l1Cur_anyPlace.F_eq]
  obtain ⟨p, b, t, h1, _, h3, h4⟩ := place_tells l hl 0 0 (by omega)
  rw [h1, Option.bind_some]
  simp only
  obtain ⟨r, b2, t2, k1, _, _, k4, k5⟩ := pick_tells l hl b t 30 (by omega) (by omega)
  rw [k1, Option.bind_some]
  simp only
  by_cases c0 : r = 0
  · rw [if_pos c0]
    obtain ⟨q, b3, t3, m1, _, _, _⟩ := among_tells l hl b2 t2 [-1, 10, -9223372036854775808] (by omega) (by simp)
    simp only [m1, Option.bind_some]
    exact ⟨_, _, _, rfl⟩
  rw [if_neg c0]
  by_cases c1 : r = 1
  · rw [if_pos c1]
    obtain ⟨q, b3, t3, m1, _, _, _⟩ := among_tells l hl b2 t2 [-2, 2, 9223372036854775807] (by omega) (by simp)
    simp only [m1, Option.bind_some]
    exact ⟨_, _, _, rfl⟩
  rw [if_neg c1]
  split <;> exact ⟨_, _, _, rfl⟩
theorem drawPlaceOfCode_tells (l : List Int) (hl : Bytes l) : ∃ n, spec_DrawPlaceOfCode.f l = some n := by
  unfold spec_DrawPlaceOfCode.f
  obtain ⟨r1, b1, t1, h1, _, _, i1, j1⟩ := pick_tells l hl 0 0 60 (by omega) (by omega)
  rw [h1, Option.bind_some]
  simp only
  obtain ⟨r2, b2, t2, h2, _, _, i2, j2⟩ := pick_tells l hl b1 t1 60 (by omega) (by omega)
  simp only [h2, Option.bind_some]
  obtain ⟨r3, b3, t3, h3, _, _, i3, j3⟩ := pick_tells l hl b2 t2 60 (by omega) (by omega)
  simp only [h3, Option.bind_some]
  obtain ⟨r4, b4, t4, h4, _, i4, j4⟩ := among_tells l hl b3 t3 [60, -1, 3, 5] (by omega) (by simp)
  simp only [h4, Option.bind_some]
  obtain ⟨r5, b5, t5, h5, _, i5, j5⟩ := among_tells l hl b4 t4 [r1, r2, r3, 0, 1, 59, r4] (by omega) (by simp)
  simp only [h5, Option.bind_some]
  exact ⟨_, rfl⟩
theorem drawParsePlace_tells (l : List Int) (hl : Bytes l) : ∃ s, spec_DrawParsePlace.F l = some s := by
  rw [spec_DrawParsePlace.F_eq]
  obtain ⟨p, b, t, h1, hp, h3, h4⟩ := place_tells l hl 0 0 (by omega)
  have ho := plFrom_ok 10 0 p hp
  have hz : (plTxt p.f0 p.f1 p.f2).size ≤ 900 := by
    have := nm_size p.f0.toNat
    unfold plTxt
    split <;> split <;> (try split) <;> simp only [ByteArray.size_append] <;> simp only [ByteArray.size, List.size_toArray, List.length_cons, List.length_nil] at * <;> omega
  rw [h1, Option.bind_some]
  simp only
  rw [plText_some _ _ _ ho, Option.bind_some]
  obtain ⟨r, b2, t2, k1, _, _, k4, k5⟩ := pick_tells l hl b t 4 (by omega) (by omega)
  simp only [k1, Option.bind_some]
  by_cases c0 : r = 0
  · rw [if_pos c0]
    obtain ⟨q, b3, t3, m1, _, _, _⟩ := spoilt_tells l hl b2 t2 (plTxt p.f0 p.f1 p.f2) ⟨#[60, 62, 42, 97, 99, 101, 104, 105, 110]⟩ (by decide) hz (by omega)
    simp only [m1, Option.bind_some]
    exact ⟨_, rfl⟩
  rw [if_neg c0]
  by_cases c1 : r = 1
  · rw [if_pos c1]
    generalize hq : ([(⟨#[]⟩ : ByteArray), (⟨#[115, 112, 97, 99, 101, 42]⟩ : ByteArray), (⟨#[99, 104, 105, 110, 42, 60]⟩ : ByteArray), (⟨#[104, 101, 97, 100, 60, 62]⟩ : ByteArray), (⟨#[104, 97, 110, 100]⟩ : ByteArray), (⟨#[60]⟩ : ByteArray), (⟨#[99, 104, 105, 110, 60, 60]⟩ : ByteArray)] : List ByteArray) = q
    obtain ⟨x, b3, t3, m1, _, _, _⟩ := of_tells l hl b2 t2 q (by omega) (by rw [← hq]; simp)
    simp only [m1, Option.bind_some]
    exact ⟨_, rfl⟩
  rw [if_neg c1]
  exact ⟨_, rfl⟩
/-! ### Codes -/
def codeOf (p : Pla) : Int := if p.f2 = true then wrap64 ((wrap64 ((wrap64 (6 * p.f0)) + (wrap64 (2 * (wrap64 (p.f1 + 1)))))) + 1) else wrap64 ((wrap64 (6 * p.f0)) + (wrap64 (2 * (wrap64 (p.f1 + 1)))))
theorem plCode_some (a b : Int) (c : Bool) : spec_plCode.f a b c = some (codeOf ⟨a, b, c⟩) := by
  unfold spec_plCode.f codeOf
  cases c <;> rfl
theorem code_some (a b : Int) (c : Bool) : impl_Place_code.f a b c = some (codeOf ⟨a, b, c⟩) := by
  unfold impl_Place_code.f codeOf
  cases c <;> rfl
def searchC (n : Int) : List Pla → Int × Int × Bool × Bool
  | [] => (0, 0, false, false)
  | p :: t => if codeOf p = n then (p.f0, p.f1, p.f2, true) else searchC n t
theorem searchC_cons (n : Int) (p : Pla) (t : List Pla) : searchC n (p :: t) = if codeOf p = n then (p.f0, p.f1, p.f2, true) else searchC n t := rfl
theorem specOfCode_some (n : Int) : spec_PlaceOfCode.F n = some (searchC n (plFrom 10 0)) := by
  rw [spec_PlaceOfCode.F_eq, plAll_some, Option.bind_some]
  have hlen := all_len
  generalize plFrom 10 0 = l at hlen
  refine each (L := fun i => spec_PlaceOfCode.L0 n l l.length i) l z24 (fun _ t o => o = some (searchC n t)) ?_ ?_
  · show spec_PlaceOfCode.L0 n l _ _ = _
    rw [spec_PlaceOfCode.L0_eq, if_neg (by omega)]; rfl
  · intro i p t hi hp _ _ ih
    show spec_PlaceOfCode.L0 n l _ _ = _
    rw [spec_PlaceOfCode.L0_eq, if_pos (by omega), if_pos (by omega), if_pos (by omega), rd_pla, hp, plCode_some, Option.bind_some, wrap_in (x := (i : Int) + 1) (by omega) (by omega), searchC_cons]
    split
    · rfl
    · exact ih
theorem searchC_none (n : Int) : ∀ l : List Pla, (∀ p ∈ l, codeOf p ≠ n) → searchC n l = (0, 0, false, false)
  | [], _ => rfl
  | p :: t, h => by
    rw [searchC_cons, if_neg (h p (by simp))]
    exact searchC_none n t (fun q hq => h q (by simp [hq]))
def ofC (n : Int) : Int × Int × Bool × Bool := if ok3 (plc n) = true then ((plc n).f0, (plc n).f1, (plc n).f2, true) else (0, 0, false, false)
theorem code_bound : ∀ p ∈ plFrom 10 0, 0 ≤ codeOf p ∧ codeOf p ≤ 59 := by decide +kernel
theorem code_search : ∀ n : Fin 60, searchC (n.val : Int) (plFrom 10 0) = ofC (n.val : Int) := by decide +kernel
theorem implOfCode_some (n : Int) : impl_PlaceOfCode.f n = some (searchC n (plFrom 10 0)) := by
  unfold impl_PlaceOfCode.f
  rw [within_some, Option.bind_some]
  by_cases h : 0 ≤ n ∧ n ≤ 59
  · obtain ⟨m, rfl⟩ := Int.eq_ofNat_of_zero_le h.1
    have hm : m < 60 := by omega
    have hs := code_search ⟨m, hm⟩
    simp only at hs
    rw [if_pos (by simp; omega), isPlace_some, Option.bind_some, hs]
    have t1 : (m : Int).tdiv 6 = (m : Int) / 6 := Int.tdiv_eq_ediv_of_nonneg (by omega)
    have t2 : (m : Int).tmod 6 = (m : Int) % 6 := Int.tmod_eq_emod_of_nonneg (by omega)
    have t3 : ((m : Int) % 6).tdiv 2 = (m : Int) % 6 / 2 := Int.tdiv_eq_ediv_of_nonneg (by omega)
    have w1 : wrap64 ((m : Int).tdiv 6) = (m : Int).tdiv 6 := wrap_in (by omega) (by omega)
    have w2 : wrap64 (((m : Int).tmod 6).tdiv 2) = ((m : Int).tmod 6).tdiv 2 := wrap_in (by rw [t2, t3]; omega) (by rw [t2, t3]; omega)
    have w3 : wrap64 (((m : Int).tmod 6).tdiv 2 - 1) = ((m : Int).tmod 6).tdiv 2 - 1 := wrap_in (by rw [t2, t3]; omega) (by rw [t2, t3]; omega)
    rw [w1, w2, w3]
    show (if ok3 (plc m) = true then _ else _) = _
    unfold ofC
    by_cases h : ok3 (plc m) = true
    · rw [if_pos h, if_pos h]; rfl
    · rw [if_neg h, if_neg h]
  · rw [if_neg (by simp; omega), searchC_none n _ (fun p hp he => h (by have := code_bound p hp; rw [he] at this; exact this))]
instance : DecidableEq Pla := fun p q => decidable_of_iff (p.f0 = q.f0 ∧ p.f1 = q.f1 ∧ p.f2 = q.f2) ⟨fun h => by
  obtain ⟨a, b, c⟩ := p
  obtain ⟨a', b', c'⟩ := q
  simp only at h
  obtain ⟨rfl, rfl, rfl⟩ := h
  rfl, fun h => by subst h; exact ⟨rfl, rfl, rfl⟩⟩
theorem mem_all (a b : Int) (c : Bool) (h : isPl a b c = true) : (⟨a, b, c⟩ : Pla) ∈ plFrom 10 0 := by
  unfold isPl at h
  simp only [Bool.and_eq_true, decide_eq_true_eq] at h
  obtain ⟨⟨h1, h2⟩, ⟨h3, h4⟩, h5⟩ := h
  have ha : a = 0 ∨ a = 1 ∨ a = 2 ∨ a = 3 ∨ a = 4 ∨ a = 5 ∨ a = 6 ∨ a = 7 ∨ a = 8 ∨ a = 9 := by omega
  have hb : b = -1 ∨ b = 0 ∨ b = 1 := by omega
  rcases ha with rfl | rfl | rfl | rfl | rfl | rfl | rfl | rfl | rfl | rfl <;> rcases hb with rfl | rfl | rfl <;> cases c <;> first | (exact absurd h5 (by decide)) | decide +kernel
/-- Texts, compared byte by byte. -/
def searchD (s : ByteArray) : List Pla → Int × Int × Bool × Bool
  | [] => (0, 0, false, false)
  | p :: t => if (plTxt p.f0 p.f1 p.f2).data.toList = s.data.toList then (p.f0, p.f1, p.f2, true) else searchD s t
theorem search_D (s : ByteArray) : ∀ l : List Pla, search s l = searchD s l
  | [] => rfl
  | p :: t => by rw [search_cons, toList_data, toList_data, search_D s t]; rfl
theorem text_back : ∀ p ∈ plFrom 10 0, searchD (plTxt p.f0 p.f1 p.f2) (plFrom 10 0) = (p.f0, p.f1, p.f2, true) := by decide +kernel
theorem code_back : ∀ p ∈ plFrom 10 0, searchC (codeOf p) (plFrom 10 0) = (p.f0, p.f1, p.f2, true) := by decide +kernel
theorem FnPlaces : laws_FnPlaces.Pure := by
  intro l0 l1 _ m0 w0 _ m1 w1
  refine lim_rounds (?_ : laws_FnPlaces.F l0 l1 = some true)
  rw [laws_FnPlaces.F_eq]
  by_cases hbig : (wrap64 ((l0.length : Int) + (l1.length : Int))) > 1048576
  · rw [if_pos hbig]
  rw [if_neg hbig]
  rw [wrap_in (by omega) (by omega)] at hbig
  have B0 := bytes_of (l := l0) (by omega) w0
  have B1 := bytes_of (l := l1) (by omega) w1
  obtain ⟨a, b, c, hd⟩ := drawIsPlace_tells l0 B0
  obtain ⟨k, hk⟩ := drawPlaceOfCode_tells l1 B1
  obtain ⟨s, hs⟩ := drawParsePlace_tells l1 B1
  have e1 : spec_ParsePlace.F s = some ((search s (plFrom 10 0)).1, (search s (plFrom 10 0)).2.1, (search s (plFrom 10 0)).2.2.1, (search s (plFrom 10 0)).2.2.2) := by rw [spec_ParsePlace.F_eq, plParse_some]; rfl
  simp only [hd, hk, hs, Option.bind_some, e1, parsePlace_some, implOfCode_some, specOfCode_some]
  unfold impl_PlaceCode.f spec_PlaceCode.f impl_MirrorPlace.f spec_MirrorPlace.f impl_PlaceText.f spec_PlaceText.f spec_plMirror.f
  simp only [plGood_some, isPlace_some, Option.bind_some, plCode_some, code_some]
  cases hg : isPl a b c
  · simp [laws_FnPlaces.J0_eq]
  · have hm := mem_all a b c hg
    have hb := text_back _ hm
    have hc := code_back _ hm
    simp only at hb hc
    have hp : -1 ≤ b ∧ b ≤ 1 := by
      have := hg
      unfold isPl at this
      simp only [Bool.and_eq_true, decide_eq_true_eq] at this
      omega
    have hn : isPl a (-b) c = true := by
      have := hg
      unfold isPl at this ⊢
      simp only [Bool.and_eq_true, decide_eq_true_eq] at this ⊢
      exact ⟨this.1, by omega, this.2.2⟩
    have hw : wrap64 (-b) = -b := wrap_in (by omega) (by omega)
    have hw2 : wrap64 b = b := wrap_in (by omega) (by omega)
    simp only [plText_some a b c hg, Place_text_some a b c hg, Option.bind_some, if_true]
    simp [laws_FnPlaces.J0_eq, implOfCode_some, parsePlace_some, search_D, hb, hc, impl_MirrorPlace.f, isPlace_some, hw, hn, hw2]

end Go.Proofs.Ytmlpogmedglncaa.Pure
