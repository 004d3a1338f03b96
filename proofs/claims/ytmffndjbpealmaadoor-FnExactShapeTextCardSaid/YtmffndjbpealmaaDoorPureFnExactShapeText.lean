/- The pure statement of the law FnExactShapeText: for all arguments within their bounds its Lean function answers true. -/
import Derived.Test.YtmffndjbpealmaaDoorPFnExactShapeTextxD0
namespace Go.Proofs.YtmffndjbpealmaaDoor.Pure
open Go.RowKit Go.Proofs.YtmffndjbpealmaaDoor.PFnExactShapeText Go.Proofs.YtmffndjbpealmaaDoorW.PrintWords Go.Proofs.YtmffndjbpealmaaDoorW.PrintLast
set_option linter.unusedVariables false
set_option linter.unusedSimpArgs false
/-! ### Numbers, loops, letters -/
theorem wrap_in {x : Int} (h0 : -9223372036854775808 ≤ x) (h1 : x ≤ 9223372036854775807) : wrap64 x = x := by
  unfold wrap64; omega
theorem wf_i64 {n : Int} (h : (Lit.int .i64 n).wf = true) : -9223372036854775808 ≤ n ∧ n ≤ 9223372036854775807 := by
  simpa [Lit.wf, IntKind.min, IntKind.max, IntKind.signed, IntKind.bits] using h
/-- A loop over a list, from its end. L: what the loop tells from place i on. -/
theorem each {α γ : Type} (L : Int → γ) (l : List α) (z : α) (R : Nat → List α → γ → Prop) (nil : R l.length [] (L l.length))
    (cons : ∀ (i : Nat) (x : α) (t : List α), i < l.length → l.getD i z = x → l.drop i = x :: t → l.drop (i + 1) = t → R (i + 1) t (L ((i : Int) + 1)) → R i (x :: t) (L i)) : R 0 l (L 0) := by
  have key : ∀ (t : List α) (i : Nat), l.drop i = t → i ≤ l.length → R i t (L i) := by
    intro t
    induction t with
    | nil =>
      intro i h hi
      have : l.length ≤ i := by simpa [List.drop_eq_nil_iff] using h
      obtain rfl : i = l.length := by omega
      exact nil
    | cons x t ih =>
      intro i h hi
      have hlt : i < l.length := by
        rcases Nat.lt_or_ge i l.length with h' | h'
        · exact h'
        · rw [List.drop_eq_nil_of_le h'] at h; cases h
      have h2 := List.drop_eq_getElem_cons hlt
      rw [h] at h2
      injection h2 with h3 h4
      refine cons i x t hlt ?_ h h4.symm ?_
      · rw [List.getD_eq_getElem?_getD, List.getElem?_eq_getElem hlt]; exact h3.symm
      · have := ih (i + 1) h4.symm (by omega)
        rwa [show ((i + 1 : Nat) : Int) = (i : Int) + 1 from by omega] at this
  have := key l 0 rfl (Nat.zero_le _)
  rwa [show ((0 : Nat) : Int) = 0 from rfl] at this
theorem bt_data (s : ByteArray) (i : Nat) (h : i < s.size) : bt s (i : Int) = ((s.data.toList.getD i 0).toNat : Int) := by
  obtain ⟨d⟩ := s
  have h' : i < d.size := h
  have : bt ⟨d⟩ (i : Int) = ((d[i]).toNat : Int) := by
    unfold bt
    rw [dif_pos (show ((i : Int)).toNat < (⟨d⟩ : ByteArray).size from by simpa using h)]
    rfl
  rw [this]
  simp [h']
theorem size_data (s : ByteArray) : s.size = s.data.toList.length := by
  obtain ⟨d⟩ := s; simp [ByteArray.size]
theorem toList_data (s : ByteArray) : s.toList = s.data.toList := by
  rw [ByteArray.toList_eq]
theorem ext_data {s t : ByteArray} (h : s.toList = t.toList) : s = t := by
  rw [toList_data, toList_data] at h
  obtain ⟨⟨a⟩⟩ := s
  obtain ⟨⟨b⟩⟩ := t
  simp at h
  rw [h]
theorem toList_iff {s t : ByteArray} : s.toList = t.toList ↔ s = t := ⟨ext_data, fun h => by rw [h]⟩
theorem mem_drop {α : Type} {l t : List α} {x : α} {i : Nat} (h : l.drop i = x :: t) : x ∈ l := List.mem_of_mem_drop (i := i) (by rw [h]; simp)

/-! ### Decimal digits -/
theorem dec_length (n : Nat) : (Lib.decDigits n).length ≤ n + 1 := by
  induction n using Nat.strongRecOn with
  | ind n ih =>
    rw [Lib.decDigits]
    split
    · simp
    · have := ih (n / 10) (by omega)
      rw [List.length_append]
      simp only [List.length_cons, List.length_nil]
      omega

/-! ### Numbers in decimal -/
theorem digit_fin : ∀ n : Fin 10, strOfNums [(wrap64 (48 + (n.val : Int))) % 256] = ⟨#[UInt8.ofNat (48 + n.val)]⟩ := by decide +kernel
theorem digit_some {n : Nat} (h : n < 10) : strOfNums [(wrap64 (48 + (n : Int))) % 256] = ⟨#[UInt8.ofNat (48 + n)]⟩ := digit_fin ⟨n, h⟩
theorem num_some (n : Nat) : n < 4611686018427387904 → spec_l1Num.F (n : Int) = some ⟨(Lib.decDigits n).toArray⟩ := by
  induction n using Nat.strongRecOn with
  | ind n ih =>
    intro hn
    rw [spec_l1Num.F_eq]
    by_cases c : n < 10
    · rw [if_pos (by omega), Lib.decDigits_one c, digit_some c]
    · have t1 : (n : Int).tdiv 10 = ((n / 10 : Nat) : Int) := by rw [Int.tdiv_eq_ediv_of_nonneg (by omega)]; omega
      have t2 : (n : Int).tmod 10 = ((n % 10 : Nat) : Int) := by rw [Int.tmod_eq_emod_of_nonneg (by omega)]; omega
      have hl := dec_length (n / 10)
      rw [if_neg (by omega), t1, wrap_in (by omega) (by omega), ih (n / 10) (by omega) (by omega), Option.bind_some, Option.bind_some, t2, digit_some (by omega)]
      have e : Lib.decDigits n = Lib.decDigits (n / 10) ++ [UInt8.ofNat (48 + n % 10)] := by rw [Lib.decDigits, dif_neg c]
      rw [if_pos (by simp only [ByteArray.size, List.size_toArray, List.length_cons, List.length_nil]; omega), e]
      first
      | rfl
      | (congr 1; done)
      | (congr 1; apply ext_data; rw [toList_data, toList_data]; simp)




/-! ### Bounds -/
theorem within_at (a b c : Int) : impl_within.f a b c = some (decide (b ≤ a ∧ a ≤ c)) := by
  unfold impl_within.f
  by_cases h : b ≤ a
  · rw [if_pos h]; simp [h]
  · rw [if_neg h]; simp [h]
theorem l1In_at (a b c : Int) : spec_l1In.f a b c = some (decide (b ≤ a ∧ a ≤ c)) := by
  unfold spec_l1In.f
  by_cases h : b ≤ a
  · rw [if_pos h]; simp [h]
  · rw [if_neg h]; simp [h]

/-! ### Shapes -/
theorem rd_int (l : List Int) (i : Nat) : rd l (i : Int) = l.getD i 0 := by simp [rd]
def wide (b c d e : Int) : Bool := (decide (b = 0) && decide (c = 0)) || ((decide (c = 0) && decide (d = 0)) || (decide (d = 0) && decide (e = 0)))
theorem wide_spec (a b c d e : Int) (s : Bool) : spec_shWide.F a b c d e s = some (wide b c d e) := by
  have e3 : spec_shWide.L0 [b, c, d, e] 4 = some false := by rw [spec_shWide.L0_eq, if_neg (by decide)]
  have e2 : spec_shWide.L0 [b, c, d, e] 3 = some (decide (d = 0) && decide (e = 0)) := by
    rw [spec_shWide.L0_eq, show wrap64 ((3 : Int) - 1) = 2 from by decide +kernel, show wrap64 ((3 : Int) + 1) = 4 from by decide +kernel, if_pos (by decide), if_pos (by decide), if_pos (by simp), show rd [b, c, d, e] 2 = d from rfl, show rd [b, c, d, e] 3 = e from rfl, e3]
    by_cases h : d = 0
    · rw [if_pos h, if_pos (by decide), if_pos (by simp)]
      by_cases h2 : e = 0
      · rw [if_pos h2]; simp [h, h2]
      · rw [if_neg h2]; simp [h2]
    · rw [if_neg h]; simp [h]
  have e1 : spec_shWide.L0 [b, c, d, e] 2 = some ((decide (c = 0) && decide (d = 0)) || (decide (d = 0) && decide (e = 0))) := by
    rw [spec_shWide.L0_eq, show wrap64 ((2 : Int) - 1) = 1 from by decide +kernel, show wrap64 ((2 : Int) + 1) = 3 from by decide +kernel, if_pos (by decide), if_pos (by decide), if_pos (by simp), show rd [b, c, d, e] 1 = c from rfl, show rd [b, c, d, e] 2 = d from rfl, e2]
    by_cases h : c = 0
    · rw [if_pos h, if_pos (by decide), if_pos (by simp)]
      by_cases h2 : d = 0
      · rw [if_pos h2]; simp [h, h2]
      · rw [if_neg h2]; simp [h2]
    · rw [if_neg h]; simp [h]
  rw [spec_shWide.F_eq]
  simp only [spec_shFingers.f, Option.bind_some]
  rw [spec_shWide.L0_eq, show wrap64 ((1 : Int) - 1) = 0 from by decide +kernel, show wrap64 ((1 : Int) + 1) = 2 from by decide +kernel, if_pos (by decide), if_pos (by decide), if_pos (by simp), show rd [b, c, d, e] 0 = b from rfl, show rd [b, c, d, e] 1 = c from rfl, e1]
  unfold wide
  by_cases h : b = 0
  · rw [if_pos h, if_pos (by decide), if_pos (by simp)]
    by_cases h2 : c = 0
    · rw [if_pos h2]; simp [h, h2]
    · rw [if_neg h2]; simp [h2]
  · rw [if_neg h]; simp [h]
theorem wide_impl (a b c d e : Int) (s : Bool) : impl_Shape_maySpread.f a b c d e s = some (wide b c d e) := by
  unfold impl_Shape_maySpread.f wide
  by_cases h1 : c = 0
  · rw [if_pos h1]
    by_cases h2 : b = 0
    · rw [if_pos h2]; simp [h1, h2]
    · rw [if_neg h2]
      by_cases h3 : d = 0
      · rw [if_pos h3]; simp [h1, h3]
      · rw [if_neg h3]; simp [h2, h3]
  · rw [if_neg h1]
    by_cases h3 : d = 0
    · rw [if_pos h3]; simp [h1, h3]
      cases h : decide (e = 0) <;> simpa using h
    · rw [if_neg h3]; simp [h1, h3]
theorem l1All_some (l : List Int) (a b : Int) (hl : l.length ≤ 1048576) : spec_l1All.F l a b = some (l.all fun x => decide (a ≤ x ∧ x ≤ b)) := by
  rw [spec_l1All.F_eq]
  refine each (L := fun i => spec_l1All.L0 a b l l.length i) l 0 (fun _ t o => o = some (t.all fun x => decide (a ≤ x ∧ x ≤ b))) ?_ ?_
  · show spec_l1All.L0 a b l _ _ = _
    rw [spec_l1All.L0_eq, if_neg (by omega)]; rfl
  · intro i x t hi hx _ _ ih
    show spec_l1All.L0 a b l _ _ = _
    rw [spec_l1All.L0_eq, if_pos (by omega), if_pos (by omega), if_pos (by omega), rd_int, hx, l1In_at, Option.bind_some, wrap_in (by omega) (by omega), List.all_cons]
    cases decide (a ≤ x ∧ x ≤ b)
    · rfl
    · rw [if_pos rfl, ih]; rfl
theorem allWithin_some (l : List Int) (a b : Int) (hl : l.length ≤ 1048576) : impl_allWithin.F l a b = some (l.all fun x => decide (a ≤ x ∧ x ≤ b)) := by
  rw [impl_allWithin.F_eq, slices_ContainsFunc_int_impl_allWithin_1.F_eq, slices_IndexFunc_int_impl_allWithin_1.F_eq]
  have := each (L := fun i => slices_IndexFunc_int_impl_allWithin_1.L0 l l.length i a b) l 0 (fun _ t o => ∃ r, o = some r ∧ decide (r ≥ 0) = !(t.all fun x => decide (a ≤ x ∧ x ≤ b))) ?_ ?_
  · obtain ⟨r, h1, h2⟩ := this
    rw [h1]; simp [h2]
  · refine ⟨-1, ?_, by simp⟩
    show slices_IndexFunc_int_impl_allWithin_1.L0 l _ _ _ _ = _
    rw [slices_IndexFunc_int_impl_allWithin_1.L0_eq, if_neg (by omega)]
  · intro i x t hi hx _ _ ih
    show ∃ r, slices_IndexFunc_int_impl_allWithin_1.L0 l _ _ _ _ = _ ∧ _
    rw [slices_IndexFunc_int_impl_allWithin_1.L0_eq, if_pos (by omega), if_pos (by omega), if_pos (by omega), rd_int, hx, wrap_in (by omega) (by omega)]
    unfold impl_allWithin_1.f
    rw [within_at, Option.bind_some, Option.bind_some, List.all_cons]
    cases decide (a ≤ x ∧ x ≤ b)
    · exact ⟨i, by rw [if_pos (by rfl)], by simp⟩
    · rw [if_neg (by simp), Bool.true_and]; exact ih
/-- Is it a shape? -/
def isSh (a b c d e : Int) (s : Bool) : Bool := decide (0 ≤ a ∧ a ≤ 2) && ((([b, c, d, e] : List Int).all fun x => decide (0 ≤ x ∧ x ≤ 2)) && (!s || wide b c d e))
theorem shGood_some (a b c d e : Int) (s : Bool) : spec_shGood.F a b c d e s = some (isSh a b c d e s) := by
  rw [spec_shGood.F_eq, l1In_at, wide_spec, Option.bind_some]
  simp only [spec_shFingers.f, Option.bind_some]
  rw [l1All_some _ _ _ (by simp), Option.bind_some]
  unfold isSh
  cases decide (0 ≤ a ∧ a ≤ 2)
  · rfl
  cases (([b, c, d, e] : List Int).all fun x => decide (0 ≤ x ∧ x ≤ 2))
  · rfl
  cases s <;> rfl
theorem isShape_some (a b c d e : Int) (s : Bool) : impl_IsShape.F a b c d e s = some (isSh a b c d e s) := by
  rw [impl_IsShape.F_eq, wide_impl, Option.bind_some]
  simp only [impl_Shape_bends.f, Option.bind_some]
  rw [if_pos (by simp), allWithin_some _ _ _ (by simp), Option.bind_some]
  unfold isSh
  rw [List.cons_append, List.nil_append, List.all_cons]
  cases decide (0 ≤ a ∧ a ≤ 2)
  · rfl
  cases (([b, c, d, e] : List Int).all fun x => decide (0 ≤ x ∧ x ≤ 2))
  · rfl
  cases s <;> rfl
theorem sh_bounds {a b c d e : Int} {s : Bool} (h : isSh a b c d e s = true) : (0 ≤ a ∧ a ≤ 2) ∧ (0 ≤ b ∧ b ≤ 2) ∧ (0 ≤ c ∧ c ≤ 2) ∧ (0 ≤ d ∧ d ≤ 2) ∧ (0 ≤ e ∧ e ≤ 2) := by
  unfold isSh at h
  simp only [Bool.and_eq_true, decide_eq_true_eq, List.all_cons, List.all_nil, and_true] at h
  exact ⟨h.1, h.2.1.1, h.2.1.2.1, h.2.1.2.2.1, h.2.1.2.2.2⟩

/-! ### Texts of shapes -/
def dg (n : Int) : ByteArray := ⟨(Lib.decDigits n.toNat).toArray⟩
theorem dg_eq {n : Int} (h : 0 ≤ n ∧ n ≤ 9) : dg n = ⟨#[UInt8.ofNat (48 + n.toNat)]⟩ := by
  unfold dg; rw [Lib.decDigits_one (by omega)]
theorem dg_size {n : Int} (h : 0 ≤ n ∧ n ≤ 9) : (dg n).size = 1 := by rw [dg_eq h]; rfl
theorem dg_impl {n : Int} (h : 0 ≤ n ∧ n ≤ 9) : strconv_Itoa.f n = some (dg n) := by
  unfold strconv_Itoa.f; rw [if_pos (by omega)]; rfl
def shTail (s : Bool) (t : ByteArray) : ByteArray := if s = true then t ++ ⟨#[115]⟩ else t
def shTx (a b c d e : Int) (s : Bool) : ByteArray := shTail s ([b, c, d, e].foldl (fun t n => t ++ dg n) (dg a))
theorem sh_loopI (l : List Int) (h : ∀ x ∈ l, 0 ≤ x ∧ x ≤ 2) (hl : l.length ≤ 100) (a b c d e : Int) (s : Bool) (acc : ByteArray) (ha : acc.size ≤ 1) :
    impl_Shape_text.L0 acc l l.length 0 a b c d e s = some (shTail s (l.foldl (fun t n => t ++ dg n) acc)) := by
  have := each (L := fun i => (fun acc => impl_Shape_text.L0 acc l l.length i a b c d e s : ByteArray → _)) l 0
    (fun i t f => (∀ x ∈ t, x ∈ l) → ∀ acc : ByteArray, acc.size ≤ i + 1 → f acc = some (shTail s (t.foldl (fun t n => t ++ dg n) acc))) ?_ ?_ (fun _ h => h) acc (by omega)
  · exact this
  · intro _ acc hs
    have one : (⟨#[115]⟩ : ByteArray).size = 1 := rfl
    show impl_Shape_text.L0 acc l _ _ a b c d e s = _
    have hn : ¬ ((l.length : Int) < (l.length : Int)) := by omega
    rw [impl_Shape_text.L0_eq, if_neg hn]
    unfold shTail
    cases s
    · rfl
    · rw [if_pos rfl, if_pos (by omega)]; rfl
  · intro i x t hi hx _ _ ih hm acc hs
    have hx2 := h x (hm x (by simp))
    have h9 : 0 ≤ x ∧ x ≤ 9 := by omega
    have h1 := dg_size h9
    show impl_Shape_text.L0 acc l _ _ a b c d e s = _
    rw [impl_Shape_text.L0_eq, if_pos (by omega), if_pos (by omega), if_pos (by omega), rd_int, hx, dg_impl h9, Option.bind_some, if_pos (by omega), wrap_in (by omega) (by omega)]
    exact ih (fun y hy => hm y (by simp [hy])) _ (by rw [ByteArray.size_append]; omega)
theorem sh_textI {a b c d e : Int} {s : Bool} (h : isSh a b c d e s = true) : impl_Shape_text.F a b c d e s = some (shTx a b c d e s) := by
  obtain ⟨ha, hb, hc, hd, he⟩ := sh_bounds h
  rw [impl_Shape_text.F_eq, dg_impl (by omega)]
  simp only [impl_Shape_bends.f, Option.bind_some]
  refine sh_loopI [b, c, d, e] (fun x hx => ?_) (by simp) a b c d e s (dg a) (by rw [dg_size (by omega)]; omega)
  simp only [List.mem_cons, List.not_mem_nil, or_false] at hx
  rcases hx with rfl | rfl | rfl | rfl <;> assumption

theorem dg_spec {n : Int} (h : 0 ≤ n ∧ n ≤ 9) : spec_l1Num.F n = some (dg n) := by
  obtain ⟨m, rfl⟩ := Int.eq_ofNat_of_zero_le h.1
  rw [num_some m (by omega)]; rfl
theorem sh_loopS (l : List Int) (h : ∀ x ∈ l, 0 ≤ x ∧ x ≤ 2) (hl : l.length ≤ 100) (a b c d e : Int) (s : Bool) (acc : ByteArray) (ha : acc.size ≤ 1) :
    spec_shText.L0 acc l l.length 0 a b c d e s = some (shTail s (l.foldl (fun t n => t ++ dg n) acc)) := by
  have := each (L := fun i => (fun acc => spec_shText.L0 acc l l.length i a b c d e s : ByteArray → _)) l 0
    (fun i t f => (∀ x ∈ t, x ∈ l) → ∀ acc : ByteArray, acc.size ≤ i + 1 → f acc = some (shTail s (t.foldl (fun t n => t ++ dg n) acc))) ?_ ?_ (fun _ h => h) acc (by omega)
  · exact this
  · intro _ acc hs
    have one : (⟨#[115]⟩ : ByteArray).size = 1 := rfl
    show spec_shText.L0 acc l _ _ a b c d e s = _
    have hn : ¬ ((l.length : Int) < (l.length : Int)) := by omega
    rw [spec_shText.L0_eq, if_neg hn]
    unfold shTail
    cases s
    · rfl
    · rw [if_pos rfl, if_pos (by omega)]; rfl
  · intro i x t hi hx _ _ ih hm acc hs
    have hx2 := h x (hm x (by simp))
    have h9 : 0 ≤ x ∧ x ≤ 9 := by omega
    have h1 := dg_size h9
    show spec_shText.L0 acc l _ _ a b c d e s = _
    rw [spec_shText.L0_eq, if_pos (by omega), if_pos (by omega), if_pos (by omega), rd_int, hx, dg_spec h9, Option.bind_some, if_pos (by omega), wrap_in (by omega) (by omega)]
    exact ih (fun y hy => hm y (by simp [hy])) _ (by rw [ByteArray.size_append]; omega)
theorem sh_textS {a b c d e : Int} {s : Bool} (h : isSh a b c d e s = true) : spec_shText.F a b c d e s = some (shTx a b c d e s) := by
  obtain ⟨ha, hb, hc, hd, he⟩ := sh_bounds h
  rw [spec_shText.F_eq, dg_spec (by omega)]
  simp only [spec_shFingers.f, Option.bind_some]
  refine sh_loopS [b, c, d, e] (fun x hx => ?_) (by simp) a b c d e s (dg a) (by rw [dg_size (by omega)]; omega)
  simp only [List.mem_cons, List.not_mem_nil, or_false] at hx
  rcases hx with rfl | rfl | rfl | rfl <;> assumption

theorem shapeText_same (a b c d e : Int) (s : Bool) : ∃ r, spec_ShapeText.F a b c d e s = some r ∧ impl_ShapeText.F a b c d e s = some r ∧ r = (if isSh a b c d e s = true then (shTx a b c d e s, true) else (⟨#[]⟩, false)) := by
  rw [spec_ShapeText.F_eq, impl_ShapeText.F_eq, shGood_some, isShape_some, Option.bind_some, Option.bind_some]
  cases h : isSh a b c d e s
  · exact ⟨_, rfl, rfl, rfl⟩
  · have h1 := sh_textS h
    have h2 := sh_textI h
    rw [if_pos rfl, if_pos rfl, h1, h2]; exact ⟨_, rfl, rfl, rfl⟩

theorem FnExactShapeText : laws_FnExactShapeText.Pure := by
  intro a b c d e s hw
  refine lim_rounds (?_ : laws_FnExactShapeText.F a b c d e s = some true)
  obtain ⟨r, h1, h2, _⟩ := shapeText_same a b c d e s
  rw [laws_FnExactShapeText.F_eq]
  simp only [laws_toShape.f, Option.bind_some, h1, h2, if_true, bne_self_eq_false, Bool.false_eq_true, if_false]

end Go.Proofs.YtmffndjbpealmaaDoor.Pure
