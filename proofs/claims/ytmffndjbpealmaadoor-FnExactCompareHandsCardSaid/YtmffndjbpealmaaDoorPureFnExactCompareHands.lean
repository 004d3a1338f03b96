/- The pure statement of the law FnExactCompareHands: for all arguments within their bounds its Lean function answers true. -/
import Derived.Test.YtmffndjbpealmaaDoorPFnExactCompareHandsxD0
namespace Go.Proofs.YtmffndjbpealmaaDoor.Pure
open Go.RowKit Go.Proofs.YtmffndjbpealmaaDoor.PFnExactCompareHands Go.Proofs.YtmffndjbpealmaaDoorW.PrintWords Go.Proofs.YtmffndjbpealmaaDoorW.PrintLast
set_option linter.unusedVariables false
set_option linter.unusedSimpArgs false
/-! ### Numbers, loops, letters -/
theorem wrap_in {x : Int} (h0 : -9223372036854775808 ≤ x) (h1 : x ≤ 9223372036854775807) : wrap64 x = x := by
  unfold wrap64; omega
theorem wf_i64 {n : Int} (h : (Lit.int .i64 n).wf = true) : -9223372036854775808 ≤ n ∧ n ≤ 9223372036854775807 := by
  simpa [Lit.wf, IntKind.min, IntKind.max, IntKind.signed, IntKind.bits] using h
/-- A loop over a list, from its end. L: what the loop tells from place i on. -/
theorem each {α γ : Type} (L : Int → γ) (l : List α) (z : α) (R : Nat → List α → γ → Prop) (nil : R l.length [] (L l.length))
    (cons : ∀ (i : Nat) (x : α) (t : List α), i < l.length → l.getD i z = x → l.drop i = x :: t → l.drop (i + 1) = t → R (i + 1) t (L ((i : Int) + 1)) → R i (x :: t) (L i)) : R 0 l (L 0) := by
  have key : ∀ (t : List α) (i : Nat), l.drop i = t → i ≤ l.length → R i t (L i) := by
    intro t
    induction t with
    | nil =>
      intro i h hi
      have : l.length ≤ i := by simpa [List.drop_eq_nil_iff] using h
      obtain rfl : i = l.length := by omega
      exact nil
    | cons x t ih =>
      intro i h hi
      have hlt : i < l.length := by
        rcases Nat.lt_or_ge i l.length with h' | h'
        · exact h'
        · rw [List.drop_eq_nil_of_le h'] at h; cases h
      have h2 := List.drop_eq_getElem_cons hlt
      rw [h] at h2
      injection h2 with h3 h4
      refine cons i x t hlt ?_ h h4.symm ?_
      · rw [List.getD_eq_getElem?_getD, List.getElem?_eq_getElem hlt]; exact h3.symm
      · have := ih (i + 1) h4.symm (by omega)
        rwa [show ((i + 1 : Nat) : Int) = (i : Int) + 1 from by omega] at this
  have := key l 0 rfl (Nat.zero_le _)
  rwa [show ((0 : Nat) : Int) = 0 from rfl] at this
theorem bt_data (s : ByteArray) (i : Nat) (h : i < s.size) : bt s (i : Int) = ((s.data.toList.getD i 0).toNat : Int) := by
  obtain ⟨d⟩ := s
  have h' : i < d.size := h
  have : bt ⟨d⟩ (i : Int) = ((d[i]).toNat : Int) := by
    unfold bt
    rw [dif_pos (show ((i : Int)).toNat < (⟨d⟩ : ByteArray).size from by simpa using h)]
    rfl
  rw [this]
  simp [h']
theorem size_data (s : ByteArray) : s.size = s.data.toList.length := by
  obtain ⟨d⟩ := s; simp [ByteArray.size]
theorem toList_data (s : ByteArray) : s.toList = s.data.toList := by
  rw [ByteArray.toList_eq]
theorem ext_data {s t : ByteArray} (h : s.toList = t.toList) : s = t := by
  rw [toList_data, toList_data] at h
  obtain ⟨⟨a⟩⟩ := s
  obtain ⟨⟨b⟩⟩ := t
  simp at h
  rw [h]
theorem toList_iff {s t : ByteArray} : s.toList = t.toList ↔ s = t := ⟨ext_data, fun h => by rw [h]⟩
theorem mem_drop {α : Type} {l t : List α} {x : α} {i : Nat} (h : l.drop i = x :: t) : x ∈ l := List.mem_of_mem_drop (i := i) (by rw [h]; simp)

/-! ### Decimal digits -/
theorem dec_length (n : Nat) : (Lib.decDigits n).length ≤ n + 1 := by
  induction n using Nat.strongRecOn with
  | ind n ih =>
    rw [Lib.decDigits]
    split
    · simp
    · have := ih (n / 10) (by omega)
      rw [List.length_append]
      simp only [List.length_cons, List.length_nil]
      omega

/-! ### Numbers in decimal -/
theorem digit_fin : ∀ n : Fin 10, strOfNums [(wrap64 (48 + (n.val : Int))) % 256] = ⟨#[UInt8.ofNat (48 + n.val)]⟩ := by decide +kernel
theorem digit_some {n : Nat} (h : n < 10) : strOfNums [(wrap64 (48 + (n : Int))) % 256] = ⟨#[UInt8.ofNat (48 + n)]⟩ := digit_fin ⟨n, h⟩
theorem num_some (n : Nat) : n < 4611686018427387904 → spec_l1Num.F (n : Int) = some ⟨(Lib.decDigits n).toArray⟩ := by
  induction n using Nat.strongRecOn with
  | ind n ih =>
    intro hn
    rw [spec_l1Num.F_eq]
    by_cases c : n < 10
    · rw [if_pos (by omega), Lib.decDigits_one c, digit_some c]
    · have t1 : (n : Int).tdiv 10 = ((n / 10 : Nat) : Int) := by rw [Int.tdiv_eq_ediv_of_nonneg (by omega)]; omega
      have t2 : (n : Int).tmod 10 = ((n % 10 : Nat) : Int) := by rw [Int.tmod_eq_emod_of_nonneg (by omega)]; omega
      have hl := dec_length (n / 10)
      rw [if_neg (by omega), t1, wrap_in (by omega) (by omega), ih (n / 10) (by omega) (by omega), Option.bind_some, Option.bind_some, t2, digit_some (by omega)]
      have e : Lib.decDigits n = Lib.decDigits (n / 10) ++ [UInt8.ofNat (48 + n % 10)] := by rw [Lib.decDigits, dif_neg c]
      rw [if_pos (by simp only [ByteArray.size, List.size_toArray, List.length_cons, List.length_nil]; omega), e]
      first
      | rfl
      | (congr 1; done)
      | (congr 1; apply ext_data; rw [toList_data, toList_data]; simp)




/-! ### Bounds -/
theorem within_at (a b c : Int) : impl_within.f a b c = some (decide (b ≤ a ∧ a ≤ c)) := by
  unfold impl_within.f
  by_cases h : b ≤ a
  · rw [if_pos h]; simp [h]
  · rw [if_neg h]; simp [h]
theorem l1In_at (a b c : Int) : spec_l1In.f a b c = some (decide (b ≤ a ∧ a ≤ c)) := by
  unfold spec_l1In.f
  by_cases h : b ≤ a
  · rw [if_pos h]; simp [h]
  · rw [if_neg h]; simp [h]

/-! ### Shapes -/
theorem rd_int (l : List Int) (i : Nat) : rd l (i : Int) = l.getD i 0 := by simp [rd]
def wide (b c d e : Int) : Bool := (decide (b = 0) && decide (c = 0)) || ((decide (c = 0) && decide (d = 0)) || (decide (d = 0) && decide (e = 0)))
theorem wide_spec (a b c d e : Int) (s : Bool) : spec_shWide.F a b c d e s = some (wide b c d e) := by
  have e3 : spec_shWide.L0 [b, c, d, e] 4 = some false := by rw [spec_shWide.L0_eq, if_neg (by decide)]
  have e2 : spec_shWide.L0 [b, c, d, e] 3 = some (decide (d = 0) && decide (e = 0)) := by
    rw [spec_shWide.L0_eq, show wrap64 ((3 : Int) - 1) = 2 from by decide +kernel, show wrap64 ((3 : Int) + 1) = 4 from by decide +kernel, if_pos (by decide), if_pos (by decide), if_pos (by simp), show rd [b, c, d, e] 2 = d from rfl, show rd [b, c, d, e] 3 = e from rfl, e3]
    by_cases h : d = 0
    · rw [if_pos h, if_pos (by decide), if_pos (by simp)]
      by_cases h2 : e = 0
      · rw [if_pos h2]; simp [h, h2]
      · rw [if_neg h2]; simp [h2]
    · rw [if_neg h]; simp [h]
  have e1 : spec_shWide.L0 [b, c, d, e] 2 = some ((decide (c = 0) && decide (d = 0)) || (decide (d = 0) && decide (e = 0))) := by
    rw [spec_shWide.L0_eq, show wrap64 ((2 : Int) - 1) = 1 from by decide +kernel, show wrap64 ((2 : Int) + 1) = 3 from by decide +kernel, if_pos (by decide), if_pos (by decide), if_pos (by simp), show rd [b, c, d, e] 1 = c from rfl, show rd [b, c, d, e] 2 = d from rfl, e2]
    by_cases h : c = 0
    · rw [if_pos h, if_pos (by decide), if_pos (by simp)]
      by_cases h2 : d = 0
      · rw [if_pos h2]; simp [h, h2]
      · rw [if_neg h2]; simp [h2]
    · rw [if_neg h]; simp [h]
  rw [spec_shWide.F_eq]
  simp only [spec_shFingers.f, Option.bind_some]
  rw [spec_shWide.L0_eq, show wrap64 ((1 : Int) - 1) = 0 from by decide +kernel, show wrap64 ((1 : Int) + 1) = 2 from by decide +kernel, if_pos (by decide), if_pos (by decide), if_pos (by simp), show rd [b, c, d, e] 0 = b from rfl, show rd [b, c, d, e] 1 = c from rfl, e1]
  unfold wide
  by_cases h : b = 0
  · rw [if_pos h, if_pos (by decide), if_pos (by simp)]
    by_cases h2 : c = 0
    · rw [if_pos h2]; simp [h, h2]
    · rw [if_neg h2]; simp [h2]
  · rw [if_neg h]; simp [h]
theorem wide_impl (a b c d e : Int) (s : Bool) : impl_Shape_maySpread.f a b c d e s = some (wide b c d e) := by
  unfold impl_Shape_maySpread.f wide
  by_cases h1 : c = 0
  · rw [if_pos h1]
    by_cases h2 : b = 0
    · rw [if_pos h2]; simp [h1, h2]
    · rw [if_neg h2]
      by_cases h3 : d = 0
      · rw [if_pos h3]; simp [h1, h3]
      · rw [if_neg h3]; simp [h2, h3]
  · rw [if_neg h1]
    by_cases h3 : d = 0
    · rw [if_pos h3]; simp [h1, h3]
      cases h : decide (e = 0) <;> simpa using h
    · rw [if_neg h3]; simp [h1, h3]
theorem l1All_some (l : List Int) (a b : Int) (hl : l.length ≤ 1048576) : spec_l1All.F l a b = some (l.all fun x => decide (a ≤ x ∧ x ≤ b)) := by
  rw [spec_l1All.F_eq]
  refine each (L := fun i => spec_l1All.L0 a b l l.length i) l 0 (fun _ t o => o = some (t.all fun x => decide (a ≤ x ∧ x ≤ b))) ?_ ?_
  · show spec_l1All.L0 a b l _ _ = _
    rw [spec_l1All.L0_eq, if_neg (by omega)]; rfl
  · intro i x t hi hx _ _ ih
    show spec_l1All.L0 a b l _ _ = _
    rw [spec_l1All.L0_eq, if_pos (by omega), if_pos (by omega), if_pos (by omega), rd_int, hx, l1In_at, Option.bind_some, wrap_in (by omega) (by omega), List.all_cons]
    cases decide (a ≤ x ∧ x ≤ b)
    · rfl
    · rw [if_pos rfl, ih]; rfl
theorem allWithin_some (l : List Int) (a b : Int) (hl : l.length ≤ 1048576) : impl_allWithin.F l a b = some (l.all fun x => decide (a ≤ x ∧ x ≤ b)) := by
  rw [impl_allWithin.F_eq, slices_ContainsFunc_int_impl_allWithin_1.F_eq, slices_IndexFunc_int_impl_allWithin_1.F_eq]
  have := each (L := fun i => slices_IndexFunc_int_impl_allWithin_1.L0 l l.length i a b) l 0 (fun _ t o => ∃ r, o = some r ∧ decide (r ≥ 0) = !(t.all fun x => decide (a ≤ x ∧ x ≤ b))) ?_ ?_
  · obtain ⟨r, h1, h2⟩ := this
    rw [h1]; simp [h2]
  · refine ⟨-1, ?_, by simp⟩
    show slices_IndexFunc_int_impl_allWithin_1.L0 l _ _ _ _ = _
    rw [slices_IndexFunc_int_impl_allWithin_1.L0_eq, if_neg (by omega)]
  · intro i x t hi hx _ _ ih
    show ∃ r, slices_IndexFunc_int_impl_allWithin_1.L0 l _ _ _ _ = _ ∧ _
    rw [slices_IndexFunc_int_impl_allWithin_1.L0_eq, if_pos (by omega), if_pos (by omega), if_pos (by omega), rd_int, hx, wrap_in (by omega) (by omega)]
    unfold impl_allWithin_1.f
    rw [within_at, Option.bind_some, Option.bind_some, List.all_cons]
    cases decide (a ≤ x ∧ x ≤ b)
    · exact ⟨i, by rw [if_pos (by rfl)], by simp⟩
    · rw [if_neg (by simp), Bool.true_and]; exact ih
/-- Is it a shape? -/
def isSh (a b c d e : Int) (s : Bool) : Bool := decide (0 ≤ a ∧ a ≤ 2) && ((([b, c, d, e] : List Int).all fun x => decide (0 ≤ x ∧ x ≤ 2)) && (!s || wide b c d e))
theorem shGood_some (a b c d e : Int) (s : Bool) : spec_shGood.F a b c d e s = some (isSh a b c d e s) := by
  rw [spec_shGood.F_eq, l1In_at, wide_spec, Option.bind_some]
  simp only [spec_shFingers.f, Option.bind_some]
  rw [l1All_some _ _ _ (by simp), Option.bind_some]
  unfold isSh
  cases decide (0 ≤ a ∧ a ≤ 2)
  · rfl
  cases (([b, c, d, e] : List Int).all fun x => decide (0 ≤ x ∧ x ≤ 2))
  · rfl
  cases s <;> rfl
theorem isShape_some (a b c d e : Int) (s : Bool) : impl_IsShape.F a b c d e s = some (isSh a b c d e s) := by
  rw [impl_IsShape.F_eq, wide_impl, Option.bind_some]
  simp only [impl_Shape_bends.f, Option.bind_some]
  rw [if_pos (by simp), allWithin_some _ _ _ (by simp), Option.bind_some]
  unfold isSh
  rw [List.cons_append, List.nil_append, List.all_cons]
  cases decide (0 ≤ a ∧ a ≤ 2)
  · rfl
  cases (([b, c, d, e] : List Int).all fun x => decide (0 ≤ x ∧ x ≤ 2))
  · rfl
  cases s <;> rfl
theorem sh_bounds {a b c d e : Int} {s : Bool} (h : isSh a b c d e s = true) : (0 ≤ a ∧ a ≤ 2) ∧ (0 ≤ b ∧ b ≤ 2) ∧ (0 ≤ c ∧ c ≤ 2) ∧ (0 ≤ d ∧ d ≤ 2) ∧ (0 ≤ e ∧ e ≤ 2) := by
  unfold isSh at h
  simp only [Bool.and_eq_true, decide_eq_true_eq, List.all_cons, List.all_nil, and_true] at h
  exact ⟨h.1, h.2.1.1, h.2.1.2.1, h.2.1.2.2.1, h.2.1.2.2.2⟩

/-! ### Texts of shapes -/
def dg (n : Int) : ByteArray := ⟨(Lib.decDigits n.toNat).toArray⟩
theorem dg_eq {n : Int} (h : 0 ≤ n ∧ n ≤ 9) : dg n = ⟨#[UInt8.ofNat (48 + n.toNat)]⟩ := by
  unfold dg; rw [Lib.decDigits_one (by omega)]
theorem dg_size {n : Int} (h : 0 ≤ n ∧ n ≤ 9) : (dg n).size = 1 := by rw [dg_eq h]; rfl
theorem dg_impl {n : Int} (h : 0 ≤ n ∧ n ≤ 9) : strconv_Itoa.f n = some (dg n) := by
  unfold strconv_Itoa.f; rw [if_pos (by omega)]; rfl
def shTail (s : Bool) (t : ByteArray) : ByteArray := if s = true then t ++ ⟨#[115]⟩ else t
def shTx (a b c d e : Int) (s : Bool) : ByteArray := shTail s ([b, c, d, e].foldl (fun t n => t ++ dg n) (dg a))
theorem sh_loopI (l : List Int) (h : ∀ x ∈ l, 0 ≤ x ∧ x ≤ 2) (hl : l.length ≤ 100) (a b c d e : Int) (s : Bool) (acc : ByteArray) (ha : acc.size ≤ 1) :
    impl_Shape_text.L0 acc l l.length 0 a b c d e s = some (shTail s (l.foldl (fun t n => t ++ dg n) acc)) := by
  have := each (L := fun i => (fun acc => impl_Shape_text.L0 acc l l.length i a b c d e s : ByteArray → _)) l 0
    (fun i t f => (∀ x ∈ t, x ∈ l) → ∀ acc : ByteArray, acc.size ≤ i + 1 → f acc = some (shTail s (t.foldl (fun t n => t ++ dg n) acc))) ?_ ?_ (fun _ h => h) acc (by omega)
  · exact this
  · intro _ acc hs
    have one : (⟨#[115]⟩ : ByteArray).size = 1 := rfl
    show impl_Shape_text.L0 acc l _ _ a b c d e s = _
    have hn : ¬ ((l.length : Int) < (l.length : Int)) := by omega
    rw [impl_Shape_text.L0_eq, if_neg hn]
    unfold shTail
    cases s
    · rfl
    · rw [if_pos rfl, if_pos (by omega)]; rfl
  · intro i x t hi hx _ _ ih hm acc hs
    have hx2 := h x (hm x (by simp))
    have h9 : 0 ≤ x ∧ x ≤ 9 := by omega
    have h1 := dg_size h9
    show impl_Shape_text.L0 acc l _ _ a b c d e s = _
    rw [impl_Shape_text.L0_eq, if_pos (by omega), if_pos (by omega), if_pos (by omega), rd_int, hx, dg_impl h9, Option.bind_some, if_pos (by omega), wrap_in (by omega) (by omega)]
    exact ih (fun y hy => hm y (by simp [hy])) _ (by rw [ByteArray.size_append]; omega)
theorem sh_textI {a b c d e : Int} {s : Bool} (h : isSh a b c d e s = true) : impl_Shape_text.F a b c d e s = some (shTx a b c d e s) := by
  obtain ⟨ha, hb, hc, hd, he⟩ := sh_bounds h
  rw [impl_Shape_text.F_eq, dg_impl (by omega)]
  simp only [impl_Shape_bends.f, Option.bind_some]
  refine sh_loopI [b, c, d, e] (fun x hx => ?_) (by simp) a b c d e s (dg a) (by rw [dg_size (by omega)]; omega)
  simp only [List.mem_cons, List.not_mem_nil, or_false] at hx
  rcases hx with rfl | rfl | rfl | rfl <;> assumption

theorem dg_spec {n : Int} (h : 0 ≤ n ∧ n ≤ 9) : spec_l1Num.F n = some (dg n) := by
  obtain ⟨m, rfl⟩ := Int.eq_ofNat_of_zero_le h.1
  rw [num_some m (by omega)]; rfl
theorem sh_loopS (l : List Int) (h : ∀ x ∈ l, 0 ≤ x ∧ x ≤ 2) (hl : l.length ≤ 100) (a b c d e : Int) (s : Bool) (acc : ByteArray) (ha : acc.size ≤ 1) :
    spec_shText.L0 acc l l.length 0 a b c d e s = some (shTail s (l.foldl (fun t n => t ++ dg n) acc)) := by
  have := each (L := fun i => (fun acc => spec_shText.L0 acc l l.length i a b c d e s : ByteArray → _)) l 0
    (fun i t f => (∀ x ∈ t, x ∈ l) → ∀ acc : ByteArray, acc.size ≤ i + 1 → f acc = some (shTail s (t.foldl (fun t n => t ++ dg n) acc))) ?_ ?_ (fun _ h => h) acc (by omega)
  · exact this
  · intro _ acc hs
    have one : (⟨#[115]⟩ : ByteArray).size = 1 := rfl
    show spec_shText.L0 acc l _ _ a b c d e s = _
    have hn : ¬ ((l.length : Int) < (l.length : Int)) := by omega
    rw [spec_shText.L0_eq, if_neg hn]
    unfold shTail
    cases s
    · rfl
    · rw [if_pos rfl, if_pos (by omega)]; rfl
  · intro i x t hi hx _ _ ih hm acc hs
    have hx2 := h x (hm x (by simp))
    have h9 : 0 ≤ x ∧ x ≤ 9 := by omega
    have h1 := dg_size h9
    show spec_shText.L0 acc l _ _ a b c d e s = _
    rw [spec_shText.L0_eq, if_pos (by omega), if_pos (by omega), if_pos (by omega), rd_int, hx, dg_spec h9, Option.bind_some, if_pos (by omega), wrap_in (by omega) (by omega)]
    exact ih (fun y hy => hm y (by simp [hy])) _ (by rw [ByteArray.size_append]; omega)
theorem sh_textS {a b c d e : Int} {s : Bool} (h : isSh a b c d e s = true) : spec_shText.F a b c d e s = some (shTx a b c d e s) := by
  obtain ⟨ha, hb, hc, hd, he⟩ := sh_bounds h
  rw [spec_shText.F_eq, dg_spec (by omega)]
  simp only [spec_shFingers.f, Option.bind_some]
  refine sh_loopS [b, c, d, e] (fun x hx => ?_) (by simp) a b c d e s (dg a) (by rw [dg_size (by omega)]; omega)
  simp only [List.mem_cons, List.not_mem_nil, or_false] at hx
  rcases hx with rfl | rfl | rfl | rfl <;> assumption


/-! ### Places and their names -/
def isPl (a b : Int) (c : Bool) : Bool := decide (0 ≤ a ∧ a ≤ 9) && (decide (-1 ≤ b ∧ b ≤ 1) && (!c || decide (a > 0)))
theorem plGood_some (a b : Int) (c : Bool) : spec_plGood.f a b c = some (isPl a b c) := by
  unfold spec_plGood.f isPl
  rw [l1In_at, l1In_at, Option.bind_some, Option.bind_some]
  by_cases h1 : 0 ≤ a ∧ a ≤ 9 <;> by_cases h2 : -1 ≤ b ∧ b ≤ 1 <;> by_cases h3 : a > 0 <;> cases c <;> simp [h1, h2, h3]
theorem isPlace_some (a b : Int) (c : Bool) : impl_IsPlace.f a b c = some (isPl a b c) := by
  unfold impl_IsPlace.f isPl
  rw [within_at, within_at, Option.bind_some, Option.bind_some]
  by_cases h1 : 0 ≤ a ∧ a ≤ 9
  · have h4 : (a > 0) ↔ ¬ a = 0 := by omega
    by_cases h2 : -1 ≤ b ∧ b ≤ 1 <;> by_cases h3 : a = 0 <;> cases c <;> simp [h1, h2, h3, h4]
  · simp [h1]
theorem nm_size (n : Nat) : (impl_Place_text.nm n).size ≤ 5 := by
  by_cases h : n < 10
  · have : n = 0 ∨ n = 1 ∨ n = 2 ∨ n = 3 ∨ n = 4 ∨ n = 5 ∨ n = 6 ∨ n = 7 ∨ n = 8 ∨ n = 9 := by omega
    rcases this with rfl | rfl | rfl | rfl | rfl | rfl | rfl | rfl | rfl | rfl <;> decide
  · unfold impl_Place_text.nm
    rw [List.getD_eq_getElem?_getD, List.getElem?_eq_none (by simpa using h)]
    decide
theorem app_nil (s : ByteArray) : s ++ (⟨#[]⟩ : ByteArray) = s := by
  apply ext_data
  rw [toList_data, toList_data]
  simp
def plTxt (a b : Int) (c : Bool) : ByteArray :=
  let s := impl_Place_text.nm a.toNat ++ (if b = -1 then ⟨#[60]⟩ else if b = 1 then ⟨#[62]⟩ else ⟨#[]⟩ : ByteArray)
  if c then s ++ ⟨#[42]⟩ else s
theorem plText_some (a b : Int) (c : Bool) (h : isPl a b c = true) : spec_plText.f a b c = some (plTxt a b c) := by
  unfold isPl at h
  simp only [Bool.and_eq_true, decide_eq_true_eq] at h
  obtain ⟨⟨h1, h2⟩, ⟨h3, h4⟩, _⟩ := h
  have hr : ∀ l d, l = [(⟨#[115, 112, 97, 99, 101]⟩ : ByteArray), ⟨#[104, 101, 97, 100]⟩, ⟨#[101, 121, 101]⟩, ⟨#[99, 104, 101, 101, 107]⟩, ⟨#[109, 111, 117, 116, 104]⟩, ⟨#[99, 104, 105, 110]⟩, ⟨#[110, 101, 99, 107]⟩, ⟨#[99, 104, 101, 115, 116]⟩, ⟨#[119, 97, 105, 115, 116]⟩, ⟨#[104, 105, 112]⟩] → d = (⟨#[]⟩ : ByteArray) → rdOf d l a = impl_Place_text.nm a.toNat := by
    intro l d h5 h6; subst h5 h6; rfl
  unfold spec_plText.f spec_plNames.f plTxt
  have hs := nm_size a.toNat
  rw [Option.bind_some, if_pos h1, if_pos (by simp; omega), hr _ ByteArray.empty rfl rfl]
  generalize impl_Place_text.nm a.toNat = s at hs
  have e : ∀ x : ByteArray, (s ++ x).size = s.size + x.size := fun x => ByteArray.size_append
  by_cases c1 : b = -1
  · subst c1
    rw [if_pos rfl, if_pos rfl, if_pos (by omega)]
    cases c
    · rfl
    · rw [if_pos rfl, if_pos (by rw [e]; show s.size + 1 + 1 ≤ _; omega)]; rfl
  rw [if_neg c1, if_neg c1]
  by_cases c2 : b = 1
  · subst c2
    rw [if_pos rfl, if_pos rfl, if_pos (by omega)]
    cases c
    · rfl
    · rw [if_pos rfl, if_pos (by rw [e]; show s.size + 1 + 1 ≤ _; omega)]; rfl
  rw [if_neg c2, if_neg c2, app_nil]
  cases c
  · rfl
  · rw [if_pos rfl, if_pos (by omega)]; rfl
theorem Place_text_some (a b : Int) (c : Bool) (h : isPl a b c = true) : impl_Place_text.f a b c = some (plTxt a b c) := by
  unfold isPl at h
  simp only [Bool.and_eq_true, decide_eq_true_eq] at h
  obtain ⟨⟨h1, h2⟩, ⟨h3, h4⟩, _⟩ := h
  unfold impl_Place_text.f plTxt
  rw [if_pos ⟨h1, h2⟩]
  by_cases c1 : b = -1
  · subst c1; rfl
  rw [if_neg c1, if_neg c1]
  by_cases c2 : b = 0
  · subst c2; rfl
  obtain rfl : b = 1 := by omega
  rfl


/-! ### Orientations -/
theorem six {a : Int} (h : 0 ≤ a ∧ a ≤ 5) : a = 0 ∨ a = 1 ∨ a = 2 ∨ a = 3 ∨ a = 4 ∨ a = 5 := by omega
def inDir (a : Int) : Bool := decide (0 ≤ a ∧ a ≤ 5)
def isOr (a b : Int) : Bool := inDir a && (inDir b && !(a / 2 == b / 2))
theorem isOr_in {a b : Int} (h : isOr a b = true) : (0 ≤ a ∧ a ≤ 5) ∧ (0 ≤ b ∧ b ≤ 5) := by
  unfold isOr inDir at h
  simp only [Bool.and_eq_true, decide_eq_true_eq] at h
  exact ⟨h.1, h.2.1⟩
theorem orGood_some (a b : Int) : spec_orGood.f a b = some (isOr a b) := by
  unfold spec_orGood.f spec_orDir.f
  simp only [l1In_at, Option.bind_some]
  by_cases h1 : 0 ≤ a ∧ a ≤ 5
  · by_cases h2 : 0 ≤ b ∧ b ≤ 5
    · rcases six h1 with rfl | rfl | rfl | rfl | rfl | rfl <;> rcases six h2 with rfl | rfl | rfl | rfl | rfl | rfl <;> kernel_rfl
    · simp [isOr, inDir, h1, h2]
  · simp [isOr, inDir, h1]
theorem isOrient_some (a b : Int) : impl_IsOrient.f a b = some (isOr a b) := by
  unfold impl_IsOrient.f
  simp only [within_at, Option.bind_some]
  by_cases h1 : 0 ≤ a ∧ a ≤ 5
  · by_cases h2 : 0 ≤ b ∧ b ≤ 5
    · rcases six h1 with rfl | rfl | rfl | rfl | rfl | rfl <;> rcases six h2 with rfl | rfl | rfl | rfl | rfl | rfl <;> kernel_rfl
    · simp [isOr, inDir, h1, h2]
  · simp [isOr, inDir, h1]
def dirL : ByteArray := ⟨#[117, 100, 108, 114, 102, 98]⟩
def orTx (a b : Int) : ByteArray := dirL.extract a.toNat (a.toNat + 1) ++ dirL.extract b.toNat (b.toNat + 1)
theorem or_texts {a b : Int} (h : isOr a b = true) : spec_orText.f a b = some (orTx a b) ∧ impl_Orient_text.f a b = some (orTx a b) ∧ (orTx a b).size = 2 := by
  obtain ⟨h1, h2⟩ := isOr_in h
  clear h
  rcases six h1 with rfl | rfl | rfl | rfl | rfl | rfl <;> rcases six h2 with rfl | rfl | rfl | rfl | rfl | rfl <;> exact ⟨by kernel_rfl, by kernel_rfl, by decide⟩


/-! ### Letters out of a list -/
/-- Are all letters out of a list? -/
def allOf (g : List Nat) (s : ByteArray) : Bool := s.data.toList.all fun x => g.contains x.toNat
def FitsI (g : List Nat) (m : ByteArray) : Prop := ∀ n : Fin 256, decide (Lib.indexByte m.data.toList n.val.toUInt8 < 0) = !g.contains n.val
instance (g : List Nat) (m : ByteArray) : Decidable (FitsI g m) := by unfold FitsI; infer_instance
theorem only_some (g : List Nat) (s m : ByteArray) (hs : s.size ≤ 9223372036854775807) (hm : FitsI g m) : impl_hasOnly.F s m = some (allOf g s) := by
  rw [impl_hasOnly.F_eq]
  refine each (L := fun i => impl_hasOnly.L0 s m s.size i) s.data.toList 0 (fun _ t o => o = some (t.all fun x => g.contains x.toNat)) ?_ ?_
  · show impl_hasOnly.L0 s m _ _ = _
    rw [impl_hasOnly.L0_eq, if_neg (by rw [← size_data]; omega)]; rfl
  · intro i x t hi' hx _ _ ih
    have hi2 : i < s.size := by rw [size_data]; exact hi'
    have hb := hm ⟨x.toNat, x.toNat_lt⟩
    show impl_hasOnly.L0 s m _ _ = _
    rw [impl_hasOnly.L0_eq, if_pos (by omega), if_pos (by omega), if_pos (by omega), bt_data s i hi2, hx, wrap_in (by omega) (by omega)]
    simp only [strings_IndexByte.f, stringslite_IndexByte.f, Option.bind_some, Int.toNat_natCast, List.all_cons]
    simp only at hb
    cases h1 : g.contains x.toNat
    · rw [h1] at hb
      rw [if_pos (by simpa using hb)]; rfl
    · rw [h1] at hb
      rw [if_neg (by simpa using hb), ih]; rfl

/-! ### Steps -/
def dirs : List Nat := [117, 100, 108, 114, 102, 98]
def dirB : ByteArray := ⟨#[117, 100, 108, 114, 102, 98]⟩
theorem mvIndex_some (v : Nat) : ∃ r, spec_mvIndex.F (v : Int) = some r ∧ decide (r < 0) = !dirs.contains v := by
  rw [spec_mvIndex.F_eq]
  have := each (L := fun i => spec_mvIndex.L0 v i) dirB.data.toList 0 (fun i t o => ∃ r, o = some r ∧ decide (r < 0) = !(t.any fun x => decide (x.toNat = v))) ?_ ?_
  · obtain ⟨r, h1, h2⟩ := this
    refine ⟨r, h1, h2.trans ?_⟩
    congr 1
    simp [dirB, dirs, eq_comm]
  · refine ⟨-1, ?_, rfl⟩
    show spec_mvIndex.L0 v _ = _
    rw [spec_mvIndex.L0_eq]
    rfl
  · intro i x t hi' hx _ _ ih
    have hi2 : i < dirB.size := by rw [size_data]; exact hi'
    show ∃ r, spec_mvIndex.L0 v _ = _ ∧ _
    rw [spec_mvIndex.L0_eq]
    simp only [spec_mvLetters.f, Option.bind_some]
    have hz : dirB.size = 6 := rfl
    show ∃ r, (if (i : Int) < (dirB.size : Int) then (if 0 ≤ (i : Int) then (if (i : Int) < (dirB.size : Int) then (if bt dirB (i : Int) = (v : Int) then _ else _) else _) else _) else _) = _ ∧ _
    rw [if_pos (by omega), if_pos (by omega), if_pos (by omega), bt_data dirB i hi2, hx, wrap_in (by omega) (by omega), List.any_cons]
    by_cases h1 : x.toNat = v
    · rw [if_pos (by omega)]; exact ⟨i, rfl, by simp [h1]⟩
    · rw [if_neg (by omega)]; simpa [h1] using ih
theorem mvSteps_some (s : ByteArray) (hs : s.size ≤ 9223372036854775807) : spec_mvSteps.F s = some (allOf dirs s) := by
  rw [spec_mvSteps.F_eq]
  refine each (L := fun i => spec_mvSteps.L0 s i) s.data.toList 0 (fun _ t o => o = some (t.all fun x => dirs.contains x.toNat)) ?_ ?_
  · show spec_mvSteps.L0 s _ = _
    rw [spec_mvSteps.L0_eq, if_neg (by rw [← size_data]; omega)]; rfl
  · intro i x t hi' hx _ _ ih
    have hi2 : i < s.size := by rw [size_data]; exact hi'
    obtain ⟨r, h1, h2⟩ := mvIndex_some x.toNat
    show spec_mvSteps.L0 s _ = _
    rw [spec_mvSteps.L0_eq, if_pos (by omega), if_pos (by omega), bt_data s i hi2, hx, wrap_in (by omega) (by omega), h1, Option.bind_some, List.all_cons]
    cases hc : dirs.contains x.toNat
    · rw [hc] at h2
      rw [if_pos (by simpa using h2)]; rfl
    · rw [hc] at h2
      rw [if_neg (by simpa using h2), ih]; rfl
/-- Is it a movement? -/
def isMv (a : ByteArray) (n : Int) : Bool := decide ((a.size : Int) ≤ 6) && (allOf dirs a && (decide (1 ≤ n ∧ n ≤ 3) && (if a.toList = [] then n == 1 else true)))
theorem mvGood_some (a : ByteArray) (n : Int) (ha : a.size ≤ 9223372036854775807) : spec_mvGood.F a n = some (isMv a n) := by
  rw [spec_mvGood.F_eq, mvSteps_some a ha, l1In_at]
  unfold isMv
  by_cases c1 : (a.size : Int) ≤ 6
  case neg => rw [if_neg c1, decide_eq_false c1]; rfl
  rw [if_pos c1, decide_eq_true c1, Option.bind_some]
  cases allOf dirs a
  · rfl
  rw [if_pos rfl, Option.bind_some]
  cases decide (1 ≤ n ∧ n ≤ 3)
  · rfl
  rw [if_pos rfl]
  by_cases c3 : a.toList = []
  · rw [if_pos c3, if_pos c3]; rfl
  · rw [if_neg c3, if_neg c3]; rfl
theorem isMove_some (a : ByteArray) (n : Int) (ha : a.size ≤ 9223372036854775807) : impl_IsMove.F a n = some (isMv a n) := by
  rw [impl_IsMove.F_eq, only_some dirs a _ ha (by decide +kernel), within_at]
  unfold isMv
  by_cases c1 : (a.size : Int) ≤ 6
  case neg => rw [if_neg c1, decide_eq_false c1]; rfl
  rw [if_pos c1, decide_eq_true c1, Option.bind_some]
  cases allOf dirs a
  · rfl
  rw [if_pos rfl, Option.bind_some]
  cases decide (1 ≤ n ∧ n ≤ 3)
  · rfl
  rw [if_pos rfl]
  by_cases c3 : a.toList = []
  · rw [if_pos c3, if_pos c3]; rfl
  · rw [if_neg c3, if_neg c3]; rfl
def mvTx (a : ByteArray) (n : Int) : ByteArray := if a.toList = [] then ⟨#[45]⟩ else if n = 1 then a else (a ++ ⟨#[42]⟩) ++ dg n
theorem mv_texts {a : ByteArray} {n : Int} (h : isMv a n = true) : spec_mvText.F a n = some (mvTx a n) ∧ impl_Move_text.f a n = some (mvTx a n) ∧ (mvTx a n).size ≤ 8 := by
  unfold isMv at h
  simp only [Bool.and_eq_true, decide_eq_true_eq] at h
  obtain ⟨h1, _, h3, _⟩ := h
  rw [spec_mvText.F_eq]
  unfold impl_Move_text.f mvTx
  have one : ((⟨#[42]⟩ : ByteArray)).size = 1 := rfl
  have onb : ((⟨#[45]⟩ : ByteArray)).size = 1 := rfl
  by_cases c3 : a.toList = []
  · rw [if_pos c3, if_pos c3, if_pos c3]; exact ⟨rfl, rfl, by omega⟩
  rw [if_neg c3, if_neg c3, if_neg c3]
  by_cases c4 : n = 1
  · rw [if_pos c4, if_pos c4, if_neg (by omega)]; exact ⟨rfl, rfl, by omega⟩
  have h9 : 0 ≤ n ∧ n ≤ 9 := by omega
  have hd := dg_size h9
  have hsz : (a ++ (⟨#[42]⟩ : ByteArray)).size = a.size + 1 := by rw [ByteArray.size_append]; rfl
  have k1 : n > 1 := by omega
  have k2 : a.size + 1 ≤ 9223372036854775807 := by omega
  have k3 : (a ++ (⟨#[42]⟩ : ByteArray)).size + (dg n).size ≤ 9223372036854775807 := by omega
  simp only [c4, k1, k2, k3, if_false, if_true, dg_spec h9, dg_impl h9, Option.bind_some, true_and]
  rw [ByteArray.size_append]; omega

/-! ### Hands -/
theorem shTx_size {a b c d e : Int} {s : Bool} (h : isSh a b c d e s = true) : (shTx a b c d e s).size ≤ 6 := by
  obtain ⟨ha, hb, hc, hd, he⟩ := sh_bounds h
  have one : ((⟨#[115]⟩ : ByteArray)).size = 1 := rfl
  unfold shTx shTail
  simp only [List.foldl_cons, List.foldl_nil]
  split <;> simp only [ByteArray.size_append, dg_size (show 0 ≤ a ∧ a ≤ 9 by omega), dg_size (show 0 ≤ b ∧ b ≤ 9 by omega), dg_size (show 0 ≤ c ∧ c ≤ 9 by omega), dg_size (show 0 ≤ d ∧ d ≤ 9 by omega), dg_size (show 0 ≤ e ∧ e ≤ 9 by omega), one] <;> omega
theorem plTxt_size (a b : Int) (c : Bool) : (plTxt a b c).size ≤ 7 := by
  have h := nm_size a.toNat
  have n1 : ((⟨#[60]⟩ : ByteArray)).size = 1 := rfl
  have n2 : ((⟨#[62]⟩ : ByteArray)).size = 1 := rfl
  have n3 : ((⟨#[]⟩ : ByteArray)).size = 0 := rfl
  have n4 : ((⟨#[42]⟩ : ByteArray)).size = 1 := rfl
  unfold plTxt
  by_cases h1 : b = -1
  · cases c <;> simp only [h1, if_true, Bool.false_eq_true, if_false, ByteArray.size_append, n1, n4] <;> omega
  · by_cases h2 : b = 1
    · cases c <;> simp only [h1, h2, if_true, Bool.false_eq_true, if_false, ByteArray.size_append, n2, n4] <;> (try simp) <;> omega
    · cases c <;> simp only [h1, h2, if_true, Bool.false_eq_true, if_false, ByteArray.size_append, n3, n4] <;> omega
theorem joined4 (a b c d : ByteArray) : joined [a, b, c, d] ⟨#[47]⟩ = (((((a ++ ⟨#[47]⟩) ++ b) ++ ⟨#[47]⟩) ++ c) ++ ⟨#[47]⟩) ++ d := by
  apply ext_data
  rw [toList_data, toList_data]
  simp [joined, Lib.join]
abbrev isHd (a b c d e : Int) (s : Bool) (p f r i : Int) (t : Bool) (m : ByteArray) (n : Int) : Bool := isSh a b c d e s && (isOr p f && (isPl r i t && isMv m n))
def hdTx (a b c d e : Int) (s : Bool) (p f r i : Int) (t : Bool) (m : ByteArray) (n : Int) : ByteArray := (((((shTx a b c d e s ++ ⟨#[47]⟩) ++ orTx p f) ++ ⟨#[47]⟩) ++ plTxt r i t) ++ ⟨#[47]⟩) ++ mvTx m n
theorem siHand_some (a b c d e : Int) (s : Bool) (p f r i : Int) (t : Bool) (m : ByteArray) (n : Int) (hm : m.size ≤ 9223372036854775807) : spec_siHand.F a b c d e s p f r i t m n = some (isHd a b c d e s p f r i t m n) := by
  rw [spec_siHand.F_eq, shGood_some, orGood_some, plGood_some, mvGood_some m n hm]
  simp only [Option.bind_some, isHd]
  cases isSh a b c d e s
  · rfl
  cases isOr p f
  · rfl
  cases isPl r i t <;> rfl
theorem isHand_some (a b c d e : Int) (s : Bool) (p f r i : Int) (t : Bool) (m : ByteArray) (n : Int) (hm : m.size ≤ 9223372036854775807) : impl_IsHand.F a b c d e s p f r i t m n = some (isHd a b c d e s p f r i t m n) := by
  rw [impl_IsHand.F_eq, isShape_some, isOrient_some, isPlace_some, isMove_some m n hm]
  simp only [Option.bind_some, isHd]
  cases isSh a b c d e s
  · rfl
  cases isOr p f
  · rfl
  cases isPl r i t <;> rfl
theorem hd_texts {a b c d e : Int} {s : Bool} {p f r i : Int} {t : Bool} {m : ByteArray} {n : Int} (h : isHd a b c d e s p f r i t m n = true) :
    spec_siText.F a b c d e s p f r i t m n = some (hdTx a b c d e s p f r i t m n) ∧ impl_Hand_text.F a b c d e s p f r i t m n = some (hdTx a b c d e s p f r i t m n) := by
  simp only [isHd, Bool.and_eq_true] at h
  obtain ⟨h1, h2, h3, h4⟩ := h
  obtain ⟨o1, o2, o3⟩ := or_texts h2
  obtain ⟨m1, m2, m3⟩ := mv_texts h4
  have s3 := shTx_size h1
  have p3 := plTxt_size r i t
  have n1 : ((⟨#[47]⟩ : ByteArray)).size = 1 := rfl
  rw [spec_siText.F_eq, impl_Hand_text.F_eq, sh_textS h1, sh_textI h1, o1, o2, plText_some _ _ _ h3, Place_text_some _ _ _ h3, m1, m2]
  unfold hdTx
  generalize shTx a b c d e s = A at *
  generalize orTx p f = B at *
  generalize plTxt r i t = C at *
  generalize mvTx m n = D at *
  constructor
  · simp only [Option.bind_some, ByteArray.size_append, n1]
    rw [if_pos (by omega), if_pos (by omega), if_pos (by omega), if_pos (by omega), if_pos (by omega), if_pos (by omega)]
  · simp only [Option.bind_some]
    have hj : strings_Join.f [A, B, C, D] ⟨#[47]⟩ = some (joined [A, B, C, D] ⟨#[47]⟩, [A, B, C, D]) := by
      unfold strings_Join.f
      rw [if_pos]
      refine ⟨by simp, ?_⟩
      have e : (Lib.join ([A, B, C, D].map (·.data.toList)) (⟨#[47]⟩ : ByteArray).data.toList).length = (joined [A, B, C, D] ⟨#[47]⟩).size := by rw [size_data]; rfl
      rw [e, joined4]
      simp only [ByteArray.size_append, n1]; omega
    rw [hj, Option.bind_some, joined4]

theorem cmp_less : ∀ x y : List UInt8, Lib.compareBytes x y = (if Op.bytesLess x y = true then -1 else if Op.bytesLess y x = true then 1 else 0)
  | [], [] => rfl
  | [], _ :: _ => rfl
  | _ :: _, [] => rfl
  | a :: x, b :: y => by
    have ih := cmp_less x y
    show (if a < b then -1 else if b < a then 1 else Lib.compareBytes x y) = (if (decide (a < b) || (a == b && Op.bytesLess x y)) = true then -1 else if (decide (b < a) || (b == a && Op.bytesLess y x)) = true then 1 else 0)
    by_cases h1 : a < b
    · simp [h1]
    · by_cases h2 : b < a
      · have h3 : ¬ a = b := fun e => by subst e; exact h1 h2
        simp [h1, h2, h3]
      · have h3 : a = b := by
          have h4 : ¬ a.toNat < b.toNat := h1
          have h5 : ¬ b.toNat < a.toNat := h2
          exact UInt8.toNat_inj.1 (by omega)
        subst h3
        simp only [h1, if_false, decide_false, Bool.false_or, beq_self_eq_true, Bool.true_and, ih]
theorem sz_some (a b c d e : Int) (s : Bool) (p f r i : Int) (t : Bool) (m : ByteArray) (n z : Int) : ∃ u, laws_szHand.f a b c d e s p f r i t m n z = some u := by
  unfold laws_szHand.f laws_szMove.f
  split
  · rw [Option.bind_some]; split <;> exact ⟨_, rfl⟩
  · rw [Option.bind_some]; split <;> exact ⟨_, rfl⟩
theorem cmp_same (a b c d e : Int) (s : Bool) (p f r i : Int) (t : Bool) (m : ByteArray) (n : Int) (a' b' c' d' e' : Int) (s' : Bool) (p' f' r' i' : Int) (t' : Bool) (m' : ByteArray) (n' : Int) (hm : m.size ≤ 9223372036854775807) (hm' : m'.size ≤ 9223372036854775807) :
    ∃ R, spec_CompareHands.F a b c d e s p f r i t m n a' b' c' d' e' s' p' f' r' i' t' m' n' = some R ∧ impl_CompareHands.F a b c d e s p f r i t m n a' b' c' d' e' s' p' f' r' i' t' m' n' = some R := by
  rw [spec_CompareHands.F_eq, impl_CompareHands.F_eq, siHand_some _ _ _ _ _ _ _ _ _ _ _ _ _ hm, isHand_some _ _ _ _ _ _ _ _ _ _ _ _ _ hm, siHand_some _ _ _ _ _ _ _ _ _ _ _ _ _ hm', isHand_some _ _ _ _ _ _ _ _ _ _ _ _ _ hm', Option.bind_some, Option.bind_some, Option.bind_some, Option.bind_some]
  cases h : isHd a b c d e s p f r i t m n
  · exact ⟨_, rfl, by rw [if_neg (by simp), impl_CompareHands.J0_eq]; rfl⟩
  cases h' : isHd a' b' c' d' e' s' p' f' r' i' t' m' n'
  · exact ⟨_, rfl, by rw [if_pos rfl, impl_CompareHands.J0_eq]; rfl⟩
  obtain ⟨h1, h2⟩ := hd_texts h
  obtain ⟨h3, h4⟩ := hd_texts h'
  rw [if_pos rfl, if_pos rfl, if_pos rfl, spec_siCompare.F_eq, impl_CompareHands.J0_eq, h1, h2, h3, h4]
  generalize hdTx a b c d e s p f r i t m n = A
  generalize hdTx a' b' c' d' e' s' p' f' r' i' t' m' n' = B
  refine ⟨(Lib.compareBytes A.data.toList B.data.toList, true), ?_, by simp [strings_Compare.f]⟩
  simp only [Option.bind_some]
  rw [cmp_less, toList_data, toList_data]
  split
  · rfl
  · split <;> rfl
theorem FnExactCompareHands : laws_FnExactCompareHands.Pure := by
  intro a b c d e s p f r i t m n a' b' c' d' e' s' p' f' r' i' t' m' n' hw hw'
  have hm : m.size ≤ 9223372036854775807 := by
    simp only [Wf31, Wf29] at hw; exact hw.2.2.2.1
  have hm' : m'.size ≤ 9223372036854775807 := by
    simp only [Wf31, Wf29] at hw'; exact hw'.2.2.2.1
  refine lim_rounds (?_ : laws_FnExactCompareHands.F a b c d e s p f r i t m n a' b' c' d' e' s' p' f' r' i' t' m' n' = some true)
  rw [laws_FnExactCompareHands.F_eq]
  obtain ⟨z, hz⟩ := sz_some a b c d e s p f r i t m n 1048576
  rw [hz, Option.bind_some]
  by_cases h3 : z < 0
  · rw [if_pos h3]
  rw [if_neg h3]
  obtain ⟨z', hz'⟩ := sz_some a' b' c' d' e' s' p' f' r' i' t' m' n' z
  rw [hz', Option.bind_some]
  by_cases h4 : z' < 0
  · rw [if_pos h4]
  rw [if_neg h4]
  obtain ⟨R, r1, r2⟩ := cmp_same a b c d e s p f r i t m n a' b' c' d' e' s' p' f' r' i' t' m' n' hm hm'
  simp only [laws_toHand.f, laws_toShape.f, laws_toOrient.f, laws_toPlace.f, laws_toMove.f, Option.bind_some, r1, r2, if_true, bne_self_eq_false, Bool.false_eq_true, if_false]

end Go.Proofs.YtmffndjbpealmaaDoor.Pure
