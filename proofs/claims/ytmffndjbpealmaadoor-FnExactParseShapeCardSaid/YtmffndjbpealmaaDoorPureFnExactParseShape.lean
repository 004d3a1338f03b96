/- The pure statement of the law FnExactParseShape: for all arguments within their bounds its Lean function answers true. -/
import Derived.Test.YtmffndjbpealmaaDoorPFnExactParseShapexD0
namespace Go.Proofs.YtmffndjbpealmaaDoor.Pure
open Go.RowKit Go.Proofs.YtmffndjbpealmaaDoor.PFnExactParseShape Go.Proofs.YtmffndjbpealmaaDoorW.PrintWords Go.Proofs.YtmffndjbpealmaaDoorW.PrintLast
set_option linter.unusedVariables false
set_option linter.unusedSimpArgs false
/-! ### Numbers, loops, letters -/
theorem wrap_in {x : Int} (h0 : -9223372036854775808 ≤ x) (h1 : x ≤ 9223372036854775807) : wrap64 x = x := by
  unfold wrap64; omega
theorem wf_i64 {n : Int} (h : (Lit.int .i64 n).wf = true) : -9223372036854775808 ≤ n ∧ n ≤ 9223372036854775807 := by
  simpa [Lit.wf, IntKind.min, IntKind.max, IntKind.signed, IntKind.bits] using h
/-- A loop over a list, from its end. L: what the loop tells from place i on. -/
theorem each {α γ : Type} (L : Int → γ) (l : List α) (z : α) (R : Nat → List α → γ → Prop) (nil : R l.length [] (L l.length))
    (cons : ∀ (i : Nat) (x : α) (t : List α), i < l.length → l.getD i z = x → l.drop i = x :: t → l.drop (i + 1) = t → R (i + 1) t (L ((i : Int) + 1)) → R i (x :: t) (L i)) : R 0 l (L 0) := by
  have key : ∀ (t : List α) (i : Nat), l.drop i = t → i ≤ l.length → R i t (L i) := by
    intro t
    induction t with
    | nil =>
      intro i h hi
      have : l.length ≤ i := by simpa [List.drop_eq_nil_iff] using h
      obtain rfl : i = l.length := by omega
      exact nil
    | cons x t ih =>
      intro i h hi
      have hlt : i < l.length := by
        rcases Nat.lt_or_ge i l.length with h' | h'
        · exact h'
        · rw [List.drop_eq_nil_of_le h'] at h; cases h
      have h2 := List.drop_eq_getElem_cons hlt
      rw [h] at h2
      injection h2 with h3 h4
      refine cons i x t hlt ?_ h h4.symm ?_
      · rw [List.getD_eq_getElem?_getD, List.getElem?_eq_getElem hlt]; exact h3.symm
      · have := ih (i + 1) h4.symm (by omega)
        rwa [show ((i + 1 : Nat) : Int) = (i : Int) + 1 from by omega] at this
  have := key l 0 rfl (Nat.zero_le _)
  rwa [show ((0 : Nat) : Int) = 0 from rfl] at this
theorem bt_data (s : ByteArray) (i : Nat) (h : i < s.size) : bt s (i : Int) = ((s.data.toList.getD i 0).toNat : Int) := by
  obtain ⟨d⟩ := s
  have h' : i < d.size := h
  have : bt ⟨d⟩ (i : Int) = ((d[i]).toNat : Int) := by
    unfold bt
    rw [dif_pos (show ((i : Int)).toNat < (⟨d⟩ : ByteArray).size from by simpa using h)]
    rfl
  rw [this]
  simp [h']
theorem size_data (s : ByteArray) : s.size = s.data.toList.length := by
  obtain ⟨d⟩ := s; simp [ByteArray.size]
theorem toList_data (s : ByteArray) : s.toList = s.data.toList := by
  rw [ByteArray.toList_eq]
theorem ext_data {s t : ByteArray} (h : s.toList = t.toList) : s = t := by
  rw [toList_data, toList_data] at h
  obtain ⟨⟨a⟩⟩ := s
  obtain ⟨⟨b⟩⟩ := t
  simp at h
  rw [h]
theorem toList_iff {s t : ByteArray} : s.toList = t.toList ↔ s = t := ⟨ext_data, fun h => by rw [h]⟩
theorem mem_drop {α : Type} {l t : List α} {x : α} {i : Nat} (h : l.drop i = x :: t) : x ∈ l := List.mem_of_mem_drop (i := i) (by rw [h]; simp)

/-! ### Decimal digits -/
theorem dec_length (n : Nat) : (Lib.decDigits n).length ≤ n + 1 := by
  induction n using Nat.strongRecOn with
  | ind n ih =>
    rw [Lib.decDigits]
    split
    · simp
    · have := ih (n / 10) (by omega)
      rw [List.length_append]
      simp only [List.length_cons, List.length_nil]
      omega



/-! ### Bounds -/
theorem within_at (a b c : Int) : impl_within.f a b c = some (decide (b ≤ a ∧ a ≤ c)) := by
  unfold impl_within.f
  by_cases h : b ≤ a
  · rw [if_pos h]; simp [h]
  · rw [if_neg h]; simp [h]
theorem l1In_at (a b c : Int) : spec_l1In.f a b c = some (decide (b ≤ a ∧ a ≤ c)) := by
  unfold spec_l1In.f
  by_cases h : b ≤ a
  · rw [if_pos h]; simp [h]
  · rw [if_neg h]; simp [h]

/-! ### Shapes -/
theorem rd_int (l : List Int) (i : Nat) : rd l (i : Int) = l.getD i 0 := by simp [rd]
def wide (b c d e : Int) : Bool := (decide (b = 0) && decide (c = 0)) || ((decide (c = 0) && decide (d = 0)) || (decide (d = 0) && decide (e = 0)))
theorem wide_spec (a b c d e : Int) (s : Bool) : spec_shWide.F a b c d e s = some (wide b c d e) := by
  have e3 : spec_shWide.L0 [b, c, d, e] 4 = some false := by rw [spec_shWide.L0_eq, if_neg (by decide)]
  have e2 : spec_shWide.L0 [b, c, d, e] 3 = some (decide (d = 0) && decide (e = 0)) := by
    rw [spec_shWide.L0_eq, show wrap64 ((3 : Int) - 1) = 2 from by decide +kernel, show wrap64 ((3 : Int) + 1) = 4 from by decide +kernel, if_pos (by decide), if_pos (by decide), if_pos (by simp), show rd [b, c, d, e] 2 = d from rfl, show rd [b, c, d, e] 3 = e from rfl, e3]
    by_cases h : d = 0
    · rw [if_pos h, if_pos (by decide), if_pos (by simp)]
      by_cases h2 : e = 0
      · rw [if_pos h2]; simp [h, h2]
      · rw [if_neg h2]; simp [h2]
    · rw [if_neg h]; simp [h]
  have e1 : spec_shWide.L0 [b, c, d, e] 2 = some ((decide (c = 0) && decide (d = 0)) || (decide (d = 0) && decide (e = 0))) := by
    rw [spec_shWide.L0_eq, show wrap64 ((2 : Int) - 1) = 1 from by decide +kernel, show wrap64 ((2 : Int) + 1) = 3 from by decide +kernel, if_pos (by decide), if_pos (by decide), if_pos (by simp), show rd [b, c, d, e] 1 = c from rfl, show rd [b, c, d, e] 2 = d from rfl, e2]
    by_cases h : c = 0
    · rw [if_pos h, if_pos (by decide), if_pos (by simp)]
      by_cases h2 : d = 0
      · rw [if_pos h2]; simp [h, h2]
      · rw [if_neg h2]; simp [h2]
    · rw [if_neg h]; simp [h]
  rw [spec_shWide.F_eq]
  simp only [spec_shFingers.f, Option.bind_some]
  rw [spec_shWide.L0_eq, show wrap64 ((1 : Int) - 1) = 0 from by decide +kernel, show wrap64 ((1 : Int) + 1) = 2 from by decide +kernel, if_pos (by decide), if_pos (by decide), if_pos (by simp), show rd [b, c, d, e] 0 = b from rfl, show rd [b, c, d, e] 1 = c from rfl, e1]
  unfold wide
  by_cases h : b = 0
  · rw [if_pos h, if_pos (by decide), if_pos (by simp)]
    by_cases h2 : c = 0
    · rw [if_pos h2]; simp [h, h2]
    · rw [if_neg h2]; simp [h2]
  · rw [if_neg h]; simp [h]
theorem wide_impl (a b c d e : Int) (s : Bool) : impl_Shape_maySpread.f a b c d e s = some (wide b c d e) := by
  unfold impl_Shape_maySpread.f wide
  by_cases h1 : c = 0
  · rw [if_pos h1]
    by_cases h2 : b = 0
    · rw [if_pos h2]; simp [h1, h2]
    · rw [if_neg h2]
      by_cases h3 : d = 0
      · rw [if_pos h3]; simp [h1, h3]
      · rw [if_neg h3]; simp [h2, h3]
  · rw [if_neg h1]
    by_cases h3 : d = 0
    · rw [if_pos h3]; simp [h1, h3]
      cases h : decide (e = 0) <;> simpa using h
    · rw [if_neg h3]; simp [h1, h3]
theorem l1All_some (l : List Int) (a b : Int) (hl : l.length ≤ 1048576) : spec_l1All.F l a b = some (l.all fun x => decide (a ≤ x ∧ x ≤ b)) := by
  rw [spec_l1All.F_eq]
  refine each (L := fun i => spec_l1All.L0 a b l l.length i) l 0 (fun _ t o => o = some (t.all fun x => decide (a ≤ x ∧ x ≤ b))) ?_ ?_
  · show spec_l1All.L0 a b l _ _ = _
    rw [spec_l1All.L0_eq, if_neg (by omega)]; rfl
  · intro i x t hi hx _ _ ih
    show spec_l1All.L0 a b l _ _ = _
    rw [spec_l1All.L0_eq, if_pos (by omega), if_pos (by omega), if_pos (by omega), rd_int, hx, l1In_at, Option.bind_some, wrap_in (by omega) (by omega), List.all_cons]
    cases decide (a ≤ x ∧ x ≤ b)
    · rfl
    · rw [if_pos rfl, ih]; rfl
theorem allWithin_some (l : List Int) (a b : Int) (hl : l.length ≤ 1048576) : impl_allWithin.F l a b = some (l.all fun x => decide (a ≤ x ∧ x ≤ b)) := by
  rw [impl_allWithin.F_eq, slices_ContainsFunc_int_impl_allWithin_1.F_eq, slices_IndexFunc_int_impl_allWithin_1.F_eq]
  have := each (L := fun i => slices_IndexFunc_int_impl_allWithin_1.L0 l l.length i a b) l 0 (fun _ t o => ∃ r, o = some r ∧ decide (r ≥ 0) = !(t.all fun x => decide (a ≤ x ∧ x ≤ b))) ?_ ?_
  · obtain ⟨r, h1, h2⟩ := this
    rw [h1]; simp [h2]
  · refine ⟨-1, ?_, by simp⟩
    show slices_IndexFunc_int_impl_allWithin_1.L0 l _ _ _ _ = _
    rw [slices_IndexFunc_int_impl_allWithin_1.L0_eq, if_neg (by omega)]
  · intro i x t hi hx _ _ ih
    show ∃ r, slices_IndexFunc_int_impl_allWithin_1.L0 l _ _ _ _ = _ ∧ _
    rw [slices_IndexFunc_int_impl_allWithin_1.L0_eq, if_pos (by omega), if_pos (by omega), if_pos (by omega), rd_int, hx, wrap_in (by omega) (by omega)]
    unfold impl_allWithin_1.f
    rw [within_at, Option.bind_some, Option.bind_some, List.all_cons]
    cases decide (a ≤ x ∧ x ≤ b)
    · exact ⟨i, by rw [if_pos (by rfl)], by simp⟩
    · rw [if_neg (by simp), Bool.true_and]; exact ih
/-- Is it a shape? -/
def isSh (a b c d e : Int) (s : Bool) : Bool := decide (0 ≤ a ∧ a ≤ 2) && ((([b, c, d, e] : List Int).all fun x => decide (0 ≤ x ∧ x ≤ 2)) && (!s || wide b c d e))
theorem shGood_some (a b c d e : Int) (s : Bool) : spec_shGood.F a b c d e s = some (isSh a b c d e s) := by
  rw [spec_shGood.F_eq, l1In_at, wide_spec, Option.bind_some]
  simp only [spec_shFingers.f, Option.bind_some]
  rw [l1All_some _ _ _ (by simp), Option.bind_some]
  unfold isSh
  cases decide (0 ≤ a ∧ a ≤ 2)
  · rfl
  cases (([b, c, d, e] : List Int).all fun x => decide (0 ≤ x ∧ x ≤ 2))
  · rfl
  cases s <;> rfl
theorem isShape_some (a b c d e : Int) (s : Bool) : impl_IsShape.F a b c d e s = some (isSh a b c d e s) := by
  rw [impl_IsShape.F_eq, wide_impl, Option.bind_some]
  simp only [impl_Shape_bends.f, Option.bind_some]
  rw [if_pos (by simp), allWithin_some _ _ _ (by simp), Option.bind_some]
  unfold isSh
  rw [List.cons_append, List.nil_append, List.all_cons]
  cases decide (0 ≤ a ∧ a ≤ 2)
  · rfl
  cases (([b, c, d, e] : List Int).all fun x => decide (0 ≤ x ∧ x ≤ 2))
  · rfl
  cases s <;> rfl
theorem sh_bounds {a b c d e : Int} {s : Bool} (h : isSh a b c d e s = true) : (0 ≤ a ∧ a ≤ 2) ∧ (0 ≤ b ∧ b ≤ 2) ∧ (0 ≤ c ∧ c ≤ 2) ∧ (0 ≤ d ∧ d ≤ 2) ∧ (0 ≤ e ∧ e ≤ 2) := by
  unfold isSh at h
  simp only [Bool.and_eq_true, decide_eq_true_eq, List.all_cons, List.all_nil, and_true] at h
  exact ⟨h.1, h.2.1.1, h.2.1.2.1, h.2.1.2.2.1, h.2.1.2.2.2⟩

/-! ### Texts of shapes -/
def dg (n : Int) : ByteArray := ⟨(Lib.decDigits n.toNat).toArray⟩
theorem dg_eq {n : Int} (h : 0 ≤ n ∧ n ≤ 9) : dg n = ⟨#[UInt8.ofNat (48 + n.toNat)]⟩ := by
  unfold dg; rw [Lib.decDigits_one (by omega)]
theorem dg_size {n : Int} (h : 0 ≤ n ∧ n ≤ 9) : (dg n).size = 1 := by rw [dg_eq h]; rfl
theorem dg_impl {n : Int} (h : 0 ≤ n ∧ n ≤ 9) : strconv_Itoa.f n = some (dg n) := by
  unfold strconv_Itoa.f; rw [if_pos (by omega)]; rfl
def shTail (s : Bool) (t : ByteArray) : ByteArray := if s = true then t ++ ⟨#[115]⟩ else t
def shTx (a b c d e : Int) (s : Bool) : ByteArray := shTail s ([b, c, d, e].foldl (fun t n => t ++ dg n) (dg a))
theorem sh_loopI (l : List Int) (h : ∀ x ∈ l, 0 ≤ x ∧ x ≤ 2) (hl : l.length ≤ 100) (a b c d e : Int) (s : Bool) (acc : ByteArray) (ha : acc.size ≤ 1) :
    impl_Shape_text.L0 acc l l.length 0 a b c d e s = some (shTail s (l.foldl (fun t n => t ++ dg n) acc)) := by
  have := each (L := fun i => (fun acc => impl_Shape_text.L0 acc l l.length i a b c d e s : ByteArray → _)) l 0
    (fun i t f => (∀ x ∈ t, x ∈ l) → ∀ acc : ByteArray, acc.size ≤ i + 1 → f acc = some (shTail s (t.foldl (fun t n => t ++ dg n) acc))) ?_ ?_ (fun _ h => h) acc (by omega)
  · exact this
  · intro _ acc hs
    have one : (⟨#[115]⟩ : ByteArray).size = 1 := rfl
    show impl_Shape_text.L0 acc l _ _ a b c d e s = _
    have hn : ¬ ((l.length : Int) < (l.length : Int)) := by omega
    rw [impl_Shape_text.L0_eq, if_neg hn]
    unfold shTail
    cases s
    · rfl
    · rw [if_pos rfl, if_pos (by omega)]; rfl
  · intro i x t hi hx _ _ ih hm acc hs
    have hx2 := h x (hm x (by simp))
    have h9 : 0 ≤ x ∧ x ≤ 9 := by omega
    have h1 := dg_size h9
    show impl_Shape_text.L0 acc l _ _ a b c d e s = _
    rw [impl_Shape_text.L0_eq, if_pos (by omega), if_pos (by omega), if_pos (by omega), rd_int, hx, dg_impl h9, Option.bind_some, if_pos (by omega), wrap_in (by omega) (by omega)]
    exact ih (fun y hy => hm y (by simp [hy])) _ (by rw [ByteArray.size_append]; omega)
theorem sh_textI {a b c d e : Int} {s : Bool} (h : isSh a b c d e s = true) : impl_Shape_text.F a b c d e s = some (shTx a b c d e s) := by
  obtain ⟨ha, hb, hc, hd, he⟩ := sh_bounds h
  rw [impl_Shape_text.F_eq, dg_impl (by omega)]
  simp only [impl_Shape_bends.f, Option.bind_some]
  refine sh_loopI [b, c, d, e] (fun x hx => ?_) (by simp) a b c d e s (dg a) (by rw [dg_size (by omega)]; omega)
  simp only [List.mem_cons, List.not_mem_nil, or_false] at hx
  rcases hx with rfl | rfl | rfl | rfl <;> assumption

/-! ### Texts of shapes, read -/
def vv (s : ByteArray) (i : Nat) : Int := bt s (i : Int) - 48
theorem vv_eq (s : ByteArray) (i : Nat) (h : i < s.size) : wrap64 (wrap64 (bt s (i : Int)) - 48) = vv s i := by
  have h1 := bt_data s i h
  have h2 := (s.data.toList.getD i 0).toNat_lt
  unfold vv
  rw [wrap_in (x := bt s (i : Int)) (by omega) (by omega), wrap_in (by omega) (by omega)]
theorem sp_step (s : ByteArray) (h5 : 5 ≤ s.size) (acc : List Int) (i : Nat) (h : i < 5) (ha : acc.length ≤ 10) : spec_shParse.L0 s acc (i : Int) = spec_shParse.L0 s (acc ++ [vv s i]) ((i + 1 : Nat) : Int) := by
  rw [spec_shParse.L0_eq, if_pos (by omega), if_pos (by omega), if_pos (by omega), if_pos (by omega), vv_eq s i (by omega), wrap_in (by omega) (by omega)]
  rfl
theorem sp_all (s : ByteArray) (h5 : 5 ≤ s.size) : spec_shParse.L0 s [] 0 = spec_shParse.L0 s [vv s 0, vv s 1, vv s 2, vv s 3, vv s 4] 5 :=
  (sp_step s h5 [] 0 (by omega) (by simp)).trans <| (sp_step s h5 [vv s 0] 1 (by omega) (by simp)).trans <| (sp_step s h5 [vv s 0, vv s 1] 2 (by omega) (by simp)).trans <| (sp_step s h5 [vv s 0, vv s 1, vv s 2] 3 (by omega) (by simp)).trans <| sp_step s h5 [vv s 0, vv s 1, vv s 2, vv s 3] 4 (by omega) (by simp)
theorem im_step (s : ByteArray) (h5 : 5 ≤ s.size) (a b c d e : Int) (i : Nat) (h : i < 5) : impl_ParseShape.L0 s (i : Int) a b c d e false = (impl_Shape_with.f a b c d e false (i : Int) (vv s i)).bind fun t => impl_ParseShape.L0 s ((i + 1 : Nat) : Int) t.1 t.2.1 t.2.2.1 t.2.2.2.1 t.2.2.2.2.1 t.2.2.2.2.2 := by
  rw [impl_ParseShape.L0_eq, if_pos (by omega), if_pos (by omega), if_pos (by omega), vv_eq s i (by omega), wrap_in (by omega) (by omega)]
  rfl
theorem with_at (a b c d e v : Int) (i : Nat) : impl_Shape_with.f a b c d e false (i : Int) v = some (if i = 0 then (v, b, c, d, e, false) else if i = 1 then (a, v, c, d, e, false) else if i = 2 then (a, b, v, d, e, false) else if i = 3 then (a, b, c, v, e, false) else (a, b, c, d, v, false)) := by
  unfold impl_Shape_with.f
  simp only [Bool.false_eq_true, if_false]
  by_cases h0 : i = 0
  · rw [if_pos (by omega), if_pos h0]
  rw [if_neg (by omega), if_neg h0]
  by_cases h1 : i = 1
  · rw [if_pos (by omega), if_pos h1]
  rw [if_neg (by omega), if_neg h1]
  by_cases h2 : i = 2
  · rw [if_pos (by omega), if_pos h2]
  rw [if_neg (by omega), if_neg h2]
  by_cases h3 : i = 3
  · rw [if_pos (by omega), if_pos h3]
  rw [if_neg (by omega), if_neg h3]
theorem im_all (s : ByteArray) (h5 : 5 ≤ s.size) : impl_ParseShape.L0 s 0 0 0 0 0 0 false = impl_ParseShape.L0 s 5 (vv s 0) (vv s 1) (vv s 2) (vv s 3) (vv s 4) false := by
  have e0 := im_step s h5 0 0 0 0 0 0 (by omega)
  have e1 := im_step s h5 (vv s 0) 0 0 0 0 1 (by omega)
  have e2 := im_step s h5 (vv s 0) (vv s 1) 0 0 0 2 (by omega)
  have e3 := im_step s h5 (vv s 0) (vv s 1) (vv s 2) 0 0 3 (by omega)
  have e4 := im_step s h5 (vv s 0) (vv s 1) (vv s 2) (vv s 3) 0 4 (by omega)
  rw [with_at, Option.bind_some] at e0 e1 e2 e3 e4
  exact e0.trans (e1.trans (e2.trans (e3.trans e4)))
/-- Do the numbers and the length make the text? -/
theorem parse_tx (s : ByteArray) (h5 : 5 ≤ s.size) (h6 : s.size ≤ 6) (hs : isSh (vv s 0) (vv s 1) (vv s 2) (vv s 3) (vv s 4) ((s.size : Int) == 6) = true) :
    (shTx (vv s 0) (vv s 1) (vv s 2) (vv s 3) (vv s 4) ((s.size : Int) == 6)).toList = s.toList ↔ (s.size = 6 → bt s 5 = 115) := by
  obtain ⟨h0, h1, h2, h3, h4⟩ := sh_bounds hs
  have hn := size_data s
  have hb : ∀ i < 5, (0 ≤ vv s i ∧ vv s i ≤ 2) → dg (vv s i) = ⟨#[s.data.toList.getD i 0]⟩ := by
    intro i hi hv
    have hbt := bt_data s i (by omega)
    have hlt := (s.data.toList.getD i 0).toNat_lt
    rw [dg_eq (by omega)]
    have : 48 + (vv s i).toNat = (s.data.toList.getD i 0).toNat := by unfold vv at hv ⊢; omega
    rw [this]; simp
  unfold shTx
  simp only [List.foldl_cons, List.foldl_nil]
  rw [hb 0 (by omega) h0, hb 1 (by omega) h1, hb 2 (by omega) h2, hb 3 (by omega) h3, hb 4 (by omega) h4]
  have h55 := bt_data s 5
  rw [toList_data, toList_data]
  generalize s.data.toList = l at *
  clear hs h0 h1 h2 h3 h4 hb
  rcases Nat.lt_or_ge 5 s.size with h7 | h7
  · have e6 : s.size = 6 := by omega
    have e6' : ((s.size : Int) == 6) = true := by rw [e6]; rfl
    rw [e6'] 
    obtain ⟨b0, b1, b2, b3, b4, b5, rfl⟩ : ∃ b0 b1 b2 b3 b4 b5, l = [b0, b1, b2, b3, b4, b5] := by
      match l, (show l.length = 6 by omega) with
      | [b0, b1, b2, b3, b4, b5], _ => exact ⟨b0, b1, b2, b3, b4, b5, rfl⟩
    have hb5 := h55 (by omega)
    have hb5' : bt s 5 = (b5.toNat : Int) := hb5
    rw [hb5']
    constructor
    · intro h _
      have h' : [b0, b1, b2, b3, b4, (115 : UInt8)] = [b0, b1, b2, b3, b4, b5] := h
      simp only [List.cons.injEq, true_and, and_true] at h'
      rw [← h']; rfl
    · intro h
      have : b5 = 115 := UInt8.toNat_inj.1 (by have := h e6; have e : (115 : UInt8).toNat = 115 := rfl; omega)
      subst this
      rfl
  · have e5 : s.size = 5 := by omega
    have e5' : ((s.size : Int) == 6) = false := by rw [e5]; rfl
    rw [e5']
    obtain ⟨b0, b1, b2, b3, b4, rfl⟩ : ∃ b0 b1 b2 b3 b4, l = [b0, b1, b2, b3, b4] := by
      match l, (show l.length = 5 by omega) with
      | [b0, b1, b2, b3, b4], _ => exact ⟨b0, b1, b2, b3, b4, rfl⟩
    constructor
    · intro _ h; omega
    · intro _; rfl
def shNone : Int × Int × Int × Int × Int × Bool × Bool := (0, 0, 0, 0, 0, false, false)
/-- What a text is read as. -/
def shRead (s : ByteArray) : Int × Int × Int × Int × Int × Bool × Bool := if (5 ≤ s.size ∧ s.size ≤ 6) ∧ (s.size = 6 → bt s 5 = 115) ∧ isSh (vv s 0) (vv s 1) (vv s 2) (vv s 3) (vv s 4) ((s.size : Int) == 6) = true then (vv s 0, vv s 1, vv s 2, vv s 3, vv s 4, ((s.size : Int) == 6), true) else shNone
theorem shParse_some (s : ByteArray) (hs : s.size ≤ 9223372036854775807) : spec_shParse.F s = some (shRead s) := by
  have hend : 5 ≤ s.size → spec_shParse.L0 s [] 0 = some (if isSh (vv s 0) (vv s 1) (vv s 2) (vv s 3) (vv s 4) ((s.size : Int) == 6) = true then (vv s 0, vv s 1, vv s 2, vv s 3, vv s 4, ((s.size : Int) == 6), true) else shNone) := by
    intro h5
    rw [sp_all s h5, spec_shParse.L0_eq, if_neg (by decide), if_pos (by simp), if_pos (by simp), if_pos (by simp), if_pos (by simp), if_pos (by simp)]
    show ((spec_shGood.F (vv s 0) (vv s 1) (vv s 2) (vv s 3) (vv s 4) ((s.size : Int) == 6)).bind fun t => if t = true then some (vv s 0, vv s 1, vv s 2, vv s 3, vv s 4, ((s.size : Int) == 6), true) else some (0, 0, 0, 0, 0, false, false)) = _
    rw [shGood_some, Option.bind_some]
    split <;> rfl
  rw [spec_shParse.F_eq, l1In_at, Option.bind_some]
  unfold shRead
  by_cases h : 5 ≤ s.size ∧ s.size ≤ 6
  · rw [if_pos (by simp; omega)]
    by_cases h6 : s.size = 6
    · rw [if_pos (by omega), if_pos (by omega), spec_shParse.J0_eq]
      by_cases h7 : bt s 5 = 115
      · rw [if_neg (by simp [h7]), hend h.1]
        simp only [h, h7, implies_true, true_and, and_self]
      · rw [if_pos (by simp [h7])]
        rw [if_neg (fun hh => h7 (hh.2.1 h6))]; rfl
    · rw [if_neg (by omega), spec_shParse.J0_eq, if_neg (by simp), hend h.1]
      simp only [h, h6, false_implies, true_and, and_self]
  · rw [if_neg (by simp; omega), spec_shParse.J0_eq, if_pos rfl, if_neg (fun hh => h hh.1)]; rfl
theorem implParse_some (s : ByteArray) (hs : s.size ≤ 9223372036854775807) : impl_ParseShape.F s = some (shRead s) := by
  rw [impl_ParseShape.F_eq, within_at, Option.bind_some]
  unfold shRead
  by_cases h : 5 ≤ s.size ∧ s.size ≤ 6
  · rw [if_pos (by simp; omega), im_all s h.1, impl_ParseShape.L0_eq, if_neg (by decide), isShape_some, Option.bind_some]
    cases hg : isSh (vv s 0) (vv s 1) (vv s 2) (vv s 3) (vv s 4) ((s.size : Int) == 6)
    · rw [if_neg (by simp), if_neg (by simp)]; rfl
    · rw [if_pos rfl, sh_textI hg, Option.bind_some]
      by_cases h7 : s.size = 6 → bt s 5 = 115
      · rw [if_pos ((parse_tx s h.1 h.2 hg).2 h7), if_pos ⟨h, h7, rfl⟩]
      · rw [if_neg (fun hh => h7 ((parse_tx s h.1 h.2 hg).1 hh)), if_neg (fun hh => h7 hh.2.1)]; rfl
  · rw [if_neg (by simp; omega), if_neg (fun hh => h hh.1)]; rfl

theorem FnExactParseShape : laws_FnExactParseShape.Pure := by
  intro s hs
  refine lim_rounds (?_ : laws_FnExactParseShape.F s = some true)
  rw [laws_FnExactParseShape.F_eq, spec_ParseShape.F_eq, shParse_some s hs, implParse_some s hs]
  split
  · rfl
  simp only [Option.bind_some, laws_eqShape.f, if_true, bne_self_eq_false, Bool.false_eq_true, if_false]

end Go.Proofs.YtmffndjbpealmaaDoor.Pure
