/- The pure statement of the law FnExactParseHand: for all arguments within their bounds its Lean function answers true. -/
import Derived.Test.YtcapebhnioblbaaGreatDoorPFnExactParseHandxD0
namespace Go.Proofs.YtcapebhnioblbaaGreatDoor.Pure
open Go.RowKit Go.Proofs.YtcapebhnioblbaaGreatDoor.PFnExactParseHand Go.Proofs.YtcapebhnioblbaaGreatDoorW.PrintWords Go.Proofs.YtcapebhnioblbaaGreatDoorW.PrintLast
set_option linter.unusedVariables false
set_option linter.unusedSimpArgs false
/-! ### Numbers, loops, letters -/
theorem wrap_in {x : Int} (h0 : -9223372036854775808 ≤ x) (h1 : x ≤ 9223372036854775807) : wrap64 x = x := by
 unfold wrap64; omega
theorem wf_i64 {n : Int} (h : (Lit.int .i64 n).wf = true) : -9223372036854775808 ≤ n ∧ n ≤ 9223372036854775807 := by
 simpa [Lit.wf, IntKind.min, IntKind.max, IntKind.signed, IntKind.bits] using h
/-- A loop over a list, from its end. L: what the loop tells from place i on. -/
theorem each {α γ : Type} (L : Int → γ) (l : List α) (z : α) (R : Nat → List α → γ → Prop) (nil : R l.length [] (L l.length))
 (cons : ∀ (i : Nat) (x : α) (t : List α), i < l.length → l.getD i z = x → l.drop i = x :: t → l.drop (i + 1) = t → R (i + 1) t (L ((i : Int) + 1)) → R i (x :: t) (L i)) : R 0 l (L 0) := by
 have key : ∀ (t : List α) (i : Nat), l.drop i = t → i ≤ l.length → R i t (L i) := by
  intro t
  induction t with
  | nil =>
   intro i h hi
   have : l.length ≤ i := by simpa [List.drop_eq_nil_iff] using h
   obtain rfl : i = l.length := by omega
   exact nil
  | cons x t ih =>
   intro i h hi
   have hlt : i < l.length := by
    rcases Nat.lt_or_ge i l.length with h' | h'
    ·exact h'
    ·rw [List.drop_eq_nil_of_le h'] at h; cases h
   have h2 := List.drop_eq_getElem_cons hlt
   rw [h] at h2
   injection h2 with h3 h4
   refine cons i x t hlt ?_ h h4.symm ?_
   ·rw [List.getD_eq_getElem?_getD, List.getElem?_eq_getElem hlt]; exact h3.symm
   ·have := ih (i + 1) h4.symm (by omega)
    rwa [show ((i + 1 : Nat) : Int) = (i : Int) + 1 from by omega] at this
 have := key l 0 rfl (Nat.zero_le _)
 rwa [show ((0 : Nat) : Int) = 0 from rfl] at this
theorem bt_data (s : ByteArray) (i : Nat) (h : i < s.size) : bt s (i : Int) = ((s.data.toList.getD i 0).toNat : Int) := by
 obtain ⟨d⟩ := s
 have h' : i < d.size := h
 have : bt ⟨d⟩ (i : Int) = ((d[i]).toNat : Int) := by
  unfold bt
  rw [dif_pos (show ((i : Int)).toNat < (⟨d⟩ : ByteArray).size from by simpa using h)]
  rfl
 rw [this]
 simp [h']
theorem size_data (s : ByteArray) : s.size = s.data.toList.length := by
 obtain ⟨d⟩ := s; simp [ByteArray.size]
theorem toList_data (s : ByteArray) : s.toList = s.data.toList := by
 rw [ByteArray.toList_eq]
theorem ext_data {s t : ByteArray} (h : s.toList = t.toList) : s = t := by
 rw [toList_data, toList_data] at h
 obtain ⟨⟨a⟩⟩ := s
 obtain ⟨⟨b⟩⟩ := t
 simp at h
 rw [h]
theorem toList_iff {s t : ByteArray} : s.toList = t.toList ↔ s = t := ⟨ext_data, fun h => by rw [h]⟩
theorem mem_drop {α : Type} {l t : List α} {x : α} {i : Nat} (h : l.drop i = x :: t) : x ∈ l := List.mem_of_mem_drop (i := i) (by rw [h]; simp)

/-! ### Decimal digits -/
theorem dec_length (n : Nat) : (Lib.decDigits n).length ≤ n + 1 := by
 induction n using Nat.strongRecOn with
 | ind n ih =>
  rw [Lib.decDigits]
  split
  ·simp
  ·have := ih (n / 10) (by omega)
   rw [List.length_append]
   simp only [List.length_cons, List.length_nil]
   omega



/-! ### Bounds -/
theorem within_at (a b c : Int) : impl_within.f a b c = some (decide (b ≤ a ∧ a ≤ c)) := by
 unfold impl_within.f
 by_cases h : b ≤ a
 ·rw [if_pos h]; simp [h]
 ·rw [if_neg h]; simp [h]
theorem l1In_at (a b c : Int) : spec_l1In.f a b c = some (decide (b ≤ a ∧ a ≤ c)) := by
 unfold spec_l1In.f
 by_cases h : b ≤ a
 ·rw [if_pos h]; simp [h]
 ·rw [if_neg h]; simp [h]

/-! ### Shapes -/
theorem rd_int (l : List Int) (i : Nat) : rd l (i : Int) = l.getD i 0 := by simp [rd]
def wide (b c d e : Int) : Bool := (decide (b = 0) && decide (c = 0)) || ((decide (c = 0) && decide (d = 0)) || (decide (d = 0) && decide (e = 0)))
theorem wide_spec (a b c d e : Int) (s : Bool) : spec_shWide.F a b c d e s = some (wide b c d e) := by
 have e3 : spec_shWide.L0 [b, c, d, e] 4 = some false := by rw [spec_shWide.L0_eq, if_neg (by decide)]
 have e2 : spec_shWide.L0 [b, c, d, e] 3 = some (decide (d = 0) && decide (e = 0)) := by
  rw [spec_shWide.L0_eq, show wrap64 ((3 : Int) - 1) = 2 from by decide +kernel, show wrap64 ((3 : Int) + 1) = 4 from by decide +kernel, if_pos (by decide), if_pos (by decide), if_pos (by simp), show rd [b, c, d, e] 2 = d from rfl, show rd [b, c, d, e] 3 = e from rfl, e3]
  by_cases h : d = 0
  ·rw [if_pos h, if_pos (by decide), if_pos (by simp)]
   by_cases h2 : e = 0
   ·rw [if_pos h2]; simp [h, h2]
   ·rw [if_neg h2]; simp [h2]
  ·rw [if_neg h]; simp [h]
 have e1 : spec_shWide.L0 [b, c, d, e] 2 = some ((decide (c = 0) && decide (d = 0)) || (decide (d = 0) && decide (e = 0))) := by
  rw [spec_shWide.L0_eq, show wrap64 ((2 : Int) - 1) = 1 from by decide +kernel, show wrap64 ((2 : Int) + 1) = 3 from by decide +kernel, if_pos (by decide), if_pos (by decide), if_pos (by simp), show rd [b, c, d, e] 1 = c from rfl, show rd [b, c, d, e] 2 = d from rfl, e2]
  by_cases h : c = 0
  ·rw [if_pos h, if_pos (by decide), if_pos (by simp)]
   by_cases h2 : d = 0
   ·rw [if_pos h2]; simp [h, h2]
   ·rw [if_neg h2]; simp [h2]
  ·rw [if_neg h]; simp [h]
 rw [spec_shWide.F_eq]
 simp only [spec_shFingers.f, Option.bind_some]
 rw [spec_shWide.L0_eq, show wrap64 ((1 : Int) - 1) = 0 from by decide +kernel, show wrap64 ((1 : Int) + 1) = 2 from by decide +kernel, if_pos (by decide), if_pos (by decide), if_pos (by simp), show rd [b, c, d, e] 0 = b from rfl, show rd [b, c, d, e] 1 = c from rfl, e1]
 unfold wide
 by_cases h : b = 0
 ·rw [if_pos h, if_pos (by decide), if_pos (by simp)]
  by_cases h2 : c = 0
  ·rw [if_pos h2]; simp [h, h2]
  ·rw [if_neg h2]; simp [h2]
 ·rw [if_neg h]; simp [h]
theorem wide_impl (a b c d e : Int) (s : Bool) : impl_Shape_maySpread.f a b c d e s = some (wide b c d e) := by
 unfold impl_Shape_maySpread.f wide
 by_cases h1 : c = 0
 ·rw [if_pos h1]
  by_cases h2 : b = 0
  ·rw [if_pos h2]; simp [h1, h2]
  ·rw [if_neg h2]
   by_cases h3 : d = 0
   ·rw [if_pos h3]; simp [h1, h3]
   ·rw [if_neg h3]; simp [h2, h3]
 ·rw [if_neg h1]
  by_cases h3 : d = 0
  ·rw [if_pos h3]; simp [h1, h3]
   cases h : decide (e = 0) <;> simpa using h
  ·rw [if_neg h3]; simp [h1, h3]
theorem l1All_some (l : List Int) (a b : Int) (hl : l.length ≤ 1048576) : spec_l1All.F l a b = some (l.all fun x => decide (a ≤ x ∧ x ≤ b)) := by
 rw [spec_l1All.F_eq]
 refine each (L := fun i => spec_l1All.L0 a b l l.length i) l 0 (fun _ t o => o = some (t.all fun x => decide (a ≤ x ∧ x ≤ b))) ?_ ?_
 ·show spec_l1All.L0 a b l _ _ = _
  rw [spec_l1All.L0_eq, if_neg (by omega)]; rfl
 ·intro i x t hi hx _ _ ih
  show spec_l1All.L0 a b l _ _ = _
  rw [spec_l1All.L0_eq, if_pos (by omega), if_pos (by omega), if_pos (by omega), rd_int, hx, l1In_at, Option.bind_some, wrap_in (by omega) (by omega), List.all_cons]
  cases decide (a ≤ x ∧ x ≤ b)
  ·rfl
  ·rw [if_pos rfl, ih]; rfl
theorem allWithin_some (l : List Int) (a b : Int) (hl : l.length ≤ 1048576) : impl_allWithin.F l a b = some (l.all fun x => decide (a ≤ x ∧ x ≤ b)) := by
 rw [impl_allWithin.F_eq, slices_ContainsFunc_int_impl_allWithin_1.F_eq, slices_IndexFunc_int_impl_allWithin_1.F_eq]
 have := each (L := fun i => slices_IndexFunc_int_impl_allWithin_1.L0 l l.length i a b) l 0 (fun _ t o => ∃ r, o = some r ∧ decide (r ≥ 0) = !(t.all fun x => decide (a ≤ x ∧ x ≤ b))) ?_ ?_
 ·obtain ⟨r, h1, h2⟩ := this
  rw [h1]; simp [h2]
 ·refine ⟨-1, ?_, by simp⟩
  show slices_IndexFunc_int_impl_allWithin_1.L0 l _ _ _ _ = _
  rw [slices_IndexFunc_int_impl_allWithin_1.L0_eq, if_neg (by omega)]
 ·intro i x t hi hx _ _ ih
  show ∃ r, slices_IndexFunc_int_impl_allWithin_1.L0 l _ _ _ _ = _ ∧ _
  rw [slices_IndexFunc_int_impl_allWithin_1.L0_eq, if_pos (by omega), if_pos (by omega), if_pos (by omega), rd_int, hx, wrap_in (by omega) (by omega)]
  unfold impl_allWithin_1.f
  rw [within_at, Option.bind_some, Option.bind_some, List.all_cons]
  cases decide (a ≤ x ∧ x ≤ b)
  ·exact ⟨i, by rw [if_pos (by rfl)], by simp⟩
  ·rw [if_neg (by simp), Bool.true_and]; exact ih
/-- Is it a shape? -/
def isSh (a b c d e : Int) (s : Bool) : Bool := decide (0 ≤ a ∧ a ≤ 2) && ((([b, c, d, e] : List Int).all fun x => decide (0 ≤ x ∧ x ≤ 2)) && (!s || wide b c d e))
theorem shGood_some (a b c d e : Int) (s : Bool) : spec_shGood.F a b c d e s = some (isSh a b c d e s) := by
 rw [spec_shGood.F_eq, l1In_at, wide_spec, Option.bind_some]
 simp only [spec_shFingers.f, Option.bind_some]
 rw [l1All_some _ _ _ (by simp), Option.bind_some]
 unfold isSh
 cases decide (0 ≤ a ∧ a ≤ 2)
 ·rfl
 cases (([b, c, d, e] : List Int).all fun x => decide (0 ≤ x ∧ x ≤ 2))
 ·rfl
 cases s <;> rfl
theorem isShape_some (a b c d e : Int) (s : Bool) : impl_IsShape.F a b c d e s = some (isSh a b c d e s) := by
 rw [impl_IsShape.F_eq, wide_impl, Option.bind_some]
 simp only [impl_Shape_bends.f, Option.bind_some]
 rw [if_pos (by simp), allWithin_some _ _ _ (by simp), Option.bind_some]
 unfold isSh
 rw [List.cons_append, List.nil_append, List.all_cons]
 cases decide (0 ≤ a ∧ a ≤ 2)
 ·rfl
 cases (([b, c, d, e] : List Int).all fun x => decide (0 ≤ x ∧ x ≤ 2))
 ·rfl
 cases s <;> rfl
theorem sh_bounds {a b c d e : Int} {s : Bool} (h : isSh a b c d e s = true) : (0 ≤ a ∧ a ≤ 2) ∧ (0 ≤ b ∧ b ≤ 2) ∧ (0 ≤ c ∧ c ≤ 2) ∧ (0 ≤ d ∧ d ≤ 2) ∧ (0 ≤ e ∧ e ≤ 2) := by
 unfold isSh at h
 simp only [Bool.and_eq_true, decide_eq_true_eq, List.all_cons, List.all_nil, and_true] at h
 exact ⟨h.1, h.2.1.1, h.2.1.2.1, h.2.1.2.2.1, h.2.1.2.2.2⟩



/-! ### One digit -/
def dg (n : Int) : ByteArray := ⟨(Lib.decDigits n.toNat).toArray⟩
theorem dg_eq {n : Int} (h : 0 ≤ n ∧ n ≤ 9) : dg n = ⟨#[UInt8.ofNat (48 + n.toNat)]⟩ := by
 unfold dg; rw [Lib.decDigits_one (by omega)]
theorem dg_size {n : Int} (h : 0 ≤ n ∧ n ≤ 9) : (dg n).size = 1 := by rw [dg_eq h]; rfl
theorem dg_impl {n : Int} (h : 0 ≤ n ∧ n ≤ 9) : strconv_Itoa.f n = some (dg n) := by
 unfold strconv_Itoa.f; rw [if_pos (by omega)]; rfl

/-! ### Texts of shapes -/
def shTail (s : Bool) (t : ByteArray) : ByteArray := if s = true then t ++ ⟨#[115]⟩ else t
def shTx (a b c d e : Int) (s : Bool) : ByteArray := shTail s ([b, c, d, e].foldl (fun t n => t ++ dg n) (dg a))
theorem sh_loopI (l : List Int) (h : ∀ x ∈ l, 0 ≤ x ∧ x ≤ 2) (hl : l.length ≤ 100) (a b c d e : Int) (s : Bool) (acc : ByteArray) (ha : acc.size ≤ 1) :
 impl_Shape_text.L0 acc l l.length 0 a b c d e s = some (shTail s (l.foldl (fun t n => t ++ dg n) acc)) := by
 have := each (L := fun i => (fun acc => impl_Shape_text.L0 acc l l.length i a b c d e s : ByteArray → _)) l 0
  (fun i t f => (∀ x ∈ t, x ∈ l) → ∀ acc : ByteArray, acc.size ≤ i + 1 → f acc = some (shTail s (t.foldl (fun t n => t ++ dg n) acc))) ?_ ?_ (fun _ h => h) acc (by omega)
 ·exact this
 ·intro _ acc hs
  have one : (⟨#[115]⟩ : ByteArray).size = 1 := rfl
  show impl_Shape_text.L0 acc l _ _ a b c d e s = _
  have hn : ¬ ((l.length : Int) < (l.length : Int)) := by omega
  rw [impl_Shape_text.L0_eq, if_neg hn]
  unfold shTail
  cases s
  ·rfl
  ·rw [if_pos rfl, if_pos (by omega)]; rfl
 ·intro i x t hi hx _ _ ih hm acc hs
  have hx2 := h x (hm x (by simp))
  have h9 : 0 ≤ x ∧ x ≤ 9 := by omega
  have h1 := dg_size h9
  show impl_Shape_text.L0 acc l _ _ a b c d e s = _
  rw [impl_Shape_text.L0_eq, if_pos (by omega), if_pos (by omega), if_pos (by omega), rd_int, hx, dg_impl h9, Option.bind_some, if_pos (by omega), wrap_in (by omega) (by omega)]
  exact ih (fun y hy => hm y (by simp [hy])) _ (by rw [ByteArray.size_append]; omega)
theorem sh_textI {a b c d e : Int} {s : Bool} (h : isSh a b c d e s = true) : impl_Shape_text.F a b c d e s = some (shTx a b c d e s) := by
 obtain ⟨ha, hb, hc, hd, he⟩ := sh_bounds h
 rw [impl_Shape_text.F_eq, dg_impl (by omega)]
 simp only [impl_Shape_bends.f, Option.bind_some]
 refine sh_loopI [b, c, d, e] (fun x hx => ?_) (by simp) a b c d e s (dg a) (by rw [dg_size (by omega)]; omega)
 simp only [List.mem_cons, List.not_mem_nil, or_false] at hx
 rcases hx with rfl | rfl | rfl | rfl <;> assumption

/-! ### Texts of shapes, read -/
def vv (s : ByteArray) (i : Nat) : Int := bt s (i : Int) - 48
theorem vv_eq (s : ByteArray) (i : Nat) (h : i < s.size) : wrap64 (wrap64 (bt s (i : Int)) - 48) = vv s i := by
 have h1 := bt_data s i h
 have h2 := (s.data.toList.getD i 0).toNat_lt
 unfold vv
 rw [wrap_in (x := bt s (i : Int)) (by omega) (by omega), wrap_in (by omega) (by omega)]
theorem sp_step (s : ByteArray) (h5 : 5 ≤ s.size) (acc : List Int) (i : Nat) (h : i < 5) (ha : acc.length ≤ 10) : spec_shParse.L0 s acc (i : Int) = spec_shParse.L0 s (acc ++ [vv s i]) ((i + 1 : Nat) : Int) := by
 rw [spec_shParse.L0_eq, if_pos (by omega), if_pos (by omega), if_pos (by omega), if_pos (by omega), vv_eq s i (by omega), wrap_in (by omega) (by omega)]
 rfl
theorem sp_all (s : ByteArray) (h5 : 5 ≤ s.size) : spec_shParse.L0 s [] 0 = spec_shParse.L0 s [vv s 0, vv s 1, vv s 2, vv s 3, vv s 4] 5 :=
 (sp_step s h5 [] 0 (by omega) (by simp)).trans <| (sp_step s h5 [vv s 0] 1 (by omega) (by simp)).trans <| (sp_step s h5 [vv s 0, vv s 1] 2 (by omega) (by simp)).trans <| (sp_step s h5 [vv s 0, vv s 1, vv s 2] 3 (by omega) (by simp)).trans <| sp_step s h5 [vv s 0, vv s 1, vv s 2, vv s 3] 4 (by omega) (by simp)
theorem im_step (s : ByteArray) (h5 : 5 ≤ s.size) (a b c d e : Int) (i : Nat) (h : i < 5) : impl_ParseShape.L0 s (i : Int) a b c d e false = (impl_Shape_with.f a b c d e false (i : Int) (vv s i)).bind fun t => impl_ParseShape.L0 s ((i + 1 : Nat) : Int) t.1 t.2.1 t.2.2.1 t.2.2.2.1 t.2.2.2.2.1 t.2.2.2.2.2 := by
 rw [impl_ParseShape.L0_eq, if_pos (by omega), if_pos (by omega), if_pos (by omega), vv_eq s i (by omega), wrap_in (by omega) (by omega)]
 rfl
theorem with_at (a b c d e v : Int) (i : Nat) : impl_Shape_with.f a b c d e false (i : Int) v = some (if i = 0 then (v, b, c, d, e, false) else if i = 1 then (a, v, c, d, e, false) else if i = 2 then (a, b, v, d, e, false) else if i = 3 then (a, b, c, v, e, false) else (a, b, c, d, v, false)) := by
 unfold impl_Shape_with.f
 simp only [Bool.false_eq_true, if_false]
 by_cases h0 : i = 0
 ·rw [if_pos (by omega), if_pos h0]
 rw [if_neg (by omega), if_neg h0]
 by_cases h1 : i = 1
 ·rw [if_pos (by omega), if_pos h1]
 rw [if_neg (by omega), if_neg h1]
 by_cases h2 : i = 2
 ·rw [if_pos (by omega), if_pos h2]
 rw [if_neg (by omega), if_neg h2]
 by_cases h3 : i = 3
 ·rw [if_pos (by omega), if_pos h3]
 rw [if_neg (by omega), if_neg h3]
theorem im_all (s : ByteArray) (h5 : 5 ≤ s.size) : impl_ParseShape.L0 s 0 0 0 0 0 0 false = impl_ParseShape.L0 s 5 (vv s 0) (vv s 1) (vv s 2) (vv s 3) (vv s 4) false := by
 have e0 := im_step s h5 0 0 0 0 0 0 (by omega)
 have e1 := im_step s h5 (vv s 0) 0 0 0 0 1 (by omega)
 have e2 := im_step s h5 (vv s 0) (vv s 1) 0 0 0 2 (by omega)
 have e3 := im_step s h5 (vv s 0) (vv s 1) (vv s 2) 0 0 3 (by omega)
 have e4 := im_step s h5 (vv s 0) (vv s 1) (vv s 2) (vv s 3) 0 4 (by omega)
 rw [with_at, Option.bind_some] at e0 e1 e2 e3 e4
 exact e0.trans (e1.trans (e2.trans (e3.trans e4)))
/-- Do the numbers and the length make the text? -/
theorem parse_tx (s : ByteArray) (h5 : 5 ≤ s.size) (h6 : s.size ≤ 6) (hs : isSh (vv s 0) (vv s 1) (vv s 2) (vv s 3) (vv s 4) ((s.size : Int) == 6) = true) :
 (shTx (vv s 0) (vv s 1) (vv s 2) (vv s 3) (vv s 4) ((s.size : Int) == 6)).toList = s.toList ↔ (s.size = 6 → bt s 5 = 115) := by
 obtain ⟨h0, h1, h2, h3, h4⟩ := sh_bounds hs
 have hn := size_data s
 have hb : ∀ i < 5, (0 ≤ vv s i ∧ vv s i ≤ 2) → dg (vv s i) = ⟨#[s.data.toList.getD i 0]⟩ := by
  intro i hi hv
  have hbt := bt_data s i (by omega)
  have hlt := (s.data.toList.getD i 0).toNat_lt
  rw [dg_eq (by omega)]
  have : 48 + (vv s i).toNat = (s.data.toList.getD i 0).toNat := by unfold vv at hv ⊢; omega
  rw [this]; simp
 unfold shTx
 simp only [List.foldl_cons, List.foldl_nil]
 rw [hb 0 (by omega) h0, hb 1 (by omega) h1, hb 2 (by omega) h2, hb 3 (by omega) h3, hb 4 (by omega) h4]
 have h55 := bt_data s 5
 rw [toList_data, toList_data]
 generalize s.data.toList = l at *
 clear hs h0 h1 h2 h3 h4 hb
 rcases Nat.lt_or_ge 5 s.size with h7 | h7
 ·have e6 : s.size = 6 := by omega
  have e6' : ((s.size : Int) == 6) = true := by rw [e6]; rfl
  rw [e6'] 
  obtain ⟨b0, b1, b2, b3, b4, b5, rfl⟩ : ∃ b0 b1 b2 b3 b4 b5, l = [b0, b1, b2, b3, b4, b5] := by
   match l, (show l.length = 6 by omega) with
   | [b0, b1, b2, b3, b4, b5], _ => exact ⟨b0, b1, b2, b3, b4, b5, rfl⟩
  have hb5 := h55 (by omega)
  have hb5' : bt s 5 = (b5.toNat : Int) := hb5
  rw [hb5']
  constructor
  ·intro h _
   have h' : [b0, b1, b2, b3, b4, (115 : UInt8)] = [b0, b1, b2, b3, b4, b5] := h
   simp only [List.cons.injEq, true_and, and_true] at h'
   rw [← h']; rfl
  ·intro h
   have : b5 = 115 := UInt8.toNat_inj.1 (by have := h e6; have e : (115 : UInt8).toNat = 115 := rfl; omega)
   subst this
   rfl
 ·have e5 : s.size = 5 := by omega
  have e5' : ((s.size : Int) == 6) = false := by rw [e5]; rfl
  rw [e5']
  obtain ⟨b0, b1, b2, b3, b4, rfl⟩ : ∃ b0 b1 b2 b3 b4, l = [b0, b1, b2, b3, b4] := by
   match l, (show l.length = 5 by omega) with
   | [b0, b1, b2, b3, b4], _ => exact ⟨b0, b1, b2, b3, b4, rfl⟩
  constructor
  ·intro _ h; omega
  ·intro _; rfl
def shNone : Int × Int × Int × Int × Int × Bool × Bool := (0, 0, 0, 0, 0, false, false)
/-- What a text is read as. -/
def shRead (s : ByteArray) : Int × Int × Int × Int × Int × Bool × Bool := if (5 ≤ s.size ∧ s.size ≤ 6) ∧ (s.size = 6 → bt s 5 = 115) ∧ isSh (vv s 0) (vv s 1) (vv s 2) (vv s 3) (vv s 4) ((s.size : Int) == 6) = true then (vv s 0, vv s 1, vv s 2, vv s 3, vv s 4, ((s.size : Int) == 6), true) else shNone
theorem shParse_some (s : ByteArray) (hs : s.size ≤ 9223372036854775807) : spec_shParse.F s = some (shRead s) := by
 have hend : 5 ≤ s.size → spec_shParse.L0 s [] 0 = some (if isSh (vv s 0) (vv s 1) (vv s 2) (vv s 3) (vv s 4) ((s.size : Int) == 6) = true then (vv s 0, vv s 1, vv s 2, vv s 3, vv s 4, ((s.size : Int) == 6), true) else shNone) := by
  intro h5
  rw [sp_all s h5, spec_shParse.L0_eq, if_neg (by decide), if_pos (by simp), if_pos (by simp), if_pos (by simp), if_pos (by simp), if_pos (by simp)]
  show ((spec_shGood.F (vv s 0) (vv s 1) (vv s 2) (vv s 3) (vv s 4) ((s.size : Int) == 6)).bind fun t => if t = true then some (vv s 0, vv s 1, vv s 2, vv s 3, vv s 4, ((s.size : Int) == 6), true) else some (0, 0, 0, 0, 0, false, false)) = _
  rw [shGood_some, Option.bind_some]
  split <;> rfl
 rw [spec_shParse.F_eq, l1In_at, Option.bind_some]
 unfold shRead
 by_cases h : 5 ≤ s.size ∧ s.size ≤ 6
 ·rw [if_pos (by simp; omega)]
  by_cases h6 : s.size = 6
  ·rw [if_pos (by omega), if_pos (by omega), spec_shParse.J0_eq]
   by_cases h7 : bt s 5 = 115
   ·rw [if_neg (by simp [h7]), hend h.1]
    simp only [h, h7, implies_true, true_and, and_self]
   ·rw [if_pos (by simp [h7])]
    rw [if_neg (fun hh => h7 (hh.2.1 h6))]; rfl
  ·rw [if_neg (by omega), spec_shParse.J0_eq, if_neg (by simp), hend h.1]
   simp only [h, h6, false_implies, true_and, and_self]
 ·rw [if_neg (by simp; omega), spec_shParse.J0_eq, if_pos rfl, if_neg (fun hh => h hh.1)]; rfl
theorem implParse_some (s : ByteArray) (hs : s.size ≤ 9223372036854775807) : impl_ParseShape.F s = some (shRead s) := by
 rw [impl_ParseShape.F_eq, within_at, Option.bind_some]
 unfold shRead
 by_cases h : 5 ≤ s.size ∧ s.size ≤ 6
 ·rw [if_pos (by simp; omega), im_all s h.1, impl_ParseShape.L0_eq, if_neg (by decide), isShape_some, Option.bind_some]
  cases hg : isSh (vv s 0) (vv s 1) (vv s 2) (vv s 3) (vv s 4) ((s.size : Int) == 6)
  ·rw [if_neg (by simp), if_neg (by simp)]; rfl
  ·rw [if_pos rfl, sh_textI hg, Option.bind_some]
   by_cases h7 : s.size = 6 → bt s 5 = 115
   ·rw [if_pos ((parse_tx s h.1 h.2 hg).2 h7), if_pos ⟨h, h7, rfl⟩]
   ·rw [if_neg (fun hh => h7 ((parse_tx s h.1 h.2 hg).1 hh)), if_neg (fun hh => h7 hh.2.1)]; rfl
 ·rw [if_neg (by simp; omega), if_neg (fun hh => h hh.1)]; rfl


/-! ### Orientations -/
theorem sixO {a : Int} (h : 0 ≤ a ∧ a ≤ 5) : a = 0 ∨ a = 1 ∨ a = 2 ∨ a = 3 ∨ a = 4 ∨ a = 5 := by omega
def inDir (a : Int) : Bool := decide (0 ≤ a ∧ a ≤ 5)
def isOr (a b : Int) : Bool := inDir a && (inDir b && !(a / 2 == b / 2))
theorem isOr_in {a b : Int} (h : isOr a b = true) : (0 ≤ a ∧ a ≤ 5) ∧ (0 ≤ b ∧ b ≤ 5) := by
 unfold isOr inDir at h
 simp only [Bool.and_eq_true, decide_eq_true_eq] at h
 exact ⟨h.1, h.2.1⟩
theorem orGood_some (a b : Int) : spec_orGood.f a b = some (isOr a b) := by
 unfold spec_orGood.f spec_orDir.f
 simp only [l1In_at, Option.bind_some]
 by_cases h1 : 0 ≤ a ∧ a ≤ 5
 ·by_cases h2 : 0 ≤ b ∧ b ≤ 5
  ·rcases sixO h1 with rfl | rfl | rfl | rfl | rfl | rfl <;> rcases sixO h2 with rfl | rfl | rfl | rfl | rfl | rfl <;> kernel_rfl
  ·simp [isOr, inDir, h1, h2]
 ·simp [isOr, inDir, h1]
theorem isOrient_some (a b : Int) : impl_IsOrient.f a b = some (isOr a b) := by
 unfold impl_IsOrient.f
 simp only [within_at, Option.bind_some]
 by_cases h1 : 0 ≤ a ∧ a ≤ 5
 ·by_cases h2 : 0 ≤ b ∧ b ≤ 5
  ·rcases sixO h1 with rfl | rfl | rfl | rfl | rfl | rfl <;> rcases sixO h2 with rfl | rfl | rfl | rfl | rfl | rfl <;> kernel_rfl
  ·simp [isOr, inDir, h1, h2]
 ·simp [isOr, inDir, h1]


/-! ### Places and their names -/
def isPl (a b : Int) (c : Bool) : Bool := decide (0 ≤ a ∧ a ≤ 9) && (decide (-1 ≤ b ∧ b ≤ 1) && (!c || decide (a > 0)))
theorem plGood_some (a b : Int) (c : Bool) : spec_plGood.f a b c = some (isPl a b c) := by
 unfold spec_plGood.f isPl
 rw [l1In_at, l1In_at, Option.bind_some, Option.bind_some]
 by_cases h1 : 0 ≤ a ∧ a ≤ 9 <;> by_cases h2 : -1 ≤ b ∧ b ≤ 1 <;> by_cases h3 : a > 0 <;> cases c <;> simp [h1, h2, h3]
theorem isPlace_some (a b : Int) (c : Bool) : impl_IsPlace.f a b c = some (isPl a b c) := by
 unfold impl_IsPlace.f isPl
 rw [within_at, within_at, Option.bind_some, Option.bind_some]
 by_cases h1 : 0 ≤ a ∧ a ≤ 9
 ·have h4 : (a > 0) ↔ ¬ a = 0 := by omega
  by_cases h2 : -1 ≤ b ∧ b ≤ 1 <;> by_cases h3 : a = 0 <;> cases c <;> simp [h1, h2, h3, h4]
 ·simp [h1]
theorem nm_size (n : Nat) : (impl_Place_text.nm n).size ≤ 5 := by
 by_cases h : n < 10
 ·have : n = 0 ∨ n = 1 ∨ n = 2 ∨ n = 3 ∨ n = 4 ∨ n = 5 ∨ n = 6 ∨ n = 7 ∨ n = 8 ∨ n = 9 := by omega
  rcases this with rfl | rfl | rfl | rfl | rfl | rfl | rfl | rfl | rfl | rfl <;> decide
 ·unfold impl_Place_text.nm
  rw [List.getD_eq_getElem?_getD, List.getElem?_eq_none (by simpa using h)]
  decide
theorem app_nil (s : ByteArray) : s ++ (⟨#[]⟩ : ByteArray) = s := by
 apply ext_data
 rw [toList_data, toList_data]
 simp
def plTxt (a b : Int) (c : Bool) : ByteArray :=
 let s := impl_Place_text.nm a.toNat ++ (if b = -1 then ⟨#[60]⟩ else if b = 1 then ⟨#[62]⟩ else ⟨#[]⟩ : ByteArray)
 if c then s ++ ⟨#[42]⟩ else s
theorem plText_some (a b : Int) (c : Bool) (h : isPl a b c = true) : spec_plText.f a b c = some (plTxt a b c) := by
 unfold isPl at h
 simp only [Bool.and_eq_true, decide_eq_true_eq] at h
 obtain ⟨⟨h1, h2⟩, ⟨h3, h4⟩, _⟩ := h
 have hr : ∀ l d, l = [(⟨#[115, 112, 97, 99, 101]⟩ : ByteArray), ⟨#[104, 101, 97, 100]⟩, ⟨#[101, 121, 101]⟩, ⟨#[99, 104, 101, 101, 107]⟩, ⟨#[109, 111, 117, 116, 104]⟩, ⟨#[99, 104, 105, 110]⟩, ⟨#[110, 101, 99, 107]⟩, ⟨#[99, 104, 101, 115, 116]⟩, ⟨#[119, 97, 105, 115, 116]⟩, ⟨#[104, 105, 112]⟩] → d = (⟨#[]⟩ : ByteArray) → rdOf d l a = impl_Place_text.nm a.toNat := by
  intro l d h5 h6; subst h5 h6; rfl
 unfold spec_plText.f spec_plNames.f plTxt
 have hs := nm_size a.toNat
 rw [Option.bind_some, if_pos h1, if_pos (by simp; omega), hr _ ByteArray.empty rfl rfl]
 generalize impl_Place_text.nm a.toNat = s at hs
 have e : ∀ x : ByteArray, (s ++ x).size = s.size + x.size := fun x => ByteArray.size_append
 by_cases c1 : b = -1
 ·subst c1
  rw [if_pos rfl, if_pos rfl, if_pos (by omega)]
  cases c
  ·rfl
  ·rw [if_pos rfl, if_pos (by rw [e]; show s.size + 1 + 1 ≤ _; omega)]; rfl
 rw [if_neg c1, if_neg c1]
 by_cases c2 : b = 1
 ·subst c2
  rw [if_pos rfl, if_pos rfl, if_pos (by omega)]
  cases c
  ·rfl
  ·rw [if_pos rfl, if_pos (by rw [e]; show s.size + 1 + 1 ≤ _; omega)]; rfl
 rw [if_neg c2, if_neg c2, app_nil]
 cases c
 ·rfl
 ·rw [if_pos rfl, if_pos (by omega)]; rfl
theorem Place_text_some (a b : Int) (c : Bool) (h : isPl a b c = true) : impl_Place_text.f a b c = some (plTxt a b c) := by
 unfold isPl at h
 simp only [Bool.and_eq_true, decide_eq_true_eq] at h
 obtain ⟨⟨h1, h2⟩, ⟨h3, h4⟩, _⟩ := h
 unfold impl_Place_text.f plTxt
 rw [if_pos ⟨h1, h2⟩]
 by_cases c1 : b = -1
 ·subst c1; rfl
 rw [if_neg c1, if_neg c1]
 by_cases c2 : b = 0
 ·subst c2; rfl
 obtain rfl : b = 1 := by omega
 rfl

abbrev Pla := S27
theorem rd_pla (l : List Pla) (i : Nat) : rd_T27 l (i : Int) = l.getD i z27 := by simp [rd_T27]
def ok3 (p : Pla) : Bool := isPl p.f0 p.f1 p.f2
/-- The places of a region, by their codes. -/
def six (r : Int) : List Pla := [⟨r, -1, false⟩, ⟨r, -1, true⟩, ⟨r, 0, false⟩, ⟨r, 0, true⟩, ⟨r, 1, false⟩, ⟨r, 1, true⟩].filter ok3
theorem six_len (r : Int) : (six r).length ≤ 6 := List.length_filter_le _ _
def regions : List Int := [0, 1, 2, 3, 4, 5, 6, 7, 8, 9]
theorem plPair_some (x : List Pla) (r s : Int) (k : Nat) (b : Bool) (hb : rdOf false [false, true] (k : Int) = b) (hk : k < 2) (hx : x.length ≤ 100) : spec_plAll.L2 x r s [false, true] 2 k = spec_plAll.L2 (x ++ [(⟨r, s, b⟩ : Pla)].filter ok3) r s [false, true] 2 ((k : Int) + 1) := by
 have e0 : ok3 (⟨r, s, b⟩ : Pla) = isPl r s b := rfl
 rw [spec_plAll.L2_eq, if_pos (by omega), if_pos (by omega), if_pos (by simp; omega), hb, plGood_some, Option.bind_some, wrap_in (x := (k : Int) + 1) (by omega) (by omega), List.filter_cons, List.filter_nil, e0]
 by_cases c : isPl r s b = true
 ·rw [if_pos c, if_pos (by omega), if_pos c]
 ·rw [if_neg c, if_neg c, List.append_nil]
theorem pair_filter (p q : Pla) : [p].filter ok3 ++ [q].filter ok3 = [p, q].filter ok3 := by
 rw [← List.filter_append]; rfl
theorem filter_len (l : List Pla) : (l.filter ok3).length ≤ l.length := List.length_filter_le _ _
theorem plSide_some (x : List Pla) (r s : Int) (hx : x.length ≤ 90) (hs : -1 ≤ s ∧ s ≤ 1) : spec_plAll.L1 x r s = spec_plAll.L1 (x ++ [(⟨r, s, false⟩ : Pla), ⟨r, s, true⟩].filter ok3) r (s + 1) := by
 rw [spec_plAll.L1_eq, if_pos hs.2, Option.bind_some]
 have h1 := plPair_some x r s 0 false rfl (by omega) (by omega)
 have f1 := filter_len [(⟨r, s, false⟩ : Pla)]
 have h2 := plPair_some (x ++ [(⟨r, s, false⟩ : Pla)].filter ok3) r s 1 true rfl (by omega) (by rw [List.length_append]; simp only [List.length_cons, List.length_nil] at f1; omega)
 refine (h1.trans h2).trans ?_
 rw [spec_plAll.L2_eq, if_neg (by omega), wrap_in (by omega) (by omega), List.append_assoc, pair_filter]
theorem plRegion_some (x : List Pla) (r : Int) (hx : x.length ≤ 60) (hr : 0 ≤ r ∧ r < 10) : spec_plAll.L0 x r = spec_plAll.L0 (x ++ six r) (r + 1) := by
 have f := fun s : Int => filter_len [(⟨r, s, false⟩ : Pla), ⟨r, s, true⟩]
 simp only [List.length_cons, List.length_nil] at f
 have f1 := f (-1)
 have f2 := f 0
 rw [spec_plAll.L0_eq, if_pos hr.2, plSide_some x r (-1) (by omega) (by omega)]
 rw [plSide_some _ r (-1 + 1) (by rw [List.length_append]; omega) (by omega)]
 rw [plSide_some _ r (-1 + 1 + 1) (by rw [List.length_append, List.length_append]; have : (-1 : Int) + 1 = 0 := rfl; rw [this]; omega) (by omega)]
 rw [spec_plAll.L1_eq, if_neg (by omega), wrap_in (x := r + 1) (by omega) (by omega), List.append_assoc, List.append_assoc, ← List.filter_append, ← List.filter_append]
 rfl
def plFrom : Nat → Int → List Pla
 | 0, _ => []
 | n + 1, r => six r ++ plFrom n (r + 1)
theorem plAll_from : ∀ (n : Nat) (x : List Pla) (r : Int), 0 ≤ r → r + n = 10 → x.length ≤ 6 * r.toNat → spec_plAll.L0 x r = some (x ++ plFrom n r)
 | 0, x, r, h0, h1, h2 => by
  rw [spec_plAll.L0_eq, if_neg (by omega)]; simp [plFrom]
 | n + 1, x, r, h0, h1, h2 => by
  have := six_len r
  rw [plRegion_some x r (by omega) (by omega), plAll_from n _ (r + 1) (by omega) (by omega) (by rw [List.length_append]; omega), List.append_assoc]
  rfl
theorem plAll_some : spec_plAll.F = some (plFrom 10 0) := by
 rw [spec_plAll.F_eq, plAll_from 10 [] 0 (by omega) (by omega) (by simp)]
 rfl
theorem plFrom_ok : ∀ (n : Nat) (r : Int), ∀ p ∈ plFrom n r, ok3 p = true
 | 0, _, p, h => by cases h
 | n + 1, r, p, h => by
  rcases List.mem_append.1 h with h | h
  ·exact (List.mem_filter.1 h).2
  ·exact plFrom_ok n _ p h
/-- The first place with a text. -/
def search (s : ByteArray) : List Pla → Int × Int × Bool × Bool
 | [] => (0, 0, false, false)
 | p :: t => if (plTxt p.f0 p.f1 p.f2).toList = s.toList then (p.f0, p.f1, p.f2, true) else search s t
theorem search_cons (s : ByteArray) (p : Pla) (t : List Pla) : search s (p :: t) = if (plTxt p.f0 p.f1 p.f2).toList = s.toList then (p.f0, p.f1, p.f2, true) else search s t := rfl
theorem plParse_some (s : ByteArray) : spec_plParse.F s = some (search s (plFrom 10 0)) := by
 rw [spec_plParse.F_eq, plAll_some, Option.bind_some]
 have hok := plFrom_ok 10 0
 have hlen : (plFrom 10 0).length ≤ 60 := by decide
 generalize plFrom 10 0 = l at hok hlen
 refine each (L := fun i => spec_plParse.L0 s l l.length i) l z27 (fun _ t o => (∀ p ∈ t, ok3 p = true) → o = some (search s t)) ?_ ?_ hok
 ·intro _
  show spec_plParse.L0 s l _ _ = _
  rw [spec_plParse.L0_eq, if_neg (by omega)]; rfl
 ·intro i p t hi hp _ _ ih hm
  show spec_plParse.L0 s l _ _ = _
  rw [spec_plParse.L0_eq, if_pos (by omega), if_pos (by omega), if_pos (by omega), rd_pla, hp, plText_some _ _ _ (hm p (by simp)), Option.bind_some, wrap_in (x := (i : Int) + 1) (by omega) (by omega)]
  rw [search_cons]
  by_cases c : (plTxt p.f0 p.f1 p.f2).toList = s.toList
  ·rw [if_pos c, if_pos c]
  ·rw [if_neg c, if_neg c, ih (fun q hq => hm q (by simp [hq]))]
/-- A place by its code. -/
def plc (n : Int) : Pla := ⟨n.tdiv 6, (n.tmod 6).tdiv 2 - 1, n.tmod 2 == 1⟩
def codeFrom : Nat → Int → List Pla
 | 0, _ => []
 | n + 1, c => [plc c].filter ok3 ++ codeFrom n (c + 1)
theorem code_same : codeFrom 60 0 = plFrom 10 0 := by kernel_rfl
theorem parse_from (s : ByteArray) : ∀ (n : Nat) (c : Int), 0 ≤ c → c + n = 60 → impl_ParsePlace.L0 s c = some (search s (codeFrom n c))
 | 0, c, h0, h1 => by
  rw [impl_ParsePlace.L0_eq, if_neg (by omega)]; rfl
 | n + 1, c, h0, h1 => by
  have ih := parse_from s n (c + 1) (by omega) (by omega)
  have hw : wrap64 (c + 1) = c + 1 := wrap_in (by omega) (by omega)
  have t1 : c.tdiv 6 = c / 6 := Int.tdiv_eq_ediv_of_nonneg h0
  have t2 : c.tmod 6 = c % 6 := Int.tmod_eq_emod_of_nonneg h0
  have t3 : (c % 6).tdiv 2 = c % 6 / 2 := Int.tdiv_eq_ediv_of_nonneg (by omega)
  have hp : impl_PlaceOfCode.f c = some (if ok3 (plc c) = true then ((plc c).f0, (plc c).f1, (plc c).f2, true) else (0, 0, false, false)) := by
   unfold impl_PlaceOfCode.f
   rw [within_at, Option.bind_some, if_pos (by simp; omega), isPlace_some, Option.bind_some]
   have w1 : wrap64 (c.tdiv 6) = c.tdiv 6 := wrap_in (by omega) (by omega)
   have w2 : wrap64 ((c.tmod 6).tdiv 2) = (c.tmod 6).tdiv 2 := wrap_in (by rw [t2, t3]; omega) (by rw [t2, t3]; omega)
   have w3 : wrap64 ((c.tmod 6).tdiv 2 - 1) = (c.tmod 6).tdiv 2 - 1 := wrap_in (by rw [t2, t3]; omega) (by rw [t2, t3]; omega)
   rw [w1, w2, w3]
   show (if ok3 (plc c) = true then _ else _) = _
   by_cases h : ok3 (plc c) = true
   ·rw [if_pos h, if_pos h]; rfl
   ·rw [if_neg h, if_neg h]
  rw [impl_ParsePlace.L0_eq, if_pos (by omega), hp, Option.bind_some, hw, ih]
  show _ = some (search s ([plc c].filter ok3 ++ codeFrom n (c + 1)))
  by_cases h : ok3 (plc c) = true
  ·have ht := Place_text_some (plc c).f0 (plc c).f1 (plc c).f2 h
   simp only [h, if_true, ht, Option.bind_some, List.filter_cons, List.filter_nil]
   show _ = some (if _ then _ else search s (codeFrom n (c + 1)))
   split <;> rfl
  ·simp only [h, if_false, Bool.false_eq_true, List.filter_cons, List.filter_nil, List.nil_append]
theorem parsePlace_some (s : ByteArray) : impl_ParsePlace.F s = some (search s (plFrom 10 0)) := by
 rw [impl_ParsePlace.F_eq, parse_from s 60 0 (by omega) (by omega), code_same]


/-! ### Numbers in decimal -/
theorem digit_fin : ∀ n : Fin 10, strOfNums [(wrap64 (48 + (n.val : Int))) % 256] = ⟨#[UInt8.ofNat (48 + n.val)]⟩ := by decide +kernel
theorem digit_some {n : Nat} (h : n < 10) : strOfNums [(wrap64 (48 + (n : Int))) % 256] = ⟨#[UInt8.ofNat (48 + n)]⟩ := digit_fin ⟨n, h⟩
theorem num_some (n : Nat) : n < 4611686018427387904 → spec_l1Num.F (n : Int) = some ⟨(Lib.decDigits n).toArray⟩ := by
 induction n using Nat.strongRecOn with
 | ind n ih =>
  intro hn
  rw [spec_l1Num.F_eq]
  by_cases c : n < 10
  ·rw [if_pos (by omega), Lib.decDigits_one c, digit_some c]
  ·have t1 : (n : Int).tdiv 10 = ((n / 10 : Nat) : Int) := by rw [Int.tdiv_eq_ediv_of_nonneg (by omega)]; omega
   have t2 : (n : Int).tmod 10 = ((n % 10 : Nat) : Int) := by rw [Int.tmod_eq_emod_of_nonneg (by omega)]; omega
   have hl := dec_length (n / 10)
   rw [if_neg (by omega), t1, wrap_in (by omega) (by omega), ih (n / 10) (by omega) (by omega), Option.bind_some, Option.bind_some, t2, digit_some (by omega)]
   have e : Lib.decDigits n = Lib.decDigits (n / 10) ++ [UInt8.ofNat (48 + n % 10)] := by rw [Lib.decDigits, dif_neg c]
   rw [if_pos (by simp only [ByteArray.size, List.size_toArray, List.length_cons, List.length_nil]; omega), e]
   first
   | rfl
   | (congr 1; done)
   | (congr 1; apply ext_data; rw [toList_data, toList_data]; simp)


theorem dg_spec {n : Int} (h : 0 ≤ n ∧ n ≤ 9) : spec_l1Num.F n = some (dg n) := by
 obtain ⟨m, rfl⟩ := Int.eq_ofNat_of_zero_le h.1
 rw [num_some m (by omega)]; rfl


/-! ### Letters out of a list -/
/-- Are all letters out of a list? -/
def allOf (g : List Nat) (s : ByteArray) : Bool := s.data.toList.all fun x => g.contains x.toNat
def FitsI (g : List Nat) (m : ByteArray) : Prop := ∀ n : Fin 256, decide (Lib.indexByte m.data.toList n.val.toUInt8 < 0) = !g.contains n.val
instance (g : List Nat) (m : ByteArray) : Decidable (FitsI g m) := by unfold FitsI; infer_instance
theorem only_some (g : List Nat) (s m : ByteArray) (hs : s.size ≤ 9223372036854775807) (hm : FitsI g m) : impl_hasOnly.F s m = some (allOf g s) := by
 rw [impl_hasOnly.F_eq]
 refine each (L := fun i => impl_hasOnly.L0 s m s.size i) s.data.toList 0 (fun _ t o => o = some (t.all fun x => g.contains x.toNat)) ?_ ?_
 ·show impl_hasOnly.L0 s m _ _ = _
  rw [impl_hasOnly.L0_eq, if_neg (by rw [← size_data]; omega)]; rfl
 ·intro i x t hi' hx _ _ ih
  have hi2 : i < s.size := by rw [size_data]; exact hi'
  have hb := hm ⟨x.toNat, x.toNat_lt⟩
  show impl_hasOnly.L0 s m _ _ = _
  rw [impl_hasOnly.L0_eq, if_pos (by omega), if_pos (by omega), if_pos (by omega), bt_data s i hi2, hx, wrap_in (by omega) (by omega)]
  simp only [strings_IndexByte.f, stringslite_IndexByte.f, Option.bind_some, Int.toNat_natCast, List.all_cons]
  simp only at hb
  cases h1 : g.contains x.toNat
  ·rw [h1] at hb
   rw [if_pos (by simpa using hb)]; rfl
  ·rw [h1] at hb
   rw [if_neg (by simpa using hb), ih]; rfl

/-! ### Steps -/
def dirs : List Nat := [117, 100, 108, 114, 102, 98]
def dirB : ByteArray := ⟨#[117, 100, 108, 114, 102, 98]⟩
theorem mvIndex_some (v : Nat) : ∃ r, spec_mvIndex.F (v : Int) = some r ∧ decide (r < 0) = !dirs.contains v := by
 rw [spec_mvIndex.F_eq]
 have := each (L := fun i => spec_mvIndex.L0 v i) dirB.data.toList 0 (fun i t o => ∃ r, o = some r ∧ decide (r < 0) = !(t.any fun x => decide (x.toNat = v))) ?_ ?_
 ·obtain ⟨r, h1, h2⟩ := this
  refine ⟨r, h1, h2.trans ?_⟩
  congr 1
  simp [dirB, dirs, eq_comm]
 ·refine ⟨-1, ?_, rfl⟩
  show spec_mvIndex.L0 v _ = _
  rw [spec_mvIndex.L0_eq]
  rfl
 ·intro i x t hi' hx _ _ ih
  have hi2 : i < dirB.size := by rw [size_data]; exact hi'
  show ∃ r, spec_mvIndex.L0 v _ = _ ∧ _
  rw [spec_mvIndex.L0_eq]
  simp only [spec_mvLetters.f, Option.bind_some]
  have hz : dirB.size = 6 := rfl
  show ∃ r, (if (i : Int) < (dirB.size : Int) then (if 0 ≤ (i : Int) then (if (i : Int) < (dirB.size : Int) then (if bt dirB (i : Int) = (v : Int) then _ else _) else _) else _) else _) = _ ∧ _
  rw [if_pos (by omega), if_pos (by omega), if_pos (by omega), bt_data dirB i hi2, hx, wrap_in (by omega) (by omega), List.any_cons]
  by_cases h1 : x.toNat = v
  ·rw [if_pos (by omega)]; exact ⟨i, rfl, by simp [h1]⟩
  ·rw [if_neg (by omega)]; simpa [h1] using ih
theorem mvSteps_some (s : ByteArray) (hs : s.size ≤ 9223372036854775807) : spec_mvSteps.F s = some (allOf dirs s) := by
 rw [spec_mvSteps.F_eq]
 refine each (L := fun i => spec_mvSteps.L0 s i) s.data.toList 0 (fun _ t o => o = some (t.all fun x => dirs.contains x.toNat)) ?_ ?_
 ·show spec_mvSteps.L0 s _ = _
  rw [spec_mvSteps.L0_eq, if_neg (by rw [← size_data]; omega)]; rfl
 ·intro i x t hi' hx _ _ ih
  have hi2 : i < s.size := by rw [size_data]; exact hi'
  obtain ⟨r, h1, h2⟩ := mvIndex_some x.toNat
  show spec_mvSteps.L0 s _ = _
  rw [spec_mvSteps.L0_eq, if_pos (by omega), if_pos (by omega), bt_data s i hi2, hx, wrap_in (by omega) (by omega), h1, Option.bind_some, List.all_cons]
  cases hc : dirs.contains x.toNat
  ·rw [hc] at h2
   rw [if_pos (by simpa using h2)]; rfl
  ·rw [hc] at h2
   rw [if_neg (by simpa using h2), ih]; rfl
/-- Is it a movement? -/
def isMv (a : ByteArray) (n : Int) : Bool := decide ((a.size : Int) ≤ 6) && (allOf dirs a && (decide (1 ≤ n ∧ n ≤ 3) && (if a.toList = [] then n == 1 else true)))
theorem mvGood_some (a : ByteArray) (n : Int) (ha : a.size ≤ 9223372036854775807) : spec_mvGood.F a n = some (isMv a n) := by
 rw [spec_mvGood.F_eq, mvSteps_some a ha, l1In_at]
 unfold isMv
 by_cases c1 : (a.size : Int) ≤ 6
 case neg => rw [if_neg c1, decide_eq_false c1]; rfl
 rw [if_pos c1, decide_eq_true c1, Option.bind_some]
 cases allOf dirs a
 ·rfl
 rw [if_pos rfl, Option.bind_some]
 cases decide (1 ≤ n ∧ n ≤ 3)
 ·rfl
 rw [if_pos rfl]
 by_cases c3 : a.toList = []
 ·rw [if_pos c3, if_pos c3]; rfl
 ·rw [if_neg c3, if_neg c3]; rfl
theorem isMove_some (a : ByteArray) (n : Int) (ha : a.size ≤ 9223372036854775807) : impl_IsMove.F a n = some (isMv a n) := by
 rw [impl_IsMove.F_eq, only_some dirs a _ ha (by decide +kernel), within_at]
 unfold isMv
 by_cases c1 : (a.size : Int) ≤ 6
 case neg => rw [if_neg c1, decide_eq_false c1]; rfl
 rw [if_pos c1, decide_eq_true c1, Option.bind_some]
 cases allOf dirs a
 ·rfl
 rw [if_pos rfl, Option.bind_some]
 cases decide (1 ≤ n ∧ n ≤ 3)
 ·rfl
 rw [if_pos rfl]
 by_cases c3 : a.toList = []
 ·rw [if_pos c3, if_pos c3]; rfl
 ·rw [if_neg c3, if_neg c3]; rfl
def mvTx (a : ByteArray) (n : Int) : ByteArray := if a.toList = [] then ⟨#[45]⟩ else if n = 1 then a else (a ++ ⟨#[42]⟩) ++ dg n
theorem mv_texts {a : ByteArray} {n : Int} (h : isMv a n = true) : spec_mvText.F a n = some (mvTx a n) ∧ impl_Move_text.f a n = some (mvTx a n) ∧ (mvTx a n).size ≤ 8 := by
 unfold isMv at h
 simp only [Bool.and_eq_true, decide_eq_true_eq] at h
 obtain ⟨h1, _, h3, _⟩ := h
 rw [spec_mvText.F_eq]
 unfold impl_Move_text.f mvTx
 have one : ((⟨#[42]⟩ : ByteArray)).size = 1 := rfl
 have onb : ((⟨#[45]⟩ : ByteArray)).size = 1 := rfl
 by_cases c3 : a.toList = []
 ·rw [if_pos c3, if_pos c3, if_pos c3]; exact ⟨rfl, rfl, by omega⟩
 rw [if_neg c3, if_neg c3, if_neg c3]
 by_cases c4 : n = 1
 ·rw [if_pos c4, if_pos c4, if_neg (by omega)]; exact ⟨rfl, rfl, by omega⟩
 have h9 : 0 ≤ n ∧ n ≤ 9 := by omega
 have hd := dg_size h9
 have hsz : (a ++ (⟨#[42]⟩ : ByteArray)).size = a.size + 1 := by rw [ByteArray.size_append]; rfl
 have k1 : n > 1 := by omega
 have k2 : a.size + 1 ≤ 9223372036854775807 := by omega
 have k3 : (a ++ (⟨#[42]⟩ : ByteArray)).size + (dg n).size ≤ 9223372036854775807 := by omega
 simp only [c4, k1, k2, k3, if_false, if_true, dg_spec h9, dg_impl h9, Option.bind_some, true_and]
 rw [ByteArray.size_append]; omega



theorem l1In_some (a b c : Int) : spec_l1In.f a b c = some (decide (b ≤ a ∧ a ≤ c)) := by
 unfold spec_l1In.f
 by_cases h : a ≥ b
 ·rw [if_pos h]; congr 1; simp; omega
 ·rw [if_neg h]; congr 1; symm; simp; omega

/-! ### Texts cut and read -/
theorem cut_data (s : ByteArray) (a b : Nat) : (s.extract a b).data.toList = (s.data.toList.drop a).take (b - a) := by
 simp [List.take_drop]
def mkB (l : List UInt8) : ByteArray := ⟨l.toArray⟩
theorem mkB_data (s : ByteArray) : mkB s.data.toList = s := by
 obtain ⟨⟨l⟩⟩ := s; rfl
theorem data_mkB (l : List UInt8) : (mkB l).data.toList = l := rfl
theorem mkB_size (l : List UInt8) : (mkB l).size = l.length := by simp [mkB, ByteArray.size]
theorem data_inj {s t : ByteArray} (h : s.data.toList = t.data.toList) : s = t := by
 rw [← mkB_data s, ← mkB_data t, h]
theorem mkB_inj {l m : List UInt8} (h : mkB l = mkB m) : l = m := by
 rw [← data_mkB l, h, data_mkB]
theorem cut_mkB (s : ByteArray) (a b : Nat) : s.extract a b = mkB ((s.data.toList.drop a).take (b - a)) := data_inj (by rw [cut_data, data_mkB])
/-- The parts between a byte. -/
def splitFrom (b : UInt8) (cur : List UInt8) : List UInt8 → List (List UInt8)
 | [] => [cur]
 | c :: t => if c = b then cur :: splitFrom b [] t else splitFrom b (cur ++ [c]) t
theorem split_cons (b : UInt8) (cur : List UInt8) (c : UInt8) (t : List UInt8) : splitFrom b cur (c :: t) = if c = b then cur :: splitFrom b [] t else splitFrom b (cur ++ [c]) t := rfl
theorem split_none (b : UInt8) : ∀ (xs cur : List UInt8), b ∉ xs → splitFrom b cur xs = [cur ++ xs]
 | [], cur, _ => by simp [splitFrom]
 | c :: t, cur, h => by
  simp only [List.mem_cons, not_or] at h
  rw [split_cons, if_neg (fun e => h.1 e.symm), split_none b t _ h.2]; simp
theorem split_app (b : UInt8) : ∀ (p cur t : List UInt8), b ∉ p → splitFrom b cur (p ++ b :: t) = (cur ++ p) :: splitFrom b [] t
 | [], cur, t, _ => by rw [List.nil_append, split_cons, if_pos rfl, List.append_nil]
 | c :: p, cur, t, h => by
  simp only [List.mem_cons, not_or] at h
  rw [List.cons_append, split_cons, if_neg (fun e => h.1 e.symm), split_app b p _ t h.2]; simp
theorem split_ne (b : UInt8) : ∀ (xs cur : List UInt8), splitFrom b cur xs ≠ []
 | [], cur => by simp [splitFrom]
 | c :: t, cur => by
  rw [split_cons]
  split
  ·simp
  ·exact split_ne b t _
theorem split_one (b : UInt8) : ∀ (xs cur p : List UInt8), splitFrom b cur xs = [p] → p = cur ++ xs ∧ b ∉ xs
 | [], cur, p, h => by
  simp only [splitFrom, List.cons.injEq, and_true] at h
  simp [h]
 | c :: t, cur, p, h => by
  rw [split_cons] at h
  split at h
  ·simp only [List.cons.injEq] at h
   exact absurd h.2 (split_ne b t [])
  ·rename_i hc
   obtain ⟨h1, h2⟩ := split_one b t _ p h
   refine ⟨by rw [h1]; simp, ?_⟩
   simp only [List.mem_cons, not_or]
   exact ⟨fun e => hc e.symm, h2⟩
theorem split_more (b : UInt8) : ∀ (xs cur p : List UInt8) (ps : List (List UInt8)), splitFrom b cur xs = p :: ps → ps ≠ [] → ∃ r t, p = cur ++ r ∧ b ∉ r ∧ xs = r ++ b :: t ∧ splitFrom b [] t = ps
 | [], cur, p, ps, h, hp => by
  simp only [splitFrom, List.cons.injEq] at h
  exact absurd h.2.symm hp
 | c :: t, cur, p, ps, h, hp => by
  rw [split_cons] at h
  split at h
  ·rename_i hc
   simp only [List.cons.injEq] at h
   exact ⟨[], t, by simp [h.1], by simp, by simp [hc], h.2⟩
  ·rename_i hc
   obtain ⟨r, u, h1, h2, h3, h4⟩ := split_more b t _ p ps h hp
   refine ⟨c :: r, u, by rw [h1]; simp, ?_, by rw [h3]; rfl, h4⟩
   simp only [List.mem_cons, not_or]
   exact ⟨fun e => hc e.symm, h2⟩
theorem split_count (b : UInt8) : ∀ (xs cur : List UInt8), (splitFrom b cur xs).length ≤ xs.length + 1
 | [], cur => by simp [splitFrom]
 | c :: t, cur => by
  rw [split_cons]
  split
  ·have := split_count b t []
   simp only [List.length_cons]; omega
  ·have := split_count b t (cur ++ [c])
   simp only [List.length_cons]; omega
theorem split_some (s : ByteArray) (b : UInt8) (hs : s.size ≤ 1048576) : spec_l1Split.F s (b.toNat : Int) = some ((splitFrom b [] s.data.toList).map mkB) := by
 rw [spec_l1Split.F_eq]
 have hn := size_data s
 have key : ∀ (t : List UInt8) (i fr : Nat) (acc : List ByteArray), s.data.toList.drop i = t → fr ≤ i → i ≤ s.size → acc.length ≤ i → spec_l1Split.L0 s (b.toNat : Int) acc (fr : Int) (i : Int) = some (acc ++ (splitFrom b ((s.data.toList.drop fr).take (i - fr)) t).map mkB) := by
  intro t
  induction t with
  | nil =>
   intro i fr acc hd hf hi ha
   have : s.data.toList.length ≤ i := by simpa [List.drop_eq_nil_iff] using hd
   obtain rfl : i = s.size := by omega
   rw [spec_l1Split.L0_eq, if_neg (by omega), if_pos (by omega), if_pos (by omega), if_pos (by omega), Int.toNat_natCast, cut_mkB]
   rfl
  | cons c t ih =>
   intro i fr acc hd hf hi ha
   have hlt : i < s.data.toList.length := by
    rcases Nat.lt_or_ge i s.data.toList.length with h' | h'
    ·exact h'
    ·rw [List.drop_eq_nil_of_le h'] at hd; cases hd
   have h2 := List.drop_eq_getElem_cons hlt
   rw [hd] at h2
   injection h2 with h3 h4
   have hb : bt s (i : Int) = (c.toNat : Int) := by
    rw [bt_data s i (by omega), List.getD_eq_getElem?_getD, List.getElem?_eq_getElem hlt, ← h3]
    rfl
   rw [spec_l1Split.L0_eq, if_pos (by omega), if_pos (by omega), hb, wrap_in (x := (i : Int) + 1) (by omega) (by omega), split_cons]
   have hi1 : ((i : Int) + 1) = ((i + 1 : Nat) : Int) := by omega
   by_cases hc : c = b
   ·subst hc
    rw [if_pos rfl, if_pos (by omega), if_pos (by omega), if_pos (by omega), if_pos (by omega), if_pos rfl, hi1, ih (i + 1) (i + 1) _ h4.symm (by omega) (by omega) (by simp; omega), Int.toNat_natCast, Int.toNat_natCast, cut_mkB]
    simp
   ·have hne : ¬ ((c.toNat : Int) = (b.toNat : Int)) := fun e => hc (UInt8.toNat_inj.1 (by omega))
    rw [if_neg hne, if_neg hc, hi1, ih (i + 1) fr acc h4.symm (by omega) (by omega) (by omega)]
    congr 4
    rw [show i + 1 - fr = (i - fr) + 1 from by omega, List.take_add_one]
    congr 1
    rw [List.getElem?_drop, show fr + (i - fr) = i from by omega, List.getElem?_eq_getElem hlt, ← h3]
    rfl
 have := key s.data.toList 0 0 [] rfl (by omega) (by omega) (by simp)
 simpa using this
/-! ### Numbers read -/
def dig (c : UInt8) : Bool := decide (48 ≤ c.toNat ∧ c.toNat ≤ 57)
def valF (n : Nat) (l : List UInt8) : Nat := l.foldl (fun n c => 10 * n + (c.toNat - 48)) n
/-- A canonical decimal number of at most six digits, or -1. -/
def readV (l : List UInt8) : Int := if (1 ≤ l.length ∧ l.length ≤ 6) ∧ l.all dig = true ∧ (l.length > 1 → l.head? ≠ some 48) then (valF 0 l : Int) else -1
theorem read_loop (s : ByteArray) (hs : s.size ≤ 6) : spec_l1Read.L0 s 0 0 = some (if s.data.toList.all dig = true then (valF 0 s.data.toList : Int) else -1) := by
 have hn := size_data s
 refine each (L := fun i => fun n => spec_l1Read.L0 s n i) s.data.toList 0 (fun i t f => ∀ n : Nat, n < 10 ^ i → i + t.length ≤ 6 → f (n : Int) = some (if t.all dig = true then (valF n t : Int) else -1)) ?_ ?_ 0 (by decide) (by omega)
 ·intro n h1 h2
  show spec_l1Read.L0 s _ _ = _
  rw [spec_l1Read.L0_eq, if_neg (by omega)]; rfl
 ·intro i c t hi hc _ _ ih n h1 h2
  show spec_l1Read.L0 s _ _ = _
  have hb : bt s (i : Int) = (c.toNat : Int) := by rw [bt_data s i (by omega), hc]
  have h10 : (10 : Nat) ^ i ≤ 10 ^ 6 := Nat.pow_le_pow_right (by omega) (by omega)
  simp only [List.length_cons] at h2
  rw [spec_l1Read.L0_eq, if_pos (by omega), if_pos (by omega), hb]
  by_cases c1 : (c.toNat : Int) < 48
  ·have : dig c = false := by unfold dig; simp; omega
   rw [if_pos c1]; simp [this]
  rw [if_neg c1]
  by_cases c2 : (c.toNat : Int) > 57
  ·have : dig c = false := by unfold dig; simp; omega
   rw [if_pos c2]; simp [this]
  have hd : dig c = true := by unfold dig; simp; omega
  rw [if_neg c2, wrap_in (x := 10 * (n : Int)) (by omega) (by omega), wrap_in (x := (i : Int) + 1) (by omega) (by omega)]
  have e : (10 * (n : Int) + ((c.toNat : Int) - 48) % 256) = ((10 * n + (c.toNat - 48) : Nat) : Int) := by omega
  rw [wrap_in (by omega) (by omega), e]
  refine (ih (10 * n + (c.toNat - 48)) (by rw [Nat.pow_succ]; omega) (by omega)).trans ?_
  simp [hd, valF]
theorem read_some (s : ByteArray) (hs : s.size ≤ 1048576) : spec_l1Read.F s = some (readV s.data.toList) := by
 have hn := size_data s
 rw [spec_l1Read.F_eq, l1In_some, Option.bind_some]
 unfold readV
 rw [← hn]
 by_cases h : 1 ≤ s.size ∧ s.size ≤ 6
 case neg =>
  rw [if_neg (by simp; omega), spec_l1Read.J0_eq, if_pos rfl, if_neg (fun q => h q.1)]
 rw [if_pos (by simp; omega), if_pos (by omega)]
 have hh : bt s 0 = ((s.data.toList.getD 0 0).toNat : Int) := bt_data s 0 (by omega)
 have hd : s.data.toList.head? = some (s.data.toList.getD 0 0) := by
  cases he : s.data.toList with
  | nil => rw [he] at hn; have : s.size = 0 := hn; omega
  | cons x t => rfl
 have hz : (bt s 0 = 48) ↔ s.data.toList.head? = some 48 := by
  rw [hh, hd]
  constructor
  ·intro q
   congr 1
   exact UInt8.toNat_inj.1 (by rw [show (48 : UInt8).toNat = 48 from rfl]; omega)
  ·intro q
   rw [Option.some.inj q]; rfl
 have hl := read_loop s h.2
 by_cases c : bt s 0 = 48
 ·rw [if_pos c]
  by_cases c2 : (s.size : Int) > 1
  ·rw [decide_eq_true c2, spec_l1Read.J0_eq, if_pos rfl, if_neg]
   rintro ⟨_, _, q⟩
   exact q (by omega) (hz.1 c)
  ·rw [decide_eq_false c2, spec_l1Read.J0_eq, if_neg (by simp), hl]
   congr 1
   by_cases a : s.data.toList.all dig = true
   ·rw [if_pos a, if_pos ⟨h, a, fun q => absurd q (by omega)⟩]
   ·rw [if_neg a, if_neg (fun q => a q.2.1)]
 ·rw [if_neg c, spec_l1Read.J0_eq, if_neg (by simp), hl]
  congr 1
  by_cases a : s.data.toList.all dig = true
  ·rw [if_pos a, if_pos ⟨h, a, fun _ q => c (hz.2 q)⟩]
  ·rw [if_neg a, if_neg (fun q => a q.2.1)]
theorem head_app {l m : List UInt8} (h : l ≠ []) : (l ++ m).head? = l.head? := by
 cases l with
 | nil => exact absurd rfl h
 | cons a l => rfl
theorem val_snoc (l : List UInt8) (c : UInt8) (n : Nat) : valF n (l ++ [c]) = 10 * valF n l + (c.toNat - 48) := by
 simp [valF]
theorem dig_back {c : UInt8} (h : dig c = true) : UInt8.ofNat (48 + (c.toNat - 48)) = c := by
 unfold dig at h
 simp only [decide_eq_true_eq] at h
 rw [show 48 + (c.toNat - 48) = c.toNat from by omega]
 simp
/-- What is read canonically is the number's text. -/
theorem val_back (l : List UInt8) : l ≠ [] → l.all dig = true → (l.length > 1 → l.head? ≠ some 48) → Lib.decDigits (valF 0 l) = l ∧ (l.head? ≠ some 48 → 1 ≤ valF 0 l) := by
 have key : ∀ (n : Nat) (l : List UInt8), l.length = n → l ≠ [] → l.all dig = true → (l.length > 1 → l.head? ≠ some 48) → Lib.decDigits (valF 0 l) = l ∧ (l.head? ≠ some 48 → 1 ≤ valF 0 l) := by
  intro n
  induction n with
  | zero => intro l hn hl; exact absurd (List.eq_nil_of_length_eq_zero hn) hl
  | succ n ih =>
   intro l hn hl ha hh
   obtain ⟨m, c, rfl⟩ : ∃ m c, l = m ++ [c] := ⟨l.dropLast, l.getLast hl, (List.dropLast_concat_getLast hl).symm⟩
   simp only [List.length_append, List.length_cons, List.length_nil] at hn
   simp only [List.all_append, List.all_cons, List.all_nil, Bool.and_true, Bool.and_eq_true] at ha
   have hc := ha.2
   have hc2 := hc
   unfold dig at hc2
   simp only [decide_eq_true_eq] at hc2
   rw [val_snoc]
   by_cases hm : m = []
   ·subst hm
    simp only [List.nil_append]
    have e : valF 0 [] = 0 := rfl
    rw [e, Nat.mul_zero, Nat.zero_add, Lib.decDigits_one (by omega), dig_back hc]
    refine ⟨rfl, fun q => ?_⟩
    rcases Nat.lt_or_ge 48 c.toNat with h | h
    ·omega
    ·exfalso
     apply q
     simp only [List.head?_cons]
     congr 1
     exact UInt8.toNat_inj.1 (by rw [show (48 : UInt8).toNat = 48 from rfl]; omega)
   ·have hp : 0 < m.length := List.length_pos_iff.2 hm
    have h0 : m.head? ≠ some 48 := by
     have := hh (by simp; omega)
     rwa [head_app hm] at this
    obtain ⟨i1, i2⟩ := ih m (by omega) hm ha.1 (fun _ => h0)
    have i3 := i2 h0
    have e1 : (10 * valF 0 m + (c.toNat - 48)) / 10 = valF 0 m := by omega
    have e2 : (10 * valF 0 m + (c.toNat - 48)) % 10 = c.toNat - 48 := by omega
    refine ⟨?_, fun _ => by omega⟩
    rw [Lib.decDigits, dif_neg (by omega), e1, e2, i1, dig_back hc]
 exact key l.length l rfl
theorem ofNat_dig {n : Nat} (h : n < 10) : dig (UInt8.ofNat (48 + n)) = true ∧ (UInt8.ofNat (48 + n)).toNat = 48 + n := by
 have : (UInt8.ofNat (48 + n)).toNat = 48 + n := by rw [UInt8.toNat_ofNat']; omega
 refine ⟨?_, this⟩
 unfold dig
 rw [this]
 simp
 omega
theorem dec_facts (n : Nat) : (Lib.decDigits n).all dig = true ∧ valF 0 (Lib.decDigits n) = n ∧ Lib.decDigits n ≠ [] ∧ (1 ≤ n → (Lib.decDigits n).head? ≠ some 48) ∧ ((Lib.decDigits n).length > 1 → 1 ≤ n) := by
 induction n using Nat.strongRecOn with
 | ind n ih =>
  by_cases c : n < 10
  ·obtain ⟨d1, d2⟩ := ofNat_dig c
   rw [Lib.decDigits_one c]
   refine ⟨by rw [List.all_cons, List.all_nil, d1]; rfl, by rw [show valF 0 [UInt8.ofNat (48 + n)] = 10 * 0 + ((UInt8.ofNat (48 + n)).toNat - 48) from rfl, d2]; omega, by simp, fun h q => ?_, fun h => by simp at h⟩
   simp only [List.head?_cons, Option.some.injEq] at q
   have := congrArg UInt8.toNat q
   rw [d2] at this
   simp at this
   omega
  ·obtain ⟨i1, i2, i3, i4, i5⟩ := ih (n / 10) (by omega)
   obtain ⟨d1, d2⟩ := ofNat_dig (n := n % 10) (by omega)
   have e : Lib.decDigits n = Lib.decDigits (n / 10) ++ [UInt8.ofNat (48 + n % 10)] := by rw [Lib.decDigits, dif_neg c]
   rw [e, val_snoc, i2, d2]
   refine ⟨by rw [List.all_append, i1, List.all_cons, List.all_nil, d1]; rfl, by omega, by simp, fun _ => ?_, fun _ => by omega⟩
   rw [head_app i3]
   exact i4 (by omega)
theorem dec_len (k : Nat) : ∀ n : Nat, n < 10 ^ (k + 1) → (Lib.decDigits n).length ≤ k + 1 := by
 induction k with
 | zero => intro n hn; rw [Lib.decDigits_one (by simpa using hn)]; simp
 | succ k ih =>
  intro n hn
  by_cases c : n < 10
  ·rw [Lib.decDigits_one c]; simp
  ·have := ih (n / 10) (by rw [Nat.pow_succ] at hn; omega)
   rw [Lib.decDigits, dif_neg c, List.length_append]
   simp only [List.length_cons, List.length_nil]
   omega
theorem read_dec {n : Nat} (h : n < 1000000) : readV (Lib.decDigits n) = n := by
 obtain ⟨h1, h2, h3, h4, h5⟩ := dec_facts n
 have hl := dec_len 5 n (by simpa using h)
 have hp : 0 < (Lib.decDigits n).length := List.length_pos_iff.2 h3
 unfold readV
 rw [if_pos ⟨⟨by omega, hl⟩, h1, fun q => h4 (h5 q)⟩, h2]
theorem read_back {l : List UInt8} (h : 0 ≤ readV l) : l = Lib.decDigits (readV l).toNat ∧ readV l < 1000000 := by
 unfold readV at h ⊢
 split at h
 case isFalse => omega
 case isTrue q =>
  have hne : l ≠ [] := fun e => by subst e; simp at q
  have := (val_back l hne q.2.1 q.2.2).1
  rw [if_pos q, Int.toNat_natCast, this]
  refine ⟨rfl, ?_⟩
  have bound : ∀ (t : List UInt8) (n i : Nat), n < 10 ^ i → t.all dig = true → valF n t < 10 ^ (i + t.length) := by
   intro t
   induction t with
   | nil => intro n i hn _; simpa [valF] using hn
   | cons c t ih =>
    intro n i hn ha
    simp only [List.all_cons, Bool.and_eq_true] at ha
    have hc := ha.1
    unfold dig at hc
    simp only [decide_eq_true_eq] at hc
    have := ih (10 * n + (c.toNat - 48)) (i + 1) (by rw [Nat.pow_succ]; omega) ha.2
    rw [List.length_cons, show i + (t.length + 1) = i + 1 + t.length from by omega]
    exact this
  have b := bound l 0 0 (by decide) q.2.1
  have : (10 : Nat) ^ (0 + l.length) ≤ 10 ^ 6 := Nat.pow_le_pow_right (by omega) (by omega)
  have e : (10 : Nat) ^ 6 = 1000000 := rfl
  omega

/-! ### Texts cut at a byte -/
theorem idx_none (c : UInt8) : ∀ l : List UInt8, c ∉ l → Lib.indexByte l c = -1
 | [], _ => rfl
 | b :: l, h => by
  simp only [List.mem_cons, not_or] at h
  have hb : (b == c) = false := by simpa using fun e : b = c => h.1 e.symm
  rw [Lib.indexByte, hb, idx_none c l h.2]; rfl
theorem idx_at (c : UInt8) (t : List UInt8) : ∀ p : List UInt8, c ∉ p → Lib.indexByte (p ++ c :: t) c = p.length
 | [], _ => by simp [Lib.indexByte]
 | b :: p, h => by
  simp only [List.mem_cons, not_or] at h
  have hb : (b == c) = false := by simpa using fun e : b = c => h.1 e.symm
  have hn : (((p.length : Int)) == -1) = false := by
   rw [beq_eq_false_iff_ne]; omega
  rw [List.cons_append, Lib.indexByte, hb, idx_at c t p h.2, hn]
  simp
theorem cut_none (s : ByteArray) (c : UInt8) (h : c ∉ s.data.toList) : strings_Cut.f s ⟨#[c]⟩ = some (s, ⟨#[]⟩, false) := by
 unfold strings_Cut.f stringslite_Cut.f stringslite_Index.f
 rw [if_pos (show (⟨#[c]⟩ : ByteArray).size = 1 from rfl), show (⟨#[c]⟩ : ByteArray).data.toList.getD 0 0 = c from rfl, idx_none c _ h]
 rfl
theorem cut_at (s : ByteArray) (c : UInt8) (p t : List UInt8) (hs : s.size ≤ 4611686018427387904) (h : s.data.toList = p ++ c :: t) (hp : c ∉ p) : strings_Cut.f s ⟨#[c]⟩ = some (mkB p, mkB t, true) := by
 have hn := size_data s
 have hl : s.data.toList.length = p.length + (t.length + 1) := by rw [h]; simp
 unfold strings_Cut.f stringslite_Cut.f stringslite_Index.f
 have one : (⟨#[c]⟩ : ByteArray).size = 1 := rfl
 rw [if_pos one, show (⟨#[c]⟩ : ByteArray).data.toList.getD 0 0 = c from rfl, h, idx_at c t p hp, one]
 simp only [Option.bind_some]
 have e1 : ((p.length : Int)) + ((1 : Nat) : Int) = ((p.length + 1 : Nat) : Int) := by omega
 rw [if_pos (by omega), if_pos (by omega), if_pos (by omega), e1, wrap_in (by omega) (by omega), if_pos (by omega), if_pos (by omega), Int.toNat_natCast, Int.toNat_natCast, cut_mkB, cut_mkB, h]
 have e2 : ((p ++ c :: t).drop 0).take (p.length - 0) = p := by simp
 have e3 : ((p ++ c :: t).drop (p.length + 1)).take (s.size - (p.length + 1)) = t := by
  rw [← List.drop_drop, List.drop_left, List.drop_succ_cons, List.drop_zero]
  exact List.take_of_length_le (by omega)
 rw [e2, e3]
 rfl
/-- Where a byte is first. -/
theorem first_at (c : UInt8) : ∀ l : List UInt8, c ∈ l → ∃ p t, l = p ++ c :: t ∧ c ∉ p
 | [], h => by cases h
 | b :: l, h => by
  by_cases hb : b = c
  ·exact ⟨[], l, by rw [hb]; rfl, by simp⟩
  ·obtain ⟨p, t, h1, h2⟩ := first_at c l (by
    rcases List.mem_cons.1 h with h | h
    ·exact absurd h.symm hb
    ·exact h)
   exact ⟨b :: p, t, by rw [h1]; rfl, by simp only [List.mem_cons, not_or]; exact ⟨fun e => hb e.symm, h2⟩⟩

/-! ### Movements read -/
def mvEnd (s p : ByteArray) (n : Int) : ByteArray × Int × Bool := if isMv p n = true ∧ (mvTx p n).toList = s.toList then (p, n, true) else (⟨#[]⟩, 0, false)
theorem specEnd (s : ByteArray) (w : List ByteArray) (p : ByteArray) (n : Int) (hw : w.length ≤ 2) (hp : p.size ≤ 9223372036854775807) : spec_mvParse.J1 s w p n = some (mvEnd s p n) := by
 rw [spec_mvParse.J1_eq, if_neg (by omega), mvGood_some p n hp, Option.bind_some]
 unfold mvEnd
 cases h : isMv p n
 ·simp
 ·rw [if_pos rfl, (mv_texts h).1, Option.bind_some]
  by_cases h2 : (mvTx p n).toList = s.toList
  ·rw [if_pos h2, if_pos ⟨rfl, h2⟩]
  ·rw [if_neg h2, if_neg (fun hh => h2 hh.2)]
theorem implEnd (s p : ByteArray) (n : Int) (hp : p.size ≤ 9223372036854775807) : impl_ParseMove.J1 s p n = some (mvEnd s p n) := by
 rw [impl_ParseMove.J1_eq, isMove_some p n hp, Option.bind_some]
 unfold mvEnd
 cases h : isMv p n
 ·simp
 ·rw [if_pos rfl, (mv_texts h).2.1, Option.bind_some]
  by_cases h2 : (mvTx p n).toList = s.toList
  ·rw [if_pos h2, if_pos ⟨rfl, h2⟩]
  ·rw [if_neg h2, if_neg (fun hh => h2 hh.2)]
/-- A text that is made with a star. -/
theorem mv_star {p : ByteArray} {n : Int} (h : isMv p n = true) {s : ByteArray} {a t : List UInt8} (hs : s.data.toList = a ++ 42 :: t) (ha : 42 ∉ a) (ht : (mvTx p n).toList = s.toList) : t = (dg n).data.toList ∧ 0 ≤ n ∧ n ≤ 9 := by
 unfold isMv at h
 simp only [Bool.and_eq_true, decide_eq_true_eq] at h
 obtain ⟨h1, h2, h3, _⟩ := h
 have h9 : 0 ≤ n ∧ n ≤ 9 := by omega
 have hno : (42 : UInt8) ∉ p.data.toList := by
  intro hm
  have := List.all_eq_true.1 h2 _ hm
  exact absurd this (by decide)
 refine ⟨?_, h9⟩
 rw [toList_data, toList_data, hs] at ht
 unfold mvTx at ht
 by_cases c3 : p.toList = []
 ·rw [if_pos c3] at ht
  have : (42 : UInt8) ∈ (⟨#[45]⟩ : ByteArray).data.toList := by rw [ht]; simp
  exact absurd this (by decide)
 rw [if_neg c3] at ht
 by_cases c4 : n = 1
 ·rw [if_pos c4] at ht
  exact absurd (show (42 : UInt8) ∈ p.data.toList by rw [ht]; simp) hno
 rw [if_neg c4] at ht
 have e : ((p ++ (⟨#[42]⟩ : ByteArray)) ++ dg n).data.toList = p.data.toList ++ 42 :: (dg n).data.toList := by simp
 rw [e] at ht
 have k1 := split_app 42 p.data.toList [] (dg n).data.toList hno
 have k2 := split_app 42 a [] t ha
 have k3 := idx_at 42 (dg n).data.toList p.data.toList hno
 have k4 := idx_at 42 t a ha
 rw [ht, k4] at k3
 have hlen : a.length = p.data.toList.length := by omega
 have := congrArg (List.drop (a.length + 1)) ht
 rw [← List.drop_drop, ← List.drop_drop, List.drop_left, hlen, List.drop_left] at this
 simpa using this.symm
theorem dg_data {n : Int} (h : 0 ≤ n ∧ n ≤ 9) : (dg n).data.toList = [UInt8.ofNat (48 + n.toNat)] := by rw [dg_eq h]
theorem ten {n : Int} (h : 0 ≤ n ∧ n ≤ 9) : n = 0 ∨ n = 1 ∨ n = 2 ∨ n = 3 ∨ n = 4 ∨ n = 5 ∨ n = 6 ∨ n = 7 ∨ n = 8 ∨ n = 9 := by omega
theorem dg_decimal {n : Int} (h : 0 ≤ n ∧ n ≤ 9) (t : List UInt8) (ht : t = (dg n).data.toList) : impl_decimal.f (mkB t) = some (n, true) ∧ readV t = n := by
 rw [dg_data h] at ht
 subst ht
 rcases ten h with rfl | rfl | rfl | rfl | rfl | rfl | rfl | rfl | rfl | rfl <;> exact ⟨by kernel_rfl, by decide +kernel⟩
theorem dec_some (t : ByteArray) (h : t.size ≤ 281474976710656) : ∃ v b, impl_decimal.f t = some (v, b) := by
 unfold impl_decimal.f
 rw [if_pos h]
 exact ⟨_, _, rfl⟩
theorem mvParse_same (s : ByteArray) (hs : s.size ≤ 1048576) : ∃ R, spec_mvParse.F s = some R ∧ impl_ParseMove.F s = some R := by
 have hn := size_data s
 rw [spec_mvParse.F_eq, impl_ParseMove.F_eq, show (42 : Int) = (((42 : UInt8).toNat : Nat) : Int) from rfl, split_some s 42 hs, Option.bind_some]
 by_cases hm : (42 : UInt8) ∈ s.data.toList
 ·obtain ⟨p, t, hp, hno⟩ := first_at 42 _ hm
  have hlen : s.data.toList.length = p.length + (t.length + 1) := by rw [hp]; simp
  have hd : ¬ s.toList = [45] := by
   intro e
   rw [toList_data] at e
   rw [e] at hm
   exact absurd hm (by decide)
  have hpz : (mkB p).size ≤ 9223372036854775807 := by rw [mkB_size]; omega
  have htz : (mkB t).size ≤ 1048576 := by rw [mkB_size]; omega
  obtain ⟨v, b, hv⟩ := dec_some (mkB t) (by omega)
  have hsp : splitFrom 42 [] s.data.toList = p :: splitFrom 42 [] t := by rw [hp, split_app 42 p [] t hno]; rfl
  rw [cut_at s 42 p t (by omega) hp hno, Option.bind_some, hsp]
  simp only [if_true, hv, Option.bind_some, List.map_cons]
  rw [if_pos (by simp), if_neg hd, impl_ParseMove.J0_eq, if_neg hd, implEnd s _ _ hpz, show rdOf ByteArray.empty (mkB p :: (splitFrom 42 [] t).map mkB) 0 = mkB p from rfl]
  by_cases h2 : (42 : UInt8) ∈ t
  ·-- more than one star
   obtain ⟨q, u, hq, hqn⟩ := first_at 42 _ h2
   have h3 : splitFrom 42 [] t = q :: splitFrom 42 [] u := by rw [hq, split_app 42 q [] u hqn]; rfl
   have h4 : 1 ≤ (splitFrom 42 [] u).length := List.length_pos_iff.2 (split_ne 42 u [])
   rw [h3, spec_mvParse.J0_eq, if_neg (by simp; omega), spec_mvParse.J1_eq, if_pos (by simp; omega)]
   refine ⟨_, rfl, ?_⟩
   unfold mvEnd
   rw [if_neg]
   rintro ⟨g1, g2⟩
   obtain ⟨g3, g4⟩ := mv_star g1 hp hno g2
   rw [g3, dg_data g4] at h2
   rcases ten g4 with rfl | rfl | rfl | rfl | rfl | rfl | rfl | rfl | rfl | rfl <;> exact absurd h2 (by decide)
  ·rw [split_none 42 t [] h2, List.nil_append, List.map_cons, List.map_nil, spec_mvParse.J0_eq, if_pos (by simp), if_pos (by simp), show rdOf ByteArray.empty [mkB p, mkB t] 1 = mkB t from rfl, read_some _ htz, data_mkB, Option.bind_some, specEnd s _ _ _ (by simp) hpz]
   refine ⟨_, rfl, ?_⟩
   congr 1
   have key : ∀ n : Int, isMv (mkB p) n = true → (mvTx (mkB p) n).toList = s.toList → v = n ∧ readV t = n := by
    intro n g1 g2
    obtain ⟨g3, g4⟩ := mv_star g1 hp hno g2
    obtain ⟨k1, k2⟩ := dg_decimal g4 t g3
    rw [hv] at k1
    simp only [Option.some.injEq, Prod.mk.injEq] at k1
    exact ⟨k1.1, k2⟩
   unfold mvEnd
   by_cases c1 : isMv (mkB p) v = true ∧ (mvTx (mkB p) v).toList = s.toList
   ·obtain ⟨_, k2⟩ := key v c1.1 c1.2
    rw [k2]
   ·rw [if_neg c1]
    by_cases c2 : isMv (mkB p) (readV t) = true ∧ (mvTx (mkB p) (readV t)).toList = s.toList
    ·obtain ⟨k1, _⟩ := key _ c2.1 c2.2
     rw [← k1] at c2
     exact absurd c2 c1
    ·rw [if_neg c2]
 ·rw [split_none 42 _ [] hm, List.nil_append, List.map_cons, List.map_nil, mkB_data, cut_none s 42 hm, Option.bind_some, if_pos (by simp)]
  simp only [Bool.false_eq_true, if_false]
  have one : ¬ (([s].length : Int) = 2) := by simp
  rw [impl_ParseMove.J0_eq]
  by_cases hd : s.toList = [45]
  ·rw [if_pos hd, if_pos hd, spec_mvParse.J0_eq, if_neg one, specEnd s _ _ _ (by simp) (by decide), implEnd s _ _ (by decide)]
   exact ⟨_, rfl, rfl⟩
  ·rw [if_neg hd, if_neg hd, spec_mvParse.J0_eq, if_neg one, show rdOf ByteArray.empty [s] 0 = s from rfl, specEnd s _ _ _ (by simp) (by omega), implEnd s _ _ (by omega)]
   exact ⟨_, rfl, rfl⟩



/-! ### The library's split at one byte -/
theorem cut_to (p t : List UInt8) (c : UInt8) (s : ByteArray) (h : s.data.toList = p ++ c :: t) : s.extract 0 (p.length + 0) = mkB p ∧ s.extract (p.length + 1) s.size = mkB t := by
 have hn := size_data s
 have hl : s.data.toList.length = p.length + (t.length + 1) := by rw [h]; simp
 refine ⟨?_, ?_⟩
 ·rw [cut_mkB, h]
  congr 1
  simp
 ·rw [cut_mkB, h]
  congr 1
  rw [show p ++ c :: t = (p ++ [c]) ++ t by simp, List.drop_left' (by simp), List.take_of_length_le (by omega)]
theorem lib_split (c : UInt8) : ∀ (n : Nat) (s : ByteArray), s.size ≤ n → Lib.splitB ⟨#[c]⟩ 0 (Lib.countB s ⟨#[c]⟩) s = (splitFrom c [] s.data.toList).map mkB := by
 intro n
 induction n with
 | zero =>
  intro s hs
  have hn := size_data s
  have h0 : s.data.toList = [] := List.length_eq_zero_iff.1 (by omega)
  rw [Lib.countB_miss s ⟨#[c]⟩ (by show Lib.index s.data.toList [c] = -1; rw [Lib.index_one, h0]; rfl), Lib.splitB_zero, split_none c _ [] (by rw [h0]; simp), List.nil_append, List.map_cons, List.map_nil, mkB_data]
 | succ n ih =>
  intro s hs
  have hn := size_data s
  by_cases hm : c ∈ s.data.toList
  ·obtain ⟨p, t, hp, hno⟩ := first_at c _ hm
   have hl : s.data.toList.length = p.length + (t.length + 1) := by rw [hp]; simp
   have hix : Lib.indexB s ⟨#[c]⟩ = (p.length : Nat) := by
    show Lib.index s.data.toList [c] = _
    rw [Lib.index_one, hp, idx_at c t p hno]
   have hc := Lib.countB_hit s ⟨#[c]⟩ p.length (Nat.le_refl 1) hix
   have e := cut_to p t c s hp
   have e1 : s.extract (p.length + (⟨#[c]⟩ : ByteArray).size) s.size = mkB t := e.2
   rw [e1] at hc
   rw [hc, Nat.add_comm, Lib.splitB_hit _ _ _ _ p.length hix, e1, e.1, ih (mkB t) (by rw [mkB_size]; omega), data_mkB, hp, split_app c p [] t hno]
   rfl
  ·rw [Lib.countB_miss s ⟨#[c]⟩ (by show Lib.index s.data.toList [c] = -1; rw [Lib.index_one, idx_none c _ hm]), Lib.splitB_zero, split_none c _ [] hm, List.nil_append, List.map_cons, List.map_nil, mkB_data]
theorem split_impl (s : ByteArray) (c : UInt8) (hs : s.size ≤ 1048576) : strings_Split.f s ⟨#[c]⟩ = some ((splitFrom c [] s.data.toList).map mkB) := by
 unfold strings_Split.f
 rw [if_pos ⟨by omega, Nat.le_refl 1⟩, lib_split c s.size s (Nat.le_refl _)]
theorem split_four (b : UInt8) (xs p0 p1 p2 p3 : List UInt8) (h : splitFrom b [] xs = [p0, p1, p2, p3]) : xs = p0 ++ b :: (p1 ++ b :: (p2 ++ b :: p3)) := by
 obtain ⟨r0, t0, e0, _, x0, h0⟩ := split_more b xs [] p0 _ h (by simp)
 obtain ⟨r1, t1, e1, _, x1, h1⟩ := split_more b t0 [] p1 _ h0 (by simp)
 obtain ⟨r2, t2, e2, _, x2, h2⟩ := split_more b t1 [] p2 _ h1 (by simp)
 obtain ⟨e3, _⟩ := split_one b t2 [] p3 h2
 simp only [List.nil_append] at e0 e1 e2 e3
 rw [x0, x1, x2, e0, e1, e2, e3]

/-! ### Orientations read -/
def dirO : ByteArray := ⟨#[117, 100, 108, 114, 102, 98]⟩
theorem orLetter_some (b : UInt8) : spec_orLetter.F (b.toNat : Int) = some (Lib.indexByte dirO.data.toList b) := by
 have n1 : ∀ x : UInt8, ((x.toNat : Int) = (b.toNat : Int)) ↔ (x == b) = true := by
  intro x
  rw [beq_iff_eq]
  constructor
  ·intro h; exact UInt8.toNat_inj.1 (by omega)
  ·intro h; rw [h]
 have st : ∀ i : Nat, i < 6 → spec_orLetter.L0 (b.toNat : Int) (i : Int) = if (dirO.data.toList.getD i 0 == b) = true then some (i : Int) else spec_orLetter.L0 (b.toNat : Int) ((i + 1 : Nat) : Int) := by
  intro i hi
  have hz : dirO.size = 6 := rfl
  rw [spec_orLetter.L0_eq, if_pos (by omega), if_pos (by omega)]
  show (if bt dirO (i : Int) = (b.toNat : Int) then _ else _) = _
  rw [bt_data dirO i (by omega), wrap_in (x := (i : Int) + 1) (by omega) (by omega)]
  by_cases h : (dirO.data.toList.getD i 0 == b) = true
  ·rw [if_pos h, if_pos ((n1 _).2 h)]
  ·rw [if_neg h, if_neg (fun e => h ((n1 _).1 e))]; rfl
 have en : spec_orLetter.L0 (b.toNat : Int) ((6 : Nat) : Int) = some (-1) := by rw [spec_orLetter.L0_eq, if_neg (by decide)]
 rw [spec_orLetter.F_eq]
 have s0 := st 0 (by decide); have s1 := st 1 (by decide); have s2 := st 2 (by decide); have s3 := st 3 (by decide); have s4 := st 4 (by decide); have s5 := st 5 (by decide)
 show spec_orLetter.L0 (b.toNat : Int) ((0 : Nat) : Int) = _
 rw [s0, s1, s2, s3, s4, s5, en]
 show (if ((117 : UInt8) == b) = true then _ else if ((100 : UInt8) == b) = true then _ else if ((108 : UInt8) == b) = true then _ else if ((114 : UInt8) == b) = true then _ else if ((102 : UInt8) == b) = true then _ else if ((98 : UInt8) == b) = true then _ else _) = _
 show _ = some (Lib.indexByte [117, 100, 108, 114, 102, 98] b)
 cases h0 : ((117 : UInt8) == b) <;> cases h1 : ((100 : UInt8) == b) <;> cases h2 : ((108 : UInt8) == b) <;> cases h3 : ((114 : UInt8) == b) <;> cases h4 : ((102 : UInt8) == b) <;> cases h5 : ((98 : UInt8) == b) <;> simp [Lib.indexByte, h0, h1, h2, h3, h4, h5]
theorem letter_in {b : UInt8} (h : 0 ≤ Lib.indexByte dirO.data.toList b) : b ≠ 43 := by
 rintro rfl
 exact absurd h (by decide)
theorem byteIdx_some (s : ByteArray) (b : UInt8) : strings_IndexByte.f s (b.toNat : Int) = some (Lib.indexByte s.data.toList b) := by
 unfold strings_IndexByte.f stringslite_IndexByte.f
 rw [Option.bind_some]
 simp
theorem or_same (s : ByteArray) : ∃ R, spec_orParse.F s = some R ∧ impl_ParseOrient.f s = some R ∧ (R.2.2 = true → (43 : UInt8) ∉ s.data.toList) := by
 rw [spec_orParse.F_eq]
 unfold impl_ParseOrient.f
 have hn := size_data s
 by_cases h : (s.size : Int) = 2
 ·have h2 : s.size = 2 := by omega
  rw [if_pos h, if_pos h, if_pos (by omega), if_pos (by omega)]
  have b0 : bt s 0 = ((s.data.toList.getD 0 0).toNat : Int) := bt_data s 0 (by omega)
  have b1 : bt s 1 = ((s.data.toList.getD 1 0).toNat : Int) := bt_data s 1 (by omega)
  rw [b0, b1, orLetter_some, orLetter_some]
  show ∃ R, _ = some R ∧ (strings_IndexByte.f dirO _).bind _ = some R ∧ _
  rw [byteIdx_some]
  simp only [Option.bind_some]
  rw [if_pos (by omega), if_pos (by omega)]
  show ∃ R, _ = some R ∧ (strings_IndexByte.f dirO _).bind _ = some R ∧ _
  rw [byteIdx_some]
  simp only [Option.bind_some]
  rw [orGood_some, isOrient_some]
  simp only [Option.bind_some]
  cases c : isOr (Lib.indexByte dirO.data.toList (s.data.toList.getD 0 0)) (Lib.indexByte dirO.data.toList (s.data.toList.getD 1 0))
  ·exact ⟨_, rfl, rfl, fun hh => absurd hh (by decide)⟩
  ·refine ⟨_, rfl, rfl, fun _ => ?_⟩
   obtain ⟨k0, k1⟩ := isOr_in c
   have m0 := letter_in k0.1
   have m1 := letter_in k1.1
   match hd : s.data.toList, (show s.data.toList.length = 2 by omega) with
   | [x, y], _ =>
    rw [hd] at m0 m1
    simp only [List.getD_cons_zero, List.getD_cons_succ] at m0 m1
    simp [Ne.symm m0, Ne.symm m1]
 ·rw [if_neg h, if_neg h]
  exact ⟨_, rfl, rfl, fun hh => absurd hh (by decide)⟩
/-! ### No plus in what is read -/
theorem no_plus (s : ByteArray) (h : ∀ i : Nat, i < s.size → bt s (i : Int) ≠ 43) : (43 : UInt8) ∉ s.data.toList := by
 intro hm
 obtain ⟨i, hi, e⟩ := List.getElem_of_mem hm
 have hn := size_data s
 refine h i (by omega) ?_
 rw [bt_data s i (by omega), List.getD_eq_getElem?_getD, List.getElem?_eq_getElem hi, Option.getD_some, e]
 rfl
theorem sh_clean (s : ByteArray) (h : (shRead s).2.2.2.2.2.2 = true) : (43 : UInt8) ∉ s.data.toList := by
 unfold shRead at h
 split at h
 case isFalse => exact absurd h (by decide)
 case isTrue hh =>
  obtain ⟨⟨h5, h6⟩, hs, hg⟩ := hh
  obtain ⟨q0, q1, q2, q3, q4⟩ := sh_bounds hg
  unfold vv at q0 q1 q2 q3 q4
  refine no_plus s fun i hi => ?_
  obtain rfl | rfl | rfl | rfl | rfl | rfl : i = 0 ∨ i = 1 ∨ i = 2 ∨ i = 3 ∨ i = 4 ∨ i = 5 := by omega
  ·omega
  ·omega
  ·omega
  ·omega
  ·omega
  ·have := hs (by omega)
   show bt s 5 ≠ 43
   omega
theorem pl_texts : ((plFrom 10 0).all fun p => !(plTxt p.f0 p.f1 p.f2).data.toList.contains 43) = true := by kernel_rfl
theorem pl_clean (s : ByteArray) : ∀ l : List Pla, (l.all fun p => !(plTxt p.f0 p.f1 p.f2).data.toList.contains 43) = true → (search s l).2.2.2 = true → (43 : UInt8) ∉ s.data.toList
 | [], _, h => by cases h
 | p :: t, ha, h => by
  rw [List.all_cons, Bool.and_eq_true] at ha
  rw [search_cons] at h
  by_cases c : (plTxt p.f0 p.f1 p.f2).toList = s.toList
  ·rw [toList_data, toList_data] at c
   rw [← c]
   simpa using ha.1
  ·rw [if_neg c] at h
   exact pl_clean s t ha.2 h
theorem mv_impl (s : ByteArray) (hs : s.size ≤ 1048576) : ∃ p n, impl_ParseMove.F s = some (mvEnd s p n) := by
 have hn := size_data s
 rw [impl_ParseMove.F_eq]
 by_cases hm : (42 : UInt8) ∈ s.data.toList
 ·obtain ⟨p, t, hp, hno⟩ := first_at 42 _ hm
  have hlen : s.data.toList.length = p.length + (t.length + 1) := by rw [hp]; simp
  have hd : ¬ s.toList = [45] := by
   intro e
   rw [toList_data] at e
   rw [e] at hm
   exact absurd hm (by decide)
  have hpz : (mkB p).size ≤ 9223372036854775807 := by rw [mkB_size]; omega
  have htz : (mkB t).size ≤ 1048576 := by rw [mkB_size]; omega
  obtain ⟨v, b, hv⟩ := dec_some (mkB t) (by omega)
  rw [cut_at s 42 p t (by omega) hp hno, Option.bind_some]
  simp only [if_true, hv, Option.bind_some]
  rw [impl_ParseMove.J0_eq, if_neg hd, implEnd s _ _ hpz]
  exact ⟨_, _, rfl⟩
 ·rw [cut_none s 42 hm, Option.bind_some]
  simp only [Bool.false_eq_true, if_false]
  rw [impl_ParseMove.J0_eq]
  by_cases hd : s.toList = [45]
  ·rw [if_pos hd, implEnd s _ _ (by decide)]
   exact ⟨_, _, rfl⟩
  ·rw [if_neg hd, implEnd s _ _ (by omega)]
   exact ⟨_, _, rfl⟩
theorem mv_clean (s p : ByteArray) (n : Int) (h : (mvEnd s p n).2.2 = true) : (43 : UInt8) ∉ s.data.toList := by
 unfold mvEnd at h
 split at h
 case isFalse => exact absurd h (by decide)
 case isTrue hh =>
  obtain ⟨g1, g2⟩ := hh
  rw [toList_data, toList_data] at g2
  rw [← g2]
  unfold isMv at g1
  simp only [Bool.and_eq_true, decide_eq_true_eq] at g1
  obtain ⟨_, k2, k3, _⟩ := g1
  have hno : (43 : UInt8) ∉ p.data.toList := by
   intro hm
   have := List.all_eq_true.1 k2 _ hm
   exact absurd this (by decide)
  unfold mvTx
  split
  ·decide
  split
  ·exact hno
  ·have e : ((p ++ (⟨#[42]⟩ : ByteArray)) ++ dg n).data.toList = p.data.toList ++ 42 :: (dg n).data.toList := by simp
   rw [e, dg_data (by omega)]
   obtain rfl | rfl | rfl : n = 1 ∨ n = 2 ∨ n = 3 := by omega
   all_goals
    intro hm
    rcases List.mem_append.1 hm with hm | hm
    ·exact hno hm
    ·exact absurd hm (by decide)
/-! ### Hands read -/
theorem hand_same (s : ByteArray) (hs : s.size ≤ 200) : ∃ R, spec_paHand.F s = some R ∧ impl_readHand.F s = some R ∧ ((R.2.2.2.2.2.2.2.2.2.2.2.2.2.1 = 0 ∧ (43 : UInt8) ∉ s.data.toList) ∨ (R.2.2.2.2.2.2.2.2.2.2.2.2.2.1 ≠ 0 ∧ ∃ x y, R = (0, 0, 0, 0, 0, false, 0, 0, 0, 0, false, (⟨#[]⟩ : ByteArray), 0, x, y))) := by
 have hn := size_data s
 rw [spec_paHand.F_eq, impl_readHand.F_eq, show (47 : Int) = (((47 : UInt8).toNat : Nat) : Int) from rfl, split_some s 47 (by omega), split_impl s 47 (by omega), Option.bind_some, Option.bind_some]
 by_cases hl : (((splitFrom 47 [] s.data.toList).map mkB).length : Int) = 4
 case neg =>
  rw [if_neg hl, if_neg hl]
  exact ⟨_, rfl, rfl, Or.inr ⟨by decide, _, _, rfl⟩⟩
 obtain ⟨p0, p1, p2, p3, hp⟩ : ∃ p0 p1 p2 p3, splitFrom 47 [] s.data.toList = [p0, p1, p2, p3] := by
  rw [List.length_map] at hl
  match hx : splitFrom 47 [] s.data.toList, (show (splitFrom 47 [] s.data.toList).length = 4 by omega) with
  | [a, b, c, d], _ => exact ⟨a, b, c, d, rfl⟩
 have hx := split_four 47 _ p0 p1 p2 p3 hp
 have hz : p0.length + p1.length + p2.length + p3.length + 3 = s.size := by rw [hn, hx]; simp; omega
 rw [hp]
 simp only [List.map_cons, List.map_nil]
 have l4 : (([mkB p0, mkB p1, mkB p2, mkB p3].length : Nat) : Int) = 4 := rfl
 have r0 : rdOf ByteArray.empty [mkB p0, mkB p1, mkB p2, mkB p3] 0 = mkB p0 := rfl
 have r1 : rdOf ByteArray.empty [mkB p0, mkB p1, mkB p2, mkB p3] 1 = mkB p1 := rfl
 have r2 : rdOf ByteArray.empty [mkB p0, mkB p1, mkB p2, mkB p3] 2 = mkB p2 := rfl
 have r3 : rdOf ByteArray.empty [mkB p0, mkB p1, mkB p2, mkB p3] 3 = mkB p3 := rfl
 have z0 := mkB_size p0
 have z1 := mkB_size p1
 have z2 := mkB_size p2
 have z3 := mkB_size p3
 obtain ⟨O, o1, o2, o3⟩ := or_same (mkB p1)
 obtain ⟨M, m1, m2⟩ := mvParse_same (mkB p3) (by omega)
 obtain ⟨mp, mn, m3⟩ := mv_impl (mkB p3) (by omega)
 have m4 : M.2.2 = true → (43 : UInt8) ∉ p3 := by
  intro h
  rw [m2] at m3
  rw [Option.some.inj m3] at h
  exact mv_clean (mkB p3) mp mn h
 have s4 := sh_clean (mkB p0)
 have q4 := pl_clean (mkB p2) _ pl_texts
 rw [data_mkB] at o3 s4 q4
 simp only [l4, if_true, show (0 : Int) < 4 by decide, show (1 : Int) < 4 by decide, show (2 : Int) < 4 by decide, show (3 : Int) < 4 by decide, r0, r1, r2, r3, shParse_some (mkB p0) (by omega), implParse_some (mkB p0) (by omega), o1, o2, plParse_some, parsePlace_some, m1, m2, Option.bind_some]
 generalize shRead (mkB p0) = S at s4
 generalize search (mkB p2) (plFrom 10 0) = P at q4
 obtain ⟨S0, S1, S2, S3, S4, S5, S6⟩ := S
 obtain ⟨O0, O1, O2⟩ := O
 obtain ⟨P0, P1, P2, P3⟩ := P
 obtain ⟨M0, M1, M2⟩ := M
 simp only at s4 o3 q4 m4 ⊢
 have w : ∀ x : Int, 0 ≤ x → x ≤ 1000 → wrap64 x = x := fun x h1 h2 => wrap_in (by omega) (by omega)
 have a0 : ∀ b0 b1 b2 b3 : Bool, ar4_ b0 b1 b2 b3 0 = b0 := fun _ _ _ _ => rfl
 have a1 : ∀ b0 b1 b2 b3 : Bool, ar4_ b0 b1 b2 b3 1 = b1 := fun _ _ _ _ => rfl
 have a2 : ∀ b0 b1 b2 b3 : Bool, ar4_ b0 b1 b2 b3 2 = b2 := fun _ _ _ _ => rfl
 have a3 : ∀ b0 b1 b2 b3 : Bool, ar4_ b0 b1 b2 b3 3 = b3 := fun _ _ _ _ => rfl
 cases S6
 ·simp only [Bool.false_eq_true, if_false]
  refine ⟨_, rfl, ?_, Or.inr ⟨show (3 : Int) ≠ 0 by decide, _, _, rfl⟩⟩
  rw [impl_readHand.L0_eq, if_pos (by decide), if_pos (by decide), a0, if_neg (by decide), w (3 + 0) (by decide) (by decide)]; rfl
 simp only [if_true]
 cases O2
 ·simp only [Bool.false_eq_true, if_false]
  refine ⟨_, rfl, ?_, Or.inr ⟨show (4 : Int) ≠ 0 by decide, _, _, rfl⟩⟩
  rw [impl_readHand.L0_eq, if_pos (by decide), if_pos (by decide), a0, if_pos rfl, if_pos (by rw [l4]; decide), r0, w ((mkB p0).size + 1) (by omega) (by omega), w (0 + 1) (by omega) (by omega), show (0 : Int) + 1 = 1 from rfl, Int.zero_add, w ((mkB p0).size + 1) (by omega) (by omega), impl_readHand.L0_eq, if_pos (by decide), if_pos (by decide), a1, if_neg (by decide), w (3 + 1) (by decide) (by decide)]; rfl
 simp only [if_true]
 cases P3
 ·simp only [Bool.false_eq_true, if_false]
  refine ⟨_, rfl, ?_, Or.inr ⟨show (5 : Int) ≠ 0 by decide, _, _, rfl⟩⟩
  rw [impl_readHand.L0_eq, if_pos (by decide), if_pos (by decide), a0, if_pos rfl, if_pos (by rw [l4]; decide), r0, w ((mkB p0).size + 1) (by omega) (by omega), w (0 + 1) (by omega) (by omega), show (0 : Int) + 1 = 1 from rfl, Int.zero_add, w ((mkB p0).size + 1) (by omega) (by omega), impl_readHand.L0_eq, if_pos (by decide), if_pos (by decide), a1, if_pos rfl, if_pos (by rw [l4]; decide), r1, w ((mkB p1).size + 1) (by omega) (by omega), w (1 + 1) (by omega) (by omega), show (1 : Int) + 1 = 2 from rfl, w ((mkB p0).size + 1 + ((mkB p1).size + 1)) (by omega) (by omega), impl_readHand.L0_eq, if_pos (by decide), if_pos (by decide), a2, if_neg (by decide), w (3 + 2) (by decide) (by decide)]; rfl
 simp only [if_true]
 cases M2
 ·simp only [Bool.false_eq_true, if_false]
  refine ⟨_, rfl, ?_, Or.inr ⟨show (6 : Int) ≠ 0 by decide, _, _, rfl⟩⟩
  rw [impl_readHand.L0_eq, if_pos (by decide), if_pos (by decide), a0, if_pos rfl, if_pos (by rw [l4]; decide), r0, w ((mkB p0).size + 1) (by omega) (by omega), w (0 + 1) (by omega) (by omega), show (0 : Int) + 1 = 1 from rfl, Int.zero_add, w ((mkB p0).size + 1) (by omega) (by omega), impl_readHand.L0_eq, if_pos (by decide), if_pos (by decide), a1, if_pos rfl, if_pos (by rw [l4]; decide), r1, w ((mkB p1).size + 1) (by omega) (by omega), w (1 + 1) (by omega) (by omega), show (1 : Int) + 1 = 2 from rfl, w ((mkB p0).size + 1 + ((mkB p1).size + 1)) (by omega) (by omega), impl_readHand.L0_eq, if_pos (by decide), if_pos (by decide), a2, if_pos rfl, if_pos (by rw [l4]; decide), r2, w ((mkB p2).size + 1) (by omega) (by omega), w (2 + 1) (by omega) (by omega), show (2 : Int) + 1 = 3 from rfl, w ((mkB p0).size + 1 + ((mkB p1).size + 1) + ((mkB p2).size + 1)) (by omega) (by omega), impl_readHand.L0_eq, if_pos (by decide), if_pos (by decide), a3, if_neg (by decide), w (3 + 3) (by decide) (by decide)]; rfl
 simp only [if_true]
 refine ⟨_, rfl, ?_, Or.inl ⟨rfl, ?_⟩⟩
 ·rw [impl_readHand.L0_eq, if_pos (by decide), if_pos (by decide), a0, if_pos rfl, if_pos (by rw [l4]; decide), r0, w ((mkB p0).size + 1) (by omega) (by omega), w (0 + 1) (by omega) (by omega), show (0 : Int) + 1 = 1 from rfl, Int.zero_add, w ((mkB p0).size + 1) (by omega) (by omega), impl_readHand.L0_eq, if_pos (by decide), if_pos (by decide), a1, if_pos rfl, if_pos (by rw [l4]; decide), r1, w ((mkB p1).size + 1) (by omega) (by omega), w (1 + 1) (by omega) (by omega), show (1 : Int) + 1 = 2 from rfl, w ((mkB p0).size + 1 + ((mkB p1).size + 1)) (by omega) (by omega), impl_readHand.L0_eq, if_pos (by decide), if_pos (by decide), a2, if_pos rfl, if_pos (by rw [l4]; decide), r2, w ((mkB p2).size + 1) (by omega) (by omega), w (2 + 1) (by omega) (by omega), show (2 : Int) + 1 = 3 from rfl, w ((mkB p0).size + 1 + ((mkB p1).size + 1) + ((mkB p2).size + 1)) (by omega) (by omega), impl_readHand.L0_eq, if_pos (by decide), if_pos (by decide), a3, if_pos rfl, if_pos (by rw [l4]; decide), r3, w (3 + 1) (by decide) (by decide), impl_readHand.L0_eq, if_neg (by decide)]
 rw [hx]
 intro hm
 have b0 := s4 rfl
 have b1 := o3 rfl
 have b2 := q4 rfl
 have b3 := m4 rfl
 simp only [List.mem_append, List.mem_cons] at hm
 rcases hm with hm | hm | hm | hm | hm | hm | hm
 ·exact b0 hm
 ·exact absurd hm (by decide)
 ·exact b1 hm
 ·exact absurd hm (by decide)
 ·exact b2 hm
 ·exact absurd hm (by decide)
 ·exact b3 hm
theorem contains_some (s : ByteArray) (c : UInt8) : strings_Contains.f s ⟨#[c]⟩ = some (decide (c ∈ s.data.toList)) := by
 unfold strings_Contains.f strings_Index.f stringslite_Index.f
 rw [if_pos (by rfl), Option.bind_some, Option.bind_some]
 show some (decide (Lib.indexByte s.data.toList c ≥ 0)) = _
 congr 1
 by_cases hm : c ∈ s.data.toList
 ·obtain ⟨p, t, hp, hno⟩ := first_at c _ hm
  rw [decide_eq_true hm]
  rw [hp, idx_at c t p hno]
  exact decide_eq_true (by omega)
 ·rw [decide_eq_false hm, idx_none c _ hm]; rfl
theorem FnExactParseHand : laws_FnExactParseHand.Pure := by
 intro s hs
 refine lim_rounds (?_ : laws_FnExactParseHand.F s = some true)
 rw [laws_FnExactParseHand.F_eq]
 by_cases h : (s.size : Int) > 1048576
 ·rw [if_pos h]
 rw [if_neg h, spec_ParseHand.F_eq, impl_ParseHand.F_eq]
 unfold spec_paGiven.f
 rw [Option.bind_some]
 by_cases h2 : (s.size : Int) > 200
 ·rw [if_neg (by simp; omega), if_pos h2, impl_ParseHand.J0_eq, if_pos rfl]
  simp [laws_eqHand.f, laws_eqShape.f, laws_eqOrient.f, laws_eqPlace.f, laws_eqMove.f]
 rw [if_pos (by simp; omega), if_neg h2, contains_some, Option.bind_some]
 obtain ⟨R, r1, r2, r3⟩ := hand_same s (by omega)
 rw [r1, Option.bind_some, impl_ParseHand.J0_eq, r2]
 rcases r3 with ⟨k1, k2⟩ | ⟨k1, x, y, rfl⟩
 ·rw [decide_eq_false k2, if_neg (by decide), Option.bind_some]
  obtain ⟨R0, R1, R2, R3, R4, R5, R6, R7, R8, R9, Ra, Rb, Rc, Rd, Re⟩ := R
  simp only at k1
  subst k1
  simp [laws_eqHand.f, laws_eqShape.f, laws_eqOrient.f, laws_eqPlace.f, laws_eqMove.f]
 ·simp only at k1
  simp only [Option.bind_some]
  rw [if_neg (show ¬ x = 0 from k1), ite_self]
  simp [laws_eqHand.f, laws_eqShape.f, laws_eqOrient.f, laws_eqPlace.f, laws_eqMove.f, k1]

end Go.Proofs.YtcapebhnioblbaaGreatDoor.Pure
