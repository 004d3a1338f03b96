/- The pure statement of the law FnShapes: for all arguments within their bounds its Lean function answers true. -/
import Derived.Test.YtbfkpgmdbafmhaaDoorPFnShapesxD1
namespace Go.Proofs.YtbfkpgmdbafmhaaDoor.Pure
open Go.RowKit Go.Proofs.YtbfkpgmdbafmhaaDoor.PFnShapes Go.Proofs.YtbfkpgmdbafmhaaDoorW.PrintWords Go.Proofs.YtbfkpgmdbafmhaaDoorW.PrintLast
set_option linter.unusedVariables false
set_option linter.unusedSimpArgs false
/-! ### Numbers, loops, letters -/
theorem wrap_in {x : Int} (h0 : -9223372036854775808 ≤ x) (h1 : x ≤ 9223372036854775807) : wrap64 x = x := by
 unfold wrap64; omega
theorem wf_i64 {n : Int} (h : (Lit.int .i64 n).wf = true) : -9223372036854775808 ≤ n ∧ n ≤ 9223372036854775807 := by
 simpa [Lit.wf, IntKind.min, IntKind.max, IntKind.signed, IntKind.bits] using h
/-- A loop over a list, from its end. L: what the loop tells from place i on. -/
theorem each {α γ : Type} (L : Int → γ) (l : List α) (z : α) (R : Nat → List α → γ → Prop) (nil : R l.length [] (L l.length))
 (cons : ∀ (i : Nat) (x : α) (t : List α), i < l.length → l.getD i z = x → l.drop i = x :: t → l.drop (i + 1) = t → R (i + 1) t (L ((i : Int) + 1)) → R i (x :: t) (L i)) : R 0 l (L 0) := by
 have key : ∀ (t : List α) (i : Nat), l.drop i = t → i ≤ l.length → R i t (L i) := by
  intro t
  induction t with
  | nil =>
   intro i h hi
   have : l.length ≤ i := by simpa [List.drop_eq_nil_iff] using h
   obtain rfl : i = l.length := by omega
   exact nil
  | cons x t ih =>
   intro i h hi
   have hlt : i < l.length := by
    rcases Nat.lt_or_ge i l.length with h' | h'
    ·exact h'
    ·rw [List.drop_eq_nil_of_le h'] at h; cases h
   have h2 := List.drop_eq_getElem_cons hlt
   rw [h] at h2
   injection h2 with h3 h4
   refine cons i x t hlt ?_ h h4.symm ?_
   ·rw [List.getD_eq_getElem?_getD, List.getElem?_eq_getElem hlt]; exact h3.symm
   ·have := ih (i + 1) h4.symm (by omega)
    rwa [show ((i + 1 : Nat) : Int) = (i : Int) + 1 from by omega] at this
 have := key l 0 rfl (Nat.zero_le _)
 rwa [show ((0 : Nat) : Int) = 0 from rfl] at this
theorem bt_data (s : ByteArray) (i : Nat) (h : i < s.size) : bt s (i : Int) = ((s.data.toList.getD i 0).toNat : Int) := by
 obtain ⟨d⟩ := s
 have h' : i < d.size := h
 have : bt ⟨d⟩ (i : Int) = ((d[i]).toNat : Int) := by
  unfold bt
  rw [dif_pos (show ((i : Int)).toNat < (⟨d⟩ : ByteArray).size from by simpa using h)]
  rfl
 rw [this]
 simp [h']
theorem size_data (s : ByteArray) : s.size = s.data.toList.length := by
 obtain ⟨d⟩ := s; simp [ByteArray.size]
theorem toList_data (s : ByteArray) : s.toList = s.data.toList := by
 rw [ByteArray.toList_eq]
theorem ext_data {s t : ByteArray} (h : s.toList = t.toList) : s = t := by
 rw [toList_data, toList_data] at h
 obtain ⟨⟨a⟩⟩ := s
 obtain ⟨⟨b⟩⟩ := t
 simp at h
 rw [h]
theorem toList_iff {s t : ByteArray} : s.toList = t.toList ↔ s = t := ⟨ext_data, fun h => by rw [h]⟩
theorem mem_drop {α : Type} {l t : List α} {x : α} {i : Nat} (h : l.drop i = x :: t) : x ∈ l := List.mem_of_mem_drop (i := i) (by rw [h]; simp)

/-! ### What is drawn -/
def Bytes (l : List Int) : Prop := l.length ≤ 9223372036854775807 ∧ ∀ x ∈ l, 0 ≤ x ∧ x < 256
theorem bytes_of {l : List Int} (h : l.length ≤ 9223372036854775807) (hw : ∀ x ∈ l, (Lit.int .u8 x).wf = true) : Bytes l := ⟨h, fun x hx => by
 have := hw x hx
 simp [Lit.wf, IntKind.min, IntKind.max, IntKind.signed, IntKind.bits] at this
 omega⟩
theorem and_byte (z : Int) (h0 : 0 ≤ z) (h1 : z < 18446744073709551616) : 0 ≤ Go.bits .and .u64 z 255 ∧ Go.bits .and .u64 z 255 < 256 := by
 obtain ⟨n, rfl⟩ := Int.eq_ofNat_of_zero_le h0
 have h := bits_and_u64_nat n 255 (by omega) (by omega)
 have e : (((255 : Nat) : Int)) = 255 := rfl
 rw [e] at h
 rw [h]
 have : n &&& 255 ≤ 255 := Nat.and_le_right
 omega
theorem next_tells (l : List Int) (hl : Bytes l) (a s : Int) (ha : 0 ≤ a ∧ a ≤ 2000000000) : ∃ r b t, spec_l1Cur_next.f l a s = some (r, b, t) ∧ (0 ≤ r ∧ r < 256) ∧ 0 ≤ b ∧ b ≤ a + 1 := by
 have hu : ∀ y : Int, 0 ≤ IntKind.u64.wrap y ∧ IntKind.u64.wrap y < 18446744073709551616 := fun y => by
  simp only [IntKind.wrap, IntKind.signed, IntKind.bits]
  simp
  omega
 have tail : ∀ y : Int, 0 ≤ wrap64 (Go.bits .and .u64 ((IntKind.u64.wrap y) / 1099511627776) 255) ∧ wrap64 (Go.bits .and .u64 ((IntKind.u64.wrap y) / 1099511627776) 255) < 256 := fun y => by
  have h1 := hu y
  have h2 := and_byte (IntKind.u64.wrap y / 1099511627776) (by omega) (by omega)
  rw [wrap_in (by omega) (by omega)]
  exact h2
 unfold spec_l1Cur_next.f
 rw [wrap_in (x := a + 1) (by omega) (by omega)]
 by_cases h : a < (l.length : Int)
 ·rw [if_pos h, if_pos ha.1]
  have hr : 0 ≤ rd l a ∧ rd l a < 256 := by
   obtain ⟨n, rfl⟩ := Int.eq_ofNat_of_zero_le ha.1
   have hn : n < l.length := by omega
   have := hl.2 l[n] (List.getElem_mem hn)
   have e : rd l (n : Int) = l[n] := by simp [rd, hn]
   rw [e]
   exact this
  split
  ·refine ⟨_, _, _, rfl, ?_, by omega, by omega⟩
   rw [wrap_in (by omega) (by omega)]
   exact hr
  ·exact ⟨_, _, _, rfl, tail _, by omega, by omega⟩
 ·rw [if_neg h]
  split
  ·exact ⟨_, _, _, rfl, by omega, by omega, by omega⟩
  ·exact ⟨_, _, _, rfl, tail _, by omega, by omega⟩
theorem pick_tells (l : List Int) (hl : Bytes l) (a s n : Int) (ha : 0 ≤ a ∧ a ≤ 1000000000) (hn : n ≤ 1048576) : ∃ r b t, spec_l1Cur_pick.f l a s n = some (r, b, t) ∧ 0 ≤ r ∧ (1 ≤ n → r < n) ∧ 0 ≤ b ∧ b ≤ a + 2 := by
 unfold spec_l1Cur_pick.f
 by_cases h : n ≤ 1
 ·rw [if_pos h]
  exact ⟨_, _, _, rfl, by omega, by omega, by omega, by omega⟩
 rw [if_neg h]
 obtain ⟨r, b, t, h1, h2, h3, h4⟩ := next_tells l hl a s (by omega)
 rw [h1, Option.bind_some]
 dsimp only
 by_cases h5 : n > 200
 ·rw [if_pos h5]
  obtain ⟨r2, b2, t2, k1, k2, k3, k4⟩ := next_tells l hl b t (by omega)
  rw [k1, Option.bind_some]
  dsimp only
  rw [if_neg (by omega), wrap_in (x := r * 256) (by omega) (by omega), wrap_in (x := r * 256 + r2) (by omega) (by omega)]
  refine ⟨_, _, _, rfl, Int.tmod_nonneg _ (by omega), fun _ => Int.tmod_lt_of_pos _ (by omega), by omega, by omega⟩
 ·rw [if_neg h5, if_neg (by omega)]
  refine ⟨_, _, _, rfl, Int.tmod_nonneg _ (by omega), fun _ => Int.tmod_lt_of_pos _ (by omega), by omega, by omega⟩
theorem of_tells (l : List Int) (hl : Bytes l) (a s : Int) (m : List ByteArray) (ha : 0 ≤ a ∧ a ≤ 1000000000) (hm : m ≠ [] ∧ m.length ≤ 1048576) : ∃ r b t, spec_l1Cur_of.f l a s m = some (r, b, t) ∧ r ∈ m ∧ 0 ≤ b ∧ b ≤ a + 2 := by
 have h0 : 0 < m.length := List.length_pos_iff.2 hm.1
 obtain ⟨r, b, t, h1, h2, h3, h4, h5⟩ := pick_tells l hl a s m.length ha (by omega)
 obtain ⟨n, rfl⟩ := Int.eq_ofNat_of_zero_le h2
 have hn : n < m.length := by omega
 unfold spec_l1Cur_of.f
 rw [h1, Option.bind_some]
 dsimp only
 rw [if_pos (by omega), if_pos (by omega)]
 refine ⟨_, _, _, rfl, ?_, h4, h5⟩
 have e : rdOf ByteArray.empty m (n : Int) = m[n] := by simp [rdOf, hn]
 show rdOf ByteArray.empty m (n : Int) ∈ m
 rw [e]
 exact List.getElem_mem hn
theorem among_tells (l : List Int) (hl : Bytes l) (a s : Int) (m : List Int) (ha : 0 ≤ a ∧ a ≤ 1000000000) (hm : m ≠ [] ∧ m.length ≤ 1048576) : ∃ r b t, spec_l1Cur_among.f l a s m = some (r, b, t) ∧ r ∈ m ∧ 0 ≤ b ∧ b ≤ a + 2 := by
 have h0 : 0 < m.length := List.length_pos_iff.2 hm.1
 obtain ⟨r, b, t, h1, h2, h3, h4, h5⟩ := pick_tells l hl a s m.length ha (by omega)
 obtain ⟨n, rfl⟩ := Int.eq_ofNat_of_zero_le h2
 have hn : n < m.length := by omega
 unfold spec_l1Cur_among.f
 rw [h1, Option.bind_some]
 dsimp only
 rw [if_pos (by omega), if_pos (by omega)]
 refine ⟨_, _, _, rfl, ?_, h4, h5⟩
 have e : rd m (n : Int) = m[n] := by simp [rd, hn]
 show rd m (n : Int) ∈ m
 rw [e]
 exact List.getElem_mem hn

theorem nums_one (x : Int) : (strOfNums [x]).size = 1 := rfl
theorem spoilt_rounds (l : List Int) (hl : Bytes l) (w : ByteArray) (hw : 1 ≤ w.size ∧ w.size ≤ 1000) : ∀ (n : Nat) (s : ByteArray) (k a t : Int), k = n → s.size + n ≤ 1000 → (0 ≤ a ∧ a + 6 * n ≤ 1000000) → ∃ r b t', spec_l1Cur_spoilt.L0 s w k l a t = some (r, b, t') ∧ r.size ≤ s.size + n ∧ 0 ≤ b ∧ b ≤ a + 6 * n := by
 intro n
 induction n with
 | zero =>
  intro s k a t hk hs ha
  rw [spec_l1Cur_spoilt.L0_eq, if_neg (by omega), spec_l1Cur_spoilt.J1_eq, if_neg (by simp)]
  exact ⟨s, a, t, rfl, by omega, by omega, by omega⟩
 | succ n ih =>
  intro s k a t hk hs ha
  rw [spec_l1Cur_spoilt.L0_eq, if_pos (by omega)]
  by_cases h0 : (s.size : Int) > 0
  case neg =>
   rw [decide_eq_false h0, spec_l1Cur_spoilt.J1_eq, if_neg (by simp)]
   exact ⟨s, a, t, rfl, by omega, by omega, by omega⟩
  rw [decide_eq_true h0, spec_l1Cur_spoilt.J1_eq, if_pos rfl]
  obtain ⟨i, b1, t1, e1, p1, p2, p3, p4⟩ := pick_tells l hl a t s.size (by omega) (by omega)
  have p5 := p2 (by omega)
  rw [e1, Option.bind_some]
  simp only
  obtain ⟨j, b2, t2, e2, q1, q2, q3, q4⟩ := pick_tells l hl b1 t1 w.size (by omega) (by omega)
  have q5 := q2 (by omega)
  simp only [e2, Option.bind_some]
  rw [if_pos q1, if_pos q5]
  obtain ⟨c, b3, t3, e3, u1, u2, u3, u4⟩ := pick_tells l hl b2 t2 3 (by omega) (by omega)
  simp only [e3, Option.bind_some]
  have hy := nums_one (bt w j)
  generalize strOfNums [bt w j] = y at hy
  rw [wrap_in (x := i + 1) (by omega) (by omega), wrap_in (x := k - 1) (by omega) (by omega)]
  have step : ∀ s' : ByteArray, s'.size ≤ s.size + 1 → ∃ r b t', spec_l1Cur_spoilt.L0 s' w (k - 1) l b3 t3 = some (r, b, t') ∧ r.size ≤ s.size + (n + 1) ∧ 0 ≤ b ∧ b ≤ a + 6 * ((n + 1 : Nat) : Int) := fun s' hs' => by
   obtain ⟨r, b, t', e, z1, z2, z3⟩ := ih s' (k - 1) b3 t3 (by omega) (by omega) (by omega)
   exact ⟨r, b, t', e, by omega, z2, by omega⟩
  by_cases c0 : c = 0
  ·rw [if_pos c0, if_pos p1, if_pos (by omega), if_pos (by simp only [ByteArray.size_extract]; omega), if_pos (by simp only [ByteArray.size_append, ByteArray.size_extract]; omega)]
   exact step _ (by simp only [ByteArray.size_append, ByteArray.size_extract]; omega)
  rw [if_neg c0]
  by_cases c1 : c = 1
  ·rw [if_pos c1, if_pos p1, if_pos (by omega), if_pos (by simp only [ByteArray.size_extract]; omega), if_pos (by omega), if_pos (by omega), if_pos (by simp only [ByteArray.size_append, ByteArray.size_extract]; omega)]
   exact step _ (by simp only [ByteArray.size_append, ByteArray.size_extract]; omega)
  rw [if_neg c1, if_pos p1, if_pos (by omega), if_pos (by omega), if_pos (by omega), if_pos (by simp only [ByteArray.size_extract]; omega)]
  exact step _ (by simp only [ByteArray.size_append, ByteArray.size_extract]; omega)
theorem spoilt_tells (l : List Int) (hl : Bytes l) (a t : Int) (s w : ByteArray) (hw : 1 ≤ w.size ∧ w.size ≤ 1000) (hs : s.size ≤ 900) (ha : 0 ≤ a ∧ a ≤ 900000) : ∃ r b t', spec_l1Cur_spoilt.F l a t s w = some (r, b, t') ∧ r.size ≤ s.size + 2 ∧ 0 ≤ b ∧ b ≤ a + 20 := by
 obtain ⟨n, b1, t1, e1, p1, p2, p3, p4⟩ := pick_tells l hl a t 2 (by omega) (by omega)
 have p5 := p2 (by omega)
 obtain ⟨m, rfl⟩ := Int.eq_ofNat_of_zero_le p1
 rw [spec_l1Cur_spoilt.F_eq, e1, Option.bind_some]
 simp only
 rw [wrap_in (by omega) (by omega)]
 obtain ⟨r, b, t', e, z1, z2, z3⟩ := spoilt_rounds l hl w hw (m + 1) s (1 + (m : Int)) b1 t1 (by omega) (by omega) (by omega)
 rw [e]
 exact ⟨r, b, t', rfl, by omega, z2, by omega⟩


theorem one_tells (l : List Int) (hl : Bytes l) (a s n : Int) (ha : 0 ≤ a ∧ a ≤ 1000000000) (hn : n ≤ 1048576) : ∃ r b t, spec_l1Cur_one.f l a s n = some (r, b, t) ∧ 0 ≤ b ∧ b ≤ a + 2 := by
 obtain ⟨r, b, t, h1, h2, h3, h4, h5⟩ := pick_tells l hl a s n ha hn
 unfold spec_l1Cur_one.f
 rw [h1, Option.bind_some]
 exact ⟨_, _, _, rfl, h4, h5⟩


/-! ### Decimal digits -/
theorem dec_length (n : Nat) : (Lib.decDigits n).length ≤ n + 1 := by
 induction n using Nat.strongRecOn with
 | ind n ih =>
  rw [Lib.decDigits]
  split
  ·simp
  ·have := ih (n / 10) (by omega)
   rw [List.length_append]
   simp only [List.length_cons, List.length_nil]
   omega



/-! ### Bounds -/
theorem within_at (a b c : Int) : impl_within.f a b c = some (decide (b ≤ a ∧ a ≤ c)) := by
 unfold impl_within.f
 by_cases h : b ≤ a
 ·rw [if_pos h]; simp [h]
 ·rw [if_neg h]; simp [h]
theorem l1In_at (a b c : Int) : spec_l1In.f a b c = some (decide (b ≤ a ∧ a ≤ c)) := by
 unfold spec_l1In.f
 by_cases h : b ≤ a
 ·rw [if_pos h]; simp [h]
 ·rw [if_neg h]; simp [h]

/-! ### Shapes -/
theorem rd_int (l : List Int) (i : Nat) : rd l (i : Int) = l.getD i 0 := by simp [rd]
def wide (b c d e : Int) : Bool := (decide (b = 0) && decide (c = 0)) || ((decide (c = 0) && decide (d = 0)) || (decide (d = 0) && decide (e = 0)))
theorem wide_spec (a b c d e : Int) (s : Bool) : spec_shWide.F a b c d e s = some (wide b c d e) := by
 have e3 : spec_shWide.L0 [b, c, d, e] 4 = some false := by rw [spec_shWide.L0_eq, if_neg (by decide)]
 have e2 : spec_shWide.L0 [b, c, d, e] 3 = some (decide (d = 0) && decide (e = 0)) := by
  rw [spec_shWide.L0_eq, show wrap64 ((3 : Int) - 1) = 2 from by decide +kernel, show wrap64 ((3 : Int) + 1) = 4 from by decide +kernel, if_pos (by decide), if_pos (by decide), if_pos (by simp), show rd [b, c, d, e] 2 = d from rfl, show rd [b, c, d, e] 3 = e from rfl, e3]
  by_cases h : d = 0
  ·rw [if_pos h, if_pos (by decide), if_pos (by simp)]
   by_cases h2 : e = 0
   ·rw [if_pos h2]; simp [h, h2]
   ·rw [if_neg h2]; simp [h2]
  ·rw [if_neg h]; simp [h]
 have e1 : spec_shWide.L0 [b, c, d, e] 2 = some ((decide (c = 0) && decide (d = 0)) || (decide (d = 0) && decide (e = 0))) := by
  rw [spec_shWide.L0_eq, show wrap64 ((2 : Int) - 1) = 1 from by decide +kernel, show wrap64 ((2 : Int) + 1) = 3 from by decide +kernel, if_pos (by decide), if_pos (by decide), if_pos (by simp), show rd [b, c, d, e] 1 = c from rfl, show rd [b, c, d, e] 2 = d from rfl, e2]
  by_cases h : c = 0
  ·rw [if_pos h, if_pos (by decide), if_pos (by simp)]
   by_cases h2 : d = 0
   ·rw [if_pos h2]; simp [h, h2]
   ·rw [if_neg h2]; simp [h2]
  ·rw [if_neg h]; simp [h]
 rw [spec_shWide.F_eq]
 simp only [spec_shFingers.f, Option.bind_some]
 rw [spec_shWide.L0_eq, show wrap64 ((1 : Int) - 1) = 0 from by decide +kernel, show wrap64 ((1 : Int) + 1) = 2 from by decide +kernel, if_pos (by decide), if_pos (by decide), if_pos (by simp), show rd [b, c, d, e] 0 = b from rfl, show rd [b, c, d, e] 1 = c from rfl, e1]
 unfold wide
 by_cases h : b = 0
 ·rw [if_pos h, if_pos (by decide), if_pos (by simp)]
  by_cases h2 : c = 0
  ·rw [if_pos h2]; simp [h, h2]
  ·rw [if_neg h2]; simp [h2]
 ·rw [if_neg h]; simp [h]
theorem wide_impl (a b c d e : Int) (s : Bool) : impl_Shape_maySpread.f a b c d e s = some (wide b c d e) := by
 unfold impl_Shape_maySpread.f wide
 by_cases h1 : c = 0
 ·rw [if_pos h1]
  by_cases h2 : b = 0
  ·rw [if_pos h2]; simp [h1, h2]
  ·rw [if_neg h2]
   by_cases h3 : d = 0
   ·rw [if_pos h3]; simp [h1, h3]
   ·rw [if_neg h3]; simp [h2, h3]
 ·rw [if_neg h1]
  by_cases h3 : d = 0
  ·rw [if_pos h3]; simp [h1, h3]
   cases h : decide (e = 0) <;> simpa using h
  ·rw [if_neg h3]; simp [h1, h3]
theorem l1All_some (l : List Int) (a b : Int) (hl : l.length ≤ 1048576) : spec_l1All.F l a b = some (l.all fun x => decide (a ≤ x ∧ x ≤ b)) := by
 rw [spec_l1All.F_eq]
 refine each (L := fun i => spec_l1All.L0 a b l l.length i) l 0 (fun _ t o => o = some (t.all fun x => decide (a ≤ x ∧ x ≤ b))) ?_ ?_
 ·show spec_l1All.L0 a b l _ _ = _
  rw [spec_l1All.L0_eq, if_neg (by omega)]; rfl
 ·intro i x t hi hx _ _ ih
  show spec_l1All.L0 a b l _ _ = _
  rw [spec_l1All.L0_eq, if_pos (by omega), if_pos (by omega), if_pos (by omega), rd_int, hx, l1In_at, Option.bind_some, wrap_in (by omega) (by omega), List.all_cons]
  cases decide (a ≤ x ∧ x ≤ b)
  ·rfl
  ·rw [if_pos rfl, ih]; rfl
theorem allWithin_some (l : List Int) (a b : Int) (hl : l.length ≤ 1048576) : impl_allWithin.F l a b = some (l.all fun x => decide (a ≤ x ∧ x ≤ b)) := by
 rw [impl_allWithin.F_eq, slices_ContainsFunc_int_impl_allWithin_1.F_eq, slices_IndexFunc_int_impl_allWithin_1.F_eq]
 have := each (L := fun i => slices_IndexFunc_int_impl_allWithin_1.L0 l l.length i a b) l 0 (fun _ t o => ∃ r, o = some r ∧ decide (r ≥ 0) = !(t.all fun x => decide (a ≤ x ∧ x ≤ b))) ?_ ?_
 ·obtain ⟨r, h1, h2⟩ := this
  rw [h1]; simp [h2]
 ·refine ⟨-1, ?_, by simp⟩
  show slices_IndexFunc_int_impl_allWithin_1.L0 l _ _ _ _ = _
  rw [slices_IndexFunc_int_impl_allWithin_1.L0_eq, if_neg (by omega)]
 ·intro i x t hi hx _ _ ih
  show ∃ r, slices_IndexFunc_int_impl_allWithin_1.L0 l _ _ _ _ = _ ∧ _
  rw [slices_IndexFunc_int_impl_allWithin_1.L0_eq, if_pos (by omega), if_pos (by omega), if_pos (by omega), rd_int, hx, wrap_in (by omega) (by omega)]
  unfold impl_allWithin_1.f
  rw [within_at, Option.bind_some, Option.bind_some, List.all_cons]
  cases decide (a ≤ x ∧ x ≤ b)
  ·exact ⟨i, by rw [if_pos (by rfl)], by simp⟩
  ·rw [if_neg (by simp), Bool.true_and]; exact ih
/-- Is it a shape? -/
def isSh (a b c d e : Int) (s : Bool) : Bool := decide (0 ≤ a ∧ a ≤ 2) && ((([b, c, d, e] : List Int).all fun x => decide (0 ≤ x ∧ x ≤ 2)) && (!s || wide b c d e))
theorem shGood_some (a b c d e : Int) (s : Bool) : spec_shGood.F a b c d e s = some (isSh a b c d e s) := by
 rw [spec_shGood.F_eq, l1In_at, wide_spec, Option.bind_some]
 simp only [spec_shFingers.f, Option.bind_some]
 rw [l1All_some _ _ _ (by simp), Option.bind_some]
 unfold isSh
 cases decide (0 ≤ a ∧ a ≤ 2)
 ·rfl
 cases (([b, c, d, e] : List Int).all fun x => decide (0 ≤ x ∧ x ≤ 2))
 ·rfl
 cases s <;> rfl
theorem isShape_some (a b c d e : Int) (s : Bool) : impl_IsShape.F a b c d e s = some (isSh a b c d e s) := by
 rw [impl_IsShape.F_eq, wide_impl, Option.bind_some]
 simp only [impl_Shape_bends.f, Option.bind_some]
 rw [if_pos (by simp), allWithin_some _ _ _ (by simp), Option.bind_some]
 unfold isSh
 rw [List.cons_append, List.nil_append, List.all_cons]
 cases decide (0 ≤ a ∧ a ≤ 2)
 ·rfl
 cases (([b, c, d, e] : List Int).all fun x => decide (0 ≤ x ∧ x ≤ 2))
 ·rfl
 cases s <;> rfl
theorem sh_bounds {a b c d e : Int} {s : Bool} (h : isSh a b c d e s = true) : (0 ≤ a ∧ a ≤ 2) ∧ (0 ≤ b ∧ b ≤ 2) ∧ (0 ≤ c ∧ c ≤ 2) ∧ (0 ≤ d ∧ d ≤ 2) ∧ (0 ≤ e ∧ e ≤ 2) := by
 unfold isSh at h
 simp only [Bool.and_eq_true, decide_eq_true_eq, List.all_cons, List.all_nil, and_true] at h
 exact ⟨h.1, h.2.1.1, h.2.1.2.1, h.2.1.2.2.1, h.2.1.2.2.2⟩



/-! ### One digit -/
def dg (n : Int) : ByteArray := ⟨(Lib.decDigits n.toNat).toArray⟩
theorem dg_eq {n : Int} (h : 0 ≤ n ∧ n ≤ 9) : dg n = ⟨#[UInt8.ofNat (48 + n.toNat)]⟩ := by
 unfold dg; rw [Lib.decDigits_one (by omega)]
theorem dg_size {n : Int} (h : 0 ≤ n ∧ n ≤ 9) : (dg n).size = 1 := by rw [dg_eq h]; rfl
theorem dg_impl {n : Int} (h : 0 ≤ n ∧ n ≤ 9) : strconv_Itoa.f n = some (dg n) := by
 unfold strconv_Itoa.f; rw [if_pos (by omega)]; rfl

/-! ### Texts of shapes -/
def shTail (s : Bool) (t : ByteArray) : ByteArray := if s = true then t ++ ⟨#[115]⟩ else t
def shTx (a b c d e : Int) (s : Bool) : ByteArray := shTail s ([b, c, d, e].foldl (fun t n => t ++ dg n) (dg a))
theorem sh_loopI (l : List Int) (h : ∀ x ∈ l, 0 ≤ x ∧ x ≤ 2) (hl : l.length ≤ 100) (a b c d e : Int) (s : Bool) (acc : ByteArray) (ha : acc.size ≤ 1) :
 impl_Shape_text.L0 acc l l.length 0 a b c d e s = some (shTail s (l.foldl (fun t n => t ++ dg n) acc)) := by
 have := each (L := fun i => (fun acc => impl_Shape_text.L0 acc l l.length i a b c d e s : ByteArray → _)) l 0
  (fun i t f => (∀ x ∈ t, x ∈ l) → ∀ acc : ByteArray, acc.size ≤ i + 1 → f acc = some (shTail s (t.foldl (fun t n => t ++ dg n) acc))) ?_ ?_ (fun _ h => h) acc (by omega)
 ·exact this
 ·intro _ acc hs
  have one : (⟨#[115]⟩ : ByteArray).size = 1 := rfl
  show impl_Shape_text.L0 acc l _ _ a b c d e s = _
  have hn : ¬ ((l.length : Int) < (l.length : Int)) := by omega
  rw [impl_Shape_text.L0_eq, if_neg hn]
  unfold shTail
  cases s
  ·rfl
  ·rw [if_pos rfl, if_pos (by omega)]; rfl
 ·intro i x t hi hx _ _ ih hm acc hs
  have hx2 := h x (hm x (by simp))
  have h9 : 0 ≤ x ∧ x ≤ 9 := by omega
  have h1 := dg_size h9
  show impl_Shape_text.L0 acc l _ _ a b c d e s = _
  rw [impl_Shape_text.L0_eq, if_pos (by omega), if_pos (by omega), if_pos (by omega), rd_int, hx, dg_impl h9, Option.bind_some, if_pos (by omega), wrap_in (by omega) (by omega)]
  exact ih (fun y hy => hm y (by simp [hy])) _ (by rw [ByteArray.size_append]; omega)
theorem sh_textI {a b c d e : Int} {s : Bool} (h : isSh a b c d e s = true) : impl_Shape_text.F a b c d e s = some (shTx a b c d e s) := by
 obtain ⟨ha, hb, hc, hd, he⟩ := sh_bounds h
 rw [impl_Shape_text.F_eq, dg_impl (by omega)]
 simp only [impl_Shape_bends.f, Option.bind_some]
 refine sh_loopI [b, c, d, e] (fun x hx => ?_) (by simp) a b c d e s (dg a) (by rw [dg_size (by omega)]; omega)
 simp only [List.mem_cons, List.not_mem_nil, or_false] at hx
 rcases hx with rfl | rfl | rfl | rfl <;> assumption


/-! ### Numbers in decimal -/
theorem digit_fin : ∀ n : Fin 10, strOfNums [(wrap64 (48 + (n.val : Int))) % 256] = ⟨#[UInt8.ofNat (48 + n.val)]⟩ := by decide +kernel
theorem digit_some {n : Nat} (h : n < 10) : strOfNums [(wrap64 (48 + (n : Int))) % 256] = ⟨#[UInt8.ofNat (48 + n)]⟩ := digit_fin ⟨n, h⟩
theorem num_some (n : Nat) : n < 4611686018427387904 → spec_l1Num.F (n : Int) = some ⟨(Lib.decDigits n).toArray⟩ := by
 induction n using Nat.strongRecOn with
 | ind n ih =>
  intro hn
  rw [spec_l1Num.F_eq]
  by_cases c : n < 10
  ·rw [if_pos (by omega), Lib.decDigits_one c, digit_some c]
  ·have t1 : (n : Int).tdiv 10 = ((n / 10 : Nat) : Int) := by rw [Int.tdiv_eq_ediv_of_nonneg (by omega)]; omega
   have t2 : (n : Int).tmod 10 = ((n % 10 : Nat) : Int) := by rw [Int.tmod_eq_emod_of_nonneg (by omega)]; omega
   have hl := dec_length (n / 10)
   rw [if_neg (by omega), t1, wrap_in (by omega) (by omega), ih (n / 10) (by omega) (by omega), Option.bind_some, Option.bind_some, t2, digit_some (by omega)]
   have e : Lib.decDigits n = Lib.decDigits (n / 10) ++ [UInt8.ofNat (48 + n % 10)] := by rw [Lib.decDigits, dif_neg c]
   rw [if_pos (by simp only [ByteArray.size, List.size_toArray, List.length_cons, List.length_nil]; omega), e]
   first
   | rfl
   | (congr 1; done)
   | (congr 1; apply ext_data; rw [toList_data, toList_data]; simp)


theorem dg_spec {n : Int} (h : 0 ≤ n ∧ n ≤ 9) : spec_l1Num.F n = some (dg n) := by
 obtain ⟨m, rfl⟩ := Int.eq_ofNat_of_zero_le h.1
 rw [num_some m (by omega)]; rfl

theorem sh_loopS (l : List Int) (h : ∀ x ∈ l, 0 ≤ x ∧ x ≤ 2) (hl : l.length ≤ 100) (a b c d e : Int) (s : Bool) (acc : ByteArray) (ha : acc.size ≤ 1) :
 spec_shText.L0 acc l l.length 0 a b c d e s = some (shTail s (l.foldl (fun t n => t ++ dg n) acc)) := by
 have := each (L := fun i => (fun acc => spec_shText.L0 acc l l.length i a b c d e s : ByteArray → _)) l 0
  (fun i t f => (∀ x ∈ t, x ∈ l) → ∀ acc : ByteArray, acc.size ≤ i + 1 → f acc = some (shTail s (t.foldl (fun t n => t ++ dg n) acc))) ?_ ?_ (fun _ h => h) acc (by omega)
 ·exact this
 ·intro _ acc hs
  have one : (⟨#[115]⟩ : ByteArray).size = 1 := rfl
  show spec_shText.L0 acc l _ _ a b c d e s = _
  have hn : ¬ ((l.length : Int) < (l.length : Int)) := by omega
  rw [spec_shText.L0_eq, if_neg hn]
  unfold shTail
  cases s
  ·rfl
  ·rw [if_pos rfl, if_pos (by omega)]; rfl
 ·intro i x t hi hx _ _ ih hm acc hs
  have hx2 := h x (hm x (by simp))
  have h9 : 0 ≤ x ∧ x ≤ 9 := by omega
  have h1 := dg_size h9
  show spec_shText.L0 acc l _ _ a b c d e s = _
  rw [spec_shText.L0_eq, if_pos (by omega), if_pos (by omega), if_pos (by omega), rd_int, hx, dg_spec h9, Option.bind_some, if_pos (by omega), wrap_in (by omega) (by omega)]
  exact ih (fun y hy => hm y (by simp [hy])) _ (by rw [ByteArray.size_append]; omega)
theorem sh_textS {a b c d e : Int} {s : Bool} (h : isSh a b c d e s = true) : spec_shText.F a b c d e s = some (shTx a b c d e s) := by
 obtain ⟨ha, hb, hc, hd, he⟩ := sh_bounds h
 rw [spec_shText.F_eq, dg_spec (by omega)]
 simp only [spec_shFingers.f, Option.bind_some]
 refine sh_loopS [b, c, d, e] (fun x hx => ?_) (by simp) a b c d e s (dg a) (by rw [dg_size (by omega)]; omega)
 simp only [List.mem_cons, List.not_mem_nil, or_false] at hx
 rcases hx with rfl | rfl | rfl | rfl <;> assumption

theorem shapeText_same (a b c d e : Int) (s : Bool) : ∃ r, spec_ShapeText.F a b c d e s = some r ∧ impl_ShapeText.F a b c d e s = some r ∧ r = (if isSh a b c d e s = true then (shTx a b c d e s, true) else (⟨#[]⟩, false)) := by
 rw [spec_ShapeText.F_eq, impl_ShapeText.F_eq, shGood_some, isShape_some, Option.bind_some, Option.bind_some]
 cases h : isSh a b c d e s
 ·exact ⟨_, rfl, rfl, rfl⟩
 ·have h1 := sh_textS h
  have h2 := sh_textI h
  rw [if_pos rfl, if_pos rfl, h1, h2]; exact ⟨_, rfl, rfl, rfl⟩


/-! ### Texts of shapes, read -/
def vv (s : ByteArray) (i : Nat) : Int := bt s (i : Int) - 48
theorem vv_eq (s : ByteArray) (i : Nat) (h : i < s.size) : wrap64 (wrap64 (bt s (i : Int)) - 48) = vv s i := by
 have h1 := bt_data s i h
 have h2 := (s.data.toList.getD i 0).toNat_lt
 unfold vv
 rw [wrap_in (x := bt s (i : Int)) (by omega) (by omega), wrap_in (by omega) (by omega)]
theorem sp_step (s : ByteArray) (h5 : 5 ≤ s.size) (acc : List Int) (i : Nat) (h : i < 5) (ha : acc.length ≤ 10) : spec_shParse.L0 s acc (i : Int) = spec_shParse.L0 s (acc ++ [vv s i]) ((i + 1 : Nat) : Int) := by
 rw [spec_shParse.L0_eq, if_pos (by omega), if_pos (by omega), if_pos (by omega), if_pos (by omega), vv_eq s i (by omega), wrap_in (by omega) (by omega)]
 rfl
theorem sp_all (s : ByteArray) (h5 : 5 ≤ s.size) : spec_shParse.L0 s [] 0 = spec_shParse.L0 s [vv s 0, vv s 1, vv s 2, vv s 3, vv s 4] 5 :=
 (sp_step s h5 [] 0 (by omega) (by simp)).trans <| (sp_step s h5 [vv s 0] 1 (by omega) (by simp)).trans <| (sp_step s h5 [vv s 0, vv s 1] 2 (by omega) (by simp)).trans <| (sp_step s h5 [vv s 0, vv s 1, vv s 2] 3 (by omega) (by simp)).trans <| sp_step s h5 [vv s 0, vv s 1, vv s 2, vv s 3] 4 (by omega) (by simp)
theorem im_step (s : ByteArray) (h5 : 5 ≤ s.size) (a b c d e : Int) (i : Nat) (h : i < 5) : impl_ParseShape.L0 s (i : Int) a b c d e false = (impl_Shape_with.f a b c d e false (i : Int) (vv s i)).bind fun t => impl_ParseShape.L0 s ((i + 1 : Nat) : Int) t.1 t.2.1 t.2.2.1 t.2.2.2.1 t.2.2.2.2.1 t.2.2.2.2.2 := by
 rw [impl_ParseShape.L0_eq, if_pos (by omega), if_pos (by omega), if_pos (by omega), vv_eq s i (by omega), wrap_in (by omega) (by omega)]
 rfl
theorem with_at (a b c d e v : Int) (i : Nat) : impl_Shape_with.f a b c d e false (i : Int) v = some (if i = 0 then (v, b, c, d, e, false) else if i = 1 then (a, v, c, d, e, false) else if i = 2 then (a, b, v, d, e, false) else if i = 3 then (a, b, c, v, e, false) else (a, b, c, d, v, false)) := by
 unfold impl_Shape_with.f
 simp only [Bool.false_eq_true, if_false]
 by_cases h0 : i = 0
 ·rw [if_pos (by omega), if_pos h0]
 rw [if_neg (by omega), if_neg h0]
 by_cases h1 : i = 1
 ·rw [if_pos (by omega), if_pos h1]
 rw [if_neg (by omega), if_neg h1]
 by_cases h2 : i = 2
 ·rw [if_pos (by omega), if_pos h2]
 rw [if_neg (by omega), if_neg h2]
 by_cases h3 : i = 3
 ·rw [if_pos (by omega), if_pos h3]
 rw [if_neg (by omega), if_neg h3]
theorem im_all (s : ByteArray) (h5 : 5 ≤ s.size) : impl_ParseShape.L0 s 0 0 0 0 0 0 false = impl_ParseShape.L0 s 5 (vv s 0) (vv s 1) (vv s 2) (vv s 3) (vv s 4) false := by
 have e0 := im_step s h5 0 0 0 0 0 0 (by omega)
 have e1 := im_step s h5 (vv s 0) 0 0 0 0 1 (by omega)
 have e2 := im_step s h5 (vv s 0) (vv s 1) 0 0 0 2 (by omega)
 have e3 := im_step s h5 (vv s 0) (vv s 1) (vv s 2) 0 0 3 (by omega)
 have e4 := im_step s h5 (vv s 0) (vv s 1) (vv s 2) (vv s 3) 0 4 (by omega)
 rw [with_at, Option.bind_some] at e0 e1 e2 e3 e4
 exact e0.trans (e1.trans (e2.trans (e3.trans e4)))
/-- Do the numbers and the length make the text? -/
theorem parse_tx (s : ByteArray) (h5 : 5 ≤ s.size) (h6 : s.size ≤ 6) (hs : isSh (vv s 0) (vv s 1) (vv s 2) (vv s 3) (vv s 4) ((s.size : Int) == 6) = true) :
 (shTx (vv s 0) (vv s 1) (vv s 2) (vv s 3) (vv s 4) ((s.size : Int) == 6)).toList = s.toList ↔ (s.size = 6 → bt s 5 = 115) := by
 obtain ⟨h0, h1, h2, h3, h4⟩ := sh_bounds hs
 have hn := size_data s
 have hb : ∀ i < 5, (0 ≤ vv s i ∧ vv s i ≤ 2) → dg (vv s i) = ⟨#[s.data.toList.getD i 0]⟩ := by
  intro i hi hv
  have hbt := bt_data s i (by omega)
  have hlt := (s.data.toList.getD i 0).toNat_lt
  rw [dg_eq (by omega)]
  have : 48 + (vv s i).toNat = (s.data.toList.getD i 0).toNat := by unfold vv at hv ⊢; omega
  rw [this]; simp
 unfold shTx
 simp only [List.foldl_cons, List.foldl_nil]
 rw [hb 0 (by omega) h0, hb 1 (by omega) h1, hb 2 (by omega) h2, hb 3 (by omega) h3, hb 4 (by omega) h4]
 have h55 := bt_data s 5
 rw [toList_data, toList_data]
 generalize s.data.toList = l at *
 clear hs h0 h1 h2 h3 h4 hb
 rcases Nat.lt_or_ge 5 s.size with h7 | h7
 ·have e6 : s.size = 6 := by omega
  have e6' : ((s.size : Int) == 6) = true := by rw [e6]; rfl
  rw [e6'] 
  obtain ⟨b0, b1, b2, b3, b4, b5, rfl⟩ : ∃ b0 b1 b2 b3 b4 b5, l = [b0, b1, b2, b3, b4, b5] := by
   match l, (show l.length = 6 by omega) with
   | [b0, b1, b2, b3, b4, b5], _ => exact ⟨b0, b1, b2, b3, b4, b5, rfl⟩
  have hb5 := h55 (by omega)
  have hb5' : bt s 5 = (b5.toNat : Int) := hb5
  rw [hb5']
  constructor
  ·intro h _
   have h' : [b0, b1, b2, b3, b4, (115 : UInt8)] = [b0, b1, b2, b3, b4, b5] := h
   simp only [List.cons.injEq, true_and, and_true] at h'
   rw [← h']; rfl
  ·intro h
   have : b5 = 115 := UInt8.toNat_inj.1 (by have := h e6; have e : (115 : UInt8).toNat = 115 := rfl; omega)
   subst this
   rfl
 ·have e5 : s.size = 5 := by omega
  have e5' : ((s.size : Int) == 6) = false := by rw [e5]; rfl
  rw [e5']
  obtain ⟨b0, b1, b2, b3, b4, rfl⟩ : ∃ b0 b1 b2 b3 b4, l = [b0, b1, b2, b3, b4] := by
   match l, (show l.length = 5 by omega) with
   | [b0, b1, b2, b3, b4], _ => exact ⟨b0, b1, b2, b3, b4, rfl⟩
  constructor
  ·intro _ h; omega
  ·intro _; rfl
def shNone : Int × Int × Int × Int × Int × Bool × Bool := (0, 0, 0, 0, 0, false, false)
/-- What a text is read as. -/
def shRead (s : ByteArray) : Int × Int × Int × Int × Int × Bool × Bool := if (5 ≤ s.size ∧ s.size ≤ 6) ∧ (s.size = 6 → bt s 5 = 115) ∧ isSh (vv s 0) (vv s 1) (vv s 2) (vv s 3) (vv s 4) ((s.size : Int) == 6) = true then (vv s 0, vv s 1, vv s 2, vv s 3, vv s 4, ((s.size : Int) == 6), true) else shNone
theorem shParse_some (s : ByteArray) (hs : s.size ≤ 9223372036854775807) : spec_shParse.F s = some (shRead s) := by
 have hend : 5 ≤ s.size → spec_shParse.L0 s [] 0 = some (if isSh (vv s 0) (vv s 1) (vv s 2) (vv s 3) (vv s 4) ((s.size : Int) == 6) = true then (vv s 0, vv s 1, vv s 2, vv s 3, vv s 4, ((s.size : Int) == 6), true) else shNone) := by
  intro h5
  rw [sp_all s h5, spec_shParse.L0_eq, if_neg (by decide), if_pos (by simp), if_pos (by simp), if_pos (by simp), if_pos (by simp), if_pos (by simp)]
  show ((spec_shGood.F (vv s 0) (vv s 1) (vv s 2) (vv s 3) (vv s 4) ((s.size : Int) == 6)).bind fun t => if t = true then some (vv s 0, vv s 1, vv s 2, vv s 3, vv s 4, ((s.size : Int) == 6), true) else some (0, 0, 0, 0, 0, false, false)) = _
  rw [shGood_some, Option.bind_some]
  split <;> rfl
 rw [spec_shParse.F_eq, l1In_at, Option.bind_some]
 unfold shRead
 by_cases h : 5 ≤ s.size ∧ s.size ≤ 6
 ·rw [if_pos (by simp; omega)]
  by_cases h6 : s.size = 6
  ·rw [if_pos (by omega), if_pos (by omega), spec_shParse.J0_eq]
   by_cases h7 : bt s 5 = 115
   ·rw [if_neg (by simp [h7]), hend h.1]
    simp only [h, h7, implies_true, true_and, and_self]
   ·rw [if_pos (by simp [h7])]
    rw [if_neg (fun hh => h7 (hh.2.1 h6))]; rfl
  ·rw [if_neg (by omega), spec_shParse.J0_eq, if_neg (by simp), hend h.1]
   simp only [h, h6, false_implies, true_and, and_self]
 ·rw [if_neg (by simp; omega), spec_shParse.J0_eq, if_pos rfl, if_neg (fun hh => h hh.1)]; rfl
theorem implParse_some (s : ByteArray) (hs : s.size ≤ 9223372036854775807) : impl_ParseShape.F s = some (shRead s) := by
 rw [impl_ParseShape.F_eq, within_at, Option.bind_some]
 unfold shRead
 by_cases h : 5 ≤ s.size ∧ s.size ≤ 6
 ·rw [if_pos (by simp; omega), im_all s h.1, impl_ParseShape.L0_eq, if_neg (by decide), isShape_some, Option.bind_some]
  cases hg : isSh (vv s 0) (vv s 1) (vv s 2) (vv s 3) (vv s 4) ((s.size : Int) == 6)
  ·rw [if_neg (by simp), if_neg (by simp)]; rfl
  ·rw [if_pos rfl, sh_textI hg, Option.bind_some]
   by_cases h7 : s.size = 6 → bt s 5 = 115
   ·rw [if_pos ((parse_tx s h.1 h.2 hg).2 h7), if_pos ⟨h, h7, rfl⟩]
   ·rw [if_neg (fun hh => h7 ((parse_tx s h.1 h.2 hg).1 hh)), if_neg (fun hh => h7 hh.2.1)]; rfl
 ·rw [if_neg (by simp; omega), if_neg (fun hh => h hh.1)]; rfl

abbrev Sh := S25
theorem rd_sh (l : List Sh) (i : Nat) : rd_T25 l (i : Int) = l.getD i z25 := by simp [rd_T25]
def gd (x : Sh) : Bool := isSh x.f0 x.f1 x.f2 x.f3 x.f4 x.f5
def fg (x : Sh) (i : Nat) : Int := ([x.f1, x.f2, x.f3, x.f4] : List Int).getD i 0
def ab (n : Int) : Int := if 0 ≤ n then n else -n
theorem sh_eq {x y : Sh} (h0 : x.f0 = y.f0) (h1 : x.f1 = y.f1) (h2 : x.f2 = y.f2) (h3 : x.f3 = y.f3) (h4 : x.f4 = y.f4) (h5 : x.f5 = y.f5) : x = y := by
 cases x; cases y; simp_all
theorem good_iff (x : Sh) : gd x = true ↔ (0 ≤ x.f0 ∧ x.f0 ≤ 2) ∧ (0 ≤ x.f1 ∧ x.f1 ≤ 2) ∧ (0 ≤ x.f2 ∧ x.f2 ≤ 2) ∧ (0 ≤ x.f3 ∧ x.f3 ≤ 2) ∧ (0 ≤ x.f4 ∧ x.f4 ≤ 2) ∧ (x.f5 = true → wide x.f1 x.f2 x.f3 x.f4 = true) := by
 unfold gd isSh
 simp only [Bool.and_eq_true, decide_eq_true_eq, List.all_cons, List.all_nil, and_true]
 cases x.f5 <;> simp [and_assoc]
theorem fg_good {x : Sh} (h : gd x = true) (i : Nat) : 0 ≤ fg x i ∧ fg x i ≤ 2 := by
 obtain ⟨_, h1, h2, h3, h4, _⟩ := (good_iff x).1 h
 unfold fg
 match i with
 | 0 => exact h1
 | 1 => exact h2
 | 2 => exact h3
 | 3 => exact h4
 | n + 4 => simp
/-! ### Distances -/
def dfin (acc a a' : Int) (s s' : Bool) : Int := if a = a' then (if (s != s') = true then acc + 1 else acc) else (if (s != s') = true then acc + 1 + 1 else acc + 1)
def dist (x y : Sh) : Int := dfin (ab (x.f1 - y.f1) + ab (x.f2 - y.f2) + ab (x.f3 - y.f3) + ab (x.f4 - y.f4)) x.f0 y.f0 x.f5 y.f5
theorem ab_bd {n : Int} (h : -2 ≤ n ∧ n ≤ 2) : 0 ≤ ab n ∧ ab n ≤ 2 := by unfold ab; split <;> omega
theorem abs_some {n : Int} (h : -2 ≤ n ∧ n ≤ 2) : spec_l1Abs.f n = some (ab n) := by
 unfold spec_l1Abs.f spec_l1Most.f ab
 rw [wrap_in (x := -n) (by omega) (by omega)]
 by_cases c : n > -n
 ·rw [if_pos c, Option.bind_some, if_pos (by omega)]
 ·rw [if_neg c, Option.bind_some]
  by_cases c2 : 0 ≤ n
  ·rw [if_pos c2]; congr 1; omega
  ·rw [if_neg c2]
theorem dis_some {m n : Int} (h : 0 ≤ m ∧ m ≤ 2) (k : 0 ≤ n ∧ n ≤ 2) : impl_distance.f m n = some (ab (m - n)) := by
 unfold impl_distance.f ab mx
 rw [wrap_in (x := m - n) (by omega) (by omega), wrap_in (x := n - m) (by omega) (by omega)]
 congr 1
 split <;> split <;> omega
section
variable (x y : Sh) (hx : gd x = true) (hy : gd y = true)
include hx hy
theorem far_impl : impl_Shape_distance.F x.f0 x.f1 x.f2 x.f3 x.f4 x.f5 y.f0 y.f1 y.f2 y.f3 y.f4 y.f5 = some (dist x y) := by
 have step : ∀ (i : Nat) (acc : Int), i < 4 → (0 ≤ acc ∧ acc ≤ 100) → impl_Shape_distance.L0 acc [x.f1, x.f2, x.f3, x.f4] (([x.f1, x.f2, x.f3, x.f4] : List Int).length : Int) (i : Int) x.f0 x.f1 x.f2 x.f3 x.f4 x.f5 y.f0 y.f1 y.f2 y.f3 y.f4 y.f5 = impl_Shape_distance.L0 (acc + ab (fg x i - fg y i)) [x.f1, x.f2, x.f3, x.f4] (([x.f1, x.f2, x.f3, x.f4] : List Int).length : Int) ((i + 1 : Nat) : Int) x.f0 x.f1 x.f2 x.f3 x.f4 x.f5 y.f0 y.f1 y.f2 y.f3 y.f4 y.f5 := by
  intro i acc hi ha
  have h1 := fg_good hx i
  have h2 := fg_good hy i
  have h3 := ab_bd (n := fg x i - fg y i) (by omega)
  rw [impl_Shape_distance.L0_eq, if_pos (by simp; omega), if_pos (by omega), if_pos (by simp; omega)]
  simp only [impl_Shape_bends.f, Option.bind_some]
  rw [if_pos (by simp; omega), rd_int, rd_int, show ([x.f1, x.f2, x.f3, x.f4] : List Int).getD i 0 = fg x i from rfl, show ([y.f1, y.f2, y.f3, y.f4] : List Int).getD i 0 = fg y i from rfl, dis_some h1 h2, Option.bind_some, wrap_in (x := acc + _) (by omega) (by omega), wrap_in (x := (i : Int) + 1) (by omega) (by omega)]
  rfl
 have b0 := ab_bd (n := fg x 0 - fg y 0) (by have := fg_good hx 0; have := fg_good hy 0; omega)
 have b1 := ab_bd (n := fg x 1 - fg y 1) (by have := fg_good hx 1; have := fg_good hy 1; omega)
 have b2 := ab_bd (n := fg x 2 - fg y 2) (by have := fg_good hx 2; have := fg_good hy 2; omega)
 have b3 := ab_bd (n := fg x 3 - fg y 3) (by have := fg_good hx 3; have := fg_good hy 3; omega)
 rw [impl_Shape_distance.F_eq]
 simp only [impl_Shape_bends.f, Option.bind_some]
 refine (step 0 0 (by omega) (by omega)).trans ((step 1 _ (by omega) (by omega)).trans ((step 2 _ (by omega) (by omega)).trans ((step 3 _ (by omega) (by omega)).trans ?_)))
 rw [impl_Shape_distance.L0_eq, if_neg (by simp)]
 unfold dist dfin
 have e : 0 + ab (fg x 0 - fg y 0) + ab (fg x 1 - fg y 1) + ab (fg x 2 - fg y 2) + ab (fg x 3 - fg y 3) = ab (x.f1 - y.f1) + ab (x.f2 - y.f2) + ab (x.f3 - y.f3) + ab (x.f4 - y.f4) := by rw [Int.zero_add]; rfl
 rw [← e]
 generalize 0 + ab (fg x 0 - fg y 0) + ab (fg x 1 - fg y 1) + ab (fg x 2 - fg y 2) + ab (fg x 3 - fg y 3) = q at *
 have hq : 0 ≤ q ∧ q ≤ 8 := by
  have k0 : ab (x.f1 - y.f1) = ab (fg x 0 - fg y 0) := rfl
  have k1 : ab (x.f2 - y.f2) = ab (fg x 1 - fg y 1) := rfl
  have k2 : ab (x.f3 - y.f3) = ab (fg x 2 - fg y 2) := rfl
  have k3 : ab (x.f4 - y.f4) = ab (fg x 3 - fg y 3) := rfl
  omega
 rw [wrap_in (x := q + 1) (by omega) (by omega), wrap_in (x := q + 1 + 1) (by omega) (by omega)]
 repeat' split
 all_goals rfl
theorem far_spec : spec_shFar.F x.f0 x.f1 x.f2 x.f3 x.f4 x.f5 y.f0 y.f1 y.f2 y.f3 y.f4 y.f5 = some (dist x y) := by
 have step : ∀ (i : Nat) (acc : Int), i < 4 → (0 ≤ acc ∧ acc ≤ 100) → spec_shFar.L0 [x.f1, x.f2, x.f3, x.f4] [y.f1, y.f2, y.f3, y.f4] acc (([x.f1, x.f2, x.f3, x.f4] : List Int).length : Int) (i : Int) x.f0 x.f1 x.f2 x.f3 x.f4 x.f5 y.f0 y.f1 y.f2 y.f3 y.f4 y.f5 = spec_shFar.L0 [x.f1, x.f2, x.f3, x.f4] [y.f1, y.f2, y.f3, y.f4] (acc + ab (fg x i - fg y i)) (([x.f1, x.f2, x.f3, x.f4] : List Int).length : Int) ((i + 1 : Nat) : Int) x.f0 x.f1 x.f2 x.f3 x.f4 x.f5 y.f0 y.f1 y.f2 y.f3 y.f4 y.f5 := by
  intro i acc hi ha
  have h1 := fg_good hx i
  have h2 := fg_good hy i
  have h3 := ab_bd (n := fg x i - fg y i) (by omega)
  rw [spec_shFar.L0_eq, if_pos (by simp; omega), if_pos (by omega), if_pos (by simp; omega), if_pos (by simp; omega), rd_int, rd_int, show ([x.f1, x.f2, x.f3, x.f4] : List Int).getD i 0 = fg x i from rfl, show ([y.f1, y.f2, y.f3, y.f4] : List Int).getD i 0 = fg y i from rfl, wrap_in (x := fg x i - fg y i) (by omega) (by omega), abs_some (by omega), Option.bind_some, wrap_in (x := acc + _) (by omega) (by omega), wrap_in (x := (i : Int) + 1) (by omega) (by omega)]
  rfl
 have b0 := ab_bd (n := fg x 0 - fg y 0) (by have := fg_good hx 0; have := fg_good hy 0; omega)
 have b1 := ab_bd (n := fg x 1 - fg y 1) (by have := fg_good hx 1; have := fg_good hy 1; omega)
 have b2 := ab_bd (n := fg x 2 - fg y 2) (by have := fg_good hx 2; have := fg_good hy 2; omega)
 have b3 := ab_bd (n := fg x 3 - fg y 3) (by have := fg_good hx 3; have := fg_good hy 3; omega)
 rw [spec_shFar.F_eq]
 simp only [spec_shFingers.f, Option.bind_some]
 refine (step 0 0 (by omega) (by omega)).trans ((step 1 _ (by omega) (by omega)).trans ((step 2 _ (by omega) (by omega)).trans ((step 3 _ (by omega) (by omega)).trans ?_)))
 rw [spec_shFar.L0_eq, if_neg (by simp)]
 unfold dist dfin
 have e : 0 + ab (fg x 0 - fg y 0) + ab (fg x 1 - fg y 1) + ab (fg x 2 - fg y 2) + ab (fg x 3 - fg y 3) = ab (x.f1 - y.f1) + ab (x.f2 - y.f2) + ab (x.f3 - y.f3) + ab (x.f4 - y.f4) := by rw [Int.zero_add]; rfl
 rw [← e]
 generalize 0 + ab (fg x 0 - fg y 0) + ab (fg x 1 - fg y 1) + ab (fg x 2 - fg y 2) + ab (fg x 3 - fg y 3) = q at *
 have hq : 0 ≤ q ∧ q ≤ 8 := by
  have k0 : ab (x.f1 - y.f1) = ab (fg x 0 - fg y 0) := rfl
  have k1 : ab (x.f2 - y.f2) = ab (fg x 1 - fg y 1) := rfl
  have k2 : ab (x.f3 - y.f3) = ab (fg x 2 - fg y 2) := rfl
  have k3 : ab (x.f4 - y.f4) = ab (fg x 3 - fg y 3) := rfl
  omega
 rw [wrap_in (x := q + 1) (by omega) (by omega), wrap_in (x := q + 1 + 1) (by omega) (by omega)]
 repeat' split
 all_goals rfl
end
def dres (x y : Sh) : Int × Bool := if gd x = true ∧ gd y = true then (dist x y, true) else (0, false)
theorem disI (x y : Sh) : impl_ShapeDistance.F x.f0 x.f1 x.f2 x.f3 x.f4 x.f5 y.f0 y.f1 y.f2 y.f3 y.f4 y.f5 = some (dres x y) := by
 rw [impl_ShapeDistance.F_eq, isShape_some, isShape_some]
 unfold dres
 cases hx : gd x
 ·have hx' : isSh x.f0 x.f1 x.f2 x.f3 x.f4 x.f5 = false := hx
  rw [hx']; simp
 cases hy : gd y
 ·have hx' : isSh x.f0 x.f1 x.f2 x.f3 x.f4 x.f5 = true := hx
  have hy' : isSh y.f0 y.f1 y.f2 y.f3 y.f4 y.f5 = false := hy
  rw [hx', hy']; simp
 have hx' : isSh x.f0 x.f1 x.f2 x.f3 x.f4 x.f5 = true := hx
 have hy' : isSh y.f0 y.f1 y.f2 y.f3 y.f4 y.f5 = true := hy
 rw [hx', hy', far_impl x y hx hy]
 rfl
theorem disS (x y : Sh) : spec_ShapeDistance.F x.f0 x.f1 x.f2 x.f3 x.f4 x.f5 y.f0 y.f1 y.f2 y.f3 y.f4 y.f5 = some (dres x y) := by
 rw [spec_ShapeDistance.F_eq, shGood_some, shGood_some]
 unfold dres
 cases hx : gd x
 ·have hx' : isSh x.f0 x.f1 x.f2 x.f3 x.f4 x.f5 = false := hx
  rw [hx']; simp
 cases hy : gd y
 ·have hx' : isSh x.f0 x.f1 x.f2 x.f3 x.f4 x.f5 = true := hx
  have hy' : isSh y.f0 y.f1 y.f2 y.f3 y.f4 y.f5 = false := hy
  rw [hx', hy']; simp
 have hx' : isSh x.f0 x.f1 x.f2 x.f3 x.f4 x.f5 = true := hx
 have hy' : isSh y.f0 y.f1 y.f2 y.f3 y.f4 y.f5 = true := hy
 rw [hx', hy', far_spec x y hx hy]
 rfl
theorem ab_nn (n : Int) : 0 ≤ ab n := by unfold ab; split <;> omega
theorem ab_zero {n : Int} (h : ab n = 0) : n = 0 := by unfold ab at h; split at h <;> omega
theorem ab_symm (m n : Int) : ab (m - n) = ab (n - m) := by unfold ab; split <;> split <;> omega
theorem dist_symm (x y : Sh) : dist x y = dist y x := by
 unfold dist dfin
 rw [ab_symm x.f1, ab_symm x.f2, ab_symm x.f3, ab_symm x.f4]
 by_cases c : x.f0 = y.f0
 ·rw [if_pos c, if_pos (show y.f0 = x.f0 from c.symm)]; cases x.f5 <;> cases y.f5 <;> rfl
 ·rw [if_neg c, if_neg (show ¬ y.f0 = x.f0 from fun h => c h.symm)]; cases x.f5 <;> cases y.f5 <;> rfl
theorem dist_zero (x y : Sh) : dist x y = 0 ↔ x = y := by
 have n1 := ab_nn (x.f1 - y.f1)
 have n2 := ab_nn (x.f2 - y.f2)
 have n3 := ab_nn (x.f3 - y.f3)
 have n4 := ab_nn (x.f4 - y.f4)
 constructor
 ·intro h
  unfold dist dfin at h
  split at h
  ·rename_i c
   split at h
   ·omega
   ·rename_i d
    have e1 := ab_zero (n := x.f1 - y.f1) (by omega)
    have e2 := ab_zero (n := x.f2 - y.f2) (by omega)
    have e3 := ab_zero (n := x.f3 - y.f3) (by omega)
    have e4 := ab_zero (n := x.f4 - y.f4) (by omega)
    exact sh_eq c (by omega) (by omega) (by omega) (by omega) (by simpa using d)
  ·split at h <;> omega
 ·rintro rfl
  unfold dist dfin
  simp [ab]
/-! ### Ways -/
def Steps : Sh → List Sh → Sh → Prop
 | c, [], d => c = d
 | c, x :: t, d => (c ≠ x ∧ gd x = true ∧ dist c x ≤ 2) ∧ Steps x t d
theorem Steps.append {b c : Sh} : ∀ {a : Sh} {s t : List Sh}, Steps a s b → Steps b t c → Steps a (s ++ t) c
 | a, [], t, h, k => by
  have : a = b := h
  subst this; exact k
 | a, x :: s, t, h, k => ⟨h.1, Steps.append h.2 k⟩
theorem Steps.one {a b : Sh} (h1 : a ≠ b) (h2 : gd b = true) (h3 : dist a b ≤ 2) : Steps a [b] b := ⟨⟨h1, h2, h3⟩, rfl⟩
theorem Steps.at {b : Sh} : ∀ {a : Sh} {s : List Sh}, gd a = true → Steps a s b → ((a :: s).getD s.length z25 = b) ∧ ∀ i, i < s.length → gd ((a :: s).getD i z25) = true ∧ gd ((a :: s).getD (i + 1) z25) = true ∧ (a :: s).getD i z25 ≠ (a :: s).getD (i + 1) z25 ∧ dist ((a :: s).getD i z25) ((a :: s).getD (i + 1) z25) ≤ 2
 | a, [], ha, h => ⟨h, by simp⟩
 | a, x :: s, ha, h => by
  obtain ⟨⟨h1, h2, h3⟩, h4⟩ := h
  obtain ⟨k1, k2⟩ := Steps.at h2 h4
  refine ⟨by simpa using k1, fun i hi => ?_⟩
  match i with
  | 0 => exact ⟨ha, h2, h1, h3⟩
  | i + 1 => exact k2 i (by simpa using hi)
def setF (c : Sh) (i : Nat) (v : Int) : Sh := match i with
 | 0 => ⟨c.f0, v, c.f2, c.f3, c.f4, c.f5 && wide v c.f2 c.f3 c.f4⟩
 | 1 => ⟨c.f0, c.f1, v, c.f3, c.f4, c.f5 && wide c.f1 v c.f3 c.f4⟩
 | 2 => ⟨c.f0, c.f1, c.f2, v, c.f4, c.f5 && wide c.f1 c.f2 v c.f4⟩
 | _ => ⟨c.f0, c.f1, c.f2, c.f3, v, c.f5 && wide c.f1 c.f2 c.f3 v⟩
def tup (c : Sh) : Int × Int × Int × Int × Int × Bool := (c.f0, c.f1, c.f2, c.f3, c.f4, c.f5)
theorem shMade_some (a b c d e : Int) (s : Bool) : spec_shMade.F a [b, c, d, e] s = some (a, b, c, d, e, s && wide b c d e) := by
 rw [spec_shMade.F_eq, if_pos (by simp), if_pos (by simp), if_pos (by simp), if_pos (by simp)]
 simp only [show rd [b, c, d, e] 0 = b from rfl, show rd [b, c, d, e] 1 = c from rfl, show rd [b, c, d, e] 2 = d from rfl, show rd [b, c, d, e] 3 = e from rfl, wide_spec, Option.bind_some]
 cases s <;> rfl
theorem shSet_some (c : Sh) (i : Nat) (hi : i < 4) (v : Int) : spec_shSet.F c.f0 c.f1 c.f2 c.f3 c.f4 c.f5 ((i + 1 : Nat) : Int) v = some (tup (setF c i v)) := by
 rw [spec_shSet.F_eq, if_neg (by omega), wrap_in (by omega) (by omega)]
 simp only [spec_shFingers.f, Option.bind_some]
 rw [if_pos (by omega), if_pos (by simp; omega), show ((((i + 1 : Nat) : Int) - 1) : Int).toNat = i from by omega]
 match i, hi with
 | 0, _ => simp only [List.set_cons_zero, shMade_some, Option.bind_some]; rfl
 | 1, _ => simp only [List.set_cons_zero, List.set_cons_succ, shMade_some, Option.bind_some]; rfl
 | 2, _ => simp only [List.set_cons_zero, List.set_cons_succ, shMade_some, Option.bind_some]; rfl
 | 3, _ => simp only [List.set_cons_zero, List.set_cons_succ, shMade_some, Option.bind_some]; rfl
theorem with_some (c : Sh) (i : Nat) (hi : i < 4) (v : Int) : impl_Shape_with.f c.f0 c.f1 c.f2 c.f3 c.f4 c.f5 ((i + 1 : Nat) : Int) v = some (tup (setF c i v)) := by
 unfold impl_Shape_with.f
 simp only [wide_impl, Option.bind_some]
 match i, hi with
 | 0, _ => rw [if_neg (by decide), if_pos (by decide)]; unfold setF tup; cases c.f5 <;> rfl
 | 1, _ => rw [if_neg (by decide), if_neg (by decide), if_pos (by decide)]; unfold setF tup; cases c.f5 <;> rfl
 | 2, _ => rw [if_neg (by decide), if_neg (by decide), if_neg (by decide), if_pos (by decide)]; unfold setF tup; cases c.f5 <;> rfl
 | 3, _ => rw [if_neg (by decide), if_neg (by decide), if_neg (by decide), if_neg (by decide)]; unfold setF tup; cases c.f5 <;> rfl
theorem set_good {c : Sh} (h : gd c = true) {i : Nat} (hi : i < 4) {v : Int} (hv : 0 ≤ v ∧ v ≤ 2) : gd (setF c i v) = true := by
 obtain ⟨h0, h1, h2, h3, h4, _⟩ := (good_iff c).1 h
 rw [good_iff]
 match i, hi with
 | 0, _ => exact ⟨h0, hv, h2, h3, h4, fun e => by simp only [setF, Bool.and_eq_true] at e ⊢; exact e.2⟩
 | 1, _ => exact ⟨h0, h1, hv, h3, h4, fun e => by simp only [setF, Bool.and_eq_true] at e ⊢; exact e.2⟩
 | 2, _ => exact ⟨h0, h1, h2, hv, h4, fun e => by simp only [setF, Bool.and_eq_true] at e ⊢; exact e.2⟩
 | 3, _ => exact ⟨h0, h1, h2, h3, hv, fun e => by simp only [setF, Bool.and_eq_true] at e ⊢; exact e.2⟩
theorem set_at (c : Sh) {i : Nat} (hi : i < 4) (v : Int) : fg (setF c i v) i = v := by
 match i, hi with
 | 0, _ => rfl
 | 1, _ => rfl
 | 2, _ => rfl
 | 3, _ => rfl
theorem set_off (c : Sh) {i : Nat} (hi : i < 4) (v : Int) (j : Nat) (hj : j < 4) (h : j ≠ i) : fg (setF c i v) j = fg c j := by
 match i, hi, j, hj with
 | 0, _, 0, _ | 1, _, 1, _ | 2, _, 2, _ | 3, _, 3, _ => exact absurd rfl h
 | 0, _, 1, _ | 0, _, 2, _ | 0, _, 3, _ | 1, _, 0, _ | 1, _, 2, _ | 1, _, 3, _ | 2, _, 0, _ | 2, _, 1, _ | 2, _, 3, _ | 3, _, 0, _ | 3, _, 1, _ | 3, _, 2, _ => rfl
theorem set_thumb (c : Sh) {i : Nat} (hi : i < 4) (v : Int) : (setF c i v).f0 = c.f0 ∧ ((setF c i v).f5 = true → c.f5 = true) := by
 match i, hi with
 | 0, _ => exact ⟨rfl, fun e => by simp only [setF, Bool.and_eq_true] at e; exact e.1⟩
 | 1, _ => exact ⟨rfl, fun e => by simp only [setF, Bool.and_eq_true] at e; exact e.1⟩
 | 2, _ => exact ⟨rfl, fun e => by simp only [setF, Bool.and_eq_true] at e; exact e.1⟩
 | 3, _ => exact ⟨rfl, fun e => by simp only [setF, Bool.and_eq_true] at e; exact e.1⟩
theorem ab_self (n : Int) : ab (n - n) = 0 := by unfold ab; split <;> omega
theorem dfin_le (acc a : Int) (s s' : Bool) : dfin acc a a s s' ≤ acc + 1 := by
 unfold dfin
 rw [if_pos rfl]; split <;> omega
theorem set_dist (c : Sh) {i : Nat} (hi : i < 4) (v : Int) : dist c (setF c i v) ≤ ab (fg c i - v) + 1 := by
 match i, hi with
 | 0, _ => refine Int.le_trans (dfin_le _ _ _ _) ?_; show ab (c.f1 - v) + ab (c.f2 - c.f2) + ab (c.f3 - c.f3) + ab (c.f4 - c.f4) + 1 ≤ ab (c.f1 - v) + 1; simp only [ab_self]; omega
 | 1, _ => refine Int.le_trans (dfin_le _ _ _ _) ?_; show ab (c.f1 - c.f1) + ab (c.f2 - v) + ab (c.f3 - c.f3) + ab (c.f4 - c.f4) + 1 ≤ ab (c.f2 - v) + 1; simp only [ab_self]; omega
 | 2, _ => refine Int.le_trans (dfin_le _ _ _ _) ?_; show ab (c.f1 - c.f1) + ab (c.f2 - c.f2) + ab (c.f3 - v) + ab (c.f4 - c.f4) + 1 ≤ ab (c.f3 - v) + 1; simp only [ab_self]; omega
 | 3, _ => refine Int.le_trans (dfin_le _ _ _ _) ?_; show ab (c.f1 - c.f1) + ab (c.f2 - c.f2) + ab (c.f3 - c.f3) + ab (c.f4 - v) + 1 ≤ ab (c.f4 - v) + 1; simp only [ab_self]; omega
def sg (v t : Int) : Int := if v < t then 1 else -1
theorem sign_some {v t : Int} (hv : 0 ≤ v ∧ v ≤ 2) (ht : 0 ≤ t ∧ t ≤ 2) (h : v ≠ t) : spec_l1Sign.f (wrap64 (t - v)) = some (sg v t) ∧ cmp_Compare_int.f t v = some (sg v t) := by
 rw [wrap_in (by omega) (by omega)]
 unfold spec_l1Sign.f cmp_Compare_int.f cmp_isNaN_int.f sg
 simp only [Option.bind_some, bne_self_eq_false, Bool.false_eq_true, if_false]
 by_cases c : v < t
 ·simp [c, show ¬ t < v by omega, show 0 < t - v by omega]
 ·have : t < v := by omega
  simp [c, this, show ¬ (0 < t - v) by omega, show t - v < 0 by omega]
instance : DecidableEq Sh := fun x y => decidable_of_iff (x.f0 = y.f0 ∧ x.f1 = y.f1 ∧ x.f2 = y.f2 ∧ x.f3 = y.f3 ∧ x.f4 = y.f4 ∧ x.f5 = y.f5) ⟨fun h => sh_eq h.1 h.2.1 h.2.2.1 h.2.2.2.1 h.2.2.2.2.1 h.2.2.2.2.2, fun h => by subst h; simp⟩
section
variable (b : Sh)
noncomputable def sL0 (X : List Sh) (l : List Int) (i : Int) (c : Sh) : Option (List Sh × Bool) := spec_ShapeWay.L0 X l l.length i b.f0 b.f1 b.f2 b.f3 b.f4 b.f5 c.f0 c.f1 c.f2 c.f3 c.f4 c.f5
noncomputable def iL0 (X : List Sh) (l : List Int) (i : Int) (c : Sh) : Option (List Sh × Bool) := impl_ShapeWay.L0 X l l.length i b.f0 b.f1 b.f2 b.f3 b.f4 b.f5 c.f0 c.f1 c.f2 c.f3 c.f4 c.f5
noncomputable def sL1 (X : List Sh) (l : List Int) (i : Int) (t : Int) (c : Sh) : Option (List Sh × Bool) := spec_ShapeWay.L1 X i t l l.length i b.f0 b.f1 b.f2 b.f3 b.f4 b.f5 c.f0 c.f1 c.f2 c.f3 c.f4 c.f5
noncomputable def iL1 (X : List Sh) (l : List Int) (i : Int) (t : Int) (c : Sh) : Option (List Sh × Bool) := impl_ShapeWay.L1 X i t l l.length i b.f0 b.f1 b.f2 b.f3 b.f4 b.f5 c.f0 c.f1 c.f2 c.f3 c.f4 c.f5
theorem finger (l : List Int) (i : Nat) (hi : i < 4) (t : Int) (ht : 0 ≤ t ∧ t ≤ 2) : ∀ (n : Nat) (c : Sh) (X : List Sh), ab (fg c i - t) = n → gd c = true → X.length + n ≤ 100 →
 ∃ W c', sL1 b X l i t c = sL0 b (X ++ W) l ((i + 1 : Nat) : Int) c' ∧ iL1 b X l i t c = iL0 b (X ++ W) l ((i + 1 : Nat) : Int) c' ∧ Steps c W c' ∧ gd c' = true ∧ W.length = n ∧ fg c' i = t ∧ (∀ j, j < 4 → j ≠ i → fg c' j = fg c j) ∧ c'.f0 = c.f0 ∧ (c'.f5 = true → c.f5 = true) := by
 intro n
 have ei : (i : Int) + 1 = ((i + 1 : Nat) : Int) := by omega
 induction n with
 | zero =>
  intro c X hn hc hX
  have e : fg c i = t := by have := ab_zero hn; omega
  refine ⟨[], c, ?_, ?_, rfl, hc, rfl, e, fun _ _ _ => rfl, rfl, id⟩
  ·unfold sL1
   rw [spec_ShapeWay.L1_eq]
   simp only [spec_shFingers.f, Option.bind_some]
   rw [if_pos (by omega), if_pos (by simp; omega), rd_int, if_pos (show ([c.f1, c.f2, c.f3, c.f4] : List Int).getD i 0 = t from e), wrap_in (by omega) (by omega), List.append_nil, ei]
   rfl
  ·unfold iL1
   rw [impl_ShapeWay.L1_eq]
   simp only [impl_Shape_bends.f, Option.bind_some]
   rw [if_pos (by omega), if_pos (by simp; omega), rd_int, if_pos (show ([c.f1, c.f2, c.f3, c.f4] : List Int).getD i 0 = t from e), wrap_in (by omega) (by omega), List.append_nil, ei]
   rfl
 | succ n ih =>
  intro c X hn hc hX
  have i1 : (i : Int) < (([c.f1, c.f2, c.f3, c.f4] : List Int).length : Int) := by simp; omega
  have i0 : (0 : Int) ≤ (i : Int) := by omega
  have er : rd [c.f1, c.f2, c.f3, c.f4] (i : Int) = fg c i := rd_int _ i
  have x1 : X.length < 2932031007402 := by omega
  have wi : wrap64 ((i : Int) + 1) = ((i + 1 : Nat) : Int) := by rw [wrap_in (by omega) (by omega)]; rfl
  have hv := fg_good hc i
  have hne : fg c i ≠ t := fun e => by rw [e, ab_self] at hn; omega
  have hs : sg (fg c i) t = 1 ∧ fg c i < t ∨ sg (fg c i) t = -1 ∧ t < fg c i := by
   unfold sg
   by_cases h : fg c i < t
   ·rw [if_pos h]; exact .inl ⟨rfl, h⟩
   ·rw [if_neg h]; exact .inr ⟨rfl, by omega⟩
  have wv : wrap64 (fg c i + sg (fg c i) t) = fg c i + sg (fg c i) t := wrap_in (by omega) (by omega)
  have hc1 : gd (setF c i (fg c i + sg (fg c i) t)) = true := set_good hc hi (by omega)
  have hd : dist c (setF c i (fg c i + sg (fg c i) t)) ≤ 2 := by
   refine Int.le_trans (set_dist c hi _) ?_
   unfold ab; split <;> omega
  have hat := set_at c hi (fg c i + sg (fg c i) t)
  have hne1 : c ≠ setF c i (fg c i + sg (fg c i) t) := fun e => by
   have : fg c i = fg c i + sg (fg c i) t := by
    conv => lhs; rw [e]
    exact hat
   omega
  have hab : ab (fg (setF c i (fg c i + sg (fg c i) t)) i - t) = n := by
   rw [hat]
   unfold ab at hn ⊢
   split at hn <;> split <;> omega
  obtain ⟨W, c', k1, k2, k3, k4, k5, k6, k7, k8, k9⟩ := ih (setF c i (fg c i + sg (fg c i) t)) (X ++ [setF c i (fg c i + sg (fg c i) t)]) hab hc1 (by simp; omega)
  have hset := set_thumb c hi (fg c i + sg (fg c i) t)
  obtain ⟨g1, g2⟩ := sign_some hv ht hne
  have ex : X ++ setF c i (fg c i + sg (fg c i) t) :: W = X ++ [setF c i (fg c i + sg (fg c i) t)] ++ W := by simp
  refine ⟨setF c i (fg c i + sg (fg c i) t) :: W, c', ?_, ?_, ⟨⟨hne1, hc1, hd⟩, k3⟩, k4, by simp [k5], k6, fun j h1 h2 => (k7 j h1 h2).trans (set_off c hi _ j h1 h2), k8.trans hset.1, fun h => hset.2 (k9 h)⟩
  ·rw [ex, ← k1]
   unfold sL1
   rw [spec_ShapeWay.L1_eq]
   simp only [spec_shFingers.f, Option.bind_some, i0, i1, if_true, er, hne, if_false, g1, wv, wi, shSet_some c i hi, x1]
   rfl
  ·rw [ex, ← k2]
   unfold iL1
   rw [impl_ShapeWay.L1_eq]
   simp only [impl_Shape_bends.f, Option.bind_some, i0, i1, if_true, er, hne, if_false, g2, wv, wi, with_some c i hi, x1]
   rfl
theorem sh_ne (x y : Sh) : (!(x.f0 == y.f0) || (!(x.f1 == y.f1) || (!(x.f2 == y.f2) || (!(x.f3 == y.f3) || (!(x.f4 == y.f4) || (!(x.f5 == y.f5))))))) = !(decide (x = y)) := by
 by_cases h : x = y
 ·subst h; simp
 ·rw [decide_eq_false h]
  cases hh : (!(x.f0 == y.f0) || (!(x.f1 == y.f1) || (!(x.f2 == y.f2) || (!(x.f3 == y.f3) || (!(x.f4 == y.f4) || (!(x.f5 == y.f5)))))))
  ·simp only [Bool.or_eq_false_iff, Bool.not_eq_false', beq_iff_eq] at hh
   exact absurd (sh_eq hh.1 hh.2.1 hh.2.2.1 hh.2.2.2.1 hh.2.2.2.2.1 hh.2.2.2.2.2) h
  ·rfl
theorem way_end (l : List Int) (hl : l.length = 4) (X : List Sh) (c : Sh) (hc : gd c = true) (hb : gd b = true) (e1 : c.f1 = b.f1) (e2 : c.f2 = b.f2) (e3 : c.f3 = b.f3) (e4 : c.f4 = b.f4) (h5 : c.f5 = true → b.f5 = true) (hX : X.length ≤ 100) :
 ∃ W, sL0 b X l 4 c = some (X ++ W, true) ∧ iL0 b X l 4 c = some (X ++ W, true) ∧ Steps c W b ∧ (c.f0 ≠ b.f0 → 1 ≤ W.length) ∧ W.length ≤ 2 := by
 have last : ∀ x : Sh, x.f0 = b.f0 → x.f1 = b.f1 → x.f2 = b.f2 → x.f3 = b.f3 → x.f4 = b.f4 → x ≠ b → dist x b ≤ 2 := fun x q0 q1 q2 q3 q4 _ => by
  unfold dist
  rw [q0, q1, q2, q3, q4]
  refine Int.le_trans (dfin_le _ _ _ _) ?_
  simp only [ab_self]; decide
 have x1 : X.length < 2932031007402 := by omega
 by_cases c0 : c.f0 = b.f0
 ·have ss : sL0 b X l 4 c = (if (!(decide (c = b))) = true then some (X ++ [b], true) else some (X, true)) := by
   unfold sL0
   rw [spec_ShapeWay.L0_eq, if_neg (by omega), if_pos c0, sh_ne c b, if_pos x1]
  have ii : iL0 b X l 4 c = (if (!(decide (c = b))) = true then some (X ++ [b], true) else some (X, true)) := by
   unfold iL0
   rw [impl_ShapeWay.L0_eq, if_neg (by omega), if_pos c0, sh_ne c b, if_pos x1]
  rw [ss, ii]
  by_cases d : c = b
  ·rw [decide_eq_true d]
   exact ⟨[], by simp, by simp, d, fun h => absurd c0 h, by simp⟩
  ·rw [decide_eq_false d]
   exact ⟨[b], by simp, by simp, Steps.one d hb (last c c0 e1 e2 e3 e4 d), fun h => absurd c0 h, by simp⟩
 ·have hcw : (c.f5 && wide c.f1 c.f2 c.f3 c.f4) = c.f5 := by
   have := ((good_iff c).1 hc).2.2.2.2.2
   cases h : c.f5
   ·rfl
   ·rw [this h]; rfl
  have hm : spec_shSet.F c.f0 c.f1 c.f2 c.f3 c.f4 c.f5 0 b.f0 = some (b.f0, c.f1, c.f2, c.f3, c.f4, c.f5) := by
   rw [spec_shSet.F_eq, if_pos rfl]
   simp only [spec_shFingers.f, Option.bind_some, shMade_some, hcw]
  obtain ⟨m, hmm⟩ : ∃ m : Sh, m = ⟨b.f0, c.f1, c.f2, c.f3, c.f4, c.f5⟩ := ⟨_, rfl⟩
  have x2 : (X ++ [m]).length < 2932031007402 := by simp; omega
  have ss : sL0 b X l 4 c = (if (!(decide (m = b))) = true then some (X ++ [m] ++ [b], true) else some (X ++ [m], true)) := by
   unfold sL0
   rw [spec_ShapeWay.L0_eq, if_neg (by omega), if_neg c0, hm]
   simp only [Option.bind_some]
   have q := sh_ne m b
   rw [hmm] at q x2 ⊢
   simp only at q
   rw [if_pos x1, q, if_pos x2]
  have ii : iL0 b X l 4 c = (if (!(decide (m = b))) = true then some (X ++ [m] ++ [b], true) else some (X ++ [m], true)) := by
   unfold iL0
   rw [impl_ShapeWay.L0_eq, if_neg (by omega), if_neg c0, if_pos x1]
   simp only [Option.bind_some]
   have q := sh_ne m b
   rw [hmm] at q x2 ⊢
   simp only [beq_self_eq_true, Bool.not_true, Bool.false_or] at q
   rw [q, if_pos x2]
  have hgm : gd m = true := by
   obtain ⟨g0, g1, g2, g3, g4, g5⟩ := (good_iff c).1 hc
   rw [good_iff, hmm]
   exact ⟨((good_iff b).1 hb).1, g1, g2, g3, g4, g5⟩
  have hne : c ≠ m := fun h => c0 (by rw [h, hmm])
  have hdm : dist c m ≤ 2 := by
   rw [hmm]
   unfold dist dfin
   simp only [ab_self]
   rw [if_neg c0]; simp
  rw [ss, ii]
  by_cases d : m = b
  ·rw [decide_eq_true d]
   exact ⟨[m], by simp, by simp, ⟨⟨hne, hgm, hdm⟩, d⟩, fun _ => by simp, by simp⟩
  ·rw [decide_eq_false d]
   exact ⟨[m, b], by simp, by simp, ⟨⟨hne, hgm, hdm⟩, Steps.one d hb (last m (by rw [hmm]) (by rw [hmm]; exact e1) (by rw [hmm]; exact e2) (by rw [hmm]; exact e3) (by rw [hmm]; exact e4) d)⟩, fun _ => by simp, by simp⟩
theorem way_walk (X : List Sh) (c : Sh) (hc : gd c = true) (hb : gd b = true) (h5 : c.f5 = true → b.f5 = true) (hX : X.length ≤ 50) :
 ∃ W, sL0 b X [b.f1, b.f2, b.f3, b.f4] 0 c = some (X ++ W, true) ∧ iL0 b X [b.f1, b.f2, b.f3, b.f4] 0 c = some (X ++ W, true) ∧ Steps c W b ∧ dfin (ab (c.f1 - b.f1) + ab (c.f2 - b.f2) + ab (c.f3 - b.f3) + ab (c.f4 - b.f4)) c.f0 b.f0 true true ≤ (W.length : Int) ∧ W.length ≤ 20 := by
 have one : ∀ (i : Nat) (X : List Sh) (c : Sh), i < 4 → gd c = true → X.length ≤ 90 → ∃ W c', sL0 b X [b.f1, b.f2, b.f3, b.f4] i c = sL0 b (X ++ W) [b.f1, b.f2, b.f3, b.f4] ((i + 1 : Nat) : Int) c' ∧ iL0 b X [b.f1, b.f2, b.f3, b.f4] i c = iL0 b (X ++ W) [b.f1, b.f2, b.f3, b.f4] ((i + 1 : Nat) : Int) c' ∧ Steps c W c' ∧ gd c' = true ∧ (W.length : Int) = ab (fg c i - fg b i) ∧ fg c' i = fg b i ∧ (∀ j, j < 4 → j ≠ i → fg c' j = fg c j) ∧ c'.f0 = c.f0 ∧ (c'.f5 = true → c.f5 = true) := by
  intro i X c hi hc hX
  have hv := fg_good hc i
  have ht := fg_good hb i
  have hab := ab_bd (n := fg c i - fg b i) (by omega)
  obtain ⟨n, hn⟩ := Int.eq_ofNat_of_zero_le hab.1
  obtain ⟨W, c', k1, k2, k3, k4, k5, k6⟩ := finger b [b.f1, b.f2, b.f3, b.f4] i hi (fg b i) ht n c X hn hc (by omega)
  have i1 : (i : Int) < (([b.f1, b.f2, b.f3, b.f4] : List Int).length : Int) := by simp; omega
  refine ⟨W, c', ?_, ?_, k3, k4, by rw [hn, k5], k6⟩
  ·rw [← k1]
   unfold sL0
   rw [spec_ShapeWay.L0_eq, if_pos i1, if_pos (by omega), if_pos i1, rd_int]
   rfl
  ·rw [← k2]
   unfold iL0
   rw [impl_ShapeWay.L0_eq, if_pos i1, if_pos (by omega), if_pos i1, rd_int]
   rfl
 have bd : ∀ i, 0 ≤ ab (fg c i - fg b i) ∧ ab (fg c i - fg b i) ≤ 2 := fun i => ab_bd (by have := fg_good hc i; have := fg_good hb i; omega)
 have d0 := bd 0
 have d1 := bd 1
 have d2 := bd 2
 have d3 := bd 3
 obtain ⟨W0, a0, p1, p2, p3, p4, p5, p6, p7, p8, p9⟩ := one 0 X c (by omega) hc (by omega)
 obtain ⟨W1, a1, q1, q2, q3, q4, q5, q6, q7, q8, q9⟩ := one 1 (X ++ W0) a0 (by omega) p4 (by simp; omega)
 have f1 := p7 1 (by omega) (by omega)
 rw [f1] at q5
 obtain ⟨W2, a2, r1, r2, r3, r4, r5, r6, r7, r8, r9⟩ := one 2 (X ++ W0 ++ W1) a1 (by omega) q4 (by simp; omega)
 have f2 := (q7 2 (by omega) (by omega)).trans (p7 2 (by omega) (by omega))
 rw [f2] at r5
 obtain ⟨W3, a3, s1, s2, s3, s4, s5, s6, s7, s8, s9⟩ := one 3 (X ++ W0 ++ W1 ++ W2) a2 (by omega) r4 (by simp; omega)
 have f3 := (r7 3 (by omega) (by omega)).trans ((q7 3 (by omega) (by omega)).trans (p7 3 (by omega) (by omega)))
 rw [f3] at s5
 have g0 : a3.f1 = b.f1 := ((s7 0 (by omega) (by omega)).trans ((r7 0 (by omega) (by omega)).trans (q7 0 (by omega) (by omega)))).trans p6
 have g1 : a3.f2 = b.f2 := ((s7 1 (by omega) (by omega)).trans (r7 1 (by omega) (by omega))).trans q6
 have g2 : a3.f3 = b.f3 := (s7 2 (by omega) (by omega)).trans r6
 have g3 : a3.f4 = b.f4 := s6
 obtain ⟨W4, t1, t2, t3, t4, hW4⟩ := way_end b [b.f1, b.f2, b.f3, b.f4] rfl (X ++ W0 ++ W1 ++ W2 ++ W3) a3 s4 hb g0 g1 g2 g3 (fun h => h5 (p9 (q9 (r9 (s9 h))))) (by simp; omega)
 have hf0 : a3.f0 = c.f0 := s8.trans (r8.trans (q8.trans p8))
 refine ⟨W0 ++ W1 ++ W2 ++ W3 ++ W4, ?_, ?_, Steps.append (Steps.append (Steps.append (Steps.append p3 q3) r3) s3) t3, ?_, ?_⟩
 ·refine p1.trans (q1.trans (r1.trans (s1.trans (t1.trans ?_))))
  simp
 ·refine p2.trans (q2.trans (r2.trans (s2.trans (t2.trans ?_))))
  simp
 ·have k0 : ab (c.f1 - b.f1) = ab (fg c 0 - fg b 0) := rfl
  have k1 : ab (c.f2 - b.f2) = ab (fg c 1 - fg b 1) := rfl
  have k2 : ab (c.f3 - b.f3) = ab (fg c 2 - fg b 2) := rfl
  have k3 : ab (c.f4 - b.f4) = ab (fg c 3 - fg b 3) := rfl
  rw [k0, k1, k2, k3]
  unfold dfin
  simp only [List.length_append]
  by_cases z : c.f0 = b.f0
  ·rw [if_pos z]; simp; omega
  ·have := t4 (by rw [hf0]; exact z)
   rw [if_neg z]; simp; omega
 ·simp only [List.length_append]; omega
end
theorem way_same (a b : Sh) : ∃ w ok, spec_ShapeWay.F a.f0 a.f1 a.f2 a.f3 a.f4 a.f5 b.f0 b.f1 b.f2 b.f3 b.f4 b.f5 = some (w, ok) ∧ impl_ShapeWay.F a.f0 a.f1 a.f2 a.f3 a.f4 a.f5 b.f0 b.f1 b.f2 b.f3 b.f4 b.f5 = some (w, ok) ∧ ok = (gd a && gd b) ∧ w.length ≤ 50 ∧ (ok = true → ∃ W, w = a :: W ∧ Steps a W b ∧ dist a b ≤ (w.length : Int)) := by
 rw [spec_ShapeWay.F_eq, impl_ShapeWay.F_eq, shGood_some, isShape_some, shGood_some, isShape_some]
 show ∃ w ok, ((some (gd a)).bind fun t => if t = true then ((some (gd b)).bind fun u => spec_ShapeWay.J0 (!u) _ _ _ _ _ _ _ _ _ _ _ _) else _) = _ ∧ ((some (gd a)).bind fun t => if t = true then ((some (gd b)).bind fun u => impl_ShapeWay.J0 (!u) _ _ _ _ _ _ _ _ _ _ _ _) else _) = _ ∧ _
 simp only [Option.bind_some, spec_ShapeWay.J0_eq, impl_ShapeWay.J0_eq]
 cases ha : gd a
 ·exact ⟨[], false, rfl, rfl, rfl, by simp, by simp⟩
 cases hb : gd b
 ·exact ⟨[], false, rfl, rfl, rfl, by simp, by simp⟩
 simp only [if_true, Bool.not_true, Bool.false_eq_true, if_false]
 obtain ⟨a', hae⟩ : ∃ a' : Sh, a' = ⟨a.f0, a.f1, a.f2, a.f3, a.f4, false⟩ := ⟨_, rfl⟩
 have hga' : gd a' = true := by
  obtain ⟨g0, g1, g2, g3, g4, _⟩ := (good_iff a).1 ha
  rw [good_iff, hae]
  exact ⟨g0, g1, g2, g3, g4, by simp⟩
 have sp : ∀ (X : List Sh) (c : Sh), spec_ShapeWay.J2 X b.f0 b.f1 b.f2 b.f3 b.f4 b.f5 c.f0 c.f1 c.f2 c.f3 c.f4 c.f5 = sL0 b X [b.f1, b.f2, b.f3, b.f4] 0 c := fun X c => by
  rw [spec_ShapeWay.J2_eq]; rfl
 have im : ∀ (X : List Sh) (c : Sh), impl_ShapeWay.J2 X b.f0 b.f1 b.f2 b.f3 b.f4 b.f5 c.f0 c.f1 c.f2 c.f3 c.f4 c.f5 = iL0 b X [b.f1, b.f2, b.f3, b.f4] 0 c := fun X c => by
  rw [impl_ShapeWay.J2_eq]; rfl
 have hdl : ∀ (x : Sh) (q : Int) (s : Bool), dfin q x.f0 b.f0 s b.f5 ≤ dfin q x.f0 b.f0 true true + 1 := fun x q s => by
  unfold dfin
  by_cases z : x.f0 = b.f0
  ·simp only [z, if_true]; cases s <;> cases b.f5 <;> simp <;> omega
  ·simp only [z, if_false]; cases s <;> cases b.f5 <;> simp <;> omega
 by_cases drop : a.f5 = true ∧ b.f5 = false
 ·obtain ⟨d1, d2⟩ := drop
  obtain ⟨W, w1, w2, w3, w4, w5⟩ := way_walk b [a, a'] a' hga' hb (by rw [hae]; simp) (by simp)
  have hne : a ≠ a' := fun h => by rw [h, hae] at d1; simp at d1
  have hdi : dist a a' ≤ 2 := by
   rw [hae]; unfold dist
   refine Int.le_trans (dfin_le _ _ _ _) ?_
   simp only [ab_self]; decide
  refine ⟨[a, a'] ++ W, true, ?_, ?_, rfl, by simp; omega, fun _ => ⟨a' :: W, rfl, ⟨⟨hne, hga', hdi⟩, w3⟩, ?_⟩⟩
  ·rw [← w1, ← sp]
   simp only [Option.bind_some, spec_ShapeWay.J1_eq]
   rw [if_pos d1, d2, if_pos (show (!false) = true from rfl), if_pos (by simp), hae]; rfl
  ·rw [← w2, ← im]
   simp only [Option.bind_some, impl_ShapeWay.J1_eq]
   rw [if_pos d1, d2, if_pos (show (!false) = true from rfl), if_pos (by simp), hae]; rfl
  ·have h1 := hdl a (ab (a.f1 - b.f1) + ab (a.f2 - b.f2) + ab (a.f3 - b.f3) + ab (a.f4 - b.f4)) a.f5
   rw [hae] at w4
   simp only at w4
   unfold dist
   simp; omega
 ·have h5 : a.f5 = true → b.f5 = true := fun h => by
   cases hb5 : b.f5
   ·exact absurd ⟨h, hb5⟩ drop
   ·rfl
  obtain ⟨W, w1, w2, w3, w4, w5⟩ := way_walk b [a] a ha hb h5 (by simp)
  refine ⟨[a] ++ W, true, ?_, ?_, rfl, by simp; omega, fun _ => ⟨W, rfl, w3, ?_⟩⟩
  ·rw [← w1, ← sp]
   simp only [Option.bind_some, spec_ShapeWay.J1_eq]
   by_cases h : a.f5 = true
   ·rw [if_pos h, h5 h, if_neg (by simp)]
   ·rw [if_neg h, if_neg (by simp)]
  ·rw [← w2, ← im]
   simp only [Option.bind_some, impl_ShapeWay.J1_eq]
   by_cases h : a.f5 = true
   ·rw [if_pos h, h5 h, if_neg (by simp)]
   ·rw [if_neg h, if_neg (by simp)]
  ·have h1 := hdl a (ab (a.f1 - b.f1) + ab (a.f2 - b.f2) + ab (a.f3 - b.f3) + ab (a.f4 - b.f4)) a.f5
   unfold dist
   simp; omega
/-! ### Between -/
def av (m n : Int) : Int := wrap64 (Int.tdiv (wrap64 (m + n)) 2)
theorem av_bd {m n : Int} (hm : 0 ≤ m ∧ m ≤ 2) (hn : 0 ≤ n ∧ n ≤ 2) : 0 ≤ av m n ∧ av m n ≤ 2 := by
 have h1 : m = 0 ∨ m = 1 ∨ m = 2 := by omega
 have h2 : n = 0 ∨ n = 1 ∨ n = 2 := by omega
 rcases h1 with rfl | rfl | rfl <;> rcases h2 with rfl | rfl | rfl <;> decide +kernel
def btw (a b : Sh) : Sh := if gd a = true ∧ gd b = true then ⟨a.f0, av a.f1 b.f1, av a.f2 b.f2, av a.f3 b.f3, av a.f4 b.f4, false⟩ else z25
theorem between_same (a b : Sh) : spec_BetweenShapes.F a.f0 a.f1 a.f2 a.f3 a.f4 a.f5 b.f0 b.f1 b.f2 b.f3 b.f4 b.f5 = some ((btw a b).f0, (btw a b).f1, (btw a b).f2, (btw a b).f3, (btw a b).f4, (btw a b).f5, gd a && gd b) ∧ impl_BetweenShapes.F a.f0 a.f1 a.f2 a.f3 a.f4 a.f5 b.f0 b.f1 b.f2 b.f3 b.f4 b.f5 = some ((btw a b).f0, (btw a b).f1, (btw a b).f2, (btw a b).f3, (btw a b).f4, (btw a b).f5, gd a && gd b) := by
 rw [spec_BetweenShapes.F_eq, impl_BetweenShapes.F_eq, shGood_some, isShape_some, shGood_some, isShape_some]
 show ((some (gd a)).bind fun t => if t = true then ((some (gd b)).bind fun u => spec_BetweenShapes.J0 (!u) _ _ _ _ _ _ _ _ _ _ _ _) else _) = _ ∧ ((some (gd a)).bind fun t => if t = true then ((some (gd b)).bind fun u => impl_BetweenShapes.J0 (!u) _ _ _ _ _ _ _ _ _ _ _ _) else _) = _
 simp only [Option.bind_some, spec_BetweenShapes.J0_eq, impl_BetweenShapes.J0_eq]
 unfold btw
 cases ha : gd a
 ·exact ⟨rfl, rfl⟩
 cases hb : gd b
 ·exact ⟨rfl, rfl⟩
 simp only [if_true, Bool.not_true, Bool.false_eq_true, if_false, spec_shFingers.f, impl_Shape_bends.f, Option.bind_some, and_self]
 have ss : ∀ (i : Nat) (X : List Int), i < 4 → X.length = i → spec_BetweenShapes.L0 X [a.f1, a.f2, a.f3, a.f4] (([a.f1, a.f2, a.f3, a.f4] : List Int).length : Int) (i : Int) a.f0 a.f1 a.f2 a.f3 a.f4 a.f5 b.f0 b.f1 b.f2 b.f3 b.f4 b.f5 = spec_BetweenShapes.L0 (X ++ [av (fg a i) (fg b i)]) [a.f1, a.f2, a.f3, a.f4] (([a.f1, a.f2, a.f3, a.f4] : List Int).length : Int) ((i + 1 : Nat) : Int) a.f0 a.f1 a.f2 a.f3 a.f4 a.f5 b.f0 b.f1 b.f2 b.f3 b.f4 b.f5 := by
  intro i X hi hX
  rw [spec_BetweenShapes.L0_eq, if_pos (by simp; omega), if_pos (by omega), if_pos (by simp; omega)]
  simp only [spec_shFingers.f, Option.bind_some]
  rw [if_pos (by simp; omega), if_pos (by omega), rd_int, rd_int, wrap_in (x := (i : Int) + 1) (by omega) (by omega)]
  rfl
 have ii : ∀ (i : Nat) (c : Sh), i < 4 → c.f5 = false → impl_BetweenShapes.L0 [a.f1, a.f2, a.f3, a.f4] (([a.f1, a.f2, a.f3, a.f4] : List Int).length : Int) (i : Int) b.f0 b.f1 b.f2 b.f3 b.f4 b.f5 c.f0 c.f1 c.f2 c.f3 c.f4 c.f5 = impl_BetweenShapes.L0 [a.f1, a.f2, a.f3, a.f4] (([a.f1, a.f2, a.f3, a.f4] : List Int).length : Int) ((i + 1 : Nat) : Int) b.f0 b.f1 b.f2 b.f3 b.f4 b.f5 (setF c i (av (fg a i) (fg b i))).f0 (setF c i (av (fg a i) (fg b i))).f1 (setF c i (av (fg a i) (fg b i))).f2 (setF c i (av (fg a i) (fg b i))).f3 (setF c i (av (fg a i) (fg b i))).f4 (setF c i (av (fg a i) (fg b i))).f5 := by
  intro i c hi hc
  have wi : wrap64 ((i : Int) + 1) = ((i + 1 : Nat) : Int) := by rw [wrap_in (by omega) (by omega)]; rfl
  rw [impl_BetweenShapes.L0_eq, if_pos (by simp; omega), if_pos (by omega), if_pos (by simp; omega)]
  simp only [impl_Shape_bends.f, Option.bind_some]
  rw [if_pos (by simp; omega), wi, with_some c i hi, Option.bind_some, rd_int, rd_int]
  rfl
 constructor
 ·refine (ss 0 [] (by omega) rfl).trans ((ss 1 _ (by omega) rfl).trans ((ss 2 _ (by omega) rfl).trans ((ss 3 _ (by omega) rfl).trans ?_)))
  rw [spec_BetweenShapes.L0_eq, if_neg (by simp)]
  simp only [List.nil_append, List.cons_append, shMade_some, Option.bind_some]
  rfl
 ·refine (ii 0 ⟨a.f0, 0, 0, 0, 0, false⟩ (by omega) rfl).trans ((ii 1 _ (by omega) rfl).trans ((ii 2 _ (by omega) rfl).trans ((ii 3 _ (by omega) rfl).trans ?_)))
  rw [impl_BetweenShapes.L0_eq, if_neg (by simp)]
  rfl
theorem btw_good {a b : Sh} (ha : gd a = true) (hb : gd b = true) : gd (btw a b) = true := by
 obtain ⟨g0, g1, g2, g3, g4, _⟩ := (good_iff a).1 ha
 obtain ⟨_, k1, k2, k3, k4, _⟩ := (good_iff b).1 hb
 unfold btw
 rw [if_pos ⟨ha, hb⟩, good_iff]
 exact ⟨g0, av_bd g1 k1, av_bd g2 k2, av_bd g3 k3, av_bd g4 k4, by simp⟩
theorem same_some (l : List Sh) (hl : l.length ≤ 1000) : laws_pSameShapes.F l l = some true := by
 rw [laws_pSameShapes.F_eq, if_pos rfl]
 refine each (L := fun i => laws_pSameShapes.L0 l l l.length i) l z25 (fun _ _ o => o = some true) ?_ ?_
 ·show laws_pSameShapes.L0 l l _ _ = _
  rw [laws_pSameShapes.L0_eq, if_neg (by omega)]
 ·intro i x t hi hx _ _ ih
  show laws_pSameShapes.L0 l l _ _ = _
  rw [laws_pSameShapes.L0_eq, if_pos (by omega), if_pos (by omega), if_pos (by omega), if_pos (by omega), if_neg (by simp), wrap_in (x := (i : Int) + 1) (by omega) (by omega)]
  exact ih
/-! ### Texts, back -/
def bk (a b c d e : Nat) (s : Bool) : Bool := !isSh a b c d e s || (shRead (shTx a b c d e s) == ((a : Int), (b : Int), (c : Int), (d : Int), (e : Int), s, true))
theorem back_fin : ((List.range 3).all fun a => (List.range 3).all fun b => (List.range 3).all fun c => (List.range 3).all fun d => (List.range 3).all fun e => bk a b c d e true && bk a b c d e false) = true := by decide +kernel
theorem text_back (x : Sh) (h : gd x = true) : shRead (shTx x.f0 x.f1 x.f2 x.f3 x.f4 x.f5) = (x.f0, x.f1, x.f2, x.f3, x.f4, x.f5, true) := by
 obtain ⟨h0, h1, h2, h3, h4, _⟩ := (good_iff x).1 h
 have fin : ∀ n : Int, 0 ≤ n ∧ n ≤ 2 → ∃ m : Nat, m < 3 ∧ (m : Int) = n := fun n hn => ⟨n.toNat, by omega, by omega⟩
 obtain ⟨a, a3, ha⟩ := fin _ h0
 obtain ⟨b, b3, hb⟩ := fin _ h1
 obtain ⟨c, c3, hc⟩ := fin _ h2
 obtain ⟨d, d3, hd⟩ := fin _ h3
 obtain ⟨e, e3, he⟩ := fin _ h4
 unfold gd at h
 have k := back_fin
 simp only [List.all_eq_true, List.mem_range, Bool.and_eq_true] at k
 have k2 := k a a3 b b3 c c3 d d3 e e3
 have k3 : bk a b c d e x.f5 = true := by
  cases x.f5
  ·exact k2.2
  ·exact k2.1
 rw [← ha, ← hb, ← hc, ← hd, ← he] at h ⊢
 unfold bk at k3
 rw [h] at k3
 simpa using k3
theorem tx_size (x : Sh) (h : gd x = true) : (shTx x.f0 x.f1 x.f2 x.f3 x.f4 x.f5).size ≤ 6 := by
 obtain ⟨ha, hb, hc, hd, he, _⟩ := (good_iff x).1 h
 have one : ((⟨#[115]⟩ : ByteArray)).size = 1 := rfl
 unfold shTx shTail
 simp only [List.foldl_cons, List.foldl_nil]
 split <;> simp only [ByteArray.size_append, dg_size (show 0 ≤ x.f0 ∧ x.f0 ≤ 9 by omega), dg_size (show 0 ≤ x.f1 ∧ x.f1 ≤ 9 by omega), dg_size (show 0 ≤ x.f2 ∧ x.f2 ≤ 9 by omega), dg_size (show 0 ≤ x.f3 ∧ x.f3 ≤ 9 by omega), dg_size (show 0 ≤ x.f4 ∧ x.f4 ≤ 9 by omega), one] <;> omega
/-! ### What is drawn -/
theorem read_good (s : ByteArray) : isSh (shRead s).1 (shRead s).2.1 (shRead s).2.2.1 (shRead s).2.2.2.1 (shRead s).2.2.2.2.1 (shRead s).2.2.2.2.2.1 = true := by
 unfold shRead
 split
 ·rename_i h; exact h.2.2
 ·decide
theorem shape_tells (l : List Int) (hl : Bytes l) (a s : Int) (ha : 0 ≤ a ∧ a ≤ 1000000) : ∃ x0 x1 x2 x3 x4 x5 b t, spec_l1Cur_shape.F l a s = some (x0, x1, x2, x3, x4, x5, b, t) ∧ isSh x0 x1 x2 x3 x4 x5 = true ∧ 0 ≤ b ∧ b ≤ a + 20 := by
 rw [spec_l1Cur_shape.F_eq]
 obtain ⟨c, b1, t1, h1, i1, j1⟩ := one_tells l hl a s 2 (by omega) (by omega)
 simp only [h1, Option.bind_some]
 cases c
 ·rw [if_neg (by simp)]
  obtain ⟨r1, b2, t2, h2, p2, q2, i2, j2⟩ := pick_tells l hl b1 t1 3 (by omega) (by omega)
  simp only [h2, Option.bind_some]
  obtain ⟨r2, b3, t3, h3, p3, q3, i3, j3⟩ := pick_tells l hl b2 t2 3 (by omega) (by omega)
  simp only [h3, Option.bind_some]
  obtain ⟨r3, b4, t4, h4, p4, q4, i4, j4⟩ := pick_tells l hl b3 t3 3 (by omega) (by omega)
  simp only [h4, Option.bind_some]
  obtain ⟨r4, b5, t5, h5, p5, q5, i5, j5⟩ := pick_tells l hl b4 t4 3 (by omega) (by omega)
  simp only [h5, Option.bind_some]
  obtain ⟨r5, b6, t6, h6, p6, q6, i6, j6⟩ := pick_tells l hl b5 t5 3 (by omega) (by omega)
  simp only [h6, Option.bind_some]
  obtain ⟨d, b7, t7, h7, i7, j7⟩ := one_tells l hl b6 t6 2 (by omega) (by omega)
  simp only [h7, shMade_some, Option.bind_some]
  have k1 := q2 (by omega)
  have k2 := q3 (by omega)
  have k3 := q4 (by omega)
  have k4 := q5 (by omega)
  have k5 := q6 (by omega)
  refine ⟨_, _, _, _, _, _, _, _, rfl, ?_, i7, by omega⟩
  exact (good_iff ⟨r1, r2, r3, r4, r5, d && wide r2 r3 r4 r5⟩).2 ⟨⟨p2, by show r1 ≤ 2; omega⟩, ⟨p3, by show r2 ≤ 2; omega⟩, ⟨p4, by show r3 ≤ 2; omega⟩, ⟨p5, by show r4 ≤ 2; omega⟩, ⟨p6, by show r5 ≤ 2; omega⟩, fun e => by simp only [Bool.and_eq_true] at e; exact e.2⟩
 ·rw [if_pos rfl]
  generalize hq : ([(⟨#[48, 48, 48, 48, 48]⟩ : ByteArray), (⟨#[48, 48, 48, 48, 48, 115]⟩ : ByteArray), (⟨#[50, 50, 50, 50, 50]⟩ : ByteArray), (⟨#[48, 48, 50, 50, 50]⟩ : ByteArray), (⟨#[49, 48, 48, 50, 50]⟩ : ByteArray), (⟨#[50, 48, 48, 48, 48]⟩ : ByteArray), (⟨#[49, 48, 50, 50, 50]⟩ : ByteArray), (⟨#[48, 48, 48, 50, 50, 115]⟩ : ByteArray), (⟨#[49, 49, 49, 49, 49]⟩ : ByteArray)] : List ByteArray) = q
  have hqq : ∀ x ∈ q, x.size ≤ 9 := by rw [← hq]; simp only [List.mem_cons, List.not_mem_nil, or_false]; rintro x (rfl | rfl | rfl | rfl | rfl | rfl | rfl | rfl | rfl) <;> decide
  obtain ⟨r, b2, t2, h2, m2, i2, j2⟩ := of_tells l hl b1 t1 q (by omega) (by rw [← hq]; simp)
  have hr := hqq _ m2
  simp only [h2, Option.bind_some, shParse_some r (by omega)]
  exact ⟨_, _, _, _, _, _, _, _, rfl, read_good r, i2, by omega⟩
theorem any_tells (l : List Int) (hl : Bytes l) (a s : Int) (ha : 0 ≤ a ∧ a ≤ 900000) : ∃ (x : Sh) (b t : Int), spec_l1Cur_anyShape.F l a s = some (x.f0, x.f1, x.f2, x.f3, x.f4, x.f5, b, t) ∧ 0 ≤ b ∧ b ≤ a + 40 := by
 obtain ⟨x0, x1, x2, x3, x4, x5, b1, t1, h1, _, i1, j1⟩ := shape_tells l hl a s (by omega)
 rw [spec_l1Cur_anyShape.F_eq]
 simp only [h1, Option.bind_some]
 obtain ⟨k, b2, t2, h2, _, _, i2, j2⟩ := pick_tells l hl b1 t1 40 (by omega) (by omega)
 simp only [h2, Option.bind_some]
 by_cases c0 : k = 0
 ·rw [if_pos c0]
  obtain ⟨v, b3, t3, h3, _, i3, j3⟩ := among_tells l hl b2 t2 [-1, 3] (by omega) (by simp)
  simp only [h3, Option.bind_some]
  exact ⟨⟨v, x1, x2, x3, x4, x5⟩, _, _, rfl, i3, by omega⟩
 rw [if_neg c0]
 by_cases c1 : k = 1
 ·rw [if_pos c1]
  obtain ⟨v, b3, t3, h3, _, i3, j3⟩ := among_tells l hl b2 t2 [-1, 3, -9223372036854775808] (by omega) (by simp)
  simp only [h3, Option.bind_some]
  exact ⟨⟨x0, x1, x2, v, x4, x5⟩, _, _, rfl, i3, by omega⟩
 rw [if_neg c1]
 by_cases c2 : k = 2
 ·rw [if_pos c2]
  obtain ⟨v, b3, t3, h3, _, i3, j3⟩ := among_tells l hl b2 t2 [-1, 3] (by omega) (by simp)
  simp only [h3, Option.bind_some]
  exact ⟨⟨x0, v, x2, x3, 2, x5⟩, _, _, rfl, i3, by omega⟩
 rw [if_neg c2]
 by_cases c3 : k = 3
 ·rw [if_pos c3]
  obtain ⟨v, b3, t3, h3, _, _, i3, j3⟩ := pick_tells l hl b2 t2 3 (by omega) (by omega)
  simp only [h3, Option.bind_some]
  obtain ⟨u, b4, t4, h4, _, _, i4, j4⟩ := pick_tells l hl b3 t3 2 (by omega) (by omega)
  simp only [h4, Option.bind_some]
  exact ⟨⟨0, v, wrap64 (1 + u), 0, 1, true⟩, _, _, rfl, i4, by omega⟩
 rw [if_neg c3]
 exact ⟨⟨x0, x1, x2, x3, x4, x5⟩, _, _, rfl, i2, by omega⟩
theorem drawWay_tells (l : List Int) (hl : Bytes l) : ∃ a b : Sh, spec_DrawShapeWay.F l = some (a.f0, a.f1, a.f2, a.f3, a.f4, a.f5, b.f0, b.f1, b.f2, b.f3, b.f4, b.f5) := by
 obtain ⟨a, b1, t1, h1, i1, j1⟩ := any_tells l hl 0 0 (by omega)
 obtain ⟨b, b2, t2, h2, _⟩ := any_tells l hl b1 t1 (by omega)
 rw [spec_DrawShapeWay.F_eq, spec_DrawShapeDistance.F_eq]
 simp only [h1, h2, Option.bind_some]
 exact ⟨a, b, rfl⟩
theorem drawText_tells (l : List Int) (hl : Bytes l) : ∃ a : Sh, spec_DrawShapeText.F l = some (a.f0, a.f1, a.f2, a.f3, a.f4, a.f5) := by
 obtain ⟨a, b1, t1, h1, _⟩ := any_tells l hl 0 0 (by omega)
 rw [spec_DrawShapeText.F_eq, spec_DrawIsShape.F_eq]
 simp only [h1, Option.bind_some]
 exact ⟨a, rfl⟩
theorem drawParse_tells (l : List Int) (hl : Bytes l) : ∃ s, spec_DrawParseShape.F l = some s ∧ s.size ≤ 1000 := by
 obtain ⟨x0, x1, x2, x3, x4, x5, b1, t1, h1, g1, i1, j1⟩ := shape_tells l hl 0 0 (by omega)
 have hz := tx_size ⟨x0, x1, x2, x3, x4, x5⟩ g1
 simp only at hz
 rw [spec_DrawParseShape.F_eq]
 simp only [h1, Option.bind_some, sh_textS g1]
 generalize shTx x0 x1 x2 x3 x4 x5 = s at hz
 obtain ⟨k, b2, t2, h2, _, _, i2, j2⟩ := pick_tells l hl b1 t1 5 (by omega) (by omega)
 simp only [h2, Option.bind_some]
 have fin : ∀ c, ∃ r, spec_DrawParseShape.J0 s k c l b2 t2 = some r ∧ r.size ≤ 1000 := by
  intro c
  rw [spec_DrawParseShape.J0_eq]
  cases c
  ·rw [if_neg (by simp)]
   by_cases c2 : k = 2
   ·rw [if_pos c2]
    generalize hq : ([(⟨#[]⟩ : ByteArray), (⟨#[48, 48, 48, 48, 48]⟩ : ByteArray), (⟨#[48, 48, 48, 48, 48, 115]⟩ : ByteArray), (⟨#[48, 50, 48, 50, 48, 115]⟩ : ByteArray), (⟨#[48, 48, 48, 48]⟩ : ByteArray), (⟨#[48, 48, 48, 48, 48, 48]⟩ : ByteArray), (⟨#[51, 48, 48, 48, 48]⟩ : ByteArray), (⟨#[48, 48, 48, 48, 51]⟩ : ByteArray), (⟨#[48, 48, 48, 48, 48, 83]⟩ : ByteArray)] : List ByteArray) = q
    have hqq : ∀ x ∈ q, x.size ≤ 9 := by rw [← hq]; simp only [List.mem_cons, List.not_mem_nil, or_false]; rintro x (rfl | rfl | rfl | rfl | rfl | rfl | rfl | rfl | rfl) <;> decide
    obtain ⟨r, b3, t3, h3, m3, _⟩ := of_tells l hl b2 t2 q (by omega) (by rw [← hq]; simp)
    have hr := hqq _ m3
    simp only [h3, Option.bind_some]
    exact ⟨_, rfl, by omega⟩
   ·rw [if_neg c2]; exact ⟨_, rfl, by omega⟩
  ·rw [if_pos rfl]
   obtain ⟨r, b3, t3, h3, z3, _⟩ := spoilt_tells l hl b2 t2 s (⟨#[48, 49, 50, 51, 115]⟩ : ByteArray) (by decide) (by omega) (by omega)
   simp only [h3, Option.bind_some]
   exact ⟨_, rfl, by omega⟩
 split
 ·exact fin _
 ·exact fin _
/-! ### The law, from its end -/
theorem sh_eqb (x y : Sh) : (x.f0 == y.f0 && (x.f1 == y.f1 && (x.f2 == y.f2 && (x.f3 == y.f3 && (x.f4 == y.f4 && (x.f5 == y.f5)))))) = decide (x = y) := by
 by_cases h : x = y
 ·subst h; simp
 ·rw [decide_eq_false h]
  cases hh : (x.f0 == y.f0 && (x.f1 == y.f1 && (x.f2 == y.f2 && (x.f3 == y.f3 && (x.f4 == y.f4 && (x.f5 == y.f5))))))
  ·rfl
  ·simp only [Bool.and_eq_true, beq_iff_eq] at hh
   exact absurd (sh_eq hh.1 hh.2.1 hh.2.2.1 hh.2.2.2.1 hh.2.2.2.2.1 hh.2.2.2.2.2) h
theorem j4 (l : List Int) (hl : Bytes l) : laws_FnShapes.J4 l = some true := by
 obtain ⟨x, h1⟩ := drawText_tells l hl
 obtain ⟨s, h2, z2⟩ := drawParse_tells l hl
 obtain ⟨r, h3, h4, h5⟩ := shapeText_same x.f0 x.f1 x.f2 x.f3 x.f4 x.f5
 rw [laws_FnShapes.J4_eq]
 simp only [h1, h2, h3, h4, Option.bind_some, implParse_some s (by omega), spec_ParseShape.F_eq, shParse_some s (by omega), bne_self_eq_false, Bool.false_eq_true, if_false, if_true, beq_self_eq_true, Bool.not_true, Bool.or_false]
 rw [laws_FnShapes.J5_eq, if_neg (by simp)]
 cases hg : isSh x.f0 x.f1 x.f2 x.f3 x.f4 x.f5
 ·rw [hg, if_neg (by simp)] at h5
  rw [h5, if_neg (by simp)]
 ·rw [hg, if_pos rfl] at h5
  have hz := tx_size x hg
  rw [h5, if_pos rfl, implParse_some _ (by show (shTx _ _ _ _ _ _).size ≤ _; omega), Option.bind_some]
  simp only [text_back x hg, if_true, beq_self_eq_true, Bool.and_self]
theorem l0 (l : List Int) (hl : Bytes l) (a m : Sh) (ha : gd a = true) (hm : gd m = true) (w : List Sh) (hw : w.length ≤ 50) (hst : ∀ i, i + 1 < w.length → gd (w.getD i z25) = true ∧ gd (w.getD (i + 1) z25) = true ∧ w.getD i z25 ≠ w.getD (i + 1) z25 ∧ dist (w.getD i z25) (w.getD (i + 1) z25) ≤ 2) :
 laws_FnShapes.L0 l w 1 a.f0 a.f1 a.f2 a.f3 a.f4 a.f5 m.f0 m.f1 m.f2 m.f3 m.f4 m.f5 m.f0 m.f1 m.f2 m.f3 m.f4 m.f5 = some true := by
 have key : ∀ d i : Nat, (i + d = w.length ∨ w.length ≤ i) → laws_FnShapes.L0 l w ((i + 1 : Nat) : Int) a.f0 a.f1 a.f2 a.f3 a.f4 a.f5 m.f0 m.f1 m.f2 m.f3 m.f4 m.f5 m.f0 m.f1 m.f2 m.f3 m.f4 m.f5 = some true := by
  intro d
  have fin : ∀ i : Nat, w.length ≤ i + 1 → laws_FnShapes.L0 l w ((i + 1 : Nat) : Int) a.f0 a.f1 a.f2 a.f3 a.f4 a.f5 m.f0 m.f1 m.f2 m.f3 m.f4 m.f5 m.f0 m.f1 m.f2 m.f3 m.f4 m.f5 = some true := by
   intro i hi
   rw [laws_FnShapes.L0_eq, if_neg (by omega), disI, disS]
   unfold dres
   rw [if_pos ⟨ha, hm⟩]
   simp only [Option.bind_some, if_true, j4 l hl]
  induction d with
  | zero => intro i hi; exact fin i (by omega)
  | succ d ih =>
   intro i hi
   by_cases c : i + 1 < w.length
   case neg => exact fin i (by omega)
   obtain ⟨g1, g2, g3, g4⟩ := hst i c
   have e : ((i + 1 : Nat) : Int) - 1 = (i : Int) := by omega
   have w1 : wrap64 (((i + 1 : Nat) : Int) - 1) = (i : Int) := by rw [wrap_in (by omega) (by omega), e]
   have w2 : wrap64 (((i + 1 : Nat) : Int) + 1) = ((i + 1 + 1 : Nat) : Int) := by rw [wrap_in (by omega) (by omega)]; rfl
   have hgs : impl_IsShape.F (w.getD (i + 1) z25).f0 (w.getD (i + 1) z25).f1 (w.getD (i + 1) z25).f2 (w.getD (i + 1) z25).f3 (w.getD (i + 1) z25).f4 (w.getD (i + 1) z25).f5 = some true := by rw [isShape_some]; exact congrArg some g2
   have hd : dres (w.getD i z25) (w.getD (i + 1) z25) = (dist (w.getD i z25) (w.getD (i + 1) z25), true) := by unfold dres; rw [if_pos ⟨g1, g2⟩]
   rw [laws_FnShapes.L0_eq, if_pos (by omega), if_pos (by omega), w1, if_pos (by omega), if_pos (by omega), rd_sh, rd_sh, sh_eqb, decide_eq_false (fun h => g3 h.symm), if_neg (by simp), hgs, Option.bind_some, laws_FnShapes.J3_eq, if_neg (by simp), w1, if_pos (by omega), if_pos (by omega), if_pos (by omega), if_pos (by omega), rd_sh, rd_sh, disI, hd, Option.bind_some, if_pos rfl, if_neg (by show ¬ dist _ _ > 2; omega), w2]
   exact ih (i + 1) (by omega)
 exact key w.length 0 (by omega)
theorem FnShapes : laws_FnShapes.Pure := by
 intro l0_ l1 m0 m1
 refine lim_rounds (?_ : laws_FnShapes.F l0_ l1 = some true)
 have hbig : laws_big.f l0_ l1 = some (decide ((l0_.length : Int) > 1048576 ∨ (l1.length : Int) > 1048576 - (l0_.length : Int))) := by
  unfold laws_big.f
  by_cases c : (l0_.length : Int) > 1048576
  ·rw [if_pos c]; simp [c]
  ·rw [if_neg c, wrap_in (by omega) (by omega)]; simp [c]
 rw [laws_FnShapes.F_eq, hbig, Option.bind_some]
 by_cases c : (l0_.length : Int) > 1048576 ∨ (l1.length : Int) > 1048576 - (l0_.length : Int)
 ·rw [if_pos (decide_eq_true c)]
 rw [if_neg (by simpa using c)]
 have B0 := bytes_of (l := l0_) (by omega) m0.2
 have B1 := bytes_of (l := l1) (by omega) m1.2
 obtain ⟨a, b, d1⟩ := drawWay_tells l0_ B0
 obtain ⟨w, ok, w1, w2, w3, w4, w5⟩ := way_same a b
 obtain ⟨b1, b2⟩ := between_same a b
 have s1 := same_some w (by omega)
 have ia : impl_IsShape.F a.f0 a.f1 a.f2 a.f3 a.f4 a.f5 = some (gd a) := isShape_some _ _ _ _ _ _
 have ib : impl_IsShape.F b.f0 b.f1 b.f2 b.f3 b.f4 b.f5 = some (gd b) := isShape_some _ _ _ _ _ _
 have key : laws_FnShapes.J0 l1 ok w (dres a b).1 false a.f0 a.f1 a.f2 a.f3 a.f4 a.f5 b.f0 b.f1 b.f2 b.f3 b.f4 b.f5 (btw a b).f0 (btw a b).f1 (btw a b).f2 (btw a b).f3 (btw a b).f4 (btw a b).f5 (btw a b).f0 (btw a b).f1 (btw a b).f2 (btw a b).f3 (btw a b).f4 (btw a b).f5 = some true := by
  rw [laws_FnShapes.J0_eq, if_neg (by simp)]
  cases hok : ok
  ·rw [if_neg (by simp)]; exact j4 l1 B1
  rw [if_pos rfl]
  subst hok
  have hab := w3
  have ha : gd a = true := by revert hab; cases gd a <;> simp
  have hb : gd b = true := by revert hab; cases gd b <;> simp
  obtain ⟨W, rfl, k1, k2⟩ := w5 rfl
  obtain ⟨k3, k4⟩ := Steps.at ha k1
  have hm := btw_good ha hb
  have e1 : dres a b = (dist a b, true) := by unfold dres; rw [if_pos ⟨ha, hb⟩]
  have e2 : dres b a = (dist a b, true) := by unfold dres; rw [if_pos ⟨hb, ha⟩, dist_symm]
  have im : impl_IsShape.F (btw a b).f0 (btw a b).f1 (btw a b).f2 (btw a b).f3 (btw a b).f4 (btw a b).f5 = some true := by rw [isShape_some]; exact congrArg some hm
  have hz : ((dist a b == 0) != (a.f0 == b.f0 && (a.f1 == b.f1 && (a.f2 == b.f2 && (a.f3 == b.f3 && (a.f4 == b.f4 && (a.f5 == b.f5))))))) = false := by
   rw [sh_eqb]
   by_cases z : a = b
   ·rw [decide_eq_true z, (dist_zero a b).2 z]; rfl
   ·rw [decide_eq_false z]
    have : ¬ dist a b = 0 := fun h => z ((dist_zero a b).1 h)
    simp [this]
  have r0 : rd_T25 (a :: W) 0 = a := rd_sh (a :: W) 0
  have wl : wrap64 (((a :: W).length : Int) - 1) = (W.length : Int) := by rw [List.length_cons, wrap_in (by omega) (by simp at w4; omega)]; omega
  have r1 : rd_T25 (a :: W) (W.length : Int) = b := (rd_sh (a :: W) W.length).trans k3
  have n1 := sh_ne a a
  have n2 := sh_ne b b
  simp only [decide_true, Bool.not_true] at n1 n2
  rw [disI, e2, Option.bind_some, if_pos rfl, if_pos (by rw [e1]), e1, hz, if_neg (show ¬ (false = true) by simp), if_neg (show ¬ ((a :: W).length : Int) = 0 by rw [List.length_cons]; omega), if_pos (show (0 : Int) < ((a :: W).length : Int) by rw [List.length_cons]; omega), r0, n1, if_neg (show ¬ (false = true) by simp), wl, if_pos (show (0 : Int) ≤ (W.length : Int) by omega), if_pos (show (W.length : Int) < ((a :: W).length : Int) by rw [List.length_cons]; omega), r1, n2, if_neg (show ¬ (false = true) by simp), if_neg (show ¬ ((a :: W).length : Int) < dist a b by omega), im, Option.bind_some, laws_FnShapes.J1_eq, if_neg (by simp)]
  exact l0 l1 B1 a (btw a b) ha hm (a :: W) w4 (fun i hi => k4 i (by simpa using hi))
 have q1 : ((dres a b).2 != ok) = false := by
  unfold dres
  rw [w3]
  cases gd a <;> cases gd b <;> rfl
 simp only [d1, w1, w2, disI, disS, b1, b2, s1, ia, ib, Option.bind_some, bne_self_eq_false, Bool.false_eq_true, if_false, if_true, beq_self_eq_true, Bool.not_true, Bool.or_false]
 cases ha : gd a
 ·have : ok = false := by rw [w3, ha]; rfl
  subst this
  have hd : (dres a b).2 = false := by unfold dres; rw [ha]; simp
  simp only [ha, hd, Bool.false_and, bne_self_eq_false, Bool.false_eq_true, if_false] at key ⊢
  exact key
 ·have hk : ok = gd b := by rw [w3, ha]; rfl
  have hd : (dres a b).2 = gd b := by
   unfold dres; rw [ha]; cases gd b <;> rfl
  rw [hk] at key ⊢
  simp only [hd, Bool.true_and, bne_self_eq_false, Bool.false_eq_true, if_false, if_true]
  exact key

end Go.Proofs.YtbfkpgmdbafmhaaDoor.Pure
