/- The pure statement of the law FnOrients: for all arguments within their bounds its Lean function answers true. -/
import Derived.Test.YtmlpogmedglncaaPFnOrientsxD0
namespace Go.Proofs.Ytmlpogmedglncaa.Pure
open Go.RowKit Go.Proofs.Ytmlpogmedglncaa.PFnOrients Go.Proofs.YtmlpogmedglncaaW.PrintWords Go.Proofs.YtmlpogmedglncaaW.PrintLast
set_option linter.unusedVariables false
set_option linter.unusedSimpArgs false
/-! ### Numbers, loops, letters -/
theorem wrap_in {x : Int} (h0 : -9223372036854775808 ≤ x) (h1 : x ≤ 9223372036854775807) : wrap64 x = x := by
  unfold wrap64; omega
theorem wf_i64 {n : Int} (h : (Lit.int .i64 n).wf = true) : -9223372036854775808 ≤ n ∧ n ≤ 9223372036854775807 := by
  simpa [Lit.wf, IntKind.min, IntKind.max, IntKind.signed, IntKind.bits] using h
/-- A loop over a list, from its end. L: what the loop tells from place i on. -/
theorem each {α γ : Type} (L : Int → γ) (l : List α) (z : α) (R : Nat → List α → γ → Prop) (nil : R l.length [] (L l.length))
    (cons : ∀ (i : Nat) (x : α) (t : List α), i < l.length → l.getD i z = x → l.drop i = x :: t → l.drop (i + 1) = t → R (i + 1) t (L ((i : Int) + 1)) → R i (x :: t) (L i)) : R 0 l (L 0) := by
  have key : ∀ (t : List α) (i : Nat), l.drop i = t → i ≤ l.length → R i t (L i) := by
    intro t
    induction t with
    | nil =>
      intro i h hi
      have : l.length ≤ i := by simpa [List.drop_eq_nil_iff] using h
      obtain rfl : i = l.length := by omega
      exact nil
    | cons x t ih =>
      intro i h hi
      have hlt : i < l.length := by
        rcases Nat.lt_or_ge i l.length with h' | h'
        · exact h'
        · rw [List.drop_eq_nil_of_le h'] at h; cases h
      have h2 := List.drop_eq_getElem_cons hlt
      rw [h] at h2
      injection h2 with h3 h4
      refine cons i x t hlt ?_ h h4.symm ?_
      · rw [List.getD_eq_getElem?_getD, List.getElem?_eq_getElem hlt]; exact h3.symm
      · have := ih (i + 1) h4.symm (by omega)
        rwa [show ((i + 1 : Nat) : Int) = (i : Int) + 1 from by omega] at this
  have := key l 0 rfl (Nat.zero_le _)
  rwa [show ((0 : Nat) : Int) = 0 from rfl] at this
theorem bt_data (s : ByteArray) (i : Nat) (h : i < s.size) : bt s (i : Int) = ((s.data.toList.getD i 0).toNat : Int) := by
  obtain ⟨d⟩ := s
  have h' : i < d.size := h
  have : bt ⟨d⟩ (i : Int) = ((d[i]).toNat : Int) := by
    unfold bt
    rw [dif_pos (show ((i : Int)).toNat < (⟨d⟩ : ByteArray).size from by simpa using h)]
    rfl
  rw [this]
  simp [h']
theorem size_data (s : ByteArray) : s.size = s.data.toList.length := by
  obtain ⟨d⟩ := s; simp [ByteArray.size]
theorem toList_data (s : ByteArray) : s.toList = s.data.toList := by
  rw [ByteArray.toList_eq]
theorem ext_data {s t : ByteArray} (h : s.toList = t.toList) : s = t := by
  rw [toList_data, toList_data] at h
  obtain ⟨⟨a⟩⟩ := s
  obtain ⟨⟨b⟩⟩ := t
  simp at h
  rw [h]
theorem toList_iff {s t : ByteArray} : s.toList = t.toList ↔ s = t := ⟨ext_data, fun h => by rw [h]⟩
theorem mem_drop {α : Type} {l t : List α} {x : α} {i : Nat} (h : l.drop i = x :: t) : x ∈ l := List.mem_of_mem_drop (i := i) (by rw [h]; simp)


/-! ### What is drawn -/
def Bytes (l : List Int) : Prop := l.length ≤ 1048576 ∧ ∀ x ∈ l, 0 ≤ x ∧ x < 256
theorem bytes_of {l : List Int} (h : l.length ≤ 1048576) (hw : ∀ x ∈ l, (Lit.int .u8 x).wf = true) : Bytes l := ⟨h, fun x hx => by
  have := hw x hx
  simp [Lit.wf, IntKind.min, IntKind.max, IntKind.signed, IntKind.bits] at this
  omega⟩
theorem and_byte (z : Int) (h0 : 0 ≤ z) (h1 : z < 18446744073709551616) : 0 ≤ Go.bits .and .u64 z 255 ∧ Go.bits .and .u64 z 255 < 256 := by
  obtain ⟨n, rfl⟩ := Int.eq_ofNat_of_zero_le h0
  have h := bits_and_u64_nat n 255 (by omega) (by omega)
  have e : (((255 : Nat) : Int)) = 255 := rfl
  rw [e] at h
  rw [h]
  have : n &&& 255 ≤ 255 := Nat.and_le_right
  omega
theorem next_tells (l : List Int) (hl : Bytes l) (a s : Int) (ha : 0 ≤ a ∧ a ≤ 2000000000) : ∃ r b t, spec_l1Cur_next.f l a s = some (r, b, t) ∧ (0 ≤ r ∧ r < 256) ∧ 0 ≤ b ∧ b ≤ a + 1 := by
  have hu : ∀ y : Int, 0 ≤ IntKind.u64.wrap y ∧ IntKind.u64.wrap y < 18446744073709551616 := fun y => by
    simp only [IntKind.wrap, IntKind.signed, IntKind.bits]
    simp
    omega
  have tail : ∀ y : Int, 0 ≤ wrap64 (Go.bits .and .u64 ((IntKind.u64.wrap y) / 1099511627776) 255) ∧ wrap64 (Go.bits .and .u64 ((IntKind.u64.wrap y) / 1099511627776) 255) < 256 := fun y => by
    have h1 := hu y
    have h2 := and_byte (IntKind.u64.wrap y / 1099511627776) (by omega) (by omega)
    rw [wrap_in (by omega) (by omega)]
    exact h2
  unfold spec_l1Cur_next.f
  rw [wrap_in (x := a + 1) (by omega) (by omega)]
  by_cases h : a < (l.length : Int)
  · rw [if_pos h, if_pos ha.1]
    have hr : 0 ≤ rd l a ∧ rd l a < 256 := by
      obtain ⟨n, rfl⟩ := Int.eq_ofNat_of_zero_le ha.1
      have hn : n < l.length := by omega
      have := hl.2 l[n] (List.getElem_mem hn)
      have e : rd l (n : Int) = l[n] := by simp [rd, hn]
      rw [e]
      exact this
    split
    · refine ⟨_, _, _, rfl, ?_, by omega, by omega⟩
      rw [wrap_in (by omega) (by omega)]
      exact hr
    · exact ⟨_, _, _, rfl, tail _, by omega, by omega⟩
  · rw [if_neg h]
    split
    · exact ⟨_, _, _, rfl, by omega, by omega, by omega⟩
    · exact ⟨_, _, _, rfl, tail _, by omega, by omega⟩
theorem pick_tells (l : List Int) (hl : Bytes l) (a s n : Int) (ha : 0 ≤ a ∧ a ≤ 1000000000) (hn : n ≤ 1048576) : ∃ r b t, spec_l1Cur_pick.f l a s n = some (r, b, t) ∧ 0 ≤ r ∧ (1 ≤ n → r < n) ∧ 0 ≤ b ∧ b ≤ a + 2 := by
  unfold spec_l1Cur_pick.f
  by_cases h : n ≤ 1
  · rw [if_pos h]
    exact ⟨_, _, _, rfl, by omega, by omega, by omega, by omega⟩
  rw [if_neg h]
  obtain ⟨r, b, t, h1, h2, h3, h4⟩ := next_tells l hl a s (by omega)
  rw [h1, Option.bind_some]
  dsimp only
  by_cases h5 : n > 200
  · rw [if_pos h5]
    obtain ⟨r2, b2, t2, k1, k2, k3, k4⟩ := next_tells l hl b t (by omega)
    rw [k1, Option.bind_some]
    dsimp only
    rw [if_neg (by omega), wrap_in (x := r * 256) (by omega) (by omega), wrap_in (x := r * 256 + r2) (by omega) (by omega)]
    refine ⟨_, _, _, rfl, Int.tmod_nonneg _ (by omega), fun _ => Int.tmod_lt_of_pos _ (by omega), by omega, by omega⟩
  · rw [if_neg h5, if_neg (by omega)]
    refine ⟨_, _, _, rfl, Int.tmod_nonneg _ (by omega), fun _ => Int.tmod_lt_of_pos _ (by omega), by omega, by omega⟩
theorem of_tells (l : List Int) (hl : Bytes l) (a s : Int) (m : List ByteArray) (ha : 0 ≤ a ∧ a ≤ 1000000000) (hm : m ≠ [] ∧ m.length ≤ 1048576) : ∃ r b t, spec_l1Cur_of.f l a s m = some (r, b, t) ∧ r ∈ m ∧ 0 ≤ b ∧ b ≤ a + 2 := by
  have h0 : 0 < m.length := List.length_pos_iff.2 hm.1
  obtain ⟨r, b, t, h1, h2, h3, h4, h5⟩ := pick_tells l hl a s m.length ha (by omega)
  obtain ⟨n, rfl⟩ := Int.eq_ofNat_of_zero_le h2
  have hn : n < m.length := by omega
  unfold spec_l1Cur_of.f
  rw [h1, Option.bind_some]
  dsimp only
  rw [if_pos (by omega), if_pos (by omega)]
  refine ⟨_, _, _, rfl, ?_, h4, h5⟩
  have e : rdOf ByteArray.empty m (n : Int) = m[n] := by simp [rdOf, hn]
  show rdOf ByteArray.empty m (n : Int) ∈ m
  rw [e]
  exact List.getElem_mem hn
theorem among_tells (l : List Int) (hl : Bytes l) (a s : Int) (m : List Int) (ha : 0 ≤ a ∧ a ≤ 1000000000) (hm : m ≠ [] ∧ m.length ≤ 1048576) : ∃ r b t, spec_l1Cur_among.f l a s m = some (r, b, t) ∧ r ∈ m ∧ 0 ≤ b ∧ b ≤ a + 2 := by
  have h0 : 0 < m.length := List.length_pos_iff.2 hm.1
  obtain ⟨r, b, t, h1, h2, h3, h4, h5⟩ := pick_tells l hl a s m.length ha (by omega)
  obtain ⟨n, rfl⟩ := Int.eq_ofNat_of_zero_le h2
  have hn : n < m.length := by omega
  unfold spec_l1Cur_among.f
  rw [h1, Option.bind_some]
  dsimp only
  rw [if_pos (by omega), if_pos (by omega)]
  refine ⟨_, _, _, rfl, ?_, h4, h5⟩
  have e : rd m (n : Int) = m[n] := by simp [rd, hn]
  show rd m (n : Int) ∈ m
  rw [e]
  exact List.getElem_mem hn

theorem nums_one (x : Int) : (strOfNums [x]).size = 1 := rfl
theorem spoilt_rounds (l : List Int) (hl : Bytes l) (w : ByteArray) (hw : 1 ≤ w.size ∧ w.size ≤ 1000) : ∀ (n : Nat) (s : ByteArray) (k a t : Int), k = n → s.size + n ≤ 1000 → (0 ≤ a ∧ a + 6 * n ≤ 1000000) → ∃ r b t', spec_l1Cur_spoilt.L0 s w k l a t = some (r, b, t') ∧ r.size ≤ s.size + n ∧ 0 ≤ b ∧ b ≤ a + 6 * n := by
  intro n
  induction n with
  | zero =>
    intro s k a t hk hs ha
    rw [spec_l1Cur_spoilt.L0_eq, if_neg (by omega), spec_l1Cur_spoilt.J1_eq, if_neg (by simp)]
    exact ⟨s, a, t, rfl, by omega, by omega, by omega⟩
  | succ n ih =>
    intro s k a t hk hs ha
    rw [spec_l1Cur_spoilt.L0_eq, if_pos (by omega)]
    by_cases h0 : (s.size : Int) > 0
    case neg =>
      rw [decide_eq_false h0, spec_l1Cur_spoilt.J1_eq, if_neg (by simp)]
      exact ⟨s, a, t, rfl, by omega, by omega, by omega⟩
    rw [decide_eq_true h0, spec_l1Cur_spoilt.J1_eq, if_pos rfl]
    obtain ⟨i, b1, t1, e1, p1, p2, p3, p4⟩ := pick_tells l hl a t s.size (by omega) (by omega)
    have p5 := p2 (by omega)
    rw [e1, Option.bind_some]
    simp only
    obtain ⟨j, b2, t2, e2, q1, q2, q3, q4⟩ := pick_tells l hl b1 t1 w.size (by omega) (by omega)
    have q5 := q2 (by omega)
    simp only [e2, Option.bind_some]
    rw [if_pos q1, if_pos q5]
    obtain ⟨c, b3, t3, e3, u1, u2, u3, u4⟩ := pick_tells l hl b2 t2 3 (by omega) (by omega)
    simp only [e3, Option.bind_some]
    have hy := nums_one (bt w j)
    generalize strOfNums [bt w j] = y at hy
    rw [wrap_in (x := i + 1) (by omega) (by omega), wrap_in (x := k - 1) (by omega) (by omega)]
    have step : ∀ s' : ByteArray, s'.size ≤ s.size + 1 → ∃ r b t', spec_l1Cur_spoilt.L0 s' w (k - 1) l b3 t3 = some (r, b, t') ∧ r.size ≤ s.size + (n + 1) ∧ 0 ≤ b ∧ b ≤ a + 6 * ((n + 1 : Nat) : Int) := fun s' hs' => by
      obtain ⟨r, b, t', e, z1, z2, z3⟩ := ih s' (k - 1) b3 t3 (by omega) (by omega) (by omega)
      exact ⟨r, b, t', e, by omega, z2, by omega⟩
    by_cases c0 : c = 0
    · rw [if_pos c0, if_pos p1, if_pos (by omega), if_pos (by simp only [ByteArray.size_extract]; omega), if_pos (by simp only [ByteArray.size_append, ByteArray.size_extract]; omega)]
      exact step _ (by simp only [ByteArray.size_append, ByteArray.size_extract]; omega)
    rw [if_neg c0]
    by_cases c1 : c = 1
    · rw [if_pos c1, if_pos p1, if_pos (by omega), if_pos (by simp only [ByteArray.size_extract]; omega), if_pos (by omega), if_pos (by omega), if_pos (by simp only [ByteArray.size_append, ByteArray.size_extract]; omega)]
      exact step _ (by simp only [ByteArray.size_append, ByteArray.size_extract]; omega)
    rw [if_neg c1, if_pos p1, if_pos (by omega), if_pos (by omega), if_pos (by omega), if_pos (by simp only [ByteArray.size_extract]; omega)]
    exact step _ (by simp only [ByteArray.size_append, ByteArray.size_extract]; omega)
theorem spoilt_tells (l : List Int) (hl : Bytes l) (a t : Int) (s w : ByteArray) (hw : 1 ≤ w.size ∧ w.size ≤ 1000) (hs : s.size ≤ 900) (ha : 0 ≤ a ∧ a ≤ 900000) : ∃ r b t', spec_l1Cur_spoilt.F l a t s w = some (r, b, t') ∧ r.size ≤ s.size + 2 ∧ 0 ≤ b ∧ b ≤ a + 20 := by
  obtain ⟨n, b1, t1, e1, p1, p2, p3, p4⟩ := pick_tells l hl a t 2 (by omega) (by omega)
  have p5 := p2 (by omega)
  obtain ⟨m, rfl⟩ := Int.eq_ofNat_of_zero_le p1
  rw [spec_l1Cur_spoilt.F_eq, e1, Option.bind_some]
  simp only
  rw [wrap_in (by omega) (by omega)]
  obtain ⟨r, b, t', e, z1, z2, z3⟩ := spoilt_rounds l hl w hw (m + 1) s (1 + (m : Int)) b1 t1 (by omega) (by omega) (by omega)
  rw [e]
  exact ⟨r, b, t', rfl, by omega, z2, by omega⟩


theorem one_tells (l : List Int) (hl : Bytes l) (a s n : Int) (ha : 0 ≤ a ∧ a ≤ 1000000000) (hn : n ≤ 1048576) : ∃ r b t, spec_l1Cur_one.f l a s n = some (r, b, t) ∧ 0 ≤ b ∧ b ≤ a + 2 := by
  obtain ⟨r, b, t, h1, h2, h3, h4, h5⟩ := pick_tells l hl a s n ha hn
  unfold spec_l1Cur_one.f
  rw [h1, Option.bind_some]
  exact ⟨_, _, _, rfl, h4, h5⟩

/-! ### Directions and orientations -/
abbrev Ori := S39
theorem rd_ori (l : List Ori) (i : Nat) : rd_T39 l (i : Int) = l.getD i z39 := by simp [rd_T39]
theorem dirs {a : Int} (h : 0 ≤ a ∧ a ≤ 5) : a = 0 ∨ a = 1 ∨ a = 2 ∨ a = 3 ∨ a = 4 ∨ a = 5 := by omega
def opp (a : Int) : Int := if a % 2 = 0 then a + 1 else a - 1
def sw (a : Int) : Int := if a = 2 ∨ a = 3 then opp a else a
def sn (a : Int) : Int := if 2 ≤ a then opp a else a
def inDir (a : Int) : Bool := decide (0 ≤ a ∧ a ≤ 5)
def isOr (a b : Int) : Bool := inDir a && (inDir b && !(a / 2 == b / 2))
theorem l1In_some (a b c : Int) : spec_l1In.f a b c = some (decide (b ≤ a ∧ a ≤ c)) := by
  unfold spec_l1In.f
  by_cases h : a ≥ b
  · rw [if_pos h]; congr 1; simp; omega
  · rw [if_neg h]; congr 1; symm; simp; omega
theorem within_some (a b c : Int) : impl_within.f a b c = some (decide (b ≤ a ∧ a ≤ c)) := by
  unfold impl_within.f
  by_cases h : a ≥ b
  · rw [if_pos h]; congr 1; simp; omega
  · rw [if_neg h]; congr 1; symm; simp; omega
theorem xor_some {a : Int} (h : 0 ≤ a ∧ a ≤ 5) : Go.bits .xor .i64 a 1 = opp a := by
  rcases dirs h with rfl | rfl | rfl | rfl | rfl | rfl <;> kernel_rfl
theorem opp_some {a : Int} (h : 0 ≤ a ∧ a ≤ 5) : spec_orOpposite.f a = some (opp a) := by
  rcases dirs h with rfl | rfl | rfl | rfl | rfl | rfl <;> kernel_rfl
theorem opp_in {a : Int} (h : 0 ≤ a ∧ a ≤ 5) : 0 ≤ opp a ∧ opp a ≤ 5 := by
  rcases dirs h with rfl | rfl | rfl | rfl | rfl | rfl <;> decide
theorem opp_opp {a : Int} (h : 0 ≤ a ∧ a ≤ 5) : opp (opp a) = a := by
  rcases dirs h with rfl | rfl | rfl | rfl | rfl | rfl <;> decide
theorem opp_ne {a : Int} (h : 0 ≤ a ∧ a ≤ 5) : opp a ≠ a := by
  rcases dirs h with rfl | rfl | rfl | rfl | rfl | rfl <;> decide
theorem isOr_in {a b : Int} (h : isOr a b = true) : (0 ≤ a ∧ a ≤ 5) ∧ (0 ≤ b ∧ b ≤ 5) := by
  unfold isOr inDir at h
  simp only [Bool.and_eq_true, decide_eq_true_eq] at h
  exact ⟨h.1, h.2.1⟩
theorem orGood_some (a b : Int) : spec_orGood.f a b = some (isOr a b) := by
  unfold spec_orGood.f spec_orDir.f
  simp only [l1In_some, Option.bind_some]
  by_cases h1 : 0 ≤ a ∧ a ≤ 5
  · by_cases h2 : 0 ≤ b ∧ b ≤ 5
    · rcases dirs h1 with rfl | rfl | rfl | rfl | rfl | rfl <;> rcases dirs h2 with rfl | rfl | rfl | rfl | rfl | rfl <;> kernel_rfl
    · simp [isOr, inDir, h1, h2]
  · simp [isOr, inDir, h1]
theorem isOrient_some (a b : Int) : impl_IsOrient.f a b = some (isOr a b) := by
  unfold impl_IsOrient.f
  simp only [within_some, Option.bind_some]
  by_cases h1 : 0 ≤ a ∧ a ≤ 5
  · by_cases h2 : 0 ≤ b ∧ b ≤ 5
    · rcases dirs h1 with rfl | rfl | rfl | rfl | rfl | rfl <;> rcases dirs h2 with rfl | rfl | rfl | rfl | rfl | rfl <;> kernel_rfl
    · simp [isOr, inDir, h1, h2]
  · simp [isOr, inDir, h1]
theorem sw_some {a : Int} (h : 0 ≤ a ∧ a ≤ 5) : impl_Orient_mirrored_1.f a = some (sw a) ∧ spec_orSwap.f a = some (sw a) ∧ sw (sw a) = a := by
  rcases dirs h with rfl | rfl | rfl | rfl | rfl | rfl <;> exact ⟨by kernel_rfl, by kernel_rfl, by decide⟩
theorem sn_some {a : Int} (h : 0 ≤ a ∧ a ≤ 5) : impl_SeenOrient_1.f a = some (sn a) ∧ spec_orSeen.f a = some (sn a) ∧ sn (sn a) = a := by
  rcases dirs h with rfl | rfl | rfl | rfl | rfl | rfl <;> exact ⟨by kernel_rfl, by kernel_rfl, by decide⟩
theorem isOr_sw {a b : Int} (h : isOr a b = true) : isOr (sw a) (sw b) = true ∧ isOr (sn a) (sn b) = true := by
  obtain ⟨h1, h2⟩ := isOr_in h
  rcases dirs h1 with rfl | rfl | rfl | rfl | rfl | rfl <;> rcases dirs h2 with rfl | rfl | rfl | rfl | rfl | rfl <;> first | (exact absurd h (by decide)) | exact ⟨by decide, by decide⟩
theorem implMirror_some (a b : Int) : impl_MirrorOrient.f a b = some (if isOr a b = true then (sw a, sw b, true) else (0, 0, false)) := by
  unfold impl_MirrorOrient.f impl_Orient_mirrored.f
  rw [isOrient_some, Option.bind_some]
  cases h : isOr a b
  · rfl
  · obtain ⟨h1, h2⟩ := isOr_in h
    simp [(sw_some h1).1, (sw_some h2).1]
theorem specMirror_some (a b : Int) : spec_MirrorOrient.f a b = some (if isOr a b = true then (sw a, sw b, true) else (0, 0, false)) := by
  unfold spec_MirrorOrient.f spec_orMirror.f
  rw [orGood_some, Option.bind_some]
  cases h : isOr a b
  · rfl
  · obtain ⟨h1, h2⟩ := isOr_in h
    simp [(sw_some h1).2.1, (sw_some h2).2.1]
theorem implSeen_some (a b : Int) : impl_SeenOrient.f a b = some (if isOr a b = true then (sn a, sn b, true) else (0, 0, false)) := by
  unfold impl_SeenOrient.f
  rw [isOrient_some, Option.bind_some]
  cases h : isOr a b
  · rfl
  · obtain ⟨h1, h2⟩ := isOr_in h
    simp [(sn_some h1).1, (sn_some h2).1]
theorem specSeen_some (a b : Int) : spec_SeenOrient.f a b = some (if isOr a b = true then (sn a, sn b, true) else (0, 0, false)) := by
  unfold spec_SeenOrient.f
  rw [orGood_some, Option.bind_some]
  cases h : isOr a b
  · rfl
  · obtain ⟨h1, h2⟩ := isOr_in h
    simp [(sn_some h1).2.1, (sn_some h2).2.1]
/-! ### All orientations -/
def ok2 (o : Ori) : Bool := isOr o.f0 o.f1
def rowF : Nat → Int → Int → List Ori
  | 0, _, _ => []
  | n + 1, p, r => [(⟨p, r⟩ : Ori)].filter ok2 ++ rowF n p (r + 1)
def allF : Nat → Int → List Ori
  | 0, _ => []
  | n + 1, p => rowF 6 p 0 ++ allF n (p + 1)
theorem row_len : ∀ (n : Nat) (p r : Int), (rowF n p r).length ≤ n
  | 0, _, _ => by simp [rowF]
  | n + 1, p, r => by
    have := row_len n p (r + 1)
    have h2 : ([(⟨p, r⟩ : Ori)].filter ok2).length ≤ 1 := List.length_filter_le _ _
    rw [rowF, List.length_append]
    omega
theorem specRow : ∀ (n : Nat) (x : List Ori) (p r : Int), 0 ≤ r → r + n = 6 → (0 ≤ p ∧ p < 6) → x.length + n ≤ 100 → spec_AllOrients.L1 x p r = spec_AllOrients.L0 (x ++ rowF n p r) (p + 1)
  | 0, x, p, r, h0, h1, h2, h3 => by
    rw [spec_AllOrients.L1_eq, if_neg (by omega), wrap_in (by omega) (by omega)]; simp [rowF]
  | n + 1, x, p, r, h0, h1, h2, h3 => by
    rw [spec_AllOrients.L1_eq, if_pos (by omega), orGood_some, Option.bind_some, wrap_in (x := r + 1) (by omega) (by omega), rowF]
    have e : ok2 (⟨p, r⟩ : Ori) = isOr p r := rfl
    rw [List.filter_cons, List.filter_nil, e]
    cases c : isOr p r
    · rw [if_neg (by simp), specRow n x p (r + 1) (by omega) (by omega) h2 (by omega)]; rfl
    · rw [if_pos rfl, if_pos (by omega), specRow n _ p (r + 1) (by omega) (by omega) h2 (by simp; omega)]; simp
theorem specAll : ∀ (n : Nat) (x : List Ori) (p : Int), 0 ≤ p → p + n = 6 → x.length ≤ 6 * p.toNat → spec_AllOrients.L0 x p = some (x ++ allF n p)
  | 0, x, p, h0, h1, h2 => by
    rw [spec_AllOrients.L0_eq, if_neg (by omega)]; simp [allF]
  | n + 1, x, p, h0, h1, h2 => by
    have := row_len 6 p 0
    rw [spec_AllOrients.L0_eq, if_pos (by omega), specRow 6 x p 0 (by omega) (by omega) (by omega) (by omega), specAll n _ (p + 1) (by omega) (by omega) (by rw [List.length_append]; omega), List.append_assoc]
    rfl
theorem implRow : ∀ (n : Nat) (x : List Ori) (p r : Int), 0 ≤ r → r + n = 6 → (0 ≤ p ∧ p < 6) → x.length + n ≤ 100 → impl_AllOrients.L1 x p p r = impl_AllOrients.L0 (x ++ rowF n p r) (p + 1)
  | 0, x, p, r, h0, h1, h2, h3 => by
    rw [impl_AllOrients.L1_eq, if_neg (by omega), wrap_in (by omega) (by omega)]; simp [rowF]
  | n + 1, x, p, r, h0, h1, h2, h3 => by
    rw [impl_AllOrients.L1_eq, if_pos (by omega), isOrient_some, Option.bind_some, wrap_in (x := r + 1) (by omega) (by omega), rowF]
    have e : ok2 (⟨p, r⟩ : Ori) = isOr p r := rfl
    rw [List.filter_cons, List.filter_nil, e]
    cases c : isOr p r
    · rw [if_neg (by simp), implRow n x p (r + 1) (by omega) (by omega) h2 (by omega)]; rfl
    · rw [if_pos rfl, if_pos (by omega), implRow n _ p (r + 1) (by omega) (by omega) h2 (by simp; omega)]; simp
theorem implAll : ∀ (n : Nat) (x : List Ori) (p : Int), 0 ≤ p → p + n = 6 → x.length ≤ 6 * p.toNat → impl_AllOrients.L0 x p = some (x ++ allF n p)
  | 0, x, p, h0, h1, h2 => by
    rw [impl_AllOrients.L0_eq, if_neg (by omega)]; simp [allF]
  | n + 1, x, p, h0, h1, h2 => by
    have := row_len 6 p 0
    rw [impl_AllOrients.L0_eq, if_pos (by omega), implRow 6 x p 0 (by omega) (by omega) (by omega) (by omega), implAll n _ (p + 1) (by omega) (by omega) (by rw [List.length_append]; omega), List.append_assoc]
    rfl
def all24 : List Ori := allF 6 0
theorem specAll_some : spec_AllOrients.F = some all24 := by
  rw [spec_AllOrients.F_eq, specAll 6 [] 0 (by omega) (by omega) (by simp)]; rfl
theorem implAll_some : impl_AllOrients.F = some all24 := by
  rw [impl_AllOrients.F_eq, implAll 6 [] 0 (by omega) (by omega) (by simp)]; rfl
theorem all24_len : all24.length = 24 := by kernel_rfl
theorem all24_ok : ∀ p ∈ all24, isOr p.f0 p.f1 = true := by decide +kernel
instance : DecidableEq Ori := fun p q => decidable_of_iff (p.f0 = q.f0 ∧ p.f1 = q.f1) ⟨fun h => by
  obtain ⟨a, b⟩ := p
  obtain ⟨a', b'⟩ := q
  simp only at h
  obtain ⟨rfl, rfl⟩ := h
  rfl, fun h => by subst h; exact ⟨rfl, rfl⟩⟩
theorem mem24 {a b : Int} (h : isOr a b = true) : (⟨a, b⟩ : Ori) ∈ all24 := by
  obtain ⟨h1, h2⟩ := isOr_in h
  rcases dirs h1 with rfl | rfl | rfl | rfl | rfl | rfl <;> rcases dirs h2 with rfl | rfl | rfl | rfl | rfl | rfl <;> first | (exact absurd h (by decide)) | decide +kernel
theorem same_some (l : List Ori) (hl : l.length ≤ 1000) : laws_pSameOrients.F l l = some true := by
  rw [laws_pSameOrients.F_eq, if_pos rfl]
  refine each (L := fun i => laws_pSameOrients.L0 l l l.length i) l z39 (fun _ _ o => o = some true) ?_ ?_
  · show laws_pSameOrients.L0 l l _ _ = _
    rw [laws_pSameOrients.L0_eq, if_neg (by omega)]
  · intro i p t hi _ _ _ ih
    show laws_pSameOrients.L0 l l _ _ = _
    rw [laws_pSameOrients.L0_eq, if_pos (by omega), if_pos (by omega), if_pos (by omega), if_pos (by omega), wrap_in (x := (i : Int) + 1) (by omega) (by omega)]
    simpa using ih
/-! ### Texts -/
def letter (x : Int) : Int := if x = 117 then 0 else if x = 100 then 1 else if x = 108 then 2 else if x = 114 then 3 else if x = 102 then 4 else if x = 98 then 5 else -1
theorem index_fin : ∀ x : Fin 256, Lib.indexByte [117, 100, 108, 114, 102, 98] x.val.toUInt8 = letter (x.val : Int) := by decide +kernel
theorem index_some {x : Int} (h : 0 ≤ x ∧ x < 256) : strings_IndexByte.f (⟨#[117, 100, 108, 114, 102, 98]⟩ : ByteArray) x = some (letter x) := by
  obtain ⟨n, rfl⟩ := Int.eq_ofNat_of_zero_le h.1
  have := index_fin ⟨n, by omega⟩
  unfold strings_IndexByte.f stringslite_IndexByte.f
  rw [Option.bind_some, Int.toNat_natCast]
  exact congrArg some this
theorem bt_letters : ∀ i : Fin 6, bt (⟨#[117, 100, 108, 114, 102, 98]⟩ : ByteArray) (i.val : Int) = [117, 100, 108, 114, 102, 98].getD i.val 0 := by decide +kernel
theorem orLetter_some (x : Int) : spec_orLetter.F x = some (letter x) := by
  have b := fun (i : Nat) (hi : i < 6) => bt_letters ⟨i, hi⟩
  rw [spec_orLetter.F_eq]
  have step : ∀ (i : Nat) (hi : i < 6), spec_orLetter.L0 x (i : Int) = if ([117, 100, 108, 114, 102, 98].getD i 0 : Int) = x then some (i : Int) else spec_orLetter.L0 x ((i + 1 : Nat) : Int) := fun i hi => by
    rw [spec_orLetter.L0_eq, if_pos (by omega), if_pos (by omega), wrap_in (by omega) (by omega)]
    have := b i hi
    simp only at this
    rw [this]
    rfl
  have s0 := step 0 (by omega)
  rw [show ((0 : Nat) : Int) = 0 from rfl] at s0
  have s6 : spec_orLetter.L0 x ((5 + 1 : Nat) : Int) = some (-1) := by rw [spec_orLetter.L0_eq, if_neg (by omega)]
  rw [s0, step 1 (by omega), step 2 (by omega), step 3 (by omega), step 4 (by omega), step 5 (by omega), s6]
  unfold letter
  by_cases c0 : x = 117
  · simp [c0]
  have d0 : ¬ (117 : Int) = x := fun h => c0 h.symm
  by_cases c1 : x = 100
  · simp [c1]
  have d1 : ¬ (100 : Int) = x := fun h => c1 h.symm
  by_cases c2 : x = 108
  · simp [c2]
  have d2 : ¬ (108 : Int) = x := fun h => c2 h.symm
  by_cases c3 : x = 114
  · simp [c3]
  have d3 : ¬ (114 : Int) = x := fun h => c3 h.symm
  by_cases c4 : x = 102
  · simp [c4]
  have d4 : ¬ (102 : Int) = x := fun h => c4 h.symm
  by_cases c5 : x = 98
  · simp [c5]
  have d5 : ¬ (98 : Int) = x := fun h => c5 h.symm
  simp [c0, c1, c2, c3, c4, c5, d0, d1, d2, d3, d4, d5]
theorem bt_bound (s : ByteArray) (i : Int) : 0 ≤ bt s i ∧ bt s i < 256 := by
  unfold bt
  split
  · have := (s[i.toNat]).toNat_lt
    omega
  · omega
def prs (s : ByteArray) : Int × Int × Bool := if (s.size : Int) = 2 then (if isOr (letter (bt s 0)) (letter (bt s 1)) = true then (letter (bt s 0), letter (bt s 1), true) else (0, 0, false)) else (0, 0, false)
theorem implParse_some (s : ByteArray) : impl_ParseOrient.f s = some (prs s) := by
  unfold impl_ParseOrient.f prs
  by_cases h : (s.size : Int) = 2
  · rw [if_pos h, if_pos h, if_pos (by omega), index_some (bt_bound s 0), Option.bind_some, if_pos (by omega), index_some (bt_bound s 1), Option.bind_some, isOrient_some, Option.bind_some]
    split <;> rfl
  · rw [if_neg h, if_neg h]
theorem specParse_some (s : ByteArray) : spec_ParseOrient.F s = some (prs s) := by
  rw [spec_ParseOrient.F_eq, spec_orParse.F_eq]
  unfold prs
  by_cases h : (s.size : Int) = 2
  · rw [if_pos h, if_pos h, if_pos (by omega), orLetter_some, Option.bind_some, if_pos (by omega), orLetter_some, Option.bind_some, orGood_some, Option.bind_some]
    split <;> rfl
  · rw [if_neg h, if_neg h]; rfl
theorem text_same (a b : Int) : impl_Orient_text.f a b = spec_orText.f a b := rfl
def one6 (a : Int) : ByteArray := if a = 0 then ⟨#[117]⟩ else if a = 1 then ⟨#[100]⟩ else if a = 2 then ⟨#[108]⟩ else if a = 3 then ⟨#[114]⟩ else if a = 4 then ⟨#[102]⟩ else ⟨#[98]⟩
theorem cut6 {a : Int} (h : 0 ≤ a ∧ a ≤ 5) : (⟨#[117, 100, 108, 114, 102, 98]⟩ : ByteArray).extract a.toNat (a + 1).toNat = one6 a := by
  rcases dirs h with rfl | rfl | rfl | rfl | rfl | rfl <;> kernel_rfl
theorem one6_size (a : Int) : (one6 a).size = 1 := by
  unfold one6
  repeat' split
  all_goals rfl
theorem text_some {a b : Int} (h : isOr a b = true) : spec_orText.f a b = some (one6 a ++ one6 b) := by
  obtain ⟨h1, h2⟩ := isOr_in h
  unfold spec_orText.f
  rw [wrap_in (x := a + 1) (by omega) (by omega), wrap_in (x := b + 1) (by omega) (by omega), if_pos h1.1, if_pos (by omega), if_pos (by omega), if_pos h2.1, if_pos (by omega), if_pos (by omega), cut6 h1, cut6 h2, one6_size, one6_size, if_pos (by omega)]
theorem text_back {a b : Int} (h : isOr a b = true) : prs (one6 a ++ one6 b) = (a, b, true) := by
  obtain ⟨h1, h2⟩ := isOr_in h
  rcases dirs h1 with rfl | rfl | rfl | rfl | rfl | rfl <;> rcases dirs h2 with rfl | rfl | rfl | rfl | rfl | rfl <;> first | (exact absurd h (by decide)) | kernel_rfl
theorem specText_some (a b : Int) : spec_OrientText.f a b = some (if isOr a b = true then (one6 a ++ one6 b, true) else (⟨#[]⟩, false)) := by
  unfold spec_OrientText.f
  rw [orGood_some, Option.bind_some]
  cases h : isOr a b
  · rfl
  · rw [if_pos rfl, text_some h]; rfl
theorem implText_some (a b : Int) : impl_OrientText.f a b = some (if isOr a b = true then (one6 a ++ one6 b, true) else (⟨#[]⟩, false)) := by
  unfold impl_OrientText.f
  rw [isOrient_some, Option.bind_some]
  cases h : isOr a b
  · rfl
  · rw [if_pos rfl, text_same, text_some h]; rfl
/-! ### What is drawn -/
theorem orient_tells (l : List Int) (hl : Bytes l) (a s : Int) (ha : 0 ≤ a ∧ a ≤ 1000000) : ∃ x y b t, spec_l1Cur_orient.F l a s = some (x, y, b, t) ∧ isOr x y = true ∧ 0 ≤ b ∧ b ≤ a + 2 := by
  rw [spec_l1Cur_orient.F_eq, specAll_some, Option.bind_some]
  have hlen := all24_len
  have hok := all24_ok
  generalize all24 = m at hlen hok
  obtain ⟨r, b, t, h1, h2, h3, h4, h5⟩ := pick_tells l hl a s m.length (by omega) (by omega)
  obtain ⟨n, rfl⟩ := Int.eq_ofNat_of_zero_le h2
  have hn : n < m.length := by omega
  rw [h1, Option.bind_some]
  simp only
  rw [if_pos (by omega), if_pos (by omega), rd_ori]
  have e : m.getD n z39 = m[n] := by rw [List.getD_eq_getElem?_getD, List.getElem?_eq_getElem hn]; rfl
  rw [e]
  exact ⟨_, _, _, _, rfl, hok _ (List.getElem_mem hn), h4, by omega⟩
theorem anyOrient_tells (l : List Int) (hl : Bytes l) (a s : Int) (ha : 0 ≤ a ∧ a ≤ 900000) : ∃ x y b t, spec_l1Cur_anyOrient.F l a s = some (x, y, b, t) ∧ 0 ≤ b ∧ b ≤ a + 6 := by
  rw [spec_l1Cur_anyOrient.F_eq]
  obtain ⟨r, b, t, h1, h4, h5⟩ := one_tells l hl a s 16 (by omega) (by omega)
  rw [h1, Option.bind_some]
  simp only
  cases r
  · obtain ⟨x, y, b2, t2, k1, _, k4, k5⟩ := orient_tells l hl b t (by omega)
    simp only [Bool.false_eq_true, if_false, k1, Option.bind_some]
    exact ⟨_, _, _, _, rfl, k4, by omega⟩
  · obtain ⟨x, b2, t2, k1, _, _, k4, k5⟩ := pick_tells l hl b t 8 (by omega) (by omega)
    simp only [if_true, k1, Option.bind_some]
    obtain ⟨y, b3, t3, m1, _, _, m4, m5⟩ := pick_tells l hl b2 t2 8 (by omega) (by omega)
    simp only [m1, Option.bind_some]
    exact ⟨_, _, _, _, rfl, m4, by omega⟩
theorem drawIsOrient_tells (l : List Int) (hl : Bytes l) : ∃ x y, spec_DrawIsOrient.F l = some (x, y) := by
  obtain ⟨x, y, b, t, h, _, _⟩ := anyOrient_tells l hl 0 0 (by omega)
  rw [spec_DrawIsOrient.F_eq, h]
  exact ⟨_, _, rfl⟩
theorem drawTwo_tells (l : List Int) (hl : Bytes l) : ∃ x y u v, spec_DrawPalmsMeet.F l = some (x, y, u, v) := by
  obtain ⟨x, y, b, t, h, _, _⟩ := anyOrient_tells l hl 0 0 (by omega)
  obtain ⟨u, v, b2, t2, h2, _, _⟩ := anyOrient_tells l hl b t (by omega)
  rw [spec_DrawPalmsMeet.F_eq, spec_DrawLeastTurns.F_eq, h]
  simp only [Option.bind_some, h2]
  exact ⟨_, _, _, _, rfl⟩
theorem drawDir_tells (l : List Int) (hl : Bytes l) : ∃ n, spec_DrawOppositeDir.f l = some n := by
  unfold spec_DrawOppositeDir.f spec_l1Cur_dirOf.f
  obtain ⟨r, b, t, h1, _, h3, h4⟩ := among_tells l hl 0 0 [0, 3, -1, 6, -9223372036854775808] (by omega) (by simp)
  simp only [h1, Option.bind_some]
  obtain ⟨r2, b2, t2, k1, _, _, _⟩ := among_tells l hl b t [0, 1, 2, 3, 4, 5, r] (by omega) (by simp)
  simp only [k1, Option.bind_some]
  exact ⟨_, rfl⟩
theorem drawParse_tells (l : List Int) (hl : Bytes l) : ∃ s, spec_DrawParseOrient.F l = some s := by
  rw [spec_DrawParseOrient.F_eq]
  obtain ⟨x, y, b, t, h1, ho, h3, h4⟩ := orient_tells l hl 0 0 (by omega)
  rw [h1, Option.bind_some]
  simp only
  rw [text_some ho, Option.bind_some]
  obtain ⟨r, b2, t2, k1, _, _, k4, k5⟩ := pick_tells l hl b t 5 (by omega) (by omega)
  simp only [k1, Option.bind_some]
  by_cases c0 : r = 0
  · rw [if_pos c0]
    obtain ⟨q, b3, t3, m1, _, _, _⟩ := spoilt_tells l hl b2 t2 (one6 x ++ one6 y) ⟨#[117, 100, 108, 114, 102, 98]⟩ (by decide) (by rw [ByteArray.size_append, one6_size, one6_size]; omega) (by omega)
    simp only [m1, Option.bind_some]
    exact ⟨_, rfl⟩
  rw [if_neg c0]
  by_cases c1 : r = 1
  · rw [if_pos c1]
    generalize hq : ([(⟨#[]⟩ : ByteArray), (⟨#[102, 117]⟩ : ByteArray), (⟨#[117, 117]⟩ : ByteArray), (⟨#[117, 100]⟩ : ByteArray), (⟨#[102]⟩ : ByteArray), (⟨#[102, 117, 117]⟩ : ByteArray), (⟨#[70, 85]⟩ : ByteArray), (⟨#[120, 117]⟩ : ByteArray)] : List ByteArray) = q
    obtain ⟨z, b3, t3, m1, _, _, _⟩ := of_tells l hl b2 t2 q (by omega) (by rw [← hq]; simp)
    simp only [m1, Option.bind_some]
    exact ⟨_, rfl⟩
  rw [if_neg c1]
  exact ⟨_, rfl⟩
/-! ### The law, from its end -/
theorem j6 (l : List Int) (hl : Bytes l) : laws_FnOrients.J6 l = some true := by
  obtain ⟨s, hs⟩ := drawParse_tells l hl
  obtain ⟨a, b, hd⟩ := drawIsOrient_tells l hl
  rw [laws_FnOrients.J6_eq, spec_DrawOrientText.F_eq]
  simp only [hs, hd, Option.bind_some, implParse_some, specParse_some, implText_some, specText_some]
  cases h : isOr a b
  · simp [laws_FnOrients.J7_eq]
  · simp [laws_FnOrients.J7_eq, implParse_some, text_back h]
theorem j4 (l : List Int) (hl : Bytes l) : laws_FnOrients.J4 l = some true := by
  obtain ⟨n, hn⟩ := drawDir_tells l hl
  rw [laws_FnOrients.J4_eq, hn, Option.bind_some]
  unfold impl_OppositeDir.f spec_OppositeDir.f spec_orDir.f
  simp only [within_some, l1In_some, Option.bind_some]
  by_cases h : 0 ≤ n ∧ n ≤ 5
  · have h2 := opp_in h
    have h3 := opp_ne h
    simp [h, xor_some h, opp_some h, laws_FnOrients.J5_eq, impl_OppositeDir.f, within_some, h2, xor_some h2, opp_opp h, h3, j6 l hl]
  · simp [h, laws_FnOrients.J5_eq, j6 l hl]
theorem palms {a b : Int} (h1 : 0 ≤ a ∧ a ≤ 5) (h2 : 0 ≤ b ∧ b ≤ 5) : (opp a == b) = (a == opp b) ∧ (opp b == a) = (a == opp b) := by
  rcases dirs h1 with rfl | rfl | rfl | rfl | rfl | rfl <;> rcases dirs h2 with rfl | rfl | rfl | rfl | rfl | rfl <;> exact ⟨by decide, by decide⟩
theorem j2 (l : List Int) (hl : Bytes l) : laws_FnOrients.J2 l = some true := by
  obtain ⟨a, b, c, d, hd⟩ := drawTwo_tells l hl
  rw [laws_FnOrients.J2_eq, hd, Option.bind_some]
  unfold impl_PalmsMeet.f spec_PalmsMeet.f
  simp only [orGood_some, isOrient_some, Option.bind_some]
  cases h : isOr a b
  · simp [laws_FnOrients.J3_eq, j4 l hl]
  cases h2 : isOr c d
  · simp [laws_FnOrients.J3_eq, j4 l hl]
  obtain ⟨i1, _⟩ := isOr_in h
  obtain ⟨i2, _⟩ := isOr_in h2
  have p := palms i1 i2
  simp only [if_true, xor_some i1, opp_some i2, Option.bind_some, p.1, laws_FnOrients.J3_eq, impl_OppositeDir.f, within_some, i1, impl_PalmsMeet.f, isOrient_some, h, h2, xor_some i2, p.2, decide_true, and_self, bne_self_eq_false, Bool.false_eq_true, if_false, j4 l hl]
theorem loop_some (l : List Int) (hl : Bytes l) (a b m0 m1 s0 s1 : Int) (hm : isOr m0 m1 = true) (hs : isOr s0 s1 = true) (L : List Ori) (hL : L.length ≤ 100) (h : (⟨a, b⟩ : Ori) ∈ L) : laws_FnOrients.L0 l true true false L L.length 0 a b m0 m1 s0 s1 a b a b = some true := by
  refine each (L := fun i => fun found => laws_FnOrients.L0 l true true found L L.length i a b m0 m1 s0 s1 a b a b) L z39 (fun _ t f => ∀ found, (found = true ∨ (⟨a, b⟩ : Ori) ∈ t) → f found = some true) ?_ ?_ false (Or.inr h)
  · intro found hf
    show laws_FnOrients.L0 l true true found L _ _ _ _ _ _ _ _ _ _ _ _ = _
    obtain rfl : found = true := by simpa using hf
    rw [laws_FnOrients.L0_eq, if_neg (by omega)]
    simp [isOrient_some, hm, hs, j2 l hl]
  · intro i p t hi hp _ _ ih found hf
    show laws_FnOrients.L0 l true true found L _ _ _ _ _ _ _ _ _ _ _ _ = _
    rw [laws_FnOrients.L0_eq, if_pos (by omega), if_pos (by omega), if_pos (by omega), rd_ori, hp, wrap_in (x := (i : Int) + 1) (by omega) (by omega)]
    cases found
    · rw [if_neg (by simp)]
      refine ih _ ?_
      rcases List.mem_cons.1 (hf.resolve_left (by simp)) with h | h
      · left; rw [← h]; simp
      · exact Or.inr h
    · rw [if_pos rfl]
      exact ih true (Or.inl rfl)
theorem FnOrients : laws_FnOrients.Pure := by
  intro l0 l1 _ m0 w0 _ m1 w1
  refine lim_rounds (?_ : laws_FnOrients.F l0 l1 = some true)
  rw [laws_FnOrients.F_eq]
  have hbig : laws_big.f l0 l1 = some (decide ((l0.length : Int) > 1048576 ∨ (l1.length : Int) > 1048576 - (l0.length : Int))) := by
    unfold laws_big.f
    by_cases c : (l0.length : Int) > 1048576
    · rw [if_pos c]; simp [c]
    · rw [if_neg c, wrap_in (by omega) (by omega)]; simp [c]
  rw [hbig, Option.bind_some]
  by_cases c : (l0.length : Int) > 1048576 ∨ (l1.length : Int) > 1048576 - (l0.length : Int)
  · rw [if_pos (by simpa using c)]
  rw [if_neg (by simpa using c)]
  have B0 := bytes_of (l := l0) (by omega) w0
  have B1 := bytes_of (l := l1) (by omega) w1
  obtain ⟨a, b, hd⟩ := drawIsOrient_tells l0 B0
  rw [spec_DrawMirrorOrient.F_eq, hd]
  simp only [Option.bind_some, implMirror_some, specMirror_some, implSeen_some, specSeen_some, implAll_some, specAll_some, same_some all24 (by rw [all24_len]; omega), isOrient_some]
  cases h : isOr a b
  · simp [all24_len, laws_FnOrients.J0_eq, j2 l1 B1]
  · obtain ⟨i1, i2⟩ := isOr_in h
    obtain ⟨g1, g2⟩ := isOr_sw h
    have := loop_some l1 B1 a b (sw a) (sw b) (sn a) (sn b) g1 g2 all24 (by rw [all24_len]; omega) (mem24 h)
    simp [all24_len, laws_FnOrients.J0_eq, implMirror_some, implSeen_some, g1, g2, (sw_some i1).2.2, (sw_some i2).2.2, (sn_some i1).2.2, (sn_some i2).2.2]
    rw [all24_len] at this
    exact this

end Go.Proofs.Ytmlpogmedglncaa.Pure
