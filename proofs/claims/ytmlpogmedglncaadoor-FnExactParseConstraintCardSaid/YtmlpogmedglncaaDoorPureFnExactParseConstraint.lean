/- The pure statement of the law FnExactParseConstraint: for all arguments within their bounds its Lean function answers true. -/
import Derived.Test.YtmlpogmedglncaaDoorPFnExactParseConstraintxD0
namespace Go.Proofs.YtmlpogmedglncaaDoor.Pure
open Go.RowKit Go.Proofs.YtmlpogmedglncaaDoor.PFnExactParseConstraint Go.Proofs.YtmlpogmedglncaaDoorW.PrintWords Go.Proofs.YtmlpogmedglncaaDoorW.PrintLast
set_option linter.unusedVariables false
set_option linter.unusedSimpArgs false
/-! ### Numbers, loops, letters -/
theorem wrap_in {x : Int} (h0 : -9223372036854775808 ≤ x) (h1 : x ≤ 9223372036854775807) : wrap64 x = x := by
  unfold wrap64; omega
theorem wf_i64 {n : Int} (h : (Lit.int .i64 n).wf = true) : -9223372036854775808 ≤ n ∧ n ≤ 9223372036854775807 := by
  simpa [Lit.wf, IntKind.min, IntKind.max, IntKind.signed, IntKind.bits] using h
/-- A loop over a list, from its end. L: what the loop tells from place i on. -/
theorem each {α γ : Type} (L : Int → γ) (l : List α) (z : α) (R : Nat → List α → γ → Prop) (nil : R l.length [] (L l.length))
    (cons : ∀ (i : Nat) (x : α) (t : List α), i < l.length → l.getD i z = x → l.drop i = x :: t → l.drop (i + 1) = t → R (i + 1) t (L ((i : Int) + 1)) → R i (x :: t) (L i)) : R 0 l (L 0) := by
  have key : ∀ (t : List α) (i : Nat), l.drop i = t → i ≤ l.length → R i t (L i) := by
    intro t
    induction t with
    | nil =>
      intro i h hi
      have : l.length ≤ i := by simpa [List.drop_eq_nil_iff] using h
      obtain rfl : i = l.length := by omega
      exact nil
    | cons x t ih =>
      intro i h hi
      have hlt : i < l.length := by
        rcases Nat.lt_or_ge i l.length with h' | h'
        · exact h'
        · rw [List.drop_eq_nil_of_le h'] at h; cases h
      have h2 := List.drop_eq_getElem_cons hlt
      rw [h] at h2
      injection h2 with h3 h4
      refine cons i x t hlt ?_ h h4.symm ?_
      · rw [List.getD_eq_getElem?_getD, List.getElem?_eq_getElem hlt]; exact h3.symm
      · have := ih (i + 1) h4.symm (by omega)
        rwa [show ((i + 1 : Nat) : Int) = (i : Int) + 1 from by omega] at this
  have := key l 0 rfl (Nat.zero_le _)
  rwa [show ((0 : Nat) : Int) = 0 from rfl] at this
theorem bt_data (s : ByteArray) (i : Nat) (h : i < s.size) : bt s (i : Int) = ((s.data.toList.getD i 0).toNat : Int) := by
  obtain ⟨d⟩ := s
  have h' : i < d.size := h
  have : bt ⟨d⟩ (i : Int) = ((d[i]).toNat : Int) := by
    unfold bt
    rw [dif_pos (show ((i : Int)).toNat < (⟨d⟩ : ByteArray).size from by simpa using h)]
    rfl
  rw [this]
  simp [h']
theorem size_data (s : ByteArray) : s.size = s.data.toList.length := by
  obtain ⟨d⟩ := s; simp [ByteArray.size]
theorem toList_data (s : ByteArray) : s.toList = s.data.toList := by
  rw [ByteArray.toList_eq]
theorem ext_data {s t : ByteArray} (h : s.toList = t.toList) : s = t := by
  rw [toList_data, toList_data] at h
  obtain ⟨⟨a⟩⟩ := s
  obtain ⟨⟨b⟩⟩ := t
  simp at h
  rw [h]
theorem toList_iff {s t : ByteArray} : s.toList = t.toList ↔ s = t := ⟨ext_data, fun h => by rw [h]⟩
theorem mem_drop {α : Type} {l t : List α} {x : α} {i : Nat} (h : l.drop i = x :: t) : x ∈ l := List.mem_of_mem_drop (i := i) (by rw [h]; simp)

/-! ### Decimal digits -/
theorem dec_length (n : Nat) : (Lib.decDigits n).length ≤ n + 1 := by
  induction n using Nat.strongRecOn with
  | ind n ih =>
    rw [Lib.decDigits]
    split
    · simp
    · have := ih (n / 10) (by omega)
      rw [List.length_append]
      simp only [List.length_cons, List.length_nil]
      omega


theorem l1In_some (a b c : Int) : spec_l1In.f a b c = some (decide (b ≤ a ∧ a ≤ c)) := by
  unfold spec_l1In.f
  by_cases h : a ≥ b
  · rw [if_pos h]; congr 1; simp; omega
  · rw [if_neg h]; congr 1; symm; simp; omega

/-! ### Texts cut and read -/
theorem cut_data (s : ByteArray) (a b : Nat) : (s.extract a b).data.toList = (s.data.toList.drop a).take (b - a) := by
  simp [List.take_drop]
def mkB (l : List UInt8) : ByteArray := ⟨l.toArray⟩
theorem mkB_data (s : ByteArray) : mkB s.data.toList = s := by
  obtain ⟨⟨l⟩⟩ := s; rfl
theorem data_mkB (l : List UInt8) : (mkB l).data.toList = l := rfl
theorem mkB_size (l : List UInt8) : (mkB l).size = l.length := by simp [mkB, ByteArray.size]
theorem data_inj {s t : ByteArray} (h : s.data.toList = t.data.toList) : s = t := by
  rw [← mkB_data s, ← mkB_data t, h]
theorem mkB_inj {l m : List UInt8} (h : mkB l = mkB m) : l = m := by
  rw [← data_mkB l, h, data_mkB]
theorem cut_mkB (s : ByteArray) (a b : Nat) : s.extract a b = mkB ((s.data.toList.drop a).take (b - a)) := data_inj (by rw [cut_data, data_mkB])
/-- The parts between a byte. -/
def splitFrom (b : UInt8) (cur : List UInt8) : List UInt8 → List (List UInt8)
  | [] => [cur]
  | c :: t => if c = b then cur :: splitFrom b [] t else splitFrom b (cur ++ [c]) t
theorem split_cons (b : UInt8) (cur : List UInt8) (c : UInt8) (t : List UInt8) : splitFrom b cur (c :: t) = if c = b then cur :: splitFrom b [] t else splitFrom b (cur ++ [c]) t := rfl
theorem split_none (b : UInt8) : ∀ (xs cur : List UInt8), b ∉ xs → splitFrom b cur xs = [cur ++ xs]
  | [], cur, _ => by simp [splitFrom]
  | c :: t, cur, h => by
    simp only [List.mem_cons, not_or] at h
    rw [split_cons, if_neg (fun e => h.1 e.symm), split_none b t _ h.2]; simp
theorem split_app (b : UInt8) : ∀ (p cur t : List UInt8), b ∉ p → splitFrom b cur (p ++ b :: t) = (cur ++ p) :: splitFrom b [] t
  | [], cur, t, _ => by rw [List.nil_append, split_cons, if_pos rfl, List.append_nil]
  | c :: p, cur, t, h => by
    simp only [List.mem_cons, not_or] at h
    rw [List.cons_append, split_cons, if_neg (fun e => h.1 e.symm), split_app b p _ t h.2]; simp
theorem split_ne (b : UInt8) : ∀ (xs cur : List UInt8), splitFrom b cur xs ≠ []
  | [], cur => by simp [splitFrom]
  | c :: t, cur => by
    rw [split_cons]
    split
    · simp
    · exact split_ne b t _
theorem split_one (b : UInt8) : ∀ (xs cur p : List UInt8), splitFrom b cur xs = [p] → p = cur ++ xs ∧ b ∉ xs
  | [], cur, p, h => by
    simp only [splitFrom, List.cons.injEq, and_true] at h
    simp [h]
  | c :: t, cur, p, h => by
    rw [split_cons] at h
    split at h
    · simp only [List.cons.injEq] at h
      exact absurd h.2 (split_ne b t [])
    · rename_i hc
      obtain ⟨h1, h2⟩ := split_one b t _ p h
      refine ⟨by rw [h1]; simp, ?_⟩
      simp only [List.mem_cons, not_or]
      exact ⟨fun e => hc e.symm, h2⟩
theorem split_more (b : UInt8) : ∀ (xs cur p : List UInt8) (ps : List (List UInt8)), splitFrom b cur xs = p :: ps → ps ≠ [] → ∃ r t, p = cur ++ r ∧ b ∉ r ∧ xs = r ++ b :: t ∧ splitFrom b [] t = ps
  | [], cur, p, ps, h, hp => by
    simp only [splitFrom, List.cons.injEq] at h
    exact absurd h.2.symm hp
  | c :: t, cur, p, ps, h, hp => by
    rw [split_cons] at h
    split at h
    · rename_i hc
      simp only [List.cons.injEq] at h
      exact ⟨[], t, by simp [h.1], by simp, by simp [hc], h.2⟩
    · rename_i hc
      obtain ⟨r, u, h1, h2, h3, h4⟩ := split_more b t _ p ps h hp
      refine ⟨c :: r, u, by rw [h1]; simp, ?_, by rw [h3]; rfl, h4⟩
      simp only [List.mem_cons, not_or]
      exact ⟨fun e => hc e.symm, h2⟩
theorem split_count (b : UInt8) : ∀ (xs cur : List UInt8), (splitFrom b cur xs).length ≤ xs.length + 1
  | [], cur => by simp [splitFrom]
  | c :: t, cur => by
    rw [split_cons]
    split
    · have := split_count b t []
      simp only [List.length_cons]; omega
    · have := split_count b t (cur ++ [c])
      simp only [List.length_cons]; omega
theorem split_some (s : ByteArray) (b : UInt8) (hs : s.size ≤ 1048576) : spec_l1Split.F s (b.toNat : Int) = some ((splitFrom b [] s.data.toList).map mkB) := by
  rw [spec_l1Split.F_eq]
  have hn := size_data s
  have key : ∀ (t : List UInt8) (i fr : Nat) (acc : List ByteArray), s.data.toList.drop i = t → fr ≤ i → i ≤ s.size → acc.length ≤ i → spec_l1Split.L0 s (b.toNat : Int) acc (fr : Int) (i : Int) = some (acc ++ (splitFrom b ((s.data.toList.drop fr).take (i - fr)) t).map mkB) := by
    intro t
    induction t with
    | nil =>
      intro i fr acc hd hf hi ha
      have : s.data.toList.length ≤ i := by simpa [List.drop_eq_nil_iff] using hd
      obtain rfl : i = s.size := by omega
      rw [spec_l1Split.L0_eq, if_neg (by omega), if_pos (by omega), if_pos (by omega), if_pos (by omega), Int.toNat_natCast, cut_mkB]
      rfl
    | cons c t ih =>
      intro i fr acc hd hf hi ha
      have hlt : i < s.data.toList.length := by
        rcases Nat.lt_or_ge i s.data.toList.length with h' | h'
        · exact h'
        · rw [List.drop_eq_nil_of_le h'] at hd; cases hd
      have h2 := List.drop_eq_getElem_cons hlt
      rw [hd] at h2
      injection h2 with h3 h4
      have hb : bt s (i : Int) = (c.toNat : Int) := by
        rw [bt_data s i (by omega), List.getD_eq_getElem?_getD, List.getElem?_eq_getElem hlt, ← h3]
        rfl
      rw [spec_l1Split.L0_eq, if_pos (by omega), if_pos (by omega), hb, wrap_in (x := (i : Int) + 1) (by omega) (by omega), split_cons]
      have hi1 : ((i : Int) + 1) = ((i + 1 : Nat) : Int) := by omega
      by_cases hc : c = b
      · subst hc
        rw [if_pos rfl, if_pos (by omega), if_pos (by omega), if_pos (by omega), if_pos (by omega), if_pos rfl, hi1, ih (i + 1) (i + 1) _ h4.symm (by omega) (by omega) (by simp; omega), Int.toNat_natCast, Int.toNat_natCast, cut_mkB]
        simp
      · have hne : ¬ ((c.toNat : Int) = (b.toNat : Int)) := fun e => hc (UInt8.toNat_inj.1 (by omega))
        rw [if_neg hne, if_neg hc, hi1, ih (i + 1) fr acc h4.symm (by omega) (by omega) (by omega)]
        congr 4
        rw [show i + 1 - fr = (i - fr) + 1 from by omega, List.take_add_one]
        congr 1
        rw [List.getElem?_drop, show fr + (i - fr) = i from by omega, List.getElem?_eq_getElem hlt, ← h3]
        rfl
  have := key s.data.toList 0 0 [] rfl (by omega) (by omega) (by simp)
  simpa using this
/-! ### Numbers read -/
def dig (c : UInt8) : Bool := decide (48 ≤ c.toNat ∧ c.toNat ≤ 57)
def valF (n : Nat) (l : List UInt8) : Nat := l.foldl (fun n c => 10 * n + (c.toNat - 48)) n
/-- A canonical decimal number of at most six digits, or -1. -/
def readV (l : List UInt8) : Int := if (1 ≤ l.length ∧ l.length ≤ 6) ∧ l.all dig = true ∧ (l.length > 1 → l.head? ≠ some 48) then (valF 0 l : Int) else -1
theorem read_loop (s : ByteArray) (hs : s.size ≤ 6) : spec_l1Read.L0 s 0 0 = some (if s.data.toList.all dig = true then (valF 0 s.data.toList : Int) else -1) := by
  have hn := size_data s
  refine each (L := fun i => fun n => spec_l1Read.L0 s n i) s.data.toList 0 (fun i t f => ∀ n : Nat, n < 10 ^ i → i + t.length ≤ 6 → f (n : Int) = some (if t.all dig = true then (valF n t : Int) else -1)) ?_ ?_ 0 (by decide) (by omega)
  · intro n h1 h2
    show spec_l1Read.L0 s _ _ = _
    rw [spec_l1Read.L0_eq, if_neg (by omega)]; rfl
  · intro i c t hi hc _ _ ih n h1 h2
    show spec_l1Read.L0 s _ _ = _
    have hb : bt s (i : Int) = (c.toNat : Int) := by rw [bt_data s i (by omega), hc]
    have h10 : (10 : Nat) ^ i ≤ 10 ^ 6 := Nat.pow_le_pow_right (by omega) (by omega)
    simp only [List.length_cons] at h2
    rw [spec_l1Read.L0_eq, if_pos (by omega), if_pos (by omega), hb]
    by_cases c1 : (c.toNat : Int) < 48
    · have : dig c = false := by unfold dig; simp; omega
      rw [if_pos c1]; simp [this]
    rw [if_neg c1]
    by_cases c2 : (c.toNat : Int) > 57
    · have : dig c = false := by unfold dig; simp; omega
      rw [if_pos c2]; simp [this]
    have hd : dig c = true := by unfold dig; simp; omega
    rw [if_neg c2, wrap_in (x := 10 * (n : Int)) (by omega) (by omega), wrap_in (x := (i : Int) + 1) (by omega) (by omega)]
    have e : (10 * (n : Int) + ((c.toNat : Int) - 48) % 256) = ((10 * n + (c.toNat - 48) : Nat) : Int) := by omega
    rw [wrap_in (by omega) (by omega), e]
    refine (ih (10 * n + (c.toNat - 48)) (by rw [Nat.pow_succ]; omega) (by omega)).trans ?_
    simp [hd, valF]
theorem read_some (s : ByteArray) (hs : s.size ≤ 1048576) : spec_l1Read.F s = some (readV s.data.toList) := by
  have hn := size_data s
  rw [spec_l1Read.F_eq, l1In_some, Option.bind_some]
  unfold readV
  rw [← hn]
  by_cases h : 1 ≤ s.size ∧ s.size ≤ 6
  case neg =>
    rw [if_neg (by simp; omega), spec_l1Read.J0_eq, if_pos rfl, if_neg (fun q => h q.1)]
  rw [if_pos (by simp; omega), if_pos (by omega)]
  have hh : bt s 0 = ((s.data.toList.getD 0 0).toNat : Int) := bt_data s 0 (by omega)
  have hd : s.data.toList.head? = some (s.data.toList.getD 0 0) := by
    cases he : s.data.toList with
    | nil => rw [he] at hn; have : s.size = 0 := hn; omega
    | cons x t => rfl
  have hz : (bt s 0 = 48) ↔ s.data.toList.head? = some 48 := by
    rw [hh, hd]
    constructor
    · intro q
      congr 1
      exact UInt8.toNat_inj.1 (by rw [show (48 : UInt8).toNat = 48 from rfl]; omega)
    · intro q
      rw [Option.some.inj q]; rfl
  have hl := read_loop s h.2
  by_cases c : bt s 0 = 48
  · rw [if_pos c]
    by_cases c2 : (s.size : Int) > 1
    · rw [decide_eq_true c2, spec_l1Read.J0_eq, if_pos rfl, if_neg]
      rintro ⟨_, _, q⟩
      exact q (by omega) (hz.1 c)
    · rw [decide_eq_false c2, spec_l1Read.J0_eq, if_neg (by simp), hl]
      congr 1
      by_cases a : s.data.toList.all dig = true
      · rw [if_pos a, if_pos ⟨h, a, fun q => absurd q (by omega)⟩]
      · rw [if_neg a, if_neg (fun q => a q.2.1)]
  · rw [if_neg c, spec_l1Read.J0_eq, if_neg (by simp), hl]
    congr 1
    by_cases a : s.data.toList.all dig = true
    · rw [if_pos a, if_pos ⟨h, a, fun _ q => c (hz.2 q)⟩]
    · rw [if_neg a, if_neg (fun q => a q.2.1)]
theorem head_app {l m : List UInt8} (h : l ≠ []) : (l ++ m).head? = l.head? := by
  cases l with
  | nil => exact absurd rfl h
  | cons a l => rfl
theorem val_snoc (l : List UInt8) (c : UInt8) (n : Nat) : valF n (l ++ [c]) = 10 * valF n l + (c.toNat - 48) := by
  simp [valF]
theorem dig_back {c : UInt8} (h : dig c = true) : UInt8.ofNat (48 + (c.toNat - 48)) = c := by
  unfold dig at h
  simp only [decide_eq_true_eq] at h
  rw [show 48 + (c.toNat - 48) = c.toNat from by omega]
  simp
/-- What is read canonically is the number's text. -/
theorem val_back (l : List UInt8) : l ≠ [] → l.all dig = true → (l.length > 1 → l.head? ≠ some 48) → Lib.decDigits (valF 0 l) = l ∧ (l.head? ≠ some 48 → 1 ≤ valF 0 l) := by
  have key : ∀ (n : Nat) (l : List UInt8), l.length = n → l ≠ [] → l.all dig = true → (l.length > 1 → l.head? ≠ some 48) → Lib.decDigits (valF 0 l) = l ∧ (l.head? ≠ some 48 → 1 ≤ valF 0 l) := by
    intro n
    induction n with
    | zero => intro l hn hl; exact absurd (List.eq_nil_of_length_eq_zero hn) hl
    | succ n ih =>
      intro l hn hl ha hh
      obtain ⟨m, c, rfl⟩ : ∃ m c, l = m ++ [c] := ⟨l.dropLast, l.getLast hl, (List.dropLast_concat_getLast hl).symm⟩
      simp only [List.length_append, List.length_cons, List.length_nil] at hn
      simp only [List.all_append, List.all_cons, List.all_nil, Bool.and_true, Bool.and_eq_true] at ha
      have hc := ha.2
      have hc2 := hc
      unfold dig at hc2
      simp only [decide_eq_true_eq] at hc2
      rw [val_snoc]
      by_cases hm : m = []
      · subst hm
        simp only [List.nil_append]
        have e : valF 0 [] = 0 := rfl
        rw [e, Nat.mul_zero, Nat.zero_add, Lib.decDigits_one (by omega), dig_back hc]
        refine ⟨rfl, fun q => ?_⟩
        rcases Nat.lt_or_ge 48 c.toNat with h | h
        · omega
        · exfalso
          apply q
          simp only [List.head?_cons]
          congr 1
          exact UInt8.toNat_inj.1 (by rw [show (48 : UInt8).toNat = 48 from rfl]; omega)
      · have hp : 0 < m.length := List.length_pos_iff.2 hm
        have h0 : m.head? ≠ some 48 := by
          have := hh (by simp; omega)
          rwa [head_app hm] at this
        obtain ⟨i1, i2⟩ := ih m (by omega) hm ha.1 (fun _ => h0)
        have i3 := i2 h0
        have e1 : (10 * valF 0 m + (c.toNat - 48)) / 10 = valF 0 m := by omega
        have e2 : (10 * valF 0 m + (c.toNat - 48)) % 10 = c.toNat - 48 := by omega
        refine ⟨?_, fun _ => by omega⟩
        rw [Lib.decDigits, dif_neg (by omega), e1, e2, i1, dig_back hc]
  exact key l.length l rfl
theorem ofNat_dig {n : Nat} (h : n < 10) : dig (UInt8.ofNat (48 + n)) = true ∧ (UInt8.ofNat (48 + n)).toNat = 48 + n := by
  have : (UInt8.ofNat (48 + n)).toNat = 48 + n := by rw [UInt8.toNat_ofNat']; omega
  refine ⟨?_, this⟩
  unfold dig
  rw [this]
  simp
  omega
theorem dec_facts (n : Nat) : (Lib.decDigits n).all dig = true ∧ valF 0 (Lib.decDigits n) = n ∧ Lib.decDigits n ≠ [] ∧ (1 ≤ n → (Lib.decDigits n).head? ≠ some 48) ∧ ((Lib.decDigits n).length > 1 → 1 ≤ n) := by
  induction n using Nat.strongRecOn with
  | ind n ih =>
    by_cases c : n < 10
    · obtain ⟨d1, d2⟩ := ofNat_dig c
      rw [Lib.decDigits_one c]
      refine ⟨by rw [List.all_cons, List.all_nil, d1]; rfl, by rw [show valF 0 [UInt8.ofNat (48 + n)] = 10 * 0 + ((UInt8.ofNat (48 + n)).toNat - 48) from rfl, d2]; omega, by simp, fun h q => ?_, fun h => by simp at h⟩
      simp only [List.head?_cons, Option.some.injEq] at q
      have := congrArg UInt8.toNat q
      rw [d2] at this
      simp at this
      omega
    · obtain ⟨i1, i2, i3, i4, i5⟩ := ih (n / 10) (by omega)
      obtain ⟨d1, d2⟩ := ofNat_dig (n := n % 10) (by omega)
      have e : Lib.decDigits n = Lib.decDigits (n / 10) ++ [UInt8.ofNat (48 + n % 10)] := by rw [Lib.decDigits, dif_neg c]
      rw [e, val_snoc, i2, d2]
      refine ⟨by rw [List.all_append, i1, List.all_cons, List.all_nil, d1]; rfl, by omega, by simp, fun _ => ?_, fun _ => by omega⟩
      rw [head_app i3]
      exact i4 (by omega)
theorem dec_len (k : Nat) : ∀ n : Nat, n < 10 ^ (k + 1) → (Lib.decDigits n).length ≤ k + 1 := by
  induction k with
  | zero => intro n hn; rw [Lib.decDigits_one (by simpa using hn)]; simp
  | succ k ih =>
    intro n hn
    by_cases c : n < 10
    · rw [Lib.decDigits_one c]; simp
    · have := ih (n / 10) (by rw [Nat.pow_succ] at hn; omega)
      rw [Lib.decDigits, dif_neg c, List.length_append]
      simp only [List.length_cons, List.length_nil]
      omega
theorem read_dec {n : Nat} (h : n < 1000000) : readV (Lib.decDigits n) = n := by
  obtain ⟨h1, h2, h3, h4, h5⟩ := dec_facts n
  have hl := dec_len 5 n (by simpa using h)
  have hp : 0 < (Lib.decDigits n).length := List.length_pos_iff.2 h3
  unfold readV
  rw [if_pos ⟨⟨by omega, hl⟩, h1, fun q => h4 (h5 q)⟩, h2]
theorem read_back {l : List UInt8} (h : 0 ≤ readV l) : l = Lib.decDigits (readV l).toNat ∧ readV l < 1000000 := by
  unfold readV at h ⊢
  split at h
  case isFalse => omega
  case isTrue q =>
    have hne : l ≠ [] := fun e => by subst e; simp at q
    have := (val_back l hne q.2.1 q.2.2).1
    rw [if_pos q, Int.toNat_natCast, this]
    refine ⟨rfl, ?_⟩
    have bound : ∀ (t : List UInt8) (n i : Nat), n < 10 ^ i → t.all dig = true → valF n t < 10 ^ (i + t.length) := by
      intro t
      induction t with
      | nil => intro n i hn _; simpa [valF] using hn
      | cons c t ih =>
        intro n i hn ha
        simp only [List.all_cons, Bool.and_eq_true] at ha
        have hc := ha.1
        unfold dig at hc
        simp only [decide_eq_true_eq] at hc
        have := ih (10 * n + (c.toNat - 48)) (i + 1) (by rw [Nat.pow_succ]; omega) ha.2
        rw [List.length_cons, show i + (t.length + 1) = i + 1 + t.length from by omega]
        exact this
    have b := bound l 0 0 (by decide) q.2.1
    have : (10 : Nat) ^ (0 + l.length) ≤ 10 ^ 6 := Nat.pow_le_pow_right (by omega) (by omega)
    have e : (10 : Nat) ^ 6 = 1000000 := rfl
    omega

def okC (a b : Int) : Bool := if 0 ≤ a ∧ a ≤ 4 then decide (0 ≤ b ∧ b ≤ ([18, 9, 4, 3, 9] : List Int).getD a.toNat 0) else false
theorem kinds {a : Int} (h : 0 ≤ a ∧ a ≤ 4) : a = 0 ∨ a = 1 ∨ a = 2 ∨ a = 3 ∨ a = 4 := by omega
theorem ruGood_at (a b M : Int) (ha : 0 ≤ a ∧ a ≤ 4) (hM : spec_ruMost.f a = some M) (h3 : a = 3 → M = 3) : spec_ruGood.f a b = some (decide (0 ≤ b ∧ b ≤ M)) := by
  unfold spec_ruGood.f
  simp only [l1In_some, Option.bind_some, hM]
  rw [if_pos (by simpa using ha)]
  by_cases hb : 0 ≤ b ∧ b ≤ M
  · rw [if_pos (by simpa using hb)]
    by_cases c : a = 3
    · rw [if_pos c, ← h3 c]
    · rw [if_neg c]; simp [hb]
  · rw [if_neg (by simpa using hb)]; simp only [hb, decide_false]
theorem ruGood_some (a b : Int) : spec_ruGood.f a b = some (okC a b) := by
  by_cases h : 0 ≤ a ∧ a ≤ 4
  · unfold okC
    rw [if_pos h]
    rcases kinds h with rfl | rfl | rfl | rfl | rfl
    · exact ruGood_at 0 b 18 (by omega) (by kernel_rfl) (by omega)
    · exact ruGood_at 1 b 9 (by omega) (by kernel_rfl) (by omega)
    · exact ruGood_at 2 b 4 (by omega) (by kernel_rfl) (by omega)
    · exact ruGood_at 3 b 3 (by omega) (by kernel_rfl) (by omega)
    · exact ruGood_at 4 b 9 (by omega) (by kernel_rfl) (by omega)
  · unfold spec_ruGood.f okC
    simp only [l1In_some, Option.bind_some]
    simp [h]
theorem bound5 {a b : Int} (h : okC a b = true) : (0 ≤ a ∧ a ≤ 4) ∧ 0 ≤ b ∧ b < 100 := by
  unfold okC at h
  split at h
  case isFalse => cases h
  case isTrue ha =>
    refine ⟨ha, ?_⟩
    simp only [decide_eq_true_eq] at h
    rcases kinds ha with rfl | rfl | rfl | rfl | rfl <;> (simp at h; omega)

def nmL (k : Int) : List UInt8 := (impl_Constraint_text.nm k.toNat).data.toList
def txt (k v : Int) : List UInt8 := nmL k ++ 61 :: Lib.decDigits v.toNat
/-- A text says a kind and a value. -/
def Says (s : ByteArray) (k v : Int) : Prop := okC k v = true ∧ s.data.toList = txt k v
theorem nm_no : ∀ k : Fin 5, (61 : UInt8) ∉ nmL (k.val : Int) := by decide +kernel
theorem nm_inj : ∀ k j : Fin 5, nmL (k.val : Int) = nmL (j.val : Int) → k = j := by decide +kernel
theorem dec_no (n : Nat) : (61 : UInt8) ∉ Lib.decDigits n := fun h => by
  have := List.all_eq_true.1 (dec_facts n).1 _ h
  exact absurd this (by decide)
theorem says_split {s : ByteArray} {k v : Int} (h : Says s k v) : splitFrom 61 [] s.data.toList = [nmL k, Lib.decDigits v.toNat] := by
  obtain ⟨h1, h2⟩ := h
  obtain ⟨ha, _⟩ := bound5 h1
  obtain ⟨n, rfl⟩ := Int.eq_ofNat_of_zero_le ha.1
  rw [h2, txt, split_app _ _ _ _ (nm_no ⟨n, by omega⟩), split_none _ _ _ (dec_no _)]
  rfl
theorem dec_inj {a b : Int} (h1 : 0 ≤ a ∧ a < 100) (h2 : 0 ≤ b ∧ b < 100) (h : Lib.decDigits a.toNat = Lib.decDigits b.toNat) : a = b := by
  have e1 := read_dec (n := a.toNat) (by omega)
  have e2 := read_dec (n := b.toNat) (by omega)
  rw [h, e2] at e1
  omega
theorem says_one {s : ByteArray} {k v k' v' : Int} (h : Says s k v) (h' : Says s k' v') : k = k' ∧ v = v' := by
  have e := says_split h
  rw [says_split h'] at e
  simp only [List.cons.injEq, and_true] at e
  obtain ⟨a1, b1⟩ := bound5 h.1
  obtain ⟨a2, b2⟩ := bound5 h'.1
  refine ⟨?_, dec_inj b1 b2 e.2.symm⟩
  have := nm_inj ⟨k.toNat, by omega⟩ ⟨k'.toNat, by omega⟩ (by simp only [Int.toNat_of_nonneg a1.1, Int.toNat_of_nonneg a2.1]; exact e.1.symm)
  simp only [Fin.mk.injEq] at this
  omega
theorem ctext_some {k v : Int} (h : okC k v = true) : impl_Constraint_text.f k v = some (mkB (txt k v)) := by
  obtain ⟨ha, hb⟩ := bound5 h
  unfold impl_Constraint_text.f
  rw [if_pos ⟨ha.1, ha.2, hb.1, hb.2⟩]
  congr 1
  apply data_inj
  rw [data_mkB]
  simp [txt, nmL]
theorem ok_bound {k v : Int} (h : okC k v = true) : v ≤ 18 := by
  have h0 := h
  unfold okC at h
  obtain ⟨ha, _⟩ := bound5 h0
  rw [if_pos ha] at h
  simp only [decide_eq_true_eq] at h
  rcases kinds ha with rfl | rfl | rfl | rfl | rfl <;> (simp at h; omega)
theorem impl_row (s : ByteArray) (k : Int) (hk : 0 ≤ k ∧ k ≤ 4) : ∀ (d : Nat) (v : Int), 0 ≤ v → v + d = 19 → (∃ v', Says s k v' ∧ impl_ParseConstraint.L1 s k v = some (k, v', true)) ∨ ((∀ v', v ≤ v' → ¬ Says s k v') ∧ impl_ParseConstraint.L1 s k v = impl_ParseConstraint.L0 s (k + 1))
  | 0, v, h0, h1 => by
    right
    refine ⟨fun v' hv hs => ?_, ?_⟩
    · have := ok_bound hs.1; omega
    · rw [impl_ParseConstraint.L1_eq, if_neg (by omega), wrap_in (by omega) (by omega)]
  | d + 1, v, h0, h1 => by
    have ih := impl_row s k hk d (v + 1) (by omega) (by omega)
    have hi : impl_IsConstraint.f k v = some (okC k v) := rfl
    rw [impl_ParseConstraint.L1_eq, if_pos (by omega), hi, Option.bind_some, wrap_in (x := v + 1) (by omega) (by omega)]
    have more : (¬ Says s k v) → ((∃ v', Says s k v' ∧ impl_ParseConstraint.L1 s k (v + 1) = some (k, v', true)) ∨ ((∀ v', v ≤ v' → ¬ Says s k v') ∧ impl_ParseConstraint.L1 s k (v + 1) = impl_ParseConstraint.L0 s (k + 1))) := fun hn => by
      rcases ih with h | ⟨h2, h3⟩
      · exact Or.inl h
      · refine Or.inr ⟨fun v' hv hs => ?_, h3⟩
        by_cases e : v' = v
        · subst e; exact hn hs
        · exact h2 v' (by omega) hs
    by_cases c : okC k v = true
    · rw [if_pos c, ctext_some c, Option.bind_some]
      by_cases e : (mkB (txt k v)).toList = s.toList
      · rw [if_pos e]
        rw [toList_data, toList_data, data_mkB] at e
        exact Or.inl ⟨v, ⟨c, e.symm⟩, rfl⟩
      · rw [if_neg e]
        refine more fun hs => e ?_
        rw [toList_data, toList_data, data_mkB, hs.2]
    · rw [if_neg c]
      exact more fun hs => c hs.1
theorem impl_all (s : ByteArray) : ∀ (d : Nat) (k : Int), 0 ≤ k → k + d = 5 → (∃ k' v', Says s k' v' ∧ impl_ParseConstraint.L0 s k = some (k', v', true)) ∨ ((∀ k' v', k ≤ k' → ¬ Says s k' v') ∧ impl_ParseConstraint.L0 s k = some (0, 0, false))
  | 0, k, h0, h1 => by
    right
    refine ⟨fun k' v' hk hs => ?_, ?_⟩
    · have := (bound5 hs.1).1; omega
    · rw [impl_ParseConstraint.L0_eq, if_neg (by omega)]
  | d + 1, k, h0, h1 => by
    have ih := impl_all s d (k + 1) (by omega) (by omega)
    rw [impl_ParseConstraint.L0_eq, if_pos (by omega)]
    rcases impl_row s k (by omega) 19 0 (by omega) (by omega) with ⟨v', h2, h3⟩ | ⟨h2, h3⟩
    · exact Or.inl ⟨k, v', h2, h3⟩
    · rw [h3]
      rcases ih with h | ⟨h4, h5⟩
      · exact Or.inl h
      · refine Or.inr ⟨fun k' v' hk hs => ?_, h5⟩
        by_cases e : k' = k
        · subst e; exact h2 v' (bound5 hs.1).2.1 hs
        · exact h4 k' v' (by omega) hs
theorem spec_all (s : ByteArray) (hs : s.size ≤ 1048576) : (∃ k' v', Says s k' v' ∧ spec_ParseConstraint.F s = some (k', v', true)) ∨ ((∀ k' v', ¬ Says s k' v') ∧ spec_ParseConstraint.F s = some (0, 0, false)) := by
  have hsp := split_some s 61 hs
  rw [show ((61 : UInt8).toNat : Int) = 61 from rfl] at hsp
  rw [spec_ParseConstraint.F_eq, hsp, Option.bind_some]
  by_cases h2 : (splitFrom 61 [] s.data.toList).length = 2
  case neg =>
    rw [if_neg (by rw [List.length_map]; omega)]
    refine Or.inr ⟨fun k' v' h => h2 ?_, rfl⟩
    rw [says_split h]; rfl
  obtain ⟨p, q, hpq⟩ : ∃ p q, splitFrom 61 [] s.data.toList = [p, q] := by
    match h : splitFrom 61 [] s.data.toList, h2 with
    | [p, q], _ => exact ⟨p, q, rfl⟩
  rw [if_pos (by rw [List.length_map]; omega), hpq]
  obtain ⟨r, t, e1, e2, e3, e4⟩ := split_more 61 _ _ _ _ hpq (by simp)
  obtain ⟨e5, e6⟩ := split_one 61 _ _ _ e4
  rw [List.nil_append] at e1 e5
  subst e1 e5
  have hq : q.length ≤ 1048576 := by
    have := congrArg List.length e3
    rw [← size_data, List.length_append, List.length_cons] at this
    omega
  have hr : ∀ (l : List ByteArray) (i : Int), l = [(⟨#[115, 116, 101, 112, 115]⟩ : ByteArray), (⟨#[114, 101, 103, 105, 111, 110]⟩ : ByteArray), (⟨#[111, 112, 101, 110]⟩ : ByteArray), (⟨#[107, 105, 110, 100]⟩ : ByteArray), (⟨#[98, 101, 108, 111, 119]⟩ : ByteArray)] → rdOf ByteArray.empty l i = impl_Constraint_text.nm i.toNat := fun l i hl => by subst hl; rfl
  unfold spec_ruNames.f
  rw [Option.bind_some]
  generalize hN : ([(⟨#[115, 116, 101, 112, 115]⟩ : ByteArray), (⟨#[114, 101, 103, 105, 111, 110]⟩ : ByteArray), (⟨#[111, 112, 101, 110]⟩ : ByteArray), (⟨#[107, 105, 110, 100]⟩ : ByteArray), (⟨#[98, 101, 108, 111, 119]⟩ : ByteArray)] : List ByteArray) = N
  have hN5 : N.length = 5 := by rw [← hN]; rfl
  have loop : ∀ (d : Nat) (i : Int), 0 ≤ i → i + d = 5 → (∃ k' v', Says s k' v' ∧ spec_ParseConstraint.L0 [mkB p, mkB q] N N.length i = some (k', v', true)) ∨ ((∀ k', i ≤ k' → ¬ (nmL k' = p ∧ okC k' (readV q) = true)) ∧ spec_ParseConstraint.L0 [mkB p, mkB q] N N.length i = some (0, 0, false)) := by
    intro d
    induction d with
    | zero =>
      intro i h0 h1
      right
      refine ⟨fun k' hk h => ?_, ?_⟩
      · have := (bound5 h.2).1; omega
      · rw [spec_ParseConstraint.L0_eq, if_neg (by omega)]
    | succ d ih =>
      intro i h0 h1
      have ih := ih (i + 1) (by omega) (by omega)
      have x1 : rdOf ByteArray.empty [mkB p, mkB q] 1 = mkB q := rfl
      have x0 : rdOf ByteArray.empty [mkB p, mkB q] 0 = mkB p := rfl
      have more : (¬ (nmL i = p ∧ okC i (readV q) = true)) → ((∃ k' v', Says s k' v' ∧ spec_ParseConstraint.L0 [mkB p, mkB q] N N.length (i + 1) = some (k', v', true)) ∨ ((∀ k', i ≤ k' → ¬ (nmL k' = p ∧ okC k' (readV q) = true)) ∧ spec_ParseConstraint.L0 [mkB p, mkB q] N N.length (i + 1) = some (0, 0, false))) := fun hn => by
        rcases ih with h | ⟨h2, h3⟩
        · exact Or.inl h
        · refine Or.inr ⟨fun k' hk h => ?_, h3⟩
          by_cases e : k' = i
          · subst e; exact hn h
          · exact h2 k' (by omega) h
      rw [spec_ParseConstraint.L0_eq, if_pos (by omega), if_pos h0, if_pos (by omega), if_pos (by simp), x1, x0, read_some _ (by rw [mkB_size]; exact hq), Option.bind_some, if_pos (by simp), wrap_in (x := i + 1) (by omega) (by omega), ruGood_some, data_mkB, hr N i hN.symm, toList_data, toList_data, data_mkB]
      by_cases c : (impl_Constraint_text.nm i.toNat).data.toList = p
      · rw [if_pos c, Option.bind_some]
        by_cases c2 : okC i (readV q) = true
        · rw [if_pos c2]
          obtain ⟨_, hv⟩ := bound5 c2
          have hb := (read_back hv.1).1
          refine Or.inl ⟨i, readV q, ⟨c2, ?_⟩, rfl⟩
          rw [e3, txt, nmL, c]
          exact congrArg (fun z => p ++ 61 :: z) hb
        · rw [if_neg c2]
          exact more fun h => c2 h.2
      · rw [if_neg c]
        exact more fun h => c h.1
  rcases loop 5 0 (by omega) (by omega) with h | ⟨h3, h4⟩
  · exact Or.inl h
  · refine Or.inr ⟨fun k' v' h => ?_, h4⟩
    have e := says_split h
    rw [hpq] at e
    simp only [List.cons.injEq, and_true] at e
    obtain ⟨a1, b1⟩ := bound5 h.1
    refine h3 k' a1.1 ⟨e.1.symm, ?_⟩
    rw [e.2, read_dec (by omega), Int.toNat_of_nonneg b1.1]
    exact h.1
theorem FnExactParseConstraint : laws_FnExactParseConstraint.Pure := by
  intro s _
  refine lim_rounds (?_ : laws_FnExactParseConstraint.F s = some true)
  rw [laws_FnExactParseConstraint.F_eq]
  by_cases hbig : (s.size : Int) > 1048576
  · rw [if_pos hbig]
  rw [if_neg hbig]
  have h1 := spec_all s (by omega)
  have h2 := impl_all s 5 0 (by omega) (by omega)
  rw [← impl_ParseConstraint.F_eq] at h2
  rcases h1 with ⟨k, v, p1, p2⟩ | ⟨p1, p2⟩
  · rcases h2 with ⟨k', v', q1, q2⟩ | ⟨q1, q2⟩
    · obtain ⟨rfl, rfl⟩ := says_one p1 q1
      rw [p2, q2]
      simp [laws_eqConstraint.f]
    · exact absurd p1 (q1 k v (bound5 p1.1).1.1)
  · rcases h2 with ⟨k', v', q1, q2⟩ | ⟨q1, q2⟩
    · exact absurd q1 (p1 k' v')
    · rw [p2, q2]
      simp [laws_eqConstraint.f]

end Go.Proofs.YtmlpogmedglncaaDoor.Pure
