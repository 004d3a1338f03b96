/- The pure statement of the law FnExactParseMove: for all arguments within their bounds its Lean function answers true. -/
import Derived.Test.YtmffndjbpealmaaDoorPFnExactParseMovexD0
namespace Go.Proofs.YtmffndjbpealmaaDoor.Pure
open Go.RowKit Go.Proofs.YtmffndjbpealmaaDoor.PFnExactParseMove Go.Proofs.YtmffndjbpealmaaDoorW.PrintWords Go.Proofs.YtmffndjbpealmaaDoorW.PrintLast
set_option linter.unusedVariables false
set_option linter.unusedSimpArgs false
/-! ### Numbers, loops, letters -/
theorem wrap_in {x : Int} (h0 : -9223372036854775808 ≤ x) (h1 : x ≤ 9223372036854775807) : wrap64 x = x := by
  unfold wrap64; omega
theorem wf_i64 {n : Int} (h : (Lit.int .i64 n).wf = true) : -9223372036854775808 ≤ n ∧ n ≤ 9223372036854775807 := by
  simpa [Lit.wf, IntKind.min, IntKind.max, IntKind.signed, IntKind.bits] using h
/-- A loop over a list, from its end. L: what the loop tells from place i on. -/
theorem each {α γ : Type} (L : Int → γ) (l : List α) (z : α) (R : Nat → List α → γ → Prop) (nil : R l.length [] (L l.length))
    (cons : ∀ (i : Nat) (x : α) (t : List α), i < l.length → l.getD i z = x → l.drop i = x :: t → l.drop (i + 1) = t → R (i + 1) t (L ((i : Int) + 1)) → R i (x :: t) (L i)) : R 0 l (L 0) := by
  have key : ∀ (t : List α) (i : Nat), l.drop i = t → i ≤ l.length → R i t (L i) := by
    intro t
    induction t with
    | nil =>
      intro i h hi
      have : l.length ≤ i := by simpa [List.drop_eq_nil_iff] using h
      obtain rfl : i = l.length := by omega
      exact nil
    | cons x t ih =>
      intro i h hi
      have hlt : i < l.length := by
        rcases Nat.lt_or_ge i l.length with h' | h'
        · exact h'
        · rw [List.drop_eq_nil_of_le h'] at h; cases h
      have h2 := List.drop_eq_getElem_cons hlt
      rw [h] at h2
      injection h2 with h3 h4
      refine cons i x t hlt ?_ h h4.symm ?_
      · rw [List.getD_eq_getElem?_getD, List.getElem?_eq_getElem hlt]; exact h3.symm
      · have := ih (i + 1) h4.symm (by omega)
        rwa [show ((i + 1 : Nat) : Int) = (i : Int) + 1 from by omega] at this
  have := key l 0 rfl (Nat.zero_le _)
  rwa [show ((0 : Nat) : Int) = 0 from rfl] at this
theorem bt_data (s : ByteArray) (i : Nat) (h : i < s.size) : bt s (i : Int) = ((s.data.toList.getD i 0).toNat : Int) := by
  obtain ⟨d⟩ := s
  have h' : i < d.size := h
  have : bt ⟨d⟩ (i : Int) = ((d[i]).toNat : Int) := by
    unfold bt
    rw [dif_pos (show ((i : Int)).toNat < (⟨d⟩ : ByteArray).size from by simpa using h)]
    rfl
  rw [this]
  simp [h']
theorem size_data (s : ByteArray) : s.size = s.data.toList.length := by
  obtain ⟨d⟩ := s; simp [ByteArray.size]
theorem toList_data (s : ByteArray) : s.toList = s.data.toList := by
  rw [ByteArray.toList_eq]
theorem ext_data {s t : ByteArray} (h : s.toList = t.toList) : s = t := by
  rw [toList_data, toList_data] at h
  obtain ⟨⟨a⟩⟩ := s
  obtain ⟨⟨b⟩⟩ := t
  simp at h
  rw [h]
theorem toList_iff {s t : ByteArray} : s.toList = t.toList ↔ s = t := ⟨ext_data, fun h => by rw [h]⟩
theorem mem_drop {α : Type} {l t : List α} {x : α} {i : Nat} (h : l.drop i = x :: t) : x ∈ l := List.mem_of_mem_drop (i := i) (by rw [h]; simp)

/-! ### Decimal digits -/
theorem dec_length (n : Nat) : (Lib.decDigits n).length ≤ n + 1 := by
  induction n using Nat.strongRecOn with
  | ind n ih =>
    rw [Lib.decDigits]
    split
    · simp
    · have := ih (n / 10) (by omega)
      rw [List.length_append]
      simp only [List.length_cons, List.length_nil]
      omega

/-! ### Numbers in decimal -/
theorem digit_fin : ∀ n : Fin 10, strOfNums [(wrap64 (48 + (n.val : Int))) % 256] = ⟨#[UInt8.ofNat (48 + n.val)]⟩ := by decide +kernel
theorem digit_some {n : Nat} (h : n < 10) : strOfNums [(wrap64 (48 + (n : Int))) % 256] = ⟨#[UInt8.ofNat (48 + n)]⟩ := digit_fin ⟨n, h⟩
theorem num_some (n : Nat) : n < 4611686018427387904 → spec_l1Num.F (n : Int) = some ⟨(Lib.decDigits n).toArray⟩ := by
  induction n using Nat.strongRecOn with
  | ind n ih =>
    intro hn
    rw [spec_l1Num.F_eq]
    by_cases c : n < 10
    · rw [if_pos (by omega), Lib.decDigits_one c, digit_some c]
    · have t1 : (n : Int).tdiv 10 = ((n / 10 : Nat) : Int) := by rw [Int.tdiv_eq_ediv_of_nonneg (by omega)]; omega
      have t2 : (n : Int).tmod 10 = ((n % 10 : Nat) : Int) := by rw [Int.tmod_eq_emod_of_nonneg (by omega)]; omega
      have hl := dec_length (n / 10)
      rw [if_neg (by omega), t1, wrap_in (by omega) (by omega), ih (n / 10) (by omega) (by omega), Option.bind_some, Option.bind_some, t2, digit_some (by omega)]
      have e : Lib.decDigits n = Lib.decDigits (n / 10) ++ [UInt8.ofNat (48 + n % 10)] := by rw [Lib.decDigits, dif_neg c]
      rw [if_pos (by simp only [ByteArray.size, List.size_toArray, List.length_cons, List.length_nil]; omega), e]
      first
      | rfl
      | (congr 1; done)
      | (congr 1; apply ext_data; rw [toList_data, toList_data]; simp)



/-! ### One digit -/
def dg (n : Int) : ByteArray := ⟨(Lib.decDigits n.toNat).toArray⟩
theorem dg_eq {n : Int} (h : 0 ≤ n ∧ n ≤ 9) : dg n = ⟨#[UInt8.ofNat (48 + n.toNat)]⟩ := by
  unfold dg; rw [Lib.decDigits_one (by omega)]
theorem dg_size {n : Int} (h : 0 ≤ n ∧ n ≤ 9) : (dg n).size = 1 := by rw [dg_eq h]; rfl
theorem dg_impl {n : Int} (h : 0 ≤ n ∧ n ≤ 9) : strconv_Itoa.f n = some (dg n) := by
  unfold strconv_Itoa.f; rw [if_pos (by omega)]; rfl

theorem dg_spec {n : Int} (h : 0 ≤ n ∧ n ≤ 9) : spec_l1Num.F n = some (dg n) := by
  obtain ⟨m, rfl⟩ := Int.eq_ofNat_of_zero_le h.1
  rw [num_some m (by omega)]; rfl


/-! ### Bounds -/
theorem within_at (a b c : Int) : impl_within.f a b c = some (decide (b ≤ a ∧ a ≤ c)) := by
  unfold impl_within.f
  by_cases h : b ≤ a
  · rw [if_pos h]; simp [h]
  · rw [if_neg h]; simp [h]
theorem l1In_at (a b c : Int) : spec_l1In.f a b c = some (decide (b ≤ a ∧ a ≤ c)) := by
  unfold spec_l1In.f
  by_cases h : b ≤ a
  · rw [if_pos h]; simp [h]
  · rw [if_neg h]; simp [h]

/-! ### Letters out of a list -/
/-- Are all letters out of a list? -/
def allOf (g : List Nat) (s : ByteArray) : Bool := s.data.toList.all fun x => g.contains x.toNat
def FitsI (g : List Nat) (m : ByteArray) : Prop := ∀ n : Fin 256, decide (Lib.indexByte m.data.toList n.val.toUInt8 < 0) = !g.contains n.val
instance (g : List Nat) (m : ByteArray) : Decidable (FitsI g m) := by unfold FitsI; infer_instance
theorem only_some (g : List Nat) (s m : ByteArray) (hs : s.size ≤ 9223372036854775807) (hm : FitsI g m) : impl_hasOnly.F s m = some (allOf g s) := by
  rw [impl_hasOnly.F_eq]
  refine each (L := fun i => impl_hasOnly.L0 s m s.size i) s.data.toList 0 (fun _ t o => o = some (t.all fun x => g.contains x.toNat)) ?_ ?_
  · show impl_hasOnly.L0 s m _ _ = _
    rw [impl_hasOnly.L0_eq, if_neg (by rw [← size_data]; omega)]; rfl
  · intro i x t hi' hx _ _ ih
    have hi2 : i < s.size := by rw [size_data]; exact hi'
    have hb := hm ⟨x.toNat, x.toNat_lt⟩
    show impl_hasOnly.L0 s m _ _ = _
    rw [impl_hasOnly.L0_eq, if_pos (by omega), if_pos (by omega), if_pos (by omega), bt_data s i hi2, hx, wrap_in (by omega) (by omega)]
    simp only [strings_IndexByte.f, stringslite_IndexByte.f, Option.bind_some, Int.toNat_natCast, List.all_cons]
    simp only at hb
    cases h1 : g.contains x.toNat
    · rw [h1] at hb
      rw [if_pos (by simpa using hb)]; rfl
    · rw [h1] at hb
      rw [if_neg (by simpa using hb), ih]; rfl

/-! ### Steps -/
def dirs : List Nat := [117, 100, 108, 114, 102, 98]
def dirB : ByteArray := ⟨#[117, 100, 108, 114, 102, 98]⟩
theorem mvIndex_some (v : Nat) : ∃ r, spec_mvIndex.F (v : Int) = some r ∧ decide (r < 0) = !dirs.contains v := by
  rw [spec_mvIndex.F_eq]
  have := each (L := fun i => spec_mvIndex.L0 v i) dirB.data.toList 0 (fun i t o => ∃ r, o = some r ∧ decide (r < 0) = !(t.any fun x => decide (x.toNat = v))) ?_ ?_
  · obtain ⟨r, h1, h2⟩ := this
    refine ⟨r, h1, h2.trans ?_⟩
    congr 1
    simp [dirB, dirs, eq_comm]
  · refine ⟨-1, ?_, rfl⟩
    show spec_mvIndex.L0 v _ = _
    rw [spec_mvIndex.L0_eq]
    rfl
  · intro i x t hi' hx _ _ ih
    have hi2 : i < dirB.size := by rw [size_data]; exact hi'
    show ∃ r, spec_mvIndex.L0 v _ = _ ∧ _
    rw [spec_mvIndex.L0_eq]
    simp only [spec_mvLetters.f, Option.bind_some]
    have hz : dirB.size = 6 := rfl
    show ∃ r, (if (i : Int) < (dirB.size : Int) then (if 0 ≤ (i : Int) then (if (i : Int) < (dirB.size : Int) then (if bt dirB (i : Int) = (v : Int) then _ else _) else _) else _) else _) = _ ∧ _
    rw [if_pos (by omega), if_pos (by omega), if_pos (by omega), bt_data dirB i hi2, hx, wrap_in (by omega) (by omega), List.any_cons]
    by_cases h1 : x.toNat = v
    · rw [if_pos (by omega)]; exact ⟨i, rfl, by simp [h1]⟩
    · rw [if_neg (by omega)]; simpa [h1] using ih
theorem mvSteps_some (s : ByteArray) (hs : s.size ≤ 9223372036854775807) : spec_mvSteps.F s = some (allOf dirs s) := by
  rw [spec_mvSteps.F_eq]
  refine each (L := fun i => spec_mvSteps.L0 s i) s.data.toList 0 (fun _ t o => o = some (t.all fun x => dirs.contains x.toNat)) ?_ ?_
  · show spec_mvSteps.L0 s _ = _
    rw [spec_mvSteps.L0_eq, if_neg (by rw [← size_data]; omega)]; rfl
  · intro i x t hi' hx _ _ ih
    have hi2 : i < s.size := by rw [size_data]; exact hi'
    obtain ⟨r, h1, h2⟩ := mvIndex_some x.toNat
    show spec_mvSteps.L0 s _ = _
    rw [spec_mvSteps.L0_eq, if_pos (by omega), if_pos (by omega), bt_data s i hi2, hx, wrap_in (by omega) (by omega), h1, Option.bind_some, List.all_cons]
    cases hc : dirs.contains x.toNat
    · rw [hc] at h2
      rw [if_pos (by simpa using h2)]; rfl
    · rw [hc] at h2
      rw [if_neg (by simpa using h2), ih]; rfl
/-- Is it a movement? -/
def isMv (a : ByteArray) (n : Int) : Bool := decide ((a.size : Int) ≤ 6) && (allOf dirs a && (decide (1 ≤ n ∧ n ≤ 3) && (if a.toList = [] then n == 1 else true)))
theorem mvGood_some (a : ByteArray) (n : Int) (ha : a.size ≤ 9223372036854775807) : spec_mvGood.F a n = some (isMv a n) := by
  rw [spec_mvGood.F_eq, mvSteps_some a ha, l1In_at]
  unfold isMv
  by_cases c1 : (a.size : Int) ≤ 6
  case neg => rw [if_neg c1, decide_eq_false c1]; rfl
  rw [if_pos c1, decide_eq_true c1, Option.bind_some]
  cases allOf dirs a
  · rfl
  rw [if_pos rfl, Option.bind_some]
  cases decide (1 ≤ n ∧ n ≤ 3)
  · rfl
  rw [if_pos rfl]
  by_cases c3 : a.toList = []
  · rw [if_pos c3, if_pos c3]; rfl
  · rw [if_neg c3, if_neg c3]; rfl
theorem isMove_some (a : ByteArray) (n : Int) (ha : a.size ≤ 9223372036854775807) : impl_IsMove.F a n = some (isMv a n) := by
  rw [impl_IsMove.F_eq, only_some dirs a _ ha (by decide +kernel), within_at]
  unfold isMv
  by_cases c1 : (a.size : Int) ≤ 6
  case neg => rw [if_neg c1, decide_eq_false c1]; rfl
  rw [if_pos c1, decide_eq_true c1, Option.bind_some]
  cases allOf dirs a
  · rfl
  rw [if_pos rfl, Option.bind_some]
  cases decide (1 ≤ n ∧ n ≤ 3)
  · rfl
  rw [if_pos rfl]
  by_cases c3 : a.toList = []
  · rw [if_pos c3, if_pos c3]; rfl
  · rw [if_neg c3, if_neg c3]; rfl
def mvTx (a : ByteArray) (n : Int) : ByteArray := if a.toList = [] then ⟨#[45]⟩ else if n = 1 then a else (a ++ ⟨#[42]⟩) ++ dg n
theorem mv_texts {a : ByteArray} {n : Int} (h : isMv a n = true) : spec_mvText.F a n = some (mvTx a n) ∧ impl_Move_text.f a n = some (mvTx a n) ∧ (mvTx a n).size ≤ 8 := by
  unfold isMv at h
  simp only [Bool.and_eq_true, decide_eq_true_eq] at h
  obtain ⟨h1, _, h3, _⟩ := h
  rw [spec_mvText.F_eq]
  unfold impl_Move_text.f mvTx
  have one : ((⟨#[42]⟩ : ByteArray)).size = 1 := rfl
  have onb : ((⟨#[45]⟩ : ByteArray)).size = 1 := rfl
  by_cases c3 : a.toList = []
  · rw [if_pos c3, if_pos c3, if_pos c3]; exact ⟨rfl, rfl, by omega⟩
  rw [if_neg c3, if_neg c3, if_neg c3]
  by_cases c4 : n = 1
  · rw [if_pos c4, if_pos c4, if_neg (by omega)]; exact ⟨rfl, rfl, by omega⟩
  have h9 : 0 ≤ n ∧ n ≤ 9 := by omega
  have hd := dg_size h9
  have hsz : (a ++ (⟨#[42]⟩ : ByteArray)).size = a.size + 1 := by rw [ByteArray.size_append]; rfl
  have k1 : n > 1 := by omega
  have k2 : a.size + 1 ≤ 9223372036854775807 := by omega
  have k3 : (a ++ (⟨#[42]⟩ : ByteArray)).size + (dg n).size ≤ 9223372036854775807 := by omega
  simp only [c4, k1, k2, k3, if_false, if_true, dg_spec h9, dg_impl h9, Option.bind_some, true_and]
  rw [ByteArray.size_append]; omega



theorem l1In_some (a b c : Int) : spec_l1In.f a b c = some (decide (b ≤ a ∧ a ≤ c)) := by
  unfold spec_l1In.f
  by_cases h : a ≥ b
  · rw [if_pos h]; congr 1; simp; omega
  · rw [if_neg h]; congr 1; symm; simp; omega

/-! ### Texts cut and read -/
theorem cut_data (s : ByteArray) (a b : Nat) : (s.extract a b).data.toList = (s.data.toList.drop a).take (b - a) := by
  simp [List.take_drop]
def mkB (l : List UInt8) : ByteArray := ⟨l.toArray⟩
theorem mkB_data (s : ByteArray) : mkB s.data.toList = s := by
  obtain ⟨⟨l⟩⟩ := s; rfl
theorem data_mkB (l : List UInt8) : (mkB l).data.toList = l := rfl
theorem mkB_size (l : List UInt8) : (mkB l).size = l.length := by simp [mkB, ByteArray.size]
theorem data_inj {s t : ByteArray} (h : s.data.toList = t.data.toList) : s = t := by
  rw [← mkB_data s, ← mkB_data t, h]
theorem mkB_inj {l m : List UInt8} (h : mkB l = mkB m) : l = m := by
  rw [← data_mkB l, h, data_mkB]
theorem cut_mkB (s : ByteArray) (a b : Nat) : s.extract a b = mkB ((s.data.toList.drop a).take (b - a)) := data_inj (by rw [cut_data, data_mkB])
/-- The parts between a byte. -/
def splitFrom (b : UInt8) (cur : List UInt8) : List UInt8 → List (List UInt8)
  | [] => [cur]
  | c :: t => if c = b then cur :: splitFrom b [] t else splitFrom b (cur ++ [c]) t
theorem split_cons (b : UInt8) (cur : List UInt8) (c : UInt8) (t : List UInt8) : splitFrom b cur (c :: t) = if c = b then cur :: splitFrom b [] t else splitFrom b (cur ++ [c]) t := rfl
theorem split_none (b : UInt8) : ∀ (xs cur : List UInt8), b ∉ xs → splitFrom b cur xs = [cur ++ xs]
  | [], cur, _ => by simp [splitFrom]
  | c :: t, cur, h => by
    simp only [List.mem_cons, not_or] at h
    rw [split_cons, if_neg (fun e => h.1 e.symm), split_none b t _ h.2]; simp
theorem split_app (b : UInt8) : ∀ (p cur t : List UInt8), b ∉ p → splitFrom b cur (p ++ b :: t) = (cur ++ p) :: splitFrom b [] t
  | [], cur, t, _ => by rw [List.nil_append, split_cons, if_pos rfl, List.append_nil]
  | c :: p, cur, t, h => by
    simp only [List.mem_cons, not_or] at h
    rw [List.cons_append, split_cons, if_neg (fun e => h.1 e.symm), split_app b p _ t h.2]; simp
theorem split_ne (b : UInt8) : ∀ (xs cur : List UInt8), splitFrom b cur xs ≠ []
  | [], cur => by simp [splitFrom]
  | c :: t, cur => by
    rw [split_cons]
    split
    · simp
    · exact split_ne b t _
theorem split_one (b : UInt8) : ∀ (xs cur p : List UInt8), splitFrom b cur xs = [p] → p = cur ++ xs ∧ b ∉ xs
  | [], cur, p, h => by
    simp only [splitFrom, List.cons.injEq, and_true] at h
    simp [h]
  | c :: t, cur, p, h => by
    rw [split_cons] at h
    split at h
    · simp only [List.cons.injEq] at h
      exact absurd h.2 (split_ne b t [])
    · rename_i hc
      obtain ⟨h1, h2⟩ := split_one b t _ p h
      refine ⟨by rw [h1]; simp, ?_⟩
      simp only [List.mem_cons, not_or]
      exact ⟨fun e => hc e.symm, h2⟩
theorem split_more (b : UInt8) : ∀ (xs cur p : List UInt8) (ps : List (List UInt8)), splitFrom b cur xs = p :: ps → ps ≠ [] → ∃ r t, p = cur ++ r ∧ b ∉ r ∧ xs = r ++ b :: t ∧ splitFrom b [] t = ps
  | [], cur, p, ps, h, hp => by
    simp only [splitFrom, List.cons.injEq] at h
    exact absurd h.2.symm hp
  | c :: t, cur, p, ps, h, hp => by
    rw [split_cons] at h
    split at h
    · rename_i hc
      simp only [List.cons.injEq] at h
      exact ⟨[], t, by simp [h.1], by simp, by simp [hc], h.2⟩
    · rename_i hc
      obtain ⟨r, u, h1, h2, h3, h4⟩ := split_more b t _ p ps h hp
      refine ⟨c :: r, u, by rw [h1]; simp, ?_, by rw [h3]; rfl, h4⟩
      simp only [List.mem_cons, not_or]
      exact ⟨fun e => hc e.symm, h2⟩
theorem split_count (b : UInt8) : ∀ (xs cur : List UInt8), (splitFrom b cur xs).length ≤ xs.length + 1
  | [], cur => by simp [splitFrom]
  | c :: t, cur => by
    rw [split_cons]
    split
    · have := split_count b t []
      simp only [List.length_cons]; omega
    · have := split_count b t (cur ++ [c])
      simp only [List.length_cons]; omega
theorem split_some (s : ByteArray) (b : UInt8) (hs : s.size ≤ 1048576) : spec_l1Split.F s (b.toNat : Int) = some ((splitFrom b [] s.data.toList).map mkB) := by
  rw [spec_l1Split.F_eq]
  have hn := size_data s
  have key : ∀ (t : List UInt8) (i fr : Nat) (acc : List ByteArray), s.data.toList.drop i = t → fr ≤ i → i ≤ s.size → acc.length ≤ i → spec_l1Split.L0 s (b.toNat : Int) acc (fr : Int) (i : Int) = some (acc ++ (splitFrom b ((s.data.toList.drop fr).take (i - fr)) t).map mkB) := by
    intro t
    induction t with
    | nil =>
      intro i fr acc hd hf hi ha
      have : s.data.toList.length ≤ i := by simpa [List.drop_eq_nil_iff] using hd
      obtain rfl : i = s.size := by omega
      rw [spec_l1Split.L0_eq, if_neg (by omega), if_pos (by omega), if_pos (by omega), if_pos (by omega), Int.toNat_natCast, cut_mkB]
      rfl
    | cons c t ih =>
      intro i fr acc hd hf hi ha
      have hlt : i < s.data.toList.length := by
        rcases Nat.lt_or_ge i s.data.toList.length with h' | h'
        · exact h'
        · rw [List.drop_eq_nil_of_le h'] at hd; cases hd
      have h2 := List.drop_eq_getElem_cons hlt
      rw [hd] at h2
      injection h2 with h3 h4
      have hb : bt s (i : Int) = (c.toNat : Int) := by
        rw [bt_data s i (by omega), List.getD_eq_getElem?_getD, List.getElem?_eq_getElem hlt, ← h3]
        rfl
      rw [spec_l1Split.L0_eq, if_pos (by omega), if_pos (by omega), hb, wrap_in (x := (i : Int) + 1) (by omega) (by omega), split_cons]
      have hi1 : ((i : Int) + 1) = ((i + 1 : Nat) : Int) := by omega
      by_cases hc : c = b
      · subst hc
        rw [if_pos rfl, if_pos (by omega), if_pos (by omega), if_pos (by omega), if_pos (by omega), if_pos rfl, hi1, ih (i + 1) (i + 1) _ h4.symm (by omega) (by omega) (by simp; omega), Int.toNat_natCast, Int.toNat_natCast, cut_mkB]
        simp
      · have hne : ¬ ((c.toNat : Int) = (b.toNat : Int)) := fun e => hc (UInt8.toNat_inj.1 (by omega))
        rw [if_neg hne, if_neg hc, hi1, ih (i + 1) fr acc h4.symm (by omega) (by omega) (by omega)]
        congr 4
        rw [show i + 1 - fr = (i - fr) + 1 from by omega, List.take_add_one]
        congr 1
        rw [List.getElem?_drop, show fr + (i - fr) = i from by omega, List.getElem?_eq_getElem hlt, ← h3]
        rfl
  have := key s.data.toList 0 0 [] rfl (by omega) (by omega) (by simp)
  simpa using this
/-! ### Numbers read -/
def dig (c : UInt8) : Bool := decide (48 ≤ c.toNat ∧ c.toNat ≤ 57)
def valF (n : Nat) (l : List UInt8) : Nat := l.foldl (fun n c => 10 * n + (c.toNat - 48)) n
/-- A canonical decimal number of at most six digits, or -1. -/
def readV (l : List UInt8) : Int := if (1 ≤ l.length ∧ l.length ≤ 6) ∧ l.all dig = true ∧ (l.length > 1 → l.head? ≠ some 48) then (valF 0 l : Int) else -1
theorem read_loop (s : ByteArray) (hs : s.size ≤ 6) : spec_l1Read.L0 s 0 0 = some (if s.data.toList.all dig = true then (valF 0 s.data.toList : Int) else -1) := by
  have hn := size_data s
  refine each (L := fun i => fun n => spec_l1Read.L0 s n i) s.data.toList 0 (fun i t f => ∀ n : Nat, n < 10 ^ i → i + t.length ≤ 6 → f (n : Int) = some (if t.all dig = true then (valF n t : Int) else -1)) ?_ ?_ 0 (by decide) (by omega)
  · intro n h1 h2
    show spec_l1Read.L0 s _ _ = _
    rw [spec_l1Read.L0_eq, if_neg (by omega)]; rfl
  · intro i c t hi hc _ _ ih n h1 h2
    show spec_l1Read.L0 s _ _ = _
    have hb : bt s (i : Int) = (c.toNat : Int) := by rw [bt_data s i (by omega), hc]
    have h10 : (10 : Nat) ^ i ≤ 10 ^ 6 := Nat.pow_le_pow_right (by omega) (by omega)
    simp only [List.length_cons] at h2
    rw [spec_l1Read.L0_eq, if_pos (by omega), if_pos (by omega), hb]
    by_cases c1 : (c.toNat : Int) < 48
    · have : dig c = false := by unfold dig; simp; omega
      rw [if_pos c1]; simp [this]
    rw [if_neg c1]
    by_cases c2 : (c.toNat : Int) > 57
    · have : dig c = false := by unfold dig; simp; omega
      rw [if_pos c2]; simp [this]
    have hd : dig c = true := by unfold dig; simp; omega
    rw [if_neg c2, wrap_in (x := 10 * (n : Int)) (by omega) (by omega), wrap_in (x := (i : Int) + 1) (by omega) (by omega)]
    have e : (10 * (n : Int) + ((c.toNat : Int) - 48) % 256) = ((10 * n + (c.toNat - 48) : Nat) : Int) := by omega
    rw [wrap_in (by omega) (by omega), e]
    refine (ih (10 * n + (c.toNat - 48)) (by rw [Nat.pow_succ]; omega) (by omega)).trans ?_
    simp [hd, valF]
theorem read_some (s : ByteArray) (hs : s.size ≤ 1048576) : spec_l1Read.F s = some (readV s.data.toList) := by
  have hn := size_data s
  rw [spec_l1Read.F_eq, l1In_some, Option.bind_some]
  unfold readV
  rw [← hn]
  by_cases h : 1 ≤ s.size ∧ s.size ≤ 6
  case neg =>
    rw [if_neg (by simp; omega), spec_l1Read.J0_eq, if_pos rfl, if_neg (fun q => h q.1)]
  rw [if_pos (by simp; omega), if_pos (by omega)]
  have hh : bt s 0 = ((s.data.toList.getD 0 0).toNat : Int) := bt_data s 0 (by omega)
  have hd : s.data.toList.head? = some (s.data.toList.getD 0 0) := by
    cases he : s.data.toList with
    | nil => rw [he] at hn; have : s.size = 0 := hn; omega
    | cons x t => rfl
  have hz : (bt s 0 = 48) ↔ s.data.toList.head? = some 48 := by
    rw [hh, hd]
    constructor
    · intro q
      congr 1
      exact UInt8.toNat_inj.1 (by rw [show (48 : UInt8).toNat = 48 from rfl]; omega)
    · intro q
      rw [Option.some.inj q]; rfl
  have hl := read_loop s h.2
  by_cases c : bt s 0 = 48
  · rw [if_pos c]
    by_cases c2 : (s.size : Int) > 1
    · rw [decide_eq_true c2, spec_l1Read.J0_eq, if_pos rfl, if_neg]
      rintro ⟨_, _, q⟩
      exact q (by omega) (hz.1 c)
    · rw [decide_eq_false c2, spec_l1Read.J0_eq, if_neg (by simp), hl]
      congr 1
      by_cases a : s.data.toList.all dig = true
      · rw [if_pos a, if_pos ⟨h, a, fun q => absurd q (by omega)⟩]
      · rw [if_neg a, if_neg (fun q => a q.2.1)]
  · rw [if_neg c, spec_l1Read.J0_eq, if_neg (by simp), hl]
    congr 1
    by_cases a : s.data.toList.all dig = true
    · rw [if_pos a, if_pos ⟨h, a, fun _ q => c (hz.2 q)⟩]
    · rw [if_neg a, if_neg (fun q => a q.2.1)]
theorem head_app {l m : List UInt8} (h : l ≠ []) : (l ++ m).head? = l.head? := by
  cases l with
  | nil => exact absurd rfl h
  | cons a l => rfl
theorem val_snoc (l : List UInt8) (c : UInt8) (n : Nat) : valF n (l ++ [c]) = 10 * valF n l + (c.toNat - 48) := by
  simp [valF]
theorem dig_back {c : UInt8} (h : dig c = true) : UInt8.ofNat (48 + (c.toNat - 48)) = c := by
  unfold dig at h
  simp only [decide_eq_true_eq] at h
  rw [show 48 + (c.toNat - 48) = c.toNat from by omega]
  simp
/-- What is read canonically is the number's text. -/
theorem val_back (l : List UInt8) : l ≠ [] → l.all dig = true → (l.length > 1 → l.head? ≠ some 48) → Lib.decDigits (valF 0 l) = l ∧ (l.head? ≠ some 48 → 1 ≤ valF 0 l) := by
  have key : ∀ (n : Nat) (l : List UInt8), l.length = n → l ≠ [] → l.all dig = true → (l.length > 1 → l.head? ≠ some 48) → Lib.decDigits (valF 0 l) = l ∧ (l.head? ≠ some 48 → 1 ≤ valF 0 l) := by
    intro n
    induction n with
    | zero => intro l hn hl; exact absurd (List.eq_nil_of_length_eq_zero hn) hl
    | succ n ih =>
      intro l hn hl ha hh
      obtain ⟨m, c, rfl⟩ : ∃ m c, l = m ++ [c] := ⟨l.dropLast, l.getLast hl, (List.dropLast_concat_getLast hl).symm⟩
      simp only [List.length_append, List.length_cons, List.length_nil] at hn
      simp only [List.all_append, List.all_cons, List.all_nil, Bool.and_true, Bool.and_eq_true] at ha
      have hc := ha.2
      have hc2 := hc
      unfold dig at hc2
      simp only [decide_eq_true_eq] at hc2
      rw [val_snoc]
      by_cases hm : m = []
      · subst hm
        simp only [List.nil_append]
        have e : valF 0 [] = 0 := rfl
        rw [e, Nat.mul_zero, Nat.zero_add, Lib.decDigits_one (by omega), dig_back hc]
        refine ⟨rfl, fun q => ?_⟩
        rcases Nat.lt_or_ge 48 c.toNat with h | h
        · omega
        · exfalso
          apply q
          simp only [List.head?_cons]
          congr 1
          exact UInt8.toNat_inj.1 (by rw [show (48 : UInt8).toNat = 48 from rfl]; omega)
      · have hp : 0 < m.length := List.length_pos_iff.2 hm
        have h0 : m.head? ≠ some 48 := by
          have := hh (by simp; omega)
          rwa [head_app hm] at this
        obtain ⟨i1, i2⟩ := ih m (by omega) hm ha.1 (fun _ => h0)
        have i3 := i2 h0
        have e1 : (10 * valF 0 m + (c.toNat - 48)) / 10 = valF 0 m := by omega
        have e2 : (10 * valF 0 m + (c.toNat - 48)) % 10 = c.toNat - 48 := by omega
        refine ⟨?_, fun _ => by omega⟩
        rw [Lib.decDigits, dif_neg (by omega), e1, e2, i1, dig_back hc]
  exact key l.length l rfl
theorem ofNat_dig {n : Nat} (h : n < 10) : dig (UInt8.ofNat (48 + n)) = true ∧ (UInt8.ofNat (48 + n)).toNat = 48 + n := by
  have : (UInt8.ofNat (48 + n)).toNat = 48 + n := by rw [UInt8.toNat_ofNat']; omega
  refine ⟨?_, this⟩
  unfold dig
  rw [this]
  simp
  omega
theorem dec_facts (n : Nat) : (Lib.decDigits n).all dig = true ∧ valF 0 (Lib.decDigits n) = n ∧ Lib.decDigits n ≠ [] ∧ (1 ≤ n → (Lib.decDigits n).head? ≠ some 48) ∧ ((Lib.decDigits n).length > 1 → 1 ≤ n) := by
  induction n using Nat.strongRecOn with
  | ind n ih =>
    by_cases c : n < 10
    · obtain ⟨d1, d2⟩ := ofNat_dig c
      rw [Lib.decDigits_one c]
      refine ⟨by rw [List.all_cons, List.all_nil, d1]; rfl, by rw [show valF 0 [UInt8.ofNat (48 + n)] = 10 * 0 + ((UInt8.ofNat (48 + n)).toNat - 48) from rfl, d2]; omega, by simp, fun h q => ?_, fun h => by simp at h⟩
      simp only [List.head?_cons, Option.some.injEq] at q
      have := congrArg UInt8.toNat q
      rw [d2] at this
      simp at this
      omega
    · obtain ⟨i1, i2, i3, i4, i5⟩ := ih (n / 10) (by omega)
      obtain ⟨d1, d2⟩ := ofNat_dig (n := n % 10) (by omega)
      have e : Lib.decDigits n = Lib.decDigits (n / 10) ++ [UInt8.ofNat (48 + n % 10)] := by rw [Lib.decDigits, dif_neg c]
      rw [e, val_snoc, i2, d2]
      refine ⟨by rw [List.all_append, i1, List.all_cons, List.all_nil, d1]; rfl, by omega, by simp, fun _ => ?_, fun _ => by omega⟩
      rw [head_app i3]
      exact i4 (by omega)
theorem dec_len (k : Nat) : ∀ n : Nat, n < 10 ^ (k + 1) → (Lib.decDigits n).length ≤ k + 1 := by
  induction k with
  | zero => intro n hn; rw [Lib.decDigits_one (by simpa using hn)]; simp
  | succ k ih =>
    intro n hn
    by_cases c : n < 10
    · rw [Lib.decDigits_one c]; simp
    · have := ih (n / 10) (by rw [Nat.pow_succ] at hn; omega)
      rw [Lib.decDigits, dif_neg c, List.length_append]
      simp only [List.length_cons, List.length_nil]
      omega
theorem read_dec {n : Nat} (h : n < 1000000) : readV (Lib.decDigits n) = n := by
  obtain ⟨h1, h2, h3, h4, h5⟩ := dec_facts n
  have hl := dec_len 5 n (by simpa using h)
  have hp : 0 < (Lib.decDigits n).length := List.length_pos_iff.2 h3
  unfold readV
  rw [if_pos ⟨⟨by omega, hl⟩, h1, fun q => h4 (h5 q)⟩, h2]
theorem read_back {l : List UInt8} (h : 0 ≤ readV l) : l = Lib.decDigits (readV l).toNat ∧ readV l < 1000000 := by
  unfold readV at h ⊢
  split at h
  case isFalse => omega
  case isTrue q =>
    have hne : l ≠ [] := fun e => by subst e; simp at q
    have := (val_back l hne q.2.1 q.2.2).1
    rw [if_pos q, Int.toNat_natCast, this]
    refine ⟨rfl, ?_⟩
    have bound : ∀ (t : List UInt8) (n i : Nat), n < 10 ^ i → t.all dig = true → valF n t < 10 ^ (i + t.length) := by
      intro t
      induction t with
      | nil => intro n i hn _; simpa [valF] using hn
      | cons c t ih =>
        intro n i hn ha
        simp only [List.all_cons, Bool.and_eq_true] at ha
        have hc := ha.1
        unfold dig at hc
        simp only [decide_eq_true_eq] at hc
        have := ih (10 * n + (c.toNat - 48)) (i + 1) (by rw [Nat.pow_succ]; omega) ha.2
        rw [List.length_cons, show i + (t.length + 1) = i + 1 + t.length from by omega]
        exact this
    have b := bound l 0 0 (by decide) q.2.1
    have : (10 : Nat) ^ (0 + l.length) ≤ 10 ^ 6 := Nat.pow_le_pow_right (by omega) (by omega)
    have e : (10 : Nat) ^ 6 = 1000000 := rfl
    omega

/-! ### Texts cut at a byte -/
theorem idx_none (c : UInt8) : ∀ l : List UInt8, c ∉ l → Lib.indexByte l c = -1
  | [], _ => rfl
  | b :: l, h => by
    simp only [List.mem_cons, not_or] at h
    have hb : (b == c) = false := by simpa using fun e : b = c => h.1 e.symm
    rw [Lib.indexByte, hb, idx_none c l h.2]; rfl
theorem idx_at (c : UInt8) (t : List UInt8) : ∀ p : List UInt8, c ∉ p → Lib.indexByte (p ++ c :: t) c = p.length
  | [], _ => by simp [Lib.indexByte]
  | b :: p, h => by
    simp only [List.mem_cons, not_or] at h
    have hb : (b == c) = false := by simpa using fun e : b = c => h.1 e.symm
    have hn : (((p.length : Int)) == -1) = false := by
      rw [beq_eq_false_iff_ne]; omega
    rw [List.cons_append, Lib.indexByte, hb, idx_at c t p h.2, hn]
    simp
theorem cut_none (s : ByteArray) (c : UInt8) (h : c ∉ s.data.toList) : strings_Cut.f s ⟨#[c]⟩ = some (s, ⟨#[]⟩, false) := by
  unfold strings_Cut.f stringslite_Cut.f stringslite_Index.f
  rw [if_pos (show (⟨#[c]⟩ : ByteArray).size = 1 from rfl), show (⟨#[c]⟩ : ByteArray).data.toList.getD 0 0 = c from rfl, idx_none c _ h]
  rfl
theorem cut_at (s : ByteArray) (c : UInt8) (p t : List UInt8) (hs : s.size ≤ 4611686018427387904) (h : s.data.toList = p ++ c :: t) (hp : c ∉ p) : strings_Cut.f s ⟨#[c]⟩ = some (mkB p, mkB t, true) := by
  have hn := size_data s
  have hl : s.data.toList.length = p.length + (t.length + 1) := by rw [h]; simp
  unfold strings_Cut.f stringslite_Cut.f stringslite_Index.f
  have one : (⟨#[c]⟩ : ByteArray).size = 1 := rfl
  rw [if_pos one, show (⟨#[c]⟩ : ByteArray).data.toList.getD 0 0 = c from rfl, h, idx_at c t p hp, one]
  simp only [Option.bind_some]
  have e1 : ((p.length : Int)) + ((1 : Nat) : Int) = ((p.length + 1 : Nat) : Int) := by omega
  rw [if_pos (by omega), if_pos (by omega), if_pos (by omega), e1, wrap_in (by omega) (by omega), if_pos (by omega), if_pos (by omega), Int.toNat_natCast, Int.toNat_natCast, cut_mkB, cut_mkB, h]
  have e2 : ((p ++ c :: t).drop 0).take (p.length - 0) = p := by simp
  have e3 : ((p ++ c :: t).drop (p.length + 1)).take (s.size - (p.length + 1)) = t := by
    rw [← List.drop_drop, List.drop_left, List.drop_succ_cons, List.drop_zero]
    exact List.take_of_length_le (by omega)
  rw [e2, e3]
  rfl
/-- Where a byte is first. -/
theorem first_at (c : UInt8) : ∀ l : List UInt8, c ∈ l → ∃ p t, l = p ++ c :: t ∧ c ∉ p
  | [], h => by cases h
  | b :: l, h => by
    by_cases hb : b = c
    · exact ⟨[], l, by rw [hb]; rfl, by simp⟩
    · obtain ⟨p, t, h1, h2⟩ := first_at c l (by
        rcases List.mem_cons.1 h with h | h
        · exact absurd h.symm hb
        · exact h)
      exact ⟨b :: p, t, by rw [h1]; rfl, by simp only [List.mem_cons, not_or]; exact ⟨fun e => hb e.symm, h2⟩⟩

/-! ### Movements read -/
def mvEnd (s p : ByteArray) (n : Int) : ByteArray × Int × Bool := if isMv p n = true ∧ (mvTx p n).toList = s.toList then (p, n, true) else (⟨#[]⟩, 0, false)
theorem specEnd (s : ByteArray) (w : List ByteArray) (p : ByteArray) (n : Int) (hw : w.length ≤ 2) (hp : p.size ≤ 9223372036854775807) : spec_mvParse.J1 s w p n = some (mvEnd s p n) := by
  rw [spec_mvParse.J1_eq, if_neg (by omega), mvGood_some p n hp, Option.bind_some]
  unfold mvEnd
  cases h : isMv p n
  · simp
  · rw [if_pos rfl, (mv_texts h).1, Option.bind_some]
    by_cases h2 : (mvTx p n).toList = s.toList
    · rw [if_pos h2, if_pos ⟨rfl, h2⟩]
    · rw [if_neg h2, if_neg (fun hh => h2 hh.2)]
theorem implEnd (s p : ByteArray) (n : Int) (hp : p.size ≤ 9223372036854775807) : impl_ParseMove.J1 s p n = some (mvEnd s p n) := by
  rw [impl_ParseMove.J1_eq, isMove_some p n hp, Option.bind_some]
  unfold mvEnd
  cases h : isMv p n
  · simp
  · rw [if_pos rfl, (mv_texts h).2.1, Option.bind_some]
    by_cases h2 : (mvTx p n).toList = s.toList
    · rw [if_pos h2, if_pos ⟨rfl, h2⟩]
    · rw [if_neg h2, if_neg (fun hh => h2 hh.2)]
/-- A text that is made with a star. -/
theorem mv_star {p : ByteArray} {n : Int} (h : isMv p n = true) {s : ByteArray} {a t : List UInt8} (hs : s.data.toList = a ++ 42 :: t) (ha : 42 ∉ a) (ht : (mvTx p n).toList = s.toList) : t = (dg n).data.toList ∧ 0 ≤ n ∧ n ≤ 9 := by
  unfold isMv at h
  simp only [Bool.and_eq_true, decide_eq_true_eq] at h
  obtain ⟨h1, h2, h3, _⟩ := h
  have h9 : 0 ≤ n ∧ n ≤ 9 := by omega
  have hno : (42 : UInt8) ∉ p.data.toList := by
    intro hm
    have := List.all_eq_true.1 h2 _ hm
    exact absurd this (by decide)
  refine ⟨?_, h9⟩
  rw [toList_data, toList_data, hs] at ht
  unfold mvTx at ht
  by_cases c3 : p.toList = []
  · rw [if_pos c3] at ht
    have : (42 : UInt8) ∈ (⟨#[45]⟩ : ByteArray).data.toList := by rw [ht]; simp
    exact absurd this (by decide)
  rw [if_neg c3] at ht
  by_cases c4 : n = 1
  · rw [if_pos c4] at ht
    exact absurd (show (42 : UInt8) ∈ p.data.toList by rw [ht]; simp) hno
  rw [if_neg c4] at ht
  have e : ((p ++ (⟨#[42]⟩ : ByteArray)) ++ dg n).data.toList = p.data.toList ++ 42 :: (dg n).data.toList := by simp
  rw [e] at ht
  have k1 := split_app 42 p.data.toList [] (dg n).data.toList hno
  have k2 := split_app 42 a [] t ha
  have k3 := idx_at 42 (dg n).data.toList p.data.toList hno
  have k4 := idx_at 42 t a ha
  rw [ht, k4] at k3
  have hlen : a.length = p.data.toList.length := by omega
  have := congrArg (List.drop (a.length + 1)) ht
  rw [← List.drop_drop, ← List.drop_drop, List.drop_left, hlen, List.drop_left] at this
  simpa using this.symm
theorem dg_data {n : Int} (h : 0 ≤ n ∧ n ≤ 9) : (dg n).data.toList = [UInt8.ofNat (48 + n.toNat)] := by rw [dg_eq h]
theorem ten {n : Int} (h : 0 ≤ n ∧ n ≤ 9) : n = 0 ∨ n = 1 ∨ n = 2 ∨ n = 3 ∨ n = 4 ∨ n = 5 ∨ n = 6 ∨ n = 7 ∨ n = 8 ∨ n = 9 := by omega
theorem dg_decimal {n : Int} (h : 0 ≤ n ∧ n ≤ 9) (t : List UInt8) (ht : t = (dg n).data.toList) : impl_decimal.f (mkB t) = some (n, true) ∧ readV t = n := by
  rw [dg_data h] at ht
  subst ht
  rcases ten h with rfl | rfl | rfl | rfl | rfl | rfl | rfl | rfl | rfl | rfl <;> exact ⟨by kernel_rfl, by decide +kernel⟩
theorem dec_some (t : ByteArray) (h : t.size ≤ 281474976710656) : ∃ v b, impl_decimal.f t = some (v, b) := by
  unfold impl_decimal.f
  rw [if_pos h]
  exact ⟨_, _, rfl⟩
theorem mvParse_same (s : ByteArray) (hs : s.size ≤ 1048576) : ∃ R, spec_mvParse.F s = some R ∧ impl_ParseMove.F s = some R := by
  have hn := size_data s
  rw [spec_mvParse.F_eq, impl_ParseMove.F_eq, show (42 : Int) = (((42 : UInt8).toNat : Nat) : Int) from rfl, split_some s 42 hs, Option.bind_some]
  by_cases hm : (42 : UInt8) ∈ s.data.toList
  · obtain ⟨p, t, hp, hno⟩ := first_at 42 _ hm
    have hlen : s.data.toList.length = p.length + (t.length + 1) := by rw [hp]; simp
    have hd : ¬ s.toList = [45] := by
      intro e
      rw [toList_data] at e
      rw [e] at hm
      exact absurd hm (by decide)
    have hpz : (mkB p).size ≤ 9223372036854775807 := by rw [mkB_size]; omega
    have htz : (mkB t).size ≤ 1048576 := by rw [mkB_size]; omega
    obtain ⟨v, b, hv⟩ := dec_some (mkB t) (by omega)
    have hsp : splitFrom 42 [] s.data.toList = p :: splitFrom 42 [] t := by rw [hp, split_app 42 p [] t hno]; rfl
    rw [cut_at s 42 p t (by omega) hp hno, Option.bind_some, hsp]
    simp only [if_true, hv, Option.bind_some, List.map_cons]
    rw [if_pos (by simp), if_neg hd, impl_ParseMove.J0_eq, if_neg hd, implEnd s _ _ hpz, show rdOf ByteArray.empty (mkB p :: (splitFrom 42 [] t).map mkB) 0 = mkB p from rfl]
    by_cases h2 : (42 : UInt8) ∈ t
    · -- more than one star
      obtain ⟨q, u, hq, hqn⟩ := first_at 42 _ h2
      have h3 : splitFrom 42 [] t = q :: splitFrom 42 [] u := by rw [hq, split_app 42 q [] u hqn]; rfl
      have h4 : 1 ≤ (splitFrom 42 [] u).length := List.length_pos_iff.2 (split_ne 42 u [])
      rw [h3, spec_mvParse.J0_eq, if_neg (by simp; omega), spec_mvParse.J1_eq, if_pos (by simp; omega)]
      refine ⟨_, rfl, ?_⟩
      unfold mvEnd
      rw [if_neg]
      rintro ⟨g1, g2⟩
      obtain ⟨g3, g4⟩ := mv_star g1 hp hno g2
      rw [g3, dg_data g4] at h2
      rcases ten g4 with rfl | rfl | rfl | rfl | rfl | rfl | rfl | rfl | rfl | rfl <;> exact absurd h2 (by decide)
    · rw [split_none 42 t [] h2, List.nil_append, List.map_cons, List.map_nil, spec_mvParse.J0_eq, if_pos (by simp), if_pos (by simp), show rdOf ByteArray.empty [mkB p, mkB t] 1 = mkB t from rfl, read_some _ htz, data_mkB, Option.bind_some, specEnd s _ _ _ (by simp) hpz]
      refine ⟨_, rfl, ?_⟩
      congr 1
      have key : ∀ n : Int, isMv (mkB p) n = true → (mvTx (mkB p) n).toList = s.toList → v = n ∧ readV t = n := by
        intro n g1 g2
        obtain ⟨g3, g4⟩ := mv_star g1 hp hno g2
        obtain ⟨k1, k2⟩ := dg_decimal g4 t g3
        rw [hv] at k1
        simp only [Option.some.injEq, Prod.mk.injEq] at k1
        exact ⟨k1.1, k2⟩
      unfold mvEnd
      by_cases c1 : isMv (mkB p) v = true ∧ (mvTx (mkB p) v).toList = s.toList
      · obtain ⟨_, k2⟩ := key v c1.1 c1.2
        rw [k2]
      · rw [if_neg c1]
        by_cases c2 : isMv (mkB p) (readV t) = true ∧ (mvTx (mkB p) (readV t)).toList = s.toList
        · obtain ⟨k1, _⟩ := key _ c2.1 c2.2
          rw [← k1] at c2
          exact absurd c2 c1
        · rw [if_neg c2]
  · rw [split_none 42 _ [] hm, List.nil_append, List.map_cons, List.map_nil, mkB_data, cut_none s 42 hm, Option.bind_some, if_pos (by simp)]
    simp only [Bool.false_eq_true, if_false]
    have one : ¬ (([s].length : Int) = 2) := by simp
    rw [impl_ParseMove.J0_eq]
    by_cases hd : s.toList = [45]
    · rw [if_pos hd, if_pos hd, spec_mvParse.J0_eq, if_neg one, specEnd s _ _ _ (by simp) (by decide), implEnd s _ _ (by decide)]
      exact ⟨_, rfl, rfl⟩
    · rw [if_neg hd, if_neg hd, spec_mvParse.J0_eq, if_neg one, show rdOf ByteArray.empty [s] 0 = s from rfl, specEnd s _ _ _ (by simp) (by omega), implEnd s _ _ (by omega)]
      exact ⟨_, rfl, rfl⟩

theorem FnExactParseMove : laws_FnExactParseMove.Pure := by
  intro s hs
  refine lim_rounds (?_ : laws_FnExactParseMove.F s = some true)
  rw [laws_FnExactParseMove.F_eq]
  by_cases h : (s.size : Int) > 1048576
  · rw [if_pos h]
  rw [if_neg h, spec_ParseMove.F_eq]
  obtain ⟨R, r1, r2⟩ := mvParse_same s (by omega)
  rw [r1, r2]
  simp only [Option.bind_some, laws_eqMove.f, if_true, bne_self_eq_false, Bool.false_eq_true, if_false]

end Go.Proofs.YtmffndjbpealmaaDoor.Pure
