/- Printed for this claim: functions of the program as Lean functions, and that the calls answer so. -/
import Derived.Test.YtfkdlfbjkdkffaaGreatDoorPFnPointsx0
import Derived.Test.YtfkdlfbjkdkffaaGreatDoorPFnPointsx2
import Derived.Test.YtfkdlfbjkdkffaaGreatDoorPFnPointsx6
import Derived.Test.YtfkdlfbjkdkffaaGreatDoorPFnPointsx8
import Derived.Test.YtfkdlfbjkdkffaaGreatDoorPFnPointsx11
import Derived.Test.YtfkdlfbjkdkffaaGreatDoorPFnPointsx12
import Derived.Test.YtfkdlfbjkdkffaaGreatDoorPFnPointsxD0
namespace Go.Proofs.YtfkdlfbjkdkffaaGreatDoor.PFnPoints
open Go.RowKit Go.Proofs.YtfkdlfbjkdkffaaGreatDoorW.PrintWords Go.Proofs.YtfkdlfbjkdkffaaGreatDoorW.PrintLast Go.Proofs.YtfkdlfbjkdkffaaGreatDoorW.PrintMore
theorem z14_0_ {p : Prop} (h : p := by rw [List.length_append, List.length_singleton]; omega) : p := h
theorem z14_1_ {p : Prop} (h : p := by show w.heap.size ≤ w.heap.size + 1; omega) : p := h
theorem z14_2_ {p : Prop} (h : p := by show w.heap.size ≤ w.heap.size + 1 + 1; omega) : p := h
theorem z14_3_ {p : Prop} (h : p := by first | rfl | (simp; done) | (simp [*]; done)) : p := h
theorem z14_4_ {p : Prop} (h : p := by repeat (first | exact Drawn0.refl _ | apply Drawn0.step)) : p := h
theorem z14_5_ {p : Prop} (h : p := by have : (0 : Int) < (a0.size : Int) := ode_; omega) : p := h
set_option maxHeartbeats 8000000
set_option maxRecDepth 100000
attribute [local go_sem] max2_int min2_int max_two min_two max_three min_three max_four min_four isSome_setCell   -- for this text's walks alone
set_option linter.unusedVariables false
set_option linter.unusedSimpArgs false

/-! ### impl_RunPoints: function 38, by hand -/
section
attribute [local go_sem] Oper.semAt_some
set_option maxHeartbeats 4000000 in
theorem seq_closure (l bx b1 b2 n : Nat) (c : UInt8) (e : Nat) (he : e = 0 ∨ e = 1) (s : ByteArray) (hs : s.size ≤ 4611686018427387904) (J Jx : List ByteArray → World → Prop)
 (hJb : ∀ s W1 u, J s W1 → J s (W1.setCell ⟨bx, 0, none⟩ u)) (hJd : ∀ s W1 m, J s W1 → J s (W1.drewN m))
 (hIx : ∀ (s : ByteArray) (w : World), Calls Tryz.prog 119 #[.string s, .string ⟨#[c]⟩] w fun e w' => e = .returned (.int .i64 (Lib.indexByte s.data.toList c)) ∧ ∃ nd, w' = w.drewN nd)
 (hY : ∀ pre x W1, J pre W1 → (∃ t, (cutsAt e c s.data.toList).map mk_ = (pre ++ [x]) ++ t) → YieldAt Fence.wide (n - 1) Tryz.prog l #[.string x] W1 fun e W' => (e = .returned (.bool true) ∧ J (pre ++ [x]) W' ∧ KpB b1 bx b2 W1 W') ∨ (e = .returned (.bool false) ∧ Jx (pre ++ [x]) W'))
 (W : World) (hb1 : W.heap[b1]? = some (.cells #[.string ⟨#[c]⟩] 9 (0, 0))) (hbx : W.heap[bx]? = some (.cells #[.string s] 9 (0, 0))) (hb2 : W.heap[b2]? = some (.cells #[.int .i64 (e : Int)] 3 (0, 0))) (n1 : bx ≠ b1) (n2 : bx ≠ b2) (h0 : J [] W) :
 CallsIn Fence.wide n Tryz.prog 117 #[.func (.yield l) #[] #[], .pointer (some ⟨b1, 0, none⟩), .pointer (some ⟨bx, 0, none⟩), .pointer (some ⟨b2, 0, none⟩)] W fun e_ W' => (∃ v, e_ = .returned v) ∧
  ((∃ ys, ys = (cutsAt e c s.data.toList).map mk_ ∧ J ys W') ∨ (∃ pre, (∃ t, (cutsAt e c s.data.toList).map mk_ = pre ++ t) ∧ Jx pre W')) := by
 refine callsIn_of_wp Tryz.func117 rfl trivial ?_ rfl
 simp only [Tryz.ntmps117, List.size_toArray, List.length_cons, List.length_nil, Nat.reduceAdd, Nat.reduceSub, Array.replicate_succ, Array.replicate_zero, List.push_toArray, List.append_toArray, List.nil_append, List.cons_append]
 obtain ⟨c1, f1⟩ := one_cell hb1
 gi_wp2
 gi_loopw [7] (fun p wr => ∃ (pre : List ByteArray) (rest : ByteArray), (cutsAt e c s.data.toList).map mk_ = pre ++ (cutsAt e c rest.data.toList).map mk_ ∧ pre.length + rest.size ≤ s.size ∧ J pre wr ∧ wr.heap[b1]? = some (.cells #[.string ⟨#[c]⟩] 9 (0, 0)) ∧ wr.heap[bx]? = some (.cells #[.string rest] 9 (0, 0)) ∧ wr.heap[b2]? = some (.cells #[.int .i64 (e : Int)] 3 (0, 0)))
  (fun _ wr => match wr.cell? ⟨bx, 0, none⟩ with | some (.string t) => t.size | _ => 0)
 case atStart => exact ⟨[], s, by simp, by simp, h0, hb1, hbx, hb2⟩
 case round =>
  clear c1 f1
  obtain ⟨pre, rest, hcut, hlen, hJ, g1, gx, g2⟩ := hrel
  obtain ⟨c1, f1⟩ := one_cell g1
  obtain ⟨cx, fx⟩ := one_cell gx
  obtain ⟨c2, f2⟩ := one_cell g2
  by_cases hlt : Lib.indexByte rest.data.toList c < 0
  ·have hd := decide_eq_true hlt
   gi_wp2
   refine ⟨trivial, fun h_ => absurd h_ (by simp [Fence.wide]), ?_⟩
   gi_at_call 119
   refine CallsIn.mono (callsIn_wide.2 (hIx rest _)) ?_
   rintro e_ w' ⟨rfl, nd, rfl⟩
   have cx' : (wr.drewN nd).cell? ⟨bx, 0, none⟩ = some (.string rest) := cx
   obtain ⟨fn, tmps, assign, body, hy, hR⟩ := hY pre rest (wr.drewN nd) (hJd _ _ _ hJ) ⟨[], by rw [hcut, cutsAt_none e c _ hlt, List.map_cons, List.map_nil, mk_data, List.append_nil]⟩
   gi_wp2
   refine ⟨fun h_ => absurd h_ (by simp [Fence.wide]), hR.mono ?_⟩
   have hall : (cutsAt e c s.data.toList).map mk_ = pre ++ [rest] := by rw [hcut, cutsAt_none e c _ hlt, List.map_cons, List.map_nil, mk_data]
   rintro e_ W3 (⟨rfl, hJ3, hk3⟩ | ⟨rfl, hJx3⟩)
   ·gi_wp2
    go_end0
    exact ⟨⟨_, rfl⟩, .inl ⟨_, rfl, by rw [hall]; exact hJ3⟩⟩
   ·gi_wp2
    go_end0
    exact ⟨⟨_, rfl⟩, .inr ⟨_, ⟨[], by rw [hall, List.append_nil]⟩, hJx3⟩⟩
  have hd := decide_eq_false hlt
  have hge := Lib.indexByte_ge rest.data.toList c
  obtain ⟨k, hk⟩ : ∃ k : Nat, Lib.indexByte rest.data.toList c = k := ⟨(Lib.indexByte rest.data.toList c).toNat, by omega⟩
  obtain ⟨hc1, hc2⟩ := cutsAt_some e c _ k hk
  have hkl : k < rest.size := by
   have := (List.getElem?_eq_some_iff.1 hc2).1
   have e1 : rest.data.toList.length = rest.size := by rw [Array.length_toList]; rfl
   omega
  obtain ⟨frag, hfrag⟩ : ∃ f, f = rest.extract 0 (k + e) := ⟨_, rfl⟩
  obtain ⟨rest2, hrest2⟩ : ∃ f, f = rest.extract (k + 1) rest.size := ⟨_, rfl⟩
  have hcut2 : (cutsAt e c s.data.toList).map mk_ = (pre ++ [frag]) ++ (cutsAt e c rest2.data.toList).map mk_ := by
   rw [hcut, hc1, List.map_cons, List.append_assoc, List.singleton_append, hfrag, hrest2]
   congr 2
   ·exact (frag_of rest c k e hc2 he).symm
   ·rw [rest_of rest k]
  have hsz2 : rest2.size + k + 1 = rest.size := by rw [hrest2, ByteArray.size_extract]; omega
  gi_wp2
  refine ⟨trivial, fun h_ => absurd h_ (by simp [Fence.wide]), ?_⟩
  gi_at_call 119
  refine CallsIn.mono (callsIn_wide.2 (hIx rest _)) ?_
  rintro e_ w' ⟨rfl, nd, rfl⟩
  rw [hk] at hd hlt ⊢
  have cx' : (wr.drewN nd).cell? ⟨bx, 0, none⟩ = some (.string rest) := cx
  have c2' : (wr.drewN nd).cell? ⟨b2, 0, none⟩ = some (.int .i64 (e : Int)) := c2
  have hw1 : wrap64 ((k : Int) + (e : Int)) = ((k + e : Nat) : Int) := by unfold wrap64; omega
  subst hfrag
  obtain ⟨fn, tmps, assign, body, hy, hR⟩ := hY pre (rest.extract 0 (k + e)) (wr.drewN nd) (hJd _ _ _ hJ) ⟨_, hcut2⟩
  gi_wp2
  refine ⟨fun h_ => absurd h_ (by simp [Fence.wide]), hR.mono ?_⟩
  clear hy hR
  rintro e_ W3 (⟨rfl, hJ3, hk3⟩ | ⟨rfl, hJx3⟩)
  ·have g1' := hk3.1.trans g1
   have gx' := hk3.2.1.trans gx
   have g2' := hk3.2.2.trans g2
   have hm0 := Aside0.mk cx
   clear c1 cx c2 f1 fx f2 cx' c2' g1 gx g2
   obtain ⟨c1, f1⟩ := one_cell g1'
   obtain ⟨cx, fx⟩ := one_cell gx'
   have hw2 : wrap64 ((k : Int) + 1) = ((k + 1 : Nat) : Int) := by unfold wrap64; omega
   gi_wp2
   go_roundw
   case rel => exact ⟨_, rest2, hcut2, z14_0_, hJb _ _ _ hJ3, (Below.heap_setCell W3 ⟨bx, 0, none⟩ _ b1 (fun h => n1 h.symm)).trans g1', by rw [hrest2]; exact blk_set gx' 0 _, (Below.heap_setCell W3 ⟨bx, 0, none⟩ _ b2 (fun h => n2 h.symm)).trans g2'⟩
   case measure =>
    have e2 := (one_cell (blk_set gx' 0 (.string (rest.extract (k + 1) rest.size)))).1
    simp only [e2, hm0.out]
    rw [← hrest2]; omega
  ·gi_wp2
   refine bodyPost_ret (results_none rfl _ _ _) rfl ?_
   exact ⟨⟨_, rfl⟩, .inr ⟨_, ⟨_, hcut2⟩, hJx3⟩⟩
theorem seq_made (s sep : ByteArray) (w : World) : Calls Tryz.prog 79 #[.string s, .string sep] w fun e w' =>
 e = .returned (.func (.func 117) #[] #[.pointer (some ⟨w.heap.size + 1, 0, none⟩), .pointer (some ⟨w.heap.size, 0, none⟩), .pointer (some ⟨w.heap.size + 2, 0, none⟩)]) ∧ w' = ((w.alloc (.cells #[.string s] 9)).alloc (.cells #[.string sep] 9)).alloc (.cells #[.int .i64 0] 3) := by
 have h40 : ∀ w, Calls Tryz.prog 104 #[.string s, .string sep, .int .i64 0] w fun e w' =>
  e = .returned (.func (.func 117) #[] #[.pointer (some ⟨w.heap.size + 1, 0, none⟩), .pointer (some ⟨w.heap.size, 0, none⟩), .pointer (some ⟨w.heap.size + 2, 0, none⟩)]) ∧ w' = ((w.alloc (.cells #[.string s] 9)).alloc (.cells #[.string sep] 9)).alloc (.cells #[.int .i64 0] 3) := by
  intro w
  go_enter Tryz.func104, Tryz.ntmps104
  go_wp2
  go_ret
  exact ⟨rfl, rfl⟩
 go_enter Tryz.func79, Tryz.ntmps79
 go_wp2_with (first | ((with_reducible refine gate_callee (f := 104) rfl ?_); refine goesL_ (some 7) rfl rfl Tryz.func104 (by kernel_rfl) rfl #[.string s, .string sep, .int .i64 0] rfl (by (try simp only [List.map_toArray, List.map_cons, List.map_nil]); first | done | rfl) ?_; (with_reducible refine (h40 _).mono ?_); rintro e w' ⟨rfl, rfl⟩; refine ⟨_, rfl, ?_⟩))
 go_ret
 exact ⟨rfl, rfl⟩
theorem plainS_ (w : World) : (isAgg 63).run Tryz.prog w = .ok false w := by simp [isAgg, run_underlying Tryz.underlying63]
theorem plainB_ (w : World) : (isAgg 4).run Tryz.prog w = .ok false w := by simp [isAgg, run_underlying Tryz.underlying4]
theorem infoS_ : (Tryz.prog.info? 9).map (fun i => (i.zero, i.size, i.bytes)) = some (some (.string ⟨#[]⟩), 1, 16) := by kernel_rfl
theorem idx_one (s : ByteArray) (c : UInt8) : strings_Index.f s ⟨#[c]⟩ = some (Lib.indexByte s.data.toList c) := rfl
set_option maxHeartbeats 4000000 in
theorem impl_RunPoints.calls (k : Nat) (A0 : Option Addr) (c0 : Nat) (l0 : List S58) (a1 : ByteArray) (r1 : List ByteArray) (r2 : Bool) (w : World) (hT_ : TabW Tryz.prog 1 w) (hr0 : Kd.C k58 w A0 l0.length l0) (hc0 : l0.length ≤ c0) (h : impl_RunPoints.f k l0 a1 = some (r1, r2)) :
 Calls Tryz.prog 38 #[.slice A0 l0.length c0, .string a1] w fun e w' => ∃ v1_ : Value, e = .returned (.tuple #[v1_, .bool r2]) ∧ Kd.R Kd.string 9 w' w.heap.size (fun _ => True) v1_ r1 ∧ Below w.heap.size w w' := by
 unfold impl_RunPoints.f at h
 split at h
 case isFalse => cases h
 rename_i hsz
 obtain ⟨t, hA, h⟩ := Option.bind_eq_some_iff.mp h
 obtain ⟨i0, hi, hz0, hz1, hz2⟩ := info_parts infoS_
 refine (callsIn_wide (n := 9)).1 ?_
 refine callsIn_of_wp_marks Tryz.func38 rfl trivial ?_ rfl
 simp only [Tryz.ntmps38, List.size_toArray, List.length_cons, List.length_nil, Nat.reduceAdd, Nat.reduceSub, Array.replicate_succ, Array.replicate_zero, List.push_toArray, List.append_toArray, List.nil_append, List.cons_append]
 gi_wp2

 refine ⟨trivial, ?_⟩
 gi_at_call 33
 refine CallsIn.mono (callsIn_wide.2 (impl_AreLoci.calls k _ _ l0 t _ (Kd.C_alloc (Kd.C_alloc (Kd.C_alloc hr0 _) _) _) hc0 hA)) ?_
 have b0 := ((Boxed.new w 23 (.slice A0 l0.length c0)).alloc (.cells #[.slice none 0 0] 63)).alloc (.cells #[.bool false] 4)
 have b1 := (Boxed.new (w.alloc (.cells #[.slice A0 l0.length c0] 23)) 63 (.slice none 0 0)).alloc (.cells #[.bool false] 4)
 have b2 := Boxed.new ((w.alloc (.cells #[.slice A0 l0.length c0] 23)).alloc (.cells #[.slice none 0 0] 63)) 4 (.bool false)
 have hB1 : Below w.heap.size w (((w.alloc (.cells #[.slice A0 l0.length c0] 23)).alloc (.cells #[.slice none 0 0] 63)).alloc (.cells #[.bool false] 4)) := below_alloc (below_alloc (below_alloc (Below.refl _ _) _) _) _
 simp only [World.size_alloc] at b1 b2
 rintro e1 w2 ⟨rfl, hb⟩
 have hB2 := below_step hB1 hb
 replace b0 := boxed_below b0 hb
 replace b1 := boxed_below b1 hb
 replace b2 := boxed_below b2 hb
 clear hb hB1
 have c0_ := b0.cell
 have c1_ := b1.cell
 have c2_ := b2.cell
 have f1_ := b1.frozen
 have f2_ := b2.frozen
 have key : ∀ (v1 : Value) (W : World), Boxed W (w.heap.size + 1) 63 v1 → Boxed W (w.heap.size + 1 + 1) 4 (.bool r2) → Kd.R Kd.string 9 W w.heap.size (fun _ => True) v1 r1 → Below w.heap.size w W → True := fun _ _ _ _ _ _ => trivial
 cases t with
 | false =>
  rw [if_neg (by decide)] at h
  simp only [Option.some.injEq, Prod.mk.injEq] at h
  obtain ⟨rfl, rfl⟩ := h
  gi_wp2
  have e1 := boxed_far (b1.set (.slice none 0 0)) (g := w.heap.size + 1 + 1) (by omega) (.bool false)
  have e2 := (boxed_far b2 (g := w.heap.size + 1) (by omega) (.slice none 0 0)).set (.bool false)
  exact ⟨_, results_bb rfl _ _ rfl rfl e1.cell e2.cell (plainS_ _) (plainB_ _), _, rfl, Kd.R_nil _ _ _ _ _, below_set (below_set hB2 z14_1_) z14_2_⟩
 | true =>
  rw [if_pos rfl] at h
  by_cases hs : a1.toList = []
  ·rw [if_pos hs] at h
   simp only [Option.some.injEq, Prod.mk.injEq] at h
   obtain ⟨rfl, rfl⟩ := h
   have hsb0 : (a1.toList == ([] : List UInt8)) = true := beq_iff_eq.mpr hs
   gi_wp2
   have e1 := boxed_far (b1.set (.slice none 0 0)) (g := w.heap.size + 1 + 1) (by omega) (.bool true)
   have e2 := (boxed_far b2 (g := w.heap.size + 1) (by omega) (.slice none 0 0)).set (.bool true)
   exact ⟨_, results_bb rfl _ _ rfl rfl e1.cell e2.cell (plainS_ _) (plainB_ _), _, rfl, Kd.R_nil _ _ _ _ _, below_set (below_set hB2 z14_1_) z14_2_⟩
  rw [if_neg hs] at h
  have hsb0 : (a1.toList == ([] : List UInt8)) = false := beq_eq_false_iff_ne.mpr hs
  gi_wp2
  refine ⟨trivial, ?_⟩
  gi_at_call 79
  have l9 := b2.lt
  have b3 := Boxed.new w2 63 (.slice none 0 0)
  replace b0 := b0.alloc (.cells #[.slice none 0 0] 63)
  replace b1 := b1.alloc (.cells #[.slice none 0 0] 63)
  replace b2 := b2.alloc (.cells #[.slice none 0 0] 63)
  have hB3 := below_alloc hB2 (.cells #[.slice none 0 0] 63)
  have hz3 := World.size_alloc w2 (.cells #[.slice none 0 0] 63)
  have hz9 := hB2.size
  have l2 := b2.lt
  generalize w2.alloc (.cells #[.slice none 0 0] 63) = w3 at b0 b1 b2 b3 hB3 hz3 l2 ⊢
  refine CallsIn.mono (callsIn_wide.2 (seq_made a1 ⟨#[32]⟩ _)) ?_
  rintro e3 w4 ⟨rfl, hw4⟩
  have px := ((Boxed.new w3 9 (.string a1)).alloc (.cells #[.string (⟨#[32]⟩ : ByteArray)] 9)).alloc (.cells #[.int .i64 0] 3)
  have p1 := (Boxed.new (w3.alloc (.cells #[.string a1] 9)) 9 (.string (⟨#[32]⟩ : ByteArray))).alloc (.cells #[.int .i64 0] 3)
  have p2 := Boxed.new ((w3.alloc (.cells #[.string a1] 9)).alloc (.cells #[.string (⟨#[32]⟩ : ByteArray)] 9)) 3 (.int .i64 0)
  replace b0 := ((b0.alloc (.cells #[.string a1] 9)).alloc (.cells #[.string (⟨#[32]⟩ : ByteArray)] 9)).alloc (.cells #[.int .i64 0] 3)
  replace b1 := ((b1.alloc (.cells #[.string a1] 9)).alloc (.cells #[.string (⟨#[32]⟩ : ByteArray)] 9)).alloc (.cells #[.int .i64 0] 3)
  replace b2 := ((b2.alloc (.cells #[.string a1] 9)).alloc (.cells #[.string (⟨#[32]⟩ : ByteArray)] 9)).alloc (.cells #[.int .i64 0] 3)
  replace b3 := ((b3.alloc (.cells #[.string a1] 9)).alloc (.cells #[.string (⟨#[32]⟩ : ByteArray)] 9)).alloc (.cells #[.int .i64 0] 3)
  have hB4 := below_alloc (below_alloc (below_alloc hB3 (.cells #[.string a1] 9)) (.cells #[.string (⟨#[32]⟩ : ByteArray)] 9)) (.cells #[.int .i64 0] 3)
  have hz4 : w4.heap.size = w3.heap.size + 3 := by rw [hw4]; simp only [World.size_alloc]
  simp only [World.size_alloc] at p1 p2
  rw [← hw4] at px p1 p2 b0 b1 b2 b3 hB4
  clear hw4 hB3 hB2 c0_ c1_ c2_ f1_ f2_
  obtain ⟨all, hall⟩ : ∃ A, A = (cutsAt 0 32 a1.data.toList).map mk_ := ⟨_, rfl⟩
  have hrun : impl_RunPoints.run k l0 all [] = some (r1, r2) := by rw [hall]; exact h
  clear h
  have HZ := Aside0.mk (And.intro hz3 hz4)
  clear hz3 hz4
  gi_wp2
  obtain ⟨hz3, hz4⟩ := HZ.out
  clear HZ
  refine wpIn_rangeFunc_box rfl (by omega) (gf := 117) (lb := #[.pointer (some ⟨w3.heap.size + 1, 0, none⟩), .pointer (some ⟨w3.heap.size, 0, none⟩), .pointer (some ⟨w3.heap.size + 2, 0, none⟩)]) rfl trivial (enters_of Tryz.func117 (by kernel_rfl) rfl)
   (encs := fun x : ByteArray => #[.string x]) (Kp := KpB (w3.heap.size + 1) w3.heap.size (w3.heap.size + 2)) (S := fun xs => xs = all) (Sp := fun pre => ∃ t, all = pre ++ t) (all := all) (w0 := w4) (bx := w3.heap.size) (by omega)
   ?seq (fun h k => ⟨k.1.trans h.1, k.2.1.trans h.2.1, k.2.2.trans h.2.2⟩) (fun W l o o' hl _ _ _ => ⟨World.putObj_heap_other (by omega), World.putObj_heap_other (by omega), World.putObj_heap_other (by omega)⟩) (Below.refl _ _) (fun _ => rfl)
   (fun pre W => (∃ (rest out : List ByteArray) (v : Value), w4.heap.size ≤ W.heap.size ∧ all = pre ++ rest ∧ impl_RunPoints.run k l0 rest out = some (r1, r2) ∧ out.length ≤ 10 ∧ Boxed W w.heap.size 23 (.slice A0 l0.length c0) ∧ Boxed W (w.heap.size + 1) 63 (.slice none 0 0) ∧ Boxed W (w.heap.size + 1 + 1) 4 (.bool false) ∧ Boxed W w2.heap.size 63 v ∧ W.ownsRow w4.heap.size 9 1 v out.length (out.map Value.string)) ∧ Below w.heap.size w W)
   (fun c _ W => (c = .ret ∧ r1 = [] ∧ r2 = false ∧ Boxed W (w.heap.size + 1) 63 (.slice none 0 0) ∧ Boxed W (w.heap.size + 1 + 1) 4 (.bool false)) ∧ Below w.heap.size w W)
   ?hI ?hIx ?hIb ?hIxb ?hId ?hIxd ⟨⟨all, [], _, Nat.le_refl _, rfl, hrun, by simp, b0, b1, b2, b3, World.ownsRow_nil _ _ _ _⟩, hB4⟩
   (fun x => { tmps := #[.slice A0 l0.length c0, .string a1, .pointer (some ⟨w.heap.size, 0, none⟩), undef, .pointer (some ⟨w.heap.size + 1, 0, none⟩), .pointer (some ⟨w.heap.size + 1 + 1, 0, none⟩), .pointer (some ⟨w2.heap.size, 0, none⟩), .string x, undef, undef, undef, .slice A0 l0.length c0, .bool true, .bool false, .string a1, .bool false, .string a1, .func (.func 117) #[] #[.pointer (some ⟨w3.heap.size + 1, 0, none⟩), .pointer (some ⟨w3.heap.size, 0, none⟩), .pointer (some ⟨w3.heap.size + 2, 0, none⟩)], .string x, undef, undef, undef, undef, undef, undef, undef, undef, undef, undef, undef, undef, undef, undef, undef, undef, undef, undef, undef, undef, undef, undef, undef, undef, undef, undef, undef], defers := [] }) ?assign ?body ?done ?stop
  case seq =>
   intro l J Jx W hW hJ hJx hJb hJxb hJd hJxd hY h0
   subst hall
   exact seq_closure l w3.heap.size (w3.heap.size + 1) (w3.heap.size + 2) 8 32 0 (.inl rfl) a1 (by omega) J Jx hJb hJd (fun s w => (strings_Index.calls s ⟨#[32]⟩ _ w (idx_one s 32)).mono fun _ _ ⟨h1, h2⟩ => ⟨h1, drawn_ h2⟩) hY W (boxed_below p1 hW) (boxed_below px hW) (boxed_below p2 hW) (by omega) (by omega) h0
  case hI =>
   rintro s W W' row ⟨⟨rest, out, v, hN, h1, h2, h3, q0, q1, q2, q3, q4⟩, hB⟩ hg hr
   have hne : ∀ B, B < w4.heap.size → some B ≠ row := fun B hB e => by have := (hr _ e.symm).1; omega
   exact ⟨⟨rest, out, v, Nat.le_trans hN hg.size, h1, h2, h3, q0.kept hg (hne _ (by omega)), q1.kept hg (hne _ (by omega)), q2.kept hg (hne _ (by omega)), q3.kept hg (hne _ (by omega)), owns_kept q4 hg (fun r e => (hr r e).2)⟩, ownFrom_below (w₀ := w) (Nat.le_refl _) (by omega) s W W' row hB hg hr⟩
  case hIx =>
   rintro c s W W' row ⟨⟨h1, h2, h3, q1, q2⟩, hB⟩ hg hr
   have hne : ∀ B, B < w4.heap.size → some B ≠ row := fun B hB e => by have := (hr _ e.symm).1; omega
   exact ⟨⟨h1, h2, h3, q1.kept hg (hne _ (by omega)), q2.kept hg (hne _ (by omega))⟩, ownFrom_below (w₀ := w) (Nat.le_refl _) (by omega) s W W' row hB hg hr⟩
  case hIb =>
   rintro s W u ⟨⟨rest, out, v, hN, h1, h2, h3, q0, q1, q2, q3, q4⟩, hB⟩
   exact ⟨⟨rest, out, v, by rw [World.size_setCell]; exact hN, h1, h2, h3, boxed_far q0 (by omega) u, boxed_far q1 (by omega) u, boxed_far q2 (by omega) u, boxed_far q3 (by omega) u, owns_far q4 (by omega) u⟩, below_set hB (by show w.heap.size ≤ w3.heap.size; omega)⟩
  case hIxb =>
   rintro c s W u ⟨⟨h1, h2, h3, q1, q2⟩, hB⟩
   exact ⟨⟨h1, h2, h3, boxed_far q1 (by omega) u, boxed_far q2 (by omega) u⟩, below_set hB (by show w.heap.size ≤ w3.heap.size; omega)⟩
  case hId =>
   rintro s W m ⟨⟨rest, out, v, hN, h1, h2, h3, q0, q1, q2, q3, q4⟩, hB⟩
   exact ⟨⟨rest, out, v, hN, h1, h2, h3, q0, q1, q2, q3, q4⟩, pw_below_drewN hB m⟩
  case hIxd =>
   rintro c s W m ⟨⟨h1, h2, h3, q1, q2⟩, hB⟩
   exact ⟨⟨h1, h2, h3, q1, q2⟩, pw_below_drewN hB m⟩
  case assign =>
   intro l x W K hK
   clear hz3 hz4
   gi_wp2
   exact hK
  case body =>
   rintro l pre x W ⟨⟨rest, out, v, hN, h1, h2, h3, q0, q1, q2, q3, q4⟩, hB⟩ ⟨tl, htl⟩
   obtain rfl : rest = x :: tl := by
    rw [h1, List.append_assoc] at htl
    exact List.append_cancel_left htl
   have HZ := Aside0.mk (And.intro hz3 hz4)
   clear hz3 hz4
   simp only [impl_RunPoints.run] at h2
   obtain ⟨⟨ang, ok⟩, hdec, h2⟩ := Option.bind_eq_some_iff.mp h2
   dsimp only at h2
   have d0 := q0.cell
   have d3 := q3.cell
   gi_wp2
   refine ⟨trivial, ?_⟩
   gi_at_call 62
   refine CallsIn.mono (CallsIn.inRound l (callsIn_wide.2 (impl_decimal.calls x ang ok _ (TabW.below hT_ hB) hdec))) ?_
   rintro e5 w5 ⟨rfl, hb⟩
   obtain ⟨hz3, hz4⟩ := HZ.out
   have hB5 := below_step hB hb
   have ko := ko_below hb
   have kp := kp_below (b1 := w3.heap.size + 1) (bx := w3.heap.size) (b2 := w3.heap.size + 2) hb (by omega) (by omega) (by omega)
   have hN5 := Nat.le_trans hN hb.size
   replace q0 := boxed_below q0 hb
   replace q1 := boxed_below q1 hb
   replace q2 := boxed_below q2 hb
   replace q3 := boxed_below q3 hb
   replace q4 := owns_below q4 hb
   clear hb d0 d3
   have g1 := q1.frozen
   have g2 := q2.frozen
   have d1 := q1.cell
   have d2 := q2.cell
   clear HZ
   have HZ := Aside0.mk (And.intro hz3 hz4)
   clear hz3 hz4
   cases ok with
   | false =>
    rw [if_neg (by decide)] at h2
    simp only [Option.some.injEq, Prod.mk.injEq] at h2
    obtain ⟨rfl, rfl⟩ := h2
    gi_wp2
    refine ⟨trivial, ?_⟩
    gi_wp2
    obtain ⟨hz3, hz4⟩ := HZ.out
    have e1 := boxed_far (q1.set (.slice none 0 0)) (g := w.heap.size + 1 + 1) (by omega) (.bool false)
    have e2 := (boxed_far q2 (g := w.heap.size + 1) (by omega) (.slice none 0 0)).set (.bool false)
    exact ⟨ko.trans ((KeepsOthers.setCell _ _ _).trans (KeepsOthers.setCell _ _ _)), ⟨rfl, e1, e2⟩, below_set (below_set hB5 z14_1_) z14_2_⟩
   | true =>
    rw [if_pos rfl] at h2
    obtain ⟨b, hang, h2⟩ := Option.bind_eq_some_iff.mp h2
    gi_wp2
    refine ⟨trivial, ?_⟩
    gi_at_call 65
    refine CallsIn.mono (CallsIn.inRound l (callsIn_wide.2 (impl_isAngle.calls ang b _ hang))) ?_
    rintro e6 w6 ⟨rfl, ⟨nd, rfl⟩⟩
    have hB6 := pw_below_drewN hB5 nd
    have ko6 : KeepsOthers W (w5.drewN nd) := ⟨ko.size, ko.same⟩
    have kp6 : KpB (w3.heap.size + 1) w3.heap.size (w3.heap.size + 2) W (w5.drewN nd) := kp
    replace q0 : Boxed (w5.drewN nd) w.heap.size 23 (.slice A0 l0.length c0) := q0
    replace q1 : Boxed (w5.drewN nd) (w.heap.size + 1) 63 (.slice none 0 0) := q1
    replace q2 : Boxed (w5.drewN nd) (w.heap.size + 1 + 1) 4 (.bool false) := q2
    replace q3 : Boxed (w5.drewN nd) w2.heap.size 63 v := q3
    replace q4 : (w5.drewN nd).ownsRow w4.heap.size 9 1 v out.length (out.map Value.string) := q4
    have hN6 : w4.heap.size ≤ (w5.drewN nd).heap.size := hN5
    clear ko kp hB5 hN5 g1 g2 d1 d2
    generalize w5.drewN nd = w6 at q0 q1 q2 q3 q4 hB6 ko6 kp6 hN6 ⊢
    have g1 := q1.frozen
    have g2 := q2.frozen
    have d1 := q1.cell
    have d2 := q2.cell
    have d0 := q0.cell
    obtain ⟨Av, cv, rfl⟩ := owns_slice q4
    have d3 := q3.cell
    cases b with
    | false =>
     rw [if_neg (by decide)] at h2
     simp only [Option.some.injEq, Prod.mk.injEq] at h2
     obtain ⟨rfl, rfl⟩ := h2
     gi_wp2
     obtain ⟨hz3, hz4⟩ := HZ.out
     have e1 := boxed_far (q1.set (.slice none 0 0)) (g := w.heap.size + 1 + 1) (by omega) (.bool false)
     have e2 := (boxed_far q2 (g := w.heap.size + 1) (by omega) (.slice none 0 0)).set (.bool false)
     exact ⟨ko6.trans ((KeepsOthers.setCell _ _ _).trans (KeepsOthers.setCell _ _ _)), ⟨rfl, e1, e2⟩, below_set (below_set hB6 z14_1_) z14_2_⟩
    | true =>
     rw [if_pos rfl] at h2
     by_cases c10 : out.length = 10
     ·rw [if_pos c10] at h2
      simp only [Option.some.injEq, Prod.mk.injEq] at h2
      obtain ⟨rfl, rfl⟩ := h2
      have c10b : ((out.length : Int) == 10) = true := by rw [c10]; rfl
      gi_wp2
      obtain ⟨hz3, hz4⟩ := HZ.out
      have e1 := boxed_far (q1.set (.slice none 0 0)) (g := w.heap.size + 1 + 1) (by omega) (.bool false)
      have e2 := (boxed_far q2 (g := w.heap.size + 1) (by omega) (.slice none 0 0)).set (.bool false)
      exact ⟨ko6.trans ((KeepsOthers.setCell _ _ _).trans (KeepsOthers.setCell _ _ _)), ⟨rfl, e1, e2⟩, below_set (below_set hB6 z14_1_) z14_2_⟩
     rw [if_neg c10] at h2
     have c10b : ((out.length : Int) == 10) = false := by rw [beq_eq_false_iff_ne]; omega
     obtain ⟨who, hwho, h2⟩ := Option.bind_eq_some_iff.mp h2
     gi_wp2
     refine ⟨trivial, ?_⟩
     gi_at_call 73
     refine CallsIn.mono (CallsIn.inRound l (callsIn_wide.2 (impl_pointsAt.calls k _ _ l0 ang who _ (Kd.C_below hr0 hB6) hc0 hwho))) ?_
     rintro e7 w7 ⟨rfl, hb⟩
     obtain ⟨hz3, hz4⟩ := HZ.out
     have hB7 := below_step hB6 hb
     have ko7 := ko6.trans (ko_below hb)
     have kp7 := kp_trans kp6 (kp_below (b1 := w3.heap.size + 1) (bx := w3.heap.size) (b2 := w3.heap.size + 2) hb (by omega) (by omega) (by omega))
     have hN7 := Nat.le_trans hN6 hb.size
     clear g1 g2 d1 d2 d0 d3
     replace q0 := boxed_below q0 hb
     replace q1 := boxed_below q1 hb
     replace q2 := boxed_below q2 hb
     replace q3 := boxed_below q3 hb
     replace q4 := owns_below q4 hb
     clear hb ko6 kp6 hB6 hN6 hz3 hz4
     have d3 := q3.cell
     by_cases cw : who.toList = []
     rotate_left
     ·rw [if_neg cw] at h2
      have cwb : (who.toList == ([] : List UInt8)) = false := beq_eq_false_iff_ne.mpr cw
      gi_wp2_with (gi_at_builtin; refine wpListIn_append_own _ rfl _ _ 63 rfl w4.heap.size 9 i0 (.string ⟨#[]⟩) 1 16 Tryz.underlying63 hi hz0 hz1 hz2 rfl (by decide) _ _ _ rfl (q4.alloc _) ⟨w7.heap.size, 0, none⟩ 1 1 [.string who] rfl rfl (cell_one_new _ _ _) (by simp [Value.oneCell']) (by simp only [maxLen]; omega) (by omega) (by rw [World.size_alloc]; omega) ?_; intro v' w8 hown' hgrow _; obtain ⟨g', cap', rfl⟩ := ownsRow_succ hown'; have hfar : ∀ b, b < w4.heap.size → some b ≠ (Value.slice Av out.length cv).ownBlock := (fun b hb he => by have := own_base q4 b he.symm; omega); have a1_ := (q3.alloc (.cells #[.string who] 9)).kept hgrow (hfar _ (by have := HZ.out; omega)); have d4 := a1_.cell; have g4 := a1_.frozen)
      obtain ⟨hz3, hz4⟩ := HZ.out
      obtain ⟨_, a2_, _, a4_, a5_⟩ := q3.appended (by decide) (owns_mono (base' := w.heap.size) q4 (by omega)) (by omega) (by omega) (owns_mono (base' := w.heap.size) hown' (by omega)) hgrow
      refine ⟨ko7.trans a4_, kp_grown kp7 hgrow (by omega) (by omega) (by omega) (hfar _ (by omega)) (hfar _ (by omega)) (hfar _ (by omega)) (by omega) (by omega) (by omega) _, ⟨tl, out ++ [who], .slice (some ⟨g', 0, none⟩) (out.length + 1) cap', ?_, by rw [h1, List.append_assoc, List.singleton_append], h2, z14_0_, boxed_far ((q0.alloc _).kept hgrow (hfar _ (by omega))) (by omega) _, boxed_far ((q1.alloc _).kept hgrow (hfar _ (by omega))) (by omega) _, boxed_far ((q2.alloc _).kept hgrow (hfar _ (by omega))) (by omega) _, ?_, ?_⟩, hB7.trans a5_⟩
      ·exact Nat.le_trans hN7 a4_.size
      ·exact a2_
      ·rw [List.length_append, List.length_singleton, List.map_append, List.map_cons, List.map_nil]
       exact hown'.kept (grownBy_setCell' w8 w2.heap.size _) (.inr (a1_.not_row (by decide) hown').symm)
     rw [if_pos cw] at h2
     have cwb : (who.toList == ([] : List UInt8)) = true := beq_iff_eq.mpr cw
     gi_wp2_with (gi_at_builtin; refine wpListIn_append_own _ rfl _ _ 63 rfl w4.heap.size 9 i0 (.string ⟨#[]⟩) 1 16 Tryz.underlying63 hi hz0 hz1 hz2 rfl (by decide) _ _ _ rfl (q4.alloc _) ⟨w7.heap.size, 0, none⟩ 1 1 [.string ⟨#[63]⟩] rfl rfl (cell_one_new _ _ _) (by simp [Value.oneCell']) (by simp only [maxLen]; omega) (by omega) (by rw [World.size_alloc]; omega) ?_; intro v' w8 hown' hgrow _; obtain ⟨g', cap', rfl⟩ := ownsRow_succ hown'; have hfar : ∀ b, b < w4.heap.size → some b ≠ (Value.slice Av out.length cv).ownBlock := (fun b hb he => by have := own_base q4 b he.symm; omega); have a1_ := (q3.alloc (.cells #[.string ⟨#[63]⟩] 9)).kept hgrow (hfar _ (by have := HZ.out; omega)); have d4 := a1_.cell; have g4 := a1_.frozen)
     obtain ⟨hz3, hz4⟩ := HZ.out
     obtain ⟨_, a2_, _, a4_, a5_⟩ := q3.appended (by decide) (owns_mono (base' := w.heap.size) q4 (by omega)) (by omega) (by omega) (owns_mono (base' := w.heap.size) hown' (by omega)) hgrow
     refine ⟨ko7.trans a4_, kp_grown kp7 hgrow (by omega) (by omega) (by omega) (hfar _ (by omega)) (hfar _ (by omega)) (hfar _ (by omega)) (by omega) (by omega) (by omega) _, ⟨tl, out ++ [⟨#[63]⟩], .slice (some ⟨g', 0, none⟩) (out.length + 1) cap', ?_, by rw [h1, List.append_assoc, List.singleton_append], h2, z14_0_, boxed_far ((q0.alloc _).kept hgrow (hfar _ (by omega))) (by omega) _, boxed_far ((q1.alloc _).kept hgrow (hfar _ (by omega))) (by omega) _, boxed_far ((q2.alloc _).kept hgrow (hfar _ (by omega))) (by omega) _, ?_, ?_⟩, hB7.trans a5_⟩
     ·exact Nat.le_trans hN7 a4_.size
     ·exact a2_
     ·rw [List.length_append, List.length_singleton, List.map_append, List.map_cons, List.map_nil]
      exact hown'.kept (grownBy_setCell' w8 w2.heap.size _) (.inr (a1_.not_row (by decide) hown').symm)
  case done =>
   rintro D xs W hD rfl ⟨⟨rest, out, v, hN, h1, h2, h3, q0, q1, q2, q3, q4⟩, hB⟩ hK
   obtain rfl : rest = [] := by simpa using h1
   simp only [impl_RunPoints.run, Option.some.injEq, Prod.mk.injEq] at h2
   obtain ⟨rfl, rfl⟩ := h2
   obtain ⟨Av, cv, rfl⟩ := owns_slice q4
   have HZ := Aside0.mk (And.intro hz3 hz4)
   clear hz3 hz4
   have d3 := q3.cell
   have d1 := q1.cell
   have d2 := q2.cell
   have g1 := q1.frozen
   have g2 := q2.frozen
   gi_wp2
   obtain ⟨hz3, hz4⟩ := HZ.out
   have e1 := boxed_far (q1.set (.slice Av out.length cv)) (g := w.heap.size + 1 + 1) (by omega) (.bool true)
   have e2 := (boxed_far q2 (g := w.heap.size + 1) (by omega) (.slice Av out.length cv)).set (.bool true)
   have hK1 := (Below.heap_setCell (W.setCell ⟨w.heap.size + 1, 0, none⟩ (.slice Av out.length cv)) ⟨w.heap.size + 1 + 1, 0, none⟩ (.bool true) D (by show D ≠ w.heap.size + 1 + 1; omega)).trans ((Below.heap_setCell W ⟨w.heap.size + 1, 0, none⟩ (.slice Av out.length cv) D (by show D ≠ w.heap.size + 1; omega)).trans hK)
   have q5 := owns_far (owns_far q4 (g := w.heap.size + 1) (by omega) (.slice Av out.length cv)) (g := w.heap.size + 1 + 1) (by omega) (.bool true)
   have hB5 := below_set (below_set hB (g := w.heap.size + 1) (j := 0) (v := .slice Av out.length cv) z14_1_) (g := w.heap.size + 1 + 1) (j := 0) (v := .bool true) z14_2_
   have e3 : ∀ {B t v}, B ≠ D → Boxed ((W.setCell ⟨w.heap.size + 1, 0, none⟩ (.slice Av out.length cv)).setCell ⟨w.heap.size + 1 + 1, 0, none⟩ (.bool true)) B t v → Boxed (World.putObj ((W.setCell ⟨w.heap.size + 1, 0, none⟩ (.slice Av out.length cv)).setCell ⟨w.heap.size + 1 + 1, 0, none⟩ (.bool true)) D (.deferred none)) B t v := fun hne hb => (World.putObj_heap_other hne).trans hb
   refine ⟨by simp, .inl ⟨_, _, rfl, run_takeDeferred hK1, ?_⟩⟩
   exact ⟨_, results_bb rfl _ _ rfl rfl (e3 (by omega) e1).cell (e3 (by omega) e2).cell (plainS_ _) (plainB_ _), _, rfl, Kd.R_of_own (h1 := fun _ => rfl) (ok := fun _ => True) (owns_mono (ownsRow_putObj q5 _ hK1 rfl) (by omega)) (fun _ _ => trivial), hB5.trans (belowK_b (w := w) (Nat.le_refl _) _ D _ _ (by omega) hK1 rfl rfl)⟩
  case stop =>
   rintro D c pre W hD _ ⟨⟨rfl, rfl, rfl, q1, q2⟩, hB⟩ hK
   gi_wp2
   have e3 : ∀ {B t v}, B ≠ D → Boxed W B t v → Boxed (W.putObj D (.deferred none)) B t v := fun hne hb => (World.putObj_heap_other hne).trans hb
   refine ⟨by simp, .inl ⟨_, _, rfl, run_takeDeferred hK, ?_⟩⟩
   exact ⟨_, results_bb rfl _ _ rfl rfl (e3 (by omega) q1).cell (e3 (by omega) q2).cell (plainS_ _) (plainB_ _), _, rfl, Kd.R_nil _ _ _ _ _, hB.trans (belowK_b (w := w) (Nat.le_refl _) _ D _ _ (by omega) hK rfl rfl)⟩
end

/-! ### spec_l1Split: function 63 -/
theorem spec_l1Split.calls (k : Nat) (a0 : ByteArray) (a1 : Int) (r : List ByteArray) (w : World) (h : spec_l1Split.f k a0 a1 = some r) :
 Calls Tryz.prog 63 #[.string a0, .int .u8 a1] w fun e w' => ∃ v0_ : Value, e = .returned (v0_) ∧ Kd.R Kd.string 9 w' w.heap.size (fun _ => True) v0_ r ∧ Below w.heap.size w w' := by
 have HB := Aside0.mk (Below.refl w.heap.size w)
 have H : (spec_l1Split.l0 k a0 a1 ([] : List ByteArray) 0 0) = some r := h
 clear h
 have H' := Aside0.mk H
 clear H
 go_enter Tryz.func63, Tryz.ntmps63
 go_wp2
 go_loopg [5, 6, 7] k (fun kq v5 v6 v7 w' => ∃ (x5_1 : List ByteArray) (x6_1 : Int) (x7_1 : Int), v6 = .int .i64 x6_1 ∧ v7 = .int .i64 x7_1 ∧ Aside0 (spec_l1Split.l0 kq a0 a1 x5_1 x6_1 x7_1 = some r) ∧ Aside0 (kq ≤ k) ∧ Aside0 (Kd.R Kd.string 9 w' w.heap.size (fun _ => True) v5 x5_1) ∧ Aside0 (Below w.heap.size w w'))
 case atStart => exact ⟨(([] : List ByteArray)), (0), (0), z14_3_, z14_3_, H', ⟨Nat.le_refl _⟩, ⟨by first | exact Kd.R_nil _ _ _ _ _ | exact Kd.N_nil _ _ _ _ _ | exact Kd.V_nil _ _ _ _ _ | exact Kd.Q_nil _ _ _ _ _ | exact Kd.S_nil _ _ _ _ _⟩, ⟨hB_⟩⟩
 case round =>
  clear H'
  obtain ⟨x5_1, x6_1, x7_1, rfl, rfl, HA, HK1, HO_5, HB⟩ := hrel
  cases gk with
  | zero => exact absurd HA.out (by simp [spec_l1Split.l0])
  | succ k1 =>
   have H := HA.out
   clear HA
   simp only [spec_l1Split.l0] at H
   replace H := iF_ H; obtain ⟨c3b0, H⟩ | ⟨c3b0, H⟩ := H
   ·replace H := it_ H; obtain ⟨c12b0, c12b1, H⟩ := H
    replace H := it_ H; obtain ⟨c13b0, c13b1, H⟩ := H
    replace H := il_ H; obtain ⟨LMc14, H⟩ := H
    obtain ⟨y449, hy449⟩ : ∃ y_ : List ByteArray, y_ = (x5_1 ++ [a0.extract (x6_1 : Int).toNat a0.size]) := ⟨_, rfl⟩
    rw [← hy449] at H
    have Ny449 := Aside0.mk hy449; clear hy449
    obtain rfl := Option.some.inj H
    go_wp2_with (first | ((with_reducible refine gate_builtin (b := .append) (xs := #[.tmp 28, .tmp 32]) rfl ?_); at_builtin; refine Kd.R_append Kd.string (w0 := w) w.heap.size rfl (.tmp 28) (.tmp 32) 63 9 (.string ⟨#[]⟩) 16 rfl Tryz.underlying63 info9 rfl (by decide) (by omega) u5 x5_1 (a0.extract (x6_1 : Int).toNat a0.size) [.string (a0.extract (x6_1 : Int).toNat a0.size)] (fun _ => True) (fun _ => False) rfl rfl ?aP (fun _ hk => hk.elim) ?aF ?aO ?aB ?aS ?aL ?_; (case aP => exact rfl); (case aB => exact hB_); (case aF => exact (fun _ _ => trivial)); (case aO => exact (rR_ HO_5)); (case aS => exact (below_size hB_)); (case aL => have := LMc14.out; omega); intro v450 w15 ho hb hg hat; rw [← Ny449.out] at ho; have HO451 := aM_ (ho); replace HB := aM_ (hb); clear HO_5; clear ho hb hg hat))
    go_ret
    exact ⟨_, rT_, by (with_reducible repeat (first | apply rA_ | apply rN_ | apply rD_)); exact HO451.out, hB_⟩
   replace H := ig_ H; obtain ⟨c4b0, H⟩ := H
   by_cases c6 : (bt a0 x7_1) = a1
   rotate_left
   ·rw [if_neg c6] at H
    have c6b0 : ((bt a0 x7_1) == a1) = false := beq_eq_false_iff_ne.mpr c6
    have c6b1 : ((bt a0 x7_1) != a1) = true := bne_iff_ne.mpr c6
    have H' := Aside0.mk H
    clear H
    have p5 : 0 ≤ (x7_1 : Int) := ode_
    have q5 : x7_1 < (a0.size : Int) := ode_
    have hx5 := bt_at a0 x7_1
    replace p5 := eq_true p5
    replace q5 := eq_true q5
    go_wp2
    go_roundg k1
    case measure => have := HK1.out; omega
    case rel => exact ⟨(x5_1), (x6_1), (wrap64 (x7_1 + 1)), z14_3_, z14_3_, H', ⟨by have := HK1.out; omega⟩, ⟨(rR_ HO_5)⟩, ⟨hB_⟩⟩
   rw [if_pos c6] at H
   have c6b0 : ((bt a0 x7_1) == a1) = true := beq_iff_eq.mpr c6
   have c6b1 : ((bt a0 x7_1) != a1) = false := bne_eq_false_iff_eq.mpr c6
   clear c6
   replace H := it_ H; obtain ⟨c7b0, c7b1, H⟩ := H
   replace H := it_ H; obtain ⟨c8b0, c8b1, H⟩ := H
   replace H := it_ H; obtain ⟨c9b0, c9b1, H⟩ := H
   replace H := il_ H; obtain ⟨LMc10, H⟩ := H
   obtain ⟨y446, hy446⟩ : ∃ y_ : List ByteArray, y_ = (x5_1 ++ [a0.extract (x6_1 : Int).toNat (x7_1 : Int).toNat]) := ⟨_, rfl⟩
   rw [← hy446] at H
   have Ny446 := Aside0.mk hy446; clear hy446
   have H' := Aside0.mk H
   clear H
   have p5 : 0 ≤ (x7_1 : Int) := ode_
   have q5 : x7_1 < (a0.size : Int) := ode_
   have hx5 := bt_at a0 x7_1
   replace p5 := eq_true p5
   replace q5 := eq_true q5
   go_wp2_with (first | ((with_reducible refine gate_builtin (b := .append) (xs := #[.tmp 19, .tmp 24]) rfl ?_); at_builtin; refine Kd.R_append Kd.string (w0 := w) w.heap.size rfl (.tmp 19) (.tmp 24) 63 9 (.string ⟨#[]⟩) 16 rfl Tryz.underlying63 info9 rfl (by decide) (by omega) u5 x5_1 (a0.extract (x6_1 : Int).toNat (x7_1 : Int).toNat) [.string (a0.extract (x6_1 : Int).toNat (x7_1 : Int).toNat)] (fun _ => True) (fun _ => False) rfl rfl ?aP (fun _ hk => hk.elim) ?aF ?aO ?aB ?aS ?aL ?_; (case aP => exact rfl); (case aB => exact hB_); (case aF => exact (fun _ _ => trivial)); (case aO => exact (rR_ HO_5)); (case aS => exact (below_size hB_)); (case aL => have := LMc10.out; omega); intro v447 w11 ho hb hg hat; rw [← Ny446.out] at ho; have HO448 := aM_ (ho); replace HB := aM_ (hb); clear HO_5; clear ho hb hg hat))
   go_roundg k1
   case measure => have := HK1.out; omega
   case rel => exact ⟨(y446), (wrap64 (x7_1 + 1)), (wrap64 (x7_1 + 1)), z14_3_, z14_3_, H', ⟨by have := HK1.out; omega⟩, ⟨rR_ HO448⟩, ⟨hB_⟩⟩

/-! ### spec_l1Read: function 99 -/
theorem spec_l1Read.calls (k : Nat) (a0 : ByteArray) (r : Int) (w : World) (h : spec_l1Read.f k a0 = some r) :
 Calls Tryz.prog 99 #[.string a0] w fun e w' => e = .returned (.int .i64 r) ∧ Drawn0 w w' := by
 have H : ((spec_l1In.f (a0.size : Int) 1 6).bind fun t452 => (if t452 = true then (if 0 < (a0.size : Int) then (if (bt a0 0) = 48 then (spec_l1Read.j0 k a0 (decide ((a0.size : Int) > 1))) else (spec_l1Read.j0 k a0 false)) else (none)) else (spec_l1Read.j0 k a0 true))) = some r := h
 clear h
 have HC2 := Aside0.mk H
 clear H
 go_enter Tryz.func99, Tryz.ntmps99
 go_upto_region 1 with (fail)
 go_cut [18] (fun v18 wc => ∃ (kq : Nat) (x18_1 : Bool), v18 = .bool x18_1 ∧ Aside0 (spec_l1Read.j0 kq a0 x18_1 = some r) ∧ Aside0 (kq ≤ k) ∧ Drawn0 w wc)
 case first =>
  have H := HC2.out
  clear HC2
  replace H := ob_ H; obtain ⟨t452, A3, H⟩ := H; try dsimp only at H
  by_cases c4 : t452 = true
  rotate_left
  ·replace c4 := Bool.eq_false_iff.mpr c4
   subst c4
   replace H := in_ H (show ¬ (false = true) by decide)
   have H' := Aside0.mk H
   clear H
   go_wp2_with (first | ((with_reducible refine gC_ 92 ?_); refine gM_ (some 7) Tryz.func92 #[.int .i64 (a0.size : Int), .int .i64 1, .int .i64 6] ?_; (with_reducible refine (spec_l1In.calls (a0.size : Int) 1 6 false _ A3.out).mono ?_); rintro e w' ⟨rfl, ⟨nd, rfl⟩⟩; refine ⟨_, rfl, ?_⟩))
   go_meet
   case rel => exact ⟨_, (true), z14_3_, H', ⟨oR_⟩, z14_4_⟩
  subst c4
  replace H := ip_ H rfl
  by_cases c5 : 0 < (a0.size : Int)
  rotate_left
  ·rw [if_neg c5] at H
   exact absurd H (by simp)
  rw [if_pos c5] at H
  have c5b0 : decide (0 < (a0.size : Int)) = true := decide_eq_true c5
  have c5b1 : decide (0 < a0.size) = true := decide_eq_true (by omega)
  clear c5
  (first | rw [c5b0] | (simp only [i64_w, i32_w]; rw [c5b0]) | skip)
  by_cases c7 : (bt a0 0) = 48
  rotate_left
  ·rw [if_neg c7] at H
   have c7b0 : ((bt a0 0) == 48) = false := beq_eq_false_iff_ne.mpr c7
   have c7b1 : ((bt a0 0) != 48) = true := bne_iff_ne.mpr c7
   have H' := Aside0.mk H
   clear H
   go_wp2_with (first | ((with_reducible refine gC_ 92 ?_); refine gM_ (some 7) Tryz.func92 #[.int .i64 (a0.size : Int), .int .i64 1, .int .i64 6] ?_; (with_reducible refine (spec_l1In.calls (a0.size : Int) 1 6 true _ A3.out).mono ?_); rintro e w' ⟨rfl, ⟨nd, rfl⟩⟩; refine ⟨_, rfl, ?_⟩; have p6 : 0 ≤ (0 : Int) := (by omega); have q6 : 0 < a0.size := z14_5_; have hx6 : ∀ h : 0 < a0.size, ((a0[0]'h).toNat : Int) = bt a0 0 := bt_at a0 0; clear p6; have qi6 : (0 < (a0.size : Int)) = True := eq_true ode_; replace q6 := eq_true q6))
   go_meet
   case rel => exact ⟨_, (false), z14_3_, H', ⟨oR_⟩, z14_4_⟩
  rw [if_pos c7] at H
  have c7b0 : ((bt a0 0) == 48) = true := beq_iff_eq.mpr c7
  have c7b1 : ((bt a0 0) != 48) = false := bne_eq_false_iff_eq.mpr c7
  clear c7
  have H' := Aside0.mk H
  clear H
  go_wp2_with (first | ((with_reducible refine gC_ 92 ?_); refine gM_ (some 7) Tryz.func92 #[.int .i64 (a0.size : Int), .int .i64 1, .int .i64 6] ?_; (with_reducible refine (spec_l1In.calls (a0.size : Int) 1 6 true _ A3.out).mono ?_); rintro e w' ⟨rfl, ⟨nd, rfl⟩⟩; refine ⟨_, rfl, ?_⟩; have p6 : 0 ≤ (0 : Int) := (by omega); have q6 : 0 < a0.size := z14_5_; have hx6 : ∀ h : 0 < a0.size, ((a0[0]'h).toNat : Int) = bt a0 0 := bt_at a0 0; clear p6; have qi6 : (0 < (a0.size : Int)) = True := eq_true ode_; replace q6 := eq_true q6))
  go_meet
  case rel => exact ⟨_, (decide ((a0.size : Int) > 1)), z14_3_, H', ⟨oR_⟩, z14_4_⟩
 case rest =>
  clear HC2
  obtain ⟨kq, x18_1, rfl, HA, HJ1, ⟨mc1, rfl⟩⟩ := hcut
  cases kq with
  | zero => exact absurd HA.out (by simp [spec_l1Read.j0])
  | succ kj1 =>
   have H := HA.out
   clear HA
   simp only [spec_l1Read.j0] at H
   by_cases c8 : x18_1 = true
   ·subst c8
    replace H := ip_ H rfl
    obtain rfl := Option.some.inj H
    go_wp2
    go_ret
    exact ⟨z14_3_, z14_4_⟩
   replace c8 := Bool.eq_false_iff.mpr c8
   subst c8
   replace H := in_ H (show ¬ (false = true) by decide)
   have H' := Aside0.mk H
   clear H
   go_wp2
   go_loopg [3, 4] kj1 (fun kq v3 v4 w' => ∃ (x3_2 : Int) (x4_2 : Int), v3 = .int .i64 x3_2 ∧ v4 = .int .i64 x4_2 ∧ Aside0 (spec_l1Read.l0 kq a0 x3_2 x4_2 = some r) ∧ Aside0 (kq ≤ kj1) ∧ Drawn0 w w')
   case atStart => exact ⟨(0), (0), z14_3_, z14_3_, H', ⟨Nat.le_refl _⟩, z14_4_⟩
   case round =>
    clear H'
    (try clear c8)
    obtain ⟨x3_2, x4_2, rfl, rfl, HA, HK2, ⟨m2, rfl⟩⟩ := hrel
    cases gk with
    | zero => exact absurd HA.out (by simp [spec_l1Read.l0])
    | succ k2 =>
     have H := HA.out
     clear HA
     simp only [spec_l1Read.l0] at H
     replace H := iF_ H; obtain ⟨c9b0, H⟩ | ⟨c9b0, H⟩ := H
     ·obtain rfl := Option.some.inj H
      go_wp2
      go_ret
      exact ⟨z14_3_, z14_4_⟩
     replace H := ig_ H; obtain ⟨c10b0, H⟩ := H
     replace H := iT_ H; obtain ⟨c12b0, H⟩ | ⟨c12b0, H⟩ := H
     ·obtain rfl := Option.some.inj H
      have p11 : 0 ≤ (x4_2 : Int) := ode_
      have q11 : x4_2 < (a0.size : Int) := ode_
      have hx11 := bt_at a0 x4_2
      replace p11 := eq_true p11
      replace q11 := eq_true q11
      go_wp2
      go_ret
      exact ⟨z14_3_, z14_4_⟩
     by_cases c14 : (bt a0 x4_2) > 57
     ·rw [if_pos c14] at H
      have c14b0 : decide (57 < (bt a0 x4_2)) = true := decide_eq_true c14
      clear c14
      obtain rfl := Option.some.inj H
      have p11 : 0 ≤ (x4_2 : Int) := ode_
      have q11 : x4_2 < (a0.size : Int) := ode_
      have hx11 := bt_at a0 x4_2
      replace p11 := eq_true p11
      replace q11 := eq_true q11
      have p13 : 0 ≤ (x4_2 : Int) := ode_
      have q13 : x4_2 < (a0.size : Int) := ode_
      have hx13 := bt_at a0 x4_2
      replace p13 := eq_true p13
      replace q13 := eq_true q13
      go_wp2
      go_ret
      exact ⟨z14_3_, z14_4_⟩
     rw [if_neg c14] at H
     have c14b0 : decide (57 < (bt a0 x4_2)) = false := decide_eq_false c14
     clear c14
     have H' := Aside0.mk H
     clear H
     have p11 : 0 ≤ (x4_2 : Int) := ode_
     have q11 : x4_2 < (a0.size : Int) := ode_
     have hx11 := bt_at a0 x4_2
     replace p11 := eq_true p11
     replace q11 := eq_true q11
     have p13 : 0 ≤ (x4_2 : Int) := ode_
     have q13 : x4_2 < (a0.size : Int) := ode_
     have hx13 := bt_at a0 x4_2
     replace p13 := eq_true p13
     replace q13 := eq_true q13
     have p15 : 0 ≤ (x4_2 : Int) := ode_
     have q15 : x4_2 < (a0.size : Int) := ode_
     have hx15 := bt_at a0 x4_2
     replace p15 := eq_true p15
     replace q15 := eq_true q15
     go_wp2
     go_roundg k2
     case measure => have := HJ1.out; have := HK2.out; omega
     case rel => exact ⟨(wrap64 ((wrap64 (10 * x3_2)) + (((bt a0 x4_2) - 48) % 256))), (wrap64 (x4_2 + 1)), z14_3_, z14_3_, H', ⟨by have := HJ1.out; have := HK2.out; omega⟩, z14_4_⟩

/-! ### spec_loRead: function 80 -/
theorem spec_loRead.calls (k : Nat) (a0 : ByteArray) (r : Int) (w : World) (h : spec_loRead.f k a0 = some r) :
 Calls Tryz.prog 80 #[.string a0] w fun e w' => e = .returned (.int .i64 r) ∧ Below w.heap.size w w' := by
 have HB := Aside0.mk (Below.refl w.heap.size w)
 have H : ((spec_l1Read.f k a0).bind fun t453 => (if (a0.size : Int) > 1 then (if 0 < (a0.size : Int) then (spec_loRead.j0 k a0 t453 ((bt a0 0) == 45)) else (none)) else (spec_loRead.j0 k a0 t453 false))) = some r := h
 clear h
 replace H := ob_ H; obtain ⟨t453, A2, H⟩ := H; try dsimp only at H
 have HC3 := Aside0.mk H
 clear H
 go_enter Tryz.func80, Tryz.ntmps80
 go_upto_region 2 with (first | ((with_reducible refine gC_ 99 ?_); refine gM_ (some 5) Tryz.func99 #[.string a0] ?_; (with_reducible refine (spec_l1Read.calls k a0 t453 _ A2.out).mono ?_); rintro e w' ⟨rfl, ⟨nd, rfl⟩⟩; refine ⟨_, rfl, ?_⟩))
 (try simp only [Act.put, List.setIfInBounds_toArray, List.set_cons_zero, List.set_cons_succ])
 go_cut [13] (fun v13 wc => ∃ (kq : Nat) (x13_2 : Bool), v13 = .bool x13_2 ∧ Aside0 (spec_loRead.j0 kq a0 t453 x13_2 = some r) ∧ Aside0 (kq ≤ k) ∧ Aside0 (Below w.heap.size w wc))
 case first =>
  have H := HC3.out
  clear HC3
  by_cases c4 : (a0.size : Int) > 1
  rotate_left
  ·rw [if_neg c4] at H
   have c4b0 : decide (1 < (a0.size : Int)) = false := decide_eq_false c4
   have c4b1 : decide (1 < a0.size) = false := decide_eq_false (by omega)
   clear c4
   (first | rw [c4b0] | (simp only [i64_w, i32_w]; rw [c4b0]) | skip)
   have H' := Aside0.mk H
   clear H
   go_wp2
   go_meet
   case rel => exact ⟨_, (false), z14_3_, H', ⟨oR_⟩, ⟨hB_⟩⟩
  rw [if_pos c4] at H
  have c4b0 : decide (1 < (a0.size : Int)) = true := decide_eq_true c4
  have c4b1 : decide (1 < a0.size) = true := decide_eq_true (by omega)
  clear c4
  (first | rw [c4b0] | (simp only [i64_w, i32_w]; rw [c4b0]) | skip)
  by_cases c5 : 0 < (a0.size : Int)
  rotate_left
  ·rw [if_neg c5] at H
   exact absurd H (by simp)
  rw [if_pos c5] at H
  have c5b0 : decide (0 < (a0.size : Int)) = true := decide_eq_true c5
  have c5b1 : decide (0 < a0.size) = true := decide_eq_true (by omega)
  clear c5
  have H' := Aside0.mk H
  clear H
  have p6 : 0 ≤ (0 : Int) := (by omega)
  have q6 : 0 < a0.size := z14_5_
  have hx6 : ∀ h : 0 < a0.size, ((a0[0]'h).toNat : Int) = bt a0 0 := bt_at a0 0
  clear p6
  have qi6 : (0 < (a0.size : Int)) = True := eq_true ode_
  replace q6 := eq_true q6
  go_wp2
  go_meet
  case rel => exact ⟨_, (((bt a0 0) == 45)), z14_3_, H', ⟨oR_⟩, ⟨hB_⟩⟩
 case rest =>
  clear HC3
  obtain ⟨kq, x13_2, rfl, HA, HJ2, HB⟩ := hcut
  cases kq with
  | zero => exact absurd HA.out (by simp [spec_loRead.j0])
  | succ kj2 =>
   have H := HA.out
   clear HA
   simp only [spec_loRead.j0] at H
   by_cases c7 : x13_2 = true
   rotate_left
   ·replace c7 := Bool.eq_false_iff.mpr c7
    subst c7
    replace H := in_ H (show ¬ (false = true) by decide)
    replace H := ob_ H; obtain ⟨t456, A14, H⟩ := H; try dsimp only at H
    have HC15 := Aside0.mk H
    clear H
    go_upto_if 21 with (first | ((with_reducible refine gC_ 77 ?_); refine gM_ (some 19) Tryz.func77 #[.int .i64 t453] ?_; (with_reducible refine (spec_l1Int.calls kj2 t453 t456 _ A14.out).mono ?_); rintro e w16 ⟨rfl, hb⟩; refine ⟨_, rfl, ?_⟩; replace HB := aM_ (below_step hB_ hb); (try clear hb)))
    (try simp only [Act.put, List.setIfInBounds_toArray, List.set_cons_zero, List.set_cons_succ])
    have H := HC15.out
    clear HC15
    by_cases c17 : t456.toList = a0.toList
    rotate_left
    ·rw [if_neg c17] at H
     have c17b0 : (t456.toList == a0.toList) = false := beq_eq_false_iff_ne.mpr c17
     have c17b1 : (t456.toList != a0.toList) = true := bne_iff_ne.mpr c17
     (first | rw [c17b0] | (simp only [i64_w, i32_w]; rw [c17b0]) | skip)
     obtain rfl := Option.some.inj H
     go_wp2
     go_ret
     exact ⟨rT_, hB_⟩
    rw [if_pos c17] at H
    have c17b0 : (t456.toList == a0.toList) = true := beq_iff_eq.mpr c17
    have c17b1 : (t456.toList != a0.toList) = false := bne_eq_false_iff_eq.mpr c17
    clear c17
    (first | rw [c17b0] | (simp only [i64_w, i32_w]; rw [c17b0]) | skip)
    obtain rfl := Option.some.inj H
    go_wp2
    go_ret
    exact ⟨rT_, hB_⟩
   subst c7
   replace H := ip_ H rfl
   replace H := it_ H; obtain ⟨c8b0, c8b1, H⟩ := H
   replace H := ob_ H; obtain ⟨t454, A9, H⟩ := H; try dsimp only at H
   replace H := ob_ H; obtain ⟨t455, A10, H⟩ := H; try dsimp only at H
   have HC11 := Aside0.mk H
   clear H
   go_upto_if 21 with (first | ((with_reducible refine gC_ 99 ?_); refine gM_ (some 16) Tryz.func99 #[.string (a0.extract 1 a0.size)] ?_; (with_reducible refine (spec_l1Read.calls kj2 (a0.extract 1 a0.size) t454 _ A9.out).mono ?_); rintro e w' ⟨rfl, ⟨nd, rfl⟩⟩; refine ⟨_, rfl, ?_⟩) | ((with_reducible refine gC_ 77 ?_); refine gM_ (some 19) Tryz.func77 #[.int .i64 (wrap64 (-t454))] ?_; (with_reducible refine (spec_l1Int.calls kj2 (wrap64 (-t454)) t455 _ A10.out).mono ?_); rintro e w12 ⟨rfl, hb⟩; refine ⟨_, rfl, ?_⟩; replace HB := aM_ (below_step hB_ hb); (try clear hb)))
   (try simp only [Act.put, List.setIfInBounds_toArray, List.set_cons_zero, List.set_cons_succ])
   have H := HC11.out
   clear HC11
   by_cases c13 : t455.toList = a0.toList
   rotate_left
   ·rw [if_neg c13] at H
    have c13b0 : (t455.toList == a0.toList) = false := beq_eq_false_iff_ne.mpr c13
    have c13b1 : (t455.toList != a0.toList) = true := bne_iff_ne.mpr c13
    (first | rw [c13b0] | (simp only [i64_w, i32_w]; rw [c13b0]) | skip)
    obtain rfl := Option.some.inj H
    go_wp2
    go_ret
    exact ⟨rT_, hB_⟩
   rw [if_pos c13] at H
   have c13b0 : (t455.toList == a0.toList) = true := beq_iff_eq.mpr c13
   have c13b1 : (t455.toList != a0.toList) = false := bne_eq_false_iff_eq.mpr c13
   clear c13
   (first | rw [c13b0] | (simp only [i64_w, i32_w]; rw [c13b0]) | skip)
   obtain rfl := Option.some.inj H
   go_wp2
   go_ret
   exact ⟨rT_, hB_⟩

end Go.Proofs.YtfkdlfbjkdkffaaGreatDoor.PFnPoints
