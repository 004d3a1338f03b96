/- Printed for this claim: functions of the program as Lean functions, and that the calls answer so. -/
import Derived.Test.YtfkdlfbjkdkffaaGreatDoorPFnPointsx0
import Derived.Test.YtfkdlfbjkdkffaaGreatDoorPFnPointsx2
import Derived.Test.YtfkdlfbjkdkffaaGreatDoorPFnPointsx6
import Derived.Test.YtfkdlfbjkdkffaaGreatDoorPFnPointsx8
import Derived.Test.YtfkdlfbjkdkffaaGreatDoorPFnPointsx10
import Derived.Test.YtfkdlfbjkdkffaaGreatDoorPFnPointsx11
import Derived.Test.YtfkdlfbjkdkffaaGreatDoorPFnPointsx12
import Derived.Test.YtfkdlfbjkdkffaaGreatDoorPFnPointsx14
import Derived.Test.YtfkdlfbjkdkffaaGreatDoorPFnPointsxD0
namespace Go.Proofs.YtfkdlfbjkdkffaaGreatDoor.PFnPoints
open Go.RowKit Go.Proofs.YtfkdlfbjkdkffaaGreatDoorW.PrintWords Go.Proofs.YtfkdlfbjkdkffaaGreatDoorW.PrintLast Go.Proofs.YtfkdlfbjkdkffaaGreatDoorW.PrintMore
theorem z13_0_ {p : Prop} (h : p := by repeat (first | (with_reducible first | exact HI0.out | apply IsS70.alloc | apply IsS70.drewN | apply IsS70.drew | apply IsS70.set_1 | apply IsS70.set_2) | exact HI0.out)) : p := h
theorem z13_1_ {p : Prop} (h : p := by repeat (first | (with_reducible first | exact HB.out | apply lA_ | apply lN_ | apply lD_ | refine below_set ?_ (IsS70.ge HI0.out)) | exact HB.out)) : p := h
theorem z13_2_ {p : Prop} (h : p := by repeat (first | (with_reducible first | exact HK.out | apply KeepBut.set_ | apply keep_drewN | apply keep_drew | apply keep_alloc) | exact HK.out)) : p := h
theorem z13_3_ {p : Prop} (h : p := by repeat (first | (with_reducible first | exact HI397.out | apply IsS70.alloc | apply IsS70.drewN | apply IsS70.drew | apply IsS70.set_1 | apply IsS70.set_2) | exact HI397.out)) : p := h
theorem z13_4_ {p : Prop} (h : p := by repeat (first | (with_reducible first | exact HB.out | apply lA_ | apply lN_ | apply lD_ | refine below_set ?_ (IsS70.ge HI397.out)) | exact HB.out)) : p := h
theorem z13_5_ {p : Prop} (h : p := by first | rfl | (simp; done) | (simp [*]; done)) : p := h
set_option maxHeartbeats 8000000
set_option maxRecDepth 100000
attribute [local go_sem] max2_int min2_int max_two min_two max_three min_three max_four min_four isSome_setCell   -- for this text's walks alone
set_option linter.unusedVariables false
set_option linter.unusedSimpArgs false

/-! ### impl_ParseLoci: function 36, by hand -/
section
attribute [local go_sem] Oper.semAt_some
set_option maxHeartbeats 4000000 in
theorem seq_closure13 (l bx b1 b2 n : Nat) (c : UInt8) (e : Nat) (he : e = 0 ∨ e = 1) (s : ByteArray) (hs : s.size ≤ 4611686018427387904) (J Jx : List ByteArray → World → Prop)
 (hJb : ∀ s W1 u, J s W1 → J s (W1.setCell ⟨bx, 0, none⟩ u)) (hJd : ∀ s W1 m, J s W1 → J s (W1.drewN m))
 (hIx : ∀ (s : ByteArray) (w : World), Calls Tryz.prog 119 #[.string s, .string ⟨#[c]⟩] w fun e w' => e = .returned (.int .i64 (Lib.indexByte s.data.toList c)) ∧ ∃ nd, w' = w.drewN nd)
 (hY : ∀ pre x W1, J pre W1 → (∃ t, (cutsAt e c s.data.toList).map mk_ = (pre ++ [x]) ++ t) → YieldAt Fence.wide (n - 1) Tryz.prog l #[.string x] W1 fun e W' => (e = .returned (.bool true) ∧ J (pre ++ [x]) W' ∧ KpB b1 bx b2 W1 W') ∨ (e = .returned (.bool false) ∧ Jx (pre ++ [x]) W'))
 (W : World) (hb1 : W.heap[b1]? = some (.cells #[.string ⟨#[c]⟩] 9 (0, 0))) (hbx : W.heap[bx]? = some (.cells #[.string s] 9 (0, 0))) (hb2 : W.heap[b2]? = some (.cells #[.int .i64 (e : Int)] 3 (0, 0))) (n1 : bx ≠ b1) (n2 : bx ≠ b2) (h0 : J [] W) :
 CallsIn Fence.wide n Tryz.prog 117 #[.func (.yield l) #[] #[], .pointer (some ⟨b1, 0, none⟩), .pointer (some ⟨bx, 0, none⟩), .pointer (some ⟨b2, 0, none⟩)] W fun e_ W' => (∃ v, e_ = .returned v) ∧
  ((∃ ys, ys = (cutsAt e c s.data.toList).map mk_ ∧ J ys W') ∨ (∃ pre, (∃ t, (cutsAt e c s.data.toList).map mk_ = pre ++ t) ∧ Jx pre W')) := by
 refine callsIn_of_wp Tryz.func117 rfl trivial ?_ rfl
 simp only [Tryz.ntmps117, List.size_toArray, List.length_cons, List.length_nil, Nat.reduceAdd, Nat.reduceSub, Array.replicate_succ, Array.replicate_zero, List.push_toArray, List.append_toArray, List.nil_append, List.cons_append]
 obtain ⟨c1, f1⟩ := one_cell hb1
 gi_wp2
 gi_loopw [7] (fun p wr => ∃ (pre : List ByteArray) (rest : ByteArray), (cutsAt e c s.data.toList).map mk_ = pre ++ (cutsAt e c rest.data.toList).map mk_ ∧ pre.length + rest.size ≤ s.size ∧ J pre wr ∧ wr.heap[b1]? = some (.cells #[.string ⟨#[c]⟩] 9 (0, 0)) ∧ wr.heap[bx]? = some (.cells #[.string rest] 9 (0, 0)) ∧ wr.heap[b2]? = some (.cells #[.int .i64 (e : Int)] 3 (0, 0)))
  (fun _ wr => match wr.cell? ⟨bx, 0, none⟩ with | some (.string t) => t.size | _ => 0)
 case atStart => exact ⟨[], s, by simp, by simp, h0, hb1, hbx, hb2⟩
 case round =>
  clear c1 f1
  obtain ⟨pre, rest, hcut, hlen, hJ, g1, gx, g2⟩ := hrel
  obtain ⟨c1, f1⟩ := one_cell g1
  obtain ⟨cx, fx⟩ := one_cell gx
  obtain ⟨c2, f2⟩ := one_cell g2
  by_cases hlt : Lib.indexByte rest.data.toList c < 0
  ·have hd := decide_eq_true hlt
   gi_wp2
   refine ⟨trivial, fun h_ => absurd h_ (by simp [Fence.wide]), ?_⟩
   gi_at_call 119
   refine CallsIn.mono (callsIn_wide.2 (hIx rest _)) ?_
   rintro e_ w' ⟨rfl, nd, rfl⟩
   have cx' : (wr.drewN nd).cell? ⟨bx, 0, none⟩ = some (.string rest) := cx
   obtain ⟨fn, tmps, assign, body, hy, hR⟩ := hY pre rest (wr.drewN nd) (hJd _ _ _ hJ) ⟨[], by rw [hcut, cutsAt_none e c _ hlt, List.map_cons, List.map_nil, mk_data, List.append_nil]⟩
   gi_wp2
   refine ⟨fun h_ => absurd h_ (by simp [Fence.wide]), hR.mono ?_⟩
   have hall : (cutsAt e c s.data.toList).map mk_ = pre ++ [rest] := by rw [hcut, cutsAt_none e c _ hlt, List.map_cons, List.map_nil, mk_data]
   rintro e_ W3 (⟨rfl, hJ3, hk3⟩ | ⟨rfl, hJx3⟩)
   ·gi_wp2
    go_end0
    exact ⟨⟨_, rfl⟩, .inl ⟨_, rfl, by rw [hall]; exact hJ3⟩⟩
   ·gi_wp2
    go_end0
    exact ⟨⟨_, rfl⟩, .inr ⟨_, ⟨[], by rw [hall, List.append_nil]⟩, hJx3⟩⟩
  have hd := decide_eq_false hlt
  have hge := Lib.indexByte_ge rest.data.toList c
  obtain ⟨k, hk⟩ : ∃ k : Nat, Lib.indexByte rest.data.toList c = k := ⟨(Lib.indexByte rest.data.toList c).toNat, by omega⟩
  obtain ⟨hc1, hc2⟩ := cutsAt_some e c _ k hk
  have hkl : k < rest.size := by
   have := (List.getElem?_eq_some_iff.1 hc2).1
   have e1 : rest.data.toList.length = rest.size := by rw [Array.length_toList]; rfl
   omega
  obtain ⟨frag, hfrag⟩ : ∃ f, f = rest.extract 0 (k + e) := ⟨_, rfl⟩
  obtain ⟨rest2, hrest2⟩ : ∃ f, f = rest.extract (k + 1) rest.size := ⟨_, rfl⟩
  have hcut2 : (cutsAt e c s.data.toList).map mk_ = (pre ++ [frag]) ++ (cutsAt e c rest2.data.toList).map mk_ := by
   rw [hcut, hc1, List.map_cons, List.append_assoc, List.singleton_append, hfrag, hrest2]
   congr 2
   ·exact (frag_of rest c k e hc2 he).symm
   ·rw [rest_of rest k]
  have hsz2 : rest2.size + k + 1 = rest.size := by rw [hrest2, ByteArray.size_extract]; omega
  gi_wp2
  refine ⟨trivial, fun h_ => absurd h_ (by simp [Fence.wide]), ?_⟩
  gi_at_call 119
  refine CallsIn.mono (callsIn_wide.2 (hIx rest _)) ?_
  rintro e_ w' ⟨rfl, nd, rfl⟩
  rw [hk] at hd hlt ⊢
  have cx' : (wr.drewN nd).cell? ⟨bx, 0, none⟩ = some (.string rest) := cx
  have c2' : (wr.drewN nd).cell? ⟨b2, 0, none⟩ = some (.int .i64 (e : Int)) := c2
  have hw1 : wrap64 ((k : Int) + (e : Int)) = ((k + e : Nat) : Int) := by unfold wrap64; omega
  subst hfrag
  obtain ⟨fn, tmps, assign, body, hy, hR⟩ := hY pre (rest.extract 0 (k + e)) (wr.drewN nd) (hJd _ _ _ hJ) ⟨_, hcut2⟩
  gi_wp2
  refine ⟨fun h_ => absurd h_ (by simp [Fence.wide]), hR.mono ?_⟩
  clear hy hR
  rintro e_ W3 (⟨rfl, hJ3, hk3⟩ | ⟨rfl, hJx3⟩)
  ·have g1' := hk3.1.trans g1
   have gx' := hk3.2.1.trans gx
   have g2' := hk3.2.2.trans g2
   have hm0 := Aside0.mk cx
   clear c1 cx c2 f1 fx f2 cx' c2' g1 gx g2
   obtain ⟨c1, f1⟩ := one_cell g1'
   obtain ⟨cx, fx⟩ := one_cell gx'
   have hw2 : wrap64 ((k : Int) + 1) = ((k + 1 : Nat) : Int) := by unfold wrap64; omega
   gi_wp2
   go_roundw
   case rel => exact ⟨_, rest2, hcut2, by rw [List.length_append, List.length_singleton]; omega, hJb _ _ _ hJ3, (Below.heap_setCell W3 ⟨bx, 0, none⟩ _ b1 (fun h => n1 h.symm)).trans g1', by rw [hrest2]; exact blk_set gx' 0 _, (Below.heap_setCell W3 ⟨bx, 0, none⟩ _ b2 (fun h => n2 h.symm)).trans g2'⟩
   case measure =>
    have e2 := (one_cell (blk_set gx' 0 (.string (rest.extract (k + 1) rest.size)))).1
    simp only [e2, hm0.out]
    rw [← hrest2]; omega
  ·gi_wp2
   refine bodyPost_ret (results_none rfl _ _ _) rfl ?_
   exact ⟨⟨_, rfl⟩, .inr ⟨_, ⟨_, hcut2⟩, hJx3⟩⟩
theorem seq_made13 (s : ByteArray) (w : World) : Calls Tryz.prog 74 #[.string s, .string ⟨#[59]⟩] w fun e w' =>
 e = .returned (.func (.func 117) #[] #[.pointer (some ⟨w.heap.size + 1, 0, none⟩), .pointer (some ⟨w.heap.size, 0, none⟩), .pointer (some ⟨w.heap.size + 2, 0, none⟩)]) ∧ w' = ((w.alloc (.cells #[.string s] 9)).alloc (.cells #[.string (⟨#[59]⟩ : ByteArray)] 9)).alloc (.cells #[.int .i64 1] 3) := by
 have h40 : ∀ w, Calls Tryz.prog 104 #[.string s, .string ⟨#[59]⟩, .int .i64 1] w fun e w' =>
  e = .returned (.func (.func 117) #[] #[.pointer (some ⟨w.heap.size + 1, 0, none⟩), .pointer (some ⟨w.heap.size, 0, none⟩), .pointer (some ⟨w.heap.size + 2, 0, none⟩)]) ∧ w' = ((w.alloc (.cells #[.string s] 9)).alloc (.cells #[.string (⟨#[59]⟩ : ByteArray)] 9)).alloc (.cells #[.int .i64 1] 3) := by
  intro w
  go_enter Tryz.func104, Tryz.ntmps104
  go_wp2
  go_ret
  exact ⟨rfl, rfl⟩
 go_enter Tryz.func74, Tryz.ntmps74
 go_wp2_with (first | ((with_reducible refine gate_callee (f := 104) rfl ?_); refine goesL_ (some 9) rfl rfl Tryz.func104 (by kernel_rfl) rfl #[.string s, .string ⟨#[59]⟩, .int .i64 1] rfl (by (try simp only [List.map_toArray, List.map_cons, List.map_nil]); first | done | rfl) ?_; (with_reducible refine (h40 _).mono ?_); rintro e w' ⟨rfl, rfl⟩; refine ⟨_, rfl, ?_⟩))
 go_ret
 exact ⟨rfl, rfl⟩
theorem infoL_ : (Tryz.prog.info? 58).map (fun i => (i.zero, i.size, i.bytes)) = some (some (.agg #[.string ⟨#[]⟩, .int .i64 0]), 2, 24) := by kernel_rfl
theorem idx_one13 (s : ByteArray) (c : UInt8) : strings_Index.f s ⟨#[c]⟩ = some (Lib.indexByte s.data.toList c) := rfl
theorem row_of {W : World} {base base' : Nat} {v : Value} {out : List S58} {inner : List Value} (ho : W.ownsRow base 58 2 v out.length inner) (hr : Reps (fun (x : S58) (c : List Value) => c = [.string x.f0, .int .i64 x.f1]) 2 out inner) (hb : base' ≤ base) : Kd.R k58 58 W base' (fun _ => True) v out :=
 ⟨fun _ _ => trivial, inner, owns_mono ho hb, hr.imp_ (fun p c hp => by rw [hp]; exact k58_mkM _ _ _ p)⟩
set_option maxHeartbeats 4000000 in
theorem impl_ParseLoci.calls (k : Nat) (a0 : ByteArray) (r1 : List S58) (r2 : Bool) (w : World) (hT_ : TabW Tryz.prog 1 w) (h : impl_ParseLoci.f k a0 = some (r1, r2)) :
 Calls Tryz.prog 36 #[.string a0] w fun e w' => ∃ v1_ : Value, e = .returned (.tuple #[v1_, .bool r2]) ∧ Kd.R k58 58 w' w.heap.size (fun _ => True) v1_ r1 ∧ Below w.heap.size w w' := by
 unfold impl_ParseLoci.f at h
 split at h
 case isFalse => cases h
 rename_i hsz
 obtain ⟨out0, hrun, h⟩ := Option.bind_eq_some_iff.mp h
 obtain ⟨t, hA, h⟩ := Option.bind_eq_some_iff.mp h
 obtain ⟨i0, hi, hz0, hz1, hz2⟩ := info_parts infoL_
 refine (callsIn_wide (n := 9)).1 ?_
 refine callsIn_of_wp_marks Tryz.func36 rfl trivial ?_ rfl
 simp only [Tryz.ntmps36, List.size_toArray, List.length_cons, List.length_nil, Nat.reduceAdd, Nat.reduceSub, Array.replicate_succ, Array.replicate_zero, List.push_toArray, List.append_toArray, List.nil_append, List.cons_append]
 gi_wp2
 refine ⟨trivial, ?_⟩
 gi_at_call 74
 have b0 := Boxed.new w 23 (.slice none 0 0)
 have hB3 := below_alloc (Below.refl w.heap.size w) (.cells #[.slice none 0 0] 23)
 have hz3 := World.size_alloc w (.cells #[.slice none 0 0] 23)
 generalize w.alloc (.cells #[.slice none 0 0] 23) = w3 at b0 hB3 hz3 ⊢
 refine CallsIn.mono (callsIn_wide.2 (seq_made13 a0 _)) ?_
 rintro e3 w4 ⟨rfl, hw4⟩
 have px := ((Boxed.new w3 9 (.string a0)).alloc (.cells #[.string (⟨#[59]⟩ : ByteArray)] 9)).alloc (.cells #[.int .i64 1] 3)
 have p1 := (Boxed.new (w3.alloc (.cells #[.string a0] 9)) 9 (.string (⟨#[59]⟩ : ByteArray))).alloc (.cells #[.int .i64 1] 3)
 have p2 := Boxed.new ((w3.alloc (.cells #[.string a0] 9)).alloc (.cells #[.string (⟨#[59]⟩ : ByteArray)] 9)) 3 (.int .i64 1)
 replace b0 := ((b0.alloc (.cells #[.string a0] 9)).alloc (.cells #[.string (⟨#[59]⟩ : ByteArray)] 9)).alloc (.cells #[.int .i64 1] 3)
 have hB4 := below_alloc (below_alloc (below_alloc hB3 (.cells #[.string a0] 9)) (.cells #[.string (⟨#[59]⟩ : ByteArray)] 9)) (.cells #[.int .i64 1] 3)
 have hz4 : w4.heap.size = w3.heap.size + 3 := by rw [hw4]; simp only [World.size_alloc]
 simp only [World.size_alloc] at p1 p2
 rw [← hw4] at px p1 p2 b0 hB4
 clear hw4 hB3
 obtain ⟨all, hall⟩ : ∃ A, A = (cutsAt 1 59 a0.data.toList).map mk_ := ⟨_, rfl⟩
 replace hrun : impl_ParseLoci.run all [] = some out0 := by rw [hall]; exact hrun
 have HZ := Aside0.mk (And.intro hz3 hz4)
 clear hz3 hz4
 gi_wp2
 obtain ⟨hz3, hz4⟩ := HZ.out
 clear HZ
 refine wpIn_rangeFunc_box rfl (by omega) (gf := 117) (lb := #[.pointer (some ⟨w3.heap.size + 1, 0, none⟩), .pointer (some ⟨w3.heap.size, 0, none⟩), .pointer (some ⟨w3.heap.size + 2, 0, none⟩)]) rfl trivial (enters_of Tryz.func117 (by kernel_rfl) rfl)
  (encs := fun x : ByteArray => #[.string x]) (Kp := KpB (w3.heap.size + 1) w3.heap.size (w3.heap.size + 2)) (S := fun xs => xs = all) (Sp := fun pre => ∃ t, all = pre ++ t) (all := all) (w0 := w4) (bx := w3.heap.size) (by omega)
  ?seq (fun h k => ⟨k.1.trans h.1, k.2.1.trans h.2.1, k.2.2.trans h.2.2⟩) (fun W l o o' hl _ _ _ => ⟨World.putObj_heap_other (by omega), World.putObj_heap_other (by omega), World.putObj_heap_other (by omega)⟩) (Below.refl _ _) (fun _ => rfl)
  (fun pre W => (∃ (rest : List ByteArray) (out : List S58) (v : Value) (inner : List Value), w4.heap.size ≤ W.heap.size ∧ all = pre ++ rest ∧ impl_ParseLoci.run rest out = some out0 ∧ out.length ≤ 9 ∧ Boxed W w.heap.size 23 v ∧ W.ownsRow w4.heap.size 58 2 v out.length inner ∧ Reps (fun (x : S58) (c : List Value) => c = [.string x.f0, .int .i64 x.f1]) 2 out inner) ∧ Below w.heap.size w W)
  (fun _ _ _ => False)
  ?hI (fun _ _ _ _ _ hs _ _ => hs) ?hIb (fun _ _ _ _ hs => hs) ?hId (fun _ _ _ _ hs => hs) ⟨⟨all, [], _, [], Nat.le_refl _, rfl, hrun, by simp, b0, World.ownsRow_nil _ _ _ _, Reps.none _ _⟩, hB4⟩
  (fun x => { tmps := #[.string a0, undef, .slice none 0 0, .bool false, .pointer (some ⟨w.heap.size, 0, none⟩), .string x, undef, undef, undef, undef, undef, .string a0, .func (.func 117) #[] #[.pointer (some ⟨w3.heap.size + 1, 0, none⟩), .pointer (some ⟨w3.heap.size, 0, none⟩), .pointer (some ⟨w3.heap.size + 2, 0, none⟩)], .string x, undef, undef, undef, undef, undef, undef, undef, undef, undef, undef, undef, undef, undef, undef, undef, undef, undef, undef, undef, undef, undef, undef, undef, undef, undef, undef, undef, undef, undef, undef, undef, undef, undef, undef, undef], defers := [] }) ?assign ?body ?done ?stop
 case seq =>
  intro l J Jx W hW hJ hJx hJb hJxb hJd hJxd hY h0
  subst hall
  exact seq_closure13 l w3.heap.size (w3.heap.size + 1) (w3.heap.size + 2) 8 59 1 (.inr rfl) a0 (by omega) J Jx hJb hJd (fun s w => (strings_Index.calls s ⟨#[59]⟩ _ w (idx_one13 s 59)).mono fun _ _ ⟨h1, h2⟩ => ⟨h1, drawn_ h2⟩) hY W (boxed_below p1 hW) (boxed_below px hW) (boxed_below p2 hW) (by omega) (by omega) h0
 case hI =>
  rintro s W W' row ⟨⟨rest, out, v, inner, hN, h1, h2, h3, q0, q4, q5⟩, hB⟩ hg hr
  have hne : ∀ B, B < w4.heap.size → some B ≠ row := fun B hB e => by have := (hr _ e.symm).1; omega
  exact ⟨⟨rest, out, v, inner, Nat.le_trans hN hg.size, h1, h2, h3, q0.kept hg (hne _ (by omega)), owns_kept q4 hg (fun r e => (hr r e).2), q5⟩, ownFrom_below (w₀ := w) (Nat.le_refl _) (by omega) s W W' row hB hg hr⟩
 case hIb =>
  rintro s W u ⟨⟨rest, out, v, inner, hN, h1, h2, h3, q0, q4, q5⟩, hB⟩
  exact ⟨⟨rest, out, v, inner, by rw [World.size_setCell]; exact hN, h1, h2, h3, boxed_far q0 (by omega) u, owns_far q4 (by omega) u, q5⟩, below_set hB (by show w.heap.size ≤ w3.heap.size; omega)⟩
 case hId =>
  rintro s W m ⟨⟨rest, out, v, inner, hN, h1, h2, h3, q0, q4, q5⟩, hB⟩
  exact ⟨⟨rest, out, v, inner, hN, h1, h2, h3, q0, q4, q5⟩, pw_below_drewN hB m⟩
 case assign =>
  intro l x W K hK
  clear hz3 hz4
  gi_wp2
  exact hK
 case body =>
  rintro l pre x W ⟨⟨rest, out, v, inner, hN, h1, h2, h3, q0, q4, q5⟩, hB⟩ ⟨tl, htl⟩
  obtain rfl : rest = x :: tl := by
   rw [h1, List.append_assoc] at htl
   exact List.append_cancel_left htl
  have hall' : all = (pre ++ [x]) ++ tl := htl
  have HZ := Aside0.mk (And.intro hz3 hz4)
  clear hz3 hz4
  simp only [impl_ParseLoci.run] at h2
  obtain ⟨o1, hone, h2⟩ := Option.bind_eq_some_iff.mp h2
  unfold impl_ParseLoci.one at hone
  obtain ⟨Av, cv, rfl⟩ := owns_slice q4
  have d0 := q0.cell
  by_cases cx : x.toList = []
  ·rw [if_pos cx] at hone
   obtain rfl := Option.some.inj hone
   have cxb : (x.toList == ([] : List UInt8)) = true := beq_iff_eq.mpr cx
   gi_wp2
   exact ⟨KeepsOthers.refl _, ⟨rfl, rfl, rfl⟩, ⟨hN, tl, hall.symm.trans hall', out, h2, h3, _, q0, inner, q4, q5⟩, hB⟩
  rw [if_neg cx] at hone
  have cxb : (x.toList == ([] : List UInt8)) = false := beq_eq_false_iff_ne.mpr cx
  by_cases c8 : 8 < out.length
  ·rw [if_pos c8] at hone
   obtain rfl := Option.some.inj hone
   have c8b : decide ((8 : Int) < (out.length : Int)) = true := decide_eq_true (by omega)
   have c8c : decide (8 < out.length) = true := decide_eq_true c8
   gi_wp2
   exact ⟨KeepsOthers.refl _, ⟨rfl, rfl, rfl⟩, ⟨hN, tl, hall.symm.trans hall', out, h2, h3, _, q0, inner, q4, q5⟩, hB⟩
  rw [if_neg c8] at hone
  have c8b : decide ((8 : Int) < (out.length : Int)) = false := decide_eq_false (by omega)
  have c8c : decide (8 < out.length) = false := decide_eq_false c8
  obtain ⟨y, hy, hone⟩ := Option.bind_eq_some_iff.mp hone
  obtain ⟨⟨who, at_, fnd⟩, hc, hone⟩ := Option.bind_eq_some_iff.mp hone
  obtain ⟨⟨ang, ok⟩, hd, hone⟩ := Option.bind_eq_some_iff.mp hone
  dsimp only at hd hone
  obtain rfl := Option.some.inj hone
  gi_wp2
  refine ⟨trivial, ?_⟩
  gi_at_call 75
  refine CallsIn.mono (CallsIn.inRound l (callsIn_wide.2 (strings_TrimSuffix.calls x ⟨#[59]⟩ y _ hy))) ?_
  rintro e5 w5 ⟨rfl, ⟨nd, rfl⟩⟩
  gi_wp2
  refine ⟨trivial, ?_⟩
  gi_at_call 61
  refine CallsIn.mono (CallsIn.inRound l (callsIn_wide.2 (strings_Cut.calls y ⟨#[64]⟩ who at_ fnd _ hc))) ?_
  rintro e6 w6 ⟨rfl, ⟨nd2, rfl⟩⟩
  have hB6 := pw_below_drewN (pw_below_drewN hB nd) nd2
  have kp6 : KpB (w3.heap.size + 1) w3.heap.size (w3.heap.size + 2) W ((W.drewN nd).drewN nd2) := ⟨rfl, rfl, rfl⟩
  have ko6 : KeepsOthers W ((W.drewN nd).drewN nd2) := ⟨Nat.le_refl _, fun _ _ h _ => h⟩
  replace q0 : Boxed ((W.drewN nd).drewN nd2) w.heap.size 23 (.slice Av out.length cv) := q0
  replace q4 : ((W.drewN nd).drewN nd2).ownsRow w4.heap.size 58 2 (.slice Av out.length cv) out.length inner := q4
  have hN6 : w4.heap.size ≤ ((W.drewN nd).drewN nd2).heap.size := hN
  clear d0
  generalize (W.drewN nd).drewN nd2 = w6 at q0 q4 hB6 kp6 ko6 hN6 ⊢
  gi_wp2
  refine ⟨trivial, ?_⟩
  gi_at_call 62
  refine CallsIn.mono (CallsIn.inRound l (callsIn_wide.2 (impl_decimal.calls at_ ang ok _ (TabW.below hT_ hB6) hd))) ?_
  rintro e7 w7 ⟨rfl, hb⟩
  obtain ⟨hz3, hz4⟩ := HZ.out
  have hB7 := below_step hB6 hb
  have ko7 := ko6.trans (ko_below hb)
  have kp7 := kp_trans kp6 (kp_below (b1 := w3.heap.size + 1) (bx := w3.heap.size) (b2 := w3.heap.size + 2) hb (by omega) (by omega) (by omega))
  have hN7 := Nat.le_trans hN6 hb.size
  replace q0 := boxed_below q0 hb
  replace q4 := owns_below q4 hb
  clear hb ko6 kp6 hB6 hN6 hz3 hz4
  have d3 := q0.cell
  gi_wp2_with (gi_at_builtin; refine wpListIn_append_own _ rfl _ _ 23 rfl w4.heap.size 58 i0 (.agg #[.string ⟨#[]⟩, .int .i64 0]) 2 24 Tryz.underlying23 hi hz0 hz1 hz2 rfl (by decide) _ _ _ rfl (q4.alloc _) ⟨w7.heap.size, 0, none⟩ 1 1 [.string who, .int .i64 ang] rfl rfl (World.news_of_block (World.alloc_heap_new w7 (.cells #[.string who, .int .i64 ang] 58))) (by simp [Value.oneCell']) (by simp only [maxLen]; omega) (by omega) (by rw [World.size_alloc]; omega) ?_; intro v' w8 hown' hgrow _; obtain ⟨g', cap', rfl⟩ := ownsRow_succ hown'; have hfar : ∀ b, b < w4.heap.size → some b ≠ (Value.slice Av out.length cv).ownBlock := (fun b hb he => by have := own_base q4 b he.symm; omega); have a1_ := (q0.alloc (.cells #[.string who, .int .i64 ang] 58)).kept hgrow (hfar _ (by have := HZ.out; omega)); have d4 := a1_.cell; have g4 := a1_.frozen)
  obtain ⟨hz3, hz4⟩ := HZ.out
  obtain ⟨_, a2_, _, a4_, a5_⟩ := q0.appended (by decide) (owns_mono (base' := w.heap.size) q4 (by omega)) (by omega) (by omega) (owns_mono (base' := w.heap.size) hown' (by omega)) hgrow
  refine ⟨ko7.trans a4_, kp_grown kp7 hgrow (by omega) (by omega) (by omega) (hfar _ (by omega)) (hfar _ (by omega)) (hfar _ (by omega)) (by omega) (by omega) (by omega) _, ⟨tl, out ++ [⟨who, ang⟩], .slice (some ⟨g', 0, none⟩) (out.length + 1) cap', inner ++ [.string who, .int .i64 ang], ?_, hall', h2, by rw [List.length_append, List.length_singleton]; omega, a2_, ?_, ?_⟩, hB7.trans a5_⟩
  ·exact Nat.le_trans hN7 a4_.size
  ·rw [List.length_append, List.length_singleton]
   exact hown'.kept (grownBy_setCell' w8 w.heap.size _) (.inr (a1_.not_row (by decide) hown').symm)
  ·exact q5.snoc rfl rfl
 case done =>
  rintro D xs W hD rfl ⟨⟨rest, out, v, inner, hN, h1, h2, h3, q0, q4, q5⟩, hB⟩ hK
  obtain rfl : rest = [] := by simpa using h1
  simp only [impl_ParseLoci.run, Option.some.injEq] at h2
  subst h2
  obtain ⟨Av, cv, rfl⟩ := owns_slice q4
  have hR := row_of q4 q5 (Nat.le_refl _)
  have hcr := Kd.R_reads' hR
  have d0 := q0.cell
  have hDl := (Array.getElem?_eq_some_iff.1 hK).1
  gi_wp2
  refine ⟨trivial, ?_⟩
  gi_at_call 33
  refine CallsIn.mono (callsIn_wide.2 (impl_AreLoci.calls k _ _ out t _ hcr.2.2 hcr.2.1 hA)) ?_
  rintro e5 w5 ⟨rfl, hb⟩
  have hB5 := below_step hB hb
  have hK5 := (hb.block D hDl).trans hK
  have q6 := owns_below q4 hb
  replace q0 := boxed_below q0 hb
  have hs5 := hb.size
  clear hb d0
  have d0 := q0.cell
  have HZ := Aside0.mk (And.intro hz3 hz4)
  clear hz3 hz4
  cases t with
  | false =>
   rw [if_neg (by decide)] at h
   simp only [Option.some.injEq, Prod.mk.injEq] at h
   obtain ⟨rfl, rfl⟩ := h
   gi_wp2
   refine ⟨trivial, ?_⟩
   gi_wp2
   obtain ⟨hz3, hz4⟩ := HZ.out
   refine ⟨by simp, .inl ⟨_, _, rfl, run_takeDeferred hK5, ?_⟩⟩
   exact ⟨_, results_tmp2 rfl _ _ _, _, rfl, Kd.R_nil _ _ _ _ _, hB5.trans (belowK_b (w := w) (Nat.le_refl _) _ D _ _ (by omega) hK5 rfl rfl)⟩
  | true =>
   rw [if_pos rfl] at h
   obtain ⟨s, hs, h⟩ := Option.bind_eq_some_iff.mp h
   have hR6 := row_of q6 q5 (Nat.le_refl _)
   have hcr6 := Kd.R_reads' hR6
   gi_wp2
   refine ⟨trivial, ?_⟩
   gi_at_call 70
   refine CallsIn.mono (callsIn_wide.2 (impl_lociText.calls k _ _ out s _ (TabW.weak (a := 1) (TabW.below hT_ hB5) (by decide)) hcr6.2.2 hcr6.2.1 hs)) ?_
   rintro e6 w6 ⟨rfl, hb⟩
   have hB6 := below_step hB5 hb
   have hK6 := (hb.block D (Nat.lt_of_lt_of_le hDl hs5)).trans hK5
   have q7 := owns_below q6 hb
   replace q0 := boxed_below q0 hb
   clear hb d0
   have d0 := q0.cell
   by_cases cs : s.toList = a0.toList
   rotate_left
   ·rw [if_neg cs] at h
    simp only [Option.some.injEq, Prod.mk.injEq] at h
    obtain ⟨rfl, rfl⟩ := h
    have cs0 : (s.toList == a0.toList) = false := beq_eq_false_iff_ne.mpr cs
    have cs1 : (s.toList != a0.toList) = true := bne_iff_ne.mpr cs
    gi_wp2
    obtain ⟨hz3, hz4⟩ := HZ.out
    refine ⟨by simp, .inl ⟨_, _, rfl, run_takeDeferred hK6, ?_⟩⟩
    exact ⟨_, results_tmp2 rfl _ _ _, _, rfl, Kd.R_nil _ _ _ _ _, hB6.trans (belowK_b (w := w) (Nat.le_refl _) _ D _ _ (by omega) hK6 rfl rfl)⟩
   rw [if_pos cs] at h
   simp only [Option.some.injEq, Prod.mk.injEq] at h
   obtain ⟨rfl, rfl⟩ := h
   have cs0 : (s.toList == a0.toList) = true := beq_iff_eq.mpr cs
   have cs1 : (s.toList != a0.toList) = false := bne_eq_false_iff_eq.mpr cs
   gi_wp2
   obtain ⟨hz3, hz4⟩ := HZ.out
   refine ⟨by simp, .inl ⟨_, _, rfl, run_takeDeferred hK6, ?_⟩⟩
   exact ⟨_, results_tmp2 rfl _ _ _, _, rfl, row_of (ownsRow_putObj q7 _ hK6 rfl) q5 (by omega), hB6.trans (belowK_b (w := w) (Nat.le_refl _) _ D _ _ (by omega) hK6 rfl rfl)⟩
 case stop =>
  rintro D c pre W _ _ h _
  exact h.elim
end

/-! ### spec_l1Cur_one: function 76 -/
theorem spec_l1Cur_one.calls (g : Nat) (s0_0 : List Int) (s0_1 : Int) (s0_2 : Int) (a1 : Int) (r1 : Bool) (r2 : Int) (r3 : Int) (w0 w : World) (hI : IsS70 w0 w g s0_0 s0_1 s0_2) (hB : Below w0.heap.size w0 w) (h : spec_l1Cur_one.f s0_0 s0_1 s0_2 a1 = some (r1, r2, r3)) :
 Calls Tryz.prog 76 #[.pointer (some ⟨g, 0, none⟩), .int .i64 a1] w fun e w' => e = .returned (.bool r1) ∧ IsS70 w0 w' g s0_0 r2 r3 ∧ Below w0.heap.size w0 w' ∧ KeepBut w w' g none := by
 have HI0 := Aside0.mk hI
 have HK := Aside0.mk (KeepBut.refl w g none)
 have HL := Aside0.mk hB.size
 clear hI
 have HW0 := Aside0.mk hB.size
 have HB := Aside0.mk hB
 clear hB
 have H : ((spec_l1Cur_pick.f s0_0 s0_1 s0_2 a1).bind fun bt394 => (some ((bt394.1 == 0), bt394.2.1, bt394.2.2))) = some (r1, r2, r3) := h
 clear h
 replace H := ob_ H; obtain ⟨⟨t394, t395, t396⟩, A3, H⟩ := H; try dsimp only at H
 simp only [Option.some.injEq, Prod.mk.injEq] at H
 obtain ⟨rfl, rfl, rfl⟩ := H
 go_enter Tryz.func76, Tryz.ntmps76
 go_wp2_with (first | ((with_reducible refine gC_ 59 ?_); refine gM_ (some 7) Tryz.func59 #[.pointer (some ⟨g, 0, none⟩), .int .i64 a1] ?_; (with_reducible refine (spec_l1Cur_pick.calls g s0_0 s0_1 s0_2 a1 t394 t395 t396 w0 _ ?side1 ?side2 A3.out).mono ?_); (case side1 => exact z13_0_); (case side2 => exact z13_1_); rintro e w4 ⟨rfl, hi, hb, hk⟩; refine ⟨_, rfl, ?_⟩; replace HK := aM_ (KeepBut.trans z13_2_ hk (.inl rfl)); replace HB := aM_ (hb); replace HI0 := aM_ (hi); (try clear hb); (try clear hk); (try clear hi)))
 go_ret
 exact ⟨rT_, z13_0_, z13_1_, z13_2_⟩

/-! ### spec_DrawRunPoints: function 37 -/
theorem spec_DrawRunPoints.calls (k : Nat) (A0 : Option Addr) (c0 : Nat) (l0 : List Int) (r1 : List (S58)) (r2 : ByteArray) (w : World) (hr0 : Kd.C (Kd.int .u8) w A0 l0.length l0) (hc0 : l0.length ≤ c0) (h : spec_DrawRunPoints.f k l0 = some (r1, r2)) :
 Calls Tryz.prog 37 #[.slice A0 l0.length c0] w fun e w' => ∃ v0_ : Value, e = .returned (.tuple #[v0_, .string r2]) ∧ Kd.R k58 58 w' w.heap.size (fun _ => True) v0_ r1 ∧ Below w.heap.size w w' := by
 have hu70 := Tryz.underlying70
 have HR0 := Aside0.mk hr0
 have HC0 := Aside0.mk hc0
 clear hr0 hc0
 have HB := Aside0.mk (Below.refl w.heap.size w)
 have H : ((spec_l1Cur_pick.f l0 0 0 5).bind fun bt398 => ((spec_l1Cur_one.f l0 bt398.2.1 bt398.2.2 12).bind fun bt401 => (if bt401.1 = true then ((spec_l1Cur_pick.f l0 bt401.2.1 bt401.2.2 2).bind fun bt404 => (spec_DrawRunPoints.j0 k (⟨#[]⟩ : ByteArray) (wrap64 (10 + bt404.1)) l0 bt404.2.1 bt404.2.2)) else (spec_DrawRunPoints.j0 k (⟨#[]⟩ : ByteArray) bt398.1 l0 bt401.2.1 bt401.2.2)))) = some (r1, r2) := h
 clear h
 replace H := ob_ H; obtain ⟨⟨t398, t399, t400⟩, A2, H⟩ := H; try dsimp only at H
 replace H := ob_ H; obtain ⟨⟨t401, t402, t403⟩, A3, H⟩ := H; try dsimp only at H
 have HC4 := Aside0.mk H
 clear H
 go_enter Tryz.func37, Tryz.ntmps37
 go_upto_if 14 with (first | ((with_reducible refine gate_dst (N := 10) rfl ?_); refine bx_ 10 #[.slice A0 l0.length c0, .int .i64 0, .int .u64 0] 70 fun gb397 hg w5 hbox hb => ?_; have HI397 := aM_ ((show IsS70 w w5 gb397 l0 0 0 from ⟨A0, c0, hbox, (by rw [hg]; exact (below_size hB_) : w.heap.size ≤ gb397), HR0.out⟩)); replace HB := aM_ (below_step hB_ hb); clear hb hbox hg) | ((with_reducible refine gC_ 59 ?_); refine gM_ (some 12) Tryz.func59 #[.pointer (some ⟨gb397, 0, none⟩), .int .i64 5] ?_; (with_reducible refine (spec_l1Cur_pick.calls gb397 l0 0 0 5 t398 t399 t400 w _ ?side1 ?side2 A2.out).mono ?_); (case side1 => exact z13_3_); (case side2 => exact z13_4_); rintro e w6 ⟨rfl, hi, hb, hk⟩; refine ⟨_, rfl, ?_⟩; replace HB := aM_ (hb); replace HI397 := aM_ (hi); (try clear hb); (try clear hk); (try clear hi)) | ((with_reducible refine gC_ 76 ?_); refine gM_ (some 14) Tryz.func76 #[.pointer (some ⟨gb397, 0, none⟩), .int .i64 12] ?_; (with_reducible refine (spec_l1Cur_one.calls gb397 l0 t399 t400 12 t401 t402 t403 w _ ?side1 ?side2 A3.out).mono ?_); (case side1 => exact z13_3_); (case side2 => exact z13_4_); rintro e w7 ⟨rfl, hi, hb, hk⟩; refine ⟨_, rfl, ?_⟩; replace HB := aM_ (hb); replace HI397 := aM_ (hi); (try clear hb); (try clear hk); (try clear hi)))
 (try simp only [Act.put, List.setIfInBounds_toArray, List.set_cons_zero, List.set_cons_succ])
 go_cut [6] (fun v6 wc => ∃ (kq : Nat) (x6_3 : Int) (x398001_3 : Int) (x398002_3 : Int), v6 = .int .i64 x6_3 ∧ Aside0 (spec_DrawRunPoints.j0 kq (⟨#[]⟩ : ByteArray) x6_3 l0 x398001_3 x398002_3 = some (r1, r2)) ∧ Aside0 (kq ≤ k) ∧ Aside0 (IsS70 w wc gb397 l0 x398001_3 x398002_3) ∧ Aside0 (Below w.heap.size w wc))
 case first =>
  have H := HC4.out
  clear HC4
  by_cases c8 : t401 = true
  rotate_left
  ·replace c8 := Bool.eq_false_iff.mpr c8
   subst c8
   replace H := in_ H (show ¬ (false = true) by decide)
   have H' := Aside0.mk H
   clear H
   go_wp2
   go_meet
   case rel => exact ⟨_, (t398), (t402), (t403), z13_5_, H', ⟨oR_⟩, ⟨z13_3_⟩, ⟨z13_4_⟩⟩
  subst c8
  replace H := ip_ H rfl
  replace H := ob_ H; obtain ⟨⟨t404, t405, t406⟩, A9, H⟩ := H; try dsimp only at H
  have H' := Aside0.mk H
  clear H
  go_wp2_with (first | ((with_reducible refine gC_ 59 ?_); refine gM_ (some 16) Tryz.func59 #[.pointer (some ⟨gb397, 0, none⟩), .int .i64 2] ?_; (with_reducible refine (spec_l1Cur_pick.calls gb397 l0 t402 t403 2 t404 t405 t406 w _ ?side1 ?side2 A9.out).mono ?_); (case side1 => exact z13_3_); (case side2 => exact z13_4_); rintro e w10 ⟨rfl, hi, hb, hk⟩; refine ⟨_, rfl, ?_⟩; replace HB := aM_ (hb); replace HI397 := aM_ (hi); (try clear hb); (try clear hk); (try clear hi)))
  go_meet
  case rel => exact ⟨_, (wrap64 (10 + t404)), (t405), (t406), z13_5_, H', ⟨oR_⟩, ⟨z13_3_⟩, ⟨z13_4_⟩⟩
 case rest =>
  clear HC4
  obtain ⟨kq, x6_3, x398001_3, x398002_3, rfl, HA, HJ3, HI397, HB⟩ := hcut
  cases kq with
  | zero => exact absurd HA.out (by simp [spec_DrawRunPoints.j0])
  | succ kj3 =>
   have H := HA.out
   clear HA
   simp only [spec_DrawRunPoints.j0] at H
   have H' := Aside0.mk H
   clear H
   go_wp2
   go_loopg [5, 7] kj3 (fun kq v5 v7 w' => ∃ (x5_2 : ByteArray) (x7_2 : Int) (x398001_2 : Int) (x398002_2 : Int), v5 = .string x5_2 ∧ v7 = .int .i64 x7_2 ∧ Aside0 (spec_DrawRunPoints.l0 kq x5_2 x6_3 x7_2 l0 x398001_2 x398002_2 = some (r1, r2)) ∧ Aside0 (kq ≤ kj3) ∧ Aside0 (IsS70 w w' gb397 l0 x398001_2 x398002_2) ∧ Aside0 (Below w.heap.size w w'))
   case atStart => exact ⟨((⟨#[]⟩ : ByteArray)), (0), (x398001_3), (x398002_3), z13_5_, z13_5_, H', ⟨Nat.le_refl _⟩, ⟨z13_3_⟩, ⟨z13_4_⟩⟩
   case round =>
    clear H'
    obtain ⟨x5_2, x7_2, x398001_2, x398002_2, rfl, rfl, HA, HK2, HI397, HB⟩ := hrel
    cases gk with
    | zero => exact absurd HA.out (by simp [spec_DrawRunPoints.l0])
    | succ k2 =>
     have H := HA.out
     clear HA
     simp only [spec_DrawRunPoints.l0] at H
     replace H := iF_ H; obtain ⟨c11b0, H⟩ | ⟨c11b0, H⟩ := H
     ·replace H := ob_ H; obtain ⟨⟨t427, t428, t429⟩, A34, H⟩ := H; try dsimp only at H
      have HC35 := Aside0.mk H
      clear H
      go_upto_if 37 with (first | ((with_reducible refine gC_ 76 ?_); refine gM_ (some 37) Tryz.func76 #[.pointer (some ⟨gb397, 0, none⟩), .int .i64 10] ?_; (with_reducible refine (spec_l1Cur_one.calls gb397 l0 x398001_2 x398002_2 10 t427 t428 t429 w _ ?side1 ?side2 A34.out).mono ?_); (case side1 => exact z13_3_); (case side2 => exact z13_4_); rintro e w36 ⟨rfl, hi, hb, hk⟩; refine ⟨_, rfl, ?_⟩; replace HB := aM_ (hb); replace HI397 := aM_ (hi); (try clear hb); (try clear hk); (try clear hi)))
      (try simp only [Act.put, List.setIfInBounds_toArray, List.set_cons_zero, List.set_cons_succ])
      have H := HC35.out
      clear HC35
      by_cases c37 : t427 = true
      rotate_left
      ·replace c37 := Bool.eq_false_iff.mpr c37
       subst c37
       replace H := in_ H (show ¬ (false = true) by decide)
       replace H := ob_ H; obtain ⟨⟨t441, t444, t445⟩, A45, H⟩ := H; try dsimp only at H
       simp only [Option.some.injEq, Prod.mk.injEq] at H
       obtain ⟨rfl, rfl⟩ := H
       go_wp2_with (first | ((with_reducible refine gC_ 43 ?_); refine gM_ (some 42) Tryz.func43 #[.pointer (some ⟨gb397, 0, none⟩)] ?_; (with_reducible refine (spec_l1Cur_loci.calls k2 gb397 l0 t428 t429 t441 t444 t445 w _ ?side1 ?side2 A45.out).mono ?_); (case side1 => exact z13_3_); (case side2 => exact z13_4_); rintro e w46 ⟨v442, rfl, ho0, hi, hb, hk⟩; refine ⟨_, rfl, ?_⟩; have HO443 := aM_ (Kd.R_lower ho0 (below_size z13_4_)); replace HB := aM_ (hb); replace HI397 := aM_ (hi); (try clear hb); (try clear hk); (try clear hi); (try clear ho0)))
       go_ret2
       exact ⟨_, rT_, by (with_reducible repeat (first | apply rA_ | apply rN_ | apply rD_)); exact HO443.out, z13_4_⟩
      subst c37
      replace H := ip_ H rfl
      obtain ⟨y430, hy430⟩ : ∃ y_ : List ByteArray, y_ = (([(⟨#[57, 49]⟩ : ByteArray), (⟨#[45, 57, 49]⟩ : ByteArray), (⟨#[45, 48]⟩ : ByteArray), (⟨#[48, 53]⟩ : ByteArray), (⟨#[32, 53]⟩ : ByteArray), (⟨#[53, 32]⟩ : ByteArray), (⟨#[53, 32, 32, 53]⟩ : ByteArray), (⟨#[120]⟩ : ByteArray), (⟨#[43, 53]⟩ : ByteArray)] : List ByteArray)) := ⟨_, rfl⟩
      rw [← hy430] at H
      have Ny430 := Aside0.mk hy430; clear hy430
      replace H := ob_ H; obtain ⟨⟨t433, t434, t435⟩, A38, H⟩ := H; try dsimp only at H
      replace H := ob_ H; obtain ⟨⟨t436, t439, t440⟩, A39, H⟩ := H; try dsimp only at H
      simp only [Option.some.injEq, Prod.mk.injEq] at H
      obtain ⟨rfl, rfl⟩ := H
      go_wp2_with (first | ((with_reducible refine gate_dst (N := 39) rfl ?_); refine rl_ Kd.string 9 39 ([(⟨#[57, 49]⟩ : ByteArray), (⟨#[45, 57, 49]⟩ : ByteArray), (⟨#[45, 48]⟩ : ByteArray), (⟨#[48, 53]⟩ : ByteArray), (⟨#[32, 53]⟩ : ByteArray), (⟨#[53, 32]⟩ : ByteArray), (⟨#[53, 32, 32, 53]⟩ : ByteArray), (⟨#[120]⟩ : ByteArray), (⟨#[43, 53]⟩ : ByteArray)] : List ByteArray) [.string (⟨#[57, 49]⟩ : ByteArray), .string (⟨#[45, 57, 49]⟩ : ByteArray), .string (⟨#[45, 48]⟩ : ByteArray), .string (⟨#[48, 53]⟩ : ByteArray), .string (⟨#[32, 53]⟩ : ByteArray), .string (⟨#[53, 32]⟩ : ByteArray), .string (⟨#[53, 32, 32, 53]⟩ : ByteArray), .string (⟨#[120]⟩ : ByteArray), .string (⟨#[43, 53]⟩ : ByteArray)] (Reps.one (show Kd.M Kd.string _ _ _ (⟨#[57, 49]⟩ : ByteArray) [.string (⟨#[57, 49]⟩ : ByteArray)] from rfl) (Reps.one (show Kd.M Kd.string _ _ _ (⟨#[45, 57, 49]⟩ : ByteArray) [.string (⟨#[45, 57, 49]⟩ : ByteArray)] from rfl) (Reps.one (show Kd.M Kd.string _ _ _ (⟨#[45, 48]⟩ : ByteArray) [.string (⟨#[45, 48]⟩ : ByteArray)] from rfl) (Reps.one (show Kd.M Kd.string _ _ _ (⟨#[48, 53]⟩ : ByteArray) [.string (⟨#[48, 53]⟩ : ByteArray)] from rfl) (Reps.one (show Kd.M Kd.string _ _ _ (⟨#[32, 53]⟩ : ByteArray) [.string (⟨#[32, 53]⟩ : ByteArray)] from rfl) (Reps.one (show Kd.M Kd.string _ _ _ (⟨#[53, 32]⟩ : ByteArray) [.string (⟨#[53, 32]⟩ : ByteArray)] from rfl) (Reps.one (show Kd.M Kd.string _ _ _ (⟨#[53, 32, 32, 53]⟩ : ByteArray) [.string (⟨#[53, 32, 32, 53]⟩ : ByteArray)] from rfl) (Reps.one (show Kd.M Kd.string _ _ _ (⟨#[120]⟩ : ByteArray) [.string (⟨#[120]⟩ : ByteArray)] from rfl) (Reps.one (show Kd.M Kd.string _ _ _ (⟨#[43, 53]⟩ : ByteArray) [.string (⟨#[43, 53]⟩ : ByteArray)] from rfl) (Reps.none _ _)))))))))) ?_; intro v431 w40 ho41 hb hg_ hnew_; clear hg_ hnew_; (first | rw [← Ny430.out] at ho41 | (simp only [Int.reduceToNat] at ho41; rw [← Ny430.out] at ho41)); have HO432 := aM_ (Kd.R_lower ho41 (below_size z13_4_)); replace HB := aM_ (below_step z13_4_ hb); replace HI397 := aM_ (IsS70.below z13_3_ hb); clear hb ho41; obtain ⟨Ao42, co42, eo42⟩ := Kd.R_slice HO432.out; subst eo42) | ((with_reducible refine gC_ 44 ?_); refine gM_ (some 40) Tryz.func44 #[.pointer (some ⟨gb397, 0, none⟩), .slice Ao42 y430.length co42] ?_; (with_reducible refine (spec_l1Cur_of.calls gb397 l0 t428 t429 _ _ y430 t433 t434 t435 w _ ?side1 ?side2 ?side3 ?side4 ?side5 A38.out).mono ?_); (case side1 => exact z13_3_); (case side2 => exact z13_4_); (case side3 => exact cR_ HO432); (case side4 => exact (Kd.R_reads' HO432.out).2.1); (case side5 => exact far_slice (IsS70.own_ne HI397.out HO432.out (by decide))); rintro e w43 ⟨rfl, hi, hb, hk⟩; refine ⟨_, rfl, ?_⟩; replace HO432 := aM_ (Kd.R_mono (Kd.R_keep (IsS70.apart (show IsS70 w _ gb397 l0 t428 t429 from by repeat (first | (with_reducible first | exact HI397.out | apply IsS70.alloc | apply IsS70.drewN | apply IsS70.drew | apply IsS70.set_1 | apply IsS70.set_2) | exact HI397.out)) (rR_ HO432) (by decide)) hk (fun _ h => h.2)) (fun _ h => h.1)); replace HB := aM_ (hb); replace HI397 := aM_ (hi); (try clear hb); (try clear hk); (try clear hi)) | ((with_reducible refine gC_ 43 ?_); refine gM_ (some 42) Tryz.func43 #[.pointer (some ⟨gb397, 0, none⟩)] ?_; (with_reducible refine (spec_l1Cur_loci.calls k2 gb397 l0 t434 t435 t436 t439 t440 w _ ?side1 ?side2 A39.out).mono ?_); (case side1 => exact z13_3_); (case side2 => exact z13_4_); rintro e w44 ⟨v437, rfl, ho0, hi, hb, hk⟩; refine ⟨_, rfl, ?_⟩; have HO438 := aM_ (Kd.R_lower ho0 (below_size z13_4_)); replace HO432 := aM_ (Kd.R_mono (Kd.R_keep (IsS70.apart (show IsS70 w _ gb397 l0 t434 t435 from by repeat (first | (with_reducible first | exact HI397.out | apply IsS70.alloc | apply IsS70.drewN | apply IsS70.drew | apply IsS70.set_1 | apply IsS70.set_2) | exact HI397.out)) (rR_ HO432) (by decide)) hk (fun _ h => h.2)) (fun _ h => h.1)); replace HB := aM_ (hb); replace HI397 := aM_ (hi); (try clear hb); (try clear hk); (try clear hi); (try clear ho0)))
      go_ret2
      exact ⟨_, rT_, by (with_reducible repeat (first | apply rA_ | apply rN_ | apply rD_)); exact HO438.out, z13_4_⟩
     by_cases c12 : x7_2 > 0
     rotate_left
     ·rw [if_neg c12] at H
      have c12b0 : decide (0 < x7_2) = false := decide_eq_false c12
      clear c12
      replace H := ob_ H; obtain ⟨⟨t417, t418, t419⟩, A24, H⟩ := H; try dsimp only at H
      obtain ⟨y420, hy420⟩ : ∃ y_ : List Int, y_ = (([0, (-40), 30, 25, 90, (-90), wrap64 (t417 - 90)] : List Int)) := ⟨_, rfl⟩
      rw [← hy420] at H
      have Ny420 := Aside0.mk hy420; clear hy420
      replace H := ob_ H; obtain ⟨⟨t423, t424, t425⟩, A25, H⟩ := H; try dsimp only at H
      replace H := ob_ H; obtain ⟨t426, A26, H⟩ := H; try dsimp only at H
      by_cases c27 : x5_2.size + t426.size ≤ 9223372036854775807
      rotate_left
      ·rw [if_neg c27] at H
       exact absurd H (by simp)
      rw [if_pos c27] at H
      have c27b0 := eq_true c27
      have c27b1 : decide (x5_2.size + t426.size ≤ 9223372036854775807) = true := decide_eq_true c27
      try have c27b2 : (9223372036854775807 < x5_2.size + t426.size) = False := eq_false (Nat.not_lt.2 c27)
      have H' := Aside0.mk H
      clear H
      go_wp2_with (first | ((with_reducible refine gC_ 59 ?_); refine gM_ (some 30) Tryz.func59 #[.pointer (some ⟨gb397, 0, none⟩), .int .i64 181] ?_; (with_reducible refine (spec_l1Cur_pick.calls gb397 l0 x398001_2 x398002_2 181 t417 t418 t419 w _ ?side1 ?side2 A24.out).mono ?_); (case side1 => exact z13_3_); (case side2 => exact z13_4_); rintro e w28 ⟨rfl, hi, hb, hk⟩; refine ⟨_, rfl, ?_⟩; replace HB := aM_ (hb); replace HI397 := aM_ (hi); (try clear hb); (try clear hk); (try clear hi)) | ((with_reducible refine gate_dst (N := 32) rfl ?_); refine rl_ (Kd.int .i64) 3 32 ([0, (-40), 30, 25, 90, (-90), wrap64 (t417 - 90)] : List Int) [.int .i64 0, .int .i64 (-40), .int .i64 30, .int .i64 25, .int .i64 90, .int .i64 (-90), .int .i64 (wrap64 (t417 - 90))] (Reps.one (show Kd.M (Kd.int .i64) _ _ _ 0 [.int .i64 0] from rfl) (Reps.one (show Kd.M (Kd.int .i64) _ _ _ (-40) [.int .i64 (-40)] from rfl) (Reps.one (show Kd.M (Kd.int .i64) _ _ _ 30 [.int .i64 30] from rfl) (Reps.one (show Kd.M (Kd.int .i64) _ _ _ 25 [.int .i64 25] from rfl) (Reps.one (show Kd.M (Kd.int .i64) _ _ _ 90 [.int .i64 90] from rfl) (Reps.one (show Kd.M (Kd.int .i64) _ _ _ (-90) [.int .i64 (-90)] from rfl) (Reps.one (show Kd.M (Kd.int .i64) _ _ _ (wrap64 (t417 - 90)) [.int .i64 (wrap64 (t417 - 90))] from rfl) (Reps.none _ _)))))))) ?_; intro v421 w29 ho30 hb hg_ hnew_; clear hg_ hnew_; (first | rw [← Ny420.out] at ho30 | (simp only [Int.reduceToNat] at ho30; rw [← Ny420.out] at ho30)); have HO422 := aM_ (Kd.R_lower ho30 (below_size z13_4_)); replace HB := aM_ (below_step z13_4_ hb); replace HI397 := aM_ (IsS70.below z13_3_ hb); clear hb ho30; obtain ⟨Ao31, co31, eo31⟩ := Kd.R_slice HO422.out; subst eo31) | ((with_reducible refine gC_ 78 ?_); refine gM_ (some 33) Tryz.func78 #[.pointer (some ⟨gb397, 0, none⟩), .slice Ao31 y420.length co31] ?_; (with_reducible refine (spec_l1Cur_among.calls gb397 l0 t418 t419 _ _ y420 t423 t424 t425 w _ ?side1 ?side2 ?side3 ?side4 ?side5 A25.out).mono ?_); (case side1 => exact z13_3_); (case side2 => exact z13_4_); (case side3 => exact cR_ HO422); (case side4 => exact (Kd.R_reads' HO422.out).2.1); (case side5 => exact far_slice (IsS70.own_ne HI397.out HO422.out (by decide))); rintro e w32 ⟨rfl, hi, hb, hk⟩; refine ⟨_, rfl, ?_⟩; replace HO422 := aM_ (Kd.R_mono (Kd.R_keep (IsS70.apart (show IsS70 w _ gb397 l0 t418 t419 from by repeat (first | (with_reducible first | exact HI397.out | apply IsS70.alloc | apply IsS70.drewN | apply IsS70.drew | apply IsS70.set_1 | apply IsS70.set_2) | exact HI397.out)) (rR_ HO422) (by decide)) hk (fun _ h => h.2)) (fun _ h => h.1)); replace HB := aM_ (hb); replace HI397 := aM_ (hi); (try clear hb); (try clear hk); (try clear hi)) | ((with_reducible refine gC_ 77 ?_); refine gM_ (some 34) Tryz.func77 #[.int .i64 t423] ?_; (with_reducible refine (spec_l1Int.calls k2 t423 t426 _ A26.out).mono ?_); rintro e w33 ⟨rfl, hb⟩; refine ⟨_, rfl, ?_⟩; replace HO422 := aM_ (Kd.R_below (rR_ HO422) hb); replace HB := aM_ (below_step z13_4_ hb); replace HI397 := aM_ (IsS70.below z13_3_ hb); (try clear hb); (try clear hk); (try clear hi)))
      go_roundg k2
      case measure => have := HJ3.out; have := HK2.out; omega
      case rel => exact ⟨(x5_2 ++ t426), (wrap64 (x7_2 + 1)), (t424), (t425), z13_5_, z13_5_, H', ⟨by have := HJ3.out; have := HK2.out; omega⟩, ⟨z13_3_⟩, ⟨z13_4_⟩⟩
     rw [if_pos c12] at H
     have c12b0 : decide (0 < x7_2) = true := decide_eq_true c12
     clear c12
     by_cases c13 : x5_2.size + 1 ≤ 9223372036854775807
     rotate_left
     ·rw [if_neg c13] at H
      exact absurd H (by simp)
     rw [if_pos c13] at H
     have c13b0 := eq_true c13
     have c13b1 : decide (x5_2.size + 1 ≤ 9223372036854775807) = true := decide_eq_true c13
     try have c13b2 : (9223372036854775807 < x5_2.size + 1) = False := eq_false (Nat.not_lt.2 c13)
     replace H := ob_ H; obtain ⟨⟨t407, t408, t409⟩, A14, H⟩ := H; try dsimp only at H
     obtain ⟨y410, hy410⟩ : ∃ y_ : List Int, y_ = (([0, (-40), 30, 25, 90, (-90), wrap64 (t407 - 90)] : List Int)) := ⟨_, rfl⟩
     rw [← hy410] at H
     have Ny410 := Aside0.mk hy410; clear hy410
     replace H := ob_ H; obtain ⟨⟨t413, t414, t415⟩, A15, H⟩ := H; try dsimp only at H
     replace H := ob_ H; obtain ⟨t416, A16, H⟩ := H; try dsimp only at H
     by_cases c17 : (x5_2 ++ (⟨#[32]⟩ : ByteArray)).size + t416.size ≤ 9223372036854775807
     rotate_left
     ·rw [if_neg c17] at H
      exact absurd H (by simp)
     rw [if_pos c17] at H
     have c17b0 := eq_true c17
     have c17b1 : decide ((x5_2 ++ (⟨#[32]⟩ : ByteArray)).size + t416.size ≤ 9223372036854775807) = true := decide_eq_true c17
     try have c17b2 : (9223372036854775807 < (x5_2 ++ (⟨#[32]⟩ : ByteArray)).size + t416.size) = False := eq_false (Nat.not_lt.2 c17)
     try (have c17b3 := c17b2; simp only [ByteArray.size_append', ByteArray.size_mk', List.size_toArray, List.length_cons, List.length_nil, Nat.zero_add, Nat.reduceAdd] at c17b3)
     have H' := Aside0.mk H
     clear H
     go_wp2_with (first | ((with_reducible refine gC_ 59 ?_); refine gM_ (some 30) Tryz.func59 #[.pointer (some ⟨gb397, 0, none⟩), .int .i64 181] ?_; (with_reducible refine (spec_l1Cur_pick.calls gb397 l0 x398001_2 x398002_2 181 t407 t408 t409 w _ ?side1 ?side2 A14.out).mono ?_); (case side1 => exact z13_3_); (case side2 => exact z13_4_); rintro e w18 ⟨rfl, hi, hb, hk⟩; refine ⟨_, rfl, ?_⟩; replace HB := aM_ (hb); replace HI397 := aM_ (hi); (try clear hb); (try clear hk); (try clear hi)) | ((with_reducible refine gate_dst (N := 32) rfl ?_); refine rl_ (Kd.int .i64) 3 32 ([0, (-40), 30, 25, 90, (-90), wrap64 (t407 - 90)] : List Int) [.int .i64 0, .int .i64 (-40), .int .i64 30, .int .i64 25, .int .i64 90, .int .i64 (-90), .int .i64 (wrap64 (t407 - 90))] (Reps.one (show Kd.M (Kd.int .i64) _ _ _ 0 [.int .i64 0] from rfl) (Reps.one (show Kd.M (Kd.int .i64) _ _ _ (-40) [.int .i64 (-40)] from rfl) (Reps.one (show Kd.M (Kd.int .i64) _ _ _ 30 [.int .i64 30] from rfl) (Reps.one (show Kd.M (Kd.int .i64) _ _ _ 25 [.int .i64 25] from rfl) (Reps.one (show Kd.M (Kd.int .i64) _ _ _ 90 [.int .i64 90] from rfl) (Reps.one (show Kd.M (Kd.int .i64) _ _ _ (-90) [.int .i64 (-90)] from rfl) (Reps.one (show Kd.M (Kd.int .i64) _ _ _ (wrap64 (t407 - 90)) [.int .i64 (wrap64 (t407 - 90))] from rfl) (Reps.none _ _)))))))) ?_; intro v411 w19 ho20 hb hg_ hnew_; clear hg_ hnew_; (first | rw [← Ny410.out] at ho20 | (simp only [Int.reduceToNat] at ho20; rw [← Ny410.out] at ho20)); have HO412 := aM_ (Kd.R_lower ho20 (below_size z13_4_)); replace HB := aM_ (below_step z13_4_ hb); replace HI397 := aM_ (IsS70.below z13_3_ hb); clear hb ho20; obtain ⟨Ao21, co21, eo21⟩ := Kd.R_slice HO412.out; subst eo21) | ((with_reducible refine gC_ 78 ?_); refine gM_ (some 33) Tryz.func78 #[.pointer (some ⟨gb397, 0, none⟩), .slice Ao21 y410.length co21] ?_; (with_reducible refine (spec_l1Cur_among.calls gb397 l0 t408 t409 _ _ y410 t413 t414 t415 w _ ?side1 ?side2 ?side3 ?side4 ?side5 A15.out).mono ?_); (case side1 => exact z13_3_); (case side2 => exact z13_4_); (case side3 => exact cR_ HO412); (case side4 => exact (Kd.R_reads' HO412.out).2.1); (case side5 => exact far_slice (IsS70.own_ne HI397.out HO412.out (by decide))); rintro e w22 ⟨rfl, hi, hb, hk⟩; refine ⟨_, rfl, ?_⟩; replace HO412 := aM_ (Kd.R_mono (Kd.R_keep (IsS70.apart (show IsS70 w _ gb397 l0 t408 t409 from by repeat (first | (with_reducible first | exact HI397.out | apply IsS70.alloc | apply IsS70.drewN | apply IsS70.drew | apply IsS70.set_1 | apply IsS70.set_2) | exact HI397.out)) (rR_ HO412) (by decide)) hk (fun _ h => h.2)) (fun _ h => h.1)); replace HB := aM_ (hb); replace HI397 := aM_ (hi); (try clear hb); (try clear hk); (try clear hi)) | ((with_reducible refine gC_ 77 ?_); refine gM_ (some 34) Tryz.func77 #[.int .i64 t413] ?_; (with_reducible refine (spec_l1Int.calls k2 t413 t416 _ A16.out).mono ?_); rintro e w23 ⟨rfl, hb⟩; refine ⟨_, rfl, ?_⟩; replace HO412 := aM_ (Kd.R_below (rR_ HO412) hb); replace HB := aM_ (below_step z13_4_ hb); replace HI397 := aM_ (IsS70.below z13_3_ hb); (try clear hb); (try clear hk); (try clear hi)))
     go_roundg k2
     case measure => have := HJ3.out; have := HK2.out; omega
     case rel => exact ⟨((x5_2 ++ (⟨#[32]⟩ : ByteArray)) ++ t416), (wrap64 (x7_2 + 1)), (t414), (t415), z13_5_, z13_5_, H', ⟨by have := HJ3.out; have := HK2.out; omega⟩, ⟨z13_3_⟩, ⟨z13_4_⟩⟩

end Go.Proofs.YtfkdlfbjkdkffaaGreatDoor.PFnPoints
