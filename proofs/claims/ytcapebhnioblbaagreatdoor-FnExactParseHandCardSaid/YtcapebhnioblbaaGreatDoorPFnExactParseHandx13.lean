/- Written by a program of this claim's author, out of the loaded program as Lean prints it: the functions as Lean functions, and that the calls answer so. -/
import Derived.Test.YtcapebhnioblbaaGreatDoorPFnExactParseHandx0
import Derived.Test.YtcapebhnioblbaaGreatDoorPFnExactParseHandx8
import Derived.Test.YtcapebhnioblbaaGreatDoorPFnExactParseHandx10
import Derived.Test.YtcapebhnioblbaaGreatDoorPFnExactParseHandx11
import Derived.Test.YtcapebhnioblbaaGreatDoorPFnExactParseHandx12
import Derived.Test.YtcapebhnioblbaaGreatDoorPFnExactParseHandxD0
namespace Go.Proofs.YtcapebhnioblbaaGreatDoor.PFnExactParseHand
open Go.RowKit Go.Proofs.YtcapebhnioblbaaGreatDoorW.PrintWords Go.Proofs.YtcapebhnioblbaaGreatDoorW.PrintLast Go.Proofs.YtcapebhnioblbaaGreatDoorW.PrintMore
attribute [local go_sem] max2_int min2_int max_two min_two max_three min_three max_four min_four isSome_setCell   -- for this text's walks alone
theorem yactParseHandx13_0_ {p : Prop} (h : p := by (with_reducible repeat (first | apply kN_ | apply kD_ | apply kA_)); refine blk_put (cs := #[.string t337, .int .i64 0]) ?_ 1 _ rfl; (with_reducible repeat (first | apply kN_ | apply kD_ | apply kA_)); refine blk_put (cs := #[.string (⟨#[]⟩ : ByteArray), .int .i64 0]) ?_ 0 _ rfl; (with_reducible repeat (first | apply kN_ | apply kD_ | apply kA_)); exact BK340.out) : p := h
theorem yactParseHandx13_1_ {p : Prop} (h : p := by (with_reducible repeat (first | apply kN_ | apply kD_ | apply kA_)); refine blk_far ?_ NB336_340.out _; (with_reducible repeat (first | apply kN_ | apply kD_ | apply kA_)); exact BK336.out) : p := h
theorem yactParseHandx13_2_ {p : Prop} (h : p := by (with_reducible repeat (first | apply kN_ | apply kD_ | apply kA_)); refine blk_put (cs := #[.string (⟨#[]⟩ : ByteArray), .int .i64 0]) ?_ 1 _ rfl; (with_reducible repeat (first | apply kN_ | apply kD_ | apply kA_)); refine blk_put (cs := #[.string (⟨#[]⟩ : ByteArray), .int .i64 0]) ?_ 0 _ rfl; (with_reducible repeat (first | apply kN_ | apply kD_ | apply kA_)); exact BK336.out) : p := h
theorem yactParseHandx13_3_ {p : Prop} (h : p := by (with_reducible repeat (first | apply Kd.R_alloc | apply Kd.R_drewN | apply Kd.R_drew)); exact HO348.out) : p := h
theorem yactParseHandx13_4_ {p : Prop} (h : p := by first | (with_reducible assumption) | assumption) : p := h
theorem yactParseHandx13_5_ {p : Prop} (h : p := by first | rfl | (simp; done) | (simp [*]; done)) : p := h
theorem ar_at_55 (b0 b1 b2 b3 : Bool) (k : IntKind) (i : Int) (w : World) : (Instr.index 55 (.agg #[.bool b0, .bool b1, .bool b2, .bool b3]) (.int k i)).run Tryz.prog w = if 0 ≤ i ∧ i < 4 then .ok (.bool (ar4_ b0 b1 b2 b3 i)) w else (boundsPanic k i 4 .index).run Tryz.prog w :=
  run_index4 Tryz.underlying55 (by kernel_rfl) (by kernel_rfl)
attribute [local go_sem] ar_at_55
set_option linter.unusedVariables false
set_option linter.unusedSimpArgs false

/-! ### impl_ParseMove: function 25 -/
set_option maxHeartbeats 8000000 in
set_option maxRecDepth 100000 in
theorem impl_ParseMove.calls (k : Nat) (a0 : ByteArray) (r1 : ByteArray) (r2 : Int) (r3 : Bool) (w : World) (hT_ : TabW Tryz.prog 1 w) (h : impl_ParseMove.f k a0 = some (r1, r2, r3)) :
 Calls Tryz.prog 25 #[.string a0] w fun e w' => e = .returned (.tuple #[.agg #[.string r1, .int .i64 r2], .bool r3]) ∧ Below w.heap.size w w' := by
 have hu29 := Tryz.underlying29
 have HT := Aside0.mk hT_
 clear hT_
 have HB := Aside0.mk (Below.refl w.heap.size w)
 have H : ((strings_Cut.f a0 (⟨#[42]⟩ : ByteArray)).bind fun bt337 => (if bt337.2.2 = true then ((impl_decimal.f bt337.2.1).bind fun bt341 => (impl_ParseMove.j0 k a0 bt337.1 bt341.1)) else (impl_ParseMove.j0 k a0 bt337.1 1))) = some (r1, r2, r3) := h
 clear h
 replace H := Option.bind_eq_some_iff.mp H
 obtain ⟨⟨t337, t338, t339⟩, A20, H⟩ := H
 try dsimp only at H
 have A2 := Aside0.mk A20
 clear A20
 have HC3 := Aside0.mk H
 clear H
 go_enter Tryz.func25, Tryz.ntmps25
 go_upto_if 16 with (first | ((with_reducible refine gate_dst (N := 2) rfl ?_); refine box_event ?hg (N := 2) ?hd (cs := #[.string (⟨#[]⟩ : ByteArray), .int .i64 0]) (t := 29) ?hr ?_; (case hd => rfl); (case hg => rfl); (case hr => first | (go_simp; done) | (go_simp; rfl)); intro gb336 hg w4 hbox hb; have BK336 := aM_ (hbox); have GW336 := aM_ (gw_ w hg); have GE336 := aM_ (gw_ w hg); replace HB := aM_ (below_step hB_ hb); clear hb hbox hg) | ((with_reducible refine gate_callee (f := 45) rfl ?_); refine goesM_ (some 10) Tryz.func45 #[.string a0, .string (⟨#[42]⟩ : ByteArray)] ?_; (with_reducible refine (strings_Cut.calls a0 (⟨#[42]⟩ : ByteArray) t337 t338 t339 _ A2.out).mono ?_); rintro e w' ⟨rfl, ⟨nd, rfl⟩⟩; refine ⟨_, rfl, ?_⟩; (try (rw [drewN_self w4]; generalize hq_ : World.drewN w4 _ = w4; have n0_ : Aside0 (w4.heap[gb336]? = some (.cells #[.string (⟨#[]⟩ : ByteArray), .int .i64 0] 29 (0, 0))) := ⟨by rw [← hq_]; exact (by (with_reducible repeat (first | apply kN_ | apply kD_ | apply kA_)); exact BK336.out)⟩; have n1_ : Aside0 (Below w.heap.size w w4) := ⟨by rw [← hq_]; exact hB_⟩; clear BK336 HB hq_; have BK336 := n0_; have HB := n1_; clear n0_ n1_))) | ((with_reducible refine gate_dst (N := 7) rfl ?_); refine box_event ?hg (N := 7) ?hd (cs := #[.string (⟨#[]⟩ : ByteArray), .int .i64 0]) (t := 29) ?hr ?_; (case hd => rfl); (case hg => rfl); (case hr => first | (go_simp; done) | (go_simp; rfl)); intro gb340 hg w5 hbox hb; have BK340 := aM_ (hbox); have GW340 := aM_ (gw_ w hg); have GE340 := aM_ (gw_ w hg); have NB336_340 := aM_ (nR_ BK336 hg); have NB340_336 := aM_ (mR_ BK336 hg); replace BK336 := aM_ (blk_below (g := gb336) (kR_ BK336) hb); replace HB := aM_ (below_step hB_ hb); clear hb hbox hg; have hnb6 := NB340_336.out; have hnc6 := NB336_340.out; have hz7 := cf2_ BK340.out))
 (try simp only [Act.put, List.setIfInBounds_toArray, List.set_cons_zero, List.set_cons_succ])
 go_cut [] (fun wc => ∃ (kq : Nat) (x341001_2 : Int), Aside0 (impl_ParseMove.j0 kq a0 t337 x341001_2 = some (r1, r2, r3)) ∧ Aside0 (kq ≤ k) ∧ Aside0 (wc.heap[gb336]? = some (.cells #[.string (⟨#[]⟩ : ByteArray), .int .i64 0] 29 (0, 0))) ∧ Aside0 (wc.heap[gb340]? = some (.cells #[.string t337, .int .i64 x341001_2] 29 (0, 0))) ∧ Aside0 (Below w.heap.size w wc))
 case first =>
  have H := HC3.out
  clear HC3
  by_cases c8 : t339 = true
  ·subst c8
   replace H := ip_ H rfl
   replace H := Option.bind_eq_some_iff.mp H
   obtain ⟨⟨t341, t342⟩, A90, H⟩ := H
   try dsimp only at H
   have A9 := Aside0.mk A90
   clear A90
   have H' := Aside0.mk H
   clear H
   go_wp2_with (first | ((with_reducible refine gate_callee (f := 46) rfl ?_); refine goesM_ (some 19) Tryz.func46 #[.string t338] ?_; (with_reducible refine (impl_decimal.calls t338 t341 t342 _ ?side1 A9.out).mono ?_); (case side1 => exact TabW.below HT.out hB_); rintro e w10 ⟨rfl, hb⟩; refine ⟨_, rfl, ?_⟩; replace BK336 := aM_ (blk_below (g := gb336) (kR_ BK336) hb); replace BK340 := aM_ (blk_below (g := gb340) (o := .cells #[.string t337, .int .i64 1] 29 (0, 0)) yactParseHandx13_0_ hb); replace HB := aM_ (below_step hB_ hb); (try clear hb); (try clear hb2); (try clear hk); (try clear hi); have hnb11 := NB340_336.out; have hnc11 := NB336_340.out; have hz12 := cf2_ BK340.out))
   go_meet
   case rel => exact ⟨_, (t341), H', ⟨oR_⟩, ⟨yactParseHandx13_1_⟩, ⟨by (with_reducible repeat (first | apply kN_ | apply kD_ | apply kA_)); refine blk_put (cs := #[.string t337, .int .i64 1]) ?_ 1 _ rfl; (with_reducible repeat (first | apply kN_ | apply kD_ | apply kA_)); exact BK340.out⟩, ⟨hB_⟩⟩
  ·replace c8 := Bool.eq_false_iff.mpr c8
   subst c8
   replace H := in_ H (show ¬ (false = true) by decide)
   have H' := Aside0.mk H
   clear H
   go_wp2
   go_meet
   case rel => exact ⟨_, (1), H', ⟨oR_⟩, ⟨by (with_reducible repeat (first | apply kN_ | apply kD_ | apply kA_)); refine blk_far ?_ NB336_340.out _; (with_reducible repeat (first | apply kN_ | apply kD_ | apply kA_)); refine blk_far ?_ NB336_340.out _; (with_reducible repeat (first | apply kN_ | apply kD_ | apply kA_)); exact BK336.out⟩, ⟨yactParseHandx13_0_⟩, ⟨hB_⟩⟩
 case rest =>
  clear HC3
  (try clear hcz7_0);(try clear hcz7_1);(try clear hfz7_0);(try clear hfz7_1)
  obtain ⟨kq, x341001_2, HA, HJ2, BK336, BK340, HB⟩ := hcut
  cases kq with
  | zero => exact absurd HA.out (by simp [impl_ParseMove.j0])
  | succ kj2 =>
   have H := HA.out
   clear HA
   simp only [impl_ParseMove.j0] at H
   have HC13 := Aside0.mk H
   clear H
   go_upto_if 24 with (fail)
   go_cut [] (fun wc => ∃ (kq : Nat) (x341000_12 : ByteArray), Aside0 (impl_ParseMove.j1 kq a0 x341000_12 x341001_2 = some (r1, r2, r3)) ∧ Aside0 (kq ≤ kj2) ∧ Aside0 (wc.heap[gb336]? = some (.cells #[.string (⟨#[]⟩ : ByteArray), .int .i64 0] 29 (0, 0))) ∧ Aside0 (wc.heap[gb340]? = some (.cells #[.string x341000_12, .int .i64 x341001_2] 29 (0, 0))) ∧ Aside0 (Below w.heap.size w wc))
   case first =>
    have H := HC13.out
    clear HC13
    by_cases c14 : a0.toList = ([45] : List UInt8)
    ·rw [if_pos c14] at H
     have c14b0 : (a0.toList == ([45] : List UInt8)) = true := beq_iff_eq.mpr c14
     have c14b1 : (a0.toList != ([45] : List UInt8)) = false := bne_eq_false_iff_eq.mpr c14
     clear c14
     (first | rw [c14b0] | (simp only [i64_w, i32_w]; rw [c14b0]) | skip)
     have H' := Aside0.mk H
     clear H
     have hnb15 := NB340_336.out
     have hnc15 := NB336_340.out
     have hz16 := cf2_ BK340.out
     go_wp2
     go_meet
     case rel => exact ⟨_, ((⟨#[]⟩ : ByteArray)), H', ⟨by have := HJ2.out; first | omega | exact Nat.le_refl _⟩, ⟨yactParseHandx13_1_⟩, ⟨by (with_reducible repeat (first | apply kN_ | apply kD_ | apply kA_)); refine blk_put (cs := #[.string t337, .int .i64 x341001_2]) ?_ 0 _ rfl; (with_reducible repeat (first | apply kN_ | apply kD_ | apply kA_)); exact BK340.out⟩, ⟨hB_⟩⟩
    ·rw [if_neg c14] at H
     have c14b0 : (a0.toList == ([45] : List UInt8)) = false := beq_eq_false_iff_ne.mpr c14
     have c14b1 : (a0.toList != ([45] : List UInt8)) = true := bne_iff_ne.mpr c14
     (first | rw [c14b0] | (simp only [i64_w, i32_w]; rw [c14b0]) | skip)
     have H' := Aside0.mk H
     clear H
     go_wp2
     go_meet
     case rel => exact ⟨_, (t337), H', ⟨by have := HJ2.out; first | omega | exact Nat.le_refl _⟩, ⟨kP_⟩, ⟨kP_⟩, ⟨hB_⟩⟩
   case rest =>
    clear HC13
    (try clear hcz7_0);(try clear hcz7_1);(try clear hfz7_0);(try clear hfz7_1)
    obtain ⟨kq, x341000_12, HA, HJ12, BK336, BK340, HB⟩ := hcut
    cases kq with
    | zero => exact absurd HA.out (by simp [impl_ParseMove.j1])
    | succ kj12 =>
     have H := HA.out
     clear HA
     simp only [impl_ParseMove.j1] at H
     replace H := Option.bind_eq_some_iff.mp H
     obtain ⟨t343, A170, H⟩ := H
     try dsimp only at H
     have A17 := Aside0.mk A170
     clear A170
     by_cases c18 : t343 = true
     ·subst c18
      replace H := ip_ H rfl
      replace H := Option.bind_eq_some_iff.mp H
      obtain ⟨t344, A190, H⟩ := H
      try dsimp only at H
      have A19 := Aside0.mk A190
      clear A190
      by_cases c20 : t344.toList = a0.toList
      ·rw [if_pos c20] at H
       have c20b0 : (t344.toList == a0.toList) = true := beq_iff_eq.mpr c20
       have c20b1 : (t344.toList != a0.toList) = false := bne_eq_false_iff_eq.mpr c20
       clear c20
       simp only [Option.some.injEq, Prod.mk.injEq] at H
       obtain ⟨rfl, rfl, rfl⟩ := H
       have hnb21 := NB340_336.out
       have hnc21 := NB336_340.out
       have hz22 := cf2_ BK340.out
       go_wp2_with (first | ((with_reducible refine gate_callee (f := 47) rfl ?_); refine goesM_ (some 27) Tryz.func47 #[.agg #[.string x341000_12, .int .i64 x341001_2]] ?_; (with_reducible refine (impl_IsMove.calls kj12 x341000_12 x341001_2 true _ A17.out).mono ?_); rintro e w23 ⟨rfl, hb⟩; refine ⟨_, rfl, ?_⟩; replace BK336 := aM_ (blk_below (g := gb336) (kR_ BK336) hb); replace BK340 := aM_ (blk_below (g := gb340) (kR_ BK340) hb); replace HB := aM_ (below_step hB_ hb); (try clear hb); (try clear hb2); (try clear hk); (try clear hi); have hz24 := cf2_ BK340.out) | (go_at_call 48; (with_reducible refine (impl_Move_text.calls x341000_12 x341001_2 t344 _ A19.out).mono ?_); rintro e w25 ⟨rfl, hb⟩; replace BK336 := aM_ (blk_below (g := gb336) (kR_ BK336) hb); replace BK340 := aM_ (blk_below (g := gb340) (kR_ BK340) hb); replace HB := aM_ (below_step hB_ hb); (try clear hb); (try clear hb2); (try clear hk); (try clear hi); have hz26 := cf2_ BK340.out; clear BK340; have hz27 := cf2_ BK336.out))
       refine bodyPost_ret (results_ct rfl _ _ gb336 29 #[.string x341000_12, .int .i64 x341001_2] (0, 0) _ rfl (by (with_reducible repeat (first | apply kN_ | apply kD_ | apply kA_)); refine blk_put (cs := #[.string x341000_12, .int .i64 0]) ?_ 1 _ rfl; (with_reducible repeat (first | apply kN_ | apply kD_ | apply kA_)); refine blk_put (cs := #[.string (⟨#[]⟩ : ByteArray), .int .i64 0]) ?_ 0 _ rfl; (with_reducible repeat (first | apply kN_ | apply kD_ | apply kA_)); exact BK336.out) Tryz.underlying29 rfl (by kernel_rfl)) rfl ?_
       exact ⟨rT_, hB_⟩
      ·rw [if_neg c20] at H
       have c20b0 : (t344.toList == a0.toList) = false := beq_eq_false_iff_ne.mpr c20
       have c20b1 : (t344.toList != a0.toList) = true := bne_iff_ne.mpr c20
       simp only [Option.some.injEq, Prod.mk.injEq] at H
       obtain ⟨rfl, rfl, rfl⟩ := H
       have hnb28 := NB340_336.out
       have hnc28 := NB336_340.out
       have hz29 := cf2_ BK340.out
       go_wp2_with (first | ((with_reducible refine gate_callee (f := 47) rfl ?_); refine goesM_ (some 27) Tryz.func47 #[.agg #[.string x341000_12, .int .i64 x341001_2]] ?_; (with_reducible refine (impl_IsMove.calls kj12 x341000_12 x341001_2 true _ A17.out).mono ?_); rintro e w30 ⟨rfl, hb⟩; refine ⟨_, rfl, ?_⟩; replace BK336 := aM_ (blk_below (g := gb336) (kR_ BK336) hb); replace BK340 := aM_ (blk_below (g := gb340) (kR_ BK340) hb); replace HB := aM_ (below_step hB_ hb); (try clear hb); (try clear hb2); (try clear hk); (try clear hi); have hz31 := cf2_ BK340.out; clear BK340) | (go_at_call 48; (with_reducible refine (impl_Move_text.calls x341000_12 x341001_2 t344 _ A19.out).mono ?_); rintro e w32 ⟨rfl, hb⟩; replace BK336 := aM_ (blk_below (g := gb336) (kR_ BK336) hb); replace HB := aM_ (below_step hB_ hb); (try clear hb); (try clear hb2); (try clear hk); (try clear hi); have hz33 := cf2_ BK336.out))
       refine bodyPost_ret (results_ct rfl _ _ gb336 29 #[.string (⟨#[]⟩ : ByteArray), .int .i64 0] (0, 0) _ rfl yactParseHandx13_2_ Tryz.underlying29 rfl (by kernel_rfl)) rfl ?_
       exact ⟨rT_, hB_⟩
     ·replace c18 := Bool.eq_false_iff.mpr c18
      subst c18
      replace H := in_ H (show ¬ (false = true) by decide)
      simp only [Option.some.injEq, Prod.mk.injEq] at H
      obtain ⟨rfl, rfl, rfl⟩ := H
      have hnb34 := NB340_336.out
      have hnc34 := NB336_340.out
      have hz35 := cf2_ BK340.out
      clear BK340
      go_wp2_with (first | ((with_reducible refine gate_callee (f := 47) rfl ?_); refine goesM_ (some 27) Tryz.func47 #[.agg #[.string x341000_12, .int .i64 x341001_2]] ?_; (with_reducible refine (impl_IsMove.calls kj12 x341000_12 x341001_2 false _ A17.out).mono ?_); rintro e w36 ⟨rfl, hb⟩; refine ⟨_, rfl, ?_⟩; replace BK336 := aM_ (blk_below (g := gb336) (kR_ BK336) hb); replace HB := aM_ (below_step hB_ hb); (try clear hb); (try clear hb2); (try clear hk); (try clear hi); have hz37 := cf2_ BK336.out))
      refine bodyPost_ret (results_ct rfl _ _ gb336 29 #[.string (⟨#[]⟩ : ByteArray), .int .i64 0] (0, 0) _ rfl yactParseHandx13_2_ Tryz.underlying29 rfl (by kernel_rfl)) rfl ?_
      exact ⟨rT_, hB_⟩

/-! ### impl_readHand: function 10 -/
set_option maxHeartbeats 8000000 in
set_option maxRecDepth 100000 in
theorem impl_readHand.calls (k : Nat) (a0 : ByteArray) (r1 : Int) (r2 : Int) (r3 : Int) (r4 : Int) (r5 : Int) (r6 : Bool) (r7 : Int) (r8 : Int) (r9 : Int) (r10 : Int) (r11 : Bool) (r12 : ByteArray) (r13 : Int) (r14 : Int) (r15 : Int) (w : World) (hT_ : TabW Tryz.prog 2 w) (h : impl_readHand.f k a0 = some (r1, r2, r3, r4, r5, r6, r7, r8, r9, r10, r11, r12, r13, r14, r15)) :
 Calls Tryz.prog 10 #[.string a0] w fun e w' => e = .returned (.tuple #[.agg #[.int .i64 r1, .int .i64 r2, .int .i64 r3, .int .i64 r4, .int .i64 r5, .bool r6, .int .i64 r7, .int .i64 r8, .int .i64 r9, .int .i64 r10, .bool r11, .string r12, .int .i64 r13], .int .i64 r14, .int .i64 r15]) ∧ Below w.heap.size w w' := by
 have hu31 := Tryz.underlying31
 have hu55 := Tryz.underlying55
 have hu23 := Tryz.underlying23
 have hu25 := Tryz.underlying25
 have hu27 := Tryz.underlying27
 have hu29 := Tryz.underlying29
 have HT := Aside0.mk hT_
 clear hT_
 have HB := Aside0.mk (Below.refl w.heap.size w)
 have H : ((strings_Split.f a0 (⟨#[47]⟩ : ByteArray)).bind fun t346 => (if (t346.length : Int) = 4 then (if 0 < (t346.length : Int) then ((impl_ParseShape.f k (rdOf ByteArray.empty t346 0)).bind fun bt352 => (if 1 < (t346.length : Int) then ((impl_ParseOrient.f (rdOf ByteArray.empty t346 1)).bind fun bt360 => (if 2 < (t346.length : Int) then ((impl_ParsePlace.f k (rdOf ByteArray.empty t346 2)).bind fun bt364 => (if 3 < (t346.length : Int) then ((impl_ParseMove.f k (rdOf ByteArray.empty t346 3)).bind fun bt369 => (impl_readHand.l0 k t346 0 0 bt352.1 bt352.2.1 bt352.2.2.1 bt352.2.2.2.1 bt352.2.2.2.2.1 bt352.2.2.2.2.2.1 bt360.1 bt360.2.1 bt364.1 bt364.2.1 bt364.2.2.1 bt369.1 bt369.2.1 bt352.2.2.2.2.2.2 bt360.2.2 bt364.2.2.2 bt369.2.2)) else (none))) else (none))) else (none))) else (none)) else (some (0, 0, 0, 0, 0, false, 0, 0, 0, 0, false, (⟨#[]⟩ : ByteArray), 0, 2, 0)))) = some (r1, r2, r3, r4, r5, r6, r7, r8, r9, r10, r11, r12, r13, r14, r15) := h
 clear h
 replace H := Option.bind_eq_some_iff.mp H
 obtain ⟨t346, A20, H⟩ := H
 try dsimp only at H
 have A2 := Aside0.mk A20
 clear A20
 by_cases c3 : (t346.length : Int) = 4
 ·rw [if_pos c3] at H
  have c3b0 : ((t346.length : Int) == 4) = true := beq_iff_eq.mpr c3
  have c3b1 : ((t346.length : Int) != 4) = false := bne_eq_false_iff_eq.mpr c3
  clear c3
  by_cases c4 : 0 < (t346.length : Int)
  ·rw [if_pos c4] at H
   have c4b0 : decide (0 < (t346.length : Int)) = true := decide_eq_true c4
   have c4b1 : decide (0 < t346.length) = true := decide_eq_true (by omega)
   clear c4
   replace H := Option.bind_eq_some_iff.mp H
   obtain ⟨⟨t352, t353, t354, t355, t356, t357, t358⟩, A50, H⟩ := H
   try dsimp only at H
   have A5 := Aside0.mk A50
   clear A50
   by_cases c6 : 1 < (t346.length : Int)
   ·rw [if_pos c6] at H
    have c6b0 : decide (1 < (t346.length : Int)) = true := decide_eq_true c6
    have c6b1 : decide (1 < t346.length) = true := decide_eq_true (by omega)
    clear c6
    replace H := Option.bind_eq_some_iff.mp H
    obtain ⟨⟨t360, t361, t362⟩, A70, H⟩ := H
    try dsimp only at H
    have A7 := Aside0.mk A70
    clear A70
    by_cases c8 : 2 < (t346.length : Int)
    ·rw [if_pos c8] at H
     have c8b0 : decide (2 < (t346.length : Int)) = true := decide_eq_true c8
     have c8b1 : decide (2 < t346.length) = true := decide_eq_true (by omega)
     clear c8
     replace H := Option.bind_eq_some_iff.mp H
     obtain ⟨⟨t364, t365, t366, t367⟩, A90, H⟩ := H
     try dsimp only at H
     have A9 := Aside0.mk A90
     clear A90
     by_cases c10 : 3 < (t346.length : Int)
     ·rw [if_pos c10] at H
      have c10b0 : decide (3 < (t346.length : Int)) = true := decide_eq_true c10
      have c10b1 : decide (3 < t346.length) = true := decide_eq_true (by omega)
      clear c10
      replace H := Option.bind_eq_some_iff.mp H
      obtain ⟨⟨t369, t370, t371⟩, A110, H⟩ := H
      try dsimp only at H
      have A11 := Aside0.mk A110
      clear A110
      have H' := Aside0.mk H
      clear H
      go_enter Tryz.func10, Tryz.ntmps10
      go_wp2_with (first | ((with_reducible refine gate_dst (N := 2) rfl ?_); refine box_event ?hg (N := 2) ?hd (cs := #[.int .i64 0, .int .i64 0, .int .i64 0, .int .i64 0, .int .i64 0, .bool false, .int .i64 0, .int .i64 0, .int .i64 0, .int .i64 0, .bool false, .string (⟨#[]⟩ : ByteArray), .int .i64 0]) (t := 31) ?hr ?_; (case hd => rfl); (case hg => rfl); (case hr => first | (go_simp; done) | (go_simp; rfl)); intro gb345 hg w12 hbox hb; have BK345 := aM_ (hbox); have GW345 := aM_ (gw_ w hg); have GE345 := aM_ (gw_ w hg); replace HB := aM_ (below_step hB_ hb); clear hb hbox hg) | ((with_reducible refine gate_callee (f := 21) rfl ?_); refine goesM_ (some 12) Tryz.func21 #[.string a0, .string (⟨#[47]⟩ : ByteArray)] ?_; (with_reducible refine (strings_Split.calls a0 (⟨#[47]⟩ : ByteArray) t346 _ ?side1 A2.out).mono ?_); (case side1 => exact TabW.below HT.out hB_); rintro e w13 ⟨v347, rfl, ho0, hb⟩; refine ⟨_, rfl, ?_⟩; have HO348 := aM_ (Kd.R_lower ho0 (below_size hB_)); replace BK345 := aM_ (blk_below (g := gb345) (kR_ BK345) hb); replace HB := aM_ (below_step hB_ hb); (try clear hb); (try clear hb2); (try clear hk); (try clear hi); (try clear ho0); obtain ⟨Ao14, co14, eo14⟩ := Kd.R_slice HO348.out; subst eo14) | ((with_reducible refine gate_dst (N := 6) rfl ?_); refine box_event ?hg (N := 6) ?hd (cs := #[.int .i64 0, .int .i64 0, .int .i64 0, .int .i64 0, .int .i64 0, .bool false, .int .i64 0, .int .i64 0, .int .i64 0, .int .i64 0, .bool false, .string (⟨#[]⟩ : ByteArray), .int .i64 0]) (t := 31) ?hr ?_; (case hd => rfl); (case hg => rfl); (case hr => first | (go_simp; done) | (go_simp; rfl)); intro gb349 hg w15 hbox hb; have BK349 := aM_ (hbox); have GW349 := aM_ (gw_ w hg); have GE349 := aM_ (gw_ w hg); have NB345_349 := aM_ (nR_ BK345 hg); have NB349_345 := aM_ (mR_ BK345 hg); replace HO348 := aM_ (Kd.R_below yactParseHandx13_3_ hb); replace BK345 := aM_ (blk_below (g := gb345) (kR_ BK345) hb); replace HB := aM_ (below_step hB_ hb); clear hb hbox hg) | ((with_reducible refine gate_dst (N := 7) rfl ?_); refine box_event ?hg (N := 7) ?hd (cs := #[.bool false, .bool false, .bool false, .bool false]) (t := 55) ?hr ?_; (case hd => rfl); (case hg => rfl); (case hr => first | (go_simp; done) | (go_simp; rfl)); intro gb350 hg w16 hbox hb; have BK350 := aM_ (hbox); have GW350 := aM_ (gw_ w hg); have GE350 := aM_ (gw_ w hg); have NB345_350 := aM_ (nR_ BK345 hg); have NB350_345 := aM_ (mR_ BK345 hg); have NB349_350 := aM_ (nR_ BK349 hg); have NB350_349 := aM_ (mR_ BK349 hg); replace HO348 := aM_ (Kd.R_below yactParseHandx13_3_ hb); replace BK345 := aM_ (blk_below (g := gb345) (kR_ BK345) hb); replace BK349 := aM_ (blk_below (g := gb349) (kR_ BK349) hb); replace HB := aM_ (below_step hB_ hb); clear hb hbox hg; have p351 : 0 ≤ (0 : Int) := (by omega); have q351 : 0 < (t346.length : Int) := of_decide_eq_true yactParseHandx13_4_; obtain ⟨ad351, e351, hx351_0⟩ := Kd.at_string (Kd.R_reads' HO348.out).2.2 0 p351 q351; cases e351; have qi351 : (0 < t346.length) = True := eq_true (by omega); (try rw [show ((0 : Int)).toNat = 0 from rfl] at hx351_0); (try rw [Addr.add_zero'] at hx351_0); replace p351 := eq_true p351; replace q351 := eq_true q351) | ((with_reducible refine gate_callee (f := 22) rfl ?_); refine goesM_ (some 21) Tryz.func22 #[.string (rdOf ByteArray.empty t346 0)] ?_; (with_reducible refine (impl_ParseShape.calls k (rdOf ByteArray.empty t346 0) t352 t353 t354 t355 t356 t357 t358 _ A5.out).mono ?_); rintro e w17 ⟨rfl, hb⟩; refine ⟨_, rfl, ?_⟩; replace HO348 := aM_ (Kd.R_below yactParseHandx13_3_ hb); replace BK345 := aM_ (blk_below (g := gb345) (kR_ BK345) hb); replace BK349 := aM_ (blk_below (g := gb349) (kR_ BK349) hb); replace BK350 := aM_ (blk_below (g := gb350) (kR_ BK350) hb); replace HB := aM_ (below_step hB_ hb); (try clear hb); (try clear hb2); (try clear hk); (try clear hi); have hnb18 := NB349_345.out; have hnc18 := NB345_349.out; have hnb19 := NB349_350.out; have hnc19 := NB350_349.out; have hz20 := cf13_ BK349.out; have hnb21 := NB350_345.out; have hnc21 := NB345_350.out; have hz22 := cf4_ BK350.out; have p359 : 0 ≤ (1 : Int) := (by omega); have q359 : 1 < (t346.length : Int) := of_decide_eq_true yactParseHandx13_4_; obtain ⟨ad359, e359, hx359_0⟩ := Kd.at_string (Kd.R_reads' HO348.out).2.2 1 p359 q359; obtain rfl : ad351 = ad359 := (by injection e359); (try simp only [show (1 : Int).toNat = 1 from rfl, Nat.reduceMul, Nat.reduceEqDiff, Go.Addr.add, ↓reduceIte] at hx359_0); have qi359 : (1 < t346.length) = True := eq_true (by omega); (try rw [show ((1 : Int)).toNat = 1 from rfl] at hx359_0); have hn359_0 : ad351.block ≠ gb349 := Kd.own_blk (Kd.R_ne HO348.out BK349.out (by decide)); have hn359_1 : ad351.block ≠ gb349 := Kd.own_blk (Kd.R_ne HO348.out BK349.out (by decide)); have hn359_2 : ad351.block ≠ gb349 := Kd.own_blk (Kd.R_ne HO348.out BK349.out (by decide)); have hn359_3 : ad351.block ≠ gb349 := Kd.own_blk (Kd.R_ne HO348.out BK349.out (by decide)); have hn359_4 : ad351.block ≠ gb349 := Kd.own_blk (Kd.R_ne HO348.out BK349.out (by decide)); have hn359_5 : ad351.block ≠ gb349 := Kd.own_blk (Kd.R_ne HO348.out BK349.out (by decide)); have hn359_6 : ad351.block ≠ gb350 := Kd.own_blk (Kd.R_ne HO348.out BK350.out (by decide)); replace hx359_0 := (cell_far (p := ⟨gb349, 0, none⟩) (by first | (rw [add_block]; exact hn359_0) | (show (Addr.add _ _).block ≠ _; rw [add_block]; exact hn359_0) | exact hn359_0) (.int .i64 t352)).trans hx359_0; replace hx359_0 := (cell_far (p := ⟨gb349, 1, none⟩) (by first | (rw [add_block]; exact hn359_1) | (show (Addr.add _ _).block ≠ _; rw [add_block]; exact hn359_1) | exact hn359_1) (.int .i64 t353)).trans hx359_0; replace hx359_0 := (cell_far (p := ⟨gb349, 2, none⟩) (by first | (rw [add_block]; exact hn359_2) | (show (Addr.add _ _).block ≠ _; rw [add_block]; exact hn359_2) | exact hn359_2) (.int .i64 t354)).trans hx359_0; replace hx359_0 := (cell_far (p := ⟨gb349, 3, none⟩) (by first | (rw [add_block]; exact hn359_3) | (show (Addr.add _ _).block ≠ _; rw [add_block]; exact hn359_3) | exact hn359_3) (.int .i64 t355)).trans hx359_0; replace hx359_0 := (cell_far (p := ⟨gb349, 4, none⟩) (by first | (rw [add_block]; exact hn359_4) | (show (Addr.add _ _).block ≠ _; rw [add_block]; exact hn359_4) | exact hn359_4) (.int .i64 t356)).trans hx359_0; replace hx359_0 := (cell_far (p := ⟨gb349, 5, none⟩) (by first | (rw [add_block]; exact hn359_5) | (show (Addr.add _ _).block ≠ _; rw [add_block]; exact hn359_5) | exact hn359_5) (.bool t357)).trans hx359_0; replace hx359_0 := (cell_far (p := ⟨gb350, 0, none⟩) (by first | (rw [add_block]; exact hn359_6) | (show (Addr.add _ _).block ≠ _; rw [add_block]; exact hn359_6) | exact hn359_6) (.bool t358)).trans hx359_0; clear hn359_0; clear hn359_1; clear hn359_2; clear hn359_3; clear hn359_4; clear hn359_5; clear hn359_6; replace p359 := eq_true p359; replace q359 := eq_true q359) | ((with_reducible refine gate_callee (f := 23) rfl ?_); refine goesM_ (some 30) Tryz.func23 #[.string (rdOf ByteArray.empty t346 1)] ?_; (with_reducible refine (impl_ParseOrient.calls (rdOf ByteArray.empty t346 1) t360 t361 t362 _ A7.out).mono ?_); rintro e w23 ⟨rfl, hb⟩; refine ⟨_, rfl, ?_⟩; replace HO348 := aM_ (Kd.R_below (by (with_reducible repeat (first | apply Kd.R_alloc | apply Kd.R_drewN | apply Kd.R_drew)); exact (Kd.R_mono (Kd.R_mono (Kd.R_far (p := ⟨gb350, 0, none⟩) (Kd.R_far (p := ⟨gb349, 5, none⟩) (Kd.R_far (p := ⟨gb349, 4, none⟩) (Kd.R_far (p := ⟨gb349, 3, none⟩) (Kd.R_far (p := ⟨gb349, 2, none⟩) (Kd.R_far (p := ⟨gb349, 1, none⟩) (Kd.R_far (p := ⟨gb349, 0, none⟩) (Kd.R_types (Kd.R_types HO348.out BK349.out (by decide)) BK350.out (by decide)) (fun _ hk => hk.1.2) (.int .i64 t352)) (fun _ hk => hk.1.2) (.int .i64 t353)) (fun _ hk => hk.1.2) (.int .i64 t354)) (fun _ hk => hk.1.2) (.int .i64 t355)) (fun _ hk => hk.1.2) (.int .i64 t356)) (fun _ hk => hk.1.2) (.bool t357)) (fun _ hk => hk.2) (.bool t358)) (fun _ h_ => h_.1)) (fun _ h_ => h_.1))) hb); replace BK345 := aM_ (blk_below (g := gb345) (kR_ BK345) hb); replace BK349 := aM_ (blk_below (g := gb349) (o := .cells #[.int .i64 t352, .int .i64 t353, .int .i64 t354, .int .i64 t355, .int .i64 t356, .bool t357, .int .i64 0, .int .i64 0, .int .i64 0, .int .i64 0, .bool false, .string (⟨#[]⟩ : ByteArray), .int .i64 0] 31 (0, 0)) (by (with_reducible repeat (first | apply kN_ | apply kD_ | apply kA_)); refine blk_far ?_ NB349_350.out _; (with_reducible repeat (first | apply kN_ | apply kD_ | apply kA_)); refine blk_put (cs := #[.int .i64 t352, .int .i64 t353, .int .i64 t354, .int .i64 t355, .int .i64 t356, .bool false, .int .i64 0, .int .i64 0, .int .i64 0, .int .i64 0, .bool false, .string (⟨#[]⟩ : ByteArray), .int .i64 0]) ?_ 5 _ rfl; (with_reducible repeat (first | apply kN_ | apply kD_ | apply kA_)); refine blk_put (cs := #[.int .i64 t352, .int .i64 t353, .int .i64 t354, .int .i64 t355, .int .i64 0, .bool false, .int .i64 0, .int .i64 0, .int .i64 0, .int .i64 0, .bool false, .string (⟨#[]⟩ : ByteArray), .int .i64 0]) ?_ 4 _ rfl; (with_reducible repeat (first | apply kN_ | apply kD_ | apply kA_)); refine blk_put (cs := #[.int .i64 t352, .int .i64 t353, .int .i64 t354, .int .i64 0, .int .i64 0, .bool false, .int .i64 0, .int .i64 0, .int .i64 0, .int .i64 0, .bool false, .string (⟨#[]⟩ : ByteArray), .int .i64 0]) ?_ 3 _ rfl; (with_reducible repeat (first | apply kN_ | apply kD_ | apply kA_)); refine blk_put (cs := #[.int .i64 t352, .int .i64 t353, .int .i64 0, .int .i64 0, .int .i64 0, .bool false, .int .i64 0, .int .i64 0, .int .i64 0, .int .i64 0, .bool false, .string (⟨#[]⟩ : ByteArray), .int .i64 0]) ?_ 2 _ rfl; (with_reducible repeat (first | apply kN_ | apply kD_ | apply kA_)); refine blk_put (cs := #[.int .i64 t352, .int .i64 0, .int .i64 0, .int .i64 0, .int .i64 0, .bool false, .int .i64 0, .int .i64 0, .int .i64 0, .int .i64 0, .bool false, .string (⟨#[]⟩ : ByteArray), .int .i64 0]) ?_ 1 _ rfl; (with_reducible repeat (first | apply kN_ | apply kD_ | apply kA_)); refine blk_put (cs := #[.int .i64 0, .int .i64 0, .int .i64 0, .int .i64 0, .int .i64 0, .bool false, .int .i64 0, .int .i64 0, .int .i64 0, .int .i64 0, .bool false, .string (⟨#[]⟩ : ByteArray), .int .i64 0]) ?_ 0 _ rfl; (with_reducible repeat (first | apply kN_ | apply kD_ | apply kA_)); exact BK349.out) hb); replace BK350 := aM_ (blk_below (g := gb350) (o := .cells #[.bool t358, .bool false, .bool false, .bool false] 55 (0, 0)) (by (with_reducible repeat (first | apply kN_ | apply kD_ | apply kA_)); refine blk_put (cs := #[.bool false, .bool false, .bool false, .bool false]) ?_ 0 _ rfl; (with_reducible repeat (first | apply kN_ | apply kD_ | apply kA_)); refine blk_far ?_ NB350_349.out _; (with_reducible repeat (first | apply kN_ | apply kD_ | apply kA_)); refine blk_far ?_ NB350_349.out _; (with_reducible repeat (first | apply kN_ | apply kD_ | apply kA_)); refine blk_far ?_ NB350_349.out _; (with_reducible repeat (first | apply kN_ | apply kD_ | apply kA_)); refine blk_far ?_ NB350_349.out _; (with_reducible repeat (first | apply kN_ | apply kD_ | apply kA_)); refine blk_far ?_ NB350_349.out _; (with_reducible repeat (first | apply kN_ | apply kD_ | apply kA_)); refine blk_far ?_ NB350_349.out _; (with_reducible repeat (first | apply kN_ | apply kD_ | apply kA_)); exact BK350.out) hb); replace HB := aM_ (below_step hB_ hb); (try clear hb); (try clear hb2); (try clear hk); (try clear hi); have hz24 := cf13_ BK349.out; have hz25 := cf4_ BK350.out; have p363 : 0 ≤ (2 : Int) := (by omega); have q363 : 2 < (t346.length : Int) := of_decide_eq_true yactParseHandx13_4_; obtain ⟨ad363, e363, hx363_0⟩ := Kd.at_string (Kd.R_reads' HO348.out).2.2 2 p363 q363; obtain rfl : ad351 = ad363 := (by injection e363); (try simp only [show (2 : Int).toNat = 2 from rfl, Nat.reduceMul, Nat.reduceEqDiff, Go.Addr.add, ↓reduceIte] at hx363_0); have qi363 : (2 < t346.length) = True := eq_true (by omega); (try rw [show ((2 : Int)).toNat = 2 from rfl] at hx363_0); have hn363_0 : ad351.block ≠ gb349 := Kd.own_blk (Kd.R_ne HO348.out BK349.out (by decide)); have hn363_1 : ad351.block ≠ gb349 := Kd.own_blk (Kd.R_ne HO348.out BK349.out (by decide)); have hn363_2 : ad351.block ≠ gb350 := Kd.own_blk (Kd.R_ne HO348.out BK350.out (by decide)); replace hx363_0 := (cell_far (p := ⟨gb349, 6, none⟩) (by first | (rw [add_block]; exact hn363_0) | (show (Addr.add _ _).block ≠ _; rw [add_block]; exact hn363_0) | exact hn363_0) (.int .i64 t360)).trans hx363_0; replace hx363_0 := (cell_far (p := ⟨gb349, 7, none⟩) (by first | (rw [add_block]; exact hn363_1) | (show (Addr.add _ _).block ≠ _; rw [add_block]; exact hn363_1) | exact hn363_1) (.int .i64 t361)).trans hx363_0; replace hx363_0 := (cell_far (p := ⟨gb350, 1, none⟩) (by first | (rw [add_block]; exact hn363_2) | (show (Addr.add _ _).block ≠ _; rw [add_block]; exact hn363_2) | exact hn363_2) (.bool t362)).trans hx363_0; clear hn363_0; clear hn363_1; clear hn363_2; replace p363 := eq_true p363; replace q363 := eq_true q363) | ((with_reducible refine gate_callee (f := 24) rfl ?_); refine goesM_ (some 39) Tryz.func24 #[.string (rdOf ByteArray.empty t346 2)] ?_; (with_reducible refine (impl_ParsePlace.calls k (rdOf ByteArray.empty t346 2) t364 t365 t366 t367 _ A9.out).mono ?_); rintro e w26 ⟨rfl, hb⟩; refine ⟨_, rfl, ?_⟩; replace HO348 := aM_ (Kd.R_below (by (with_reducible repeat (first | apply Kd.R_alloc | apply Kd.R_drewN | apply Kd.R_drew)); exact (Kd.R_mono (Kd.R_mono (Kd.R_far (p := ⟨gb350, 1, none⟩) (Kd.R_far (p := ⟨gb349, 7, none⟩) (Kd.R_far (p := ⟨gb349, 6, none⟩) (Kd.R_types (Kd.R_types HO348.out BK349.out (by decide)) BK350.out (by decide)) (fun _ hk => hk.1.2) (.int .i64 t360)) (fun _ hk => hk.1.2) (.int .i64 t361)) (fun _ hk => hk.2) (.bool t362)) (fun _ h_ => h_.1)) (fun _ h_ => h_.1))) hb); replace BK345 := aM_ (blk_below (g := gb345) (kR_ BK345) hb); replace BK349 := aM_ (blk_below (g := gb349) (o := .cells #[.int .i64 t352, .int .i64 t353, .int .i64 t354, .int .i64 t355, .int .i64 t356, .bool t357, .int .i64 t360, .int .i64 t361, .int .i64 0, .int .i64 0, .bool false, .string (⟨#[]⟩ : ByteArray), .int .i64 0] 31 (0, 0)) (by (with_reducible repeat (first | apply kN_ | apply kD_ | apply kA_)); refine blk_far ?_ NB349_350.out _; (with_reducible repeat (first | apply kN_ | apply kD_ | apply kA_)); refine blk_put (cs := #[.int .i64 t352, .int .i64 t353, .int .i64 t354, .int .i64 t355, .int .i64 t356, .bool t357, .int .i64 t360, .int .i64 0, .int .i64 0, .int .i64 0, .bool false, .string (⟨#[]⟩ : ByteArray), .int .i64 0]) ?_ 7 _ rfl; (with_reducible repeat (first | apply kN_ | apply kD_ | apply kA_)); refine blk_put (cs := #[.int .i64 t352, .int .i64 t353, .int .i64 t354, .int .i64 t355, .int .i64 t356, .bool t357, .int .i64 0, .int .i64 0, .int .i64 0, .int .i64 0, .bool false, .string (⟨#[]⟩ : ByteArray), .int .i64 0]) ?_ 6 _ rfl; (with_reducible repeat (first | apply kN_ | apply kD_ | apply kA_)); exact BK349.out) hb); replace BK350 := aM_ (blk_below (g := gb350) (o := .cells #[.bool t358, .bool t362, .bool false, .bool false] 55 (0, 0)) (by (with_reducible repeat (first | apply kN_ | apply kD_ | apply kA_)); refine blk_put (cs := #[.bool t358, .bool false, .bool false, .bool false]) ?_ 1 _ rfl; (with_reducible repeat (first | apply kN_ | apply kD_ | apply kA_)); refine blk_far ?_ NB350_349.out _; (with_reducible repeat (first | apply kN_ | apply kD_ | apply kA_)); refine blk_far ?_ NB350_349.out _; (with_reducible repeat (first | apply kN_ | apply kD_ | apply kA_)); exact BK350.out) hb); replace HB := aM_ (below_step hB_ hb); (try clear hb); (try clear hb2); (try clear hk); (try clear hi); have hz27 := cf13_ BK349.out; have hz28 := cf4_ BK350.out; have p368 : 0 ≤ (3 : Int) := (by omega); have q368 : 3 < (t346.length : Int) := of_decide_eq_true yactParseHandx13_4_; obtain ⟨ad368, e368, hx368_0⟩ := Kd.at_string (Kd.R_reads' HO348.out).2.2 3 p368 q368; obtain rfl : ad351 = ad368 := (by injection e368); (try simp only [show (3 : Int).toNat = 3 from rfl, Nat.reduceMul, Nat.reduceEqDiff, Go.Addr.add, ↓reduceIte] at hx368_0); have qi368 : (3 < t346.length) = True := eq_true (by omega); (try rw [show ((3 : Int)).toNat = 3 from rfl] at hx368_0); have hn368_0 : ad351.block ≠ gb349 := Kd.own_blk (Kd.R_ne HO348.out BK349.out (by decide)); have hn368_1 : ad351.block ≠ gb349 := Kd.own_blk (Kd.R_ne HO348.out BK349.out (by decide)); have hn368_2 : ad351.block ≠ gb349 := Kd.own_blk (Kd.R_ne HO348.out BK349.out (by decide)); have hn368_3 : ad351.block ≠ gb350 := Kd.own_blk (Kd.R_ne HO348.out BK350.out (by decide)); replace hx368_0 := (cell_far (p := ⟨gb349, 8, none⟩) (by first | (rw [add_block]; exact hn368_0) | (show (Addr.add _ _).block ≠ _; rw [add_block]; exact hn368_0) | exact hn368_0) (.int .i64 t364)).trans hx368_0; replace hx368_0 := (cell_far (p := ⟨gb349, 9, none⟩) (by first | (rw [add_block]; exact hn368_1) | (show (Addr.add _ _).block ≠ _; rw [add_block]; exact hn368_1) | exact hn368_1) (.int .i64 t365)).trans hx368_0; replace hx368_0 := (cell_far (p := ⟨gb349, 10, none⟩) (by first | (rw [add_block]; exact hn368_2) | (show (Addr.add _ _).block ≠ _; rw [add_block]; exact hn368_2) | exact hn368_2) (.bool t366)).trans hx368_0; replace hx368_0 := (cell_far (p := ⟨gb350, 2, none⟩) (by first | (rw [add_block]; exact hn368_3) | (show (Addr.add _ _).block ≠ _; rw [add_block]; exact hn368_3) | exact hn368_3) (.bool t367)).trans hx368_0; clear hn368_0; clear hn368_1; clear hn368_2; clear hn368_3; replace p368 := eq_true p368; replace q368 := eq_true q368) | ((with_reducible refine gate_callee (f := 25) rfl ?_); refine goesM_ (some 48) Tryz.func25 #[.string (rdOf ByteArray.empty t346 3)] ?_; (with_reducible refine (impl_ParseMove.calls k (rdOf ByteArray.empty t346 3) t369 t370 t371 _ ?side1 A11.out).mono ?_); (case side1 => refine TabW.weak (a := 2) ?_ (by decide); exact TabW.below HT.out hB_); rintro e w29 ⟨rfl, hb⟩; refine ⟨_, rfl, ?_⟩; replace HO348 := aM_ (Kd.R_below (by (with_reducible repeat (first | apply Kd.R_alloc | apply Kd.R_drewN | apply Kd.R_drew)); exact (Kd.R_mono (Kd.R_mono (Kd.R_far (p := ⟨gb350, 2, none⟩) (Kd.R_far (p := ⟨gb349, 10, none⟩) (Kd.R_far (p := ⟨gb349, 9, none⟩) (Kd.R_far (p := ⟨gb349, 8, none⟩) (Kd.R_types (Kd.R_types HO348.out BK349.out (by decide)) BK350.out (by decide)) (fun _ hk => hk.1.2) (.int .i64 t364)) (fun _ hk => hk.1.2) (.int .i64 t365)) (fun _ hk => hk.1.2) (.bool t366)) (fun _ hk => hk.2) (.bool t367)) (fun _ h_ => h_.1)) (fun _ h_ => h_.1))) hb); replace BK345 := aM_ (blk_below (g := gb345) (kR_ BK345) hb); replace BK349 := aM_ (blk_below (g := gb349) (o := .cells #[.int .i64 t352, .int .i64 t353, .int .i64 t354, .int .i64 t355, .int .i64 t356, .bool t357, .int .i64 t360, .int .i64 t361, .int .i64 t364, .int .i64 t365, .bool t366, .string (⟨#[]⟩ : ByteArray), .int .i64 0] 31 (0, 0)) (by (with_reducible repeat (first | apply kN_ | apply kD_ | apply kA_)); refine blk_far ?_ NB349_350.out _; (with_reducible repeat (first | apply kN_ | apply kD_ | apply kA_)); refine blk_put (cs := #[.int .i64 t352, .int .i64 t353, .int .i64 t354, .int .i64 t355, .int .i64 t356, .bool t357, .int .i64 t360, .int .i64 t361, .int .i64 t364, .int .i64 t365, .bool false, .string (⟨#[]⟩ : ByteArray), .int .i64 0]) ?_ 10 _ rfl; (with_reducible repeat (first | apply kN_ | apply kD_ | apply kA_)); refine blk_put (cs := #[.int .i64 t352, .int .i64 t353, .int .i64 t354, .int .i64 t355, .int .i64 t356, .bool t357, .int .i64 t360, .int .i64 t361, .int .i64 t364, .int .i64 0, .bool false, .string (⟨#[]⟩ : ByteArray), .int .i64 0]) ?_ 9 _ rfl; (with_reducible repeat (first | apply kN_ | apply kD_ | apply kA_)); refine blk_put (cs := #[.int .i64 t352, .int .i64 t353, .int .i64 t354, .int .i64 t355, .int .i64 t356, .bool t357, .int .i64 t360, .int .i64 t361, .int .i64 0, .int .i64 0, .bool false, .string (⟨#[]⟩ : ByteArray), .int .i64 0]) ?_ 8 _ rfl; (with_reducible repeat (first | apply kN_ | apply kD_ | apply kA_)); exact BK349.out) hb); replace BK350 := aM_ (blk_below (g := gb350) (o := .cells #[.bool t358, .bool t362, .bool t367, .bool false] 55 (0, 0)) (by (with_reducible repeat (first | apply kN_ | apply kD_ | apply kA_)); refine blk_put (cs := #[.bool t358, .bool t362, .bool false, .bool false]) ?_ 2 _ rfl; (with_reducible repeat (first | apply kN_ | apply kD_ | apply kA_)); refine blk_far ?_ NB350_349.out _; (with_reducible repeat (first | apply kN_ | apply kD_ | apply kA_)); refine blk_far ?_ NB350_349.out _; (with_reducible repeat (first | apply kN_ | apply kD_ | apply kA_)); refine blk_far ?_ NB350_349.out _; (with_reducible repeat (first | apply kN_ | apply kD_ | apply kA_)); exact BK350.out) hb); replace HB := aM_ (below_step hB_ hb); (try clear hb); (try clear hb2); (try clear hk); (try clear hi); have hz30 := cf13_ BK349.out; have hz31 := cf4_ BK350.out))
      try simp only [Act.put, List.setIfInBounds_toArray, List.set_cons_zero, List.set_cons_succ]
      go_loopg [8, 54] k (fun kq v8 v54 w' => ∃ (x8_1 : Int) (x54_1 : Int) (x346000_1 : Int) (x346001_1 : Int) (x346002_1 : Int) (x346003_1 : Int) (x346004_1 : Int) (x346005_1 : Bool) (x346006_1 : Int) (x346007_1 : Int) (x346008_1 : Int) (x346009_1 : Int) (x346010_1 : Bool) (x346011_1 : ByteArray) (x346012_1 : Int), v8 = .int .i64 x8_1 ∧ v54 = .int .i64 x54_1 ∧ Aside0 (impl_readHand.l0 kq t346 x8_1 x54_1 t352 t353 t354 t355 t356 t357 t360 t361 t364 t365 t366 t369 t370 t358 t362 t367 t371 = some (r1, r2, r3, r4, r5, r6, r7, r8, r9, r10, r11, r12, r13, r14, r15)) ∧ Aside0 (kq ≤ k) ∧ Aside0 (Kd.R Kd.string 9 w' w.heap.size (fun _ => True) (.slice (some ad351) t346.length co14) t346) ∧ Aside0 (w'.heap[gb345]? = some (.cells #[.int .i64 x346000_1, .int .i64 x346001_1, .int .i64 x346002_1, .int .i64 x346003_1, .int .i64 x346004_1, .bool x346005_1, .int .i64 x346006_1, .int .i64 x346007_1, .int .i64 x346008_1, .int .i64 x346009_1, .bool x346010_1, .string x346011_1, .int .i64 x346012_1] 31 (0, 0))) ∧ Aside0 (w'.heap[gb349]? = some (.cells #[.int .i64 t352, .int .i64 t353, .int .i64 t354, .int .i64 t355, .int .i64 t356, .bool t357, .int .i64 t360, .int .i64 t361, .int .i64 t364, .int .i64 t365, .bool t366, .string t369, .int .i64 t370] 31 (0, 0))) ∧ Aside0 (Below w.heap.size w w'))
      case atStart => exact ⟨(0), (0), (0), (0), (0), (0), (0), (false), (0), (0), (0), (0), (false), ((⟨#[]⟩ : ByteArray)), (0), yactParseHandx13_5_, yactParseHandx13_5_, H', ⟨Nat.le_refl _⟩, ⟨by (with_reducible repeat (first | apply Kd.R_alloc | apply Kd.R_drewN | apply Kd.R_drew)); exact Kd.R_mono (Kd.R_far (p := ⟨gb350, 3, none⟩) (Kd.R_far (p := ⟨gb349, 12, none⟩) (Kd.R_far (p := ⟨gb349, 11, none⟩) (Kd.R_types (Kd.R_types HO348.out BK349.out (by decide)) BK350.out (by decide)) (fun _ hk => hk.1.2) (.string t369)) (fun _ hk => hk.1.2) (.int .i64 t370)) (fun _ hk => hk.2) (.bool t371)) (fun _ hk => trivial)⟩, ⟨by (with_reducible repeat (first | apply kN_ | apply kD_ | apply kA_)); refine blk_far ?_ NB345_350.out _; (with_reducible repeat (first | apply kN_ | apply kD_ | apply kA_)); refine blk_far ?_ NB345_349.out _; (with_reducible repeat (first | apply kN_ | apply kD_ | apply kA_)); refine blk_far ?_ NB345_349.out _; (with_reducible repeat (first | apply kN_ | apply kD_ | apply kA_)); exact BK345.out⟩, ⟨by (with_reducible repeat (first | apply kN_ | apply kD_ | apply kA_)); refine blk_far ?_ NB349_350.out _; (with_reducible repeat (first | apply kN_ | apply kD_ | apply kA_)); refine blk_put (cs := #[.int .i64 t352, .int .i64 t353, .int .i64 t354, .int .i64 t355, .int .i64 t356, .bool t357, .int .i64 t360, .int .i64 t361, .int .i64 t364, .int .i64 t365, .bool t366, .string t369, .int .i64 0]) ?_ 12 _ rfl; (with_reducible repeat (first | apply kN_ | apply kD_ | apply kA_)); refine blk_put (cs := #[.int .i64 t352, .int .i64 t353, .int .i64 t354, .int .i64 t355, .int .i64 t356, .bool t357, .int .i64 t360, .int .i64 t361, .int .i64 t364, .int .i64 t365, .bool t366, .string (⟨#[]⟩ : ByteArray), .int .i64 0]) ?_ 11 _ rfl; (with_reducible repeat (first | apply kN_ | apply kD_ | apply kA_)); exact BK349.out⟩, ⟨hB_⟩⟩
      case round =>
       clear H'
       (try clear c3);(try clear c3b0);(try clear c3b1);(try clear c4);(try clear c4b0);(try clear c4b1);(try clear c6);(try clear c6b0);(try clear c6b1);(try clear c8);(try clear c8b0);(try clear c8b1);(try clear c10);(try clear c10b0);(try clear c10b1);(try clear hcz20_0);(try clear hcz20_1);(try clear hcz20_10);(try clear hcz20_11);(try clear hcz20_12);(try clear hcz20_2);(try clear hcz20_3);(try clear hcz20_4);(try clear hcz20_5);(try clear hcz20_6);(try clear hcz20_7);(try clear hcz20_8);(try clear hcz20_9);(try clear hcz22_0);(try clear hcz22_1);(try clear hcz22_2);(try clear hcz22_3);(try clear hcz24_0);(try clear hcz24_1);(try clear hcz24_10);(try clear hcz24_11);(try clear hcz24_12);(try clear hcz24_2);(try clear hcz24_3);(try clear hcz24_4);(try clear hcz24_5);(try clear hcz24_6);(try clear hcz24_7);(try clear hcz24_8);(try clear hcz24_9);(try clear hcz25_0);(try clear hcz25_1);(try clear hcz25_2);(try clear hcz25_3);(try clear hcz27_0);(try clear hcz27_1);(try clear hcz27_10);(try clear hcz27_11);(try clear hcz27_12);(try clear hcz27_2);(try clear hcz27_3);(try clear hcz27_4);(try clear hcz27_5);(try clear hcz27_6);(try clear hcz27_7);(try clear hcz27_8);(try clear hcz27_9);(try clear hcz28_0);(try clear hcz28_1);(try clear hcz28_2);(try clear hcz28_3);(try clear hcz30_0);(try clear hcz30_1);(try clear hcz30_10);(try clear hcz30_11);(try clear hcz30_12);(try clear hcz30_2);(try clear hcz30_3);(try clear hcz30_4);(try clear hcz30_5);(try clear hcz30_6);(try clear hcz30_7);(try clear hcz30_8);(try clear hcz30_9);(try clear hcz31_0);(try clear hcz31_1);(try clear hcz31_2);(try clear hcz31_3);(try clear hfz20_0);(try clear hfz20_1);(try clear hfz20_10);(try clear hfz20_11);(try clear hfz20_12);(try clear hfz20_2);(try clear hfz20_3);(try clear hfz20_4);(try clear hfz20_5);(try clear hfz20_6);(try clear hfz20_7);(try clear hfz20_8);(try clear hfz20_9);(try clear hfz22_0);(try clear hfz22_1);(try clear hfz22_2);(try clear hfz22_3);(try clear hfz24_0);(try clear hfz24_1);(try clear hfz24_10);(try clear hfz24_11);(try clear hfz24_12);(try clear hfz24_2);(try clear hfz24_3);(try clear hfz24_4);(try clear hfz24_5);(try clear hfz24_6);(try clear hfz24_7);(try clear hfz24_8);(try clear hfz24_9);(try clear hfz25_0);(try clear hfz25_1);(try clear hfz25_2);(try clear hfz25_3);(try clear hfz27_0);(try clear hfz27_1);(try clear hfz27_10);(try clear hfz27_11);(try clear hfz27_12);(try clear hfz27_2);(try clear hfz27_3);(try clear hfz27_4);(try clear hfz27_5);(try clear hfz27_6);(try clear hfz27_7);(try clear hfz27_8);(try clear hfz27_9);(try clear hfz28_0);(try clear hfz28_1);(try clear hfz28_2);(try clear hfz28_3);(try clear hfz30_0);(try clear hfz30_1);(try clear hfz30_10);(try clear hfz30_11);(try clear hfz30_12);(try clear hfz30_2);(try clear hfz30_3);(try clear hfz30_4);(try clear hfz30_5);(try clear hfz30_6);(try clear hfz30_7);(try clear hfz30_8);(try clear hfz30_9);(try clear hfz31_0);(try clear hfz31_1);(try clear hfz31_2);(try clear hfz31_3);(try clear hx351_0)
       (try clear hx359_0);(try clear hx363_0);(try clear hx368_0);(try clear p351);(try clear p359);(try clear p363);(try clear p368);(try clear q351);(try clear q359);(try clear q363);(try clear q368)
       obtain ⟨x8_1, x54_1, x346000_1, x346001_1, x346002_1, x346003_1, x346004_1, x346005_1, x346006_1, x346007_1, x346008_1, x346009_1, x346010_1, x346011_1, x346012_1, rfl, rfl, HA, HK1, HO_5, BK345, BK349, HB⟩ := hrel
       cases gk with
       | zero => exact absurd HA.out (by simp [impl_readHand.l0])
       | succ k1 =>
        have H := HA.out
        clear HA
        simp only [impl_readHand.l0] at H
        by_cases c32 : x54_1 < 4
        ·rw [if_pos c32] at H
         have c32b0 : decide (x54_1 < 4) = true := decide_eq_true c32
         have c32b8 : (x54_1 < 4) = True := eq_true c32
         clear c32
         by_cases c33 : 0 ≤ x54_1
         ·rw [if_pos c33] at H
          have c33b0 : decide (0 ≤ x54_1) = true := decide_eq_true c33
          have c33b8 : (0 ≤ x54_1) = True := eq_true c33
          clear c33
          by_cases c34 : ar4_ t358 t362 t367 t371 x54_1 = true
          ·rw [if_pos c34] at H
           have c34b0 : ar4_ t358 t362 t367 t371 x54_1 = true := c34
           clear c34
           by_cases c35 : x54_1 < (t346.length : Int)
           ·rw [if_pos c35] at H
            have c35b0 : decide (x54_1 < (t346.length : Int)) = true := decide_eq_true c35
            clear c35
            have H' := Aside0.mk H
            clear H
            have p372 : 0 ≤ (x54_1 : Int) := of_decide_eq_true yactParseHandx13_4_
            have q372 : x54_1 < (t346.length : Int) := of_decide_eq_true yactParseHandx13_4_
            obtain ⟨ad372, e372, hx372_0⟩ := Kd.at_string (Kd.R_reads' HO_5.out).2.2 x54_1 p372 q372
            obtain rfl : ad351 = ad372 := (by injection e372)
            replace p372 := eq_true p372
            replace q372 := eq_true q372
            go_wp2
            go_roundg k1
            case measure => have := HK1.out; omega
            case rel => exact ⟨(wrap64 (x8_1 + (wrap64 (((rdOf ByteArray.empty t346 x54_1).size : Int) + 1)))), (wrap64 (x54_1 + 1)), (x346000_1), (x346001_1), (x346002_1), (x346003_1), (x346004_1), (x346005_1), (x346006_1), (x346007_1), (x346008_1), (x346009_1), (x346010_1), (x346011_1), (x346012_1), yactParseHandx13_5_, yactParseHandx13_5_, H', ⟨by have := HK1.out; omega⟩, ⟨by (with_reducible repeat (first | apply Kd.R_alloc | apply Kd.R_drewN | apply Kd.R_drew)); exact HO_5.out⟩, ⟨kP_⟩, ⟨kP_⟩, ⟨hB_⟩⟩
           ·rw [if_neg c35] at H
            exact absurd H (by simp)
          ·rw [if_neg c34] at H
           have c34b0 : ar4_ t358 t362 t367 t371 x54_1 = false := by simpa using c34
           clear c34
           simp only [Option.some.injEq, Prod.mk.injEq] at H
           obtain ⟨rfl, rfl, rfl, rfl, rfl, rfl, rfl, rfl, rfl, rfl, rfl, rfl, rfl, rfl, rfl⟩ := H
           clear BK349
           have hz36 := cf13_ BK345.out
           go_wp2
           refine bodyPost_ret (results_ctt rfl _ _ gb345 31 #[.int .i64 0, .int .i64 0, .int .i64 0, .int .i64 0, .int .i64 0, .bool false, .int .i64 0, .int .i64 0, .int .i64 0, .int .i64 0, .bool false, .string (⟨#[]⟩ : ByteArray), .int .i64 0] (0, 0) _ rfl (by (with_reducible repeat (first | apply kN_ | apply kD_ | apply kA_)); refine blk_put (cs := #[.int .i64 0, .int .i64 0, .int .i64 0, .int .i64 0, .int .i64 0, .bool false, .int .i64 0, .int .i64 0, .int .i64 0, .int .i64 0, .bool false, .string (⟨#[]⟩ : ByteArray), .int .i64 x346012_1]) ?_ 12 _ rfl; (with_reducible repeat (first | apply kN_ | apply kD_ | apply kA_)); refine blk_put (cs := #[.int .i64 0, .int .i64 0, .int .i64 0, .int .i64 0, .int .i64 0, .bool false, .int .i64 0, .int .i64 0, .int .i64 0, .int .i64 0, .bool false, .string x346011_1, .int .i64 x346012_1]) ?_ 11 _ rfl; (with_reducible repeat (first | apply kN_ | apply kD_ | apply kA_)); refine blk_put (cs := #[.int .i64 0, .int .i64 0, .int .i64 0, .int .i64 0, .int .i64 0, .bool false, .int .i64 0, .int .i64 0, .int .i64 0, .int .i64 0, .bool x346010_1, .string x346011_1, .int .i64 x346012_1]) ?_ 10 _ rfl; (with_reducible repeat (first | apply kN_ | apply kD_ | apply kA_)); refine blk_put (cs := #[.int .i64 0, .int .i64 0, .int .i64 0, .int .i64 0, .int .i64 0, .bool false, .int .i64 0, .int .i64 0, .int .i64 0, .int .i64 x346009_1, .bool x346010_1, .string x346011_1, .int .i64 x346012_1]) ?_ 9 _ rfl; (with_reducible repeat (first | apply kN_ | apply kD_ | apply kA_)); refine blk_put (cs := #[.int .i64 0, .int .i64 0, .int .i64 0, .int .i64 0, .int .i64 0, .bool false, .int .i64 0, .int .i64 0, .int .i64 x346008_1, .int .i64 x346009_1, .bool x346010_1, .string x346011_1, .int .i64 x346012_1]) ?_ 8 _ rfl; (with_reducible repeat (first | apply kN_ | apply kD_ | apply kA_)); refine blk_put (cs := #[.int .i64 0, .int .i64 0, .int .i64 0, .int .i64 0, .int .i64 0, .bool false, .int .i64 0, .int .i64 x346007_1, .int .i64 x346008_1, .int .i64 x346009_1, .bool x346010_1, .string x346011_1, .int .i64 x346012_1]) ?_ 7 _ rfl; (with_reducible repeat (first | apply kN_ | apply kD_ | apply kA_)); refine blk_put (cs := #[.int .i64 0, .int .i64 0, .int .i64 0, .int .i64 0, .int .i64 0, .bool false, .int .i64 x346006_1, .int .i64 x346007_1, .int .i64 x346008_1, .int .i64 x346009_1, .bool x346010_1, .string x346011_1, .int .i64 x346012_1]) ?_ 6 _ rfl; (with_reducible repeat (first | apply kN_ | apply kD_ | apply kA_)); refine blk_put (cs := #[.int .i64 0, .int .i64 0, .int .i64 0, .int .i64 0, .int .i64 0, .bool x346005_1, .int .i64 x346006_1, .int .i64 x346007_1, .int .i64 x346008_1, .int .i64 x346009_1, .bool x346010_1, .string x346011_1, .int .i64 x346012_1]) ?_ 5 _ rfl; (with_reducible repeat (first | apply kN_ | apply kD_ | apply kA_)); refine blk_put (cs := #[.int .i64 0, .int .i64 0, .int .i64 0, .int .i64 0, .int .i64 x346004_1, .bool x346005_1, .int .i64 x346006_1, .int .i64 x346007_1, .int .i64 x346008_1, .int .i64 x346009_1, .bool x346010_1, .string x346011_1, .int .i64 x346012_1]) ?_ 4 _ rfl; (with_reducible repeat (first | apply kN_ | apply kD_ | apply kA_)); refine blk_put (cs := #[.int .i64 0, .int .i64 0, .int .i64 0, .int .i64 x346003_1, .int .i64 x346004_1, .bool x346005_1, .int .i64 x346006_1, .int .i64 x346007_1, .int .i64 x346008_1, .int .i64 x346009_1, .bool x346010_1, .string x346011_1, .int .i64 x346012_1]) ?_ 3 _ rfl; (with_reducible repeat (first | apply kN_ | apply kD_ | apply kA_)); refine blk_put (cs := #[.int .i64 0, .int .i64 0, .int .i64 x346002_1, .int .i64 x346003_1, .int .i64 x346004_1, .bool x346005_1, .int .i64 x346006_1, .int .i64 x346007_1, .int .i64 x346008_1, .int .i64 x346009_1, .bool x346010_1, .string x346011_1, .int .i64 x346012_1]) ?_ 2 _ rfl; (with_reducible repeat (first | apply kN_ | apply kD_ | apply kA_)); refine blk_put (cs := #[.int .i64 0, .int .i64 x346001_1, .int .i64 x346002_1, .int .i64 x346003_1, .int .i64 x346004_1, .bool x346005_1, .int .i64 x346006_1, .int .i64 x346007_1, .int .i64 x346008_1, .int .i64 x346009_1, .bool x346010_1, .string x346011_1, .int .i64 x346012_1]) ?_ 1 _ rfl; (with_reducible repeat (first | apply kN_ | apply kD_ | apply kA_)); refine blk_put (cs := #[.int .i64 x346000_1, .int .i64 x346001_1, .int .i64 x346002_1, .int .i64 x346003_1, .int .i64 x346004_1, .bool x346005_1, .int .i64 x346006_1, .int .i64 x346007_1, .int .i64 x346008_1, .int .i64 x346009_1, .bool x346010_1, .string x346011_1, .int .i64 x346012_1]) ?_ 0 _ rfl; (with_reducible repeat (first | apply kN_ | apply kD_ | apply kA_)); exact BK345.out) Tryz.underlying31 rfl (by kernel_rfl)) rfl ?_
           exact ⟨by first | (exact rT_) | (rw [show wrap64 (3 + x54_1) = 3 + x54_1 from IntWalk.wrap64_in _ (by have a1_ := of_eq_true c33b8; have a2_ := of_eq_true c32b8; omega)]), hB_⟩
         ·rw [if_neg c33] at H
          exact absurd H (by simp)
        ·rw [if_neg c32] at H
         have c32b0 : decide (x54_1 < 4) = false := decide_eq_false c32
         clear c32
         simp only [Option.some.injEq, Prod.mk.injEq] at H
         obtain ⟨rfl, rfl, rfl, rfl, rfl, rfl, rfl, rfl, rfl, rfl, rfl, rfl, rfl, rfl, rfl⟩ := H
         have hnb37 := NB349_345.out
         have hnc37 := NB345_349.out
         have hz38 := cf13_ BK349.out
         clear BK349
         have hz39 := cf13_ BK345.out
         go_wp2
         refine bodyPost_ret (results_ctt rfl _ _ gb345 31 #[.int .i64 t352, .int .i64 t353, .int .i64 t354, .int .i64 t355, .int .i64 t356, .bool t357, .int .i64 t360, .int .i64 t361, .int .i64 t364, .int .i64 t365, .bool t366, .string t369, .int .i64 t370] (0, 0) _ rfl (by (with_reducible repeat (first | apply kN_ | apply kD_ | apply kA_)); refine blk_put (cs := #[.int .i64 t352, .int .i64 t353, .int .i64 t354, .int .i64 t355, .int .i64 t356, .bool t357, .int .i64 t360, .int .i64 t361, .int .i64 t364, .int .i64 t365, .bool t366, .string t369, .int .i64 x346012_1]) ?_ 12 _ rfl; (with_reducible repeat (first | apply kN_ | apply kD_ | apply kA_)); refine blk_put (cs := #[.int .i64 t352, .int .i64 t353, .int .i64 t354, .int .i64 t355, .int .i64 t356, .bool t357, .int .i64 t360, .int .i64 t361, .int .i64 t364, .int .i64 t365, .bool t366, .string x346011_1, .int .i64 x346012_1]) ?_ 11 _ rfl; (with_reducible repeat (first | apply kN_ | apply kD_ | apply kA_)); refine blk_put (cs := #[.int .i64 t352, .int .i64 t353, .int .i64 t354, .int .i64 t355, .int .i64 t356, .bool t357, .int .i64 t360, .int .i64 t361, .int .i64 t364, .int .i64 t365, .bool x346010_1, .string x346011_1, .int .i64 x346012_1]) ?_ 10 _ rfl; (with_reducible repeat (first | apply kN_ | apply kD_ | apply kA_)); refine blk_put (cs := #[.int .i64 t352, .int .i64 t353, .int .i64 t354, .int .i64 t355, .int .i64 t356, .bool t357, .int .i64 t360, .int .i64 t361, .int .i64 t364, .int .i64 x346009_1, .bool x346010_1, .string x346011_1, .int .i64 x346012_1]) ?_ 9 _ rfl; (with_reducible repeat (first | apply kN_ | apply kD_ | apply kA_)); refine blk_put (cs := #[.int .i64 t352, .int .i64 t353, .int .i64 t354, .int .i64 t355, .int .i64 t356, .bool t357, .int .i64 t360, .int .i64 t361, .int .i64 x346008_1, .int .i64 x346009_1, .bool x346010_1, .string x346011_1, .int .i64 x346012_1]) ?_ 8 _ rfl; (with_reducible repeat (first | apply kN_ | apply kD_ | apply kA_)); refine blk_put (cs := #[.int .i64 t352, .int .i64 t353, .int .i64 t354, .int .i64 t355, .int .i64 t356, .bool t357, .int .i64 t360, .int .i64 x346007_1, .int .i64 x346008_1, .int .i64 x346009_1, .bool x346010_1, .string x346011_1, .int .i64 x346012_1]) ?_ 7 _ rfl; (with_reducible repeat (first | apply kN_ | apply kD_ | apply kA_)); refine blk_put (cs := #[.int .i64 t352, .int .i64 t353, .int .i64 t354, .int .i64 t355, .int .i64 t356, .bool t357, .int .i64 x346006_1, .int .i64 x346007_1, .int .i64 x346008_1, .int .i64 x346009_1, .bool x346010_1, .string x346011_1, .int .i64 x346012_1]) ?_ 6 _ rfl; (with_reducible repeat (first | apply kN_ | apply kD_ | apply kA_)); refine blk_put (cs := #[.int .i64 t352, .int .i64 t353, .int .i64 t354, .int .i64 t355, .int .i64 t356, .bool x346005_1, .int .i64 x346006_1, .int .i64 x346007_1, .int .i64 x346008_1, .int .i64 x346009_1, .bool x346010_1, .string x346011_1, .int .i64 x346012_1]) ?_ 5 _ rfl; (with_reducible repeat (first | apply kN_ | apply kD_ | apply kA_)); refine blk_put (cs := #[.int .i64 t352, .int .i64 t353, .int .i64 t354, .int .i64 t355, .int .i64 x346004_1, .bool x346005_1, .int .i64 x346006_1, .int .i64 x346007_1, .int .i64 x346008_1, .int .i64 x346009_1, .bool x346010_1, .string x346011_1, .int .i64 x346012_1]) ?_ 4 _ rfl; (with_reducible repeat (first | apply kN_ | apply kD_ | apply kA_)); refine blk_put (cs := #[.int .i64 t352, .int .i64 t353, .int .i64 t354, .int .i64 x346003_1, .int .i64 x346004_1, .bool x346005_1, .int .i64 x346006_1, .int .i64 x346007_1, .int .i64 x346008_1, .int .i64 x346009_1, .bool x346010_1, .string x346011_1, .int .i64 x346012_1]) ?_ 3 _ rfl; (with_reducible repeat (first | apply kN_ | apply kD_ | apply kA_)); refine blk_put (cs := #[.int .i64 t352, .int .i64 t353, .int .i64 x346002_1, .int .i64 x346003_1, .int .i64 x346004_1, .bool x346005_1, .int .i64 x346006_1, .int .i64 x346007_1, .int .i64 x346008_1, .int .i64 x346009_1, .bool x346010_1, .string x346011_1, .int .i64 x346012_1]) ?_ 2 _ rfl; (with_reducible repeat (first | apply kN_ | apply kD_ | apply kA_)); refine blk_put (cs := #[.int .i64 t352, .int .i64 x346001_1, .int .i64 x346002_1, .int .i64 x346003_1, .int .i64 x346004_1, .bool x346005_1, .int .i64 x346006_1, .int .i64 x346007_1, .int .i64 x346008_1, .int .i64 x346009_1, .bool x346010_1, .string x346011_1, .int .i64 x346012_1]) ?_ 1 _ rfl; (with_reducible repeat (first | apply kN_ | apply kD_ | apply kA_)); refine blk_put (cs := #[.int .i64 x346000_1, .int .i64 x346001_1, .int .i64 x346002_1, .int .i64 x346003_1, .int .i64 x346004_1, .bool x346005_1, .int .i64 x346006_1, .int .i64 x346007_1, .int .i64 x346008_1, .int .i64 x346009_1, .bool x346010_1, .string x346011_1, .int .i64 x346012_1]) ?_ 0 _ rfl; (with_reducible repeat (first | apply kN_ | apply kD_ | apply kA_)); exact BK345.out) Tryz.underlying31 rfl (by kernel_rfl)) rfl ?_
         exact ⟨rT_, hB_⟩
     ·rw [if_neg c10] at H
      exact absurd H (by simp)
    ·rw [if_neg c8] at H
     exact absurd H (by simp)
   ·rw [if_neg c6] at H
    exact absurd H (by simp)
  ·rw [if_neg c4] at H
   exact absurd H (by simp)
 ·rw [if_neg c3] at H
  have c3b0 : ((t346.length : Int) == 4) = false := beq_eq_false_iff_ne.mpr c3
  have c3b1 : ((t346.length : Int) != 4) = true := bne_iff_ne.mpr c3
  simp only [Option.some.injEq, Prod.mk.injEq] at H
  obtain ⟨rfl, rfl, rfl, rfl, rfl, rfl, rfl, rfl, rfl, rfl, rfl, rfl, rfl, rfl, rfl⟩ := H
  go_enter Tryz.func10, Tryz.ntmps10
  go_wp2_with (first | ((with_reducible refine gate_dst (N := 2) rfl ?_); refine box_event ?hg (N := 2) ?hd (cs := #[.int .i64 0, .int .i64 0, .int .i64 0, .int .i64 0, .int .i64 0, .bool false, .int .i64 0, .int .i64 0, .int .i64 0, .int .i64 0, .bool false, .string (⟨#[]⟩ : ByteArray), .int .i64 0]) (t := 31) ?hr ?_; (case hd => rfl); (case hg => rfl); (case hr => first | (go_simp; done) | (go_simp; rfl)); intro gb345 hg w40 hbox hb; have BK345 := aM_ (hbox); have GW345 := aM_ (gw_ w hg); have GE345 := aM_ (gw_ w hg); replace HB := aM_ (below_step hB_ hb); clear hb hbox hg) | ((with_reducible refine gate_callee (f := 21) rfl ?_); refine goesM_ (some 12) Tryz.func21 #[.string a0, .string (⟨#[47]⟩ : ByteArray)] ?_; (with_reducible refine (strings_Split.calls a0 (⟨#[47]⟩ : ByteArray) t346 _ ?side1 A2.out).mono ?_); (case side1 => exact TabW.below HT.out hB_); rintro e w41 ⟨v347, rfl, ho0, hb⟩; refine ⟨_, rfl, ?_⟩; have HO348 := aM_ (Kd.R_lower ho0 (below_size hB_)); replace BK345 := aM_ (blk_below (g := gb345) (kR_ BK345) hb); replace HB := aM_ (below_step hB_ hb); (try clear hb); (try clear hb2); (try clear hk); (try clear hi); (try clear ho0); obtain ⟨Ao42, co42, eo42⟩ := Kd.R_slice HO348.out; subst eo42; have hz43 := cf13_ BK345.out))
  refine bodyPost_ret (results_ctt rfl _ _ gb345 31 #[.int .i64 0, .int .i64 0, .int .i64 0, .int .i64 0, .int .i64 0, .bool false, .int .i64 0, .int .i64 0, .int .i64 0, .int .i64 0, .bool false, .string (⟨#[]⟩ : ByteArray), .int .i64 0] (0, 0) _ rfl (by (with_reducible repeat (first | apply kN_ | apply kD_ | apply kA_)); refine blk_put (cs := #[.int .i64 0, .int .i64 0, .int .i64 0, .int .i64 0, .int .i64 0, .bool false, .int .i64 0, .int .i64 0, .int .i64 0, .int .i64 0, .bool false, .string (⟨#[]⟩ : ByteArray), .int .i64 0]) ?_ 12 _ rfl; (with_reducible repeat (first | apply kN_ | apply kD_ | apply kA_)); refine blk_put (cs := #[.int .i64 0, .int .i64 0, .int .i64 0, .int .i64 0, .int .i64 0, .bool false, .int .i64 0, .int .i64 0, .int .i64 0, .int .i64 0, .bool false, .string (⟨#[]⟩ : ByteArray), .int .i64 0]) ?_ 11 _ rfl; (with_reducible repeat (first | apply kN_ | apply kD_ | apply kA_)); refine blk_put (cs := #[.int .i64 0, .int .i64 0, .int .i64 0, .int .i64 0, .int .i64 0, .bool false, .int .i64 0, .int .i64 0, .int .i64 0, .int .i64 0, .bool false, .string (⟨#[]⟩ : ByteArray), .int .i64 0]) ?_ 10 _ rfl; (with_reducible repeat (first | apply kN_ | apply kD_ | apply kA_)); refine blk_put (cs := #[.int .i64 0, .int .i64 0, .int .i64 0, .int .i64 0, .int .i64 0, .bool false, .int .i64 0, .int .i64 0, .int .i64 0, .int .i64 0, .bool false, .string (⟨#[]⟩ : ByteArray), .int .i64 0]) ?_ 9 _ rfl; (with_reducible repeat (first | apply kN_ | apply kD_ | apply kA_)); refine blk_put (cs := #[.int .i64 0, .int .i64 0, .int .i64 0, .int .i64 0, .int .i64 0, .bool false, .int .i64 0, .int .i64 0, .int .i64 0, .int .i64 0, .bool false, .string (⟨#[]⟩ : ByteArray), .int .i64 0]) ?_ 8 _ rfl; (with_reducible repeat (first | apply kN_ | apply kD_ | apply kA_)); refine blk_put (cs := #[.int .i64 0, .int .i64 0, .int .i64 0, .int .i64 0, .int .i64 0, .bool false, .int .i64 0, .int .i64 0, .int .i64 0, .int .i64 0, .bool false, .string (⟨#[]⟩ : ByteArray), .int .i64 0]) ?_ 7 _ rfl; (with_reducible repeat (first | apply kN_ | apply kD_ | apply kA_)); refine blk_put (cs := #[.int .i64 0, .int .i64 0, .int .i64 0, .int .i64 0, .int .i64 0, .bool false, .int .i64 0, .int .i64 0, .int .i64 0, .int .i64 0, .bool false, .string (⟨#[]⟩ : ByteArray), .int .i64 0]) ?_ 6 _ rfl; (with_reducible repeat (first | apply kN_ | apply kD_ | apply kA_)); refine blk_put (cs := #[.int .i64 0, .int .i64 0, .int .i64 0, .int .i64 0, .int .i64 0, .bool false, .int .i64 0, .int .i64 0, .int .i64 0, .int .i64 0, .bool false, .string (⟨#[]⟩ : ByteArray), .int .i64 0]) ?_ 5 _ rfl; (with_reducible repeat (first | apply kN_ | apply kD_ | apply kA_)); refine blk_put (cs := #[.int .i64 0, .int .i64 0, .int .i64 0, .int .i64 0, .int .i64 0, .bool false, .int .i64 0, .int .i64 0, .int .i64 0, .int .i64 0, .bool false, .string (⟨#[]⟩ : ByteArray), .int .i64 0]) ?_ 4 _ rfl; (with_reducible repeat (first | apply kN_ | apply kD_ | apply kA_)); refine blk_put (cs := #[.int .i64 0, .int .i64 0, .int .i64 0, .int .i64 0, .int .i64 0, .bool false, .int .i64 0, .int .i64 0, .int .i64 0, .int .i64 0, .bool false, .string (⟨#[]⟩ : ByteArray), .int .i64 0]) ?_ 3 _ rfl; (with_reducible repeat (first | apply kN_ | apply kD_ | apply kA_)); refine blk_put (cs := #[.int .i64 0, .int .i64 0, .int .i64 0, .int .i64 0, .int .i64 0, .bool false, .int .i64 0, .int .i64 0, .int .i64 0, .int .i64 0, .bool false, .string (⟨#[]⟩ : ByteArray), .int .i64 0]) ?_ 2 _ rfl; (with_reducible repeat (first | apply kN_ | apply kD_ | apply kA_)); refine blk_put (cs := #[.int .i64 0, .int .i64 0, .int .i64 0, .int .i64 0, .int .i64 0, .bool false, .int .i64 0, .int .i64 0, .int .i64 0, .int .i64 0, .bool false, .string (⟨#[]⟩ : ByteArray), .int .i64 0]) ?_ 1 _ rfl; (with_reducible repeat (first | apply kN_ | apply kD_ | apply kA_)); refine blk_put (cs := #[.int .i64 0, .int .i64 0, .int .i64 0, .int .i64 0, .int .i64 0, .bool false, .int .i64 0, .int .i64 0, .int .i64 0, .int .i64 0, .bool false, .string (⟨#[]⟩ : ByteArray), .int .i64 0]) ?_ 0 _ rfl; (with_reducible repeat (first | apply kN_ | apply kD_ | apply kA_)); exact BK345.out) Tryz.underlying31 rfl (by kernel_rfl)) rfl ?_
  exact ⟨rT_, hB_⟩

/-! ### impl_ParseHand: function 5 -/
set_option maxHeartbeats 8000000 in
set_option maxRecDepth 100000 in
theorem impl_ParseHand.calls (k : Nat) (a0 : ByteArray) (r1 : Int) (r2 : Int) (r3 : Int) (r4 : Int) (r5 : Int) (r6 : Bool) (r7 : Int) (r8 : Int) (r9 : Int) (r10 : Int) (r11 : Bool) (r12 : ByteArray) (r13 : Int) (r14 : Bool) (w : World) (hT_ : TabW Tryz.prog 2 w) (h : impl_ParseHand.f k a0 = some (r1, r2, r3, r4, r5, r6, r7, r8, r9, r10, r11, r12, r13, r14)) :
 Calls Tryz.prog 5 #[.string a0] w fun e w' => e = .returned (.tuple #[.agg #[.int .i64 r1, .int .i64 r2, .int .i64 r3, .int .i64 r4, .int .i64 r5, .bool r6, .int .i64 r7, .int .i64 r8, .int .i64 r9, .int .i64 r10, .bool r11, .string r12, .int .i64 r13], .bool r14]) ∧ Below w.heap.size w w' := by
 have hu31 := Tryz.underlying31
 have HT := Aside0.mk hT_
 clear hT_
 have HB := Aside0.mk (Below.refl w.heap.size w)
 have H : (if (a0.size : Int) > 200 then (impl_ParseHand.j0 k a0 true) else ((strings_Contains.f a0 (⟨#[43]⟩ : ByteArray)).bind fun t374 => (impl_ParseHand.j0 k a0 t374))) = some (r1, r2, r3, r4, r5, r6, r7, r8, r9, r10, r11, r12, r13, r14) := h
 clear h
 have HC2 := Aside0.mk H
 clear H
 go_enter Tryz.func5, Tryz.ntmps5
 go_upto_region 1 with (first | ((with_reducible refine gate_dst (N := 2) rfl ?_); refine box_event ?hg (N := 2) ?hd (cs := #[.int .i64 0, .int .i64 0, .int .i64 0, .int .i64 0, .int .i64 0, .bool false, .int .i64 0, .int .i64 0, .int .i64 0, .int .i64 0, .bool false, .string (⟨#[]⟩ : ByteArray), .int .i64 0]) (t := 31) ?hr ?_; (case hd => rfl); (case hg => rfl); (case hr => first | (go_simp; done) | (go_simp; rfl)); intro gb373 hg w3 hbox hb; have BK373 := aM_ (hbox); have GW373 := aM_ (gw_ w hg); have GE373 := aM_ (gw_ w hg); replace HB := aM_ (below_step hB_ hb); clear hb hbox hg))
 (try simp only [Act.put, List.setIfInBounds_toArray, List.set_cons_zero, List.set_cons_succ])
 go_cut [13] (fun v13 wc => ∃ (kq : Nat) (x13_1 : Bool), v13 = .bool x13_1 ∧ Aside0 (impl_ParseHand.j0 kq a0 x13_1 = some (r1, r2, r3, r4, r5, r6, r7, r8, r9, r10, r11, r12, r13, r14)) ∧ Aside0 (kq ≤ k) ∧ Aside0 (wc.heap[gb373]? = some (.cells #[.int .i64 0, .int .i64 0, .int .i64 0, .int .i64 0, .int .i64 0, .bool false, .int .i64 0, .int .i64 0, .int .i64 0, .int .i64 0, .bool false, .string (⟨#[]⟩ : ByteArray), .int .i64 0] 31 (0, 0))) ∧ Aside0 (Below w.heap.size w wc))
 case first =>
  have H := HC2.out
  clear HC2
  by_cases c4 : (a0.size : Int) > 200
  ·rw [if_pos c4] at H
   have c4b0 : decide (200 < (a0.size : Int)) = true := decide_eq_true c4
   have c4b1 : decide (200 < a0.size) = true := decide_eq_true (by omega)
   clear c4
   (first | rw [c4b0] | (simp only [i64_w, i32_w]; rw [c4b0]) | skip)
   have H' := Aside0.mk H
   clear H
   go_wp2
   go_meet
   case rel => exact ⟨_, (true), yactParseHandx13_5_, H', ⟨oR_⟩, ⟨kP_⟩, ⟨hB_⟩⟩
  ·rw [if_neg c4] at H
   have c4b0 : decide (200 < (a0.size : Int)) = false := decide_eq_false c4
   have c4b1 : decide (200 < a0.size) = false := decide_eq_false (by omega)
   clear c4
   (first | rw [c4b0] | (simp only [i64_w, i32_w]; rw [c4b0]) | skip)
   replace H := Option.bind_eq_some_iff.mp H
   obtain ⟨t374, A50, H⟩ := H
   try dsimp only at H
   have A5 := Aside0.mk A50
   clear A50
   have H' := Aside0.mk H
   clear H
   go_wp2_with (first | (go_at_call 9; (with_reducible refine (strings_Contains.calls a0 (⟨#[43]⟩ : ByteArray) t374 _ A5.out).mono ?_); rintro e w' ⟨rfl, ⟨nd, rfl⟩⟩))
   go_meet
   case rel => exact ⟨_, (t374), yactParseHandx13_5_, H', ⟨oR_⟩, ⟨kP_⟩, ⟨hB_⟩⟩
 case rest =>
  clear HC2
  obtain ⟨kq, x13_1, rfl, HA, HJ1, BK373, HB⟩ := hcut
  cases kq with
  | zero => exact absurd HA.out (by simp [impl_ParseHand.j0])
  | succ kj1 =>
   have H := HA.out
   clear HA
   simp only [impl_ParseHand.j0] at H
   by_cases c6 : x13_1 = true
   ·subst c6
    replace H := ip_ H rfl
    simp only [Option.some.injEq, Prod.mk.injEq] at H
    obtain ⟨rfl, rfl, rfl, rfl, rfl, rfl, rfl, rfl, rfl, rfl, rfl, rfl, rfl, rfl⟩ := H
    have hz7 := cf13_ BK373.out
    go_wp2
    refine bodyPost_ret (results_ct rfl _ _ gb373 31 #[.int .i64 0, .int .i64 0, .int .i64 0, .int .i64 0, .int .i64 0, .bool false, .int .i64 0, .int .i64 0, .int .i64 0, .int .i64 0, .bool false, .string (⟨#[]⟩ : ByteArray), .int .i64 0] (0, 0) _ rfl (by (with_reducible repeat (first | apply kN_ | apply kD_ | apply kA_)); refine blk_put (cs := #[.int .i64 0, .int .i64 0, .int .i64 0, .int .i64 0, .int .i64 0, .bool false, .int .i64 0, .int .i64 0, .int .i64 0, .int .i64 0, .bool false, .string (⟨#[]⟩ : ByteArray), .int .i64 0]) ?_ 12 _ rfl; (with_reducible repeat (first | apply kN_ | apply kD_ | apply kA_)); refine blk_put (cs := #[.int .i64 0, .int .i64 0, .int .i64 0, .int .i64 0, .int .i64 0, .bool false, .int .i64 0, .int .i64 0, .int .i64 0, .int .i64 0, .bool false, .string (⟨#[]⟩ : ByteArray), .int .i64 0]) ?_ 11 _ rfl; (with_reducible repeat (first | apply kN_ | apply kD_ | apply kA_)); refine blk_put (cs := #[.int .i64 0, .int .i64 0, .int .i64 0, .int .i64 0, .int .i64 0, .bool false, .int .i64 0, .int .i64 0, .int .i64 0, .int .i64 0, .bool false, .string (⟨#[]⟩ : ByteArray), .int .i64 0]) ?_ 10 _ rfl; (with_reducible repeat (first | apply kN_ | apply kD_ | apply kA_)); refine blk_put (cs := #[.int .i64 0, .int .i64 0, .int .i64 0, .int .i64 0, .int .i64 0, .bool false, .int .i64 0, .int .i64 0, .int .i64 0, .int .i64 0, .bool false, .string (⟨#[]⟩ : ByteArray), .int .i64 0]) ?_ 9 _ rfl; (with_reducible repeat (first | apply kN_ | apply kD_ | apply kA_)); refine blk_put (cs := #[.int .i64 0, .int .i64 0, .int .i64 0, .int .i64 0, .int .i64 0, .bool false, .int .i64 0, .int .i64 0, .int .i64 0, .int .i64 0, .bool false, .string (⟨#[]⟩ : ByteArray), .int .i64 0]) ?_ 8 _ rfl; (with_reducible repeat (first | apply kN_ | apply kD_ | apply kA_)); refine blk_put (cs := #[.int .i64 0, .int .i64 0, .int .i64 0, .int .i64 0, .int .i64 0, .bool false, .int .i64 0, .int .i64 0, .int .i64 0, .int .i64 0, .bool false, .string (⟨#[]⟩ : ByteArray), .int .i64 0]) ?_ 7 _ rfl; (with_reducible repeat (first | apply kN_ | apply kD_ | apply kA_)); refine blk_put (cs := #[.int .i64 0, .int .i64 0, .int .i64 0, .int .i64 0, .int .i64 0, .bool false, .int .i64 0, .int .i64 0, .int .i64 0, .int .i64 0, .bool false, .string (⟨#[]⟩ : ByteArray), .int .i64 0]) ?_ 6 _ rfl; (with_reducible repeat (first | apply kN_ | apply kD_ | apply kA_)); refine blk_put (cs := #[.int .i64 0, .int .i64 0, .int .i64 0, .int .i64 0, .int .i64 0, .bool false, .int .i64 0, .int .i64 0, .int .i64 0, .int .i64 0, .bool false, .string (⟨#[]⟩ : ByteArray), .int .i64 0]) ?_ 5 _ rfl; (with_reducible repeat (first | apply kN_ | apply kD_ | apply kA_)); refine blk_put (cs := #[.int .i64 0, .int .i64 0, .int .i64 0, .int .i64 0, .int .i64 0, .bool false, .int .i64 0, .int .i64 0, .int .i64 0, .int .i64 0, .bool false, .string (⟨#[]⟩ : ByteArray), .int .i64 0]) ?_ 4 _ rfl; (with_reducible repeat (first | apply kN_ | apply kD_ | apply kA_)); refine blk_put (cs := #[.int .i64 0, .int .i64 0, .int .i64 0, .int .i64 0, .int .i64 0, .bool false, .int .i64 0, .int .i64 0, .int .i64 0, .int .i64 0, .bool false, .string (⟨#[]⟩ : ByteArray), .int .i64 0]) ?_ 3 _ rfl; (with_reducible repeat (first | apply kN_ | apply kD_ | apply kA_)); refine blk_put (cs := #[.int .i64 0, .int .i64 0, .int .i64 0, .int .i64 0, .int .i64 0, .bool false, .int .i64 0, .int .i64 0, .int .i64 0, .int .i64 0, .bool false, .string (⟨#[]⟩ : ByteArray), .int .i64 0]) ?_ 2 _ rfl; (with_reducible repeat (first | apply kN_ | apply kD_ | apply kA_)); refine blk_put (cs := #[.int .i64 0, .int .i64 0, .int .i64 0, .int .i64 0, .int .i64 0, .bool false, .int .i64 0, .int .i64 0, .int .i64 0, .int .i64 0, .bool false, .string (⟨#[]⟩ : ByteArray), .int .i64 0]) ?_ 1 _ rfl; (with_reducible repeat (first | apply kN_ | apply kD_ | apply kA_)); refine blk_put (cs := #[.int .i64 0, .int .i64 0, .int .i64 0, .int .i64 0, .int .i64 0, .bool false, .int .i64 0, .int .i64 0, .int .i64 0, .int .i64 0, .bool false, .string (⟨#[]⟩ : ByteArray), .int .i64 0]) ?_ 0 _ rfl; (with_reducible repeat (first | apply kN_ | apply kD_ | apply kA_)); exact BK373.out) Tryz.underlying31 rfl (by kernel_rfl)) rfl ?_
    exact ⟨rT_, hB_⟩
   ·replace c6 := Bool.eq_false_iff.mpr c6
    subst c6
    replace H := in_ H (show ¬ (false = true) by decide)
    replace H := Option.bind_eq_some_iff.mp H
    obtain ⟨⟨t375, t376, t377, t378, t379, t380, t381, t382, t383, t384, t385, t386, t387, t388, t389⟩, A80, H⟩ := H
    try dsimp only at H
    have A8 := Aside0.mk A80
    clear A80
    by_cases c9 : t388 = 0
    ·rw [if_pos c9] at H
     have c9b0 : (t388 == 0) = true := beq_iff_eq.mpr c9
     have c9b1 : (t388 != 0) = false := bne_eq_false_iff_eq.mpr c9
     clear c9
     simp only [Option.some.injEq, Prod.mk.injEq] at H
     obtain ⟨rfl, rfl, rfl, rfl, rfl, rfl, rfl, rfl, rfl, rfl, rfl, rfl, rfl, rfl⟩ := H
     go_wp2_with (first | ((with_reducible refine gate_callee (f := 10) rfl ?_); refine goesM_ (some 17) Tryz.func10 #[.string a0] ?_; (with_reducible refine (impl_readHand.calls kj1 a0 t375 t376 t377 t378 t379 t380 t381 t382 t383 t384 t385 t386 t387 t388 t389 _ ?side1 A8.out).mono ?_); (case side1 => exact TabW.below HT.out hB_); rintro e w10 ⟨rfl, hb⟩; refine ⟨_, rfl, ?_⟩; replace BK373 := aM_ (blk_below (g := gb373) (kR_ BK373) hb); replace HB := aM_ (below_step hB_ hb); (try clear hb); (try clear hb2); (try clear hk); (try clear hi)) | ((with_reducible refine gate_dst (N := 4) rfl ?_); refine box_event ?hg (N := 4) ?hd (cs := #[.int .i64 0, .int .i64 0, .int .i64 0, .int .i64 0, .int .i64 0, .bool false, .int .i64 0, .int .i64 0, .int .i64 0, .int .i64 0, .bool false, .string (⟨#[]⟩ : ByteArray), .int .i64 0]) (t := 31) ?hr ?_; (case hd => rfl); (case hg => rfl); (case hr => first | (go_simp; done) | (go_simp; rfl)); intro gb390 hg w11 hbox hb; have BK390 := aM_ (hbox); have GW390 := aM_ (gw_ w hg); have GE390 := aM_ (gw_ w hg); have NB373_390 := aM_ (nR_ BK373 hg); have NB390_373 := aM_ (mR_ BK373 hg); replace BK373 := aM_ (blk_below (g := gb373) (kR_ BK373) hb); replace HB := aM_ (below_step hB_ hb); clear hb hbox hg; have hnb12 := NB390_373.out; have hnc12 := NB373_390.out; have hz13 := cf13_ BK390.out; have hz14 := cf13_ BK373.out))
     refine bodyPost_ret (results_ct rfl _ _ gb373 31 #[.int .i64 t375, .int .i64 t376, .int .i64 t377, .int .i64 t378, .int .i64 t379, .bool t380, .int .i64 t381, .int .i64 t382, .int .i64 t383, .int .i64 t384, .bool t385, .string t386, .int .i64 t387] (0, 0) _ rfl (by (with_reducible repeat (first | apply kN_ | apply kD_ | apply kA_)); refine blk_put (cs := #[.int .i64 t375, .int .i64 t376, .int .i64 t377, .int .i64 t378, .int .i64 t379, .bool t380, .int .i64 t381, .int .i64 t382, .int .i64 t383, .int .i64 t384, .bool t385, .string t386, .int .i64 0]) ?_ 12 _ rfl; (with_reducible repeat (first | apply kN_ | apply kD_ | apply kA_)); refine blk_put (cs := #[.int .i64 t375, .int .i64 t376, .int .i64 t377, .int .i64 t378, .int .i64 t379, .bool t380, .int .i64 t381, .int .i64 t382, .int .i64 t383, .int .i64 t384, .bool t385, .string (⟨#[]⟩ : ByteArray), .int .i64 0]) ?_ 11 _ rfl; (with_reducible repeat (first | apply kN_ | apply kD_ | apply kA_)); refine blk_put (cs := #[.int .i64 t375, .int .i64 t376, .int .i64 t377, .int .i64 t378, .int .i64 t379, .bool t380, .int .i64 t381, .int .i64 t382, .int .i64 t383, .int .i64 t384, .bool false, .string (⟨#[]⟩ : ByteArray), .int .i64 0]) ?_ 10 _ rfl; (with_reducible repeat (first | apply kN_ | apply kD_ | apply kA_)); refine blk_put (cs := #[.int .i64 t375, .int .i64 t376, .int .i64 t377, .int .i64 t378, .int .i64 t379, .bool t380, .int .i64 t381, .int .i64 t382, .int .i64 t383, .int .i64 0, .bool false, .string (⟨#[]⟩ : ByteArray), .int .i64 0]) ?_ 9 _ rfl; (with_reducible repeat (first | apply kN_ | apply kD_ | apply kA_)); refine blk_put (cs := #[.int .i64 t375, .int .i64 t376, .int .i64 t377, .int .i64 t378, .int .i64 t379, .bool t380, .int .i64 t381, .int .i64 t382, .int .i64 0, .int .i64 0, .bool false, .string (⟨#[]⟩ : ByteArray), .int .i64 0]) ?_ 8 _ rfl; (with_reducible repeat (first | apply kN_ | apply kD_ | apply kA_)); refine blk_put (cs := #[.int .i64 t375, .int .i64 t376, .int .i64 t377, .int .i64 t378, .int .i64 t379, .bool t380, .int .i64 t381, .int .i64 0, .int .i64 0, .int .i64 0, .bool false, .string (⟨#[]⟩ : ByteArray), .int .i64 0]) ?_ 7 _ rfl; (with_reducible repeat (first | apply kN_ | apply kD_ | apply kA_)); refine blk_put (cs := #[.int .i64 t375, .int .i64 t376, .int .i64 t377, .int .i64 t378, .int .i64 t379, .bool t380, .int .i64 0, .int .i64 0, .int .i64 0, .int .i64 0, .bool false, .string (⟨#[]⟩ : ByteArray), .int .i64 0]) ?_ 6 _ rfl; (with_reducible repeat (first | apply kN_ | apply kD_ | apply kA_)); refine blk_put (cs := #[.int .i64 t375, .int .i64 t376, .int .i64 t377, .int .i64 t378, .int .i64 t379, .bool false, .int .i64 0, .int .i64 0, .int .i64 0, .int .i64 0, .bool false, .string (⟨#[]⟩ : ByteArray), .int .i64 0]) ?_ 5 _ rfl; (with_reducible repeat (first | apply kN_ | apply kD_ | apply kA_)); refine blk_put (cs := #[.int .i64 t375, .int .i64 t376, .int .i64 t377, .int .i64 t378, .int .i64 0, .bool false, .int .i64 0, .int .i64 0, .int .i64 0, .int .i64 0, .bool false, .string (⟨#[]⟩ : ByteArray), .int .i64 0]) ?_ 4 _ rfl; (with_reducible repeat (first | apply kN_ | apply kD_ | apply kA_)); refine blk_put (cs := #[.int .i64 t375, .int .i64 t376, .int .i64 t377, .int .i64 0, .int .i64 0, .bool false, .int .i64 0, .int .i64 0, .int .i64 0, .int .i64 0, .bool false, .string (⟨#[]⟩ : ByteArray), .int .i64 0]) ?_ 3 _ rfl; (with_reducible repeat (first | apply kN_ | apply kD_ | apply kA_)); refine blk_put (cs := #[.int .i64 t375, .int .i64 t376, .int .i64 0, .int .i64 0, .int .i64 0, .bool false, .int .i64 0, .int .i64 0, .int .i64 0, .int .i64 0, .bool false, .string (⟨#[]⟩ : ByteArray), .int .i64 0]) ?_ 2 _ rfl; (with_reducible repeat (first | apply kN_ | apply kD_ | apply kA_)); refine blk_put (cs := #[.int .i64 t375, .int .i64 0, .int .i64 0, .int .i64 0, .int .i64 0, .bool false, .int .i64 0, .int .i64 0, .int .i64 0, .int .i64 0, .bool false, .string (⟨#[]⟩ : ByteArray), .int .i64 0]) ?_ 1 _ rfl; (with_reducible repeat (first | apply kN_ | apply kD_ | apply kA_)); refine blk_put (cs := #[.int .i64 0, .int .i64 0, .int .i64 0, .int .i64 0, .int .i64 0, .bool false, .int .i64 0, .int .i64 0, .int .i64 0, .int .i64 0, .bool false, .string (⟨#[]⟩ : ByteArray), .int .i64 0]) ?_ 0 _ rfl; (with_reducible repeat (first | apply kN_ | apply kD_ | apply kA_)); refine blk_far ?_ NB373_390.out _; (with_reducible repeat (first | apply kN_ | apply kD_ | apply kA_)); refine blk_far ?_ NB373_390.out _; (with_reducible repeat (first | apply kN_ | apply kD_ | apply kA_)); refine blk_far ?_ NB373_390.out _; (with_reducible repeat (first | apply kN_ | apply kD_ | apply kA_)); refine blk_far ?_ NB373_390.out _; (with_reducible repeat (first | apply kN_ | apply kD_ | apply kA_)); refine blk_far ?_ NB373_390.out _; (with_reducible repeat (first | apply kN_ | apply kD_ | apply kA_)); refine blk_far ?_ NB373_390.out _; (with_reducible repeat (first | apply kN_ | apply kD_ | apply kA_)); refine blk_far ?_ NB373_390.out _; (with_reducible repeat (first | apply kN_ | apply kD_ | apply kA_)); refine blk_far ?_ NB373_390.out _; (with_reducible repeat (first | apply kN_ | apply kD_ | apply kA_)); refine blk_far ?_ NB373_390.out _; (with_reducible repeat (first | apply kN_ | apply kD_ | apply kA_)); refine blk_far ?_ NB373_390.out _; (with_reducible repeat (first | apply kN_ | apply kD_ | apply kA_)); refine blk_far ?_ NB373_390.out _; (with_reducible repeat (first | apply kN_ | apply kD_ | apply kA_)); refine blk_far ?_ NB373_390.out _; (with_reducible repeat (first | apply kN_ | apply kD_ | apply kA_)); refine blk_far ?_ NB373_390.out _; (with_reducible repeat (first | apply kN_ | apply kD_ | apply kA_)); exact BK373.out) Tryz.underlying31 rfl (by kernel_rfl)) rfl ?_
     exact ⟨rT_, hB_⟩
    ·rw [if_neg c9] at H
     have c9b0 : (t388 == 0) = false := beq_eq_false_iff_ne.mpr c9
     have c9b1 : (t388 != 0) = true := bne_iff_ne.mpr c9
     simp only [Option.some.injEq, Prod.mk.injEq] at H
     obtain ⟨rfl, rfl, rfl, rfl, rfl, rfl, rfl, rfl, rfl, rfl, rfl, rfl, rfl, rfl⟩ := H
     go_wp2_with (first | ((with_reducible refine gate_callee (f := 10) rfl ?_); refine goesM_ (some 17) Tryz.func10 #[.string a0] ?_; (with_reducible refine (impl_readHand.calls kj1 a0 t375 t376 t377 t378 t379 t380 t381 t382 t383 t384 t385 t386 t387 t388 t389 _ ?side1 A8.out).mono ?_); (case side1 => exact TabW.below HT.out hB_); rintro e w15 ⟨rfl, hb⟩; refine ⟨_, rfl, ?_⟩; replace BK373 := aM_ (blk_below (g := gb373) (kR_ BK373) hb); replace HB := aM_ (below_step hB_ hb); (try clear hb); (try clear hb2); (try clear hk); (try clear hi)) | ((with_reducible refine gate_dst (N := 4) rfl ?_); refine box_event ?hg (N := 4) ?hd (cs := #[.int .i64 0, .int .i64 0, .int .i64 0, .int .i64 0, .int .i64 0, .bool false, .int .i64 0, .int .i64 0, .int .i64 0, .int .i64 0, .bool false, .string (⟨#[]⟩ : ByteArray), .int .i64 0]) (t := 31) ?hr ?_; (case hd => rfl); (case hg => rfl); (case hr => first | (go_simp; done) | (go_simp; rfl)); intro gb390 hg w16 hbox hb; have BK390 := aM_ (hbox); have GW390 := aM_ (gw_ w hg); have GE390 := aM_ (gw_ w hg); have NB373_390 := aM_ (nR_ BK373 hg); have NB390_373 := aM_ (mR_ BK373 hg); replace BK373 := aM_ (blk_below (g := gb373) (kR_ BK373) hb); replace HB := aM_ (below_step hB_ hb); clear hb hbox hg; have hnb17 := NB390_373.out; have hnc17 := NB373_390.out; have hz18 := cf13_ BK390.out; have hz19 := cf13_ BK373.out))
     refine bodyPost_ret (results_ct rfl _ _ gb373 31 #[.int .i64 0, .int .i64 0, .int .i64 0, .int .i64 0, .int .i64 0, .bool false, .int .i64 0, .int .i64 0, .int .i64 0, .int .i64 0, .bool false, .string (⟨#[]⟩ : ByteArray), .int .i64 0] (0, 0) _ rfl (by (with_reducible repeat (first | apply kN_ | apply kD_ | apply kA_)); refine blk_put (cs := #[.int .i64 0, .int .i64 0, .int .i64 0, .int .i64 0, .int .i64 0, .bool false, .int .i64 0, .int .i64 0, .int .i64 0, .int .i64 0, .bool false, .string (⟨#[]⟩ : ByteArray), .int .i64 0]) ?_ 12 _ rfl; (with_reducible repeat (first | apply kN_ | apply kD_ | apply kA_)); refine blk_put (cs := #[.int .i64 0, .int .i64 0, .int .i64 0, .int .i64 0, .int .i64 0, .bool false, .int .i64 0, .int .i64 0, .int .i64 0, .int .i64 0, .bool false, .string (⟨#[]⟩ : ByteArray), .int .i64 0]) ?_ 11 _ rfl; (with_reducible repeat (first | apply kN_ | apply kD_ | apply kA_)); refine blk_put (cs := #[.int .i64 0, .int .i64 0, .int .i64 0, .int .i64 0, .int .i64 0, .bool false, .int .i64 0, .int .i64 0, .int .i64 0, .int .i64 0, .bool false, .string (⟨#[]⟩ : ByteArray), .int .i64 0]) ?_ 10 _ rfl; (with_reducible repeat (first | apply kN_ | apply kD_ | apply kA_)); refine blk_put (cs := #[.int .i64 0, .int .i64 0, .int .i64 0, .int .i64 0, .int .i64 0, .bool false, .int .i64 0, .int .i64 0, .int .i64 0, .int .i64 0, .bool false, .string (⟨#[]⟩ : ByteArray), .int .i64 0]) ?_ 9 _ rfl; (with_reducible repeat (first | apply kN_ | apply kD_ | apply kA_)); refine blk_put (cs := #[.int .i64 0, .int .i64 0, .int .i64 0, .int .i64 0, .int .i64 0, .bool false, .int .i64 0, .int .i64 0, .int .i64 0, .int .i64 0, .bool false, .string (⟨#[]⟩ : ByteArray), .int .i64 0]) ?_ 8 _ rfl; (with_reducible repeat (first | apply kN_ | apply kD_ | apply kA_)); refine blk_put (cs := #[.int .i64 0, .int .i64 0, .int .i64 0, .int .i64 0, .int .i64 0, .bool false, .int .i64 0, .int .i64 0, .int .i64 0, .int .i64 0, .bool false, .string (⟨#[]⟩ : ByteArray), .int .i64 0]) ?_ 7 _ rfl; (with_reducible repeat (first | apply kN_ | apply kD_ | apply kA_)); refine blk_put (cs := #[.int .i64 0, .int .i64 0, .int .i64 0, .int .i64 0, .int .i64 0, .bool false, .int .i64 0, .int .i64 0, .int .i64 0, .int .i64 0, .bool false, .string (⟨#[]⟩ : ByteArray), .int .i64 0]) ?_ 6 _ rfl; (with_reducible repeat (first | apply kN_ | apply kD_ | apply kA_)); refine blk_put (cs := #[.int .i64 0, .int .i64 0, .int .i64 0, .int .i64 0, .int .i64 0, .bool false, .int .i64 0, .int .i64 0, .int .i64 0, .int .i64 0, .bool false, .string (⟨#[]⟩ : ByteArray), .int .i64 0]) ?_ 5 _ rfl; (with_reducible repeat (first | apply kN_ | apply kD_ | apply kA_)); refine blk_put (cs := #[.int .i64 0, .int .i64 0, .int .i64 0, .int .i64 0, .int .i64 0, .bool false, .int .i64 0, .int .i64 0, .int .i64 0, .int .i64 0, .bool false, .string (⟨#[]⟩ : ByteArray), .int .i64 0]) ?_ 4 _ rfl; (with_reducible repeat (first | apply kN_ | apply kD_ | apply kA_)); refine blk_put (cs := #[.int .i64 0, .int .i64 0, .int .i64 0, .int .i64 0, .int .i64 0, .bool false, .int .i64 0, .int .i64 0, .int .i64 0, .int .i64 0, .bool false, .string (⟨#[]⟩ : ByteArray), .int .i64 0]) ?_ 3 _ rfl; (with_reducible repeat (first | apply kN_ | apply kD_ | apply kA_)); refine blk_put (cs := #[.int .i64 0, .int .i64 0, .int .i64 0, .int .i64 0, .int .i64 0, .bool false, .int .i64 0, .int .i64 0, .int .i64 0, .int .i64 0, .bool false, .string (⟨#[]⟩ : ByteArray), .int .i64 0]) ?_ 2 _ rfl; (with_reducible repeat (first | apply kN_ | apply kD_ | apply kA_)); refine blk_put (cs := #[.int .i64 0, .int .i64 0, .int .i64 0, .int .i64 0, .int .i64 0, .bool false, .int .i64 0, .int .i64 0, .int .i64 0, .int .i64 0, .bool false, .string (⟨#[]⟩ : ByteArray), .int .i64 0]) ?_ 1 _ rfl; (with_reducible repeat (first | apply kN_ | apply kD_ | apply kA_)); refine blk_put (cs := #[.int .i64 0, .int .i64 0, .int .i64 0, .int .i64 0, .int .i64 0, .bool false, .int .i64 0, .int .i64 0, .int .i64 0, .int .i64 0, .bool false, .string (⟨#[]⟩ : ByteArray), .int .i64 0]) ?_ 0 _ rfl; (with_reducible repeat (first | apply kN_ | apply kD_ | apply kA_)); refine blk_far ?_ NB373_390.out _; (with_reducible repeat (first | apply kN_ | apply kD_ | apply kA_)); refine blk_far ?_ NB373_390.out _; (with_reducible repeat (first | apply kN_ | apply kD_ | apply kA_)); refine blk_far ?_ NB373_390.out _; (with_reducible repeat (first | apply kN_ | apply kD_ | apply kA_)); refine blk_far ?_ NB373_390.out _; (with_reducible repeat (first | apply kN_ | apply kD_ | apply kA_)); refine blk_far ?_ NB373_390.out _; (with_reducible repeat (first | apply kN_ | apply kD_ | apply kA_)); refine blk_far ?_ NB373_390.out _; (with_reducible repeat (first | apply kN_ | apply kD_ | apply kA_)); refine blk_far ?_ NB373_390.out _; (with_reducible repeat (first | apply kN_ | apply kD_ | apply kA_)); refine blk_far ?_ NB373_390.out _; (with_reducible repeat (first | apply kN_ | apply kD_ | apply kA_)); refine blk_far ?_ NB373_390.out _; (with_reducible repeat (first | apply kN_ | apply kD_ | apply kA_)); refine blk_far ?_ NB373_390.out _; (with_reducible repeat (first | apply kN_ | apply kD_ | apply kA_)); refine blk_far ?_ NB373_390.out _; (with_reducible repeat (first | apply kN_ | apply kD_ | apply kA_)); refine blk_far ?_ NB373_390.out _; (with_reducible repeat (first | apply kN_ | apply kD_ | apply kA_)); refine blk_far ?_ NB373_390.out _; (with_reducible repeat (first | apply kN_ | apply kD_ | apply kA_)); exact BK373.out) Tryz.underlying31 rfl (by kernel_rfl)) rfl ?_
     exact ⟨rT_, hB_⟩

/-! ### laws_eqShape: function 11 -/
set_option maxHeartbeats 8000000 in
set_option maxRecDepth 100000 in
theorem laws_eqShape.calls (a0_0 : Int) (a0_1 : Int) (a0_2 : Int) (a0_3 : Int) (a0_4 : Int) (a0_5 : Bool) (a1_0 : Int) (a1_1 : Int) (a1_2 : Int) (a1_3 : Int) (a1_4 : Int) (a1_5 : Bool) (r : Bool) (w : World) (h : laws_eqShape.f a0_0 a0_1 a0_2 a0_3 a0_4 a0_5 a1_0 a1_1 a1_2 a1_3 a1_4 a1_5 = some r) :
 Calls Tryz.prog 11 #[.agg #[.int .i64 a0_0, .int .i64 a0_1, .int .i64 a0_2, .int .i64 a0_3, .int .i64 a0_4, .bool a0_5], .agg #[.int .i64 a1_0, .int .i64 a1_1, .int .i64 a1_2, .int .i64 a1_3, .int .i64 a1_4, .bool a1_5]] w fun e w' => e = .returned (.bool r) ∧ Below w.heap.size w w' := by
 have hu23 := Tryz.underlying23
 have HB := Aside0.mk (Below.refl w.heap.size w)
 have H : (if a0_0 = a1_0 then (if a0_1 = a1_1 then (if a0_2 = a1_2 then (if a0_3 = a1_3 then (if a0_4 = a1_4 then (if (a0_5 != a1_5) = true then (some false) else (some true)) else (some false)) else (some false)) else (some false)) else (some false)) else (some false)) = some r := h
 clear h
 by_cases c3 : a0_0 = a1_0
 ·rw [if_pos c3] at H
  have c3b0 : (a0_0 == a1_0) = true := beq_iff_eq.mpr c3
  have c3b1 : (a0_0 != a1_0) = false := bne_eq_false_iff_eq.mpr c3
  clear c3
  by_cases c4 : a0_1 = a1_1
  ·rw [if_pos c4] at H
   have c4b0 : (a0_1 == a1_1) = true := beq_iff_eq.mpr c4
   have c4b1 : (a0_1 != a1_1) = false := bne_eq_false_iff_eq.mpr c4
   clear c4
   by_cases c5 : a0_2 = a1_2
   ·rw [if_pos c5] at H
    have c5b0 : (a0_2 == a1_2) = true := beq_iff_eq.mpr c5
    have c5b1 : (a0_2 != a1_2) = false := bne_eq_false_iff_eq.mpr c5
    clear c5
    by_cases c6 : a0_3 = a1_3
    ·rw [if_pos c6] at H
     have c6b0 : (a0_3 == a1_3) = true := beq_iff_eq.mpr c6
     have c6b1 : (a0_3 != a1_3) = false := bne_eq_false_iff_eq.mpr c6
     clear c6
     by_cases c7 : a0_4 = a1_4
     ·rw [if_pos c7] at H
      have c7b0 : (a0_4 == a1_4) = true := beq_iff_eq.mpr c7
      have c7b1 : (a0_4 != a1_4) = false := bne_eq_false_iff_eq.mpr c7
      clear c7
      by_cases c8 : (a0_5 != a1_5) = true
      ·rw [if_pos c8] at H
       have c8b0 : (a0_5 != a1_5) = true := c8
       (try (have c8b1 : decide (a0_5 = a1_5) = false := by simpa using c8))
       (try (have c8b2 : (a0_5 == a1_5) = false := by simpa using c8))
       (try (have c8b3 : ¬ (a0_5 = a1_5) := by simpa using c8))
       clear c8
       obtain rfl := Option.some.inj H
       go_enter Tryz.func11, Tryz.ntmps11
       go_wp2_with (first | ((with_reducible refine gate_dst (N := 2) rfl ?_); refine box_event ?hg (N := 2) ?hd (cs := #[.int .i64 a0_0, .int .i64 a0_1, .int .i64 a0_2, .int .i64 a0_3, .int .i64 a0_4, .bool a0_5]) (t := 23) ?hr ?_; (case hd => rfl); (case hg => rfl); (case hr => first | (go_simp; done) | (go_simp; rfl)); intro gb391 hg w9 hbox hb; have BK391 := aM_ (hbox); have GW391 := aM_ (gw_ w hg); have GE391 := aM_ (gw_ w hg); replace HB := aM_ (below_step hB_ hb); clear hb hbox hg) | ((with_reducible refine gate_dst (N := 3) rfl ?_); refine box_event ?hg (N := 3) ?hd (cs := #[.int .i64 a1_0, .int .i64 a1_1, .int .i64 a1_2, .int .i64 a1_3, .int .i64 a1_4, .bool a1_5]) (t := 23) ?hr ?_; (case hd => rfl); (case hg => rfl); (case hr => first | (go_simp; done) | (go_simp; rfl)); intro gb392 hg w10 hbox hb; have BK392 := aM_ (hbox); have GW392 := aM_ (gw_ w hg); have GE392 := aM_ (gw_ w hg); have NB391_392 := aM_ (nR_ BK391 hg); have NB392_391 := aM_ (mR_ BK391 hg); replace BK391 := aM_ (blk_below (g := gb391) (kR_ BK391) hb); replace HB := aM_ (below_step hB_ hb); clear hb hbox hg; have hnb11 := NB391_392.out; have hnc11 := NB392_391.out; have hz12 := cf6_ BK391.out; have hz13 := cf6_ BK392.out; clear BK391))
       go_ret
       exact ⟨rT_, hB_⟩
      ·rw [if_neg c8] at H
       have c8b0 : (a0_5 != a1_5) = false := by simpa using c8
       (try (have c8b1 : decide (a0_5 = a1_5) = true := by simpa using c8))
       (try (have c8b2 : (a0_5 == a1_5) = true := by simpa using c8))
       clear c8
       obtain rfl := Option.some.inj H
       go_enter Tryz.func11, Tryz.ntmps11
       go_wp2_with (first | ((with_reducible refine gate_dst (N := 2) rfl ?_); refine box_event ?hg (N := 2) ?hd (cs := #[.int .i64 a0_0, .int .i64 a0_1, .int .i64 a0_2, .int .i64 a0_3, .int .i64 a0_4, .bool a0_5]) (t := 23) ?hr ?_; (case hd => rfl); (case hg => rfl); (case hr => first | (go_simp; done) | (go_simp; rfl)); intro gb391 hg w14 hbox hb; have BK391 := aM_ (hbox); have GW391 := aM_ (gw_ w hg); have GE391 := aM_ (gw_ w hg); replace HB := aM_ (below_step hB_ hb); clear hb hbox hg) | ((with_reducible refine gate_dst (N := 3) rfl ?_); refine box_event ?hg (N := 3) ?hd (cs := #[.int .i64 a1_0, .int .i64 a1_1, .int .i64 a1_2, .int .i64 a1_3, .int .i64 a1_4, .bool a1_5]) (t := 23) ?hr ?_; (case hd => rfl); (case hg => rfl); (case hr => first | (go_simp; done) | (go_simp; rfl)); intro gb392 hg w15 hbox hb; have BK392 := aM_ (hbox); have GW392 := aM_ (gw_ w hg); have GE392 := aM_ (gw_ w hg); have NB391_392 := aM_ (nR_ BK391 hg); have NB392_391 := aM_ (mR_ BK391 hg); replace BK391 := aM_ (blk_below (g := gb391) (kR_ BK391) hb); replace HB := aM_ (below_step hB_ hb); clear hb hbox hg; have hnb16 := NB391_392.out; have hnc16 := NB392_391.out; have hz17 := cf6_ BK391.out; have hz18 := cf6_ BK392.out; clear BK391))
       go_ret
       exact ⟨rT_, hB_⟩
     ·rw [if_neg c7] at H
      have c7b0 : (a0_4 == a1_4) = false := beq_eq_false_iff_ne.mpr c7
      have c7b1 : (a0_4 != a1_4) = true := bne_iff_ne.mpr c7
      obtain rfl := Option.some.inj H
      go_enter Tryz.func11, Tryz.ntmps11
      go_wp2_with (first | ((with_reducible refine gate_dst (N := 2) rfl ?_); refine box_event ?hg (N := 2) ?hd (cs := #[.int .i64 a0_0, .int .i64 a0_1, .int .i64 a0_2, .int .i64 a0_3, .int .i64 a0_4, .bool a0_5]) (t := 23) ?hr ?_; (case hd => rfl); (case hg => rfl); (case hr => first | (go_simp; done) | (go_simp; rfl)); intro gb391 hg w19 hbox hb; have BK391 := aM_ (hbox); have GW391 := aM_ (gw_ w hg); have GE391 := aM_ (gw_ w hg); replace HB := aM_ (below_step hB_ hb); clear hb hbox hg) | ((with_reducible refine gate_dst (N := 3) rfl ?_); refine box_event ?hg (N := 3) ?hd (cs := #[.int .i64 a1_0, .int .i64 a1_1, .int .i64 a1_2, .int .i64 a1_3, .int .i64 a1_4, .bool a1_5]) (t := 23) ?hr ?_; (case hd => rfl); (case hg => rfl); (case hr => first | (go_simp; done) | (go_simp; rfl)); intro gb392 hg w20 hbox hb; have BK392 := aM_ (hbox); have GW392 := aM_ (gw_ w hg); have GE392 := aM_ (gw_ w hg); have NB391_392 := aM_ (nR_ BK391 hg); have NB392_391 := aM_ (mR_ BK391 hg); replace BK391 := aM_ (blk_below (g := gb391) (kR_ BK391) hb); replace HB := aM_ (below_step hB_ hb); clear hb hbox hg; have hnb21 := NB391_392.out; have hnc21 := NB392_391.out; have hz22 := cf6_ BK391.out; have hz23 := cf6_ BK392.out; clear BK391))
      go_ret
      exact ⟨rT_, hB_⟩
    ·rw [if_neg c6] at H
     have c6b0 : (a0_3 == a1_3) = false := beq_eq_false_iff_ne.mpr c6
     have c6b1 : (a0_3 != a1_3) = true := bne_iff_ne.mpr c6
     obtain rfl := Option.some.inj H
     go_enter Tryz.func11, Tryz.ntmps11
     go_wp2_with (first | ((with_reducible refine gate_dst (N := 2) rfl ?_); refine box_event ?hg (N := 2) ?hd (cs := #[.int .i64 a0_0, .int .i64 a0_1, .int .i64 a0_2, .int .i64 a0_3, .int .i64 a0_4, .bool a0_5]) (t := 23) ?hr ?_; (case hd => rfl); (case hg => rfl); (case hr => first | (go_simp; done) | (go_simp; rfl)); intro gb391 hg w24 hbox hb; have BK391 := aM_ (hbox); have GW391 := aM_ (gw_ w hg); have GE391 := aM_ (gw_ w hg); replace HB := aM_ (below_step hB_ hb); clear hb hbox hg) | ((with_reducible refine gate_dst (N := 3) rfl ?_); refine box_event ?hg (N := 3) ?hd (cs := #[.int .i64 a1_0, .int .i64 a1_1, .int .i64 a1_2, .int .i64 a1_3, .int .i64 a1_4, .bool a1_5]) (t := 23) ?hr ?_; (case hd => rfl); (case hg => rfl); (case hr => first | (go_simp; done) | (go_simp; rfl)); intro gb392 hg w25 hbox hb; have BK392 := aM_ (hbox); have GW392 := aM_ (gw_ w hg); have GE392 := aM_ (gw_ w hg); have NB391_392 := aM_ (nR_ BK391 hg); have NB392_391 := aM_ (mR_ BK391 hg); replace BK391 := aM_ (blk_below (g := gb391) (kR_ BK391) hb); replace HB := aM_ (below_step hB_ hb); clear hb hbox hg; have hnb26 := NB391_392.out; have hnc26 := NB392_391.out; have hz27 := cf6_ BK391.out; have hz28 := cf6_ BK392.out; clear BK391))
     go_ret
     exact ⟨rT_, hB_⟩
   ·rw [if_neg c5] at H
    have c5b0 : (a0_2 == a1_2) = false := beq_eq_false_iff_ne.mpr c5
    have c5b1 : (a0_2 != a1_2) = true := bne_iff_ne.mpr c5
    obtain rfl := Option.some.inj H
    go_enter Tryz.func11, Tryz.ntmps11
    go_wp2_with (first | ((with_reducible refine gate_dst (N := 2) rfl ?_); refine box_event ?hg (N := 2) ?hd (cs := #[.int .i64 a0_0, .int .i64 a0_1, .int .i64 a0_2, .int .i64 a0_3, .int .i64 a0_4, .bool a0_5]) (t := 23) ?hr ?_; (case hd => rfl); (case hg => rfl); (case hr => first | (go_simp; done) | (go_simp; rfl)); intro gb391 hg w29 hbox hb; have BK391 := aM_ (hbox); have GW391 := aM_ (gw_ w hg); have GE391 := aM_ (gw_ w hg); replace HB := aM_ (below_step hB_ hb); clear hb hbox hg) | ((with_reducible refine gate_dst (N := 3) rfl ?_); refine box_event ?hg (N := 3) ?hd (cs := #[.int .i64 a1_0, .int .i64 a1_1, .int .i64 a1_2, .int .i64 a1_3, .int .i64 a1_4, .bool a1_5]) (t := 23) ?hr ?_; (case hd => rfl); (case hg => rfl); (case hr => first | (go_simp; done) | (go_simp; rfl)); intro gb392 hg w30 hbox hb; have BK392 := aM_ (hbox); have GW392 := aM_ (gw_ w hg); have GE392 := aM_ (gw_ w hg); have NB391_392 := aM_ (nR_ BK391 hg); have NB392_391 := aM_ (mR_ BK391 hg); replace BK391 := aM_ (blk_below (g := gb391) (kR_ BK391) hb); replace HB := aM_ (below_step hB_ hb); clear hb hbox hg; have hnb31 := NB391_392.out; have hnc31 := NB392_391.out; have hz32 := cf6_ BK391.out; have hz33 := cf6_ BK392.out; clear BK391))
    go_ret
    exact ⟨rT_, hB_⟩
  ·rw [if_neg c4] at H
   have c4b0 : (a0_1 == a1_1) = false := beq_eq_false_iff_ne.mpr c4
   have c4b1 : (a0_1 != a1_1) = true := bne_iff_ne.mpr c4
   obtain rfl := Option.some.inj H
   go_enter Tryz.func11, Tryz.ntmps11
   go_wp2_with (first | ((with_reducible refine gate_dst (N := 2) rfl ?_); refine box_event ?hg (N := 2) ?hd (cs := #[.int .i64 a0_0, .int .i64 a0_1, .int .i64 a0_2, .int .i64 a0_3, .int .i64 a0_4, .bool a0_5]) (t := 23) ?hr ?_; (case hd => rfl); (case hg => rfl); (case hr => first | (go_simp; done) | (go_simp; rfl)); intro gb391 hg w34 hbox hb; have BK391 := aM_ (hbox); have GW391 := aM_ (gw_ w hg); have GE391 := aM_ (gw_ w hg); replace HB := aM_ (below_step hB_ hb); clear hb hbox hg) | ((with_reducible refine gate_dst (N := 3) rfl ?_); refine box_event ?hg (N := 3) ?hd (cs := #[.int .i64 a1_0, .int .i64 a1_1, .int .i64 a1_2, .int .i64 a1_3, .int .i64 a1_4, .bool a1_5]) (t := 23) ?hr ?_; (case hd => rfl); (case hg => rfl); (case hr => first | (go_simp; done) | (go_simp; rfl)); intro gb392 hg w35 hbox hb; have BK392 := aM_ (hbox); have GW392 := aM_ (gw_ w hg); have GE392 := aM_ (gw_ w hg); have NB391_392 := aM_ (nR_ BK391 hg); have NB392_391 := aM_ (mR_ BK391 hg); replace BK391 := aM_ (blk_below (g := gb391) (kR_ BK391) hb); replace HB := aM_ (below_step hB_ hb); clear hb hbox hg; have hnb36 := NB391_392.out; have hnc36 := NB392_391.out; have hz37 := cf6_ BK391.out; have hz38 := cf6_ BK392.out; clear BK391))
   go_ret
   exact ⟨rT_, hB_⟩
 ·rw [if_neg c3] at H
  have c3b0 : (a0_0 == a1_0) = false := beq_eq_false_iff_ne.mpr c3
  have c3b1 : (a0_0 != a1_0) = true := bne_iff_ne.mpr c3
  obtain rfl := Option.some.inj H
  go_enter Tryz.func11, Tryz.ntmps11
  go_wp2_with (first | ((with_reducible refine gate_dst (N := 2) rfl ?_); refine box_event ?hg (N := 2) ?hd (cs := #[.int .i64 a0_0, .int .i64 a0_1, .int .i64 a0_2, .int .i64 a0_3, .int .i64 a0_4, .bool a0_5]) (t := 23) ?hr ?_; (case hd => rfl); (case hg => rfl); (case hr => first | (go_simp; done) | (go_simp; rfl)); intro gb391 hg w39 hbox hb; have BK391 := aM_ (hbox); have GW391 := aM_ (gw_ w hg); have GE391 := aM_ (gw_ w hg); replace HB := aM_ (below_step hB_ hb); clear hb hbox hg) | ((with_reducible refine gate_dst (N := 3) rfl ?_); refine box_event ?hg (N := 3) ?hd (cs := #[.int .i64 a1_0, .int .i64 a1_1, .int .i64 a1_2, .int .i64 a1_3, .int .i64 a1_4, .bool a1_5]) (t := 23) ?hr ?_; (case hd => rfl); (case hg => rfl); (case hr => first | (go_simp; done) | (go_simp; rfl)); intro gb392 hg w40 hbox hb; have BK392 := aM_ (hbox); have GW392 := aM_ (gw_ w hg); have GE392 := aM_ (gw_ w hg); have NB391_392 := aM_ (nR_ BK391 hg); have NB392_391 := aM_ (mR_ BK391 hg); replace BK391 := aM_ (blk_below (g := gb391) (kR_ BK391) hb); replace HB := aM_ (below_step hB_ hb); clear hb hbox hg; have hnb41 := NB391_392.out; have hnc41 := NB392_391.out; have hz42 := cf6_ BK391.out; clear BK391; have hz43 := cf6_ BK392.out))
  go_ret
  exact ⟨rT_, hB_⟩

/-! ### laws_eqOrient: function 12 -/
set_option maxHeartbeats 8000000 in
set_option maxRecDepth 100000 in
theorem laws_eqOrient.calls (a0_0 : Int) (a0_1 : Int) (a1_0 : Int) (a1_1 : Int) (r : Bool) (w : World) (h : laws_eqOrient.f a0_0 a0_1 a1_0 a1_1 = some r) :
 Calls Tryz.prog 12 #[.agg #[.int .i64 a0_0, .int .i64 a0_1], .agg #[.int .i64 a1_0, .int .i64 a1_1]] w fun e w' => e = .returned (.bool r) ∧ Below w.heap.size w w' := by
 have hu25 := Tryz.underlying25
 have HB := Aside0.mk (Below.refl w.heap.size w)
 have H : (if a0_0 = a1_0 then (if a0_1 = a1_1 then (some true) else (some false)) else (some false)) = some r := h
 clear h
 by_cases c3 : a0_0 = a1_0
 ·rw [if_pos c3] at H
  have c3b0 : (a0_0 == a1_0) = true := beq_iff_eq.mpr c3
  have c3b1 : (a0_0 != a1_0) = false := bne_eq_false_iff_eq.mpr c3
  clear c3
  by_cases c4 : a0_1 = a1_1
  ·rw [if_pos c4] at H
   have c4b0 : (a0_1 == a1_1) = true := beq_iff_eq.mpr c4
   have c4b1 : (a0_1 != a1_1) = false := bne_eq_false_iff_eq.mpr c4
   clear c4
   obtain rfl := Option.some.inj H
   go_enter Tryz.func12, Tryz.ntmps12
   go_wp2_with (first | ((with_reducible refine gate_dst (N := 2) rfl ?_); refine box_event ?hg (N := 2) ?hd (cs := #[.int .i64 a0_0, .int .i64 a0_1]) (t := 25) ?hr ?_; (case hd => rfl); (case hg => rfl); (case hr => first | (go_simp; done) | (go_simp; rfl)); intro gb393 hg w5 hbox hb; have BK393 := aM_ (hbox); have GW393 := aM_ (gw_ w hg); have GE393 := aM_ (gw_ w hg); replace HB := aM_ (below_step hB_ hb); clear hb hbox hg) | ((with_reducible refine gate_dst (N := 3) rfl ?_); refine box_event ?hg (N := 3) ?hd (cs := #[.int .i64 a1_0, .int .i64 a1_1]) (t := 25) ?hr ?_; (case hd => rfl); (case hg => rfl); (case hr => first | (go_simp; done) | (go_simp; rfl)); intro gb394 hg w6 hbox hb; have BK394 := aM_ (hbox); have GW394 := aM_ (gw_ w hg); have GE394 := aM_ (gw_ w hg); have NB393_394 := aM_ (nR_ BK393 hg); have NB394_393 := aM_ (mR_ BK393 hg); replace BK393 := aM_ (blk_below (g := gb393) (kR_ BK393) hb); replace HB := aM_ (below_step hB_ hb); clear hb hbox hg; have hnb7 := NB393_394.out; have hnc7 := NB394_393.out; have hz8 := cf2_ BK393.out; have hz9 := cf2_ BK394.out; clear BK393))
   go_ret
   exact ⟨rT_, hB_⟩
  ·rw [if_neg c4] at H
   have c4b0 : (a0_1 == a1_1) = false := beq_eq_false_iff_ne.mpr c4
   have c4b1 : (a0_1 != a1_1) = true := bne_iff_ne.mpr c4
   obtain rfl := Option.some.inj H
   go_enter Tryz.func12, Tryz.ntmps12
   go_wp2_with (first | ((with_reducible refine gate_dst (N := 2) rfl ?_); refine box_event ?hg (N := 2) ?hd (cs := #[.int .i64 a0_0, .int .i64 a0_1]) (t := 25) ?hr ?_; (case hd => rfl); (case hg => rfl); (case hr => first | (go_simp; done) | (go_simp; rfl)); intro gb393 hg w10 hbox hb; have BK393 := aM_ (hbox); have GW393 := aM_ (gw_ w hg); have GE393 := aM_ (gw_ w hg); replace HB := aM_ (below_step hB_ hb); clear hb hbox hg) | ((with_reducible refine gate_dst (N := 3) rfl ?_); refine box_event ?hg (N := 3) ?hd (cs := #[.int .i64 a1_0, .int .i64 a1_1]) (t := 25) ?hr ?_; (case hd => rfl); (case hg => rfl); (case hr => first | (go_simp; done) | (go_simp; rfl)); intro gb394 hg w11 hbox hb; have BK394 := aM_ (hbox); have GW394 := aM_ (gw_ w hg); have GE394 := aM_ (gw_ w hg); have NB393_394 := aM_ (nR_ BK393 hg); have NB394_393 := aM_ (mR_ BK393 hg); replace BK393 := aM_ (blk_below (g := gb393) (kR_ BK393) hb); replace HB := aM_ (below_step hB_ hb); clear hb hbox hg; have hnb12 := NB393_394.out; have hnc12 := NB394_393.out; have hz13 := cf2_ BK393.out; have hz14 := cf2_ BK394.out; clear BK393))
   go_ret
   exact ⟨rT_, hB_⟩
 ·rw [if_neg c3] at H
  have c3b0 : (a0_0 == a1_0) = false := beq_eq_false_iff_ne.mpr c3
  have c3b1 : (a0_0 != a1_0) = true := bne_iff_ne.mpr c3
  obtain rfl := Option.some.inj H
  go_enter Tryz.func12, Tryz.ntmps12
  go_wp2_with (first | ((with_reducible refine gate_dst (N := 2) rfl ?_); refine box_event ?hg (N := 2) ?hd (cs := #[.int .i64 a0_0, .int .i64 a0_1]) (t := 25) ?hr ?_; (case hd => rfl); (case hg => rfl); (case hr => first | (go_simp; done) | (go_simp; rfl)); intro gb393 hg w15 hbox hb; have BK393 := aM_ (hbox); have GW393 := aM_ (gw_ w hg); have GE393 := aM_ (gw_ w hg); replace HB := aM_ (below_step hB_ hb); clear hb hbox hg) | ((with_reducible refine gate_dst (N := 3) rfl ?_); refine box_event ?hg (N := 3) ?hd (cs := #[.int .i64 a1_0, .int .i64 a1_1]) (t := 25) ?hr ?_; (case hd => rfl); (case hg => rfl); (case hr => first | (go_simp; done) | (go_simp; rfl)); intro gb394 hg w16 hbox hb; have BK394 := aM_ (hbox); have GW394 := aM_ (gw_ w hg); have GE394 := aM_ (gw_ w hg); have NB393_394 := aM_ (nR_ BK393 hg); have NB394_393 := aM_ (mR_ BK393 hg); replace BK393 := aM_ (blk_below (g := gb393) (kR_ BK393) hb); replace HB := aM_ (below_step hB_ hb); clear hb hbox hg; have hnb17 := NB393_394.out; have hnc17 := NB394_393.out; have hz18 := cf2_ BK393.out; clear BK393; have hz19 := cf2_ BK394.out))
  go_ret
  exact ⟨rT_, hB_⟩

end Go.Proofs.YtcapebhnioblbaaGreatDoor.PFnExactParseHand
