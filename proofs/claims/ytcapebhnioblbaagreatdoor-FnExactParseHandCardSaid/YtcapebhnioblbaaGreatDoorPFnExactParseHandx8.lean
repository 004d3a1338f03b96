/- Written by a program of this claim's author, out of the loaded program as Lean prints it: the functions as Lean functions, and that the calls answer so. -/
import Derived.Test.YtcapebhnioblbaaGreatDoorPFnExactParseHandx0
import Derived.Test.YtcapebhnioblbaaGreatDoorPFnExactParseHandx1
import Derived.Test.YtcapebhnioblbaaGreatDoorPFnExactParseHandx7
import Derived.Test.YtcapebhnioblbaaGreatDoorPFnExactParseHandxD0
namespace Go.Proofs.YtcapebhnioblbaaGreatDoor.PFnExactParseHand
open Go.RowKit Go.Proofs.YtcapebhnioblbaaGreatDoorW.PrintWords Go.Proofs.YtcapebhnioblbaaGreatDoorW.PrintLast Go.Proofs.YtcapebhnioblbaaGreatDoorW.PrintMore
attribute [local go_sem] max2_int min2_int max_two min_two max_three min_three max_four min_four isSome_setCell   -- for this text's walks alone
set_option linter.unusedVariables false
set_option linter.unusedSimpArgs false

theorem yactParseHandx8_0_ {p : Prop} (h : p := by rw [← hq_]; exact (by (with_reducible repeat (first | apply kN_ | apply kD_ | apply kA_)); exact BK234.out)) : p := h
theorem yactParseHandx8_1_ {p : Prop} (h : p := by first | rfl | (simp; done) | (simp [*]; done)) : p := h
theorem yactParseHandx8_2_ {p : Prop} (h : p := by repeat (first | exact Drawn0.refl _ | apply Drawn0.step)) : p := h
theorem yactParseHandx8_3_ {p : Prop} (h : p := by first | (with_reducible assumption) | assumption) : p := h
theorem yactParseHandx8_4_ {p : Prop} (h : p := by (try simp only [List.map_toArray, List.map_cons, List.map_nil]); first | done | rfl | simp | (simp; rfl)) : p := h
/-! ### spec_ParseHand: function 4 -/
set_option maxHeartbeats 8000000 in
set_option maxRecDepth 100000 in
theorem spec_ParseHand.calls (k : Nat) (a0 : ByteArray) (r1 : Int) (r2 : Int) (r3 : Int) (r4 : Int) (r5 : Int) (r6 : Bool) (r7 : Int) (r8 : Int) (r9 : Int) (r10 : Int) (r11 : Bool) (r12 : ByteArray) (r13 : Int) (r14 : Bool) (w : World) (h : spec_ParseHand.f k a0 = some (r1, r2, r3, r4, r5, r6, r7, r8, r9, r10, r11, r12, r13, r14)) :
 Calls Tryz.prog 4 #[.string a0] w fun e w' => e = .returned (.tuple #[.agg #[.int .i64 r1, .int .i64 r2, .int .i64 r3, .int .i64 r4, .int .i64 r5, .bool r6, .int .i64 r7, .int .i64 r8, .int .i64 r9, .int .i64 r10, .bool r11, .string r12, .int .i64 r13], .bool r14]) ∧ Below w.heap.size w w' := by
 have hu31 := Tryz.underlying31
 have HB := Aside0.mk (Below.refl w.heap.size w)
 have H : ((spec_paGiven.f a0).bind fun t235 => (if t235 = true then ((spec_paHand.f k a0).bind fun bt236 => (some (bt236.1, bt236.2.1, bt236.2.2.1, bt236.2.2.2.1, bt236.2.2.2.2.1, bt236.2.2.2.2.2.1, bt236.2.2.2.2.2.2.1, bt236.2.2.2.2.2.2.2.1, bt236.2.2.2.2.2.2.2.2.1, bt236.2.2.2.2.2.2.2.2.2.1, bt236.2.2.2.2.2.2.2.2.2.2.1, bt236.2.2.2.2.2.2.2.2.2.2.2.1, bt236.2.2.2.2.2.2.2.2.2.2.2.2.1, (bt236.2.2.2.2.2.2.2.2.2.2.2.2.2.1 == 0)))) else (some (0, 0, 0, 0, 0, false, 0, 0, 0, 0, false, (⟨#[]⟩ : ByteArray), 0, false)))) = some (r1, r2, r3, r4, r5, r6, r7, r8, r9, r10, r11, r12, r13, r14) := h
 clear h
 replace H := Option.bind_eq_some_iff.mp H
 obtain ⟨t235, A20, H⟩ := H
 try dsimp only at H
 have A2 := Aside0.mk A20
 clear A20
 by_cases c3 : t235 = true
 ·subst c3
  replace H := ip_ H rfl
  replace H := Option.bind_eq_some_iff.mp H
  obtain ⟨⟨t236, t237, t238, t239, t240, t241, t242, t243, t244, t245, t246, t247, t248, t249, t250⟩, A40, H⟩ := H
  try dsimp only at H
  have A4 := Aside0.mk A40
  clear A40
  simp only [Option.some.injEq, Prod.mk.injEq] at H
  obtain ⟨rfl, rfl, rfl, rfl, rfl, rfl, rfl, rfl, rfl, rfl, rfl, rfl, rfl, rfl⟩ := H
  go_enter Tryz.func4, Tryz.ntmps4
  go_wp2_with (first | ((with_reducible refine gate_dst (N := 2) rfl ?_); refine box_event ?hg (N := 2) ?hd (cs := #[.int .i64 0, .int .i64 0, .int .i64 0, .int .i64 0, .int .i64 0, .bool false, .int .i64 0, .int .i64 0, .int .i64 0, .int .i64 0, .bool false, .string (⟨#[]⟩ : ByteArray), .int .i64 0]) (t := 31) ?hr ?_; (case hd => rfl); (case hg => rfl); (case hr => first | (go_simp; done) | (go_simp; rfl)); intro gb234 hg w5 hbox hb; have BK234 := aM_ (hbox); have GW234 := aM_ (gw_ w hg); have GE234 := aM_ (gw_ w hg); replace HB := aM_ (below_step hB_ hb); clear hb hbox hg) | ((with_reducible refine gate_callee (f := 7) rfl ?_); refine goesM_ (some 8) Tryz.func7 #[.string a0] ?_; (with_reducible refine (spec_paGiven.calls a0 true _ A2.out).mono ?_); rintro e w' ⟨rfl, ⟨nd, rfl⟩⟩; refine ⟨_, rfl, ?_⟩; (try (rw [drewN_self w5]; generalize hq_ : World.drewN w5 _ = w5; have n0_ : Aside0 (w5.heap[gb234]? = some (.cells #[.int .i64 0, .int .i64 0, .int .i64 0, .int .i64 0, .int .i64 0, .bool false, .int .i64 0, .int .i64 0, .int .i64 0, .int .i64 0, .bool false, .string (⟨#[]⟩ : ByteArray), .int .i64 0] 31 (0, 0))) := ⟨yactParseHandx8_0_⟩; have n1_ : Aside0 (Below w.heap.size w w5) := ⟨by rw [← hq_]; exact hB_⟩; clear BK234 HB hq_; have BK234 := n0_; have HB := n1_; clear n0_ n1_))) | ((with_reducible refine gate_callee (f := 8) rfl ?_); refine goesM_ (some 13) Tryz.func8 #[.string a0] ?_; (with_reducible refine (spec_paHand.calls k a0 t236 t237 t238 t239 t240 t241 t242 t243 t244 t245 t246 t247 t248 t249 t250 _ A4.out).mono ?_); rintro e w6 ⟨rfl, hb⟩; refine ⟨_, rfl, ?_⟩; replace BK234 := aM_ (blk_below (g := gb234) (kR_ BK234) hb); replace HB := aM_ (below_step hB_ hb); (try clear hb); (try clear hb2); (try clear hk); (try clear hi)) | ((with_reducible refine gate_dst (N := 4) rfl ?_); refine box_event ?hg (N := 4) ?hd (cs := #[.int .i64 0, .int .i64 0, .int .i64 0, .int .i64 0, .int .i64 0, .bool false, .int .i64 0, .int .i64 0, .int .i64 0, .int .i64 0, .bool false, .string (⟨#[]⟩ : ByteArray), .int .i64 0]) (t := 31) ?hr ?_; (case hd => rfl); (case hg => rfl); (case hr => first | (go_simp; done) | (go_simp; rfl)); intro gb251 hg w7 hbox hb; have BK251 := aM_ (hbox); have GW251 := aM_ (gw_ w hg); have GE251 := aM_ (gw_ w hg); have NB234_251 := aM_ (nR_ BK234 hg); have NB251_234 := aM_ (mR_ BK234 hg); replace BK234 := aM_ (blk_below (g := gb234) (kR_ BK234) hb); replace HB := aM_ (below_step hB_ hb); clear hb hbox hg; have hnb8 := NB251_234.out; have hnc8 := NB234_251.out; have hz9 := cf13_ BK251.out; have hz10 := cf13_ BK234.out))
  refine bodyPost_ret (results_ct rfl _ _ gb234 31 #[.int .i64 t236, .int .i64 t237, .int .i64 t238, .int .i64 t239, .int .i64 t240, .bool t241, .int .i64 t242, .int .i64 t243, .int .i64 t244, .int .i64 t245, .bool t246, .string t247, .int .i64 t248] (0, 0) _ rfl (by (with_reducible repeat (first | apply kN_ | apply kD_ | apply kA_)); refine blk_put (cs := #[.int .i64 t236, .int .i64 t237, .int .i64 t238, .int .i64 t239, .int .i64 t240, .bool t241, .int .i64 t242, .int .i64 t243, .int .i64 t244, .int .i64 t245, .bool t246, .string t247, .int .i64 0]) ?_ 12 _ rfl; (with_reducible repeat (first | apply kN_ | apply kD_ | apply kA_)); refine blk_put (cs := #[.int .i64 t236, .int .i64 t237, .int .i64 t238, .int .i64 t239, .int .i64 t240, .bool t241, .int .i64 t242, .int .i64 t243, .int .i64 t244, .int .i64 t245, .bool t246, .string (⟨#[]⟩ : ByteArray), .int .i64 0]) ?_ 11 _ rfl; (with_reducible repeat (first | apply kN_ | apply kD_ | apply kA_)); refine blk_put (cs := #[.int .i64 t236, .int .i64 t237, .int .i64 t238, .int .i64 t239, .int .i64 t240, .bool t241, .int .i64 t242, .int .i64 t243, .int .i64 t244, .int .i64 t245, .bool false, .string (⟨#[]⟩ : ByteArray), .int .i64 0]) ?_ 10 _ rfl; (with_reducible repeat (first | apply kN_ | apply kD_ | apply kA_)); refine blk_put (cs := #[.int .i64 t236, .int .i64 t237, .int .i64 t238, .int .i64 t239, .int .i64 t240, .bool t241, .int .i64 t242, .int .i64 t243, .int .i64 t244, .int .i64 0, .bool false, .string (⟨#[]⟩ : ByteArray), .int .i64 0]) ?_ 9 _ rfl; (with_reducible repeat (first | apply kN_ | apply kD_ | apply kA_)); refine blk_put (cs := #[.int .i64 t236, .int .i64 t237, .int .i64 t238, .int .i64 t239, .int .i64 t240, .bool t241, .int .i64 t242, .int .i64 t243, .int .i64 0, .int .i64 0, .bool false, .string (⟨#[]⟩ : ByteArray), .int .i64 0]) ?_ 8 _ rfl; (with_reducible repeat (first | apply kN_ | apply kD_ | apply kA_)); refine blk_put (cs := #[.int .i64 t236, .int .i64 t237, .int .i64 t238, .int .i64 t239, .int .i64 t240, .bool t241, .int .i64 t242, .int .i64 0, .int .i64 0, .int .i64 0, .bool false, .string (⟨#[]⟩ : ByteArray), .int .i64 0]) ?_ 7 _ rfl; (with_reducible repeat (first | apply kN_ | apply kD_ | apply kA_)); refine blk_put (cs := #[.int .i64 t236, .int .i64 t237, .int .i64 t238, .int .i64 t239, .int .i64 t240, .bool t241, .int .i64 0, .int .i64 0, .int .i64 0, .int .i64 0, .bool false, .string (⟨#[]⟩ : ByteArray), .int .i64 0]) ?_ 6 _ rfl; (with_reducible repeat (first | apply kN_ | apply kD_ | apply kA_)); refine blk_put (cs := #[.int .i64 t236, .int .i64 t237, .int .i64 t238, .int .i64 t239, .int .i64 t240, .bool false, .int .i64 0, .int .i64 0, .int .i64 0, .int .i64 0, .bool false, .string (⟨#[]⟩ : ByteArray), .int .i64 0]) ?_ 5 _ rfl; (with_reducible repeat (first | apply kN_ | apply kD_ | apply kA_)); refine blk_put (cs := #[.int .i64 t236, .int .i64 t237, .int .i64 t238, .int .i64 t239, .int .i64 0, .bool false, .int .i64 0, .int .i64 0, .int .i64 0, .int .i64 0, .bool false, .string (⟨#[]⟩ : ByteArray), .int .i64 0]) ?_ 4 _ rfl; (with_reducible repeat (first | apply kN_ | apply kD_ | apply kA_)); refine blk_put (cs := #[.int .i64 t236, .int .i64 t237, .int .i64 t238, .int .i64 0, .int .i64 0, .bool false, .int .i64 0, .int .i64 0, .int .i64 0, .int .i64 0, .bool false, .string (⟨#[]⟩ : ByteArray), .int .i64 0]) ?_ 3 _ rfl; (with_reducible repeat (first | apply kN_ | apply kD_ | apply kA_)); refine blk_put (cs := #[.int .i64 t236, .int .i64 t237, .int .i64 0, .int .i64 0, .int .i64 0, .bool false, .int .i64 0, .int .i64 0, .int .i64 0, .int .i64 0, .bool false, .string (⟨#[]⟩ : ByteArray), .int .i64 0]) ?_ 2 _ rfl; (with_reducible repeat (first | apply kN_ | apply kD_ | apply kA_)); refine blk_put (cs := #[.int .i64 t236, .int .i64 0, .int .i64 0, .int .i64 0, .int .i64 0, .bool false, .int .i64 0, .int .i64 0, .int .i64 0, .int .i64 0, .bool false, .string (⟨#[]⟩ : ByteArray), .int .i64 0]) ?_ 1 _ rfl; (with_reducible repeat (first | apply kN_ | apply kD_ | apply kA_)); refine blk_put (cs := #[.int .i64 0, .int .i64 0, .int .i64 0, .int .i64 0, .int .i64 0, .bool false, .int .i64 0, .int .i64 0, .int .i64 0, .int .i64 0, .bool false, .string (⟨#[]⟩ : ByteArray), .int .i64 0]) ?_ 0 _ rfl; (with_reducible repeat (first | apply kN_ | apply kD_ | apply kA_)); refine blk_far ?_ NB234_251.out _; (with_reducible repeat (first | apply kN_ | apply kD_ | apply kA_)); refine blk_far ?_ NB234_251.out _; (with_reducible repeat (first | apply kN_ | apply kD_ | apply kA_)); refine blk_far ?_ NB234_251.out _; (with_reducible repeat (first | apply kN_ | apply kD_ | apply kA_)); refine blk_far ?_ NB234_251.out _; (with_reducible repeat (first | apply kN_ | apply kD_ | apply kA_)); refine blk_far ?_ NB234_251.out _; (with_reducible repeat (first | apply kN_ | apply kD_ | apply kA_)); refine blk_far ?_ NB234_251.out _; (with_reducible repeat (first | apply kN_ | apply kD_ | apply kA_)); refine blk_far ?_ NB234_251.out _; (with_reducible repeat (first | apply kN_ | apply kD_ | apply kA_)); refine blk_far ?_ NB234_251.out _; (with_reducible repeat (first | apply kN_ | apply kD_ | apply kA_)); refine blk_far ?_ NB234_251.out _; (with_reducible repeat (first | apply kN_ | apply kD_ | apply kA_)); refine blk_far ?_ NB234_251.out _; (with_reducible repeat (first | apply kN_ | apply kD_ | apply kA_)); refine blk_far ?_ NB234_251.out _; (with_reducible repeat (first | apply kN_ | apply kD_ | apply kA_)); refine blk_far ?_ NB234_251.out _; (with_reducible repeat (first | apply kN_ | apply kD_ | apply kA_)); refine blk_far ?_ NB234_251.out _; (with_reducible repeat (first | apply kN_ | apply kD_ | apply kA_)); exact BK234.out) Tryz.underlying31 rfl (by kernel_rfl)) rfl ?_
  exact ⟨rT_, hB_⟩
 ·replace c3 := Bool.eq_false_iff.mpr c3
  subst c3
  replace H := in_ H (show ¬ (false = true) by decide)
  simp only [Option.some.injEq, Prod.mk.injEq] at H
  obtain ⟨rfl, rfl, rfl, rfl, rfl, rfl, rfl, rfl, rfl, rfl, rfl, rfl, rfl, rfl⟩ := H
  go_enter Tryz.func4, Tryz.ntmps4
  go_wp2_with (first | ((with_reducible refine gate_dst (N := 2) rfl ?_); refine box_event ?hg (N := 2) ?hd (cs := #[.int .i64 0, .int .i64 0, .int .i64 0, .int .i64 0, .int .i64 0, .bool false, .int .i64 0, .int .i64 0, .int .i64 0, .int .i64 0, .bool false, .string (⟨#[]⟩ : ByteArray), .int .i64 0]) (t := 31) ?hr ?_; (case hd => rfl); (case hg => rfl); (case hr => first | (go_simp; done) | (go_simp; rfl)); intro gb234 hg w11 hbox hb; have BK234 := aM_ (hbox); have GW234 := aM_ (gw_ w hg); have GE234 := aM_ (gw_ w hg); replace HB := aM_ (below_step hB_ hb); clear hb hbox hg) | ((with_reducible refine gate_callee (f := 7) rfl ?_); refine goesM_ (some 8) Tryz.func7 #[.string a0] ?_; (with_reducible refine (spec_paGiven.calls a0 false _ A2.out).mono ?_); rintro e w' ⟨rfl, ⟨nd, rfl⟩⟩; refine ⟨_, rfl, ?_⟩; (try (rw [drewN_self w11]; generalize hq_ : World.drewN w11 _ = w11; have n0_ : Aside0 (w11.heap[gb234]? = some (.cells #[.int .i64 0, .int .i64 0, .int .i64 0, .int .i64 0, .int .i64 0, .bool false, .int .i64 0, .int .i64 0, .int .i64 0, .int .i64 0, .bool false, .string (⟨#[]⟩ : ByteArray), .int .i64 0] 31 (0, 0))) := ⟨yactParseHandx8_0_⟩; have n1_ : Aside0 (Below w.heap.size w w11) := ⟨by rw [← hq_]; exact hB_⟩; clear BK234 HB hq_; have BK234 := n0_; have HB := n1_; clear n0_ n1_)); have hz12 := cf13_ BK234.out))
  refine bodyPost_ret (results_ct rfl _ _ gb234 31 #[.int .i64 0, .int .i64 0, .int .i64 0, .int .i64 0, .int .i64 0, .bool false, .int .i64 0, .int .i64 0, .int .i64 0, .int .i64 0, .bool false, .string (⟨#[]⟩ : ByteArray), .int .i64 0] (0, 0) _ rfl (by (with_reducible repeat (first | apply kN_ | apply kD_ | apply kA_)); refine blk_put (cs := #[.int .i64 0, .int .i64 0, .int .i64 0, .int .i64 0, .int .i64 0, .bool false, .int .i64 0, .int .i64 0, .int .i64 0, .int .i64 0, .bool false, .string (⟨#[]⟩ : ByteArray), .int .i64 0]) ?_ 12 _ rfl; (with_reducible repeat (first | apply kN_ | apply kD_ | apply kA_)); refine blk_put (cs := #[.int .i64 0, .int .i64 0, .int .i64 0, .int .i64 0, .int .i64 0, .bool false, .int .i64 0, .int .i64 0, .int .i64 0, .int .i64 0, .bool false, .string (⟨#[]⟩ : ByteArray), .int .i64 0]) ?_ 11 _ rfl; (with_reducible repeat (first | apply kN_ | apply kD_ | apply kA_)); refine blk_put (cs := #[.int .i64 0, .int .i64 0, .int .i64 0, .int .i64 0, .int .i64 0, .bool false, .int .i64 0, .int .i64 0, .int .i64 0, .int .i64 0, .bool false, .string (⟨#[]⟩ : ByteArray), .int .i64 0]) ?_ 10 _ rfl; (with_reducible repeat (first | apply kN_ | apply kD_ | apply kA_)); refine blk_put (cs := #[.int .i64 0, .int .i64 0, .int .i64 0, .int .i64 0, .int .i64 0, .bool false, .int .i64 0, .int .i64 0, .int .i64 0, .int .i64 0, .bool false, .string (⟨#[]⟩ : ByteArray), .int .i64 0]) ?_ 9 _ rfl; (with_reducible repeat (first | apply kN_ | apply kD_ | apply kA_)); refine blk_put (cs := #[.int .i64 0, .int .i64 0, .int .i64 0, .int .i64 0, .int .i64 0, .bool false, .int .i64 0, .int .i64 0, .int .i64 0, .int .i64 0, .bool false, .string (⟨#[]⟩ : ByteArray), .int .i64 0]) ?_ 8 _ rfl; (with_reducible repeat (first | apply kN_ | apply kD_ | apply kA_)); refine blk_put (cs := #[.int .i64 0, .int .i64 0, .int .i64 0, .int .i64 0, .int .i64 0, .bool false, .int .i64 0, .int .i64 0, .int .i64 0, .int .i64 0, .bool false, .string (⟨#[]⟩ : ByteArray), .int .i64 0]) ?_ 7 _ rfl; (with_reducible repeat (first | apply kN_ | apply kD_ | apply kA_)); refine blk_put (cs := #[.int .i64 0, .int .i64 0, .int .i64 0, .int .i64 0, .int .i64 0, .bool false, .int .i64 0, .int .i64 0, .int .i64 0, .int .i64 0, .bool false, .string (⟨#[]⟩ : ByteArray), .int .i64 0]) ?_ 6 _ rfl; (with_reducible repeat (first | apply kN_ | apply kD_ | apply kA_)); refine blk_put (cs := #[.int .i64 0, .int .i64 0, .int .i64 0, .int .i64 0, .int .i64 0, .bool false, .int .i64 0, .int .i64 0, .int .i64 0, .int .i64 0, .bool false, .string (⟨#[]⟩ : ByteArray), .int .i64 0]) ?_ 5 _ rfl; (with_reducible repeat (first | apply kN_ | apply kD_ | apply kA_)); refine blk_put (cs := #[.int .i64 0, .int .i64 0, .int .i64 0, .int .i64 0, .int .i64 0, .bool false, .int .i64 0, .int .i64 0, .int .i64 0, .int .i64 0, .bool false, .string (⟨#[]⟩ : ByteArray), .int .i64 0]) ?_ 4 _ rfl; (with_reducible repeat (first | apply kN_ | apply kD_ | apply kA_)); refine blk_put (cs := #[.int .i64 0, .int .i64 0, .int .i64 0, .int .i64 0, .int .i64 0, .bool false, .int .i64 0, .int .i64 0, .int .i64 0, .int .i64 0, .bool false, .string (⟨#[]⟩ : ByteArray), .int .i64 0]) ?_ 3 _ rfl; (with_reducible repeat (first | apply kN_ | apply kD_ | apply kA_)); refine blk_put (cs := #[.int .i64 0, .int .i64 0, .int .i64 0, .int .i64 0, .int .i64 0, .bool false, .int .i64 0, .int .i64 0, .int .i64 0, .int .i64 0, .bool false, .string (⟨#[]⟩ : ByteArray), .int .i64 0]) ?_ 2 _ rfl; (with_reducible repeat (first | apply kN_ | apply kD_ | apply kA_)); refine blk_put (cs := #[.int .i64 0, .int .i64 0, .int .i64 0, .int .i64 0, .int .i64 0, .bool false, .int .i64 0, .int .i64 0, .int .i64 0, .int .i64 0, .bool false, .string (⟨#[]⟩ : ByteArray), .int .i64 0]) ?_ 1 _ rfl; (with_reducible repeat (first | apply kN_ | apply kD_ | apply kA_)); refine blk_put (cs := #[.int .i64 0, .int .i64 0, .int .i64 0, .int .i64 0, .int .i64 0, .bool false, .int .i64 0, .int .i64 0, .int .i64 0, .int .i64 0, .bool false, .string (⟨#[]⟩ : ByteArray), .int .i64 0]) ?_ 0 _ rfl; (with_reducible repeat (first | apply kN_ | apply kD_ | apply kA_)); exact BK234.out) Tryz.underlying31 rfl (by kernel_rfl)) rfl ?_
  exact ⟨rT_, hB_⟩

/-! ### stringslite_Index: function 35, by hand -/
open Go.Shelf Go.RowKit Go.Sort Go.Lib in
def laid_lays219_ren : Go.Shelf.Ren := ⟨fun | 219 => 35 | 217 => 58 | 225 => 59 | 224 => 60 | 267 => 61 | 266 => 73 | 314 => 74 | n => n, fun | 9 => 9 | 3 => 3 | 4 => 4 | 5 => 5 | 46 => 84 | 146 => 96 | 51 => 95 | n => n, fun | 1 => 0 | n => n⟩
open Go.Shelf Go.RowKit Go.Sort Go.Lib in
theorem laid_lays219 : Go.Proofs.Lays.n219 Tryz.prog laid_lays219_ren := {
 mixed := by kernel_rfl
 f217 := Tryz.func58.trans (congrArg some (by kernel_rfl))
 f219 := Tryz.func35.trans (congrArg some (by kernel_rfl))
 f224 := Tryz.func60.trans (congrArg some (by kernel_rfl))
 f225 := Tryz.func59.trans (congrArg some (by kernel_rfl))
 f266 := Tryz.func73.trans (congrArg some (by kernel_rfl))
 f267 := Tryz.func61.trans (congrArg some (by kernel_rfl))
 f314 := Tryz.func74.trans (congrArg some (by kernel_rfl))
 t3 := Tryz.underlying3
 a3 := Tryz.isAgg3
 z3 := Tryz.sizeOf3
 v3 := Tryz.zeroValue3
 t4 := Tryz.underlying4
 a4 := Tryz.isAgg4
 z4 := Tryz.sizeOf4
 v4 := Tryz.zeroValue4
 t5 := Tryz.underlying5
 a5 := Tryz.isAgg5
 z5 := Tryz.sizeOf5
 v5 := Tryz.zeroValue5
 t9 := Tryz.underlying9
 a9 := Tryz.isAgg9
 z9 := Tryz.sizeOf9
 v9 := Tryz.zeroValue9
 t46 := Tryz.underlying84
 a46 := Tryz.isAgg84
 z46 := Tryz.sizeOf84
 v46 := Tryz.zeroValue84
 t51 := Tryz.underlying95
 a51 := Tryz.isAgg95
 z51 := Tryz.sizeOf95
 v51 := Tryz.zeroValue95
 t146 := Tryz.underlying96
 a146 := Tryz.isAgg96
 z146 := Tryz.sizeOf96
 v146 := Tryz.zeroValue96
 g1 := by kernel_rfl }
theorem stringslite_Index.calls (a0 : ByteArray) (a1 : ByteArray) (r : Int) (w : World) (h : stringslite_Index.f a0 a1 = some r) :
 Calls Tryz.prog 35 #[.string a0, .string a1] w fun e w' => e = .returned (.int .i64 r) ∧ Drawn0 w w' := by
 unfold stringslite_Index.f at h
 split at h
 case isFalse => cases h
 case isTrue hl =>
  obtain rfl := Option.some.inj h
  obtain ⟨⟨l⟩⟩ := a1
  match l, hl with
  | [c], _ => exact (Any.stringslite_Index_one laid_lays219 a0 c w).mono fun _ _ ⟨he, hw⟩ => ⟨he, by subst hw; exact Drawn0.refl _⟩
  | [], hl => cases hl
  | _ :: _ :: _, hl => exact absurd hl (by simp [ByteArray.size])

/-! ### strings_Index: function 20 -/
set_option maxHeartbeats 8000000 in
set_option maxRecDepth 100000 in
theorem strings_Index.calls (a0 : ByteArray) (a1 : ByteArray) (r : Int) (w : World) (h : strings_Index.f a0 a1 = some r) :
 Calls Tryz.prog 20 #[.string a0, .string a1] w fun e w' => e = .returned (.int .i64 r) ∧ Drawn0 w w' := by
 have H : ((stringslite_Index.f a0 a1).bind fun t252 => (some t252)) = some r := h
 clear h
 replace H := Option.bind_eq_some_iff.mp H
 obtain ⟨t252, A30, H⟩ := H
 try dsimp only at H
 have A3 := Aside0.mk A30
 clear A30
 obtain rfl := Option.some.inj H
 go_enter Tryz.func20, Tryz.ntmps20
 go_wp2_with (first | ((with_reducible refine gate_callee (f := 35) rfl ?_); refine goesM_ (some 7) Tryz.func35 #[.string a0, .string a1] ?_; (with_reducible refine (stringslite_Index.calls a0 a1 t252 _ A3.out).mono ?_); rintro e w' ⟨rfl, ⟨nd, rfl⟩⟩; refine ⟨_, rfl, ?_⟩))
 go_ret
 exact ⟨yactParseHandx8_1_, yactParseHandx8_2_⟩

/-! ### strings_Contains: function 9 -/
set_option maxHeartbeats 8000000 in
set_option maxRecDepth 100000 in
theorem strings_Contains.calls (a0 : ByteArray) (a1 : ByteArray) (r : Bool) (w : World) (h : strings_Contains.f a0 a1 = some r) :
 Calls Tryz.prog 9 #[.string a0, .string a1] w fun e w' => e = .returned (.bool r) ∧ Drawn0 w w' := by
 have H : ((strings_Index.f a0 a1).bind fun t253 => (some (decide (t253 ≥ 0)))) = some r := h
 clear h
 replace H := Option.bind_eq_some_iff.mp H
 obtain ⟨t253, A30, H⟩ := H
 try dsimp only at H
 have A3 := Aside0.mk A30
 clear A30
 obtain rfl := Option.some.inj H
 go_enter Tryz.func9, Tryz.ntmps9
 go_wp2_with (first | ((with_reducible refine gate_callee (f := 20) rfl ?_); refine goesM_ (some 7) Tryz.func20 #[.string a0, .string a1] ?_; (with_reducible refine (strings_Index.calls a0 a1 t253 _ A3.out).mono ?_); rintro e w' ⟨rfl, ⟨nd, rfl⟩⟩; refine ⟨_, rfl, ?_⟩))
 go_ret
 exact ⟨yactParseHandx8_1_, yactParseHandx8_2_⟩

/-! ### strings_Split: function 21, by hand -/
open Go.Shelf Go.RowKit Go.Sort Go.Lib in
def laid_lays146_ren : Go.Shelf.Ren := ⟨fun | 146 => 21 | 221 => 36 | 268 => 62 | 138 => 63 | 143 => 20 | 195 => 75 | 197 => 76 | 218 => 77 | 219 => 35 | 260 => 84 | 217 => 58 | 225 => 59 | 224 => 60 | 267 => 61 | 266 => 73 | 314 => 74 | n => n, fun | 9 => 9 | 31 => 43 | 3 => 3 | 4 => 4 | 0 => 0 | 105 => 98 | 21 => 21 | 5 => 5 | 46 => 84 | 119 => 110 | 139 => 113 | 138 => 112 | 146 => 96 | 51 => 95 | n => n, fun | 1 => 0 | 3 => 1 | 4 => 2 | n => n⟩
open Go.Shelf Go.RowKit Go.Sort Go.Lib in
theorem laid_lays146 : Go.Proofs.Lays.n146 Tryz.prog laid_lays146_ren := {
 mixed := by kernel_rfl
 f138 := Tryz.func63.trans (congrArg some (by kernel_rfl))
 f143 := Tryz.func20.trans (congrArg some (by kernel_rfl))
 f146 := Tryz.func21.trans (congrArg some (by kernel_rfl))
 f195 := Tryz.func75.trans (congrArg some (by kernel_rfl))
 f197 := Tryz.func76.trans (congrArg some (by kernel_rfl))
 f217 := Tryz.func58.trans (congrArg some (by kernel_rfl))
 f218 := Tryz.func77.trans (congrArg some (by kernel_rfl))
 f219 := Tryz.func35.trans (congrArg some (by kernel_rfl))
 f221 := Tryz.func36.trans (congrArg some (by kernel_rfl))
 f224 := Tryz.func60.trans (congrArg some (by kernel_rfl))
 f225 := Tryz.func59.trans (congrArg some (by kernel_rfl))
 f260 := Tryz.func84.trans (congrArg some (by kernel_rfl))
 f266 := Tryz.func73.trans (congrArg some (by kernel_rfl))
 f267 := Tryz.func61.trans (congrArg some (by kernel_rfl))
 f268 := Tryz.func62.trans (congrArg some (by kernel_rfl))
 f314 := Tryz.func74.trans (congrArg some (by kernel_rfl))
 t0 := Tryz.underlying0
 a0 := Tryz.isAgg0
 z0 := Tryz.sizeOf0
 v0 := Tryz.zeroValue0
 t3 := Tryz.underlying3
 a3 := Tryz.isAgg3
 z3 := Tryz.sizeOf3
 v3 := Tryz.zeroValue3
 t4 := Tryz.underlying4
 a4 := Tryz.isAgg4
 z4 := Tryz.sizeOf4
 v4 := Tryz.zeroValue4
 t5 := Tryz.underlying5
 a5 := Tryz.isAgg5
 z5 := Tryz.sizeOf5
 v5 := Tryz.zeroValue5
 t9 := Tryz.underlying9
 a9 := Tryz.isAgg9
 z9 := Tryz.sizeOf9
 v9 := Tryz.zeroValue9
 t21 := Tryz.underlying21
 a21 := Tryz.isAgg21
 z21 := Tryz.sizeOf21
 v21 := Tryz.zeroValue21
 t31 := Tryz.underlying43
 a31 := Tryz.isAgg43
 z31 := Tryz.sizeOf43
 v31 := Tryz.zeroValue43
 t46 := Tryz.underlying84
 a46 := Tryz.isAgg84
 z46 := Tryz.sizeOf84
 v46 := Tryz.zeroValue84
 t51 := Tryz.underlying95
 a51 := Tryz.isAgg95
 z51 := Tryz.sizeOf95
 v51 := Tryz.zeroValue95
 t105 := Tryz.underlying98
 a105 := Tryz.isAgg98
 z105 := Tryz.sizeOf98
 v105 := Tryz.zeroValue98
 t119 := Tryz.underlying110
 a119 := Tryz.isAgg110
 z119 := Tryz.sizeOf110
 t138 := Tryz.underlying112
 a138 := Tryz.isAgg112
 z138 := Tryz.sizeOf112
 v138 := Tryz.zeroValue112
 t139 := Tryz.underlying113
 a139 := Tryz.isAgg113
 z139 := Tryz.sizeOf113
 v139 := Tryz.zeroValue113
 t146 := Tryz.underlying96
 a146 := Tryz.isAgg96
 z146 := Tryz.sizeOf96
 v146 := Tryz.zeroValue96
 g1 := by kernel_rfl
 g3 := by kernel_rfl
 g4 := by kernel_rfl }
theorem strings_Split.calls (a0 : ByteArray) (a1 : ByteArray) (r : List ByteArray) (w : World) (hT_ : TabW Tryz.prog 2 w) (h : strings_Split.f a0 a1 = some r) :
 Calls Tryz.prog 21 #[.string a0, .string a1] w fun e w' => ∃ v0_ : Value, e = .returned (v0_) ∧ Kd.R Kd.string 9 w' w.heap.size (fun _ => True) v0_ r ∧ Below w.heap.size w w' := by
 unfold strings_Split.f at h
 split at h
 case isFalse => cases h
 case isTrue hl =>
  obtain rfl := Option.some.inj h
  obtain ⟨m, hm⟩ := hT_.max (by decide)
  have hc : w.cell? ⟨0, 0, none⟩ = some (.int .i64 m) := by have h0 := World.var?_cell (show Tryz.prog.globalNamed "internal/bytealg.MaxLen" = some 0 by kernel_rfl) hm 0; simpa using h0
  exact (Any.strings_Split laid_lays146 (by kernel_rfl) a0 a1 m w hl.1 hc hl.2).mono fun _ _ ⟨he, hw⟩ => ⟨_, he, by subst hw; exact row_new 9 _ (Lib.splitB_all a1 hl.2 0 _ a0 rfl) (by have := Lib.countB_le a1 hl.2 a0.size a0 (Nat.le_refl _); have := hl.1; omega), by subst hw; exact below_alloc (Below.refl _ _) _⟩

/-! ### impl_within: function 37 -/
set_option maxHeartbeats 8000000 in
set_option maxRecDepth 100000 in
theorem impl_within.calls (a0 : Int) (a1 : Int) (a2 : Int) (r : Bool) (w : World) (h : impl_within.f a0 a1 a2 = some r) :
 Calls Tryz.prog 37 #[.int .i64 a0, .int .i64 a1, .int .i64 a2] w fun e w' => e = .returned (.bool r) ∧ Drawn0 w w' := by
 have H : (if a0 ≥ a1 then (some (decide (a0 ≤ a2))) else (some false)) = some r := h
 clear h
 by_cases c4 : a0 ≥ a1
 ·rw [if_pos c4] at H
  have c4b0 : decide (a1 ≤ a0) = true := decide_eq_true c4
  clear c4
  obtain rfl := Option.some.inj H
  go_enter Tryz.func37, Tryz.ntmps37
  go_wp2
  go_ret
  exact ⟨yactParseHandx8_1_, yactParseHandx8_2_⟩
 ·rw [if_neg c4] at H
  have c4b0 : decide (a1 ≤ a0) = false := decide_eq_false c4
  clear c4
  obtain rfl := Option.some.inj H
  go_enter Tryz.func37, Tryz.ntmps37
  go_wp2
  go_ret
  exact ⟨yactParseHandx8_1_, yactParseHandx8_2_⟩

/-! ### impl_Shape_maySpread: function 64 -/
set_option maxHeartbeats 8000000 in
set_option maxRecDepth 100000 in
theorem impl_Shape_maySpread.calls (a0_0 : Int) (a0_1 : Int) (a0_2 : Int) (a0_3 : Int) (a0_4 : Int) (a0_5 : Bool) (r : Bool) (w : World) (h : impl_Shape_maySpread.f a0_0 a0_1 a0_2 a0_3 a0_4 a0_5 = some r) :
 Calls Tryz.prog 64 #[.agg #[.int .i64 a0_0, .int .i64 a0_1, .int .i64 a0_2, .int .i64 a0_3, .int .i64 a0_4, .bool a0_5]] w fun e w' => e = .returned (.bool r) ∧ Below w.heap.size w w' := by
 have hu23 := Tryz.underlying23
 have HB := Aside0.mk (Below.refl w.heap.size w)
 have H : (if a0_2 = 0 then (if a0_1 = 0 then (some true) else (if a0_3 = 0 then (some true) else (some false))) else (if a0_3 = 0 then (some (a0_4 == 0)) else (some false))) = some r := h
 clear h
 by_cases c2 : a0_2 = 0
 ·rw [if_pos c2] at H
  have c2b0 : (a0_2 == 0) = true := beq_iff_eq.mpr c2
  have c2b1 : (a0_2 != 0) = false := bne_eq_false_iff_eq.mpr c2
  clear c2
  by_cases c3 : a0_1 = 0
  ·rw [if_pos c3] at H
   have c3b0 : (a0_1 == 0) = true := beq_iff_eq.mpr c3
   have c3b1 : (a0_1 != 0) = false := bne_eq_false_iff_eq.mpr c3
   clear c3
   obtain rfl := Option.some.inj H
   go_enter Tryz.func64, Tryz.ntmps64
   go_wp2_with (first | ((with_reducible refine gate_dst (N := 1) rfl ?_); refine box_event ?hg (N := 1) ?hd (cs := #[.int .i64 a0_0, .int .i64 a0_1, .int .i64 a0_2, .int .i64 a0_3, .int .i64 a0_4, .bool a0_5]) (t := 23) ?hr ?_; (case hd => rfl); (case hg => rfl); (case hr => first | (go_simp; done) | (go_simp; rfl)); intro gb254 hg w4 hbox hb; have BK254 := aM_ (hbox); have GW254 := aM_ (gw_ w hg); have GE254 := aM_ (gw_ w hg); replace HB := aM_ (below_step hB_ hb); clear hb hbox hg; have hz5 := cf6_ BK254.out))
   go_ret
   exact ⟨rT_, hB_⟩
  ·rw [if_neg c3] at H
   have c3b0 : (a0_1 == 0) = false := beq_eq_false_iff_ne.mpr c3
   have c3b1 : (a0_1 != 0) = true := bne_iff_ne.mpr c3
   by_cases c6 : a0_3 = 0
   ·rw [if_pos c6] at H
    have c6b0 : (a0_3 == 0) = true := beq_iff_eq.mpr c6
    have c6b1 : (a0_3 != 0) = false := bne_eq_false_iff_eq.mpr c6
    clear c6
    obtain rfl := Option.some.inj H
    go_enter Tryz.func64, Tryz.ntmps64
    go_wp2_with (first | ((with_reducible refine gate_dst (N := 1) rfl ?_); refine box_event ?hg (N := 1) ?hd (cs := #[.int .i64 a0_0, .int .i64 a0_1, .int .i64 a0_2, .int .i64 a0_3, .int .i64 a0_4, .bool a0_5]) (t := 23) ?hr ?_; (case hd => rfl); (case hg => rfl); (case hr => first | (go_simp; done) | (go_simp; rfl)); intro gb254 hg w7 hbox hb; have BK254 := aM_ (hbox); have GW254 := aM_ (gw_ w hg); have GE254 := aM_ (gw_ w hg); replace HB := aM_ (below_step hB_ hb); clear hb hbox hg; have hz8 := cf6_ BK254.out))
    go_ret
    exact ⟨rT_, hB_⟩
   ·rw [if_neg c6] at H
    have c6b0 : (a0_3 == 0) = false := beq_eq_false_iff_ne.mpr c6
    have c6b1 : (a0_3 != 0) = true := bne_iff_ne.mpr c6
    obtain rfl := Option.some.inj H
    go_enter Tryz.func64, Tryz.ntmps64
    go_wp2_with (first | ((with_reducible refine gate_dst (N := 1) rfl ?_); refine box_event ?hg (N := 1) ?hd (cs := #[.int .i64 a0_0, .int .i64 a0_1, .int .i64 a0_2, .int .i64 a0_3, .int .i64 a0_4, .bool a0_5]) (t := 23) ?hr ?_; (case hd => rfl); (case hg => rfl); (case hr => first | (go_simp; done) | (go_simp; rfl)); intro gb254 hg w9 hbox hb; have BK254 := aM_ (hbox); have GW254 := aM_ (gw_ w hg); have GE254 := aM_ (gw_ w hg); replace HB := aM_ (below_step hB_ hb); clear hb hbox hg; have hz10 := cf6_ BK254.out))
    go_ret
    exact ⟨rT_, hB_⟩
 ·rw [if_neg c2] at H
  have c2b0 : (a0_2 == 0) = false := beq_eq_false_iff_ne.mpr c2
  have c2b1 : (a0_2 != 0) = true := bne_iff_ne.mpr c2
  by_cases c11 : a0_3 = 0
  ·rw [if_pos c11] at H
   have c11b0 : (a0_3 == 0) = true := beq_iff_eq.mpr c11
   have c11b1 : (a0_3 != 0) = false := bne_eq_false_iff_eq.mpr c11
   clear c11
   obtain rfl := Option.some.inj H
   go_enter Tryz.func64, Tryz.ntmps64
   go_wp2_with (first | ((with_reducible refine gate_dst (N := 1) rfl ?_); refine box_event ?hg (N := 1) ?hd (cs := #[.int .i64 a0_0, .int .i64 a0_1, .int .i64 a0_2, .int .i64 a0_3, .int .i64 a0_4, .bool a0_5]) (t := 23) ?hr ?_; (case hd => rfl); (case hg => rfl); (case hr => first | (go_simp; done) | (go_simp; rfl)); intro gb254 hg w12 hbox hb; have BK254 := aM_ (hbox); have GW254 := aM_ (gw_ w hg); have GE254 := aM_ (gw_ w hg); replace HB := aM_ (below_step hB_ hb); clear hb hbox hg; have hz13 := cf6_ BK254.out))
   go_ret
   exact ⟨rT_, hB_⟩
  ·rw [if_neg c11] at H
   have c11b0 : (a0_3 == 0) = false := beq_eq_false_iff_ne.mpr c11
   have c11b1 : (a0_3 != 0) = true := bne_iff_ne.mpr c11
   obtain rfl := Option.some.inj H
   go_enter Tryz.func64, Tryz.ntmps64
   go_wp2_with (first | ((with_reducible refine gate_dst (N := 1) rfl ?_); refine box_event ?hg (N := 1) ?hd (cs := #[.int .i64 a0_0, .int .i64 a0_1, .int .i64 a0_2, .int .i64 a0_3, .int .i64 a0_4, .bool a0_5]) (t := 23) ?hr ?_; (case hd => rfl); (case hg => rfl); (case hr => first | (go_simp; done) | (go_simp; rfl)); intro gb254 hg w14 hbox hb; have BK254 := aM_ (hbox); have GW254 := aM_ (gw_ w hg); have GE254 := aM_ (gw_ w hg); replace HB := aM_ (below_step hB_ hb); clear hb hbox hg; have hz15 := cf6_ BK254.out))
   go_ret
   exact ⟨rT_, hB_⟩

/-! ### impl_Shape_with: function 38 -/
set_option maxHeartbeats 8000000 in
set_option maxRecDepth 100000 in
theorem impl_Shape_with.calls (a0_0 : Int) (a0_1 : Int) (a0_2 : Int) (a0_3 : Int) (a0_4 : Int) (a0_5 : Bool) (a1 : Int) (a2 : Int) (r1 : Int) (r2 : Int) (r3 : Int) (r4 : Int) (r5 : Int) (r6 : Bool) (w : World) (h : impl_Shape_with.f a0_0 a0_1 a0_2 a0_3 a0_4 a0_5 a1 a2 = some (r1, r2, r3, r4, r5, r6)) :
 Calls Tryz.prog 38 #[.agg #[.int .i64 a0_0, .int .i64 a0_1, .int .i64 a0_2, .int .i64 a0_3, .int .i64 a0_4, .bool a0_5], .int .i64 a1, .int .i64 a2] w fun e w' => e = .returned (.agg #[.int .i64 r1, .int .i64 r2, .int .i64 r3, .int .i64 r4, .int .i64 r5, .bool r6]) ∧ Below w.heap.size w w' := by
 have hu23 := Tryz.underlying23
 have HB := Aside0.mk (Below.refl w.heap.size w)
 have H : (if a1 = 0 then (if a0_5 = true then ((impl_Shape_maySpread.f a2 a0_1 a0_2 a0_3 a0_4 a0_5).bind fun t257 => (some (a2, a0_1, a0_2, a0_3, a0_4, t257))) else (some (a2, a0_1, a0_2, a0_3, a0_4, false))) else (if a1 = 1 then (if a0_5 = true then ((impl_Shape_maySpread.f a0_0 a2 a0_2 a0_3 a0_4 a0_5).bind fun t258 => (some (a0_0, a2, a0_2, a0_3, a0_4, t258))) else (some (a0_0, a2, a0_2, a0_3, a0_4, false))) else (if a1 = 2 then (if a0_5 = true then ((impl_Shape_maySpread.f a0_0 a0_1 a2 a0_3 a0_4 a0_5).bind fun t259 => (some (a0_0, a0_1, a2, a0_3, a0_4, t259))) else (some (a0_0, a0_1, a2, a0_3, a0_4, false))) else (if a1 = 3 then (if a0_5 = true then ((impl_Shape_maySpread.f a0_0 a0_1 a0_2 a2 a0_4 a0_5).bind fun t260 => (some (a0_0, a0_1, a0_2, a2, a0_4, t260))) else (some (a0_0, a0_1, a0_2, a2, a0_4, false))) else (if a0_5 = true then ((impl_Shape_maySpread.f a0_0 a0_1 a0_2 a0_3 a2 a0_5).bind fun t261 => (some (a0_0, a0_1, a0_2, a0_3, a2, t261))) else (some (a0_0, a0_1, a0_2, a0_3, a2, false))))))) = some (r1, r2, r3, r4, r5, r6) := h
 clear h
 by_cases c4 : a1 = 0
 ·rw [if_pos c4] at H
  have c4b0 : (a1 == 0) = true := beq_iff_eq.mpr c4
  have c4b1 : (a1 != 0) = false := bne_eq_false_iff_eq.mpr c4
  clear c4
  by_cases c5 : a0_5 = true
  ·subst c5
   replace H := ip_ H rfl
   replace H := Option.bind_eq_some_iff.mp H
   obtain ⟨t257, A60, H⟩ := H
   try dsimp only at H
   have A6 := Aside0.mk A60
   clear A60
   simp only [Option.some.injEq, Prod.mk.injEq] at H
   obtain ⟨rfl, rfl, rfl, rfl, rfl, rfl⟩ := H
   go_enter Tryz.func38, Tryz.ntmps38
   go_wp2_with (first | ((with_reducible refine gate_dst (N := 3) rfl ?_); refine box_event ?hg (N := 3) ?hd (cs := #[.int .i64 a0_0, .int .i64 a0_1, .int .i64 a0_2, .int .i64 a0_3, .int .i64 a0_4, .bool true]) (t := 23) ?hr ?_; (case hd => rfl); (case hg => rfl); (case hr => first | (go_simp; done) | (go_simp; rfl)); intro gb255 hg w7 hbox hb; have BK255 := aM_ (hbox); have GW255 := aM_ (gw_ w hg); have GE255 := aM_ (gw_ w hg); replace HB := aM_ (below_step hB_ hb); clear hb hbox hg) | ((with_reducible refine gate_dst (N := 6) rfl ?_); refine box_event ?hg (N := 6) ?hd (cs := #[.int .i64 0, .int .i64 0, .int .i64 0, .int .i64 0, .int .i64 0, .bool false]) (t := 23) ?hr ?_; (case hd => rfl); (case hg => rfl); (case hr => first | (go_simp; done) | (go_simp; rfl)); intro gb256 hg w8 hbox hb; have BK256 := aM_ (hbox); have GW256 := aM_ (gw_ w hg); have GE256 := aM_ (gw_ w hg); have NB255_256 := aM_ (nR_ BK255 hg); have NB256_255 := aM_ (mR_ BK255 hg); replace BK255 := aM_ (blk_below (g := gb255) (kR_ BK255) hb); replace HB := aM_ (below_step hB_ hb); clear hb hbox hg; have hnb9 := NB255_256.out; have hnc9 := NB256_255.out; have hz10 := cf6_ BK255.out) | (go_at_call 64; (with_reducible refine (impl_Shape_maySpread.calls a2 a0_1 a0_2 a0_3 a0_4 true t257 _ A6.out).mono ?_); rintro e w11 ⟨rfl, hb⟩; replace BK255 := aM_ (blk_below (g := gb255) (o := .cells #[.int .i64 a2, .int .i64 a0_1, .int .i64 a0_2, .int .i64 a0_3, .int .i64 a0_4, .bool true] 23 (0, 0)) (by (with_reducible repeat (first | apply kN_ | apply kD_ | apply kA_)); refine blk_put (cs := #[.int .i64 a0_0, .int .i64 a0_1, .int .i64 a0_2, .int .i64 a0_3, .int .i64 a0_4, .bool true]) ?_ 0 _ rfl; (with_reducible repeat (first | apply kN_ | apply kD_ | apply kA_)); exact BK255.out) hb); replace BK256 := aM_ (blk_below (g := gb256) (kR_ BK256) hb); replace HB := aM_ (below_step hB_ hb); (try clear hb); (try clear hb2); (try clear hk); (try clear hi); have hz12 := cf6_ BK255.out; have hz13 := cf6_ BK256.out))
   refine bodyPost_ret (results_cell_row rfl _ _ gb256 23 #[.int .i64 a2, .int .i64 a0_1, .int .i64 a0_2, .int .i64 a0_3, .int .i64 a0_4, .bool t257] (0, 0) _ rfl (by (with_reducible repeat (first | apply kN_ | apply kD_ | apply kA_)); refine blk_put (cs := #[.int .i64 a2, .int .i64 a0_1, .int .i64 a0_2, .int .i64 a0_3, .int .i64 a0_4, .bool false]) ?_ 5 _ rfl; (with_reducible repeat (first | apply kN_ | apply kD_ | apply kA_)); refine blk_put (cs := #[.int .i64 a2, .int .i64 a0_1, .int .i64 a0_2, .int .i64 a0_3, .int .i64 0, .bool false]) ?_ 4 _ rfl; (with_reducible repeat (first | apply kN_ | apply kD_ | apply kA_)); refine blk_put (cs := #[.int .i64 a2, .int .i64 a0_1, .int .i64 a0_2, .int .i64 0, .int .i64 0, .bool false]) ?_ 3 _ rfl; (with_reducible repeat (first | apply kN_ | apply kD_ | apply kA_)); refine blk_put (cs := #[.int .i64 a2, .int .i64 a0_1, .int .i64 0, .int .i64 0, .int .i64 0, .bool false]) ?_ 2 _ rfl; (with_reducible repeat (first | apply kN_ | apply kD_ | apply kA_)); refine blk_put (cs := #[.int .i64 a2, .int .i64 0, .int .i64 0, .int .i64 0, .int .i64 0, .bool false]) ?_ 1 _ rfl; (with_reducible repeat (first | apply kN_ | apply kD_ | apply kA_)); refine blk_put (cs := #[.int .i64 0, .int .i64 0, .int .i64 0, .int .i64 0, .int .i64 0, .bool false]) ?_ 0 _ rfl; (with_reducible repeat (first | apply kN_ | apply kD_ | apply kA_)); refine blk_far ?_ NB256_255.out _; (with_reducible repeat (first | apply kN_ | apply kD_ | apply kA_)); exact BK256.out) Tryz.underlying23 rfl (by kernel_rfl)) rfl ?_
   exact ⟨rT_, hB_⟩
  ·replace c5 := Bool.eq_false_iff.mpr c5
   subst c5
   replace H := in_ H (show ¬ (false = true) by decide)
   simp only [Option.some.injEq, Prod.mk.injEq] at H
   obtain ⟨rfl, rfl, rfl, rfl, rfl, rfl⟩ := H
   go_enter Tryz.func38, Tryz.ntmps38
   go_wp2_with (first | ((with_reducible refine gate_dst (N := 3) rfl ?_); refine box_event ?hg (N := 3) ?hd (cs := #[.int .i64 a0_0, .int .i64 a0_1, .int .i64 a0_2, .int .i64 a0_3, .int .i64 a0_4, .bool false]) (t := 23) ?hr ?_; (case hd => rfl); (case hg => rfl); (case hr => first | (go_simp; done) | (go_simp; rfl)); intro gb255 hg w14 hbox hb; have BK255 := aM_ (hbox); have GW255 := aM_ (gw_ w hg); have GE255 := aM_ (gw_ w hg); replace HB := aM_ (below_step hB_ hb); clear hb hbox hg) | ((with_reducible refine gate_dst (N := 6) rfl ?_); refine box_event ?hg (N := 6) ?hd (cs := #[.int .i64 0, .int .i64 0, .int .i64 0, .int .i64 0, .int .i64 0, .bool false]) (t := 23) ?hr ?_; (case hd => rfl); (case hg => rfl); (case hr => first | (go_simp; done) | (go_simp; rfl)); intro gb256 hg w15 hbox hb; have BK256 := aM_ (hbox); have GW256 := aM_ (gw_ w hg); have GE256 := aM_ (gw_ w hg); have NB255_256 := aM_ (nR_ BK255 hg); have NB256_255 := aM_ (mR_ BK255 hg); replace BK255 := aM_ (blk_below (g := gb255) (kR_ BK255) hb); replace HB := aM_ (below_step hB_ hb); clear hb hbox hg; have hnb16 := NB255_256.out; have hnc16 := NB256_255.out; have hz17 := cf6_ BK255.out; have hz18 := cf6_ BK256.out))
   refine bodyPost_ret (results_cell_row rfl _ _ gb256 23 #[.int .i64 a2, .int .i64 a0_1, .int .i64 a0_2, .int .i64 a0_3, .int .i64 a0_4, .bool false] (0, 0) _ rfl (by (with_reducible repeat (first | apply kN_ | apply kD_ | apply kA_)); refine blk_put (cs := #[.int .i64 a2, .int .i64 a0_1, .int .i64 a0_2, .int .i64 a0_3, .int .i64 a0_4, .bool false]) ?_ 5 _ rfl; (with_reducible repeat (first | apply kN_ | apply kD_ | apply kA_)); refine blk_put (cs := #[.int .i64 a2, .int .i64 a0_1, .int .i64 a0_2, .int .i64 a0_3, .int .i64 0, .bool false]) ?_ 4 _ rfl; (with_reducible repeat (first | apply kN_ | apply kD_ | apply kA_)); refine blk_put (cs := #[.int .i64 a2, .int .i64 a0_1, .int .i64 a0_2, .int .i64 0, .int .i64 0, .bool false]) ?_ 3 _ rfl; (with_reducible repeat (first | apply kN_ | apply kD_ | apply kA_)); refine blk_put (cs := #[.int .i64 a2, .int .i64 a0_1, .int .i64 0, .int .i64 0, .int .i64 0, .bool false]) ?_ 2 _ rfl; (with_reducible repeat (first | apply kN_ | apply kD_ | apply kA_)); refine blk_put (cs := #[.int .i64 a2, .int .i64 0, .int .i64 0, .int .i64 0, .int .i64 0, .bool false]) ?_ 1 _ rfl; (with_reducible repeat (first | apply kN_ | apply kD_ | apply kA_)); refine blk_put (cs := #[.int .i64 0, .int .i64 0, .int .i64 0, .int .i64 0, .int .i64 0, .bool false]) ?_ 0 _ rfl; (with_reducible repeat (first | apply kN_ | apply kD_ | apply kA_)); refine blk_far ?_ NB256_255.out _; (with_reducible repeat (first | apply kN_ | apply kD_ | apply kA_)); refine blk_far ?_ NB256_255.out _; (with_reducible repeat (first | apply kN_ | apply kD_ | apply kA_)); exact BK256.out) Tryz.underlying23 rfl (by kernel_rfl)) rfl ?_
   exact ⟨rT_, hB_⟩
 ·rw [if_neg c4] at H
  have c4b0 : (a1 == 0) = false := beq_eq_false_iff_ne.mpr c4
  have c4b1 : (a1 != 0) = true := bne_iff_ne.mpr c4
  by_cases c19 : a1 = 1
  ·rw [if_pos c19] at H
   have c19b0 : (a1 == 1) = true := beq_iff_eq.mpr c19
   have c19b1 : (a1 != 1) = false := bne_eq_false_iff_eq.mpr c19
   clear c19
   by_cases c20 : a0_5 = true
   ·subst c20
    replace H := ip_ H rfl
    replace H := Option.bind_eq_some_iff.mp H
    obtain ⟨t258, A210, H⟩ := H
    try dsimp only at H
    have A21 := Aside0.mk A210
    clear A210
    simp only [Option.some.injEq, Prod.mk.injEq] at H
    obtain ⟨rfl, rfl, rfl, rfl, rfl, rfl⟩ := H
    go_enter Tryz.func38, Tryz.ntmps38
    go_wp2_with (first | ((with_reducible refine gate_dst (N := 3) rfl ?_); refine box_event ?hg (N := 3) ?hd (cs := #[.int .i64 a0_0, .int .i64 a0_1, .int .i64 a0_2, .int .i64 a0_3, .int .i64 a0_4, .bool true]) (t := 23) ?hr ?_; (case hd => rfl); (case hg => rfl); (case hr => first | (go_simp; done) | (go_simp; rfl)); intro gb255 hg w22 hbox hb; have BK255 := aM_ (hbox); have GW255 := aM_ (gw_ w hg); have GE255 := aM_ (gw_ w hg); replace HB := aM_ (below_step hB_ hb); clear hb hbox hg) | ((with_reducible refine gate_dst (N := 6) rfl ?_); refine box_event ?hg (N := 6) ?hd (cs := #[.int .i64 0, .int .i64 0, .int .i64 0, .int .i64 0, .int .i64 0, .bool false]) (t := 23) ?hr ?_; (case hd => rfl); (case hg => rfl); (case hr => first | (go_simp; done) | (go_simp; rfl)); intro gb256 hg w23 hbox hb; have BK256 := aM_ (hbox); have GW256 := aM_ (gw_ w hg); have GE256 := aM_ (gw_ w hg); have NB255_256 := aM_ (nR_ BK255 hg); have NB256_255 := aM_ (mR_ BK255 hg); replace BK255 := aM_ (blk_below (g := gb255) (kR_ BK255) hb); replace HB := aM_ (below_step hB_ hb); clear hb hbox hg; have hnb24 := NB255_256.out; have hnc24 := NB256_255.out; have hz25 := cf6_ BK255.out) | (go_at_call 64; (with_reducible refine (impl_Shape_maySpread.calls a0_0 a2 a0_2 a0_3 a0_4 true t258 _ A21.out).mono ?_); rintro e w26 ⟨rfl, hb⟩; replace BK255 := aM_ (blk_below (g := gb255) (o := .cells #[.int .i64 a0_0, .int .i64 a2, .int .i64 a0_2, .int .i64 a0_3, .int .i64 a0_4, .bool true] 23 (0, 0)) (by (with_reducible repeat (first | apply kN_ | apply kD_ | apply kA_)); refine blk_put (cs := #[.int .i64 a0_0, .int .i64 a0_1, .int .i64 a0_2, .int .i64 a0_3, .int .i64 a0_4, .bool true]) ?_ 1 _ rfl; (with_reducible repeat (first | apply kN_ | apply kD_ | apply kA_)); exact BK255.out) hb); replace BK256 := aM_ (blk_below (g := gb256) (kR_ BK256) hb); replace HB := aM_ (below_step hB_ hb); (try clear hb); (try clear hb2); (try clear hk); (try clear hi); have hz27 := cf6_ BK255.out; have hz28 := cf6_ BK256.out))
    refine bodyPost_ret (results_cell_row rfl _ _ gb256 23 #[.int .i64 a0_0, .int .i64 a2, .int .i64 a0_2, .int .i64 a0_3, .int .i64 a0_4, .bool t258] (0, 0) _ rfl (by (with_reducible repeat (first | apply kN_ | apply kD_ | apply kA_)); refine blk_put (cs := #[.int .i64 a0_0, .int .i64 a2, .int .i64 a0_2, .int .i64 a0_3, .int .i64 a0_4, .bool false]) ?_ 5 _ rfl; (with_reducible repeat (first | apply kN_ | apply kD_ | apply kA_)); refine blk_put (cs := #[.int .i64 a0_0, .int .i64 a2, .int .i64 a0_2, .int .i64 a0_3, .int .i64 0, .bool false]) ?_ 4 _ rfl; (with_reducible repeat (first | apply kN_ | apply kD_ | apply kA_)); refine blk_put (cs := #[.int .i64 a0_0, .int .i64 a2, .int .i64 a0_2, .int .i64 0, .int .i64 0, .bool false]) ?_ 3 _ rfl; (with_reducible repeat (first | apply kN_ | apply kD_ | apply kA_)); refine blk_put (cs := #[.int .i64 a0_0, .int .i64 a2, .int .i64 0, .int .i64 0, .int .i64 0, .bool false]) ?_ 2 _ rfl; (with_reducible repeat (first | apply kN_ | apply kD_ | apply kA_)); refine blk_put (cs := #[.int .i64 a0_0, .int .i64 0, .int .i64 0, .int .i64 0, .int .i64 0, .bool false]) ?_ 1 _ rfl; (with_reducible repeat (first | apply kN_ | apply kD_ | apply kA_)); refine blk_put (cs := #[.int .i64 0, .int .i64 0, .int .i64 0, .int .i64 0, .int .i64 0, .bool false]) ?_ 0 _ rfl; (with_reducible repeat (first | apply kN_ | apply kD_ | apply kA_)); refine blk_far ?_ NB256_255.out _; (with_reducible repeat (first | apply kN_ | apply kD_ | apply kA_)); exact BK256.out) Tryz.underlying23 rfl (by kernel_rfl)) rfl ?_
    exact ⟨rT_, hB_⟩
   ·replace c20 := Bool.eq_false_iff.mpr c20
    subst c20
    replace H := in_ H (show ¬ (false = true) by decide)
    simp only [Option.some.injEq, Prod.mk.injEq] at H
    obtain ⟨rfl, rfl, rfl, rfl, rfl, rfl⟩ := H
    go_enter Tryz.func38, Tryz.ntmps38
    go_wp2_with (first | ((with_reducible refine gate_dst (N := 3) rfl ?_); refine box_event ?hg (N := 3) ?hd (cs := #[.int .i64 a0_0, .int .i64 a0_1, .int .i64 a0_2, .int .i64 a0_3, .int .i64 a0_4, .bool false]) (t := 23) ?hr ?_; (case hd => rfl); (case hg => rfl); (case hr => first | (go_simp; done) | (go_simp; rfl)); intro gb255 hg w29 hbox hb; have BK255 := aM_ (hbox); have GW255 := aM_ (gw_ w hg); have GE255 := aM_ (gw_ w hg); replace HB := aM_ (below_step hB_ hb); clear hb hbox hg) | ((with_reducible refine gate_dst (N := 6) rfl ?_); refine box_event ?hg (N := 6) ?hd (cs := #[.int .i64 0, .int .i64 0, .int .i64 0, .int .i64 0, .int .i64 0, .bool false]) (t := 23) ?hr ?_; (case hd => rfl); (case hg => rfl); (case hr => first | (go_simp; done) | (go_simp; rfl)); intro gb256 hg w30 hbox hb; have BK256 := aM_ (hbox); have GW256 := aM_ (gw_ w hg); have GE256 := aM_ (gw_ w hg); have NB255_256 := aM_ (nR_ BK255 hg); have NB256_255 := aM_ (mR_ BK255 hg); replace BK255 := aM_ (blk_below (g := gb255) (kR_ BK255) hb); replace HB := aM_ (below_step hB_ hb); clear hb hbox hg; have hnb31 := NB255_256.out; have hnc31 := NB256_255.out; have hz32 := cf6_ BK255.out; have hz33 := cf6_ BK256.out))
    refine bodyPost_ret (results_cell_row rfl _ _ gb256 23 #[.int .i64 a0_0, .int .i64 a2, .int .i64 a0_2, .int .i64 a0_3, .int .i64 a0_4, .bool false] (0, 0) _ rfl (by (with_reducible repeat (first | apply kN_ | apply kD_ | apply kA_)); refine blk_put (cs := #[.int .i64 a0_0, .int .i64 a2, .int .i64 a0_2, .int .i64 a0_3, .int .i64 a0_4, .bool false]) ?_ 5 _ rfl; (with_reducible repeat (first | apply kN_ | apply kD_ | apply kA_)); refine blk_put (cs := #[.int .i64 a0_0, .int .i64 a2, .int .i64 a0_2, .int .i64 a0_3, .int .i64 0, .bool false]) ?_ 4 _ rfl; (with_reducible repeat (first | apply kN_ | apply kD_ | apply kA_)); refine blk_put (cs := #[.int .i64 a0_0, .int .i64 a2, .int .i64 a0_2, .int .i64 0, .int .i64 0, .bool false]) ?_ 3 _ rfl; (with_reducible repeat (first | apply kN_ | apply kD_ | apply kA_)); refine blk_put (cs := #[.int .i64 a0_0, .int .i64 a2, .int .i64 0, .int .i64 0, .int .i64 0, .bool false]) ?_ 2 _ rfl; (with_reducible repeat (first | apply kN_ | apply kD_ | apply kA_)); refine blk_put (cs := #[.int .i64 a0_0, .int .i64 0, .int .i64 0, .int .i64 0, .int .i64 0, .bool false]) ?_ 1 _ rfl; (with_reducible repeat (first | apply kN_ | apply kD_ | apply kA_)); refine blk_put (cs := #[.int .i64 0, .int .i64 0, .int .i64 0, .int .i64 0, .int .i64 0, .bool false]) ?_ 0 _ rfl; (with_reducible repeat (first | apply kN_ | apply kD_ | apply kA_)); refine blk_far ?_ NB256_255.out _; (with_reducible repeat (first | apply kN_ | apply kD_ | apply kA_)); refine blk_far ?_ NB256_255.out _; (with_reducible repeat (first | apply kN_ | apply kD_ | apply kA_)); exact BK256.out) Tryz.underlying23 rfl (by kernel_rfl)) rfl ?_
    exact ⟨rT_, hB_⟩
  ·rw [if_neg c19] at H
   have c19b0 : (a1 == 1) = false := beq_eq_false_iff_ne.mpr c19
   have c19b1 : (a1 != 1) = true := bne_iff_ne.mpr c19
   by_cases c34 : a1 = 2
   ·rw [if_pos c34] at H
    have c34b0 : (a1 == 2) = true := beq_iff_eq.mpr c34
    have c34b1 : (a1 != 2) = false := bne_eq_false_iff_eq.mpr c34
    clear c34
    by_cases c35 : a0_5 = true
    ·subst c35
     replace H := ip_ H rfl
     replace H := Option.bind_eq_some_iff.mp H
     obtain ⟨t259, A360, H⟩ := H
     try dsimp only at H
     have A36 := Aside0.mk A360
     clear A360
     simp only [Option.some.injEq, Prod.mk.injEq] at H
     obtain ⟨rfl, rfl, rfl, rfl, rfl, rfl⟩ := H
     go_enter Tryz.func38, Tryz.ntmps38
     go_wp2_with (first | ((with_reducible refine gate_dst (N := 3) rfl ?_); refine box_event ?hg (N := 3) ?hd (cs := #[.int .i64 a0_0, .int .i64 a0_1, .int .i64 a0_2, .int .i64 a0_3, .int .i64 a0_4, .bool true]) (t := 23) ?hr ?_; (case hd => rfl); (case hg => rfl); (case hr => first | (go_simp; done) | (go_simp; rfl)); intro gb255 hg w37 hbox hb; have BK255 := aM_ (hbox); have GW255 := aM_ (gw_ w hg); have GE255 := aM_ (gw_ w hg); replace HB := aM_ (below_step hB_ hb); clear hb hbox hg) | ((with_reducible refine gate_dst (N := 6) rfl ?_); refine box_event ?hg (N := 6) ?hd (cs := #[.int .i64 0, .int .i64 0, .int .i64 0, .int .i64 0, .int .i64 0, .bool false]) (t := 23) ?hr ?_; (case hd => rfl); (case hg => rfl); (case hr => first | (go_simp; done) | (go_simp; rfl)); intro gb256 hg w38 hbox hb; have BK256 := aM_ (hbox); have GW256 := aM_ (gw_ w hg); have GE256 := aM_ (gw_ w hg); have NB255_256 := aM_ (nR_ BK255 hg); have NB256_255 := aM_ (mR_ BK255 hg); replace BK255 := aM_ (blk_below (g := gb255) (kR_ BK255) hb); replace HB := aM_ (below_step hB_ hb); clear hb hbox hg; have hnb39 := NB255_256.out; have hnc39 := NB256_255.out; have hz40 := cf6_ BK255.out) | (go_at_call 64; (with_reducible refine (impl_Shape_maySpread.calls a0_0 a0_1 a2 a0_3 a0_4 true t259 _ A36.out).mono ?_); rintro e w41 ⟨rfl, hb⟩; replace BK255 := aM_ (blk_below (g := gb255) (o := .cells #[.int .i64 a0_0, .int .i64 a0_1, .int .i64 a2, .int .i64 a0_3, .int .i64 a0_4, .bool true] 23 (0, 0)) (by (with_reducible repeat (first | apply kN_ | apply kD_ | apply kA_)); refine blk_put (cs := #[.int .i64 a0_0, .int .i64 a0_1, .int .i64 a0_2, .int .i64 a0_3, .int .i64 a0_4, .bool true]) ?_ 2 _ rfl; (with_reducible repeat (first | apply kN_ | apply kD_ | apply kA_)); exact BK255.out) hb); replace BK256 := aM_ (blk_below (g := gb256) (kR_ BK256) hb); replace HB := aM_ (below_step hB_ hb); (try clear hb); (try clear hb2); (try clear hk); (try clear hi); have hz42 := cf6_ BK255.out; have hz43 := cf6_ BK256.out))
     refine bodyPost_ret (results_cell_row rfl _ _ gb256 23 #[.int .i64 a0_0, .int .i64 a0_1, .int .i64 a2, .int .i64 a0_3, .int .i64 a0_4, .bool t259] (0, 0) _ rfl (by (with_reducible repeat (first | apply kN_ | apply kD_ | apply kA_)); refine blk_put (cs := #[.int .i64 a0_0, .int .i64 a0_1, .int .i64 a2, .int .i64 a0_3, .int .i64 a0_4, .bool false]) ?_ 5 _ rfl; (with_reducible repeat (first | apply kN_ | apply kD_ | apply kA_)); refine blk_put (cs := #[.int .i64 a0_0, .int .i64 a0_1, .int .i64 a2, .int .i64 a0_3, .int .i64 0, .bool false]) ?_ 4 _ rfl; (with_reducible repeat (first | apply kN_ | apply kD_ | apply kA_)); refine blk_put (cs := #[.int .i64 a0_0, .int .i64 a0_1, .int .i64 a2, .int .i64 0, .int .i64 0, .bool false]) ?_ 3 _ rfl; (with_reducible repeat (first | apply kN_ | apply kD_ | apply kA_)); refine blk_put (cs := #[.int .i64 a0_0, .int .i64 a0_1, .int .i64 0, .int .i64 0, .int .i64 0, .bool false]) ?_ 2 _ rfl; (with_reducible repeat (first | apply kN_ | apply kD_ | apply kA_)); refine blk_put (cs := #[.int .i64 a0_0, .int .i64 0, .int .i64 0, .int .i64 0, .int .i64 0, .bool false]) ?_ 1 _ rfl; (with_reducible repeat (first | apply kN_ | apply kD_ | apply kA_)); refine blk_put (cs := #[.int .i64 0, .int .i64 0, .int .i64 0, .int .i64 0, .int .i64 0, .bool false]) ?_ 0 _ rfl; (with_reducible repeat (first | apply kN_ | apply kD_ | apply kA_)); refine blk_far ?_ NB256_255.out _; (with_reducible repeat (first | apply kN_ | apply kD_ | apply kA_)); exact BK256.out) Tryz.underlying23 rfl (by kernel_rfl)) rfl ?_
     exact ⟨rT_, hB_⟩
    ·replace c35 := Bool.eq_false_iff.mpr c35
     subst c35
     replace H := in_ H (show ¬ (false = true) by decide)
     simp only [Option.some.injEq, Prod.mk.injEq] at H
     obtain ⟨rfl, rfl, rfl, rfl, rfl, rfl⟩ := H
     go_enter Tryz.func38, Tryz.ntmps38
     go_wp2_with (first | ((with_reducible refine gate_dst (N := 3) rfl ?_); refine box_event ?hg (N := 3) ?hd (cs := #[.int .i64 a0_0, .int .i64 a0_1, .int .i64 a0_2, .int .i64 a0_3, .int .i64 a0_4, .bool false]) (t := 23) ?hr ?_; (case hd => rfl); (case hg => rfl); (case hr => first | (go_simp; done) | (go_simp; rfl)); intro gb255 hg w44 hbox hb; have BK255 := aM_ (hbox); have GW255 := aM_ (gw_ w hg); have GE255 := aM_ (gw_ w hg); replace HB := aM_ (below_step hB_ hb); clear hb hbox hg) | ((with_reducible refine gate_dst (N := 6) rfl ?_); refine box_event ?hg (N := 6) ?hd (cs := #[.int .i64 0, .int .i64 0, .int .i64 0, .int .i64 0, .int .i64 0, .bool false]) (t := 23) ?hr ?_; (case hd => rfl); (case hg => rfl); (case hr => first | (go_simp; done) | (go_simp; rfl)); intro gb256 hg w45 hbox hb; have BK256 := aM_ (hbox); have GW256 := aM_ (gw_ w hg); have GE256 := aM_ (gw_ w hg); have NB255_256 := aM_ (nR_ BK255 hg); have NB256_255 := aM_ (mR_ BK255 hg); replace BK255 := aM_ (blk_below (g := gb255) (kR_ BK255) hb); replace HB := aM_ (below_step hB_ hb); clear hb hbox hg; have hnb46 := NB255_256.out; have hnc46 := NB256_255.out; have hz47 := cf6_ BK255.out; have hz48 := cf6_ BK256.out))
     refine bodyPost_ret (results_cell_row rfl _ _ gb256 23 #[.int .i64 a0_0, .int .i64 a0_1, .int .i64 a2, .int .i64 a0_3, .int .i64 a0_4, .bool false] (0, 0) _ rfl (by (with_reducible repeat (first | apply kN_ | apply kD_ | apply kA_)); refine blk_put (cs := #[.int .i64 a0_0, .int .i64 a0_1, .int .i64 a2, .int .i64 a0_3, .int .i64 a0_4, .bool false]) ?_ 5 _ rfl; (with_reducible repeat (first | apply kN_ | apply kD_ | apply kA_)); refine blk_put (cs := #[.int .i64 a0_0, .int .i64 a0_1, .int .i64 a2, .int .i64 a0_3, .int .i64 0, .bool false]) ?_ 4 _ rfl; (with_reducible repeat (first | apply kN_ | apply kD_ | apply kA_)); refine blk_put (cs := #[.int .i64 a0_0, .int .i64 a0_1, .int .i64 a2, .int .i64 0, .int .i64 0, .bool false]) ?_ 3 _ rfl; (with_reducible repeat (first | apply kN_ | apply kD_ | apply kA_)); refine blk_put (cs := #[.int .i64 a0_0, .int .i64 a0_1, .int .i64 0, .int .i64 0, .int .i64 0, .bool false]) ?_ 2 _ rfl; (with_reducible repeat (first | apply kN_ | apply kD_ | apply kA_)); refine blk_put (cs := #[.int .i64 a0_0, .int .i64 0, .int .i64 0, .int .i64 0, .int .i64 0, .bool false]) ?_ 1 _ rfl; (with_reducible repeat (first | apply kN_ | apply kD_ | apply kA_)); refine blk_put (cs := #[.int .i64 0, .int .i64 0, .int .i64 0, .int .i64 0, .int .i64 0, .bool false]) ?_ 0 _ rfl; (with_reducible repeat (first | apply kN_ | apply kD_ | apply kA_)); refine blk_far ?_ NB256_255.out _; (with_reducible repeat (first | apply kN_ | apply kD_ | apply kA_)); refine blk_far ?_ NB256_255.out _; (with_reducible repeat (first | apply kN_ | apply kD_ | apply kA_)); exact BK256.out) Tryz.underlying23 rfl (by kernel_rfl)) rfl ?_
     exact ⟨rT_, hB_⟩
   ·rw [if_neg c34] at H
    have c34b0 : (a1 == 2) = false := beq_eq_false_iff_ne.mpr c34
    have c34b1 : (a1 != 2) = true := bne_iff_ne.mpr c34
    by_cases c49 : a1 = 3
    ·rw [if_pos c49] at H
     have c49b0 : (a1 == 3) = true := beq_iff_eq.mpr c49
     have c49b1 : (a1 != 3) = false := bne_eq_false_iff_eq.mpr c49
     clear c49
     by_cases c50 : a0_5 = true
     ·subst c50
      replace H := ip_ H rfl
      replace H := Option.bind_eq_some_iff.mp H
      obtain ⟨t260, A510, H⟩ := H
      try dsimp only at H
      have A51 := Aside0.mk A510
      clear A510
      simp only [Option.some.injEq, Prod.mk.injEq] at H
      obtain ⟨rfl, rfl, rfl, rfl, rfl, rfl⟩ := H
      go_enter Tryz.func38, Tryz.ntmps38
      go_wp2_with (first | ((with_reducible refine gate_dst (N := 3) rfl ?_); refine box_event ?hg (N := 3) ?hd (cs := #[.int .i64 a0_0, .int .i64 a0_1, .int .i64 a0_2, .int .i64 a0_3, .int .i64 a0_4, .bool true]) (t := 23) ?hr ?_; (case hd => rfl); (case hg => rfl); (case hr => first | (go_simp; done) | (go_simp; rfl)); intro gb255 hg w52 hbox hb; have BK255 := aM_ (hbox); have GW255 := aM_ (gw_ w hg); have GE255 := aM_ (gw_ w hg); replace HB := aM_ (below_step hB_ hb); clear hb hbox hg) | ((with_reducible refine gate_dst (N := 6) rfl ?_); refine box_event ?hg (N := 6) ?hd (cs := #[.int .i64 0, .int .i64 0, .int .i64 0, .int .i64 0, .int .i64 0, .bool false]) (t := 23) ?hr ?_; (case hd => rfl); (case hg => rfl); (case hr => first | (go_simp; done) | (go_simp; rfl)); intro gb256 hg w53 hbox hb; have BK256 := aM_ (hbox); have GW256 := aM_ (gw_ w hg); have GE256 := aM_ (gw_ w hg); have NB255_256 := aM_ (nR_ BK255 hg); have NB256_255 := aM_ (mR_ BK255 hg); replace BK255 := aM_ (blk_below (g := gb255) (kR_ BK255) hb); replace HB := aM_ (below_step hB_ hb); clear hb hbox hg; have hnb54 := NB255_256.out; have hnc54 := NB256_255.out; have hz55 := cf6_ BK255.out) | (go_at_call 64; (with_reducible refine (impl_Shape_maySpread.calls a0_0 a0_1 a0_2 a2 a0_4 true t260 _ A51.out).mono ?_); rintro e w56 ⟨rfl, hb⟩; replace BK255 := aM_ (blk_below (g := gb255) (o := .cells #[.int .i64 a0_0, .int .i64 a0_1, .int .i64 a0_2, .int .i64 a2, .int .i64 a0_4, .bool true] 23 (0, 0)) (by (with_reducible repeat (first | apply kN_ | apply kD_ | apply kA_)); refine blk_put (cs := #[.int .i64 a0_0, .int .i64 a0_1, .int .i64 a0_2, .int .i64 a0_3, .int .i64 a0_4, .bool true]) ?_ 3 _ rfl; (with_reducible repeat (first | apply kN_ | apply kD_ | apply kA_)); exact BK255.out) hb); replace BK256 := aM_ (blk_below (g := gb256) (kR_ BK256) hb); replace HB := aM_ (below_step hB_ hb); (try clear hb); (try clear hb2); (try clear hk); (try clear hi); have hz57 := cf6_ BK255.out; have hz58 := cf6_ BK256.out))
      refine bodyPost_ret (results_cell_row rfl _ _ gb256 23 #[.int .i64 a0_0, .int .i64 a0_1, .int .i64 a0_2, .int .i64 a2, .int .i64 a0_4, .bool t260] (0, 0) _ rfl (by (with_reducible repeat (first | apply kN_ | apply kD_ | apply kA_)); refine blk_put (cs := #[.int .i64 a0_0, .int .i64 a0_1, .int .i64 a0_2, .int .i64 a2, .int .i64 a0_4, .bool false]) ?_ 5 _ rfl; (with_reducible repeat (first | apply kN_ | apply kD_ | apply kA_)); refine blk_put (cs := #[.int .i64 a0_0, .int .i64 a0_1, .int .i64 a0_2, .int .i64 a2, .int .i64 0, .bool false]) ?_ 4 _ rfl; (with_reducible repeat (first | apply kN_ | apply kD_ | apply kA_)); refine blk_put (cs := #[.int .i64 a0_0, .int .i64 a0_1, .int .i64 a0_2, .int .i64 0, .int .i64 0, .bool false]) ?_ 3 _ rfl; (with_reducible repeat (first | apply kN_ | apply kD_ | apply kA_)); refine blk_put (cs := #[.int .i64 a0_0, .int .i64 a0_1, .int .i64 0, .int .i64 0, .int .i64 0, .bool false]) ?_ 2 _ rfl; (with_reducible repeat (first | apply kN_ | apply kD_ | apply kA_)); refine blk_put (cs := #[.int .i64 a0_0, .int .i64 0, .int .i64 0, .int .i64 0, .int .i64 0, .bool false]) ?_ 1 _ rfl; (with_reducible repeat (first | apply kN_ | apply kD_ | apply kA_)); refine blk_put (cs := #[.int .i64 0, .int .i64 0, .int .i64 0, .int .i64 0, .int .i64 0, .bool false]) ?_ 0 _ rfl; (with_reducible repeat (first | apply kN_ | apply kD_ | apply kA_)); refine blk_far ?_ NB256_255.out _; (with_reducible repeat (first | apply kN_ | apply kD_ | apply kA_)); exact BK256.out) Tryz.underlying23 rfl (by kernel_rfl)) rfl ?_
      exact ⟨rT_, hB_⟩
     ·replace c50 := Bool.eq_false_iff.mpr c50
      subst c50
      replace H := in_ H (show ¬ (false = true) by decide)
      simp only [Option.some.injEq, Prod.mk.injEq] at H
      obtain ⟨rfl, rfl, rfl, rfl, rfl, rfl⟩ := H
      go_enter Tryz.func38, Tryz.ntmps38
      go_wp2_with (first | ((with_reducible refine gate_dst (N := 3) rfl ?_); refine box_event ?hg (N := 3) ?hd (cs := #[.int .i64 a0_0, .int .i64 a0_1, .int .i64 a0_2, .int .i64 a0_3, .int .i64 a0_4, .bool false]) (t := 23) ?hr ?_; (case hd => rfl); (case hg => rfl); (case hr => first | (go_simp; done) | (go_simp; rfl)); intro gb255 hg w59 hbox hb; have BK255 := aM_ (hbox); have GW255 := aM_ (gw_ w hg); have GE255 := aM_ (gw_ w hg); replace HB := aM_ (below_step hB_ hb); clear hb hbox hg) | ((with_reducible refine gate_dst (N := 6) rfl ?_); refine box_event ?hg (N := 6) ?hd (cs := #[.int .i64 0, .int .i64 0, .int .i64 0, .int .i64 0, .int .i64 0, .bool false]) (t := 23) ?hr ?_; (case hd => rfl); (case hg => rfl); (case hr => first | (go_simp; done) | (go_simp; rfl)); intro gb256 hg w60 hbox hb; have BK256 := aM_ (hbox); have GW256 := aM_ (gw_ w hg); have GE256 := aM_ (gw_ w hg); have NB255_256 := aM_ (nR_ BK255 hg); have NB256_255 := aM_ (mR_ BK255 hg); replace BK255 := aM_ (blk_below (g := gb255) (kR_ BK255) hb); replace HB := aM_ (below_step hB_ hb); clear hb hbox hg; have hnb61 := NB255_256.out; have hnc61 := NB256_255.out; have hz62 := cf6_ BK255.out; have hz63 := cf6_ BK256.out))
      refine bodyPost_ret (results_cell_row rfl _ _ gb256 23 #[.int .i64 a0_0, .int .i64 a0_1, .int .i64 a0_2, .int .i64 a2, .int .i64 a0_4, .bool false] (0, 0) _ rfl (by (with_reducible repeat (first | apply kN_ | apply kD_ | apply kA_)); refine blk_put (cs := #[.int .i64 a0_0, .int .i64 a0_1, .int .i64 a0_2, .int .i64 a2, .int .i64 a0_4, .bool false]) ?_ 5 _ rfl; (with_reducible repeat (first | apply kN_ | apply kD_ | apply kA_)); refine blk_put (cs := #[.int .i64 a0_0, .int .i64 a0_1, .int .i64 a0_2, .int .i64 a2, .int .i64 0, .bool false]) ?_ 4 _ rfl; (with_reducible repeat (first | apply kN_ | apply kD_ | apply kA_)); refine blk_put (cs := #[.int .i64 a0_0, .int .i64 a0_1, .int .i64 a0_2, .int .i64 0, .int .i64 0, .bool false]) ?_ 3 _ rfl; (with_reducible repeat (first | apply kN_ | apply kD_ | apply kA_)); refine blk_put (cs := #[.int .i64 a0_0, .int .i64 a0_1, .int .i64 0, .int .i64 0, .int .i64 0, .bool false]) ?_ 2 _ rfl; (with_reducible repeat (first | apply kN_ | apply kD_ | apply kA_)); refine blk_put (cs := #[.int .i64 a0_0, .int .i64 0, .int .i64 0, .int .i64 0, .int .i64 0, .bool false]) ?_ 1 _ rfl; (with_reducible repeat (first | apply kN_ | apply kD_ | apply kA_)); refine blk_put (cs := #[.int .i64 0, .int .i64 0, .int .i64 0, .int .i64 0, .int .i64 0, .bool false]) ?_ 0 _ rfl; (with_reducible repeat (first | apply kN_ | apply kD_ | apply kA_)); refine blk_far ?_ NB256_255.out _; (with_reducible repeat (first | apply kN_ | apply kD_ | apply kA_)); refine blk_far ?_ NB256_255.out _; (with_reducible repeat (first | apply kN_ | apply kD_ | apply kA_)); exact BK256.out) Tryz.underlying23 rfl (by kernel_rfl)) rfl ?_
      exact ⟨rT_, hB_⟩
    ·rw [if_neg c49] at H
     have c49b0 : (a1 == 3) = false := beq_eq_false_iff_ne.mpr c49
     have c49b1 : (a1 != 3) = true := bne_iff_ne.mpr c49
     by_cases c64 : a0_5 = true
     ·subst c64
      replace H := ip_ H rfl
      replace H := Option.bind_eq_some_iff.mp H
      obtain ⟨t261, A650, H⟩ := H
      try dsimp only at H
      have A65 := Aside0.mk A650
      clear A650
      simp only [Option.some.injEq, Prod.mk.injEq] at H
      obtain ⟨rfl, rfl, rfl, rfl, rfl, rfl⟩ := H
      go_enter Tryz.func38, Tryz.ntmps38
      go_wp2_with (first | ((with_reducible refine gate_dst (N := 3) rfl ?_); refine box_event ?hg (N := 3) ?hd (cs := #[.int .i64 a0_0, .int .i64 a0_1, .int .i64 a0_2, .int .i64 a0_3, .int .i64 a0_4, .bool true]) (t := 23) ?hr ?_; (case hd => rfl); (case hg => rfl); (case hr => first | (go_simp; done) | (go_simp; rfl)); intro gb255 hg w66 hbox hb; have BK255 := aM_ (hbox); have GW255 := aM_ (gw_ w hg); have GE255 := aM_ (gw_ w hg); replace HB := aM_ (below_step hB_ hb); clear hb hbox hg) | ((with_reducible refine gate_dst (N := 6) rfl ?_); refine box_event ?hg (N := 6) ?hd (cs := #[.int .i64 0, .int .i64 0, .int .i64 0, .int .i64 0, .int .i64 0, .bool false]) (t := 23) ?hr ?_; (case hd => rfl); (case hg => rfl); (case hr => first | (go_simp; done) | (go_simp; rfl)); intro gb256 hg w67 hbox hb; have BK256 := aM_ (hbox); have GW256 := aM_ (gw_ w hg); have GE256 := aM_ (gw_ w hg); have NB255_256 := aM_ (nR_ BK255 hg); have NB256_255 := aM_ (mR_ BK255 hg); replace BK255 := aM_ (blk_below (g := gb255) (kR_ BK255) hb); replace HB := aM_ (below_step hB_ hb); clear hb hbox hg; have hnb68 := NB255_256.out; have hnc68 := NB256_255.out; have hz69 := cf6_ BK255.out) | (go_at_call 64; (with_reducible refine (impl_Shape_maySpread.calls a0_0 a0_1 a0_2 a0_3 a2 true t261 _ A65.out).mono ?_); rintro e w70 ⟨rfl, hb⟩; replace BK255 := aM_ (blk_below (g := gb255) (o := .cells #[.int .i64 a0_0, .int .i64 a0_1, .int .i64 a0_2, .int .i64 a0_3, .int .i64 a2, .bool true] 23 (0, 0)) (by (with_reducible repeat (first | apply kN_ | apply kD_ | apply kA_)); refine blk_put (cs := #[.int .i64 a0_0, .int .i64 a0_1, .int .i64 a0_2, .int .i64 a0_3, .int .i64 a0_4, .bool true]) ?_ 4 _ rfl; (with_reducible repeat (first | apply kN_ | apply kD_ | apply kA_)); exact BK255.out) hb); replace BK256 := aM_ (blk_below (g := gb256) (kR_ BK256) hb); replace HB := aM_ (below_step hB_ hb); (try clear hb); (try clear hb2); (try clear hk); (try clear hi); have hz71 := cf6_ BK255.out; have hz72 := cf6_ BK256.out))
      refine bodyPost_ret (results_cell_row rfl _ _ gb256 23 #[.int .i64 a0_0, .int .i64 a0_1, .int .i64 a0_2, .int .i64 a0_3, .int .i64 a2, .bool t261] (0, 0) _ rfl (by (with_reducible repeat (first | apply kN_ | apply kD_ | apply kA_)); refine blk_put (cs := #[.int .i64 a0_0, .int .i64 a0_1, .int .i64 a0_2, .int .i64 a0_3, .int .i64 a2, .bool false]) ?_ 5 _ rfl; (with_reducible repeat (first | apply kN_ | apply kD_ | apply kA_)); refine blk_put (cs := #[.int .i64 a0_0, .int .i64 a0_1, .int .i64 a0_2, .int .i64 a0_3, .int .i64 0, .bool false]) ?_ 4 _ rfl; (with_reducible repeat (first | apply kN_ | apply kD_ | apply kA_)); refine blk_put (cs := #[.int .i64 a0_0, .int .i64 a0_1, .int .i64 a0_2, .int .i64 0, .int .i64 0, .bool false]) ?_ 3 _ rfl; (with_reducible repeat (first | apply kN_ | apply kD_ | apply kA_)); refine blk_put (cs := #[.int .i64 a0_0, .int .i64 a0_1, .int .i64 0, .int .i64 0, .int .i64 0, .bool false]) ?_ 2 _ rfl; (with_reducible repeat (first | apply kN_ | apply kD_ | apply kA_)); refine blk_put (cs := #[.int .i64 a0_0, .int .i64 0, .int .i64 0, .int .i64 0, .int .i64 0, .bool false]) ?_ 1 _ rfl; (with_reducible repeat (first | apply kN_ | apply kD_ | apply kA_)); refine blk_put (cs := #[.int .i64 0, .int .i64 0, .int .i64 0, .int .i64 0, .int .i64 0, .bool false]) ?_ 0 _ rfl; (with_reducible repeat (first | apply kN_ | apply kD_ | apply kA_)); refine blk_far ?_ NB256_255.out _; (with_reducible repeat (first | apply kN_ | apply kD_ | apply kA_)); exact BK256.out) Tryz.underlying23 rfl (by kernel_rfl)) rfl ?_
      exact ⟨rT_, hB_⟩
     ·replace c64 := Bool.eq_false_iff.mpr c64
      subst c64
      replace H := in_ H (show ¬ (false = true) by decide)
      simp only [Option.some.injEq, Prod.mk.injEq] at H
      obtain ⟨rfl, rfl, rfl, rfl, rfl, rfl⟩ := H
      go_enter Tryz.func38, Tryz.ntmps38
      go_wp2_with (first | ((with_reducible refine gate_dst (N := 3) rfl ?_); refine box_event ?hg (N := 3) ?hd (cs := #[.int .i64 a0_0, .int .i64 a0_1, .int .i64 a0_2, .int .i64 a0_3, .int .i64 a0_4, .bool false]) (t := 23) ?hr ?_; (case hd => rfl); (case hg => rfl); (case hr => first | (go_simp; done) | (go_simp; rfl)); intro gb255 hg w73 hbox hb; have BK255 := aM_ (hbox); have GW255 := aM_ (gw_ w hg); have GE255 := aM_ (gw_ w hg); replace HB := aM_ (below_step hB_ hb); clear hb hbox hg) | ((with_reducible refine gate_dst (N := 6) rfl ?_); refine box_event ?hg (N := 6) ?hd (cs := #[.int .i64 0, .int .i64 0, .int .i64 0, .int .i64 0, .int .i64 0, .bool false]) (t := 23) ?hr ?_; (case hd => rfl); (case hg => rfl); (case hr => first | (go_simp; done) | (go_simp; rfl)); intro gb256 hg w74 hbox hb; have BK256 := aM_ (hbox); have GW256 := aM_ (gw_ w hg); have GE256 := aM_ (gw_ w hg); have NB255_256 := aM_ (nR_ BK255 hg); have NB256_255 := aM_ (mR_ BK255 hg); replace BK255 := aM_ (blk_below (g := gb255) (kR_ BK255) hb); replace HB := aM_ (below_step hB_ hb); clear hb hbox hg; have hnb75 := NB255_256.out; have hnc75 := NB256_255.out; have hz76 := cf6_ BK255.out; have hz77 := cf6_ BK256.out))
      refine bodyPost_ret (results_cell_row rfl _ _ gb256 23 #[.int .i64 a0_0, .int .i64 a0_1, .int .i64 a0_2, .int .i64 a0_3, .int .i64 a2, .bool false] (0, 0) _ rfl (by (with_reducible repeat (first | apply kN_ | apply kD_ | apply kA_)); refine blk_put (cs := #[.int .i64 a0_0, .int .i64 a0_1, .int .i64 a0_2, .int .i64 a0_3, .int .i64 a2, .bool false]) ?_ 5 _ rfl; (with_reducible repeat (first | apply kN_ | apply kD_ | apply kA_)); refine blk_put (cs := #[.int .i64 a0_0, .int .i64 a0_1, .int .i64 a0_2, .int .i64 a0_3, .int .i64 0, .bool false]) ?_ 4 _ rfl; (with_reducible repeat (first | apply kN_ | apply kD_ | apply kA_)); refine blk_put (cs := #[.int .i64 a0_0, .int .i64 a0_1, .int .i64 a0_2, .int .i64 0, .int .i64 0, .bool false]) ?_ 3 _ rfl; (with_reducible repeat (first | apply kN_ | apply kD_ | apply kA_)); refine blk_put (cs := #[.int .i64 a0_0, .int .i64 a0_1, .int .i64 0, .int .i64 0, .int .i64 0, .bool false]) ?_ 2 _ rfl; (with_reducible repeat (first | apply kN_ | apply kD_ | apply kA_)); refine blk_put (cs := #[.int .i64 a0_0, .int .i64 0, .int .i64 0, .int .i64 0, .int .i64 0, .bool false]) ?_ 1 _ rfl; (with_reducible repeat (first | apply kN_ | apply kD_ | apply kA_)); refine blk_put (cs := #[.int .i64 0, .int .i64 0, .int .i64 0, .int .i64 0, .int .i64 0, .bool false]) ?_ 0 _ rfl; (with_reducible repeat (first | apply kN_ | apply kD_ | apply kA_)); refine blk_far ?_ NB256_255.out _; (with_reducible repeat (first | apply kN_ | apply kD_ | apply kA_)); refine blk_far ?_ NB256_255.out _; (with_reducible repeat (first | apply kN_ | apply kD_ | apply kA_)); exact BK256.out) Tryz.underlying23 rfl (by kernel_rfl)) rfl ?_
      exact ⟨rT_, hB_⟩

/-! ### impl_allWithin_1: function 143 -/
set_option maxHeartbeats 8000000 in
set_option maxRecDepth 100000 in
theorem impl_allWithin_1.calls (a0 : Int) (g1_0 : Nat) (a1_0 : Int) (g2_0 : Nat) (a2_0 : Int) (r : Bool) (w : World) (hb1_0 : w.heap[g1_0]? = some (.cells #[.int .i64 a1_0] 3 (0, 0))) (hb2_0 : w.heap[g2_0]? = some (.cells #[.int .i64 a2_0] 3 (0, 0))) (h : impl_allWithin_1.f a0 a1_0 a2_0 = some r) :
 Calls Tryz.prog 79 #[.int .i64 a0, .pointer (some ⟨g1_0, 0, none⟩), .pointer (some ⟨g2_0, 0, none⟩)] w fun e w' => e = .returned (.bool r) ∧ Below w.heap.size w w' := by
 have BK38 := Aside0.mk hb1_0
 clear hb1_0
 have BK46 := Aside0.mk hb2_0
 clear hb2_0
 have HB := Aside0.mk (Below.refl w.heap.size w)
 have H : ((impl_within.f a0 a1_0 a2_0).bind fun t262 => (some (!t262))) = some r := h
 clear h
 replace H := Option.bind_eq_some_iff.mp H
 obtain ⟨t262, A40, H⟩ := H
 try dsimp only at H
 have A4 := Aside0.mk A40
 clear A40
 obtain rfl := Option.some.inj H
 have hz6 := cf1_ BK38.out
 clear BK38
 have hz7 := cf1_ BK46.out
 clear BK46
 go_enter Tryz.func79, Tryz.ntmps79
 go_wp2_with (first | ((with_reducible refine gate_callee (f := 37) rfl ?_); refine goesM_ (some 8) Tryz.func37 #[.int .i64 a0, .int .i64 a1_0, .int .i64 a2_0] ?_; (with_reducible refine (impl_within.calls a0 a1_0 a2_0 t262 _ A4.out).mono ?_); rintro e w' ⟨rfl, ⟨nd, rfl⟩⟩; refine ⟨_, rfl, ?_⟩))
 go_ret
 exact ⟨rT_, hB_⟩

/-! ### slices_IndexFunc_int_impl_allWithin_1: function 142 -/
set_option maxHeartbeats 8000000 in
set_option maxRecDepth 100000 in
theorem slices_IndexFunc_int_impl_allWithin_1.calls (k : Nat) (A0 : Option Addr) (c0 : Nat) (l0 : List Int) (g1_0 : Nat) (g1_1 : Nat) (a1_0 : Int) (a1_1 : Int) (r : Int) (w : World) (hr0 : Kd.C (Kd.int .i64) w A0 l0.length l0) (hc0 : l0.length ≤ c0) (hb1_0 : w.heap[g1_0]? = some (.cells #[.int .i64 a1_0] 3 (0, 0))) (hb1_1 : w.heap[g1_1]? = some (.cells #[.int .i64 a1_1] 3 (0, 0))) (h : slices_IndexFunc_int_impl_allWithin_1.f k l0 a1_0 a1_1 = some r) :
 Calls Tryz.prog 85 #[.slice A0 l0.length c0, .func (.func 79) #[] #[.pointer (some ⟨g1_0, 0, none⟩), .pointer (some ⟨g1_1, 0, none⟩)]] w fun e w' => e = .returned (.int .i64 r) ∧ Below w.heap.size w w' := by
 have HR0 := Aside0.mk hr0
 have HC0 := Aside0.mk hc0
 clear hr0 hc0
 have BK38 := Aside0.mk hb1_0
 clear hb1_0
 have BK39 := Aside0.mk hb1_1
 clear hb1_1
 have HB := Aside0.mk (Below.refl w.heap.size w)
 have H : (slices_IndexFunc_int_impl_allWithin_1.l0 k l0 (l0.length : Int) 0 a1_0 a1_1) = some r := h
 clear h
 have H' := Aside0.mk H
 clear H
 go_enter Tryz.func85, Tryz.ntmps85
 go_wp2
 go_loopg [8] k (fun kq v8 w' => ∃ (x8_1 : Int), v8 = .int .i64 x8_1 ∧ Aside0 (slices_IndexFunc_int_impl_allWithin_1.l0 kq l0 (l0.length : Int) x8_1 a1_0 a1_1 = some r) ∧ Aside0 (kq ≤ k) ∧ Aside0 (w'.heap[g1_0]? = some (.cells #[.int .i64 a1_0] 3 (0, 0))) ∧ Aside0 (w'.heap[g1_1]? = some (.cells #[.int .i64 a1_1] 3 (0, 0))) ∧ Aside0 (Below w.heap.size w w'))
 case atStart => exact ⟨(0), yactParseHandx8_1_, H', ⟨Nat.le_refl _⟩, ⟨kP_⟩, ⟨kP_⟩, ⟨hB_⟩⟩
 case round =>
  clear H'
  obtain ⟨x8_1, rfl, HA, HK1, BK38, BK39, HB⟩ := hrel
  cases gk with
  | zero => exact absurd HA.out (by simp [slices_IndexFunc_int_impl_allWithin_1.l0])
  | succ k1 =>
   have H := HA.out
   clear HA
   simp only [slices_IndexFunc_int_impl_allWithin_1.l0] at H
   by_cases c3 : x8_1 < (l0.length : Int)
   ·rw [if_pos c3] at H
    have c3b0 : decide (x8_1 < (l0.length : Int)) = true := decide_eq_true c3
    clear c3
    by_cases c4 : 0 ≤ x8_1
    ·rw [if_pos c4] at H
     have c4b0 : decide (0 ≤ x8_1) = true := decide_eq_true c4
     clear c4
     by_cases c5 : x8_1 < (l0.length : Int)
     ·rw [if_pos c5] at H
      have c5b0 : decide (x8_1 < (l0.length : Int)) = true := decide_eq_true c5
      clear c5
      replace H := Option.bind_eq_some_iff.mp H
      obtain ⟨t264, A60, H⟩ := H
      try dsimp only at H
      have A6 := Aside0.mk A60
      clear A60
      by_cases c7 : t264 = true
      ·subst c7
       replace H := ip_ H rfl
       obtain rfl := Option.some.inj H
       have p263 : 0 ≤ (x8_1 : Int) := of_decide_eq_true yactParseHandx8_3_
       have q263 : x8_1 < (l0.length : Int) := of_decide_eq_true yactParseHandx8_3_
       obtain ⟨ad263, e263, hx263_0⟩ := Kd.at_int HR0.out x8_1 p263 q263
       cases e263
       replace hx263_0 := (HB.out.cell (World.block_lt_of_cell? w _ hx263_0)).trans hx263_0
       replace p263 := eq_true p263
       replace q263 := eq_true q263
       go_wp2_with (first | ((with_reducible refine gate_via (t := 11) rfl ?_); refine goesV_ (some 16) rfl rfl Tryz.func79 (by kernel_rfl) rfl #[.int .i64 (rd l0 x8_1), .pointer (some ⟨g1_0, 0, none⟩), .pointer (some ⟨g1_1, 0, none⟩)] rfl rfl yactParseHandx8_4_ ?_; (with_reducible refine (impl_allWithin_1.calls (rd l0 x8_1) g1_0 a1_0 g1_1 a1_1 true _ ?side1 ?side2 A6.out).mono ?_); (case side1 => (with_reducible repeat (first | apply kN_ | apply kD_ | apply kA_)); exact BK38.out); (case side2 => (with_reducible repeat (first | apply kN_ | apply kD_ | apply kA_)); exact BK39.out); rintro e w8 ⟨rfl, hb⟩; refine ⟨_, rfl, ?_⟩; replace BK38 := aM_ (blk_below (g := g1_0) (kR_ BK38) hb); replace BK39 := aM_ (blk_below (g := g1_1) (kR_ BK39) hb); replace HB := aM_ (below_step hB_ hb); (try clear hb); (try clear hb2); (try clear hk); (try clear hi)))
       go_ret
       exact ⟨rT_, hB_⟩
      ·replace c7 := Bool.eq_false_iff.mpr c7
       subst c7
       replace H := in_ H (show ¬ (false = true) by decide)
       have H' := Aside0.mk H
       clear H
       have p263 : 0 ≤ (x8_1 : Int) := of_decide_eq_true yactParseHandx8_3_
       have q263 : x8_1 < (l0.length : Int) := of_decide_eq_true yactParseHandx8_3_
       obtain ⟨ad263, e263, hx263_0⟩ := Kd.at_int HR0.out x8_1 p263 q263
       cases e263
       replace hx263_0 := (HB.out.cell (World.block_lt_of_cell? w _ hx263_0)).trans hx263_0
       replace p263 := eq_true p263
       replace q263 := eq_true q263
       go_wp2_with (first | ((with_reducible refine gate_via (t := 11) rfl ?_); refine goesV_ (some 16) rfl rfl Tryz.func79 (by kernel_rfl) rfl #[.int .i64 (rd l0 x8_1), .pointer (some ⟨g1_0, 0, none⟩), .pointer (some ⟨g1_1, 0, none⟩)] rfl rfl yactParseHandx8_4_ ?_; (with_reducible refine (impl_allWithin_1.calls (rd l0 x8_1) g1_0 a1_0 g1_1 a1_1 false _ ?side1 ?side2 A6.out).mono ?_); (case side1 => (with_reducible repeat (first | apply kN_ | apply kD_ | apply kA_)); exact BK38.out); (case side2 => (with_reducible repeat (first | apply kN_ | apply kD_ | apply kA_)); exact BK39.out); rintro e w9 ⟨rfl, hb⟩; refine ⟨_, rfl, ?_⟩; replace BK38 := aM_ (blk_below (g := g1_0) (kR_ BK38) hb); replace BK39 := aM_ (blk_below (g := g1_1) (kR_ BK39) hb); replace HB := aM_ (below_step hB_ hb); (try clear hb); (try clear hb2); (try clear hk); (try clear hi)))
       go_roundg k1
       case measure => have := HK1.out; omega
       case rel => exact ⟨(wrap64 (x8_1 + 1)), yactParseHandx8_1_, H', ⟨by have := HK1.out; omega⟩, ⟨kP_⟩, ⟨kP_⟩, ⟨hB_⟩⟩
     ·rw [if_neg c5] at H
      exact absurd H (by simp)
    ·rw [if_neg c4] at H
     exact absurd H (by simp)
   ·rw [if_neg c3] at H
    have c3b0 : decide (x8_1 < (l0.length : Int)) = false := decide_eq_false c3
    clear c3
    obtain rfl := Option.some.inj H
    go_wp2
    go_ret
    exact ⟨rT_, hB_⟩

/-! ### slices_ContainsFunc_int_impl_allWithin_1: function 141 -/
set_option maxHeartbeats 8000000 in
set_option maxRecDepth 100000 in
theorem slices_ContainsFunc_int_impl_allWithin_1.calls (k : Nat) (A0 : Option Addr) (c0 : Nat) (l0 : List Int) (g1_0 : Nat) (g1_1 : Nat) (a1_0 : Int) (a1_1 : Int) (r : Bool) (w : World) (hr0 : Kd.C (Kd.int .i64) w A0 l0.length l0) (hc0 : l0.length ≤ c0) (hb1_0 : w.heap[g1_0]? = some (.cells #[.int .i64 a1_0] 3 (0, 0))) (hb1_1 : w.heap[g1_1]? = some (.cells #[.int .i64 a1_1] 3 (0, 0))) (h : slices_ContainsFunc_int_impl_allWithin_1.f k l0 a1_0 a1_1 = some r) :
 Calls Tryz.prog 78 #[.slice A0 l0.length c0, .func (.func 79) #[] #[.pointer (some ⟨g1_0, 0, none⟩), .pointer (some ⟨g1_1, 0, none⟩)]] w fun e w' => e = .returned (.bool r) ∧ Below w.heap.size w w' := by
 have HR0 := Aside0.mk hr0
 have HC0 := Aside0.mk hc0
 clear hr0 hc0
 have BK38 := Aside0.mk hb1_0
 clear hb1_0
 have BK39 := Aside0.mk hb1_1
 clear hb1_1
 have HB := Aside0.mk (Below.refl w.heap.size w)
 have H : ((slices_IndexFunc_int_impl_allWithin_1.f k l0 a1_0 a1_1).bind fun t265 => (some (decide (t265 ≥ 0)))) = some r := h
 clear h
 replace H := Option.bind_eq_some_iff.mp H
 obtain ⟨t265, A30, H⟩ := H
 try dsimp only at H
 have A3 := Aside0.mk A30
 clear A30
 obtain rfl := Option.some.inj H
 go_enter Tryz.func78, Tryz.ntmps78
 go_wp2_with (first | ((with_reducible refine gate_callee (f := 85) rfl ?_); refine goesM_ (some 7) Tryz.func85 #[.slice A0 l0.length c0, .func (.func 79) #[] #[.pointer (some ⟨g1_0, 0, none⟩), .pointer (some ⟨g1_1, 0, none⟩)]] ?_; (with_reducible refine (slices_IndexFunc_int_impl_allWithin_1.calls k _ _ l0 g1_0 g1_1 a1_0 a1_1 t265 _ ?side1 ?side2 ?side3 ?side4 A3.out).mono ?_); (case side1 => repeat (first | exact HR0.out | (with_reducible refine Kd.C_alloc ?_ _) | (with_reducible refine Kd.C_drewN ?_ _) | (with_reducible refine Kd.C_drew ?_))); (case side2 => exact HC0.out); (case side3 => (with_reducible repeat (first | apply kN_ | apply kD_ | apply kA_)); exact BK38.out); (case side4 => (with_reducible repeat (first | apply kN_ | apply kD_ | apply kA_)); exact BK39.out); rintro e w4 ⟨rfl, hb⟩; refine ⟨_, rfl, ?_⟩; replace BK38 := aM_ (blk_below (g := g1_0) (kR_ BK38) hb); replace BK39 := aM_ (blk_below (g := g1_1) (kR_ BK39) hb); replace HB := aM_ (below_step hB_ hb); (try clear hb); (try clear hb2); (try clear hk); (try clear hi)))
 go_ret
 exact ⟨rT_, hB_⟩

/-! ### impl_allWithin: function 65 -/
set_option maxHeartbeats 8000000 in
set_option maxRecDepth 100000 in
theorem impl_allWithin.calls (k : Nat) (A0 : Option Addr) (c0 : Nat) (l0 : List Int) (a1 : Int) (a2 : Int) (r : Bool) (w : World) (hr0 : Kd.C (Kd.int .i64) w A0 l0.length l0) (hc0 : l0.length ≤ c0) (h : impl_allWithin.f k l0 a1 a2 = some r) :
 Calls Tryz.prog 65 #[.slice A0 l0.length c0, .int .i64 a1, .int .i64 a2] w fun e w' => e = .returned (.bool r) ∧ Below w.heap.size w w' := by
 have hu3 := Tryz.underlying3
 have HR0 := Aside0.mk hr0
 have HC0 := Aside0.mk hc0
 clear hr0 hc0
 have HB := Aside0.mk (Below.refl w.heap.size w)
 have H : ((slices_ContainsFunc_int_impl_allWithin_1.f k l0 a1 a2).bind fun t268 => (some (!t268))) = some r := h
 clear h
 replace H := Option.bind_eq_some_iff.mp H
 obtain ⟨t268, A40, H⟩ := H
 try dsimp only at H
 have A4 := Aside0.mk A40
 clear A40
 obtain rfl := Option.some.inj H
 go_enter Tryz.func65, Tryz.ntmps65
 go_wp2_with (first | ((with_reducible refine gate_dst (N := 4) rfl ?_); refine box_event ?hg (N := 4) ?hd (cs := #[.int .i64 a1]) (t := 3) ?hr ?_; (case hd => rfl); (case hg => rfl); (case hr => first | (go_simp; done) | (go_simp; rfl)); intro gb266 hg w5 hbox hb; have BK266 := aM_ (hbox); have GW266 := aM_ (gw_ w hg); have GE266 := aM_ (gw_ w hg); replace HB := aM_ (below_step hB_ hb); clear hb hbox hg) | ((with_reducible refine gate_dst (N := 5) rfl ?_); refine box_event ?hg (N := 5) ?hd (cs := #[.int .i64 a2]) (t := 3) ?hr ?_; (case hd => rfl); (case hg => rfl); (case hr => first | (go_simp; done) | (go_simp; rfl)); intro gb267 hg w6 hbox hb; have BK267 := aM_ (hbox); have GW267 := aM_ (gw_ w hg); have GE267 := aM_ (gw_ w hg); have NB266_267 := aM_ (nR_ BK266 hg); have NB267_266 := aM_ (mR_ BK266 hg); replace BK266 := aM_ (blk_below (g := gb266) (kR_ BK266) hb); replace HB := aM_ (below_step hB_ hb); clear hb hbox hg) | ((with_reducible refine gate_callee (f := 78) rfl ?_); refine goesM_ (some 9) Tryz.func78 #[.slice A0 l0.length c0, .func (.func 79) #[] #[.pointer (some ⟨gb266, 0, none⟩), .pointer (some ⟨gb267, 0, none⟩)]] ?_; (with_reducible refine (slices_ContainsFunc_int_impl_allWithin_1.calls k _ _ l0 gb266 gb267 a1 a2 t268 _ ?side1 ?side2 ?side3 ?side4 A4.out).mono ?_); (case side1 => repeat (first | exact (Kd.C_below HR0.out HB.out) | (with_reducible refine Kd.C_alloc ?_ _) | (with_reducible refine Kd.C_drewN ?_ _) | (with_reducible refine Kd.C_drew ?_))); (case side2 => exact HC0.out); (case side3 => (with_reducible repeat (first | apply kN_ | apply kD_ | apply kA_)); exact BK266.out); (case side4 => (with_reducible repeat (first | apply kN_ | apply kD_ | apply kA_)); exact BK267.out); rintro e w7 ⟨rfl, hb⟩; refine ⟨_, rfl, ?_⟩; replace BK266 := aM_ (blk_below (g := gb266) (kR_ BK266) hb); replace BK267 := aM_ (blk_below (g := gb267) (kR_ BK267) hb); replace HB := aM_ (below_step hB_ hb); (try clear hb); (try clear hb2); (try clear hk); (try clear hi)))
 go_ret
 exact ⟨rT_, hB_⟩

/-! ### impl_Shape_bends: function 66 -/
set_option maxHeartbeats 8000000 in
set_option maxRecDepth 100000 in
theorem impl_Shape_bends.calls (a0_0 : Int) (a0_1 : Int) (a0_2 : Int) (a0_3 : Int) (a0_4 : Int) (a0_5 : Bool) (r : List Int) (w : World) (h : impl_Shape_bends.f a0_0 a0_1 a0_2 a0_3 a0_4 a0_5 = some r) :
 Calls Tryz.prog 66 #[.agg #[.int .i64 a0_0, .int .i64 a0_1, .int .i64 a0_2, .int .i64 a0_3, .int .i64 a0_4, .bool a0_5]] w fun e w' => ∃ v0_ : Value, e = .returned (v0_) ∧ Kd.R (Kd.int .i64) 3 w' w.heap.size (fun _ => True) v0_ r ∧ Below w.heap.size w w' := by
 have hu23 := Tryz.underlying23
 have HB := Aside0.mk (Below.refl w.heap.size w)
 have H : (some (([a0_1, a0_2, a0_3, a0_4] : List Int))) = some r := h
 clear h
 obtain ⟨y270, hy270⟩ : ∃ y_ : List Int, y_ = (([a0_1, a0_2, a0_3, a0_4] : List Int)) := ⟨_, rfl⟩
 replace H : (some y270) = some r := by first | (rw [hy270]; with_reducible exact H) | (have H2_ := (Option.bind_some _ _).symm.trans H; rw [hy270]; with_reducible exact H2_) | (have H2_ := (Option.bind_some _ _).symm.trans H; with_reducible exact H2_) | with_reducible exact H | (rw [hy270]; exact H) | exact H
 have Ny270 := Aside0.mk hy270
 clear hy270
 obtain rfl := Option.some.inj H
 go_enter Tryz.func66, Tryz.ntmps66
 go_wp2_with (first | ((with_reducible refine gate_dst (N := 1) rfl ?_); refine box_event ?hg (N := 1) ?hd (cs := #[.int .i64 a0_0, .int .i64 a0_1, .int .i64 a0_2, .int .i64 a0_3, .int .i64 a0_4, .bool a0_5]) (t := 23) ?hr ?_; (case hd => rfl); (case hg => rfl); (case hr => first | (go_simp; done) | (go_simp; rfl)); intro gb269 hg w2 hbox hb; have BK269 := aM_ (hbox); have GW269 := aM_ (gw_ w hg); have GE269 := aM_ (gw_ w hg); replace HB := aM_ (below_step hB_ hb); clear hb hbox hg; have hz3 := cf6_ BK269.out; clear BK269) | ((with_reducible refine gate_dst (N := 11) rfl ?_); refine Kd.R_lit (Kd.int .i64) _ 3 ?hg (N := 11) ?hd (xs := ([a0_1, a0_2, a0_3, a0_4] : List Int)) (inner := [.int .i64 a0_1, .int .i64 a0_2, .int .i64 a0_3, .int .i64 a0_4]) (ok := fun _ => True) (okp := fun _ => True) ?hr ?hp (fun _ hk => hk) trivial (Below.refl _ _) (Nat.le_refl _) (by simp) ?_; (case hd => rfl); (case hg => rfl); (case hr => first | (go_simp; done) | (go_simp; rfl)); (case hp => exact (Reps.one (show Kd.M (Kd.int .i64) _ _ _ a0_1 [.int .i64 a0_1] from rfl) (Reps.one (show Kd.M (Kd.int .i64) _ _ _ a0_2 [.int .i64 a0_2] from rfl) (Reps.one (show Kd.M (Kd.int .i64) _ _ _ a0_3 [.int .i64 a0_3] from rfl) (Reps.one (show Kd.M (Kd.int .i64) _ _ _ a0_4 [.int .i64 a0_4] from rfl) (Reps.none _ _)))))); intro v271 w4 ho5 hb hg_ hnew_; clear hg_ hnew_; (first | rw [← Ny270.out] at ho5 | (simp only [Int.reduceToNat] at ho5; rw [← Ny270.out] at ho5)); have HO272 := aM_ (Kd.R_lower ho5 (below_size hB_)); replace HB := aM_ (below_step hB_ hb); clear hb ho5))
 go_ret
 exact ⟨_, rT_, by (with_reducible repeat (first | apply Kd.R_alloc | apply Kd.R_drewN | apply Kd.R_drew)); exact HO272.out, hB_⟩

end Go.Proofs.YtcapebhnioblbaaGreatDoor.PFnExactParseHand
