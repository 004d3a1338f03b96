/- Printed for this claim: functions of the program as Lean functions, and that the calls answer so. -/
import Derived.Test.YtbfkpgmdbafmhaaPFnTierCountsx0
import Derived.Test.YtbfkpgmdbafmhaaPFnTierCountsx2
import Derived.Test.YtbfkpgmdbafmhaaPFnTierCountsx3
import Derived.Test.YtbfkpgmdbafmhaaPFnTierCountsx4
import Derived.Test.YtbfkpgmdbafmhaaPFnTierCountsx7
import Derived.Test.YtbfkpgmdbafmhaaPFnTierCountsx8
import Derived.Test.YtbfkpgmdbafmhaaPFnTierCountsxD0
import Derived.Test.YtbfkpgmdbafmhaaPFnTierCountsxD1
namespace Go.Proofs.Ytbfkpgmdbafmhaa.PFnTierCounts
open Go.RowKit Go.Proofs.YtbfkpgmdbafmhaaW.PrintWords Go.Proofs.YtbfkpgmdbafmhaaW.PrintLast Go.Proofs.YtbfkpgmdbafmhaaW.PrintMore
theorem z9_0_ {p : Prop} (h : p := by first | rfl | (simp; done) | (simp [*]; done)) : p := h
theorem z9_1_ {p : Prop} (h : p := by have := HK1.out; omega) : p := h
theorem z9_2_ {p : Prop} (h : p := by repeat (first | exact (Kd.C_below HR0.out HB.out) | (with_reducible first | apply cA_ | apply cN_ | apply cD_))) : p := h
theorem z9_3_ {p : Prop} (h : p := by first | rfl | (simp; done) | (simp only [← hji26] <;> (first | rfl | simp)) | (simp [*]; done)) : p := h
theorem z9_4_ {p : Prop} (h : p := by have := HJ3.out; have := HK2.out; omega) : p := h
theorem z9_5_ {p : Prop} (h : p := by repeat (first | exact Drawn0.refl _ | apply Drawn0.step)) : p := h
set_option maxHeartbeats 8000000
set_option maxRecDepth 100000
attribute [local go_sem] max2_int min2_int max_two min_two max_three min_three max_four min_four isSome_setCell   -- for this text's walks alone
set_option linter.unusedVariables false
set_option linter.unusedSimpArgs false

/-! ### impl_NearestLike_1: function 113 -/
theorem impl_NearestLike_1.calls (k : Nat) (a0_0 : Int) (a0_1 : Int) (a0_2 : ByteArray) (g1_0 : Nat) (a1_0 : ByteArray) (r : Bool) (w : World) (hb1_0 : w.heap[g1_0]? = some (.cells #[.string a1_0] 9 (0, 0))) (h : impl_NearestLike_1.f k a0_0 a0_1 a0_2 a1_0 = some r) :
 Calls Try.prog 39 #[.agg #[.int .i64 a0_0, .int .i64 a0_1, .string a0_2], .pointer (some ⟨g1_0, 0, none⟩)] w fun e w' => e = .returned (.bool r) ∧ Below w.heap.size w w' := by
 have hu50 := Try.underlying50
 have BK38 := Aside0.mk hb1_0
 clear hb1_0
 have HB := Aside0.mk (Below.refl w.heap.size w)
 have H : ((impl_fits.f k a1_0 a0_2).bind fun t423 => (some t423)) = some r := h
 clear h
 replace H := ob_ H; obtain ⟨t423, A3, H⟩ := H; try dsimp only at H
 obtain rfl := Option.some.inj H
 go_enter Try.func39, Try.ntmps39
 go_wp2_with (first | ((with_reducible refine gate_dst (N := 2) rfl ?_); refine bx_ 2 #[.int .i64 a0_0, .int .i64 a0_1, .string a0_2] 50 fun gb422 hg w4 hbox hb => ?_; have BK422 := aM_ (hbox); have GW422 := aM_ (gw_ w hg); have GE422 := aM_ (gw_ w hg); have NB38_422 := aM_ (nb_ g1_0 hg); have NB422_38 := aM_ (nc_ g1_0 hg); replace BK38 := aM_ (blk_below (g := g1_0) (kR_ BK38) hb); replace HB := aM_ (below_step hB_ hb); clear hb hbox hg; have hnb5 := NB38_422.out; have hnc5 := NB422_38.out; have hz6 := cf1_ BK38.out; clear BK38; have hz7 := cf3_ BK422.out; clear BK422) | (refine gM_ (some 7) Try.func40 #[.string a1_0, .string a0_2] ?_; (with_reducible refine (impl_fits.calls k a1_0 a0_2 t423 _ A3.out).mono ?_); rintro e w8 ⟨rfl, hb⟩; refine ⟨_, rfl, ?_⟩; replace HB := aM_ (below_step hB_ hb); (try clear hb)))
 go_ret
 exact ⟨rT_, hB_⟩

/-! ### impl_those_Note_impl_NearestLike_1: function 112 -/
theorem impl_those_Note_impl_NearestLike_1.calls (k : Nat) (A0 : Option Addr) (c0 : Nat) (l0 : List (S50)) (g1_0 : Nat) (a1_0 : ByteArray) (r : List Int) (w : World) (hr0 : Kd.C k50 w A0 l0.length l0) (hc0 : l0.length ≤ c0) (hb1_0 : w.heap[g1_0]? = some (.cells #[.string a1_0] 9 (0, 0))) (h : impl_those_Note_impl_NearestLike_1.f k l0 a1_0 = some r) :
 Calls Try.prog 38 #[.slice A0 l0.length c0, .func (.func 39) #[] #[.pointer (some ⟨g1_0, 0, none⟩)]] w fun e w' => ∃ v0_ : Value, e = .returned (v0_) ∧ Kd.R (Kd.int .i64) 3 w' w.heap.size (fun _ => True) v0_ r ∧ Below w.heap.size w w' := by
 have hu50 := Try.underlying50
 have HR0 := Aside0.mk hr0
 have HC0 := Aside0.mk hc0
 clear hr0 hc0
 have BK38 := Aside0.mk hb1_0
 clear hb1_0
 have HB := Aside0.mk (Below.refl w.heap.size w)
 have H : (impl_those_Note_impl_NearestLike_1.l0 k ([] : List Int) l0 (l0.length : Int) 0 a1_0) = some r := h
 clear h
 have H' := Aside0.mk H
 clear H
 go_enter Try.func38, Try.ntmps38
 go_wp2
 go_loopg [5, 10] k (fun kq v5 v10 w' => ∃ (x5_1 : List Int) (x10_1 : Int), v10 = .int .i64 x10_1 ∧ Aside0 (impl_those_Note_impl_NearestLike_1.l0 kq x5_1 l0 (l0.length : Int) x10_1 a1_0 = some r) ∧ Aside0 (kq ≤ k) ∧ Aside0 (Kd.R (Kd.int .i64) 3 w' w.heap.size (fun _ => True) v5 x5_1) ∧ Aside0 (w'.heap[g1_0]? = some (.cells #[.string a1_0] 9 (0, 0))) ∧ Aside0 (Below w.heap.size w w'))
 case atStart => exact ⟨(([] : List Int)), (0), z9_0_, H', ⟨Nat.le_refl _⟩, ⟨by first | exact Kd.R_nil _ _ _ _ _ | exact Kd.N_nil _ _ _ _ _ | exact Kd.V_nil _ _ _ _ _ | exact Kd.Q_nil _ _ _ _ _ | exact Kd.S_nil _ _ _ _ _⟩, ⟨kP_⟩, ⟨hB_⟩⟩
 case round =>
  clear H'
  obtain ⟨x5_1, x10_1, rfl, HA, HK1, HO_5, BK38, HB⟩ := hrel
  cases gk with
  | zero => exact absurd HA.out (by simp [impl_those_Note_impl_NearestLike_1.l0])
  | succ k1 =>
   have H := HA.out
   clear HA
   simp only [impl_those_Note_impl_NearestLike_1.l0] at H
   replace H := iF_ H; obtain ⟨c3b0, H⟩ | ⟨c3b0, H⟩ := H
   ·obtain rfl := Option.some.inj H
    go_wp2
    go_ret
    exact ⟨_, rT_, (rR_ HO_5), hB_⟩
   replace H := ig_ H; obtain ⟨c4b0, H⟩ := H
   replace H := ig_ H; obtain ⟨c5b0, H⟩ := H
   replace H := ob_ H; obtain ⟨t426, A6, H⟩ := H; try dsimp only at H
   have HC7 := Aside0.mk H
   clear H
   have p424 : 0 ≤ (x10_1 : Int) := ode_
   have q424 : x10_1 < (l0.length : Int) := ode_
   obtain ⟨ad424, e424, hx424_0, hx424_1, hx424_2⟩ := at_T50 HR0.out x10_1 p424 q424
   cases e424
   replace hx424_0 := hc_ HB hx424_0
   replace hx424_1 := hc_ HB hx424_1
   replace hx424_2 := hc_ HB hx424_2
   replace p424 := eq_true p424
   replace q424 := eq_true q424
   go_upto_if 17 with (first | ((with_reducible refine gate_dst (N := 7) rfl ?_); refine bx_ 7 #[.int .i64 0, .int .i64 0, .string (⟨#[]⟩ : ByteArray)] 50 fun gb425 hg w8 hbox hb => ?_; have BK425 := aM_ (hbox); have GW425 := aM_ (gw_ w hg); have GE425 := aM_ (gw_ w hg); have NB38_425 := aM_ (nb_ g1_0 hg); have NB425_38 := aM_ (nc_ g1_0 hg); replace HO_5 := aM_ (Kd.R_below (rR_ HO_5) hb); replace BK38 := aM_ (blk_below (g := g1_0) (kR_ BK38) hb); replace HB := aM_ (below_step hB_ hb); clear hb hbox hg; have hnb9 := NB425_38.out; have hnc9 := NB38_425.out; have hz10 := cf3_ BK425.out) | ((with_reducible refine gate_via (t := 15) rfl ?_); refine goesV_ (some 17) rfl rfl Try.func39 (by kernel_rfl) rfl #[.agg #[.int .i64 ((rd_T50 l0 x10_1).f0), .int .i64 ((rd_T50 l0 x10_1).f1), .string ((rd_T50 l0 x10_1).f2)], .pointer (some ⟨g1_0, 0, none⟩)] rfl rfl (by (try simp only [List.map_toArray, List.map_cons, List.map_nil]); first | done | rfl | simp | (simp; rfl)) ?_; (with_reducible refine (impl_NearestLike_1.calls k1 ((rd_T50 l0 x10_1).f0) ((rd_T50 l0 x10_1).f1) ((rd_T50 l0 x10_1).f2) g1_0 a1_0 t426 _ ?side1 A6.out).mono ?_); (case side1 => (with_reducible repeat (first | apply kN_ | apply kD_ | apply kA_)); refine blk_far ?_ NB38_425.out _; (with_reducible repeat (first | apply kN_ | apply kD_ | apply kA_)); refine blk_far ?_ NB38_425.out _; (with_reducible repeat (first | apply kN_ | apply kD_ | apply kA_)); refine blk_far ?_ NB38_425.out _; (with_reducible repeat (first | apply kN_ | apply kD_ | apply kA_)); exact BK38.out); rintro e w11 ⟨rfl, hb⟩; refine ⟨_, rfl, ?_⟩; replace HO_5 := aM_ (Kd.R_below (by (with_reducible repeat (first | apply rA_ | apply rN_ | apply rD_)); exact (Kd.R_mono (Kd.R_far (p := ⟨gb425, 2, none⟩) (Kd.R_far (p := ⟨gb425, 1, none⟩) (Kd.R_far (p := ⟨gb425, 0, none⟩) (Kd.R_types HO_5.out BK425.out (by decide)) (fun _ hk => hk.2) (.int .i64 ((rd_T50 l0 x10_1).f0))) (fun _ hk => hk.2) (.int .i64 ((rd_T50 l0 x10_1).f1))) (fun _ hk => hk.2) (.string ((rd_T50 l0 x10_1).f2))) (fun _ h_ => h_.1))) hb); replace BK38 := aM_ (blk_below (g := g1_0) (kR_ BK38) hb); replace BK425 := aM_ (blk_below (g := gb425) (o := .cells #[.int .i64 ((rd_T50 l0 x10_1).f0), .int .i64 ((rd_T50 l0 x10_1).f1), .string ((rd_T50 l0 x10_1).f2)] 50 (0, 0)) (by (with_reducible repeat (first | apply kN_ | apply kD_ | apply kA_)); refine blk_put (cs := #[.int .i64 ((rd_T50 l0 x10_1).f0), .int .i64 ((rd_T50 l0 x10_1).f1), .string (⟨#[]⟩ : ByteArray)]) ?_ 2 _ rfl; (with_reducible repeat (first | apply kN_ | apply kD_ | apply kA_)); refine blk_put (cs := #[.int .i64 ((rd_T50 l0 x10_1).f0), .int .i64 0, .string (⟨#[]⟩ : ByteArray)]) ?_ 1 _ rfl; (with_reducible repeat (first | apply kN_ | apply kD_ | apply kA_)); refine blk_put (cs := #[.int .i64 0, .int .i64 0, .string (⟨#[]⟩ : ByteArray)]) ?_ 0 _ rfl; (with_reducible repeat (first | apply kN_ | apply kD_ | apply kA_)); exact BK425.out) hb); replace HB := aM_ (below_step hB_ hb); (try clear hb); (try clear hk)))
   (try simp only [Act.put, List.setIfInBounds_toArray, List.set_cons_zero, List.set_cons_succ])
   have H := HC7.out
   clear HC7
   by_cases c12 : t426 = true
   rotate_left
   ·replace c12 := Bool.eq_false_iff.mpr c12
    subst c12
    replace H := in_ H (show ¬ (false = true) by decide)
    have H' := Aside0.mk H
    clear H
    go_wp2
    go_roundg k1
    case measure => have := HK1.out; omega
    case rel => exact ⟨(x5_1), (wrap64 (x10_1 + 1)), z9_0_, H', ⟨z9_1_⟩, ⟨(rR_ HO_5)⟩, ⟨kP_⟩, ⟨hB_⟩⟩
   subst c12
   replace H := ip_ H rfl
   replace H := il_ H; obtain ⟨LMc13, H⟩ := H
   obtain ⟨y427, hy427⟩ : ∃ y_ : List Int, y_ = (x5_1 ++ [x10_1]) := ⟨_, rfl⟩
   rw [← hy427] at H
   have Ny427 := Aside0.mk hy427; clear hy427
   have H' := Aside0.mk H
   clear H
   go_wp2_with (first | ((with_reducible refine gate_builtin (b := .append) (xs := #[.tmp 18, .tmp 20]) rfl ?_); at_builtin; refine Kd.R_append (Kd.int .i64) (w0 := w) w.heap.size rfl (.tmp 18) (.tmp 20) 26 3 (.int .i64 0) 8 rfl Try.underlying26 info3 rfl (by decide) (by omega) u5 x5_1 x10_1 [.int .i64 x10_1] (fun _ => True) (fun _ => False) rfl rfl ?aP (fun _ hk => hk.elim) ?aF ?aO ?aB ?aS ?aL ?_; (case aP => exact rfl); (case aB => exact hB_); (case aF => exact (fun _ _ => trivial)); (case aO => exact (rR_ HO_5)); (case aS => exact (below_size hB_)); (case aL => have := LMc13.out; omega); intro v428 w14 ho hb hg hat; rw [← Ny427.out] at ho; have HO429 := aM_ (ho); replace BK38 := aM_ (blk_grown (g := g1_0) (kR_ BK38) hg (Kd.R_ne HO_5.out BK38.out (by decide))); replace BK425 := aM_ (blk_grown (g := gb425) (kR_ BK425) hg (Kd.R_ne HO_5.out BK425.out (by decide))); replace HB := aM_ (hb); clear HO_5; clear ho hb hg hat))
   go_roundg k1
   case measure => have := HK1.out; omega
   case rel => exact ⟨(y427), (wrap64 (x10_1 + 1)), z9_0_, H', ⟨z9_1_⟩, ⟨rR_ HO429⟩, ⟨kP_⟩, ⟨hB_⟩⟩

/-! ### impl_NearestLike: function 8 -/
theorem impl_NearestLike.calls (k : Nat) (A0 : Option Addr) (c0 : Nat) (l0 : List (S50)) (a1 : ByteArray) (a2 : Int) (r1 : Int) (r2 : Bool) (w : World) (hr0 : Kd.C k50 w A0 l0.length l0) (hc0 : l0.length ≤ c0) (h : impl_NearestLike.f k l0 a1 a2 = some (r1, r2)) :
 Calls Try.prog 8 #[.slice A0 l0.length c0, .string a1, .int .i64 a2] w fun e w' => e = .returned (.tuple #[.int .i64 r1, .bool r2]) ∧ Below w.heap.size w w' := by
 have hu9 := Try.underlying9
 have HR0 := Aside0.mk hr0
 have HC0 := Aside0.mk hc0
 clear hr0 hc0
 have HB := Aside0.mk (Below.refl w.heap.size w)
 have H : ((impl_IsTier.f k l0).bind fun t431 => (if t431 = true then ((impl_isGlossPattern.f k a1).bind fun t432 => (if t432 = true then ((impl_isFrame.f a2).bind fun t433 => (impl_NearestLike.j0 k l0 a2 (!t433) a1)) else (impl_NearestLike.j0 k l0 a2 true a1))) else (impl_NearestLike.j0 k l0 a2 true a1))) = some (r1, r2) := h
 clear h
 have HC4 := Aside0.mk H
 clear H
 go_enter Try.func8, Try.ntmps8
 go_upto_region 1 with (first | ((with_reducible refine gate_dst (N := 4) rfl ?_); refine bx_ 4 #[.string a1] 9 fun gb430 hg w5 hbox hb => ?_; have BK430 := aM_ (hbox); have GW430 := aM_ (gw_ w hg); have GE430 := aM_ (gw_ w hg); replace HB := aM_ (below_step hB_ hb); clear hb hbox hg) | (go_quiet (fail)))
 (try simp only [Act.put, List.setIfInBounds_toArray, List.set_cons_zero, List.set_cons_succ])
 go_cut [25] (fun v25 wc => ∃ (kq : Nat) (x25_3 : Bool), v25 = .bool x25_3 ∧ Aside0 (impl_NearestLike.j0 kq l0 a2 x25_3 a1 = some (r1, r2)) ∧ Aside0 (kq ≤ k) ∧ Aside0 (wc.heap[gb430]? = some (.cells #[.string a1] 9 (0, 0))) ∧ Aside0 (Below w.heap.size w wc))
 case first =>
  have H := HC4.out
  clear HC4
  replace H := ob_ H; obtain ⟨t431, A6, H⟩ := H; try dsimp only at H
  by_cases c7 : t431 = true
  rotate_left
  ·replace c7 := Bool.eq_false_iff.mpr c7
   subst c7
   replace H := in_ H (show ¬ (false = true) by decide)
   have H' := Aside0.mk H
   clear H
   go_wp2_with (first | (go_at_call 27; (with_reducible refine (impl_IsTier.calls k _ _ l0 false _ ?side1 ?side2 A6.out).mono ?_); (case side1 => exact z9_2_); (case side2 => exact HC0.out); rintro e w15 ⟨rfl, hb⟩; replace BK430 := aM_ (blk_below (g := gb430) (kR_ BK430) hb); replace HB := aM_ (below_step hB_ hb); (try clear hb)) | (go_quiet (fail)))
   go_meet
   case rel => exact ⟨_, (true), z9_0_, H', ⟨oR_⟩, ⟨kP_⟩, ⟨hB_⟩⟩
  subst c7
  replace H := ip_ H rfl
  replace H := ob_ H; obtain ⟨t432, A8, H⟩ := H; try dsimp only at H
  by_cases c9 : t432 = true
  rotate_left
  ·replace c9 := Bool.eq_false_iff.mpr c9
   subst c9
   replace H := in_ H (show ¬ (false = true) by decide)
   have H' := Aside0.mk H
   clear H
   go_wp2_with (first | (go_at_call 27; (with_reducible refine (impl_IsTier.calls k _ _ l0 true _ ?side1 ?side2 A6.out).mono ?_); (case side1 => exact z9_2_); (case side2 => exact HC0.out); rintro e w13 ⟨rfl, hb⟩; replace BK430 := aM_ (blk_below (g := gb430) (kR_ BK430) hb); replace HB := aM_ (below_step hB_ hb); (try clear hb); have hz14 := cf1_ BK430.out) | (go_at_call 36; (with_reducible refine (impl_isGlossPattern.calls k a1 false _ A8.out).mono ?_); rintro e w' ⟨rfl, ⟨nd, rfl⟩⟩; (try exact dd_)) | (go_quiet (first | (go_at_call 36; (with_reducible refine (impl_isGlossPattern.calls k a1 false _ A8.out).mono ?_); rintro e w' ⟨rfl, ⟨nd, rfl⟩⟩; (try exact dd_)))))
   go_meet
   case rel => exact ⟨_, (true), z9_0_, H', ⟨oR_⟩, ⟨kP_⟩, ⟨hB_⟩⟩
  subst c9
  replace H := ip_ H rfl
  replace H := ob_ H; obtain ⟨t433, A10, H⟩ := H; try dsimp only at H
  have H' := Aside0.mk H
  clear H
  go_wp2_with (first | (go_at_call 27; (with_reducible refine (impl_IsTier.calls k _ _ l0 true _ ?side1 ?side2 A6.out).mono ?_); (case side1 => exact z9_2_); (case side2 => exact HC0.out); rintro e w11 ⟨rfl, hb⟩; replace BK430 := aM_ (blk_below (g := gb430) (kR_ BK430) hb); replace HB := aM_ (below_step hB_ hb); (try clear hb); have hz12 := cf1_ BK430.out) | (go_at_call 36; (with_reducible refine (impl_isGlossPattern.calls k a1 true _ A8.out).mono ?_); rintro e w' ⟨rfl, ⟨nd, rfl⟩⟩; (try exact dd_)) | (go_at_call 37; (with_reducible refine (impl_isFrame.calls a2 t433 _ A10.out).mono ?_); rintro e w' ⟨rfl, ⟨nd, rfl⟩⟩; (try exact dd_)) | (go_quiet (first | (go_at_call 36; (with_reducible refine (impl_isGlossPattern.calls k a1 true _ A8.out).mono ?_); rintro e w' ⟨rfl, ⟨nd, rfl⟩⟩; (try exact dd_)) | (go_at_call 37; (with_reducible refine (impl_isFrame.calls a2 t433 _ A10.out).mono ?_); rintro e w' ⟨rfl, ⟨nd, rfl⟩⟩; (try exact dd_)))))
  go_meet
  case rel => exact ⟨_, (!t433), z9_0_, H', ⟨oR_⟩, ⟨kP_⟩, ⟨hB_⟩⟩
 case rest =>
  clear HC4
  obtain ⟨kq, x25_3, rfl, HA, HJ3, BK430, HB⟩ := hcut
  cases kq with
  | zero => exact absurd HA.out (by simp [impl_NearestLike.j0])
  | succ kj3 =>
   have H := HA.out
   clear HA
   simp only [impl_NearestLike.j0] at H
   by_cases c16 : x25_3 = true
   ·subst c16
    replace H := ip_ H rfl
    simp only [Option.some.injEq, Prod.mk.injEq] at H
    obtain ⟨rfl, rfl⟩ := H
    go_wp2
    repeat (go_quiet (fail); try go_wp2)
    go_ret2
    exact ⟨rT_, hB_⟩
   replace c16 := Bool.eq_false_iff.mpr c16
   subst c16
   replace H := in_ H (show ¬ (false = true) by decide)
   replace H := ob_ H; obtain ⟨t434, A17, H⟩ := H; try dsimp only at H
   have H' := Aside0.mk H
   clear H
   go_wp2_with (first | (go_at_call 38; (with_reducible refine (impl_those_Note_impl_NearestLike_1.calls kj3 _ _ l0 gb430 a1 t434 _ ?side1 ?side2 ?side3 A17.out).mono ?_); (case side1 => exact z9_2_); (case side2 => exact HC0.out); (case side3 => (with_reducible repeat (first | apply kN_ | apply kD_ | apply kA_)); exact BK430.out); rintro e w18 ⟨v435, rfl, ho0, hb⟩; have HO436 := aM_ (Kd.R_lower ho0 (below_size hB_)); replace BK430 := aM_ (blk_below (g := gb430) (kR_ BK430) hb); replace HB := aM_ (below_step hB_ hb); (try clear hb); (try clear ho0); clear BK430; obtain ⟨Ao19, co19, eo19⟩ := Kd.R_slice HO436.out; subst eo19) | (go_quiet (fail)))
   go_loopg [8, 9, 30] kj3 (fun kq v8 v9 v30 w' => ∃ (x8_2 : Int) (x9_2 : Int) (x30_2 : Int), v8 = .int .i64 x8_2 ∧ v9 = .int .i64 x9_2 ∧ v30 = .int .i64 x30_2 ∧ Aside0 (impl_NearestLike.l0 kq l0 a2 x8_2 x9_2 t434 (t434.length : Int) x30_2 = some (r1, r2)) ∧ Aside0 (kq ≤ kj3) ∧ Aside0 (Kd.R (Kd.int .i64) 3 w' w.heap.size (fun _ => True) (.slice Ao19 t434.length co19) t434) ∧ Aside0 (Below w.heap.size w w'))
   case atStart => exact ⟨((-1)), (0), (0), z9_0_, z9_0_, z9_0_, H', ⟨Nat.le_refl _⟩, ⟨rR_ HO436⟩, ⟨hB_⟩⟩
   case round =>
    clear H'
    (try clear c16)
    obtain ⟨x8_2, x9_2, x30_2, rfl, rfl, rfl, HA, HK2, HO_28, HB⟩ := hrel
    cases gk with
    | zero => exact absurd HA.out (by simp [impl_NearestLike.l0])
    | succ k2 =>
     have H := HA.out
     clear HA
     simp only [impl_NearestLike.l0] at H
     replace H := iF_ H; obtain ⟨c20b0, H⟩ | ⟨c20b0, H⟩ := H
     ·replace H := iT_ H; obtain ⟨c29b0, H⟩ | ⟨c29b0, H⟩ := H
      ·simp only [Option.some.injEq, Prod.mk.injEq] at H
       obtain ⟨rfl, rfl⟩ := H
       go_wp2
       repeat (go_quiet (fail); try go_wp2)
       go_ret2
       exact ⟨rT_, hB_⟩
      simp only [Option.some.injEq, Prod.mk.injEq] at H
      obtain ⟨rfl, rfl⟩ := H
      go_wp2
      repeat (go_quiet (fail); try go_wp2)
      go_ret2
      exact ⟨rT_, hB_⟩
     replace H := ig_ H; obtain ⟨c21b0, H⟩ := H
     replace H := ig_ H; obtain ⟨c22b0, H⟩ := H
     replace H := ig_ H; obtain ⟨c23b0, H⟩ := H
     replace H := ig_ H; obtain ⟨c24b0, H⟩ := H
     obtain ⟨ji25, hji25⟩ : ∃ j_ : Int, (mx 0 (wrap64 (((rd_T50 l0 (rd t434 x30_2)).f0) - a2))) = j_ := ⟨_, rfl⟩
     replace H : (if x8_2 < 0 then (impl_NearestLike.l0 k2 l0 a2 (rd t434 x30_2) (mx (ji25) (wrap64 (a2 - (wrap64 (((rd_T50 l0 (rd t434 x30_2)).f1) - 1))))) t434 (t434.length : Int) (wrap64 (x30_2 + 1))) else (if (mx (ji25) (wrap64 (a2 - (wrap64 (((rd_T50 l0 (rd t434 x30_2)).f1) - 1))))) < x9_2 then (impl_NearestLike.l0 k2 l0 a2 (rd t434 x30_2) (mx (ji25) (wrap64 (a2 - (wrap64 (((rd_T50 l0 (rd t434 x30_2)).f1) - 1))))) t434 (t434.length : Int) (wrap64 (x30_2 + 1))) else (impl_NearestLike.l0 k2 l0 a2 x8_2 x9_2 t434 (t434.length : Int) (wrap64 (x30_2 + 1))))) = some (r1, r2) := by first | (rw [hji25] at H; exact H) | (simp only [hji25] at H ⊢; exact H)
     have hji25_ : (if 0 < (wrap64 (((rd_T50 l0 (rd t434 x30_2)).f0) - a2)) then (wrap64 (((rd_T50 l0 (rd t434 x30_2)).f0) - a2)) else 0) = ji25 := hji25
     obtain ⟨ji26, hji26⟩ : ∃ j_ : Int, (mx (ji25) (wrap64 (a2 - (wrap64 (((rd_T50 l0 (rd t434 x30_2)).f1) - 1))))) = j_ := ⟨_, rfl⟩
     replace H : (if x8_2 < 0 then (impl_NearestLike.l0 k2 l0 a2 (rd t434 x30_2) ji26 t434 (t434.length : Int) (wrap64 (x30_2 + 1))) else (if (ji26) < x9_2 then (impl_NearestLike.l0 k2 l0 a2 (rd t434 x30_2) ji26 t434 (t434.length : Int) (wrap64 (x30_2 + 1))) else (impl_NearestLike.l0 k2 l0 a2 x8_2 x9_2 t434 (t434.length : Int) (wrap64 (x30_2 + 1))))) = some (r1, r2) := by first | (rw [hji26] at H; exact H) | (simp only [hji26] at H ⊢; exact H)
     have hji26_ : (if (ji25) < (wrap64 (a2 - (wrap64 (((rd_T50 l0 (rd t434 x30_2)).f1) - 1)))) then (wrap64 (a2 - (wrap64 (((rd_T50 l0 (rd t434 x30_2)).f1) - 1)))) else (ji25)) = ji26 := hji26
     replace H := iT_ H; obtain ⟨c27b0, H⟩ | ⟨c27b0, H⟩ := H
     ·have H' := Aside0.mk H
      clear H
      obtain ⟨⟨ad437, e437, hx437_0⟩, p437, q437⟩ := at2_ (Kd.at_int (Kd.R_reads' HO_28.out).2.2 x30_2); cases e437
      have p438 : 0 ≤ ((rd t434 x30_2) : Int) := ode_
      have q438 : (rd t434 x30_2) < (l0.length : Int) := ode_
      obtain ⟨ad438, e438, hx438_0, hx438_1, hx438_2⟩ := at_T50 HR0.out (rd t434 x30_2) p438 q438
      cases e438
      replace hx438_0 := hc_ HB hx438_0
      replace hx438_1 := hc_ HB hx438_1
      replace hx438_2 := hc_ HB hx438_2
      replace p438 := eq_true p438
      replace q438 := eq_true q438
      have p439 : 0 ≤ ((rd t434 x30_2) : Int) := ode_
      have q439 : (rd t434 x30_2) < (l0.length : Int) := ode_
      obtain ⟨ad439, e439, hx439_0, hx439_1, hx439_2⟩ := at_T50 HR0.out (rd t434 x30_2) p439 q439
      obtain rfl : ad438 = ad439 := (by injection e439)
      replace hx439_0 := hc_ HB hx439_0
      replace hx439_1 := hc_ HB hx439_1
      replace hx439_2 := hc_ HB hx439_2
      replace p439 := eq_true p439
      replace q439 := eq_true q439
      go_wp2
      repeat (go_quiet (fail); try go_wp2)
      go_roundg k2
      case measure => have := HJ3.out; have := HK2.out; omega
      case rel => exact ⟨(rd t434 x30_2), (ji26), (wrap64 (x30_2 + 1)), z9_0_, z9_3_, z9_0_, H', ⟨z9_4_⟩, ⟨(rR_ HO_28)⟩, ⟨hB_⟩⟩
     replace H := iF_ H; obtain ⟨c28b0, H⟩ | ⟨c28b0, H⟩ := H
     ·have H' := Aside0.mk H
      clear H
      obtain ⟨⟨ad437, e437, hx437_0⟩, p437, q437⟩ := at2_ (Kd.at_int (Kd.R_reads' HO_28.out).2.2 x30_2); cases e437
      have p438 : 0 ≤ ((rd t434 x30_2) : Int) := ode_
      have q438 : (rd t434 x30_2) < (l0.length : Int) := ode_
      obtain ⟨ad438, e438, hx438_0, hx438_1, hx438_2⟩ := at_T50 HR0.out (rd t434 x30_2) p438 q438
      cases e438
      replace hx438_0 := hc_ HB hx438_0
      replace hx438_1 := hc_ HB hx438_1
      replace hx438_2 := hc_ HB hx438_2
      replace p438 := eq_true p438
      replace q438 := eq_true q438
      have p439 : 0 ≤ ((rd t434 x30_2) : Int) := ode_
      have q439 : (rd t434 x30_2) < (l0.length : Int) := ode_
      obtain ⟨ad439, e439, hx439_0, hx439_1, hx439_2⟩ := at_T50 HR0.out (rd t434 x30_2) p439 q439
      obtain rfl : ad438 = ad439 := (by injection e439)
      replace hx439_0 := hc_ HB hx439_0
      replace hx439_1 := hc_ HB hx439_1
      replace hx439_2 := hc_ HB hx439_2
      replace p439 := eq_true p439
      replace q439 := eq_true q439
      go_wp2
      repeat (go_quiet (fail); try go_wp2)
      go_roundg k2
      case measure => have := HJ3.out; have := HK2.out; omega
      case rel => exact ⟨(x8_2), (x9_2), (wrap64 (x30_2 + 1)), z9_0_, z9_0_, z9_0_, H', ⟨z9_4_⟩, ⟨(rR_ HO_28)⟩, ⟨hB_⟩⟩
     have H' := Aside0.mk H
     clear H
     obtain ⟨⟨ad437, e437, hx437_0⟩, p437, q437⟩ := at2_ (Kd.at_int (Kd.R_reads' HO_28.out).2.2 x30_2); cases e437
     have p438 : 0 ≤ ((rd t434 x30_2) : Int) := ode_
     have q438 : (rd t434 x30_2) < (l0.length : Int) := ode_
     obtain ⟨ad438, e438, hx438_0, hx438_1, hx438_2⟩ := at_T50 HR0.out (rd t434 x30_2) p438 q438
     cases e438
     replace hx438_0 := hc_ HB hx438_0
     replace hx438_1 := hc_ HB hx438_1
     replace hx438_2 := hc_ HB hx438_2
     replace p438 := eq_true p438
     replace q438 := eq_true q438
     have p439 : 0 ≤ ((rd t434 x30_2) : Int) := ode_
     have q439 : (rd t434 x30_2) < (l0.length : Int) := ode_
     obtain ⟨ad439, e439, hx439_0, hx439_1, hx439_2⟩ := at_T50 HR0.out (rd t434 x30_2) p439 q439
     obtain rfl : ad438 = ad439 := (by injection e439)
     replace hx439_0 := hc_ HB hx439_0
     replace hx439_1 := hc_ HB hx439_1
     replace hx439_2 := hc_ HB hx439_2
     replace p439 := eq_true p439
     replace q439 := eq_true q439
     go_wp2
     repeat (go_quiet (fail); try go_wp2)
     go_roundg k2
     case measure => have := HJ3.out; have := HK2.out; omega
     case rel => exact ⟨(rd t434 x30_2), (ji26), (wrap64 (x30_2 + 1)), z9_0_, z9_3_, z9_0_, H', ⟨z9_4_⟩, ⟨(rR_ HO_28)⟩, ⟨hB_⟩⟩

/-! ### spec_quPattern: function 41 -/
theorem spec_quPattern.calls (k : Nat) (a0 : ByteArray) (r : Bool) (w : World) (h : spec_quPattern.f k a0 = some r) :
 Calls Try.prog 41 #[.string a0] w fun e w' => e = .returned (.bool r) ∧ Drawn0 w w' := by
 have H : (spec_quPattern.l0 k a0 0) = some r := h
 clear h
 have H' := Aside0.mk H
 clear H
 go_enter Try.func41, Try.ntmps41
 go_wp2
 go_loopg [3] k (fun kq v3 w' => ∃ (x3_1 : Int), v3 = .int .i64 x3_1 ∧ Aside0 (spec_quPattern.l0 kq a0 x3_1 = some r) ∧ Aside0 (kq ≤ k) ∧ Drawn0 w w')
 case atStart => exact ⟨(0), z9_0_, H', ⟨Nat.le_refl _⟩, z9_5_⟩
 case round =>
  clear H'
  obtain ⟨x3_1, rfl, HA, HK1, ⟨m1, rfl⟩⟩ := hrel
  cases gk with
  | zero => exact absurd HA.out (by simp [spec_quPattern.l0])
  | succ k1 =>
   have H := HA.out
   clear HA
   simp only [spec_quPattern.l0] at H
   replace H := iF_ H; obtain ⟨c2b0, H⟩ | ⟨c2b0, H⟩ := H
   ·replace H := ob_ H; obtain ⟨t440, A16, H⟩ := H; try dsimp only at H
    obtain rfl := Option.some.inj H
    go_wp2_with (first | (refine gM_ (some 34) Try.func66 #[.int .i64 (a0.size : Int), .int .i64 1, .int .i64 8] ?_; (with_reducible refine (spec_l1In.calls (a0.size : Int) 1 8 t440 _ A16.out).mono ?_); rintro e w' ⟨rfl, ⟨nd, rfl⟩⟩; refine ⟨_, rfl, ?_⟩))
    go_ret
    exact ⟨z9_0_, z9_5_⟩
   replace H := ig_ H; obtain ⟨c3b0, H⟩ := H
   replace H := iT_ H; obtain ⟨c5b0, H⟩ | ⟨c5b0, H⟩ := H
   ·by_cases c7 : (bt a0 x3_1) = 63
    ·rw [if_pos c7] at H
     have c7b0 : ((bt a0 x3_1) == 63) = true := beq_iff_eq.mpr c7
     have c7b1 : ((bt a0 x3_1) != 63) = false := bne_eq_false_iff_eq.mpr c7
     clear c7
     have H' := Aside0.mk H
     clear H
     have p4 : 0 ≤ (x3_1 : Int) := ode_
     have q4 : x3_1 < (a0.size : Int) := ode_
     have hx4 := bt_at a0 x3_1
     replace p4 := eq_true p4
     replace q4 := eq_true q4
     have p6 : 0 ≤ (x3_1 : Int) := ode_
     have q6 : x3_1 < (a0.size : Int) := ode_
     have hx6 := bt_at a0 x3_1
     replace p6 := eq_true p6
     replace q6 := eq_true q6
     go_wp2
     go_roundg k1
     case measure => have := HK1.out; omega
     case rel => exact ⟨(wrap64 (x3_1 + 1)), z9_0_, H', ⟨z9_1_⟩, z9_5_⟩
    rw [if_neg c7] at H
    have c7b0 : ((bt a0 x3_1) == 63) = false := beq_eq_false_iff_ne.mpr c7
    have c7b1 : ((bt a0 x3_1) != 63) = true := bne_iff_ne.mpr c7
    by_cases c9 : (bt a0 x3_1) = 42
    rotate_left
    ·rw [if_neg c9] at H
     have c9b0 : ((bt a0 x3_1) == 42) = false := beq_eq_false_iff_ne.mpr c9
     have c9b1 : ((bt a0 x3_1) != 42) = true := bne_iff_ne.mpr c9
     obtain rfl := Option.some.inj H
     have p4 : 0 ≤ (x3_1 : Int) := ode_
     have q4 : x3_1 < (a0.size : Int) := ode_
     have hx4 := bt_at a0 x3_1
     replace p4 := eq_true p4
     replace q4 := eq_true q4
     have p6 : 0 ≤ (x3_1 : Int) := ode_
     have q6 : x3_1 < (a0.size : Int) := ode_
     have hx6 := bt_at a0 x3_1
     replace p6 := eq_true p6
     replace q6 := eq_true q6
     have p8 : 0 ≤ (x3_1 : Int) := ode_
     have q8 : x3_1 < (a0.size : Int) := ode_
     have hx8 := bt_at a0 x3_1
     replace p8 := eq_true p8
     replace q8 := eq_true q8
     go_wp2
     go_ret
     exact ⟨z9_0_, z9_5_⟩
    rw [if_pos c9] at H
    have c9b0 : ((bt a0 x3_1) == 42) = true := beq_iff_eq.mpr c9
    have c9b1 : ((bt a0 x3_1) != 42) = false := bne_eq_false_iff_eq.mpr c9
    clear c9
    have H' := Aside0.mk H
    clear H
    have p4 : 0 ≤ (x3_1 : Int) := ode_
    have q4 : x3_1 < (a0.size : Int) := ode_
    have hx4 := bt_at a0 x3_1
    replace p4 := eq_true p4
    replace q4 := eq_true q4
    have p6 : 0 ≤ (x3_1 : Int) := ode_
    have q6 : x3_1 < (a0.size : Int) := ode_
    have hx6 := bt_at a0 x3_1
    replace p6 := eq_true p6
    replace q6 := eq_true q6
    have p8 : 0 ≤ (x3_1 : Int) := ode_
    have q8 : x3_1 < (a0.size : Int) := ode_
    have hx8 := bt_at a0 x3_1
    replace p8 := eq_true p8
    replace q8 := eq_true q8
    go_wp2
    go_roundg k1
    case measure => have := HK1.out; omega
    case rel => exact ⟨(wrap64 (x3_1 + 1)), z9_0_, H', ⟨z9_1_⟩, z9_5_⟩
   by_cases c11 : (bt a0 x3_1) > 90
   rotate_left
   ·rw [if_neg c11] at H
    have c11b0 : decide (90 < (bt a0 x3_1)) = false := decide_eq_false c11
    clear c11
    have H' := Aside0.mk H
    clear H
    have p4 : 0 ≤ (x3_1 : Int) := ode_
    have q4 : x3_1 < (a0.size : Int) := ode_
    have hx4 := bt_at a0 x3_1
    replace p4 := eq_true p4
    replace q4 := eq_true q4
    have p10 : 0 ≤ (x3_1 : Int) := ode_
    have q10 : x3_1 < (a0.size : Int) := ode_
    have hx10 := bt_at a0 x3_1
    replace p10 := eq_true p10
    replace q10 := eq_true q10
    go_wp2
    go_roundg k1
    case measure => have := HK1.out; omega
    case rel => exact ⟨(wrap64 (x3_1 + 1)), z9_0_, H', ⟨z9_1_⟩, z9_5_⟩
   rw [if_pos c11] at H
   have c11b0 : decide (90 < (bt a0 x3_1)) = true := decide_eq_true c11
   clear c11
   by_cases c13 : (bt a0 x3_1) = 63
   ·rw [if_pos c13] at H
    have c13b0 : ((bt a0 x3_1) == 63) = true := beq_iff_eq.mpr c13
    have c13b1 : ((bt a0 x3_1) != 63) = false := bne_eq_false_iff_eq.mpr c13
    clear c13
    have H' := Aside0.mk H
    clear H
    have p4 : 0 ≤ (x3_1 : Int) := ode_
    have q4 : x3_1 < (a0.size : Int) := ode_
    have hx4 := bt_at a0 x3_1
    replace p4 := eq_true p4
    replace q4 := eq_true q4
    have p10 : 0 ≤ (x3_1 : Int) := ode_
    have q10 : x3_1 < (a0.size : Int) := ode_
    have hx10 := bt_at a0 x3_1
    replace p10 := eq_true p10
    replace q10 := eq_true q10
    have p12 : 0 ≤ (x3_1 : Int) := ode_
    have q12 : x3_1 < (a0.size : Int) := ode_
    have hx12 := bt_at a0 x3_1
    replace p12 := eq_true p12
    replace q12 := eq_true q12
    go_wp2
    go_roundg k1
    case measure => have := HK1.out; omega
    case rel => exact ⟨(wrap64 (x3_1 + 1)), z9_0_, H', ⟨z9_1_⟩, z9_5_⟩
   rw [if_neg c13] at H
   have c13b0 : ((bt a0 x3_1) == 63) = false := beq_eq_false_iff_ne.mpr c13
   have c13b1 : ((bt a0 x3_1) != 63) = true := bne_iff_ne.mpr c13
   by_cases c15 : (bt a0 x3_1) = 42
   rotate_left
   ·rw [if_neg c15] at H
    have c15b0 : ((bt a0 x3_1) == 42) = false := beq_eq_false_iff_ne.mpr c15
    have c15b1 : ((bt a0 x3_1) != 42) = true := bne_iff_ne.mpr c15
    obtain rfl := Option.some.inj H
    have p4 : 0 ≤ (x3_1 : Int) := ode_
    have q4 : x3_1 < (a0.size : Int) := ode_
    have hx4 := bt_at a0 x3_1
    replace p4 := eq_true p4
    replace q4 := eq_true q4
    have p10 : 0 ≤ (x3_1 : Int) := ode_
    have q10 : x3_1 < (a0.size : Int) := ode_
    have hx10 := bt_at a0 x3_1
    replace p10 := eq_true p10
    replace q10 := eq_true q10
    have p12 : 0 ≤ (x3_1 : Int) := ode_
    have q12 : x3_1 < (a0.size : Int) := ode_
    have hx12 := bt_at a0 x3_1
    replace p12 := eq_true p12
    replace q12 := eq_true q12
    have p14 : 0 ≤ (x3_1 : Int) := ode_
    have q14 : x3_1 < (a0.size : Int) := ode_
    have hx14 := bt_at a0 x3_1
    replace p14 := eq_true p14
    replace q14 := eq_true q14
    go_wp2
    go_ret
    exact ⟨z9_0_, z9_5_⟩
   rw [if_pos c15] at H
   have c15b0 : ((bt a0 x3_1) == 42) = true := beq_iff_eq.mpr c15
   have c15b1 : ((bt a0 x3_1) != 42) = false := bne_eq_false_iff_eq.mpr c15
   clear c15
   have H' := Aside0.mk H
   clear H
   have p4 : 0 ≤ (x3_1 : Int) := ode_
   have q4 : x3_1 < (a0.size : Int) := ode_
   have hx4 := bt_at a0 x3_1
   replace p4 := eq_true p4
   replace q4 := eq_true q4
   have p10 : 0 ≤ (x3_1 : Int) := ode_
   have q10 : x3_1 < (a0.size : Int) := ode_
   have hx10 := bt_at a0 x3_1
   replace p10 := eq_true p10
   replace q10 := eq_true q10
   have p12 : 0 ≤ (x3_1 : Int) := ode_
   have q12 : x3_1 < (a0.size : Int) := ode_
   have hx12 := bt_at a0 x3_1
   replace p12 := eq_true p12
   replace q12 := eq_true q12
   have p14 : 0 ≤ (x3_1 : Int) := ode_
   have q14 : x3_1 < (a0.size : Int) := ode_
   have hx14 := bt_at a0 x3_1
   replace p14 := eq_true p14
   replace q14 := eq_true q14
   go_wp2
   go_roundg k1
   case measure => have := HK1.out; omega
   case rel => exact ⟨(wrap64 (x3_1 + 1)), z9_0_, H', ⟨z9_1_⟩, z9_5_⟩

end Go.Proofs.Ytbfkpgmdbafmhaa.PFnTierCounts
