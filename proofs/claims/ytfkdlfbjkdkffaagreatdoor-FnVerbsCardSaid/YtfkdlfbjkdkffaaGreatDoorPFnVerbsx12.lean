/- Printed for this claim: functions of the program as Lean functions, and that the calls answer so. -/
import Derived.Test.YtfkdlfbjkdkffaaGreatDoorPFnVerbsx0
import Derived.Test.YtfkdlfbjkdkffaaGreatDoorPFnVerbsx2
import Derived.Test.YtfkdlfbjkdkffaaGreatDoorPFnVerbsx6
import Derived.Test.YtfkdlfbjkdkffaaGreatDoorPFnVerbsx7
import Derived.Test.YtfkdlfbjkdkffaaGreatDoorPFnVerbsx8
import Derived.Test.YtfkdlfbjkdkffaaGreatDoorPFnVerbsx11
import Derived.Test.YtfkdlfbjkdkffaaGreatDoorPFnVerbsxD0
namespace Go.Proofs.YtfkdlfbjkdkffaaGreatDoor.PFnVerbs
open Go.RowKit Go.Proofs.YtfkdlfbjkdkffaaGreatDoorW.PrintWords Go.Proofs.YtfkdlfbjkdkffaaGreatDoorW.PrintLast Go.Proofs.YtfkdlfbjkdkffaaGreatDoorW.PrintMore
theorem z12_0_ {p : Prop} (h : p := by repeat (first | (with_reducible first | exact HI424.out | apply IsS70.alloc | apply IsS70.drewN | apply IsS70.drew | apply IsS70.set_1 | apply IsS70.set_2 | refine IsS70.far ?_ (Aside0.out (by assumption)) _) | exact HI424.out)) : p := h
theorem z12_1_ {p : Prop} (h : p := by repeat (first | (with_reducible first | exact HB.out | apply lA_ | apply lN_ | apply lD_ | refine below_set ?_ (IsS70.ge HI424.out) | refine below_set ?_ GE423.out) | exact HB.out)) : p := h
theorem z12_2_ {p : Prop} (h : p := by first | rfl | (simp; done) | (simp [*]; done)) : p := h
theorem z12_3_ {p : Prop} (h : p := by repeat (first | exact (Kd.C_below HR0.out HB.out) | (with_reducible first | apply cA_ | apply cN_ | apply cD_))) : p := h
set_option maxHeartbeats 8000000
set_option maxRecDepth 100000
attribute [local go_sem] max2_int min2_int max_two min_two max_three min_three max_four min_four isSome_setCell   -- for this text's walks alone
set_option linter.unusedVariables false
set_option linter.unusedSimpArgs false

/-! ### spec_DrawMeaningOf: function 8 -/
theorem spec_DrawMeaningOf.calls (k : Nat) (A0 : Option Addr) (c0 : Nat) (l0 : List Int) (r1 : List (S58)) (r2 : ByteArray) (r3 : Int) (r4 : Int) (w : World) (hr0 : Kd.C (Kd.int .u8) w A0 l0.length l0) (hc0 : l0.length ≤ c0) (h : spec_DrawMeaningOf.f k l0 = some (r1, r2, r3, r4)) :
 Calls Tryz.prog 8 #[.slice A0 l0.length c0] w fun e w' => ∃ v0_ : Value, e = .returned (.tuple #[v0_, .agg #[.string r2, .int .i64 r3, .int .i64 r4]]) ∧ Kd.R k58 58 w' w.heap.size (fun _ => True) v0_ r1 ∧ Below w.heap.size w w' := by
 have hu27 := Tryz.underlying27
 have hu70 := Tryz.underlying70
 have HR0 := Aside0.mk hr0
 have HC0 := Aside0.mk hc0
 clear hr0 hc0
 have HB := Aside0.mk (Below.refl w.heap.size w)
 have H : ((spec_l1Cur_loci.f k l0 0 0).bind fun bt425 => ((spec_l1Cur_verb.f k l0 bt425.2.1 bt425.2.2 bt425.1).bind fun bt430 => (some (bt425.1, bt430.1, bt430.2.1, bt430.2.2.1)))) = some (r1, r2, r3, r4) := h
 clear h
 replace H := ob_ H; obtain ⟨⟨t425, t428, t429⟩, A2, H⟩ := H; try dsimp only at H
 replace H := ob_ H; obtain ⟨⟨t430, t431, t432, t433, t434⟩, A3, H⟩ := H; try dsimp only at H
 simp only [Option.some.injEq, Prod.mk.injEq] at H
 obtain ⟨rfl, rfl, rfl, rfl⟩ := H
 go_enter Tryz.func8, Tryz.ntmps8
 go_wp2_with (first | ((with_reducible refine gate_dst (N := 3) rfl ?_); refine bx_ 3 #[.string (⟨#[]⟩ : ByteArray), .int .i64 0, .int .i64 0] 27 fun gb423 hg w4 hbox hb => ?_; have BK423 := aM_ (hbox); have GW423 := aM_ (gw_ w hg); have GE423 := aM_ (gw_ w hg); replace HB := aM_ (below_step hB_ hb); clear hb hbox hg) | ((with_reducible refine gate_dst (N := 8) rfl ?_); refine bx_ 8 #[.slice A0 l0.length c0, .int .i64 0, .int .u64 0] 70 fun gb424 hg w5 hbox hb => ?_; have NB423_424 := aM_ (nR_ BK423 hg); have NB424_423 := aM_ (mR_ BK423 hg); have HI424 := aM_ ((show IsS70 w w5 gb424 l0 0 0 from ⟨A0, c0, hbox, (by rw [hg]; exact (below_size hB_) : w.heap.size ≤ gb424), HR0.out⟩)); replace BK423 := aM_ (blk_below (g := gb423) (kR_ BK423) hb); replace HB := aM_ (below_step hB_ hb); clear hb hbox hg) | ((with_reducible refine gC_ 43 ?_); refine gM_ (some 10) Tryz.func43 #[.pointer (some ⟨gb424, 0, none⟩)] ?_; (with_reducible refine (spec_l1Cur_loci.calls k gb424 l0 0 0 t425 t428 t429 w _ ?side1 ?side2 A2.out).mono ?_); (case side1 => exact z12_0_); (case side2 => exact z12_1_); rintro e w6 ⟨v426, rfl, ho0, hi, hb, hk⟩; refine ⟨_, rfl, ?_⟩; have HO427 := aM_ (Kd.R_lower ho0 (below_size z12_1_)); replace BK423 := aM_ (KeepBut.blk hk (g' := gb423) (o := .cells #[.string (⟨#[]⟩ : ByteArray), .int .i64 0, .int .i64 0] 27 (0, 0)) (kR_ BK423) NB423_424.out (by simp)); replace HB := aM_ (hb); replace HI424 := aM_ (hi); (try clear hb); (try clear hk); (try clear hi); (try clear ho0); obtain ⟨Ao7, co7, eo7⟩ := Kd.R_slice HO427.out; subst eo7) | ((with_reducible refine gC_ 52 ?_); refine gM_ (some 14) Tryz.func52 #[.pointer (some ⟨gb424, 0, none⟩), .slice Ao7 t425.length co7] ?_; (with_reducible refine (spec_l1Cur_verb.calls k gb424 l0 t428 t429 _ _ t425 t430 t431 t432 t433 t434 w _ ?side1 ?side2 ?side3 ?side4 A3.out).mono ?_); (case side1 => exact z12_0_); (case side2 => exact z12_1_); (case side3 => exact Kd.C_foot_own (IsS70.apart (show IsS70 w _ gb424 l0 t428 t429 from by repeat (first | (with_reducible first | exact HI424.out | apply IsS70.alloc | apply IsS70.drewN | apply IsS70.drew | apply IsS70.set_1 | apply IsS70.set_2 | refine IsS70.far ?_ (Aside0.out (by assumption)) _) | exact HI424.out)) (rR_ HO427) (by decide)) (fun _ h_ => h_.2)); (case side4 => exact (Kd.R_reads' HO427.out).2.1); rintro e w8 ⟨rfl, hi, hb, hk⟩; refine ⟨_, rfl, ?_⟩; replace BK423 := aM_ (KeepBut.blk hk (g' := gb423) (o := .cells #[.string (⟨#[]⟩ : ByteArray), .int .i64 0, .int .i64 0] 27 (0, 0)) (kR_ BK423) NB423_424.out (by simp)); replace HO427 := aM_ (Kd.R_mono (Kd.R_keep (IsS70.apart (show IsS70 w _ gb424 l0 t428 t429 from by repeat (first | (with_reducible first | exact HI424.out | apply IsS70.alloc | apply IsS70.drewN | apply IsS70.drew | apply IsS70.set_1 | apply IsS70.set_2 | refine IsS70.far ?_ (Aside0.out (by assumption)) _) | exact HI424.out)) (rR_ HO427) (by decide)) hk (fun _ h => h.2)) (fun _ h => h.1)); replace HB := aM_ (hb); replace HI424 := aM_ (hi); (try clear hb); (try clear hk); (try clear hi); have hnb9 := NB423_424.out; have hnc9 := NB424_423.out; have hz10 := cf3_ BK423.out))
 refine bodyPost_ret (results_tc rfl _ _ gb423 27 #[.string t430, .int .i64 t431, .int .i64 t432] (0, 0) _ rfl (by (with_reducible repeat (first | apply kN_ | apply kD_ | apply kA_)); refine blk_put (cs := #[.string t430, .int .i64 t431, .int .i64 0]) ?_ 2 _ rfl; (with_reducible repeat (first | apply kN_ | apply kD_ | apply kA_)); refine blk_put (cs := #[.string t430, .int .i64 0, .int .i64 0]) ?_ 1 _ rfl; (with_reducible repeat (first | apply kN_ | apply kD_ | apply kA_)); refine blk_put (cs := #[.string (⟨#[]⟩ : ByteArray), .int .i64 0, .int .i64 0]) ?_ 0 _ rfl; (with_reducible repeat (first | apply kN_ | apply kD_ | apply kA_)); exact BK423.out) Tryz.underlying27 rfl (by kernel_rfl)) rfl ?_
 exact ⟨_, rT_, by (with_reducible repeat (first | apply rA_ | apply rN_ | apply rD_)); exact Kd.R_mono (Kd.R_far (p := ⟨gb423, 2, none⟩) (Kd.R_far (p := ⟨gb423, 1, none⟩) (Kd.R_far (p := ⟨gb423, 0, none⟩) (Kd.R_types HO427.out BK423.out (by decide)) (fun _ hk => hk.2) (.string t430)) (fun _ hk => hk.2) (.int .i64 t431)) (fun _ hk => hk.2) (.int .i64 t432)) (fun _ hk => trivial), z12_1_⟩

/-! ### impl_IsVerb: function 19 -/
theorem impl_IsVerb.calls (k : Nat) (a0_0 : ByteArray) (a0_1 : Int) (a0_2 : Int) (r : Bool) (w : World) (h : impl_IsVerb.f k a0_0 a0_1 a0_2 = some r) :
 Calls Tryz.prog 19 #[.agg #[.string a0_0, .int .i64 a0_1, .int .i64 a0_2]] w fun e w' => e = .returned (.bool r) ∧ Below w.heap.size w w' := by
 have hu27 := Tryz.underlying27
 have HB := Aside0.mk (Below.refl w.heap.size w)
 have H : ((impl_IsGloss.f k a0_0).bind fun t436 => (if t436 = true then ((impl_isAngle.f a0_1).bind fun t437 => (if t437 = true then ((impl_isAngle.f a0_2).bind fun t438 => (if t438 = true then (some (a0_1 != a0_2)) else (some false))) else (some false))) else (some false))) = some r := h
 clear h
 replace H := ob_ H; obtain ⟨t436, A2, H⟩ := H; try dsimp only at H
 by_cases c3 : t436 = true
 rotate_left
 ·replace c3 := Bool.eq_false_iff.mpr c3
  subst c3
  replace H := in_ H (show ¬ (false = true) by decide)
  obtain rfl := Option.some.inj H
  go_enter Tryz.func19, Tryz.ntmps19
  go_wp2_with (first | ((with_reducible refine gate_dst (N := 1) rfl ?_); refine bx_ 1 #[.string a0_0, .int .i64 a0_1, .int .i64 a0_2] 27 fun gb435 hg w14 hbox hb => ?_; have BK435 := aM_ (hbox); have GW435 := aM_ (gw_ w hg); have GE435 := aM_ (gw_ w hg); replace HB := aM_ (below_step hB_ hb); clear hb hbox hg; have hz15 := cf3_ BK435.out; clear BK435) | ((with_reducible refine gC_ 46 ?_); refine gM_ (some 5) Tryz.func46 #[.string a0_0] ?_; (with_reducible refine (impl_IsGloss.calls k a0_0 false _ A2.out).mono ?_); rintro e w' ⟨rfl, ⟨nd, rfl⟩⟩; refine ⟨_, rfl, ?_⟩))
  go_ret
  exact ⟨rT_, hB_⟩
 subst c3
 replace H := ip_ H rfl
 replace H := ob_ H; obtain ⟨t437, A4, H⟩ := H; try dsimp only at H
 by_cases c5 : t437 = true
 rotate_left
 ·replace c5 := Bool.eq_false_iff.mpr c5
  subst c5
  replace H := in_ H (show ¬ (false = true) by decide)
  obtain rfl := Option.some.inj H
  go_enter Tryz.func19, Tryz.ntmps19
  go_wp2_with (first | ((with_reducible refine gate_dst (N := 1) rfl ?_); refine bx_ 1 #[.string a0_0, .int .i64 a0_1, .int .i64 a0_2] 27 fun gb435 hg w12 hbox hb => ?_; have BK435 := aM_ (hbox); have GW435 := aM_ (gw_ w hg); have GE435 := aM_ (gw_ w hg); replace HB := aM_ (below_step hB_ hb); clear hb hbox hg; have hz13 := cf3_ BK435.out) | ((with_reducible refine gC_ 46 ?_); refine gM_ (some 5) Tryz.func46 #[.string a0_0] ?_; (with_reducible refine (impl_IsGloss.calls k a0_0 true _ A2.out).mono ?_); rintro e w' ⟨rfl, ⟨nd, rfl⟩⟩; refine ⟨_, rfl, ?_⟩; clear BK435) | (go_at_call 65; (with_reducible refine (impl_isAngle.calls a0_1 false _ A4.out).mono ?_); rintro e w' ⟨rfl, ⟨nd, rfl⟩⟩))
  go_ret
  exact ⟨rT_, hB_⟩
 subst c5
 replace H := ip_ H rfl
 replace H := ob_ H; obtain ⟨t438, A6, H⟩ := H; try dsimp only at H
 by_cases c7 : t438 = true
 ·subst c7
  replace H := ip_ H rfl
  obtain rfl := Option.some.inj H
  go_enter Tryz.func19, Tryz.ntmps19
  go_wp2_with (first | ((with_reducible refine gate_dst (N := 1) rfl ?_); refine bx_ 1 #[.string a0_0, .int .i64 a0_1, .int .i64 a0_2] 27 fun gb435 hg w8 hbox hb => ?_; have BK435 := aM_ (hbox); have GW435 := aM_ (gw_ w hg); have GE435 := aM_ (gw_ w hg); replace HB := aM_ (below_step hB_ hb); clear hb hbox hg; have hz9 := cf3_ BK435.out) | ((with_reducible refine gC_ 46 ?_); refine gM_ (some 5) Tryz.func46 #[.string a0_0] ?_; (with_reducible refine (impl_IsGloss.calls k a0_0 true _ A2.out).mono ?_); rintro e w' ⟨rfl, ⟨nd, rfl⟩⟩; refine ⟨_, rfl, ?_⟩) | (go_at_call 65; (with_reducible refine (impl_isAngle.calls a0_1 true _ A4.out).mono ?_); rintro e w' ⟨rfl, ⟨nd, rfl⟩⟩) | (go_at_call 65; (with_reducible refine (impl_isAngle.calls a0_2 true _ A6.out).mono ?_); rintro e w' ⟨rfl, ⟨nd, rfl⟩⟩))
  go_ret
  exact ⟨rT_, hB_⟩
 replace c7 := Bool.eq_false_iff.mpr c7
 subst c7
 replace H := in_ H (show ¬ (false = true) by decide)
 obtain rfl := Option.some.inj H
 go_enter Tryz.func19, Tryz.ntmps19
 go_wp2_with (first | ((with_reducible refine gate_dst (N := 1) rfl ?_); refine bx_ 1 #[.string a0_0, .int .i64 a0_1, .int .i64 a0_2] 27 fun gb435 hg w10 hbox hb => ?_; have BK435 := aM_ (hbox); have GW435 := aM_ (gw_ w hg); have GE435 := aM_ (gw_ w hg); replace HB := aM_ (below_step hB_ hb); clear hb hbox hg; have hz11 := cf3_ BK435.out) | ((with_reducible refine gC_ 46 ?_); refine gM_ (some 5) Tryz.func46 #[.string a0_0] ?_; (with_reducible refine (impl_IsGloss.calls k a0_0 true _ A2.out).mono ?_); rintro e w' ⟨rfl, ⟨nd, rfl⟩⟩; refine ⟨_, rfl, ?_⟩) | (go_at_call 65; (with_reducible refine (impl_isAngle.calls a0_1 true _ A4.out).mono ?_); rintro e w' ⟨rfl, ⟨nd, rfl⟩⟩; clear BK435) | (go_at_call 65; (with_reducible refine (impl_isAngle.calls a0_2 false _ A6.out).mono ?_); rintro e w' ⟨rfl, ⟨nd, rfl⟩⟩))
 go_ret
 exact ⟨rT_, hB_⟩

/-! ### impl_distance: function 101 -/
theorem impl_distance.calls (a0 : Int) (a1 : Int) (r : Int) (w : World) (h : impl_distance.f a0 a1 = some r) :
 Calls Tryz.prog 101 #[.int .i64 a0, .int .i64 a1] w fun e w' => e = .returned (.int .i64 r) ∧ Below w.heap.size w w' := by
 have HB := Aside0.mk (Below.refl w.heap.size w)
 have H : (some (mx (wrap64 (a0 - a1)) (wrap64 (a1 - a0)))) = some r := h
 clear h
 obtain ⟨ji3, hji3⟩ : ∃ j_ : Int, (mx (wrap64 (a0 - a1)) (wrap64 (a1 - a0))) = j_ := ⟨_, rfl⟩
 replace H : (some ji3) = some r := by first | (rw [hji3] at H; exact H) | (simp only [hji3] at H ⊢; exact H)
 have hji3_ : (if (wrap64 (a0 - a1)) < (wrap64 (a1 - a0)) then (wrap64 (a1 - a0)) else (wrap64 (a0 - a1))) = ji3 := hji3
 obtain rfl := Option.some.inj H
 go_enter Tryz.func101, Tryz.ntmps101
 go_wp2
 go_ret
 exact ⟨by first | rfl | (simp [errW_none, errW_some] <;> rfl) | (simp only [← hji3]; first | rfl | (simp [errW_none, errW_some] <;> rfl)) | (simp [*, errW_none, errW_some] <;> rfl), hB_⟩

/-! ### impl_nearestLoci: function 67 -/
theorem impl_nearestLoci.calls (k : Nat) (A0 : Option Addr) (c0 : Nat) (l0 : List (S58)) (a1 : Int) (r1 : Int) (r2 : List ByteArray) (w : World) (hr0 : Kd.C k58 w A0 l0.length l0) (hc0 : l0.length ≤ c0) (h : impl_nearestLoci.f k l0 a1 = some (r1, r2)) :
 Calls Tryz.prog 67 #[.slice A0 l0.length c0, .int .i64 a1] w fun e w' => ∃ v1_ : Value, e = .returned (.tuple #[.int .i64 r1, v1_]) ∧ Kd.R Kd.string 9 w' w.heap.size (fun _ => True) v1_ r2 ∧ Below w.heap.size w w' := by
 have hu58 := Tryz.underlying58
 have HR0 := Aside0.mk hr0
 have HC0 := Aside0.mk hc0
 clear hr0 hc0
 have HB := Aside0.mk (Below.refl w.heap.size w)
 have H : (impl_nearestLoci.l0 k a1 181 ([] : List ByteArray) l0 (l0.length : Int) 0) = some (r1, r2) := h
 clear h
 have H' := Aside0.mk H
 clear H
 go_enter Tryz.func67, Tryz.ntmps67
 go_wp2
 go_loopg [6, 7, 13] k (fun kq v6 v7 v13 w' => ∃ (x6_1 : Int) (x7_1 : List ByteArray) (x13_1 : Int), v6 = .int .i64 x6_1 ∧ v13 = .int .i64 x13_1 ∧ Aside0 (impl_nearestLoci.l0 kq a1 x6_1 x7_1 l0 (l0.length : Int) x13_1 = some (r1, r2)) ∧ Aside0 (kq ≤ k) ∧ Aside0 (Kd.R Kd.string 9 w' w.heap.size (fun _ => True) v7 x7_1) ∧ Aside0 (Below w.heap.size w w'))
 case atStart => exact ⟨(181), (([] : List ByteArray)), (0), z12_2_, z12_2_, H', ⟨Nat.le_refl _⟩, ⟨by first | exact Kd.R_nil _ _ _ _ _ | exact Kd.N_nil _ _ _ _ _ | exact Kd.V_nil _ _ _ _ _ | exact Kd.Q_nil _ _ _ _ _ | exact Kd.S_nil _ _ _ _ _⟩, ⟨hB_⟩⟩
 case round =>
  clear H'
  obtain ⟨x6_1, x7_1, x13_1, rfl, rfl, HA, HK1, HO_7, HB⟩ := hrel
  cases gk with
  | zero => exact absurd HA.out (by simp [impl_nearestLoci.l0])
  | succ k1 =>
   have H := HA.out
   clear HA
   simp only [impl_nearestLoci.l0] at H
   replace H := iF_ H; obtain ⟨c3b0, H⟩ | ⟨c3b0, H⟩ := H
   ·simp only [Option.some.injEq, Prod.mk.injEq] at H
    obtain ⟨rfl, rfl⟩ := H
    go_wp2
    go_ret2
    exact ⟨_, rT_, (rR_ HO_7), hB_⟩
   replace H := ig_ H; obtain ⟨c4b0, H⟩ := H
   replace H := ig_ H; obtain ⟨c5b0, H⟩ := H
   replace H := Option.bind_eq_some_iff.mp H
   obtain ⟨t441, A60, H⟩ := H
   replace H : (if t441 < x6_1 then (if t441 = t441 then (if ([] : List ByteArray).length < 8796093022208 then (impl_nearestLoci.l0 k1 a1 t441 (([] : List ByteArray) ++ [(rd_T58 l0 x13_1).f0]) l0 (l0.length : Int) (wrap64 (x13_1 + 1))) else (none)) else (impl_nearestLoci.l0 k1 a1 t441 ([] : List ByteArray) l0 (l0.length : Int) (wrap64 (x13_1 + 1)))) else (if t441 = x6_1 then (if x7_1.length < 8796093022208 then (impl_nearestLoci.l0 k1 a1 x6_1 (x7_1 ++ [(rd_T58 l0 x13_1).f0]) l0 (l0.length : Int) (wrap64 (x13_1 + 1))) else (none)) else (impl_nearestLoci.l0 k1 a1 x6_1 x7_1 l0 (l0.length : Int) (wrap64 (x13_1 + 1))))) = some (r1, r2) := by first | exact H | simpa only [eq_self] using H
   have A6 := Aside0.mk A60
   clear A60
   have HC7 := Aside0.mk H
   clear H
   have p439 : 0 ≤ (x13_1 : Int) := ode_
   have q439 : x13_1 < (l0.length : Int) := ode_
   obtain ⟨ad439, e439, hx439_0, hx439_1⟩ := at_T58 HR0.out x13_1 p439 q439
   cases e439
   try replace hx439_0 := hc_ HB hx439_0
   try replace hx439_1 := hc_ HB hx439_1
   replace p439 := eq_true p439
   replace q439 := eq_true q439
   go_upto_if 23 with (first | ((with_reducible refine gate_dst (N := 9) rfl ?_); refine bx_ 9 #[.string (⟨#[]⟩ : ByteArray), .int .i64 0] 58 fun gb440 hg w8 hbox hb => ?_; have BK440 := aM_ (hbox); have GW440 := aM_ (gw_ w hg); have GE440 := aM_ (gw_ w hg); replace HO_7 := aM_ (Kd.R_below (rR_ HO_7) hb); replace HB := aM_ (below_step hB_ hb); clear hb hbox hg; have hz9 := cf2_ BK440.out) | ((with_reducible refine gC_ 101 ?_); refine gM_ (some 20) Tryz.func101 #[.int .i64 ((rd_T58 l0 x13_1).f1), .int .i64 a1] ?_; (with_reducible refine (impl_distance.calls ((rd_T58 l0 x13_1).f1) a1 t441 _ A6.out).mono ?_); rintro e w10 ⟨rfl, hb⟩; refine ⟨_, rfl, ?_⟩; replace HO_7 := aM_ (Kd.R_below (by (with_reducible repeat (first | apply rA_ | apply rN_ | apply rD_)); exact (Kd.R_mono (Kd.R_far (p := ⟨gb440, 1, none⟩) (Kd.R_far (p := ⟨gb440, 0, none⟩) (Kd.R_types HO_7.out BK440.out (by decide)) (fun _ hk => hk.2) (.string ((rd_T58 l0 x13_1).f0))) (fun _ hk => hk.2) (.int .i64 ((rd_T58 l0 x13_1).f1))) (fun _ h_ => h_.1))) hb); replace BK440 := aM_ (blk_below (g := gb440) (o := .cells #[.string ((rd_T58 l0 x13_1).f0), .int .i64 ((rd_T58 l0 x13_1).f1)] 58 (0, 0)) (by (with_reducible repeat (first | apply kN_ | apply kD_ | apply kA_)); refine blk_put (cs := #[.string ((rd_T58 l0 x13_1).f0), .int .i64 0]) ?_ 1 _ rfl; (with_reducible repeat (first | apply kN_ | apply kD_ | apply kA_)); refine blk_put (cs := #[.string (⟨#[]⟩ : ByteArray), .int .i64 0]) ?_ 0 _ rfl; (with_reducible repeat (first | apply kN_ | apply kD_ | apply kA_)); exact BK440.out) hb); replace HB := aM_ (below_step hB_ hb); (try clear hb); (try clear hk)))
   (try simp only [Act.put, List.setIfInBounds_toArray, List.set_cons_zero, List.set_cons_succ])
   have H := HC7.out
   clear HC7
   replace H := iT_ H; obtain ⟨c11b0, H⟩ | ⟨c11b0, H⟩ := H
   ·(first | rw [c11b0] | (simp only [i64_w, i32_w]; rw [c11b0]) | skip)
    by_cases c12 : t441 = t441
    rotate_left
    ·exact absurd rfl c12
    rw [if_pos c12] at H
    have c12b0 : (t441 == t441) = true := beq_iff_eq.mpr c12
    have c12b1 : (t441 != t441) = false := bne_eq_false_iff_eq.mpr c12
    clear c12
    replace H := il_ H; obtain ⟨LMc13, H⟩ := H
    obtain ⟨y442, hy442⟩ : ∃ y_ : List ByteArray, y_ = (([] : List ByteArray) ++ [(rd_T58 l0 x13_1).f0]) := ⟨_, rfl⟩
    rw [← hy442] at H
    have Ny442 := Aside0.mk hy442; clear hy442
    have H' := Aside0.mk H
    clear H
    have hz14 := cf2_ BK440.out
    go_wp2_with (first | ((with_reducible refine gate_builtin (b := .append) (xs := #[.tmp 28, .tmp 31]) rfl ?_); at_builtin; refine Kd.R_append Kd.string (w0 := w) w.heap.size rfl (.tmp 28) (.tmp 31) 63 9 (.string ⟨#[]⟩) 16 rfl Tryz.underlying63 info9 rfl (by decide) (by omega) (.slice none 0 0) ([] : List ByteArray) ((rd_T58 l0 x13_1).f0) [.string ((rd_T58 l0 x13_1).f0)] (fun k_ => some k_ ≠ (u7 : Value).ownBlock) (fun _ => False) rfl rfl ?aP (fun _ hk => hk.elim) ?aF ?aO ?aB ?aS ?aL ?_; (case aP => exact rfl); (case aB => exact hB_); (case aF => exact (fun k_ hk => Kd.fresh' (Kd.R_lt (rR_ HO_7)) k_ hk)); (case aO => exact ((Kd.R_nil _ _ _ _ (fun k_ => some k_ ≠ (u7 : Value).ownBlock)))); (case aS => exact (below_size hB_)); (case aL => have := LMc13.out; omega); intro v443 w15 ho hb hg hat; rw [← Ny442.out] at ho; have HO444 := aM_ (ho); replace HO_7 := aM_ (Kd.R_after (Kd.R_apart_nil (rR_ HO_7)) hg hat); replace BK440 := aM_ (blk_grown (g := gb440) (kR_ BK440) hg (by simp [Value.ownBlock])); replace HB := aM_ (hb); clear ho hb hg hat))
    go_roundg k1
    case measure => have := HK1.out; omega
    case rel => exact ⟨(t441), (y442), (wrap64 (x13_1 + 1)), z12_2_, z12_2_, H', ⟨by have := HK1.out; omega⟩, ⟨rT1_ HO444⟩, ⟨hB_⟩⟩
   (first | rw [c11b0] | (simp only [i64_w, i32_w]; rw [c11b0]) | skip)
   by_cases c16 : t441 = x6_1
   rotate_left
   ·rw [if_neg c16] at H
    have c16b0 : (t441 == x6_1) = false := beq_eq_false_iff_ne.mpr c16
    have c16b1 : (t441 != x6_1) = true := bne_iff_ne.mpr c16
    have H' := Aside0.mk H
    clear H
    go_wp2
    go_roundg k1
    case measure => have := HK1.out; omega
    case rel => exact ⟨(x6_1), (x7_1), (wrap64 (x13_1 + 1)), z12_2_, z12_2_, H', ⟨by have := HK1.out; omega⟩, ⟨(rR_ HO_7)⟩, ⟨hB_⟩⟩
   rw [if_pos c16] at H
   have c16b0 : (t441 == x6_1) = true := beq_iff_eq.mpr c16
   have c16b1 : (t441 != x6_1) = false := bne_eq_false_iff_eq.mpr c16
   clear c16
   replace H := il_ H; obtain ⟨LMc17, H⟩ := H
   obtain ⟨y445, hy445⟩ : ∃ y_ : List ByteArray, y_ = (x7_1 ++ [(rd_T58 l0 x13_1).f0]) := ⟨_, rfl⟩
   rw [← hy445] at H
   have Ny445 := Aside0.mk hy445; clear hy445
   have H' := Aside0.mk H
   clear H
   have hz18 := cf2_ BK440.out
   go_wp2_with (first | ((with_reducible refine gate_builtin (b := .append) (xs := #[.tmp 28, .tmp 31]) rfl ?_); at_builtin; refine Kd.R_append Kd.string (w0 := w) w.heap.size rfl (.tmp 28) (.tmp 31) 63 9 (.string ⟨#[]⟩) 16 rfl Tryz.underlying63 info9 rfl (by decide) (by omega) u7 x7_1 ((rd_T58 l0 x13_1).f0) [.string ((rd_T58 l0 x13_1).f0)] (fun _ => True) (fun _ => False) rfl rfl ?aP (fun _ hk => hk.elim) ?aF ?aO ?aB ?aS ?aL ?_; (case aP => exact rfl); (case aB => exact hB_); (case aF => exact (fun _ _ => trivial)); (case aO => exact (rR_ HO_7)); (case aS => exact (below_size hB_)); (case aL => have := LMc17.out; omega); intro v446 w19 ho hb hg hat; rw [← Ny445.out] at ho; have HO447 := aM_ (ho); replace BK440 := aM_ (blk_grown (g := gb440) (kR_ BK440) hg (Kd.R_ne HO_7.out BK440.out (by decide))); replace HB := aM_ (hb); clear HO_7; clear ho hb hg hat))
   go_roundg k1
   case measure => have := HK1.out; omega
   case rel => exact ⟨(x6_1), (y445), (wrap64 (x13_1 + 1)), z12_2_, z12_2_, H', ⟨by have := HK1.out; omega⟩, ⟨rR_ HO447⟩, ⟨hB_⟩⟩

/-! ### impl_pointsAt: function 73 -/
theorem impl_pointsAt.calls (k : Nat) (A0 : Option Addr) (c0 : Nat) (l0 : List (S58)) (a1 : Int) (r : ByteArray) (w : World) (hr0 : Kd.C k58 w A0 l0.length l0) (hc0 : l0.length ≤ c0) (h : impl_pointsAt.f k l0 a1 = some r) :
 Calls Tryz.prog 73 #[.slice A0 l0.length c0, .int .i64 a1] w fun e w' => e = .returned (.string r) ∧ Below w.heap.size w w' := by
 have HR0 := Aside0.mk hr0
 have HC0 := Aside0.mk hc0
 clear hr0 hc0
 have HB := Aside0.mk (Below.refl w.heap.size w)
 have H : ((impl_nearestLoci.f k l0 a1).bind fun bt448 => (if bt448.1 > 20 then (some (⟨#[]⟩ : ByteArray)) else (if (bt448.2.length : Int) = 1 then (if 0 < (bt448.2.length : Int) then (some (rdOf ByteArray.empty bt448.2 0)) else (none)) else (some (⟨#[]⟩ : ByteArray))))) = some r := h
 clear h
 replace H := ob_ H; obtain ⟨⟨t448, t449⟩, A3, H⟩ := H; try dsimp only at H
 by_cases c4 : t448 > 20
 ·rw [if_pos c4] at H
  have c4b0 : decide (20 < t448) = true := decide_eq_true c4
  clear c4
  obtain rfl := Option.some.inj H
  go_enter Tryz.func73, Tryz.ntmps73
  go_wp2_with (first | ((with_reducible refine gC_ 67 ?_); refine gM_ (some 10) Tryz.func67 #[.slice A0 l0.length c0, .int .i64 a1] ?_; (with_reducible refine (impl_nearestLoci.calls k _ _ l0 a1 t448 t449 _ ?side1 ?side2 A3.out).mono ?_); (case side1 => exact cC_ HR0); (case side2 => exact HC0.out); rintro e w5 ⟨v450, rfl, ho0, hb⟩; refine ⟨_, rfl, ?_⟩; have HO451 := aM_ (Kd.R_lower ho0 (below_size hB_)); replace HB := aM_ (below_step hB_ hb); (try clear hb); (try clear ho0)))
  go_ret
  exact ⟨rT_, hB_⟩
 rw [if_neg c4] at H
 have c4b0 : decide (20 < t448) = false := decide_eq_false c4
 clear c4
 have HC6 := Aside0.mk H
 clear H
 go_enter Tryz.func73, Tryz.ntmps73
 go_upto_if 19 with (first | ((with_reducible refine gC_ 67 ?_); refine gM_ (some 10) Tryz.func67 #[.slice A0 l0.length c0, .int .i64 a1] ?_; (with_reducible refine (impl_nearestLoci.calls k _ _ l0 a1 t448 t449 _ ?side1 ?side2 A3.out).mono ?_); (case side1 => exact cC_ HR0); (case side2 => exact HC0.out); rintro e w7 ⟨v450, rfl, ho0, hb⟩; refine ⟨_, rfl, ?_⟩; have HO451 := aM_ (Kd.R_lower ho0 (below_size hB_)); replace HB := aM_ (below_step hB_ hb); (try clear hb); (try clear ho0); obtain ⟨Ao8, co8, eo8⟩ := Kd.R_slice HO451.out; subst eo8))
 (try simp only [Act.put, List.setIfInBounds_toArray, List.set_cons_zero, List.set_cons_succ])
 have H := HC6.out
 clear HC6
 by_cases c9 : (t449.length : Int) = 1
 rotate_left
 ·rw [if_neg c9] at H
  have c9b0 : ((t449.length : Int) == 1) = false := beq_eq_false_iff_ne.mpr c9
  have c9b1 : ((t449.length : Int) != 1) = true := bne_iff_ne.mpr c9
  (first | rw [c9b0] | (simp only [i64_w, i32_w]; rw [c9b0]) | skip)
  obtain rfl := Option.some.inj H
  go_wp2
  go_ret
  exact ⟨rT_, hB_⟩
 rw [if_pos c9] at H
 have c9b0 : ((t449.length : Int) == 1) = true := beq_iff_eq.mpr c9
 have c9b1 : ((t449.length : Int) != 1) = false := bne_eq_false_iff_eq.mpr c9
 clear c9
 (first | rw [c9b0] | (simp only [i64_w, i32_w]; rw [c9b0]) | skip)
 by_cases c10 : 0 < (t449.length : Int)
 rotate_left
 ·rw [if_neg c10] at H
  exact absurd H (by simp)
 rw [if_pos c10] at H
 have c10b0 : decide (0 < (t449.length : Int)) = true := decide_eq_true c10
 have c10b1 : decide (0 < t449.length) = true := decide_eq_true (by omega)
 clear c10
 obtain rfl := Option.some.inj H
 have p452 : 0 ≤ (0 : Int) := (by omega)
 have q452 : 0 < (t449.length : Int) := ode_
 obtain ⟨ad452, e452, hx452_0⟩ := Kd.at_string (Kd.R_reads' HO451.out).2.2 0 p452 q452
 cases e452
 have qi452 : (0 < t449.length) = True := eq_true (by omega)
 (try rw [show ((0 : Int)).toNat = 0 from rfl] at hx452_0)
 (try rw [Addr.add_zero'] at hx452_0)
 replace p452 := eq_true p452
 replace q452 := eq_true q452
 go_wp2
 go_ret
 exact ⟨rT_, hB_⟩

/-! ### impl_Verb_meaning: function 53 -/
def impl_Verb_meaning.T1 : Bool × List (List Nat × List Nat) := (true, [([], []), ([], []), ([1], [1]), ([0, 2], [0, 2]), ([], []), ([], []), ([5], [5]), ([4, 6, 3], [4, 6]), ([3, 7, 0, 1, 2, 3], [3]), ([7, 8, 0, 1, 2, 3, 4, 5, 6, 7, 8], [7])])
def impl_Verb_meaning.B1 : List Nat := [0, 0, 2, 7, 0, 0, 32, 127, 255, 511]
theorem impl_Verb_meaning.tab1 : rtab .any (opsOf Tryz.f53 1) = impl_Verb_meaning.T1 := by kernel_rfl
theorem impl_Verb_meaning.bits1 : waitsOk impl_Verb_meaning.T1.2 impl_Verb_meaning.B1 = true := by kernel_rfl
theorem impl_Verb_meaning.calls (k : Nat) (a0_0 : ByteArray) (a0_1 : Int) (a0_2 : Int) (A1 : Option Addr) (c1 : Nat) (l1 : List (S58)) (r1 : ByteArray) (r2 : ByteArray) (w : World) (hr1 : Kd.C k58 w A1 l1.length l1) (hc1 : l1.length ≤ c1) (h : impl_Verb_meaning.f k a0_0 a0_1 a0_2 l1 = some (r1, r2)) :
 Calls Tryz.prog 53 #[.agg #[.string a0_0, .int .i64 a0_1, .int .i64 a0_2], .slice A1 l1.length c1] w fun e w' => e = .returned (.tuple #[.string r1, .string r2]) ∧ Below w.heap.size w w' := by
 have hu27 := Tryz.underlying27
 have HR1 := Aside0.mk hr1
 have HC1 := Aside0.mk hc1
 clear hr1 hc1
 have HB := Aside0.mk (Below.refl w.heap.size w)
 have H : ((impl_pointsAt.f k l1 a0_1).bind fun t454 => ((impl_pointsAt.f k l1 a0_2).bind fun t455 => (if t454.toList = ([] : List UInt8) then (some ((⟨#[]⟩ : ByteArray), (⟨#[]⟩ : ByteArray))) else (if t455.toList = ([] : List UInt8) then (some ((⟨#[]⟩ : ByteArray), (⟨#[]⟩ : ByteArray))) else (if t454.toList = t455.toList then (some ((⟨#[]⟩ : ByteArray), (⟨#[]⟩ : ByteArray))) else (some (t454, t455))))))) = some (r1, r2) := h
 clear h
 replace H := ob_ H; obtain ⟨t454, A3, H⟩ := H; try dsimp only at H
 replace H := ob_ H; obtain ⟨t455, A4, H⟩ := H; try dsimp only at H
 by_cases c5 : t454.toList = ([] : List UInt8)
 ·rw [if_pos c5] at H
  have c5b0 : (t454.toList == ([] : List UInt8)) = true := beq_iff_eq.mpr c5
  have c5b1 : (t454.toList != ([] : List UInt8)) = false := bne_eq_false_iff_eq.mpr c5
  clear c5
  simp only [Option.some.injEq, Prod.mk.injEq] at H
  obtain ⟨rfl, rfl⟩ := H
  go_enter Tryz.func53, Tryz.ntmps53
  try go_wp2_with (first | ((with_reducible refine gate_dst (N := 2) rfl ?_); refine bx_ 2 #[.string a0_0, .int .i64 a0_1, .int .i64 a0_2] 27 fun gb453 hg w6 hbox hb => ?_; have BK453 := aM_ (hbox); have GW453 := aM_ (gw_ w hg); have GE453 := aM_ (gw_ w hg); replace HB := aM_ (below_step hB_ hb); clear hb hbox hg))
  replace BK453 := aM_ (blk_drew BK453.out)
  replace HB := aM_ (below_drew1 HB.out)
  refine st_ 10 (fun w' => w'.cell? ⟨gb453, 0, none⟩ = some (.string a0_0) ∧ w'.cell? ⟨gb453, 1, none⟩ = some (.int .i64 a0_1) ∧ w'.cell? ⟨gb453, 2, none⟩ = some (.int .i64 a0_2)) [] impl_Verb_meaning.tab1 impl_Verb_meaning.bits1 ⟨(blk_cell BK453.out 0).trans rfl, (blk_cell BK453.out 1).trans rfl, (blk_cell BK453.out 2).trans rfl⟩ fun hHeld HT_ HW_ => ?_
  generalize w6.drew = w7 at BK453 HB hHeld ⊢
  refine pu_ 0 8 ?_
  refine pu_ 1 9 ?_
  refine pu_ 4 12 ?_
  refine pu_ 5 13 ?_
  refine tk_ 2 10 ?_
  refine tk_ 6 14 ?_
  refine on_ 3 11 fun K hK => ?_
  refine gS_ Tryz.func73 #[.slice A1 l1.length c1, .int .i64 a0_1] ?_
  with_reducible refine (impl_pointsAt.calls k _ _ l1 a0_1 t454 _ ?side1 ?side2 A3.out).mono ?_
  (case side1 => repeat (first | exact (Kd.C_below HR1.out HB.out) | (with_reducible first | apply cA_ | apply cN_ | apply cD_)))
  (case side2 => exact HC1.out)
  rintro e w8 ⟨rfl, hb⟩
  refine ⟨_, rfl, ?_⟩
  replace BK453 := aM_ (blk_below (g := gb453) (kR_ BK453) hb)
  replace HB := aM_ (below_step hB_ hb)
  (try clear hb)
  (try clear hb2)
  (try clear hk)
  (try clear hi)
  refine hK.out _ _ ⟨(blk_cell BK453.out 0).trans rfl, (blk_cell BK453.out 1).trans rfl, (blk_cell BK453.out 2).trans rfl⟩ (fun hHeld => ?_)
  clear hK K
  refine nm_ 11 ?_
  refine on_ 7 15 fun K hK => ?_
  refine gS_ Tryz.func73 #[.slice A1 l1.length c1, .int .i64 a0_2] ?_
  with_reducible refine (impl_pointsAt.calls k _ _ l1 a0_2 t455 _ ?side1 ?side2 A4.out).mono ?_
  (case side1 => repeat (first | exact (Kd.C_below HR1.out HB.out) | (with_reducible first | apply cA_ | apply cN_ | apply cD_)))
  (case side2 => exact HC1.out)
  rintro e w9 ⟨rfl, hb⟩
  refine ⟨_, rfl, ?_⟩
  replace BK453 := aM_ (blk_below (g := gb453) (kR_ BK453) hb)
  replace HB := aM_ (below_step hB_ hb)
  (try clear hb)
  (try clear hb2)
  (try clear hk)
  (try clear hi)
  refine hK.out _ _ ⟨(blk_cell BK453.out 0).trans rfl, (blk_cell BK453.out 1).trans rfl, (blk_cell BK453.out 2).trans rfl⟩ (fun hHeld => ?_)
  clear hK K
  refine nm_ 15 ?_
  refine pu_ 8 6 ?_
  refine pu_ 9 7 ?_
  refine dn_ ?_
  try go_wp2
  go_ret2
  exact ⟨rT_, hB_⟩
 rw [if_neg c5] at H
 have c5b0 : (t454.toList == ([] : List UInt8)) = false := beq_eq_false_iff_ne.mpr c5
 have c5b1 : (t454.toList != ([] : List UInt8)) = true := bne_iff_ne.mpr c5
 by_cases c10 : t455.toList = ([] : List UInt8)
 ·rw [if_pos c10] at H
  have c10b0 : (t455.toList == ([] : List UInt8)) = true := beq_iff_eq.mpr c10
  have c10b1 : (t455.toList != ([] : List UInt8)) = false := bne_eq_false_iff_eq.mpr c10
  clear c10
  simp only [Option.some.injEq, Prod.mk.injEq] at H
  obtain ⟨rfl, rfl⟩ := H
  go_enter Tryz.func53, Tryz.ntmps53
  try go_wp2_with (first | ((with_reducible refine gate_dst (N := 2) rfl ?_); refine bx_ 2 #[.string a0_0, .int .i64 a0_1, .int .i64 a0_2] 27 fun gb453 hg w11 hbox hb => ?_; have BK453 := aM_ (hbox); have GW453 := aM_ (gw_ w hg); have GE453 := aM_ (gw_ w hg); replace HB := aM_ (below_step hB_ hb); clear hb hbox hg))
  replace BK453 := aM_ (blk_drew BK453.out)
  replace HB := aM_ (below_drew1 HB.out)
  refine st_ 10 (fun w' => w'.cell? ⟨gb453, 0, none⟩ = some (.string a0_0) ∧ w'.cell? ⟨gb453, 1, none⟩ = some (.int .i64 a0_1) ∧ w'.cell? ⟨gb453, 2, none⟩ = some (.int .i64 a0_2)) [] impl_Verb_meaning.tab1 impl_Verb_meaning.bits1 ⟨(blk_cell BK453.out 0).trans rfl, (blk_cell BK453.out 1).trans rfl, (blk_cell BK453.out 2).trans rfl⟩ fun hHeld HT_ HW_ => ?_
  generalize w11.drew = w12 at BK453 HB hHeld ⊢
  refine pu_ 0 8 ?_
  refine pu_ 1 9 ?_
  refine pu_ 4 12 ?_
  refine pu_ 5 13 ?_
  refine tk_ 2 10 ?_
  refine tk_ 6 14 ?_
  refine on_ 3 11 fun K hK => ?_
  refine gS_ Tryz.func73 #[.slice A1 l1.length c1, .int .i64 a0_1] ?_
  with_reducible refine (impl_pointsAt.calls k _ _ l1 a0_1 t454 _ ?side1 ?side2 A3.out).mono ?_
  (case side1 => repeat (first | exact (Kd.C_below HR1.out HB.out) | (with_reducible first | apply cA_ | apply cN_ | apply cD_)))
  (case side2 => exact HC1.out)
  rintro e w13 ⟨rfl, hb⟩
  refine ⟨_, rfl, ?_⟩
  replace BK453 := aM_ (blk_below (g := gb453) (kR_ BK453) hb)
  replace HB := aM_ (below_step hB_ hb)
  (try clear hb)
  (try clear hb2)
  (try clear hk)
  (try clear hi)
  refine hK.out _ _ ⟨(blk_cell BK453.out 0).trans rfl, (blk_cell BK453.out 1).trans rfl, (blk_cell BK453.out 2).trans rfl⟩ (fun hHeld => ?_)
  clear hK K
  refine nm_ 11 ?_
  refine on_ 7 15 fun K hK => ?_
  refine gS_ Tryz.func73 #[.slice A1 l1.length c1, .int .i64 a0_2] ?_
  with_reducible refine (impl_pointsAt.calls k _ _ l1 a0_2 t455 _ ?side1 ?side2 A4.out).mono ?_
  (case side1 => repeat (first | exact (Kd.C_below HR1.out HB.out) | (with_reducible first | apply cA_ | apply cN_ | apply cD_)))
  (case side2 => exact HC1.out)
  rintro e w14 ⟨rfl, hb⟩
  refine ⟨_, rfl, ?_⟩
  replace BK453 := aM_ (blk_below (g := gb453) (kR_ BK453) hb)
  replace HB := aM_ (below_step hB_ hb)
  (try clear hb)
  (try clear hb2)
  (try clear hk)
  (try clear hi)
  refine hK.out _ _ ⟨(blk_cell BK453.out 0).trans rfl, (blk_cell BK453.out 1).trans rfl, (blk_cell BK453.out 2).trans rfl⟩ (fun hHeld => ?_)
  clear hK K
  refine nm_ 15 ?_
  refine pu_ 8 6 ?_
  refine pu_ 9 7 ?_
  refine dn_ ?_
  try go_wp2
  go_ret2
  exact ⟨rT_, hB_⟩
 rw [if_neg c10] at H
 have c10b0 : (t455.toList == ([] : List UInt8)) = false := beq_eq_false_iff_ne.mpr c10
 have c10b1 : (t455.toList != ([] : List UInt8)) = true := bne_iff_ne.mpr c10
 have HC15 := Aside0.mk H
 clear H
 go_enter Tryz.func53, Tryz.ntmps53
 try go_wp2_with (first | ((with_reducible refine gate_dst (N := 2) rfl ?_); refine bx_ 2 #[.string a0_0, .int .i64 a0_1, .int .i64 a0_2] 27 fun gb453 hg w16 hbox hb => ?_; have BK453 := aM_ (hbox); have GW453 := aM_ (gw_ w hg); have GE453 := aM_ (gw_ w hg); replace HB := aM_ (below_step hB_ hb); clear hb hbox hg))
 replace BK453 := aM_ (blk_drew BK453.out)
 replace HB := aM_ (below_drew1 HB.out)
 refine st_ 10 (fun w' => w'.cell? ⟨gb453, 0, none⟩ = some (.string a0_0) ∧ w'.cell? ⟨gb453, 1, none⟩ = some (.int .i64 a0_1) ∧ w'.cell? ⟨gb453, 2, none⟩ = some (.int .i64 a0_2)) [] impl_Verb_meaning.tab1 impl_Verb_meaning.bits1 ⟨(blk_cell BK453.out 0).trans rfl, (blk_cell BK453.out 1).trans rfl, (blk_cell BK453.out 2).trans rfl⟩ fun hHeld HT_ HW_ => ?_
 generalize w16.drew = w17 at BK453 HB hHeld ⊢
 refine pu_ 0 8 ?_
 refine pu_ 1 9 ?_
 refine pu_ 4 12 ?_
 refine pu_ 5 13 ?_
 refine tk_ 2 10 ?_
 refine tk_ 6 14 ?_
 refine on_ 3 11 fun K hK => ?_
 refine gS_ Tryz.func73 #[.slice A1 l1.length c1, .int .i64 a0_1] ?_
 with_reducible refine (impl_pointsAt.calls k _ _ l1 a0_1 t454 _ ?side1 ?side2 A3.out).mono ?_
 (case side1 => repeat (first | exact (Kd.C_below HR1.out HB.out) | (with_reducible first | apply cA_ | apply cN_ | apply cD_)))
 (case side2 => exact HC1.out)
 rintro e w18 ⟨rfl, hb⟩
 refine ⟨_, rfl, ?_⟩
 replace BK453 := aM_ (blk_below (g := gb453) (kR_ BK453) hb)
 replace HB := aM_ (below_step hB_ hb)
 (try clear hb)
 (try clear hb2)
 (try clear hk)
 (try clear hi)
 refine hK.out _ _ ⟨(blk_cell BK453.out 0).trans rfl, (blk_cell BK453.out 1).trans rfl, (blk_cell BK453.out 2).trans rfl⟩ (fun hHeld => ?_)
 clear hK K
 refine nm_ 11 ?_
 refine on_ 7 15 fun K hK => ?_
 refine gS_ Tryz.func73 #[.slice A1 l1.length c1, .int .i64 a0_2] ?_
 with_reducible refine (impl_pointsAt.calls k _ _ l1 a0_2 t455 _ ?side1 ?side2 A4.out).mono ?_
 (case side1 => repeat (first | exact (Kd.C_below HR1.out HB.out) | (with_reducible first | apply cA_ | apply cN_ | apply cD_)))
 (case side2 => exact HC1.out)
 rintro e w19 ⟨rfl, hb⟩
 refine ⟨_, rfl, ?_⟩
 replace BK453 := aM_ (blk_below (g := gb453) (kR_ BK453) hb)
 replace HB := aM_ (below_step hB_ hb)
 (try clear hb)
 (try clear hb2)
 (try clear hk)
 (try clear hi)
 refine hK.out _ _ ⟨(blk_cell BK453.out 0).trans rfl, (blk_cell BK453.out 1).trans rfl, (blk_cell BK453.out 2).trans rfl⟩ (fun hHeld => ?_)
 clear hK K
 refine nm_ 15 ?_
 refine pu_ 8 6 ?_
 refine pu_ 9 7 ?_
 refine dn_ ?_
 go_upto_if 26 with (fail)
 have H := HC15.out
 clear HC15
 by_cases c20 : t454.toList = t455.toList
 rotate_left
 ·rw [if_neg c20] at H
  have c20b0 : (t454.toList == t455.toList) = false := beq_eq_false_iff_ne.mpr c20
  have c20b1 : (t454.toList != t455.toList) = true := bne_iff_ne.mpr c20
  (first | rw [c20b0] | (simp only [i64_w, i32_w]; rw [c20b0]) | skip)
  simp only [Option.some.injEq, Prod.mk.injEq] at H
  obtain ⟨rfl, rfl⟩ := H
  go_wp2
  go_ret2
  exact ⟨rT_, hB_⟩
 rw [if_pos c20] at H
 have c20b0 : (t454.toList == t455.toList) = true := beq_iff_eq.mpr c20
 have c20b1 : (t454.toList != t455.toList) = false := bne_eq_false_iff_eq.mpr c20
 clear c20
 (first | rw [c20b0] | (simp only [i64_w, i32_w]; rw [c20b0]) | skip)
 simp only [Option.some.injEq, Prod.mk.injEq] at H
 obtain ⟨rfl, rfl⟩ := H
 go_wp2
 go_ret2
 exact ⟨rT_, hB_⟩

/-! ### impl_MeaningOf: function 9 -/
theorem impl_MeaningOf.calls (k : Nat) (A0 : Option Addr) (c0 : Nat) (l0 : List (S58)) (a1_0 : ByteArray) (a1_1 : Int) (a1_2 : Int) (r1 : ByteArray) (r2 : ByteArray) (r3 : Bool) (w : World) (hr0 : Kd.C k58 w A0 l0.length l0) (hc0 : l0.length ≤ c0) (h : impl_MeaningOf.f k l0 a1_0 a1_1 a1_2 = some (r1, r2, r3)) :
 Calls Tryz.prog 9 #[.slice A0 l0.length c0, .agg #[.string a1_0, .int .i64 a1_1, .int .i64 a1_2]] w fun e w' => e = .returned (.tuple #[.string r1, .string r2, .bool r3]) ∧ Below w.heap.size w w' := by
 have hu27 := Tryz.underlying27
 have HR0 := Aside0.mk hr0
 have HC0 := Aside0.mk hc0
 clear hr0 hc0
 have HB := Aside0.mk (Below.refl w.heap.size w)
 have H : ((impl_AreLoci.f k l0).bind fun t457 => (if t457 = true then ((impl_IsVerb.f k a1_0 a1_1 a1_2).bind fun t458 => (if t458 = true then ((impl_Verb_meaning.f k a1_0 a1_1 a1_2 l0).bind fun bt459 => (some (bt459.1, bt459.2, (bt459.1.toList != ([] : List UInt8))))) else (some ((⟨#[]⟩ : ByteArray), (⟨#[]⟩ : ByteArray), false)))) else (some ((⟨#[]⟩ : ByteArray), (⟨#[]⟩ : ByteArray), false)))) = some (r1, r2, r3) := h
 clear h
 replace H := ob_ H; obtain ⟨t457, A3, H⟩ := H; try dsimp only at H
 by_cases c4 : t457 = true
 rotate_left
 ·replace c4 := Bool.eq_false_iff.mpr c4
  subst c4
  replace H := in_ H (show ¬ (false = true) by decide)
  simp only [Option.some.injEq, Prod.mk.injEq] at H
  obtain ⟨rfl, rfl, rfl⟩ := H
  go_enter Tryz.func9, Tryz.ntmps9
  go_wp2_with (first | ((with_reducible refine gate_dst (N := 3) rfl ?_); refine bx_ 3 #[.string a1_0, .int .i64 a1_1, .int .i64 a1_2] 27 fun gb456 hg w15 hbox hb => ?_; have BK456 := aM_ (hbox); have GW456 := aM_ (gw_ w hg); have GE456 := aM_ (gw_ w hg); replace HB := aM_ (below_step hB_ hb); clear hb hbox hg; clear BK456) | ((with_reducible refine gC_ 33 ?_); refine gM_ (some 10) Tryz.func33 #[.slice A0 l0.length c0] ?_; (with_reducible refine (impl_AreLoci.calls k _ _ l0 false _ ?side1 ?side2 A3.out).mono ?_); (case side1 => exact z12_3_); (case side2 => exact HC0.out); rintro e w16 ⟨rfl, hb⟩; refine ⟨_, rfl, ?_⟩; replace HB := aM_ (below_step hB_ hb); (try clear hb)))
  go_ret3
  exact ⟨rT_, hB_⟩
 subst c4
 replace H := ip_ H rfl
 replace H := ob_ H; obtain ⟨t458, A5, H⟩ := H; try dsimp only at H
 have HC6 := Aside0.mk H
 clear H
 go_enter Tryz.func9, Tryz.ntmps9
 go_upto_if 16 with (first | ((with_reducible refine gate_dst (N := 3) rfl ?_); refine bx_ 3 #[.string a1_0, .int .i64 a1_1, .int .i64 a1_2] 27 fun gb456 hg w7 hbox hb => ?_; have BK456 := aM_ (hbox); have GW456 := aM_ (gw_ w hg); have GE456 := aM_ (gw_ w hg); replace HB := aM_ (below_step hB_ hb); clear hb hbox hg) | ((with_reducible refine gC_ 33 ?_); refine gM_ (some 10) Tryz.func33 #[.slice A0 l0.length c0] ?_; (with_reducible refine (impl_AreLoci.calls k _ _ l0 true _ ?side1 ?side2 A3.out).mono ?_); (case side1 => exact z12_3_); (case side2 => exact HC0.out); rintro e w8 ⟨rfl, hb⟩; refine ⟨_, rfl, ?_⟩; replace BK456 := aM_ (blk_below (g := gb456) (kR_ BK456) hb); replace HB := aM_ (below_step hB_ hb); (try clear hb); have hz9 := cf3_ BK456.out) | (go_at_call 19; (with_reducible refine (impl_IsVerb.calls k a1_0 a1_1 a1_2 t458 _ A5.out).mono ?_); rintro e w10 ⟨rfl, hb⟩; replace BK456 := aM_ (blk_below (g := gb456) (kR_ BK456) hb); replace HB := aM_ (below_step hB_ hb); (try clear hb)))
 (try simp only [Act.put, List.setIfInBounds_toArray, List.set_cons_zero, List.set_cons_succ])
 have H := HC6.out
 clear HC6
 by_cases c11 : t458 = true
 rotate_left
 ·replace c11 := Bool.eq_false_iff.mpr c11
  subst c11
  replace H := in_ H (show ¬ (false = true) by decide)
  simp only [Option.some.injEq, Prod.mk.injEq] at H
  obtain ⟨rfl, rfl, rfl⟩ := H
  go_wp2
  go_ret3
  exact ⟨rT_, hB_⟩
 subst c11
 replace H := ip_ H rfl
 replace H := ob_ H; obtain ⟨⟨t459, t460⟩, A12, H⟩ := H; try dsimp only at H
 simp only [Option.some.injEq, Prod.mk.injEq] at H
 obtain ⟨rfl, rfl, rfl⟩ := H
 have hz13 := cf3_ BK456.out
 clear BK456
 go_wp2_with (first | ((with_reducible refine gC_ 53 ?_); refine gM_ (some 20) Tryz.func53 #[.agg #[.string a1_0, .int .i64 a1_1, .int .i64 a1_2], .slice A0 l0.length c0] ?_; (with_reducible refine (impl_Verb_meaning.calls k a1_0 a1_1 a1_2 _ _ l0 t459 t460 _ ?side1 ?side2 A12.out).mono ?_); (case side1 => exact z12_3_); (case side2 => exact HC0.out); rintro e w14 ⟨rfl, hb⟩; refine ⟨_, rfl, ?_⟩; replace HB := aM_ (below_step hB_ hb); (try clear hb)))
 go_ret3
 exact ⟨rT_, hB_⟩

end Go.Proofs.YtfkdlfbjkdkffaaGreatDoor.PFnVerbs
