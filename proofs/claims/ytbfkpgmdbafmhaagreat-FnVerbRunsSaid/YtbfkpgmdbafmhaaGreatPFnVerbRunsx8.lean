/- Printed for this claim: functions of the program as Lean functions, and that the calls answer so. -/
import Derived.Test.YtbfkpgmdbafmhaaGreatPFnVerbRunsx0
import Derived.Test.YtbfkpgmdbafmhaaGreatPFnVerbRunsx2
import Derived.Test.YtbfkpgmdbafmhaaGreatPFnVerbRunsx6
import Derived.Test.YtbfkpgmdbafmhaaGreatPFnVerbRunsx7
import Derived.Test.YtbfkpgmdbafmhaaGreatPFnVerbRunsxD0
import Derived.Test.YtbfkpgmdbafmhaaGreatPFnVerbRunsxD1
namespace Go.Proofs.YtbfkpgmdbafmhaaGreat.PFnVerbRuns
open Go.RowKit Go.Proofs.YtbfkpgmdbafmhaaGreatW.PrintWords Go.Proofs.YtbfkpgmdbafmhaaGreatW.PrintLast Go.Proofs.YtbfkpgmdbafmhaaGreatW.PrintMore
theorem z8_0_ {p : Prop} (h : p := by first | rfl | (simp; done) | (simp [*]; done)) : p := h
theorem z8_1_ {p : Prop} (h : p := by repeat (first | exact Drawn0.refl _ | apply Drawn0.step)) : p := h
theorem z8_2_ {p : Prop} (h : p := by repeat (first | (with_reducible first | exact HI0.out | apply IsS60.alloc | apply IsS60.drewN | apply IsS60.drew | apply IsS60.set_1 | apply IsS60.set_2) | exact HI0.out)) : p := h
theorem z8_3_ {p : Prop} (h : p := by repeat (first | (with_reducible first | exact HB.out | apply lA_ | apply lN_ | apply lD_ | refine below_set ?_ (IsS60.ge HI0.out)) | exact HB.out)) : p := h
theorem z8_4_ {p : Prop} (h : p := by repeat (first | (with_reducible first | exact HK.out | apply KeepBut.set_ | apply keep_drewN | apply keep_drew | apply keep_alloc) | exact HK.out)) : p := h
theorem z8_5_ {p : Prop} (h : p := by first | exact Kd.R_nil _ _ _ _ _ | exact Kd.N_nil _ _ _ _ _ | exact Kd.V_nil _ _ _ _ _ | exact Kd.Q_nil _ _ _ _ _ | exact Kd.S_nil _ _ _ _ _) : p := h
theorem z8_6_ {p : Prop} (h : p := by (with_reducible repeat (first | apply rA_ | apply rN_ | apply rD_)); exact (Kd.R_mono (Kd.R_far (p := ⟨gb357, 2, none⟩) (Kd.R_far (p := ⟨gb357, 1, none⟩) (Kd.R_far (p := ⟨gb357, 0, none⟩) (Kd.R_mono HO_5.out (fun k_ hk => (⟨hk, hk.2⟩ : _ ∧ k_ ≠ gb357))) (fun _ hk => hk.2) (.string t352)) (fun _ hk => hk.2) (.int .i64 t353)) (fun _ hk => hk.2) (.int .i64 t354)) (fun _ h_ => h_.1))) : p := h
theorem z8_7_ {p : Prop} (h : p := by (with_reducible repeat (first | apply kN_ | apply kD_ | apply kA_)); refine blk_put (cs := #[.string t352, .int .i64 t353, .int .i64 0]) ?_ 2 _ rfl; (with_reducible repeat (first | apply kN_ | apply kD_ | apply kA_)); refine blk_put (cs := #[.string t352, .int .i64 0, .int .i64 0]) ?_ 1 _ rfl; (with_reducible repeat (first | apply kN_ | apply kD_ | apply kA_)); refine blk_put (cs := #[.string (⟨#[]⟩ : ByteArray), .int .i64 0, .int .i64 0]) ?_ 0 _ rfl; (with_reducible repeat (first | apply kN_ | apply kD_ | apply kA_)); exact BK357.out) : p := h
theorem z8_8_ {p : Prop} (h : p := by repeat (first | (with_reducible first | exact HK.out | apply KeepBut.set_ | apply keep_drewN | apply keep_drew | apply keep_alloc | refine keep_far ?_ GW357.out _) | exact HK.out)) : p := h
theorem z8_9_ {p : Prop} (h : p := by repeat (first | (with_reducible first | exact HB.out | apply lA_ | apply lN_ | apply lD_ | refine below_set ?_ (IsS60.ge HI0.out) | refine below_set ?_ GE357.out) | exact HB.out)) : p := h
theorem z8_10_ {p : Prop} (h : p := by repeat (first | (with_reducible first | exact HI0.out | apply IsS60.alloc | apply IsS60.drewN | apply IsS60.drew | apply IsS60.set_1 | apply IsS60.set_2 | refine IsS60.far ?_ (Aside0.out (by assumption)) _) | exact HI0.out)) : p := h
theorem z8_11_ {p : Prop} (h : p := by have := HJ4.out; have := HK2.out; omega) : p := h
theorem z8_12_ {p : Prop} (h : p := by (with_reducible repeat (first | apply kN_ | apply kD_ | apply kA_)); refine blk_put (cs := #[.string (⟨#[65, 83, 75]⟩ : ByteArray), .int .i64 10, .int .i64 t354]) ?_ 2 _ rfl; (with_reducible repeat (first | apply kN_ | apply kD_ | apply kA_)); refine blk_put (cs := #[.string (⟨#[65, 83, 75]⟩ : ByteArray), .int .i64 t353, .int .i64 t354]) ?_ 1 _ rfl; (with_reducible repeat (first | apply kN_ | apply kD_ | apply kA_)); refine blk_put (cs := #[.string t352, .int .i64 t353, .int .i64 t354]) ?_ 0 _ rfl; (with_reducible repeat (first | apply kN_ | apply kD_ | apply kA_)); exact BK357.out) : p := h
theorem z8_13_ {p : Prop} (h : p := by repeat (first | (with_reducible first | exact HI371.out | apply IsS60.alloc | apply IsS60.drewN | apply IsS60.drew | apply IsS60.set_1 | apply IsS60.set_2) | exact HI371.out)) : p := h
theorem z8_14_ {p : Prop} (h : p := by repeat (first | (with_reducible first | exact HB.out | apply lA_ | apply lN_ | apply lD_ | refine below_set ?_ (IsS60.ge HI371.out)) | exact HB.out)) : p := h
set_option maxHeartbeats 8000000
set_option maxRecDepth 100000
attribute [local go_sem] max2_int min2_int max_two min_two max_three min_three max_four min_four isSome_setCell   -- for this text's walks alone
set_option linter.unusedVariables false
set_option linter.unusedSimpArgs false

theorem FaC.calls (k : Nat) (a0 : ByteArray) (r : Bool) (w : World) (h : FaC.f k a0 = some r) :
 Calls Tryz.prog 36 #[.string a0] w fun e w' => e = .returned (.bool r) ∧ Drawn0 w w' := by
 have H : (FaC.l0 k a0 0) = some r := h
 clear h
 have H' := aM_ H
 clear H
 go_enter Tryz.func36, Tryz.ntmps36
 go_wp2
 go_loopg [3] k (fun kq v3 w' => ∃ (x3_1 : Int), v3 = .int .i64 x3_1 ∧ Aside0 (FaC.l0 kq a0 x3_1 = some r) ∧ Aside0 (kq ≤ k) ∧ Drawn0 w w')
 case atStart => exact ⟨(0), z8_0_, H', ⟨Nat.le_refl _⟩, z8_1_⟩
 case round =>
  clear H'
  obtain ⟨x3_1, rfl, HA, HK1, ⟨m1, rfl⟩⟩ := hrel
  cases gk with
  | zero => exact absurd HA.out (by simp [FaC.l0])
  | succ k1 =>
   have H := HA.out
   clear HA
   simp only [FaC.l0] at H
   replace H := iF_ H; obtain ⟨c2b0, H⟩ | ⟨c2b0, H⟩ := H
   ·replace H := ob_ H; obtain ⟨t338, A8, H⟩ := H; try dsimp only at H
    obtain rfl := Option.some.inj H
    go_wp2_with (first | ((with_reducible refine gC_ 64 ?_); refine gM_ (some 22) Tryz.func64 #[.int .i64 (a0.size : Int), .int .i64 1, .int .i64 8] ?_; (with_reducible refine (Fbw.calls (a0.size : Int) 1 8 t338 _ A8.out).mono ?_); rintro e w' ⟨rfl, ⟨nd, rfl⟩⟩; refine ⟨_, rfl, ?_⟩))
    go_ret
    exact ⟨z8_0_, z8_1_⟩
   replace H := ig_ H; obtain ⟨c3b0, H⟩ := H
   replace H := iT_ H; obtain ⟨c5b0, H⟩ | ⟨c5b0, H⟩ := H
   ·obtain rfl := Option.some.inj H
    have p4 : 0 ≤ (x3_1 : Int) := ode_
    have q4 : x3_1 < (a0.size : Int) := ode_
    have hx4 := bt_at a0 x3_1
    replace p4 := eq_true p4
    replace q4 := eq_true q4
    go_wp2
    go_ret
    exact ⟨z8_0_, z8_1_⟩
   by_cases c7 : (bt a0 x3_1) > 90
   ·rw [if_pos c7] at H
    have c7b0 : decide (90 < (bt a0 x3_1)) = true := decide_eq_true c7
    clear c7
    obtain rfl := Option.some.inj H
    have p4 : 0 ≤ (x3_1 : Int) := ode_
    have q4 : x3_1 < (a0.size : Int) := ode_
    have hx4 := bt_at a0 x3_1
    replace p4 := eq_true p4
    replace q4 := eq_true q4
    have p6 : 0 ≤ (x3_1 : Int) := ode_
    have q6 : x3_1 < (a0.size : Int) := ode_
    have hx6 := bt_at a0 x3_1
    replace p6 := eq_true p6
    replace q6 := eq_true q6
    go_wp2
    go_ret
    exact ⟨z8_0_, z8_1_⟩
   rw [if_neg c7] at H
   have c7b0 : decide (90 < (bt a0 x3_1)) = false := decide_eq_false c7
   clear c7
   have H' := aM_ H
   clear H
   have p4 : 0 ≤ (x3_1 : Int) := ode_
   have q4 : x3_1 < (a0.size : Int) := ode_
   have hx4 := bt_at a0 x3_1
   replace p4 := eq_true p4
   replace q4 := eq_true q4
   have p6 : 0 ≤ (x3_1 : Int) := ode_
   have q6 : x3_1 < (a0.size : Int) := ode_
   have hx6 := bt_at a0 x3_1
   replace p6 := eq_true p6
   replace q6 := eq_true q6
   go_wp2
   go_roundg k1
   case measure => have := HK1.out; omega
   case rel => exact ⟨(wrap64 (x3_1 + 1)), z8_0_, H', ⟨by have := HK1.out; omega⟩, z8_1_⟩

theorem FaQ.calls (k : Nat) (a0_0 : ByteArray) (a0_1 a0_2 : Int) (r : Bool) (w : World) (h : FaQ.f k a0_0 a0_1 a0_2 = some r) :
 Calls Tryz.prog 48 #[.agg #[.string a0_0, .int .i64 a0_1, .int .i64 a0_2]] w fun e w' => e = .returned (.bool r) ∧ Below w.heap.size w w' := by
 have hu40 := Tryz.underlying40
 have HB := aM_ (Below.refl w.heap.size w)
 have H : ((FaC.f k a0_0).bind fun t340 => (if t340 = true then ((Fbc.f a0_1).bind fun t341 => (if t341 = true then ((Fbc.f a0_2).bind fun t342 => (if t342 = true then (some (a0_1 != a0_2)) else (some false))) else (some false))) else (some false))) = some r := h
 clear h
 replace H := ob_ H; obtain ⟨t340, A2, H⟩ := H; try dsimp only at H
 by_cases c3 : t340 = true
 rotate_left
 ·replace c3 := Bool.eq_false_iff.mpr c3
  subst c3
  replace H := in_ H (show ¬ (false = true) by decide)
  obtain rfl := Option.some.inj H
  go_enter Tryz.func48, Tryz.ntmps48
  go_wp2_with (first | ((with_reducible refine gD_ 1 ?_); refine bx_ 1 #[.string a0_0, .int .i64 a0_1, .int .i64 a0_2] 40 fun gb339 hg w14 hbox hb => ?_; have BK339 := aM_ (hbox); have GW339 := gW_ w hg; have GE339 := gW_ w hg; replace HB := bS_ hb; clear hb hbox hg; have hz15 := cf3_ BK339.out; clear BK339) | ((with_reducible refine gC_ 36 ?_); refine gM_ (some 5) Tryz.func36 #[.string a0_0] ?_; (with_reducible refine (FaC.calls k a0_0 false _ A2.out).mono ?_); rintro e w' ⟨rfl, ⟨nd, rfl⟩⟩; refine ⟨_, rfl, ?_⟩))
  go_ret
  exact ⟨rT_, hB_⟩
 subst c3
 replace H := ip_ H rfl
 replace H := ob_ H; obtain ⟨t341, A4, H⟩ := H; try dsimp only at H
 by_cases c5 : t341 = true
 rotate_left
 ·replace c5 := Bool.eq_false_iff.mpr c5
  subst c5
  replace H := in_ H (show ¬ (false = true) by decide)
  obtain rfl := Option.some.inj H
  go_enter Tryz.func48, Tryz.ntmps48
  go_wp2_with (first | ((with_reducible refine gD_ 1 ?_); refine bx_ 1 #[.string a0_0, .int .i64 a0_1, .int .i64 a0_2] 40 fun gb339 hg w12 hbox hb => ?_; have BK339 := aM_ (hbox); have GW339 := gW_ w hg; have GE339 := gW_ w hg; replace HB := bS_ hb; clear hb hbox hg; have hz13 := cf3_ BK339.out) | ((with_reducible refine gC_ 36 ?_); refine gM_ (some 5) Tryz.func36 #[.string a0_0] ?_; (with_reducible refine (FaC.calls k a0_0 true _ A2.out).mono ?_); rintro e w' ⟨rfl, ⟨nd, rfl⟩⟩; refine ⟨_, rfl, ?_⟩; clear BK339) | (go_at_call 73; (with_reducible refine (Fbc.calls a0_1 false _ A4.out).mono ?_); rintro e w' ⟨rfl, ⟨nd, rfl⟩⟩))
  go_ret
  exact ⟨rT_, hB_⟩
 subst c5
 replace H := ip_ H rfl
 replace H := ob_ H; obtain ⟨t342, A6, H⟩ := H; try dsimp only at H
 by_cases c7 : t342 = true
 ·subst c7
  replace H := ip_ H rfl
  obtain rfl := Option.some.inj H
  go_enter Tryz.func48, Tryz.ntmps48
  go_wp2_with (first | ((with_reducible refine gD_ 1 ?_); refine bx_ 1 #[.string a0_0, .int .i64 a0_1, .int .i64 a0_2] 40 fun gb339 hg w8 hbox hb => ?_; have BK339 := aM_ (hbox); have GW339 := gW_ w hg; have GE339 := gW_ w hg; replace HB := bS_ hb; clear hb hbox hg; have hz9 := cf3_ BK339.out) | ((with_reducible refine gC_ 36 ?_); refine gM_ (some 5) Tryz.func36 #[.string a0_0] ?_; (with_reducible refine (FaC.calls k a0_0 true _ A2.out).mono ?_); rintro e w' ⟨rfl, ⟨nd, rfl⟩⟩; refine ⟨_, rfl, ?_⟩) | (go_at_call 73; (with_reducible refine (Fbc.calls a0_1 true _ A4.out).mono ?_); rintro e w' ⟨rfl, ⟨nd, rfl⟩⟩) | (go_at_call 73; (with_reducible refine (Fbc.calls a0_2 true _ A6.out).mono ?_); rintro e w' ⟨rfl, ⟨nd, rfl⟩⟩))
  go_ret
  exact ⟨rT_, hB_⟩
 replace c7 := Bool.eq_false_iff.mpr c7
 subst c7
 replace H := in_ H (show ¬ (false = true) by decide)
 obtain rfl := Option.some.inj H
 go_enter Tryz.func48, Tryz.ntmps48
 go_wp2_with (first | ((with_reducible refine gD_ 1 ?_); refine bx_ 1 #[.string a0_0, .int .i64 a0_1, .int .i64 a0_2] 40 fun gb339 hg w10 hbox hb => ?_; have BK339 := aM_ (hbox); have GW339 := gW_ w hg; have GE339 := gW_ w hg; replace HB := bS_ hb; clear hb hbox hg; have hz11 := cf3_ BK339.out) | ((with_reducible refine gC_ 36 ?_); refine gM_ (some 5) Tryz.func36 #[.string a0_0] ?_; (with_reducible refine (FaC.calls k a0_0 true _ A2.out).mono ?_); rintro e w' ⟨rfl, ⟨nd, rfl⟩⟩; refine ⟨_, rfl, ?_⟩) | (go_at_call 73; (with_reducible refine (Fbc.calls a0_1 true _ A4.out).mono ?_); rintro e w' ⟨rfl, ⟨nd, rfl⟩⟩; clear BK339) | (go_at_call 73; (with_reducible refine (Fbc.calls a0_2 false _ A6.out).mono ?_); rintro e w' ⟨rfl, ⟨nd, rfl⟩⟩))
 go_ret
 exact ⟨rT_, hB_⟩

theorem Fai.calls (k g : Nat) (s0_0 : List Int) (s0_1 s0_2 : Int) (A1 : Option Addr) (c1 : Nat) (l1 : List S74) (r1 : List S40) (r2 r3 : Int) (w0 w : World) (hI : IsS60 w0 w g s0_0 s0_1 s0_2) (hB : Below w0.heap.size w0 w) (hr1 : ∀ W_, KeepBut w W_ g none → Kd.C k74 W_ A1 l1.length l1) (hc1 : l1.length ≤ c1) (h : Fai.f k s0_0 s0_1 s0_2 l1 = some (r1, r2, r3)) :
 Calls Tryz.prog 27 #[.pointer (some ⟨g, 0, none⟩), .slice A1 l1.length c1] w fun e w' => ∃ v0_ : Value, e = .returned (v0_) ∧ Kd.R k40 40 w' w.heap.size (fun _ => True) v0_ r1 ∧ IsS60 w0 w' g s0_0 r2 r3 ∧ Below w0.heap.size w0 w' ∧ KeepBut w w' g none := by
 have hu40 := Tryz.underlying40
 have HR1 := aM_ hr1
 have HC1 := aM_ hc1
 clear hr1 hc1
 have HI0 := aM_ hI
 have HK := aM_ (KeepBut.refl w g none)
 have HL := aM_ hB.size
 clear hI
 have HW0 := aM_ hB.size
 have HB := aM_ hB
 clear hB
 have H : ((FaJ.f s0_0 s0_1 s0_2 6).bind fun bt343 => ((Fbb.f s0_0 bt343.2.1 bt343.2.2 12).bind fun bt346 => (if bt346.1 = true then ((FaJ.f s0_0 bt346.2.1 bt346.2.2 2).bind fun bt349 => (Fai.j0 k l1 ([] : List (S40)) (wrap64 (20 + bt349.1)) s0_0 bt349.2.1 bt349.2.2)) else (Fai.j0 k l1 ([] : List (S40)) bt343.1 s0_0 bt346.2.1 bt346.2.2)))) = some (r1, r2, r3) := h
 clear h
 replace H := ob_ H; obtain ⟨⟨t343, t344, t345⟩, A3, H⟩ := H; try dsimp only at H
 replace H := ob_ H; obtain ⟨⟨t346, t347, t348⟩, A4, H⟩ := H; try dsimp only at H
 have HC5 := aM_ H
 clear H
 go_enter Tryz.func27, Tryz.ntmps27
 go_upto_if 11 with (first | ((with_reducible refine gC_ 51 ?_); refine gM_ (some 9) Tryz.func51 #[.pointer (some ⟨g, 0, none⟩), .int .i64 6] ?_; (with_reducible refine (FaJ.calls g s0_0 s0_1 s0_2 6 t343 t344 t345 w0 _ ?_ ?_ A3.out).mono ?_); exact z8_2_; exact z8_3_; rintro e w6 ⟨rfl, hi, hb, hk⟩; refine ⟨_, rfl, ?_⟩; replace HK := aM_ (KeepBut.trans z8_4_ hk (.inl rfl)); replace HB := aM_ (hb); replace HI0 := aM_ (hi); (try clear hb); (try clear hk); (try clear hi)) | ((with_reducible refine gC_ 50 ?_); refine gM_ (some 11) Tryz.func50 #[.pointer (some ⟨g, 0, none⟩), .int .i64 12] ?_; (with_reducible refine (Fbb.calls g s0_0 t344 t345 12 t346 t347 t348 w0 _ ?_ ?_ A4.out).mono ?_); exact z8_2_; exact z8_3_; rintro e w7 ⟨rfl, hi, hb, hk⟩; refine ⟨_, rfl, ?_⟩; replace HK := aM_ (KeepBut.trans z8_4_ hk (.inl rfl)); replace HB := aM_ (hb); replace HI0 := aM_ (hi); (try clear hb); (try clear hk); (try clear hi)))
 (try simp only [Act.put, List.setIfInBounds_toArray, List.set_cons_zero, List.set_cons_succ])
 go_cut [6] (fun v6 wc => ∃ (kq : Nat) (x6_4 x1001_4 x1002_4 : Int), v6 = .int .i64 x6_4 ∧ Aside0 (Fai.j0 kq l1 ([] : List (S40)) x6_4 s0_0 x1001_4 x1002_4 = some (r1, r2, r3)) ∧ Aside0 (kq ≤ k) ∧ Aside0 (Kd.R k40 40 wc w.heap.size (fun _ => True) (.slice none 0 0) ([] : List (S40))) ∧ Aside0 (IsS60 w0 wc g s0_0 x1001_4 x1002_4) ∧ Aside0 (KeepBut w wc g none) ∧ Aside0 (Below w0.heap.size w0 wc))
 case first =>
  have H := HC5.out
  clear HC5
  by_cases c8 : t346 = true
  rotate_left
  ·replace c8 := Bool.eq_false_iff.mpr c8
   subst c8
   replace H := in_ H (show ¬ (false = true) by decide)
   have H' := aM_ H
   clear H
   go_wp2
   go_meet
   case rel => exact ⟨_, (t343), (t347), (t348), z8_0_, H', ⟨oR_⟩, ⟨z8_5_⟩, ⟨z8_2_⟩, ⟨z8_4_⟩, ⟨z8_3_⟩⟩
  subst c8
  replace H := ip_ H rfl
  replace H := ob_ H; obtain ⟨⟨t349, t350, t351⟩, A9, H⟩ := H; try dsimp only at H
  have H' := aM_ H
  clear H
  go_wp2_with (first | ((with_reducible refine gC_ 51 ?_); refine gM_ (some 13) Tryz.func51 #[.pointer (some ⟨g, 0, none⟩), .int .i64 2] ?_; (with_reducible refine (FaJ.calls g s0_0 t347 t348 2 t349 t350 t351 w0 _ ?_ ?_ A9.out).mono ?_); exact z8_2_; exact z8_3_; rintro e w10 ⟨rfl, hi, hb, hk⟩; refine ⟨_, rfl, ?_⟩; replace HK := aM_ (KeepBut.trans z8_4_ hk (.inl rfl)); replace HB := aM_ (hb); replace HI0 := aM_ (hi); (try clear hb); (try clear hk); (try clear hi)))
  go_meet
  case rel => exact ⟨_, (wrap64 (20 + t349)), (t350), (t351), z8_0_, H', ⟨oR_⟩, ⟨z8_5_⟩, ⟨z8_2_⟩, ⟨z8_4_⟩, ⟨z8_3_⟩⟩
 case rest =>
  clear HC5
  (try clear c1)
  obtain ⟨kq, x6_4, x1001_4, x1002_4, rfl, HA, HJ4, HO_5, HI0, HK, HB⟩ := hcut
  cases kq with
  | zero => exact absurd HA.out (by simp [Fai.j0])
  | succ kj4 =>
   have H := HA.out
   clear HA
   simp only [Fai.j0] at H
   have H' := aM_ H
   clear H
   go_wp2
   go_loopg [5] kj4 (fun kq v5 w' => ∃ (x5_2 : List S40) (x1001_2 x1002_2 : Int), Aside0 (Fai.l0 kq l1 x5_2 x6_4 s0_0 x1001_2 x1002_2 = some (r1, r2, r3)) ∧ Aside0 (kq ≤ kj4) ∧ Aside0 (Kd.R k40 40 w' w.heap.size (fun _ => True) v5 x5_2) ∧ Aside0 (IsS60 w0 w' g s0_0 x1001_2 x1002_2) ∧ Aside0 (KeepBut w w' g none) ∧ Aside0 (Below w0.heap.size w0 w'))
   case atStart => exact ⟨(([] : List (S40))), (x1001_4), (x1002_4), H', ⟨Nat.le_refl _⟩, ⟨(rR_ HO_5)⟩, ⟨z8_2_⟩, ⟨z8_4_⟩, ⟨z8_3_⟩⟩
   case round =>
    clear H'
    (try clear c1)
    obtain ⟨x5_2, x1001_2, x1002_2, HA, HK2, HO_5, HI0, HK, HB⟩ := hrel
    cases gk with
    | zero => exact absurd HA.out (by simp [Fai.l0])
    | succ k2 =>
     have H := HA.out
     clear HA
     simp only [Fai.l0] at H
     replace H := iF_ H; obtain ⟨c11b0, H⟩ | ⟨c11b0, H⟩ := H
     ·simp only [Option.some.injEq, Prod.mk.injEq] at H
      obtain ⟨rfl, rfl, rfl⟩ := H
      obtain ⟨Ao42, co42, eo42⟩ := rS_ HO_5
      subst eo42
      go_wp2
      go_ret
      exact ⟨_, rT_, (rR_ HO_5), z8_2_, z8_3_, z8_4_⟩
     replace H := ob_ H; obtain ⟨⟨t352, t353, t354, t355, t356⟩, A12, H⟩ := H; try dsimp only at H
     replace H := ob_ H; obtain ⟨t358, A13, H⟩ := H; try dsimp only at H
     by_cases c14 : t358 = true
     ·subst c14
      replace H := ip_ H rfl
      replace H := il_ H; obtain ⟨LMc15, H⟩ := H
      obtain ⟨y359, hy359⟩ : ∃ y_ : List (S40), y_ = (x5_2 ++ [(⟨t352, t353, t354⟩ : S40)]) := ⟨_, rfl⟩
      rw [← hy359] at H
      have Ny359 := aM_ hy359; clear hy359
      have H' := aM_ H
      clear H
      obtain ⟨Ao16, co16, eo16⟩ := rS_ HO_5
      subst eo16
      go_wp2_with (first | ((with_reducible refine gC_ 43 ?_); refine gM_ (some 21) Tryz.func43 #[.pointer (some ⟨g, 0, none⟩), .slice A1 l1.length c1] ?_; (with_reducible refine (Fag.calls k2 g s0_0 x1001_2 x1002_2 _ _ l1 t352 t353 t354 t355 t356 w0 _ ?_ ?_ ?_ ?_ A12.out).mono ?_); exact z8_2_; exact z8_3_; exact Kd.C_foot_step HR1.out z8_4_; exact HC1.out; rintro e w17 ⟨rfl, hi, hb, hk⟩; refine ⟨_, rfl, ?_⟩; replace HO_5 := aM_ (Kd.R_mono (Kd.R_keep (IsS60.apart (show IsS60 w0 _ g s0_0 x1001_2 x1002_2 from by repeat (first | (with_reducible first | exact HI0.out | apply IsS60.alloc | apply IsS60.drewN | apply IsS60.drew | apply IsS60.set_1 | apply IsS60.set_2) | exact HI0.out)) (rR_ HO_5) (by decide)) hk (fun _ h => h.2)) (fun _ h => h.1)); replace HK := aM_ (KeepBut.trans z8_4_ hk (.inl rfl)); replace HB := aM_ (hb); replace HI0 := aM_ (hi); (try clear hb); (try clear hk); (try clear hi)) | ((with_reducible refine gD_ 7 ?_); refine bx_ 7 #[.string (⟨#[]⟩ : ByteArray), .int .i64 0, .int .i64 0] 40 fun gb357 hg w18 hbox hb => ?_; have BK357 := aM_ (hbox); have GW357 := aM_ ((by rw [hg]; exact (keep_size (w := w) (g := g) (row := none) z8_4_) : w.heap.size ≤ gb357)); have GE357 := aM_ ((Nat.le_trans HW0.out (by rw [hg]; exact (keep_size (w := w) (g := g) (row := none) z8_4_) : w.heap.size ≤ gb357) : w0.heap.size ≤ gb357)); have NB0_357 := aM_ ((by rw [hg]; exact Nat.ne_of_lt (IsS60.lt (show IsS60 w0 _ g s0_0 t355 t356 from by repeat (first | (with_reducible first | exact HI0.out | apply IsS60.alloc | apply IsS60.drewN | apply IsS60.drew | apply IsS60.set_1 | apply IsS60.set_2) | exact HI0.out))) : g ≠ gb357)); have NB357_0 := aM_ ((by rw [hg]; exact Nat.ne_of_gt (IsS60.lt (show IsS60 w0 _ g s0_0 t355 t356 from by repeat (first | (with_reducible first | exact HI0.out | apply IsS60.alloc | apply IsS60.drewN | apply IsS60.drew | apply IsS60.set_1 | apply IsS60.set_2) | exact HI0.out))) : gb357 ≠ g)); replace HO_5 := aM_ (Kd.R_below (Kd.R_elderB (rR_ HO_5) gb357 (Nat.le_of_eq hg.symm)) hb); replace HK := aM_ (KeepBut.trans z8_4_ (KeepBut.of_below hb g none) (.inl rfl)); replace HB := aM_ (below_step z8_3_ hb); replace HI0 := aM_ (IsS60.below z8_2_ hb); clear hb hbox hg; have hnb19 := NB357_0.out; have hnc19 := NB0_357.out; have hz20 := cf3_ BK357.out) | ((with_reducible refine gC_ 48 ?_); refine gM_ (some 23) Tryz.func48 #[.agg #[.string t352, .int .i64 t353, .int .i64 t354]] ?_; (with_reducible refine (FaQ.calls k2 t352 t353 t354 true _ A13.out).mono ?_); rintro e w21 ⟨rfl, hb⟩; refine ⟨_, rfl, ?_⟩; replace HO_5 := aM_ (Kd.R_below z8_6_ hb); replace BK357 := aM_ (blk_below (g := gb357) (o := .cells #[.string t352, .int .i64 t353, .int .i64 t354] 40 (0, 0)) z8_7_ hb); replace HK := aM_ (KeepBut.trans z8_8_ (KeepBut.of_below hb g none) (.inl rfl)); replace HB := aM_ (below_step z8_9_ hb); replace HI0 := aM_ (IsS60.below (show IsS60 w0 (((w18.setCell ⟨gb357, 0, none⟩ (.string t352)).setCell ⟨gb357, 1, none⟩ (.int .i64 t353)).setCell ⟨gb357, 2, none⟩ (.int .i64 t354)) g s0_0 t355 t356 from by repeat (first | (with_reducible first | exact HI0.out | apply IsS60.alloc | apply IsS60.drewN | apply IsS60.drew | apply IsS60.set_1 | apply IsS60.set_2 | refine IsS60.far ?_ (Aside0.out (by assumption)) _) | exact HI0.out)) hb); (try clear hb); (try clear hk); (try clear hi); have hz22 := cf3_ BK357.out) | ((with_reducible refine gate_builtin (b := .append) (xs := #[.tmp 31, .tmp 33]) rfl ?_); at_builtin; refine Kd.R_append k40 w.heap.size rfl (.tmp 31) (.tmp 33) 24 40 (.agg #[(.string ⟨#[]⟩), (.int .i64 0), (.int .i64 0)]) 32 rfl Tryz.underlying24 info40 rfl (by decide) (by omega) (.slice Ao16 x5_2.length co16) x5_2 (⟨t352, t353, t354⟩ : S40) [.string t352, .int .i64 t353, .int .i64 t354] (fun k_ => k_ ≠ gb357) (fun _ => False) rfl rfl ?aP (fun _ hk => hk.elim) ?aF ?aO (Below.refl _ _) ?aS ?aL ?_; (case aP => exact k40_mkM _ _ _ (⟨t352, t353, t354⟩ : S40)); (case aF => exact (fun k_ hk => Kd.freshB (g := gb357) kP_ k_ hk)); (case aO => exact (rM_ HO_5 (fun _ hk => hk.2))); (case aS => exact (keep_size (w := w) (g := g) (row := none) z8_8_)); (case aL => have := LMc15.out; omega); intro v360 w23 ho hb hg hat; rw [← Ny359.out] at ho; have HO361 := aM_ (ho); replace BK357 := aM_ (blk_grown (g := gb357) (kR_ BK357) hg (Kd.R_away HO_5.out (fun _ hk => hk.2))); replace HB := aM_ (below_weaken z8_9_ HL.out hb); replace HI0 := aM_ (IsS60.grown z8_10_ hg (IsS60.own_ne HI0.out HO_5.out (by decide))); replace HK := aM_ (KeepBut.trans z8_8_ (KeepBut.of_grown hg g) (Kd.R_base2 HO_5.out)); clear HO_5; clear ho hb hg hat))
      go_roundg k2
      case measure => have := HJ4.out; have := HK2.out; omega
      case rel => exact ⟨(y359), (t355), (t356), H', ⟨z8_11_⟩, ⟨rT1_ HO361⟩, ⟨z8_10_⟩, ⟨z8_8_⟩, ⟨z8_9_⟩⟩
     replace c14 := Bool.eq_false_iff.mpr c14
     subst c14
     replace H := in_ H (show ¬ (false = true) by decide)
     replace H := ob_ H; obtain ⟨⟨t362, t363, t364⟩, A24, H⟩ := H; try dsimp only at H
     have HC25 := aM_ H
     clear H
     obtain ⟨Ao26, co26, eo26⟩ := rS_ HO_5
     subst eo26
     go_upto_if 29 with (first | ((with_reducible refine gC_ 43 ?_); refine gM_ (some 21) Tryz.func43 #[.pointer (some ⟨g, 0, none⟩), .slice A1 l1.length c1] ?_; (with_reducible refine (Fag.calls k2 g s0_0 x1001_2 x1002_2 _ _ l1 t352 t353 t354 t355 t356 w0 _ ?_ ?_ ?_ ?_ A12.out).mono ?_); exact z8_2_; exact z8_3_; exact Kd.C_foot_step HR1.out z8_4_; exact HC1.out; rintro e w27 ⟨rfl, hi, hb, hk⟩; refine ⟨_, rfl, ?_⟩; replace HO_5 := aM_ (Kd.R_mono (Kd.R_keep (IsS60.apart (show IsS60 w0 _ g s0_0 x1001_2 x1002_2 from by repeat (first | (with_reducible first | exact HI0.out | apply IsS60.alloc | apply IsS60.drewN | apply IsS60.drew | apply IsS60.set_1 | apply IsS60.set_2) | exact HI0.out)) (rR_ HO_5) (by decide)) hk (fun _ h => h.2)) (fun _ h => h.1)); replace HK := aM_ (KeepBut.trans z8_4_ hk (.inl rfl)); replace HB := aM_ (hb); replace HI0 := aM_ (hi); (try clear hb); (try clear hk); (try clear hi)) | ((with_reducible refine gD_ 7 ?_); refine bx_ 7 #[.string (⟨#[]⟩ : ByteArray), .int .i64 0, .int .i64 0] 40 fun gb357 hg w28 hbox hb => ?_; have BK357 := aM_ (hbox); have GW357 := aM_ ((by rw [hg]; exact (keep_size (w := w) (g := g) (row := none) z8_4_) : w.heap.size ≤ gb357)); have GE357 := aM_ ((Nat.le_trans HW0.out (by rw [hg]; exact (keep_size (w := w) (g := g) (row := none) z8_4_) : w.heap.size ≤ gb357) : w0.heap.size ≤ gb357)); have NB0_357 := aM_ ((by rw [hg]; exact Nat.ne_of_lt (IsS60.lt (show IsS60 w0 _ g s0_0 t355 t356 from by repeat (first | (with_reducible first | exact HI0.out | apply IsS60.alloc | apply IsS60.drewN | apply IsS60.drew | apply IsS60.set_1 | apply IsS60.set_2) | exact HI0.out))) : g ≠ gb357)); have NB357_0 := aM_ ((by rw [hg]; exact Nat.ne_of_gt (IsS60.lt (show IsS60 w0 _ g s0_0 t355 t356 from by repeat (first | (with_reducible first | exact HI0.out | apply IsS60.alloc | apply IsS60.drewN | apply IsS60.drew | apply IsS60.set_1 | apply IsS60.set_2) | exact HI0.out))) : gb357 ≠ g)); replace HO_5 := aM_ (Kd.R_below (Kd.R_elderB (rR_ HO_5) gb357 (Nat.le_of_eq hg.symm)) hb); replace HK := aM_ (KeepBut.trans z8_4_ (KeepBut.of_below hb g none) (.inl rfl)); replace HB := aM_ (below_step z8_3_ hb); replace HI0 := aM_ (IsS60.below z8_2_ hb); clear hb hbox hg; have hnb29 := NB357_0.out; have hnc29 := NB0_357.out; have hz30 := cf3_ BK357.out) | ((with_reducible refine gC_ 48 ?_); refine gM_ (some 23) Tryz.func48 #[.agg #[.string t352, .int .i64 t353, .int .i64 t354]] ?_; (with_reducible refine (FaQ.calls k2 t352 t353 t354 false _ A13.out).mono ?_); rintro e w31 ⟨rfl, hb⟩; refine ⟨_, rfl, ?_⟩; replace HO_5 := aM_ (Kd.R_below z8_6_ hb); replace BK357 := aM_ (blk_below (g := gb357) (o := .cells #[.string t352, .int .i64 t353, .int .i64 t354] 40 (0, 0)) z8_7_ hb); replace HK := aM_ (KeepBut.trans z8_8_ (KeepBut.of_below hb g none) (.inl rfl)); replace HB := aM_ (below_step z8_9_ hb); replace HI0 := aM_ (IsS60.below (show IsS60 w0 (((w28.setCell ⟨gb357, 0, none⟩ (.string t352)).setCell ⟨gb357, 1, none⟩ (.int .i64 t353)).setCell ⟨gb357, 2, none⟩ (.int .i64 t354)) g s0_0 t355 t356 from by repeat (first | (with_reducible first | exact HI0.out | apply IsS60.alloc | apply IsS60.drewN | apply IsS60.drew | apply IsS60.set_1 | apply IsS60.set_2 | refine IsS60.far ?_ (Aside0.out (by assumption)) _) | exact HI0.out)) hb); (try clear hb); (try clear hk); (try clear hi)) | (go_at_call 50; (with_reducible refine (Fbb.calls g s0_0 t355 t356 4 t362 t363 t364 w0 _ ?_ ?_ A24.out).mono ?_); exact z8_10_; exact z8_9_; rintro e w32 ⟨rfl, hi, hb, hk⟩; replace HO_5 := aM_ (Kd.R_mono (Kd.R_keep (IsS60.apart (show IsS60 w0 _ g s0_0 t355 t356 from by repeat (first | (with_reducible first | exact HI0.out | apply IsS60.alloc | apply IsS60.drewN | apply IsS60.drew | apply IsS60.set_1 | apply IsS60.set_2 | refine IsS60.far ?_ (Aside0.out (by assumption)) _) | exact HI0.out)) (rR_ HO_5) (by decide)) hk (fun _ h => h.2)) (fun _ h => h.1)); replace BK357 := aM_ (KeepBut.blk hk (g' := gb357) (o := .cells #[.string t352, .int .i64 t353, .int .i64 t354] 40 (0, 0)) (kR_ BK357) NB357_0.out (by simp)); replace HK := aM_ (KeepBut.trans z8_8_ hk (.inl rfl)); replace HB := aM_ (hb); replace HI0 := aM_ (hi); (try clear hb); (try clear hk); (try clear hi)))
     (try simp only [Act.put, List.setIfInBounds_toArray, List.set_cons_zero, List.set_cons_succ])
     have H := HC25.out
     clear HC25
     by_cases c33 : t362 = true
     ·subst c33
      replace H := ip_ H rfl
      replace H := il_ H; obtain ⟨LMc34, H⟩ := H
      obtain ⟨y365, hy365⟩ : ∃ y_ : List (S40), y_ = (x5_2 ++ [(⟨t352, t353, t354⟩ : S40)]) := ⟨_, rfl⟩
      rw [← hy365] at H
      have Ny365 := aM_ hy365; clear hy365
      have H' := aM_ H
      clear H
      have hnb35 := NB357_0.out
      have hnc35 := NB0_357.out
      have hz36 := cf3_ BK357.out
      go_wp2_with (first | ((with_reducible refine gate_builtin (b := .append) (xs := #[.tmp 31, .tmp 33]) rfl ?_); at_builtin; refine Kd.R_append k40 w.heap.size rfl (.tmp 31) (.tmp 33) 24 40 (.agg #[(.string ⟨#[]⟩), (.int .i64 0), (.int .i64 0)]) 32 rfl Tryz.underlying24 info40 rfl (by decide) (by omega) (.slice Ao26 x5_2.length co26) x5_2 (⟨t352, t353, t354⟩ : S40) [.string t352, .int .i64 t353, .int .i64 t354] (fun k_ => k_ ≠ gb357) (fun _ => False) rfl rfl ?aP (fun _ hk => hk.elim) ?aF ?aO (Below.refl _ _) ?aS ?aL ?_; (case aP => exact k40_mkM _ _ _ (⟨t352, t353, t354⟩ : S40)); (case aF => exact (fun k_ hk => Kd.freshB (g := gb357) kP_ k_ hk)); (case aO => exact (rM_ HO_5 (fun _ hk => hk.2))); (case aS => exact (keep_size (w := w) (g := g) (row := none) z8_8_)); (case aL => have := LMc34.out; omega); intro v366 w37 ho hb hg hat; rw [← Ny365.out] at ho; have HO367 := aM_ (ho); replace BK357 := aM_ (blk_grown (g := gb357) (kR_ BK357) hg (Kd.R_away HO_5.out (fun _ hk => hk.2))); replace HB := aM_ (below_weaken z8_9_ HL.out hb); replace HI0 := aM_ (IsS60.grown z8_10_ hg (IsS60.own_ne HI0.out HO_5.out (by decide))); replace HK := aM_ (KeepBut.trans z8_8_ (KeepBut.of_grown hg g) (Kd.R_base2 HO_5.out)); clear HO_5; clear ho hb hg hat))
      go_roundg k2
      case measure => have := HJ4.out; have := HK2.out; omega
      case rel => exact ⟨(y365), (t363), (t364), H', ⟨z8_11_⟩, ⟨rT1_ HO367⟩, ⟨z8_10_⟩, ⟨z8_8_⟩, ⟨z8_9_⟩⟩
     replace c33 := Bool.eq_false_iff.mpr c33
     subst c33
     replace H := in_ H (show ¬ (false = true) by decide)
     replace H := il_ H; obtain ⟨LMc38, H⟩ := H
     obtain ⟨y368, hy368⟩ : ∃ y_ : List (S40), y_ = (x5_2 ++ [(⟨(⟨#[65, 83, 75]⟩ : ByteArray), 10, (-10)⟩ : S40)]) := ⟨_, rfl⟩
     rw [← hy368] at H
     have Ny368 := aM_ hy368; clear hy368
     have H' := aM_ H
     clear H
     have hnb39 := NB357_0.out
     have hnc39 := NB0_357.out
     have hz40 := cf3_ BK357.out
     go_wp2_with (first | ((with_reducible refine gate_builtin (b := .append) (xs := #[.tmp 31, .tmp 33]) rfl ?_); at_builtin; refine Kd.R_append k40 w.heap.size rfl (.tmp 31) (.tmp 33) 24 40 (.agg #[(.string ⟨#[]⟩), (.int .i64 0), (.int .i64 0)]) 32 rfl Tryz.underlying24 info40 rfl (by decide) (by omega) (.slice Ao26 x5_2.length co26) x5_2 (⟨(⟨#[65, 83, 75]⟩ : ByteArray), 10, (-10)⟩ : S40) [.string (⟨#[65, 83, 75]⟩ : ByteArray), .int .i64 10, .int .i64 (-10)] (fun k_ => k_ ≠ gb357) (fun _ => False) rfl (by first | (go_simp; done) | (go_simp; rfl)) ?aP (fun _ hk => hk.elim) ?aF ?aO (Below.refl _ _) ?aS ?aL ?_; (case aP => exact k40_mkM _ _ _ (⟨(⟨#[65, 83, 75]⟩ : ByteArray), 10, (-10)⟩ : S40)); (case aF => exact (fun k_ hk => Kd.freshB (g := gb357) (o := .cells #[.string (⟨#[65, 83, 75]⟩ : ByteArray), .int .i64 10, .int .i64 (-10)] 40 (0, 0)) z8_12_ k_ hk)); (case aO => exact (by (with_reducible repeat (first | apply rA_ | apply rN_ | apply rD_)); exact Kd.R_mono (Kd.R_far (p := ⟨gb357, 2, none⟩) (Kd.R_far (p := ⟨gb357, 1, none⟩) (Kd.R_far (p := ⟨gb357, 0, none⟩) (Kd.R_mono HO_5.out (fun k_ hk => (⟨hk, hk.2⟩ : _ ∧ k_ ≠ gb357))) (fun _ hk => hk.2) (.string (⟨#[65, 83, 75]⟩ : ByteArray))) (fun _ hk => hk.2) (.int .i64 10)) (fun _ hk => hk.2) (.int .i64 (-10))) (fun _ hk => hk.1.2))); (case aS => exact (keep_size (w := w) (g := g) (row := none) z8_8_)); (case aL => have := LMc38.out; omega); intro v369 w41 ho hb hg hat; rw [← Ny368.out] at ho; have HO370 := aM_ (ho); replace BK357 := aM_ (blk_grown (g := gb357) (o := .cells #[.string (⟨#[65, 83, 75]⟩ : ByteArray), .int .i64 10, .int .i64 (-10)] 40 (0, 0)) z8_12_ hg (Kd.R_away HO_5.out (fun _ hk => hk.2))); replace HB := aM_ (below_weaken z8_9_ HL.out hb); replace HI0 := aM_ (IsS60.grown (show IsS60 w0 (((w32.setCell ⟨gb357, 0, none⟩ (.string (⟨#[65, 83, 75]⟩ : ByteArray))).setCell ⟨gb357, 1, none⟩ (.int .i64 10)).setCell ⟨gb357, 2, none⟩ (.int .i64 (-10))) g s0_0 t363 t364 from by repeat (first | (with_reducible first | exact HI0.out | apply IsS60.alloc | apply IsS60.drewN | apply IsS60.drew | apply IsS60.set_1 | apply IsS60.set_2 | refine IsS60.far ?_ (Aside0.out (by assumption)) _) | exact HI0.out)) hg (IsS60.own_ne HI0.out HO_5.out (by decide))); replace HK := aM_ (KeepBut.trans z8_8_ (KeepBut.of_grown hg g) (Kd.R_base2 HO_5.out)); clear HO_5; clear ho hb hg hat))
     go_roundg k2
     case measure => have := HJ4.out; have := HK2.out; omega
     case rel => exact ⟨(y368), (t363), (t364), H', ⟨z8_11_⟩, ⟨rT1_ HO370⟩, ⟨z8_10_⟩, ⟨z8_8_⟩, ⟨z8_9_⟩⟩

theorem Fa3.calls (k : Nat) (A0 : Option Addr) (c0 : Nat) (l0 : List Int) (r1 : List S74) (r2 : List S40) (w : World) (hr0 : Kd.C (Kd.int .u8) w A0 l0.length l0) (hc0 : l0.length ≤ c0) (h : Fa3.f k l0 = some (r1, r2)) :
 Calls Tryz.prog 4 #[.slice A0 l0.length c0] w fun e w' => ∃ v0_ v1_ : Value, e = .returned (.tuple #[v0_, v1_]) ∧ Kd.R k74 74 w' w.heap.size (fun _ => True) v0_ r1 ∧ Kd.R k40 40 w' w.heap.size (fun _ => True) v1_ r2 ∧ Below w.heap.size w w' := by
 have hu60 := Tryz.underlying60
 have HR0 := aM_ hr0
 have HC0 := aM_ hc0
 clear hr0 hc0
 have HB := aM_ (Below.refl w.heap.size w)
 have H : ((Fah.f k l0 0 0).bind fun bt372 => ((Fai.f k l0 bt372.2.1 bt372.2.2 bt372.1).bind fun bt377 => (some (bt372.1, bt377.1)))) = some (r1, r2) := h
 clear h
 replace H := ob_ H; obtain ⟨⟨t372, t375, t376⟩, A2, H⟩ := H; try dsimp only at H
 replace H := ob_ H; obtain ⟨⟨t377, t380, t381⟩, A3, H⟩ := H; try dsimp only at H
 simp only [Option.some.injEq, Prod.mk.injEq] at H
 obtain ⟨rfl, rfl⟩ := H
 go_enter Tryz.func4, Tryz.ntmps4
 go_wp2_with (first | ((with_reducible refine gD_ 8 ?_); refine bx_ 8 #[.slice A0 l0.length c0, .int .i64 0, .int .u64 0] 60 fun gb371 hg w4 hbox hb => ?_; have HI371 := aM_ ((show IsS60 w w4 gb371 l0 0 0 from ⟨A0, c0, hbox, (by rw [hg]; exact (below_size hB_) : w.heap.size ≤ gb371), HR0.out⟩)); replace HB := bS_ hb; clear hb hbox hg) | ((with_reducible refine gC_ 26 ?_); refine gM_ (some 10) Tryz.func26 #[.pointer (some ⟨gb371, 0, none⟩)] ?_; (with_reducible refine (Fah.calls k gb371 l0 0 0 t372 t375 t376 w _ ?_ ?_ A2.out).mono ?_); exact z8_13_; exact z8_14_; rintro e w5 ⟨v373, rfl, ho0, hi, hb, hk⟩; refine ⟨_, rfl, ?_⟩; have HO374 := aM_ (Kd.R_lower ho0 (below_size z8_14_)); replace HB := aM_ (hb); replace HI371 := aM_ (hi); (try clear hb); (try clear hk); (try clear hi); (try clear ho0); obtain ⟨Ao6, co6, eo6⟩ := rS_ HO374; subst eo6) | ((with_reducible refine gC_ 27 ?_); refine gM_ (some 14) Tryz.func27 #[.pointer (some ⟨gb371, 0, none⟩), .slice Ao6 t372.length co6] ?_; (with_reducible refine (Fai.calls k gb371 l0 t375 t376 _ _ t372 t377 t380 t381 w _ ?_ ?_ ?_ ?_ A3.out).mono ?_); exact z8_13_; exact z8_14_; exact Kd.C_foot_own (IsS60.apart (show IsS60 w _ gb371 l0 t375 t376 from by repeat (first | (with_reducible first | exact HI371.out | apply IsS60.alloc | apply IsS60.drewN | apply IsS60.drew | apply IsS60.set_1 | apply IsS60.set_2) | exact HI371.out)) (rR_ HO374) (by decide)) (fun _ h_ => h_.2); exact (Kd.R_reads' HO374.out).2.1; rintro e w7 ⟨v378, rfl, ho0, hi, hb, hk⟩; refine ⟨_, rfl, ?_⟩; have HO379 := aM_ (Kd.R_lower ho0 (below_size z8_14_)); replace HO374 := aM_ (Kd.R_mono (Kd.R_keep (IsS60.apart (show IsS60 w _ gb371 l0 t375 t376 from by repeat (first | (with_reducible first | exact HI371.out | apply IsS60.alloc | apply IsS60.drewN | apply IsS60.drew | apply IsS60.set_1 | apply IsS60.set_2) | exact HI371.out)) (rR_ HO374) (by decide)) hk (fun _ h => h.2)) (fun _ h => h.1)); replace HB := aM_ (hb); replace HI371 := aM_ (hi); (try clear hb); (try clear hk); (try clear hi); (try clear ho0)))
 go_ret2
 exact ⟨_, _, rT_, (rR_ HO374), by (with_reducible repeat (first | apply rA_ | apply rN_ | apply rD_)); exact HO379.out, z8_14_⟩

theorem Fby.calls (a0_0 : ByteArray) (a0_1 : Int) (g1_0 : Nat) (a1_0 : ByteArray) (r : Bool) (w : World) (hb1_0 : w.heap[g1_0]? = some (.cells #[.string a1_0] 9 (0, 0))) (h : Fby.f a0_0 a0_1 a1_0 = some r) :
 Calls Tryz.prog 68 #[.agg #[.string a0_0, .int .i64 a0_1], .pointer (some ⟨g1_0, 0, none⟩)] w fun e w' => e = .returned (.bool r) ∧ Below w.heap.size w w' := by
 have hu74 := Tryz.underlying74
 have BK38 := aM_ hb1_0
 clear hb1_0
 have HB := aM_ (Below.refl w.heap.size w)
 have H : (some (a0_0.toList == a1_0.toList)) = some r := h
 clear h
 obtain rfl := Option.some.inj H
 go_enter Tryz.func68, Tryz.ntmps68
 go_wp2_with (first | ((with_reducible refine gD_ 2 ?_); refine bx_ 2 #[.string a0_0, .int .i64 a0_1] 74 fun gb382 hg w3 hbox hb => ?_; have BK382 := aM_ (hbox); have GW382 := gW_ w hg; have GE382 := gW_ w hg; have NB38_382 := nB_ g1_0 hg; have NB382_38 := nC_ g1_0 hg; replace BK38 := kB_ BK38 hb; replace HB := bS_ hb; clear hb hbox hg; have hnb4 := NB382_38.out; have hnc4 := NB38_382.out; have hz5 := cf2_ BK382.out; clear BK382; have hz6 := cf1_ BK38.out))
 go_ret
 exact ⟨rT_, hB_⟩

theorem Fae.calls (k : Nat) (A0 : Option Addr) (c0 : Nat) (l0 : List S74) (g1_0 : Nat) (a1_0 : ByteArray) (r : Int) (w : World) (hr0 : Kd.C k74 w A0 l0.length l0) (hc0 : l0.length ≤ c0) (hb1_0 : w.heap[g1_0]? = some (.cells #[.string a1_0] 9 (0, 0))) (h : Fae.f k l0 a1_0 = some r) :
 Calls Tryz.prog 67 #[.slice A0 l0.length c0, .func (.func 68) #[] #[.pointer (some ⟨g1_0, 0, none⟩)]] w fun e w' => e = .returned (.int .i64 r) ∧ Below w.heap.size w w' := by
 have hu74 := Tryz.underlying74
 have HR0 := aM_ hr0
 have HC0 := aM_ hc0
 clear hr0 hc0
 have BK38 := aM_ hb1_0
 clear hb1_0
 have HB := aM_ (Below.refl w.heap.size w)
 have H : (Fae.l0 k l0 (l0.length : Int) 0 a1_0) = some r := h
 clear h
 have H' := aM_ H
 clear H
 go_enter Tryz.func67, Tryz.ntmps67
 go_wp2
 go_loopg [8] k (fun kq v8 w' => ∃ (x8_1 : Int), v8 = .int .i64 x8_1 ∧ Aside0 (Fae.l0 kq l0 (l0.length : Int) x8_1 a1_0 = some r) ∧ Aside0 (kq ≤ k) ∧ Aside0 (w'.heap[g1_0]? = some (.cells #[.string a1_0] 9 (0, 0))) ∧ Aside0 (Below w.heap.size w w'))
 case atStart => exact ⟨(0), z8_0_, H', ⟨Nat.le_refl _⟩, ⟨kP_⟩, ⟨hB_⟩⟩
 case round =>
  clear H'
  obtain ⟨x8_1, rfl, HA, HK1, BK38, HB⟩ := hrel
  cases gk with
  | zero => exact absurd HA.out (by simp [Fae.l0])
  | succ k1 =>
   have H := HA.out
   clear HA
   simp only [Fae.l0] at H
   replace H := iF_ H; obtain ⟨c3b0, H⟩ | ⟨c3b0, H⟩ := H
   ·obtain rfl := Option.some.inj H
    go_wp2
    go_ret
    exact ⟨rT_, hB_⟩
   replace H := ig_ H; obtain ⟨c4b0, H⟩ := H
   replace H := ig_ H; obtain ⟨c5b0, H⟩ := H
   replace H := ob_ H; obtain ⟨t384, A6, H⟩ := H; try dsimp only at H
   have HC7 := aM_ H
   clear H
   obtain ⟨⟨ad383, e383, hx383_0, hx383_1⟩, p383, q383⟩ := at2_ (at_T74 HR0.out x8_1); cases e383
   try replace hx383_0 := hc_ HB hx383_0; try replace hx383_1 := hc_ HB hx383_1
   go_upto_if 16 with (first | ((with_reducible refine gate_via (t := 11) rfl ?_); refine goesV_ (some 16) rfl rfl Tryz.func68 (by kernel_rfl) rfl #[.agg #[.string ((rd_T74 l0 x8_1).f0), .int .i64 ((rd_T74 l0 x8_1).f1)], .pointer (some ⟨g1_0, 0, none⟩)] rfl rfl (by (try simp only [List.map_toArray, List.map_cons, List.map_nil]); first | done | rfl | simp | (simp; rfl)) ?_; (with_reducible refine (Fby.calls ((rd_T74 l0 x8_1).f0) ((rd_T74 l0 x8_1).f1) g1_0 a1_0 t384 _ ?_ A6.out).mono ?_); exact kR_ BK38; rintro e w8 ⟨rfl, hb⟩; refine ⟨_, rfl, ?_⟩; replace BK38 := kB_ BK38 hb; replace HB := bS_ hb; (try clear hb)))
   (try simp only [Act.put, List.setIfInBounds_toArray, List.set_cons_zero, List.set_cons_succ])
   have H := HC7.out
   clear HC7
   by_cases c9 : t384 = true
   ·subst c9
    replace H := ip_ H rfl
    obtain rfl := Option.some.inj H
    go_wp2
    go_ret
    exact ⟨rT_, hB_⟩
   replace c9 := Bool.eq_false_iff.mpr c9
   subst c9
   replace H := in_ H (show ¬ (false = true) by decide)
   have H' := aM_ H
   clear H
   go_wp2
   go_roundg k1
   case measure => have := HK1.out; omega
   case rel => exact ⟨(wrap64 (x8_1 + 1)), z8_0_, H', ⟨by have := HK1.out; omega⟩, ⟨kP_⟩, ⟨hB_⟩⟩

theorem FaN.calls (k : Nat) (A0 : Option Addr) (c0 : Nat) (l0 : List S74) (a1 : ByteArray) (r : Int) (w : World) (hr0 : Kd.C k74 w A0 l0.length l0) (hc0 : l0.length ≤ c0) (h : FaN.f k l0 a1 = some r) :
 Calls Tryz.prog 39 #[.slice A0 l0.length c0, .string a1] w fun e w' => e = .returned (.int .i64 r) ∧ Below w.heap.size w w' := by
 have hu9 := Tryz.underlying9
 have HR0 := aM_ hr0
 have HC0 := aM_ hc0
 clear hr0 hc0
 have HB := aM_ (Below.refl w.heap.size w)
 have H : ((Fae.f k l0 a1).bind fun t386 => (some t386)) = some r := h
 clear h
 replace H := ob_ H; obtain ⟨t386, A3, H⟩ := H; try dsimp only at H
 obtain rfl := Option.some.inj H
 go_enter Tryz.func39, Tryz.ntmps39
 go_wp2_with (first | ((with_reducible refine gD_ 3 ?_); refine bx_ 3 #[.string a1] 9 fun gb385 hg w4 hbox hb => ?_; have BK385 := aM_ (hbox); have GW385 := gW_ w hg; have GE385 := gW_ w hg; replace HB := bS_ hb; clear hb hbox hg) | ((with_reducible refine gC_ 67 ?_); refine gM_ (some 7) Tryz.func67 #[.slice A0 l0.length c0, .func (.func 68) #[] #[.pointer (some ⟨gb385, 0, none⟩)]] ?_; (with_reducible refine (Fae.calls k _ _ l0 gb385 a1 t386 _ ?_ ?_ ?_ A3.out).mono ?_); exact (by repeat (first | exact (Kd.C_below HR0.out HB.out) | (with_reducible first | apply cA_ | apply cN_ | apply cD_))); exact HC0.out; exact kR_ BK385; rintro e w5 ⟨rfl, hb⟩; refine ⟨_, rfl, ?_⟩; replace BK385 := kB_ BK385 hb; replace HB := bS_ hb; (try clear hb)))
 go_ret
 exact ⟨rT_, hB_⟩

theorem Fbv.calls (a0 a1 a2 : Int) (r : Bool) (w : World) (h : Fbv.f a0 a1 a2 = some r) :
 Calls Tryz.prog 78 #[.int .i64 a0, .int .i64 a1, .int .i64 a2] w fun e w' => e = .returned (.bool r) ∧ Drawn0 w w' := by
 have H : (if a0 ≥ a1 then (some (decide (a0 ≤ a2))) else (some false)) = some r := h
 clear h
 by_cases c4 : a0 ≥ a1
 ·rw [if_pos c4] at H
  have c4b0 : decide (a1 ≤ a0) = true := decide_eq_true c4
  clear c4
  obtain rfl := Option.some.inj H
  go_enter Tryz.func78, Tryz.ntmps78
  go_wp2
  go_ret
  exact ⟨z8_0_, z8_1_⟩
 rw [if_neg c4] at H
 have c4b0 : decide (a1 ≤ a0) = false := decide_eq_false c4
 clear c4
 obtain rfl := Option.some.inj H
 go_enter Tryz.func78, Tryz.ntmps78
 go_wp2
 go_ret
 exact ⟨z8_0_, z8_1_⟩

set_option maxHeartbeats 1000000 in
theorem Fbt.calls (a0 : ByteArray) (a1 r : Int) (w : World) (h : Fbt.f a0 a1 = some r) :
 Calls Tryz.prog 102 #[.string a0, .int .u8 a1] w fun e w' => e = .returned (.int .i64 r) ∧ Drawn0 w w' := by
 obtain rfl := Option.some.inj h
 go_enter Tryz.func102, Tryz.ntmps102
 go_wp2
 rw [run_callFunc_extern Tryz.func109 (by kernel_rfl) (by kernel_rfl) (by kernel_rfl) (e := Extern.BytealgIndexByte.indexByte) (by kernel_rfl), Lib.run_indexByteString]
 simp only [Result.andThen]
 rw [Oper.upon_value]
 go_wp2
 go_ret
 exact ⟨rfl, Drawn0.refl _⟩

theorem Fbx.calls (a0 : ByteArray) (a1 r : Int) (w : World) (h : Fbx.f a0 a1 = some r) :
 Calls Tryz.prog 88 #[.string a0, .int .u8 a1] w fun e w' => e = .returned (.int .i64 r) ∧ Drawn0 w w' := by
 have H : ((Fbt.f a0 a1).bind fun t387 => (some t387)) = some r := h
 clear h
 replace H := ob_ H; obtain ⟨t387, A3, H⟩ := H; try dsimp only at H
 obtain rfl := Option.some.inj H
 go_enter Tryz.func88, Tryz.ntmps88
 go_wp2_with (first | ((with_reducible refine gC_ 102 ?_); refine gM_ (some 7) Tryz.func102 #[.string a0, .int .u8 a1] ?_; (with_reducible refine (Fbt.calls a0 a1 t387 _ A3.out).mono ?_); rintro e w' ⟨rfl, ⟨nd, rfl⟩⟩; refine ⟨_, rfl, ?_⟩))
 go_ret
 exact ⟨z8_0_, z8_1_⟩

theorem FaM.calls (k : Nat) (a0 a1 : ByteArray) (r : Bool) (w : World) (h : FaM.f k a0 a1 = some r) :
 Calls Tryz.prog 79 #[.string a0, .string a1] w fun e w' => e = .returned (.bool r) ∧ Drawn0 w w' := by
 have H : (FaM.l0 k a0 a1 (a0.size : Int) 0) = some r := h
 clear h
 have H' := aM_ H
 clear H
 go_enter Tryz.func79, Tryz.ntmps79
 go_wp2
 go_loopg [8] k (fun kq v8 w' => ∃ (x8_1 : Int), v8 = .int .i64 x8_1 ∧ Aside0 (FaM.l0 kq a0 a1 (a0.size : Int) x8_1 = some r) ∧ Aside0 (kq ≤ k) ∧ Drawn0 w w')
 case atStart => exact ⟨(0), z8_0_, H', ⟨Nat.le_refl _⟩, z8_1_⟩
 case round =>
  clear H'
  obtain ⟨x8_1, rfl, HA, HK1, ⟨m1, rfl⟩⟩ := hrel
  cases gk with
  | zero => exact absurd HA.out (by simp [FaM.l0])
  | succ k1 =>
   have H := HA.out
   clear HA
   simp only [FaM.l0] at H
   replace H := iF_ H; obtain ⟨c3b0, H⟩ | ⟨c3b0, H⟩ := H
   ·obtain rfl := Option.some.inj H
    go_wp2
    go_ret
    exact ⟨z8_0_, z8_1_⟩
   replace H := ig_ H; obtain ⟨c4b0, H⟩ := H
   replace H := ig_ H; obtain ⟨c5b0, H⟩ := H
   replace H := ob_ H; obtain ⟨t388, A7, H⟩ := H; try dsimp only at H
   have HC8 := aM_ H
   clear H
   have p6 : 0 ≤ (x8_1 : Int) := ode_
   have q6 : x8_1 < (a0.size : Int) := ode_
   have hx6 := bt_at a0 x8_1
   replace p6 := eq_true p6
   replace q6 := eq_true q6
   go_upto_if 16 with (first | ((with_reducible refine gC_ 88 ?_); refine gM_ (some 15) Tryz.func88 #[.string a1, .int .u8 (bt a0 x8_1)] ?_; (with_reducible refine (Fbx.calls a1 (bt a0 x8_1) t388 _ A7.out).mono ?_); rintro e w' ⟨rfl, ⟨nd, rfl⟩⟩; refine ⟨_, rfl, ?_⟩))
   (try simp only [Act.put, List.setIfInBounds_toArray, List.set_cons_zero, List.set_cons_succ])
   have H := HC8.out
   clear HC8
   replace H := iT_ H; obtain ⟨c9b0, H⟩ | ⟨c9b0, H⟩ := H
   ·(first | rw [c9b0] | (simp only [i64_w, i32_w]; rw [c9b0]) | skip)
    obtain rfl := Option.some.inj H
    go_wp2
    go_ret
    exact ⟨z8_0_, z8_1_⟩
   (first | rw [c9b0] | (simp only [i64_w, i32_w]; rw [c9b0]) | skip)
   have H' := aM_ H
   clear H
   go_wp2
   go_roundg k1
   case measure => have := HK1.out; omega
   case rel => exact ⟨(wrap64 (x8_1 + 1)), z8_0_, H', ⟨by have := HK1.out; omega⟩, z8_1_⟩

theorem Fa1.calls (k : Nat) (a0 a1 : ByteArray) (r : Bool) (w : World) (h : Fa1.f k a0 a1 = some r) :
 Calls Tryz.prog 56 #[.string a0, .string a1] w fun e w' => e = .returned (.bool r) ∧ Drawn0 w w' := by
 have H : ((Fbv.f (a0.size : Int) 1 8).bind fun t389 => (if t389 = true then ((FaM.f k a0 a1).bind fun t390 => (some t390)) else (some false))) = some r := h
 clear h
 replace H := ob_ H; obtain ⟨t389, A3, H⟩ := H; try dsimp only at H
 by_cases c4 : t389 = true
 rotate_left
 ·replace c4 := Bool.eq_false_iff.mpr c4
  subst c4
  replace H := in_ H (show ¬ (false = true) by decide)
  obtain rfl := Option.some.inj H
  go_enter Tryz.func56, Tryz.ntmps56
  go_wp2_with (first | ((with_reducible refine gC_ 78 ?_); refine gM_ (some 7) Tryz.func78 #[.int .i64 (a0.size : Int), .int .i64 1, .int .i64 8] ?_; (with_reducible refine (Fbv.calls (a0.size : Int) 1 8 false _ A3.out).mono ?_); rintro e w' ⟨rfl, ⟨nd, rfl⟩⟩; refine ⟨_, rfl, ?_⟩))
  go_ret
  exact ⟨z8_0_, z8_1_⟩
 subst c4
 replace H := ip_ H rfl
 replace H := ob_ H; obtain ⟨t390, A5, H⟩ := H; try dsimp only at H
 obtain rfl := Option.some.inj H
 go_enter Tryz.func56, Tryz.ntmps56
 go_wp2_with (first | ((with_reducible refine gC_ 78 ?_); refine gM_ (some 7) Tryz.func78 #[.int .i64 (a0.size : Int), .int .i64 1, .int .i64 8] ?_; (with_reducible refine (Fbv.calls (a0.size : Int) 1 8 true _ A3.out).mono ?_); rintro e w' ⟨rfl, ⟨nd, rfl⟩⟩; refine ⟨_, rfl, ?_⟩) | (go_at_call 79; (with_reducible refine (FaM.calls k a0 a1 t390 _ A5.out).mono ?_); rintro e w' ⟨rfl, ⟨nd, rfl⟩⟩))
 go_ret
 exact ⟨z8_0_, z8_1_⟩

theorem Fbd.calls (a0 : Int) (r : Bool) (w : World) (h : Fbd.f a0 = some r) :
 Calls Tryz.prog 57 #[.int .i64 a0] w fun e w' => e = .returned (.bool r) ∧ Drawn0 w w' := by
 have H : ((Fbv.f a0 (-90) 90).bind fun t391 => (some t391)) = some r := h
 clear h
 replace H := ob_ H; obtain ⟨t391, A2, H⟩ := H; try dsimp only at H
 obtain rfl := Option.some.inj H
 go_enter Tryz.func57, Tryz.ntmps57
 go_wp2_with (first | ((with_reducible refine gC_ 78 ?_); refine gM_ (some 4) Tryz.func78 #[.int .i64 a0, .int .i64 (-90), .int .i64 90] ?_; (with_reducible refine (Fbv.calls a0 (-90) 90 t391 _ A2.out).mono ?_); rintro e w' ⟨rfl, ⟨nd, rfl⟩⟩; refine ⟨_, rfl, ?_⟩))
 go_ret
 exact ⟨z8_0_, z8_1_⟩

end Go.Proofs.YtbfkpgmdbafmhaaGreat.PFnVerbRuns
