/- Printed for this claim: functions of the program as Lean functions, and that the calls answer so. -/
import Derived.Test.YtbfkpgmdbafmhaaGreatPFnVerbRunsx0
import Derived.Test.YtbfkpgmdbafmhaaGreatPFnVerbRunsx8
import Derived.Test.YtbfkpgmdbafmhaaGreatPFnVerbRunsxD0
import Derived.Test.YtbfkpgmdbafmhaaGreatPFnVerbRunsxD1
namespace Go.Proofs.YtbfkpgmdbafmhaaGreat.PFnVerbRuns
open Go.RowKit Go.Proofs.YtbfkpgmdbafmhaaGreatW.PrintWords Go.Proofs.YtbfkpgmdbafmhaaGreatW.PrintLast Go.Proofs.YtbfkpgmdbafmhaaGreatW.PrintMore
theorem z10_0_ {p : Prop} (h : p := by first | rfl | (simp; done) | (simp [*]; done)) : p := h
theorem z10_1_ {p : Prop} (h : p := by (try simp only [List.map_toArray, List.map_cons, List.map_nil]); first | done | rfl | simp | (simp; rfl)) : p := h
set_option maxHeartbeats 8000000
set_option maxRecDepth 100000
attribute [local go_sem] max2_int min2_int max_two min_two max_three min_three max_four min_four isSome_setCell   -- for this text's walks alone
set_option linter.unusedVariables false
set_option linter.unusedSimpArgs false

theorem Fa6.calls (k : Nat) (a0 : ByteArray) (r : Bool) (w : World) (h : Fa6.f k a0 = some r) :
 Calls Tryz.prog 34 #[.string a0] w fun e w' => e = .returned (.bool r) ∧ Drawn0 w w' := by
 have H : ((Fa1.f k a0 (⟨#[65, 66, 67, 68, 69, 70, 71, 72, 73, 74, 75, 76, 77, 78, 79, 80, 81, 82, 83, 84, 85, 86, 87, 88, 89, 90]⟩ : ByteArray)).bind fun t407 => (some t407)) = some r := h
 clear h
 replace H := ob_ H; obtain ⟨t407, A2, H⟩ := H; try dsimp only at H
 obtain rfl := Option.some.inj H
 go_enter Tryz.func34, Tryz.ntmps34
 go_wp2_with (first | ((with_reducible refine gC_ 56 ?_); refine gM_ (some 4) Tryz.func56 #[.string a0, .string (⟨#[65, 66, 67, 68, 69, 70, 71, 72, 73, 74, 75, 76, 77, 78, 79, 80, 81, 82, 83, 84, 85, 86, 87, 88, 89, 90]⟩ : ByteArray)] ?_; (with_reducible refine (Fa1.calls k a0 (⟨#[65, 66, 67, 68, 69, 70, 71, 72, 73, 74, 75, 76, 77, 78, 79, 80, 81, 82, 83, 84, 85, 86, 87, 88, 89, 90]⟩ : ByteArray) t407 _ A2.out).mono ?_); rintro e w' ⟨rfl, ⟨nd, rfl⟩⟩; refine ⟨_, rfl, ?_⟩))
 go_ret
 exact ⟨z10_0_, by repeat (first | exact Drawn0.refl _ | apply Drawn0.step)⟩

theorem FaW.calls (k : Nat) (a0_0 : ByteArray) (a0_1 a0_2 : Int) (r : Bool) (w : World) (h : FaW.f k a0_0 a0_1 a0_2 = some r) :
 Calls Tryz.prog 44 #[.agg #[.string a0_0, .int .i64 a0_1, .int .i64 a0_2]] w fun e w' => e = .returned (.bool r) ∧ Below w.heap.size w w' := by
 have hu40 := Tryz.underlying40
 have HB := aM_ (Below.refl w.heap.size w)
 have H : ((Fa6.f k a0_0).bind fun t409 => (if t409 = true then ((Fbd.f a0_1).bind fun t410 => (if t410 = true then ((Fbd.f a0_2).bind fun t411 => (if t411 = true then (some (a0_1 != a0_2)) else (some false))) else (some false))) else (some false))) = some r := h
 clear h
 replace H := ob_ H; obtain ⟨t409, A2, H⟩ := H; try dsimp only at H
 by_cases c3 : t409 = true
 rotate_left
 ·replace c3 := Bool.eq_false_iff.mpr c3
  subst c3
  replace H := in_ H (show ¬ (false = true) by decide)
  obtain rfl := Option.some.inj H
  go_enter Tryz.func44, Tryz.ntmps44
  go_wp2_with (first | ((with_reducible refine gD_ 1 ?_); refine bx_ 1 #[.string a0_0, .int .i64 a0_1, .int .i64 a0_2] 40 fun gb408 hg w14 hbox hb => ?_; have BK408 := aM_ (hbox); have GW408 := gW_ w hg; have GE408 := gW_ w hg; replace HB := bS_ hb; clear hb hbox hg; have hz15 := cf3_ BK408.out; clear BK408) | ((with_reducible refine gC_ 34 ?_); refine gM_ (some 5) Tryz.func34 #[.string a0_0] ?_; (with_reducible refine (Fa6.calls k a0_0 false _ A2.out).mono ?_); rintro e w' ⟨rfl, ⟨nd, rfl⟩⟩; refine ⟨_, rfl, ?_⟩))
  go_ret
  exact ⟨rT_, hB_⟩
 subst c3
 replace H := ip_ H rfl
 replace H := ob_ H; obtain ⟨t410, A4, H⟩ := H; try dsimp only at H
 by_cases c5 : t410 = true
 rotate_left
 ·replace c5 := Bool.eq_false_iff.mpr c5
  subst c5
  replace H := in_ H (show ¬ (false = true) by decide)
  obtain rfl := Option.some.inj H
  go_enter Tryz.func44, Tryz.ntmps44
  go_wp2_with (first | ((with_reducible refine gD_ 1 ?_); refine bx_ 1 #[.string a0_0, .int .i64 a0_1, .int .i64 a0_2] 40 fun gb408 hg w12 hbox hb => ?_; have BK408 := aM_ (hbox); have GW408 := gW_ w hg; have GE408 := gW_ w hg; replace HB := bS_ hb; clear hb hbox hg; have hz13 := cf3_ BK408.out) | ((with_reducible refine gC_ 34 ?_); refine gM_ (some 5) Tryz.func34 #[.string a0_0] ?_; (with_reducible refine (Fa6.calls k a0_0 true _ A2.out).mono ?_); rintro e w' ⟨rfl, ⟨nd, rfl⟩⟩; refine ⟨_, rfl, ?_⟩; clear BK408) | (go_at_call 57; (with_reducible refine (Fbd.calls a0_1 false _ A4.out).mono ?_); rintro e w' ⟨rfl, ⟨nd, rfl⟩⟩))
  go_ret
  exact ⟨rT_, hB_⟩
 subst c5
 replace H := ip_ H rfl
 replace H := ob_ H; obtain ⟨t411, A6, H⟩ := H; try dsimp only at H
 by_cases c7 : t411 = true
 ·subst c7
  replace H := ip_ H rfl
  obtain rfl := Option.some.inj H
  go_enter Tryz.func44, Tryz.ntmps44
  go_wp2_with (first | ((with_reducible refine gD_ 1 ?_); refine bx_ 1 #[.string a0_0, .int .i64 a0_1, .int .i64 a0_2] 40 fun gb408 hg w8 hbox hb => ?_; have BK408 := aM_ (hbox); have GW408 := gW_ w hg; have GE408 := gW_ w hg; replace HB := bS_ hb; clear hb hbox hg; have hz9 := cf3_ BK408.out) | ((with_reducible refine gC_ 34 ?_); refine gM_ (some 5) Tryz.func34 #[.string a0_0] ?_; (with_reducible refine (Fa6.calls k a0_0 true _ A2.out).mono ?_); rintro e w' ⟨rfl, ⟨nd, rfl⟩⟩; refine ⟨_, rfl, ?_⟩) | (go_at_call 57; (with_reducible refine (Fbd.calls a0_1 true _ A4.out).mono ?_); rintro e w' ⟨rfl, ⟨nd, rfl⟩⟩) | (go_at_call 57; (with_reducible refine (Fbd.calls a0_2 true _ A6.out).mono ?_); rintro e w' ⟨rfl, ⟨nd, rfl⟩⟩))
  go_ret
  exact ⟨rT_, hB_⟩
 replace c7 := Bool.eq_false_iff.mpr c7
 subst c7
 replace H := in_ H (show ¬ (false = true) by decide)
 obtain rfl := Option.some.inj H
 go_enter Tryz.func44, Tryz.ntmps44
 go_wp2_with (first | ((with_reducible refine gD_ 1 ?_); refine bx_ 1 #[.string a0_0, .int .i64 a0_1, .int .i64 a0_2] 40 fun gb408 hg w10 hbox hb => ?_; have BK408 := aM_ (hbox); have GW408 := gW_ w hg; have GE408 := gW_ w hg; replace HB := bS_ hb; clear hb hbox hg; have hz11 := cf3_ BK408.out) | ((with_reducible refine gC_ 34 ?_); refine gM_ (some 5) Tryz.func34 #[.string a0_0] ?_; (with_reducible refine (Fa6.calls k a0_0 true _ A2.out).mono ?_); rintro e w' ⟨rfl, ⟨nd, rfl⟩⟩; refine ⟨_, rfl, ?_⟩) | (go_at_call 57; (with_reducible refine (Fbd.calls a0_1 true _ A4.out).mono ?_); rintro e w' ⟨rfl, ⟨nd, rfl⟩⟩; clear BK408) | (go_at_call 57; (with_reducible refine (Fbd.calls a0_2 false _ A6.out).mono ?_); rintro e w' ⟨rfl, ⟨nd, rfl⟩⟩))
 go_ret
 exact ⟨rT_, hB_⟩

theorem FaO.calls (k : Nat) (a0_0 : ByteArray) (a0_1 a0_2 : Int) (g1_0 : Nat)  (r : Bool) (w : World) (hb1_0 : w.heap[g1_0]? = some (.cells #[.func (.func 44) #[] #[]] 79 (0, 0))) (h : FaO.f k a0_0 a0_1 a0_2 = some r) :
 Calls Tryz.prog 81 #[.agg #[.string a0_0, .int .i64 a0_1, .int .i64 a0_2], .pointer (some ⟨g1_0, 0, none⟩)] w fun e w' => e = .returned (.bool r) ∧ Below w.heap.size w w' := by
 have hu40 := Tryz.underlying40
 have BK38 := aM_ hb1_0
 clear hb1_0
 have HB := aM_ (Below.refl w.heap.size w)
 have H : ((FaW.f k a0_0 a0_1 a0_2).bind fun t413 => (some (!t413))) = some r := h
 clear h
 replace H := ob_ H; obtain ⟨t413, A3, H⟩ := H; try dsimp only at H
 obtain rfl := Option.some.inj H
 go_enter Tryz.func81, Tryz.ntmps81
 go_wp2_with (first | ((with_reducible refine gD_ 2 ?_); refine bx_ 2 #[.string a0_0, .int .i64 a0_1, .int .i64 a0_2] 40 fun gb412 hg w4 hbox hb => ?_; have BK412 := aM_ (hbox); have GW412 := gW_ w hg; have GE412 := gW_ w hg; have NB38_412 := nB_ g1_0 hg; have NB412_38 := nC_ g1_0 hg; replace BK38 := kB_ BK38 hb; replace HB := bS_ hb; clear hb hbox hg; have hnb5 := NB38_412.out; have hnc5 := NB412_38.out; have hz6 := cf1_ BK38.out; clear BK38; have hz7 := cf3_ BK412.out; clear BK412) | ((with_reducible refine gate_via (t := 4) rfl ?_); refine goesV_ (some 6) rfl rfl Tryz.func44 (by kernel_rfl) rfl #[.agg #[.string a0_0, .int .i64 a0_1, .int .i64 a0_2]] rfl rfl z10_1_ ?_; (with_reducible refine (FaW.calls k a0_0 a0_1 a0_2 t413 _ A3.out).mono ?_); rintro e w8 ⟨rfl, hb⟩; refine ⟨_, rfl, ?_⟩; replace HB := bS_ hb; (try clear hb)))
 go_ret
 exact ⟨rT_, hB_⟩

theorem Fac.calls (k : Nat) (A0 : Option Addr) (c0 : Nat) (l0 : List S40) (g1_0 : Nat)  (r : Int) (w : World) (hr0 : Kd.C k40 w A0 l0.length l0) (hc0 : l0.length ≤ c0) (hb1_0 : w.heap[g1_0]? = some (.cells #[.func (.func 44) #[] #[]] 79 (0, 0))) (h : Fac.f k l0 = some r) :
 Calls Tryz.prog 89 #[.slice A0 l0.length c0, .func (.func 81) #[] #[.pointer (some ⟨g1_0, 0, none⟩)]] w fun e w' => e = .returned (.int .i64 r) ∧ Below w.heap.size w w' := by
 have hu40 := Tryz.underlying40
 have HR0 := aM_ hr0
 have HC0 := aM_ hc0
 clear hr0 hc0
 have BK38 := aM_ hb1_0
 clear hb1_0
 have HB := aM_ (Below.refl w.heap.size w)
 have H : (Fac.l0 k l0 (l0.length : Int) 0) = some r := h
 clear h
 have H' := aM_ H
 clear H
 go_enter Tryz.func89, Tryz.ntmps89
 go_wp2
 go_loopg [8] k (fun kq v8 w' => ∃ (x8_1 : Int), v8 = .int .i64 x8_1 ∧ Aside0 (Fac.l0 kq l0 (l0.length : Int) x8_1 = some r) ∧ Aside0 (kq ≤ k) ∧ Aside0 (w'.heap[g1_0]? = some (.cells #[(.func (.func 44) #[] #[])] 79 (0, 0))) ∧ Aside0 (Below w.heap.size w w'))
 case atStart => exact ⟨(0), z10_0_, H', ⟨Nat.le_refl _⟩, ⟨kP_⟩, ⟨hB_⟩⟩
 case round =>
  clear H'
  obtain ⟨x8_1, rfl, HA, HK1, BK38, HB⟩ := hrel
  cases gk with
  | zero => exact absurd HA.out (by simp [Fac.l0])
  | succ k1 =>
   have H := HA.out
   clear HA
   simp only [Fac.l0] at H
   replace H := iF_ H; obtain ⟨c3b0, H⟩ | ⟨c3b0, H⟩ := H
   ·obtain rfl := Option.some.inj H
    go_wp2
    go_ret
    exact ⟨rT_, hB_⟩
   replace H := ig_ H; obtain ⟨c4b0, H⟩ := H
   replace H := ig_ H; obtain ⟨c5b0, H⟩ := H
   replace H := ob_ H; obtain ⟨t415, A6, H⟩ := H; try dsimp only at H
   have HC7 := aM_ H
   clear H
   obtain ⟨⟨ad414, e414, hx414_0, hx414_1, hx414_2⟩, p414, q414⟩ := at2_ (at_T40 HR0.out x8_1); cases e414
   try replace hx414_0 := hc_ HB hx414_0; try replace hx414_1 := hc_ HB hx414_1; try replace hx414_2 := hc_ HB hx414_2
   go_upto_if 16 with (first | ((with_reducible refine gate_via (t := 11) rfl ?_); refine goesV_ (some 16) rfl rfl Tryz.func81 (by kernel_rfl) rfl #[.agg #[.string ((rd_T40 l0 x8_1).f0), .int .i64 ((rd_T40 l0 x8_1).f1), .int .i64 ((rd_T40 l0 x8_1).f2)], .pointer (some ⟨g1_0, 0, none⟩)] rfl rfl z10_1_ ?_; (with_reducible refine (FaO.calls k1 ((rd_T40 l0 x8_1).f0) ((rd_T40 l0 x8_1).f1) ((rd_T40 l0 x8_1).f2) g1_0 t415 _ ?_ A6.out).mono ?_); exact kR_ BK38; rintro e w8 ⟨rfl, hb⟩; refine ⟨_, rfl, ?_⟩; replace BK38 := kB_ BK38 hb; replace HB := bS_ hb; (try clear hb)))
   (try simp only [Act.put, List.setIfInBounds_toArray, List.set_cons_zero, List.set_cons_succ])
   have H := HC7.out
   clear HC7
   by_cases c9 : t415 = true
   ·subst c9
    replace H := ip_ H rfl
    obtain rfl := Option.some.inj H
    go_wp2
    go_ret
    exact ⟨rT_, hB_⟩
   replace c9 := Bool.eq_false_iff.mpr c9
   subst c9
   replace H := in_ H (show ¬ (false = true) by decide)
   have H' := aM_ H
   clear H
   go_wp2
   go_roundg k1
   case measure => have := HK1.out; omega
   case rel => exact ⟨(wrap64 (x8_1 + 1)), z10_0_, H', ⟨by have := HK1.out; omega⟩, ⟨kP_⟩, ⟨hB_⟩⟩

theorem Fao.calls (k : Nat) (A0 : Option Addr) (c0 : Nat) (l0 : List S40) (g1_0 : Nat)  (r : Bool) (w : World) (hr0 : Kd.C k40 w A0 l0.length l0) (hc0 : l0.length ≤ c0) (hb1_0 : w.heap[g1_0]? = some (.cells #[.func (.func 44) #[] #[]] 79 (0, 0))) (h : Fao.f k l0 = some r) :
 Calls Tryz.prog 80 #[.slice A0 l0.length c0, .func (.func 81) #[] #[.pointer (some ⟨g1_0, 0, none⟩)]] w fun e w' => e = .returned (.bool r) ∧ Below w.heap.size w w' := by
 have HR0 := aM_ hr0
 have HC0 := aM_ hc0
 clear hr0 hc0
 have BK38 := aM_ hb1_0
 clear hb1_0
 have HB := aM_ (Below.refl w.heap.size w)
 have H : ((Fac.f k l0).bind fun t416 => (some (decide (t416 ≥ 0)))) = some r := h
 clear h
 replace H := ob_ H; obtain ⟨t416, A3, H⟩ := H; try dsimp only at H
 obtain rfl := Option.some.inj H
 go_enter Tryz.func80, Tryz.ntmps80
 go_wp2_with (first | ((with_reducible refine gC_ 89 ?_); refine gM_ (some 7) Tryz.func89 #[.slice A0 l0.length c0, .func (.func 81) #[] #[.pointer (some ⟨g1_0, 0, none⟩)]] ?_; (with_reducible refine (Fac.calls k _ _ l0 g1_0 t416 _ ?_ ?_ ?_ A3.out).mono ?_); exact cC_ HR0; exact HC0.out; exact kR_ BK38; rintro e w4 ⟨rfl, hb⟩; refine ⟨_, rfl, ?_⟩; replace BK38 := kB_ BK38 hb; replace HB := bS_ hb; (try clear hb)))
 go_ret
 exact ⟨rT_, hB_⟩

theorem FaP.calls (k : Nat) (A0 : Option Addr) (c0 : Nat) (l0 : List S40)  (r : Bool) (w : World) (hr0 : Kd.C k40 w A0 l0.length l0) (hc0 : l0.length ≤ c0) (h : FaP.f k l0 = some r) :
 Calls Tryz.prog 58 #[.slice A0 l0.length c0, .func (.func 44) #[] #[]] w fun e w' => e = .returned (.bool r) ∧ Below w.heap.size w w' := by
 have hu79 := Tryz.underlying79
 have HR0 := aM_ hr0
 have HC0 := aM_ hc0
 clear hr0 hc0
 have HB := aM_ (Below.refl w.heap.size w)
 have H : ((Fao.f k l0).bind fun t418 => (some (!t418))) = some r := h
 clear h
 replace H := ob_ H; obtain ⟨t418, A3, H⟩ := H; try dsimp only at H
 obtain rfl := Option.some.inj H
 go_enter Tryz.func58, Tryz.ntmps58
 go_wp2_with (first | ((with_reducible refine gD_ 3 ?_); refine bx_ 3 #[.func (.func 44) #[] #[]] 79 fun gb417 hg w4 hbox hb => ?_; have BK417 := aM_ (hbox); have GW417 := gW_ w hg; have GE417 := gW_ w hg; replace HB := bS_ hb; clear hb hbox hg) | ((with_reducible refine gC_ 80 ?_); refine gM_ (some 7) Tryz.func80 #[.slice A0 l0.length c0, .func (.func 81) #[] #[.pointer (some ⟨gb417, 0, none⟩)]] ?_; (with_reducible refine (Fao.calls k _ _ l0 gb417 t418 _ ?_ ?_ ?_ A3.out).mono ?_); exact (by repeat (first | exact (Kd.C_below HR0.out HB.out) | (with_reducible first | apply cA_ | apply cN_ | apply cD_))); exact HC0.out; exact kR_ BK417; rintro e w5 ⟨rfl, hb⟩; refine ⟨_, rfl, ?_⟩; replace BK417 := kB_ BK417 hb; replace HB := bS_ hb; (try clear hb)))
 go_ret
 exact ⟨rT_, hB_⟩

theorem FaR.calls (k : Nat) (A0 : Option Addr) (c0 : Nat) (l0 : List S40) (r : Bool) (w : World) (hr0 : Kd.C k40 w A0 l0.length l0) (hc0 : l0.length ≤ c0) (h : FaR.f k l0 = some r) :
 Calls Tryz.prog 29 #[.slice A0 l0.length c0] w fun e w' => e = .returned (.bool r) ∧ Below w.heap.size w w' := by
 have HR0 := aM_ hr0
 have HC0 := aM_ hc0
 clear hr0 hc0
 have HB := aM_ (Below.refl w.heap.size w)
 have H : (if (l0.length : Int) ≤ 20 then ((FaP.f k l0).bind fun t419 => (some t419)) else (some false)) = some r := h
 clear h
 by_cases c2 : (l0.length : Int) ≤ 20
 rotate_left
 ·rw [if_neg c2] at H
  have c2b0 : decide ((l0.length : Int) ≤ 20) = false := decide_eq_false c2
  have c2b1 : decide (l0.length ≤ 20) = false := decide_eq_false (by omega)
  clear c2
  obtain rfl := Option.some.inj H
  go_enter Tryz.func29, Tryz.ntmps29
  go_wp2
  go_ret
  exact ⟨rT_, hB_⟩
 rw [if_pos c2] at H
 have c2b0 : decide ((l0.length : Int) ≤ 20) = true := decide_eq_true c2
 have c2b1 : decide (l0.length ≤ 20) = true := decide_eq_true (by omega)
 clear c2
 replace H := ob_ H; obtain ⟨t419, A3, H⟩ := H; try dsimp only at H
 obtain rfl := Option.some.inj H
 go_enter Tryz.func29, Tryz.ntmps29
 go_wp2_with (first | (go_at_call 58; (with_reducible refine (FaP.calls k _ _ l0  t419 _ ?_ ?_ A3.out).mono ?_); exact cC_ HR0; exact HC0.out; rintro e w4 ⟨rfl, hb⟩; replace HB := bS_ hb; (try clear hb)))
 go_ret
 exact ⟨rT_, hB_⟩

theorem Fbj.calls (a0 a1 r : Int) (w : World) (h : Fbj.f a0 a1 = some r) :
 Calls Tryz.prog 41 #[.int .i64 a0, .int .i64 a1] w fun e w' => e = .returned (.int .i64 r) ∧ Below w.heap.size w w' := by
 have HB := aM_ (Below.refl w.heap.size w)
 have H : (some (mx (wrap64 (a0 - a1)) (wrap64 (a1 - a0)))) = some r := h
 clear h
 obtain ⟨ji3, hji3⟩ : ∃ j_ : Int, (mx (wrap64 (a0 - a1)) (wrap64 (a1 - a0))) = j_ := ⟨_, rfl⟩
 replace H : (some ji3) = some r := by first | (rw [hji3] at H; exact H) | (simp only [hji3] at H ⊢; exact H)
 have hji3_ : (if (wrap64 (a0 - a1)) < (wrap64 (a1 - a0)) then (wrap64 (a1 - a0)) else (wrap64 (a0 - a1))) = ji3 := hji3
 obtain rfl := Option.some.inj H
 go_enter Tryz.func41, Tryz.ntmps41
 go_wp2
 go_ret
 exact ⟨by first | rfl | (simp [errW_none, errW_some] <;> rfl) | (simp only [← hji3]; first | rfl | (simp [errW_none, errW_some] <;> rfl)) | (simp [*, errW_none, errW_some] <;> rfl), hB_⟩

theorem Far.calls (k : Nat) (A0 : Option Addr) (c0 : Nat) (l0 : List S74) (a1 r1 : Int) (r2 : List ByteArray) (w : World) (hr0 : Kd.C k74 w A0 l0.length l0) (hc0 : l0.length ≤ c0) (h : Far.f k l0 a1 = some (r1, r2)) :
 Calls Tryz.prog 82 #[.slice A0 l0.length c0, .int .i64 a1] w fun e w' => ∃ v1_ : Value, e = .returned (.tuple #[.int .i64 r1, v1_]) ∧ Kd.R Kd.string 9 w' w.heap.size (fun _ => True) v1_ r2 ∧ Below w.heap.size w w' := by
 have hu74 := Tryz.underlying74
 have HR0 := aM_ hr0
 have HC0 := aM_ hc0
 clear hr0 hc0
 have HB := aM_ (Below.refl w.heap.size w)
 have H : (Far.l0 k a1 181 ([] : List ByteArray) l0 (l0.length : Int) 0) = some (r1, r2) := h
 clear h
 have H' := aM_ H
 clear H
 go_enter Tryz.func82, Tryz.ntmps82
 go_wp2
 go_loopg [6, 7, 13] k (fun kq v6 v7 v13 w' => ∃ (x6_1 : Int) (x7_1 : List ByteArray) (x13_1 : Int), v6 = .int .i64 x6_1 ∧ v13 = .int .i64 x13_1 ∧ Aside0 (Far.l0 kq a1 x6_1 x7_1 l0 (l0.length : Int) x13_1 = some (r1, r2)) ∧ Aside0 (kq ≤ k) ∧ Aside0 (Kd.R Kd.string 9 w' w.heap.size (fun _ => True) v7 x7_1) ∧ Aside0 (Below w.heap.size w w'))
 case atStart => exact ⟨(181), (([] : List ByteArray)), (0), z10_0_, z10_0_, H', ⟨Nat.le_refl _⟩, ⟨by first | exact Kd.R_nil _ _ _ _ _ | exact Kd.N_nil _ _ _ _ _ | exact Kd.V_nil _ _ _ _ _ | exact Kd.Q_nil _ _ _ _ _ | exact Kd.S_nil _ _ _ _ _⟩, ⟨hB_⟩⟩
 case round =>
  clear H'
  obtain ⟨x6_1, x7_1, x13_1, rfl, rfl, HA, HK1, HO_7, HB⟩ := hrel
  cases gk with
  | zero => exact absurd HA.out (by simp [Far.l0])
  | succ k1 =>
   have H := HA.out
   clear HA
   simp only [Far.l0] at H
   replace H := iF_ H; obtain ⟨c3b0, H⟩ | ⟨c3b0, H⟩ := H
   ·simp only [Option.some.injEq, Prod.mk.injEq] at H
    obtain ⟨rfl, rfl⟩ := H
    go_wp2
    go_ret2
    exact ⟨_, rT_, (rR_ HO_7), hB_⟩
   replace H := ig_ H; obtain ⟨c4b0, H⟩ := H
   replace H := ig_ H; obtain ⟨c5b0, H⟩ := H
   replace H := Option.bind_eq_some_iff.mp H
   obtain ⟨t422, A60, H⟩ := H
   replace H : (if t422 < x6_1 then (if t422 = t422 then (if ([] : List ByteArray).length < 8796093022208 then (Far.l0 k1 a1 t422 (([] : List ByteArray) ++ [(rd_T74 l0 x13_1).f0]) l0 (l0.length : Int) (wrap64 (x13_1 + 1))) else (none)) else (Far.l0 k1 a1 t422 ([] : List ByteArray) l0 (l0.length : Int) (wrap64 (x13_1 + 1)))) else (if t422 = x6_1 then (if x7_1.length < 8796093022208 then (Far.l0 k1 a1 x6_1 (x7_1 ++ [(rd_T74 l0 x13_1).f0]) l0 (l0.length : Int) (wrap64 (x13_1 + 1))) else (none)) else (Far.l0 k1 a1 x6_1 x7_1 l0 (l0.length : Int) (wrap64 (x13_1 + 1))))) = some (r1, r2) := by first | exact H | simpa only [eq_self] using H
   have A6 := aM_ A60
   clear A60
   have HC7 := aM_ H
   clear H
   obtain ⟨⟨ad420, e420, hx420_0, hx420_1⟩, p420, q420⟩ := at2_ (at_T74 HR0.out x13_1); cases e420
   try replace hx420_0 := hc_ HB hx420_0; try replace hx420_1 := hc_ HB hx420_1
   go_upto_if 23 with (first | ((with_reducible refine gD_ 9 ?_); refine bx_ 9 #[.string (⟨#[]⟩ : ByteArray), .int .i64 0] 74 fun gb421 hg w8 hbox hb => ?_; have BK421 := aM_ (hbox); have GW421 := gW_ w hg; have GE421 := gW_ w hg; replace HO_7 := rB_ HO_7 hb; replace HB := bS_ hb; clear hb hbox hg; have hz9 := cf2_ BK421.out) | ((with_reducible refine gC_ 41 ?_); refine gM_ (some 20) Tryz.func41 #[.int .i64 ((rd_T74 l0 x13_1).f1), .int .i64 a1] ?_; (with_reducible refine (Fbj.calls ((rd_T74 l0 x13_1).f1) a1 t422 _ A6.out).mono ?_); rintro e w10 ⟨rfl, hb⟩; refine ⟨_, rfl, ?_⟩; replace HO_7 := aM_ (Kd.R_below (by (with_reducible repeat (first | apply rA_ | apply rN_ | apply rD_)); exact (Kd.R_mono (Kd.R_far (p := ⟨gb421, 1, none⟩) (Kd.R_far (p := ⟨gb421, 0, none⟩) (Kd.R_types HO_7.out BK421.out (by decide)) (fun _ hk => hk.2) (.string ((rd_T74 l0 x13_1).f0))) (fun _ hk => hk.2) (.int .i64 ((rd_T74 l0 x13_1).f1))) (fun _ h_ => h_.1))) hb); replace BK421 := aM_ (blk_below (g := gb421) (o := .cells #[.string ((rd_T74 l0 x13_1).f0), .int .i64 ((rd_T74 l0 x13_1).f1)] 74 (0, 0)) (by (with_reducible repeat (first | apply kN_ | apply kD_ | apply kA_)); refine blk_put (cs := #[.string ((rd_T74 l0 x13_1).f0), .int .i64 0]) ?_ 1 _ rfl; (with_reducible repeat (first | apply kN_ | apply kD_ | apply kA_)); refine blk_put (cs := #[.string (⟨#[]⟩ : ByteArray), .int .i64 0]) ?_ 0 _ rfl; (with_reducible repeat (first | apply kN_ | apply kD_ | apply kA_)); exact BK421.out) hb); replace HB := bS_ hb; (try clear hb); (try clear hk)))
   (try simp only [Act.put, List.setIfInBounds_toArray, List.set_cons_zero, List.set_cons_succ])
   have H := HC7.out
   clear HC7
   replace H := iT_ H; obtain ⟨c11b0, H⟩ | ⟨c11b0, H⟩ := H
   ·(first | rw [c11b0] | (simp only [i64_w, i32_w]; rw [c11b0]) | skip)
    by_cases c12 : t422 = t422
    rotate_left
    ·exact absurd rfl c12
    rw [if_pos c12] at H
    have c12b0 : (t422 == t422) = true := beq_iff_eq.mpr c12
    have c12b1 : (t422 != t422) = false := bne_eq_false_iff_eq.mpr c12
    clear c12
    replace H := il_ H; obtain ⟨LMc13, H⟩ := H
    obtain ⟨y423, hy423⟩ : ∃ y_ : List ByteArray, y_ = (([] : List ByteArray) ++ [(rd_T74 l0 x13_1).f0]) := ⟨_, rfl⟩
    rw [← hy423] at H
    have Ny423 := aM_ hy423; clear hy423
    have H' := aM_ H
    clear H
    have hz14 := cf2_ BK421.out
    go_wp2_with (first | ((with_reducible refine gate_builtin (b := .append) (xs := #[.tmp 28, .tmp 31]) rfl ?_); at_builtin; refine Kd.R_append Kd.string (w0 := w) w.heap.size rfl (.tmp 28) (.tmp 31) 27 9 (.string ⟨#[]⟩) 16 rfl Tryz.underlying27 info9 rfl (by decide) (by omega) (.slice none 0 0) ([] : List ByteArray) ((rd_T74 l0 x13_1).f0) [.string ((rd_T74 l0 x13_1).f0)] (fun k_ => some k_ ≠ (u7 : Value).ownBlock) (fun _ => False) rfl rfl ?aP (fun _ hk => hk.elim) ?aF ?aO ?aB ?aS ?aL ?_; (case aP => exact rfl); (case aB => exact hB_); (case aF => exact (fun k_ hk => Kd.fresh' (Kd.R_lt (rR_ HO_7)) k_ hk)); (case aO => exact ((Kd.R_nil _ _ _ _ (fun k_ => some k_ ≠ (u7 : Value).ownBlock)))); (case aS => exact (below_size hB_)); (case aL => have := LMc13.out; omega); intro v424 w15 ho hb hg hat; rw [← Ny423.out] at ho; have HO425 := aM_ (ho); replace HO_7 := aM_ (Kd.R_after (Kd.R_apart_nil (rR_ HO_7)) hg hat); replace BK421 := aM_ (blk_grown (g := gb421) (kR_ BK421) hg (by simp [Value.ownBlock])); replace HB := aM_ (hb); clear ho hb hg hat))
    go_roundg k1
    case measure => have := HK1.out; omega
    case rel => exact ⟨(t422), (y423), (wrap64 (x13_1 + 1)), z10_0_, z10_0_, H', ⟨by have := HK1.out; omega⟩, ⟨rT1_ HO425⟩, ⟨hB_⟩⟩
   (first | rw [c11b0] | (simp only [i64_w, i32_w]; rw [c11b0]) | skip)
   by_cases c16 : t422 = x6_1
   rotate_left
   ·rw [if_neg c16] at H
    have c16b0 : (t422 == x6_1) = false := beq_eq_false_iff_ne.mpr c16
    have c16b1 : (t422 != x6_1) = true := bne_iff_ne.mpr c16
    have H' := aM_ H
    clear H
    go_wp2
    go_roundg k1
    case measure => have := HK1.out; omega
    case rel => exact ⟨(x6_1), (x7_1), (wrap64 (x13_1 + 1)), z10_0_, z10_0_, H', ⟨by have := HK1.out; omega⟩, ⟨(rR_ HO_7)⟩, ⟨hB_⟩⟩
   rw [if_pos c16] at H
   have c16b0 : (t422 == x6_1) = true := beq_iff_eq.mpr c16
   have c16b1 : (t422 != x6_1) = false := bne_eq_false_iff_eq.mpr c16
   clear c16
   replace H := il_ H; obtain ⟨LMc17, H⟩ := H
   obtain ⟨y426, hy426⟩ : ∃ y_ : List ByteArray, y_ = (x7_1 ++ [(rd_T74 l0 x13_1).f0]) := ⟨_, rfl⟩
   rw [← hy426] at H
   have Ny426 := aM_ hy426; clear hy426
   have H' := aM_ H
   clear H
   have hz18 := cf2_ BK421.out
   go_wp2_with (first | ((with_reducible refine gate_builtin (b := .append) (xs := #[.tmp 28, .tmp 31]) rfl ?_); at_builtin; refine Kd.R_append Kd.string (w0 := w) w.heap.size rfl (.tmp 28) (.tmp 31) 27 9 (.string ⟨#[]⟩) 16 rfl Tryz.underlying27 info9 rfl (by decide) (by omega) u7 x7_1 ((rd_T74 l0 x13_1).f0) [.string ((rd_T74 l0 x13_1).f0)] (fun _ => True) (fun _ => False) rfl rfl ?aP (fun _ hk => hk.elim) ?aF ?aO ?aB ?aS ?aL ?_; (case aP => exact rfl); (case aB => exact hB_); (case aF => exact (fun _ _ => trivial)); (case aO => exact (rR_ HO_7)); (case aS => exact (below_size hB_)); (case aL => have := LMc17.out; omega); intro v427 w19 ho hb hg hat; rw [← Ny426.out] at ho; have HO428 := aM_ (ho); replace BK421 := aM_ (blk_grown (g := gb421) (kR_ BK421) hg (Kd.R_ne HO_7.out BK421.out (by decide))); replace HB := aM_ (hb); clear HO_7; clear ho hb hg hat))
   go_roundg k1
   case measure => have := HK1.out; omega
   case rel => exact ⟨(x6_1), (y426), (wrap64 (x13_1 + 1)), z10_0_, z10_0_, H', ⟨by have := HK1.out; omega⟩, ⟨rR_ HO428⟩, ⟨hB_⟩⟩

theorem Fa4.calls (k : Nat) (A0 : Option Addr) (c0 : Nat) (l0 : List S74) (a1 : Int) (r : ByteArray) (w : World) (hr0 : Kd.C k74 w A0 l0.length l0) (hc0 : l0.length ≤ c0) (h : Fa4.f k l0 a1 = some r) :
 Calls Tryz.prog 59 #[.slice A0 l0.length c0, .int .i64 a1] w fun e w' => e = .returned (.string r) ∧ Below w.heap.size w w' := by
 have HR0 := aM_ hr0
 have HC0 := aM_ hc0
 clear hr0 hc0
 have HB := aM_ (Below.refl w.heap.size w)
 have H : ((Far.f k l0 a1).bind fun bt429 => (if bt429.1 > 20 then (some (⟨#[]⟩ : ByteArray)) else (if (bt429.2.length : Int) = 1 then (if 0 < (bt429.2.length : Int) then (some (rdOf ByteArray.empty bt429.2 0)) else (none)) else (some (⟨#[]⟩ : ByteArray))))) = some r := h
 clear h
 replace H := ob_ H; obtain ⟨⟨t429, t430⟩, A3, H⟩ := H; try dsimp only at H
 by_cases c4 : t429 > 20
 ·rw [if_pos c4] at H
  have c4b0 : decide (20 < t429) = true := decide_eq_true c4
  clear c4
  obtain rfl := Option.some.inj H
  go_enter Tryz.func59, Tryz.ntmps59
  go_wp2_with (first | ((with_reducible refine gC_ 82 ?_); refine gM_ (some 10) Tryz.func82 #[.slice A0 l0.length c0, .int .i64 a1] ?_; (with_reducible refine (Far.calls k _ _ l0 a1 t429 t430 _ ?_ ?_ A3.out).mono ?_); exact cC_ HR0; exact HC0.out; rintro e w5 ⟨v431, rfl, ho0, hb⟩; refine ⟨_, rfl, ?_⟩; have HO432 := aM_ (Kd.R_lower ho0 (below_size hB_)); replace HB := bS_ hb; (try clear hb); (try clear ho0)))
  go_ret
  exact ⟨rT_, hB_⟩
 rw [if_neg c4] at H
 have c4b0 : decide (20 < t429) = false := decide_eq_false c4
 clear c4
 have HC6 := aM_ H
 clear H
 go_enter Tryz.func59, Tryz.ntmps59
 go_upto_if 19 with (first | ((with_reducible refine gC_ 82 ?_); refine gM_ (some 10) Tryz.func82 #[.slice A0 l0.length c0, .int .i64 a1] ?_; (with_reducible refine (Far.calls k _ _ l0 a1 t429 t430 _ ?_ ?_ A3.out).mono ?_); exact cC_ HR0; exact HC0.out; rintro e w7 ⟨v431, rfl, ho0, hb⟩; refine ⟨_, rfl, ?_⟩; have HO432 := aM_ (Kd.R_lower ho0 (below_size hB_)); replace HB := bS_ hb; (try clear hb); (try clear ho0); obtain ⟨Ao8, co8, eo8⟩ := rS_ HO432; subst eo8))
 (try simp only [Act.put, List.setIfInBounds_toArray, List.set_cons_zero, List.set_cons_succ])
 have H := HC6.out
 clear HC6
 by_cases c9 : (t430.length : Int) = 1
 rotate_left
 ·rw [if_neg c9] at H
  have c9b0 : ((t430.length : Int) == 1) = false := beq_eq_false_iff_ne.mpr c9
  have c9b1 : ((t430.length : Int) != 1) = true := bne_iff_ne.mpr c9
  (first | rw [c9b0] | (simp only [i64_w, i32_w]; rw [c9b0]) | skip)
  obtain rfl := Option.some.inj H
  go_wp2
  go_ret
  exact ⟨rT_, hB_⟩
 rw [if_pos c9] at H
 have c9b0 : ((t430.length : Int) == 1) = true := beq_iff_eq.mpr c9
 have c9b1 : ((t430.length : Int) != 1) = false := bne_eq_false_iff_eq.mpr c9
 clear c9
 (first | rw [c9b0] | (simp only [i64_w, i32_w]; rw [c9b0]) | skip)
 by_cases c10 : 0 < (t430.length : Int)
 rotate_left
 ·rw [if_neg c10] at H
  exact absurd H (by simp)
 rw [if_pos c10] at H
 have c10b0 : decide (0 < (t430.length : Int)) = true := decide_eq_true c10
 have c10b1 : decide (0 < t430.length) = true := decide_eq_true (by omega)
 clear c10
 obtain rfl := Option.some.inj H
 have p433 : 0 ≤ (0 : Int) := (by omega)
 have q433 : 0 < (t430.length : Int) := ode_
 obtain ⟨ad433, e433, hx433_0⟩ := Kd.at_string (Kd.R_reads' HO432.out).2.2 0 p433 q433
 cases e433
 have qi433 : (0 < t430.length) = True := eq_true (by omega)
 (try rw [show ((0 : Int)).toNat = 0 from rfl] at hx433_0)
 (try rw [Addr.add_zero'] at hx433_0)
 replace p433 := eq_true p433
 replace q433 := eq_true q433
 go_wp2
 go_ret
 exact ⟨rT_, hB_⟩

end Go.Proofs.YtbfkpgmdbafmhaaGreat.PFnVerbRuns
