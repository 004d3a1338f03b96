/- Printed for this claim: functions of the program as Lean functions, and that the calls answer so. -/
import Derived.Test.YtbfkpgmdbafmhaaGreatPFnVerbRunsx0
import Derived.Test.YtbfkpgmdbafmhaaGreatPFnVerbRunsx3
import Derived.Test.YtbfkpgmdbafmhaaGreatPFnVerbRunsx6
import Derived.Test.YtbfkpgmdbafmhaaGreatPFnVerbRunsx8
import Derived.Test.YtbfkpgmdbafmhaaGreatPFnVerbRunsx9
import Derived.Test.YtbfkpgmdbafmhaaGreatPFnVerbRunsx10
import Derived.Test.YtbfkpgmdbafmhaaGreatPFnVerbRunsxD0
import Derived.Test.YtbfkpgmdbafmhaaGreatPFnVerbRunsxD1
namespace Go.Proofs.YtbfkpgmdbafmhaaGreat.PFnVerbRuns
open Go.RowKit Go.Proofs.YtbfkpgmdbafmhaaGreatW.PrintWords Go.Proofs.YtbfkpgmdbafmhaaGreatW.PrintLast Go.Proofs.YtbfkpgmdbafmhaaGreatW.PrintMore
theorem z11_0_ {p : Prop} (h : p := by repeat (first | exact (Kd.C_below HR0.out HB.out) | (with_reducible first | apply cA_ | apply cN_ | apply cD_))) : p := h
theorem z11_1_ {p : Prop} (h : p := by first | rfl | (simp; done) | (simp [*]; done)) : p := h
theorem z11_2_ {p : Prop} (h : p := by first | exact Kd.R_nil _ _ _ _ _ | exact Kd.N_nil _ _ _ _ _ | exact Kd.V_nil _ _ _ _ _ | exact Kd.Q_nil _ _ _ _ _ | exact Kd.S_nil _ _ _ _ _) : p := h
theorem ie11_ {l : List UInt8} {b : Bool} (h : (l == ([] : List UInt8)) = b) : l.isEmpty = b := by
  cases l <;> exact h
set_option maxHeartbeats 8000000
set_option maxRecDepth 100000
attribute [local go_sem] max2_int min2_int max_two min_two max_three min_three max_four min_four isSome_setCell   -- for this text's walks alone
set_option linter.unusedVariables false
set_option linter.unusedSimpArgs false

def Fax.T1 : Bool × List (List Nat × List Nat) := (true, [([], []), ([], []), ([1], [1]), ([0, 2], [0, 2]), ([], []), ([], []), ([5], [5]), ([4, 6, 3], [4, 6]), ([3, 7, 0, 1, 2, 3], [3]), ([7, 8, 0, 1, 2, 3, 4, 5, 6, 7, 8], [7])])
def Fax.B1 : List Nat := [0, 0, 2, 7, 0, 0, 32, 127, 255, 511]
theorem Fax.tab1 : rtab .any (opsOf Tryz.f30 1) = Fax.T1 := by kernel_rfl
theorem Fax.bits1 : waitsOk Fax.T1.2 Fax.B1 = true := by kernel_rfl
theorem Fax.calls (k : Nat) (a0_0 : ByteArray) (a0_1 a0_2 : Int) (A1 : Option Addr) (c1 : Nat) (l1 : List S74) (r1 r2 : ByteArray) (w : World) (hr1 : Kd.C k74 w A1 l1.length l1) (hc1 : l1.length ≤ c1) (h : Fax.f k a0_0 a0_1 a0_2 l1 = some (r1, r2)) :
 Calls Tryz.prog 30 #[.agg #[.string a0_0, .int .i64 a0_1, .int .i64 a0_2], .slice A1 l1.length c1] w fun e w' => e = .returned (.tuple #[.string r1, .string r2]) ∧ Below w.heap.size w w' := by
 have hu40 := Tryz.underlying40
 have HR1 := aM_ hr1
 have HC1 := aM_ hc1
 clear hr1 hc1
 have HB := aM_ (Below.refl w.heap.size w)
 have H : ((Fa4.f k l1 a0_1).bind fun t435 => ((Fa4.f k l1 a0_2).bind fun t436 => (if t435.toList = ([] : List UInt8) then (some ((⟨#[]⟩ : ByteArray), (⟨#[]⟩ : ByteArray))) else (if t436.toList = ([] : List UInt8) then (some ((⟨#[]⟩ : ByteArray), (⟨#[]⟩ : ByteArray))) else (if t435.toList = t436.toList then (some ((⟨#[]⟩ : ByteArray), (⟨#[]⟩ : ByteArray))) else (some (t435, t436))))))) = some (r1, r2) := h
 clear h
 replace H := ob_ H; obtain ⟨t435, A3, H⟩ := H; try dsimp only at H
 replace H := ob_ H; obtain ⟨t436, A4, H⟩ := H; try dsimp only at H
 by_cases c5 : t435.toList = ([] : List UInt8)
 ·rw [if_pos c5] at H
  have c5b0 : (t435.toList == ([] : List UInt8)) = true := beq_iff_eq.mpr c5
  have c5b1 : (t435.toList != ([] : List UInt8)) = false := bne_eq_false_iff_eq.mpr c5
  clear c5
  simp only [Option.some.injEq, Prod.mk.injEq] at H
  obtain ⟨rfl, rfl⟩ := H
  go_enter Tryz.func30, Tryz.ntmps30
  try go_wp2_with (first | ((with_reducible refine gD_ 2 ?_); refine bx_ 2 #[.string a0_0, .int .i64 a0_1, .int .i64 a0_2] 40 fun gb434 hg w6 hbox hb => ?_; have BK434 := aM_ (hbox); have GW434 := gW_ w hg; have GE434 := gW_ w hg; replace HB := bS_ hb; clear hb hbox hg))
  replace BK434 := aM_ (blk_drew BK434.out)
  replace HB := aM_ (below_drew1 HB.out)
  refine st_ 10 (fun w' => w'.cell? ⟨gb434, 0, none⟩ = some (.string a0_0) ∧ w'.cell? ⟨gb434, 1, none⟩ = some (.int .i64 a0_1) ∧ w'.cell? ⟨gb434, 2, none⟩ = some (.int .i64 a0_2)) [] Fax.tab1 Fax.bits1 (cg3_ BK434) fun hHeld HT_ HW_ => ?_
  generalize w6.drew = w7 at BK434 HB hHeld ⊢
  refine pu_ 0 8 ?_
  refine pu_ 1 9 ?_
  refine pu_ 4 12 ?_
  refine pu_ 5 13 ?_
  refine tk_ 2 10 ?_
  refine tk_ 6 14 ?_
  refine on_ 3 11 fun K hK => ?_
  refine gS_ Tryz.func59 #[.slice A1 l1.length c1, .int .i64 a0_1] ?_
  with_reducible refine (Fa4.calls k _ _ l1 a0_1 t435 _ ?side1 ?side2 A3.out).mono ?_
  (case side1 => repeat (first | exact (Kd.C_below HR1.out HB.out) | (with_reducible first | apply cA_ | apply cN_ | apply cD_)))
  (case side2 => exact HC1.out)
  rintro e w8 ⟨rfl, hb⟩
  refine ⟨_, rfl, ?_⟩
  replace BK434 := kB_ BK434 hb
  replace HB := bS_ hb
  (try clear hb)
  (try clear hb2)
  (try clear hk)
  (try clear hi)
  refine hK.out _ _ (cg3_ BK434) (fun hHeld => ?_)
  clear hK K
  refine nm_ 11 ?_
  refine on_ 7 15 fun K hK => ?_
  refine gS_ Tryz.func59 #[.slice A1 l1.length c1, .int .i64 a0_2] ?_
  with_reducible refine (Fa4.calls k _ _ l1 a0_2 t436 _ ?side1 ?side2 A4.out).mono ?_
  (case side1 => repeat (first | exact (Kd.C_below HR1.out HB.out) | (with_reducible first | apply cA_ | apply cN_ | apply cD_)))
  (case side2 => exact HC1.out)
  rintro e w9 ⟨rfl, hb⟩
  refine ⟨_, rfl, ?_⟩
  replace BK434 := kB_ BK434 hb
  replace HB := bS_ hb
  (try clear hb)
  (try clear hb2)
  (try clear hk)
  (try clear hi)
  refine hK.out _ _ (cg3_ BK434) (fun hHeld => ?_)
  clear hK K
  refine nm_ 15 ?_
  refine pu_ 8 6 ?_
  refine pu_ 9 7 ?_
  refine dn_ ?_
  try go_wp2
  go_ret2
  exact ⟨rT_, hB_⟩
 rw [if_neg c5] at H
 have c5b0 : (t435.toList == ([] : List UInt8)) = false := beq_eq_false_iff_ne.mpr c5
 have c5b1 : (t435.toList != ([] : List UInt8)) = true := bne_iff_ne.mpr c5
 by_cases c10 : t436.toList = ([] : List UInt8)
 ·rw [if_pos c10] at H
  have c10b0 : (t436.toList == ([] : List UInt8)) = true := beq_iff_eq.mpr c10
  have c10b1 : (t436.toList != ([] : List UInt8)) = false := bne_eq_false_iff_eq.mpr c10
  clear c10
  simp only [Option.some.injEq, Prod.mk.injEq] at H
  obtain ⟨rfl, rfl⟩ := H
  go_enter Tryz.func30, Tryz.ntmps30
  try go_wp2_with (first | ((with_reducible refine gD_ 2 ?_); refine bx_ 2 #[.string a0_0, .int .i64 a0_1, .int .i64 a0_2] 40 fun gb434 hg w11 hbox hb => ?_; have BK434 := aM_ (hbox); have GW434 := gW_ w hg; have GE434 := gW_ w hg; replace HB := bS_ hb; clear hb hbox hg))
  replace BK434 := aM_ (blk_drew BK434.out)
  replace HB := aM_ (below_drew1 HB.out)
  refine st_ 10 (fun w' => w'.cell? ⟨gb434, 0, none⟩ = some (.string a0_0) ∧ w'.cell? ⟨gb434, 1, none⟩ = some (.int .i64 a0_1) ∧ w'.cell? ⟨gb434, 2, none⟩ = some (.int .i64 a0_2)) [] Fax.tab1 Fax.bits1 (cg3_ BK434) fun hHeld HT_ HW_ => ?_
  generalize w11.drew = w12 at BK434 HB hHeld ⊢
  refine pu_ 0 8 ?_
  refine pu_ 1 9 ?_
  refine pu_ 4 12 ?_
  refine pu_ 5 13 ?_
  refine tk_ 2 10 ?_
  refine tk_ 6 14 ?_
  refine on_ 3 11 fun K hK => ?_
  refine gS_ Tryz.func59 #[.slice A1 l1.length c1, .int .i64 a0_1] ?_
  with_reducible refine (Fa4.calls k _ _ l1 a0_1 t435 _ ?side1 ?side2 A3.out).mono ?_
  (case side1 => repeat (first | exact (Kd.C_below HR1.out HB.out) | (with_reducible first | apply cA_ | apply cN_ | apply cD_)))
  (case side2 => exact HC1.out)
  rintro e w13 ⟨rfl, hb⟩
  refine ⟨_, rfl, ?_⟩
  replace BK434 := kB_ BK434 hb
  replace HB := bS_ hb
  (try clear hb)
  (try clear hb2)
  (try clear hk)
  (try clear hi)
  refine hK.out _ _ (cg3_ BK434) (fun hHeld => ?_)
  clear hK K
  refine nm_ 11 ?_
  refine on_ 7 15 fun K hK => ?_
  refine gS_ Tryz.func59 #[.slice A1 l1.length c1, .int .i64 a0_2] ?_
  with_reducible refine (Fa4.calls k _ _ l1 a0_2 t436 _ ?side1 ?side2 A4.out).mono ?_
  (case side1 => repeat (first | exact (Kd.C_below HR1.out HB.out) | (with_reducible first | apply cA_ | apply cN_ | apply cD_)))
  (case side2 => exact HC1.out)
  rintro e w14 ⟨rfl, hb⟩
  refine ⟨_, rfl, ?_⟩
  replace BK434 := kB_ BK434 hb
  replace HB := bS_ hb
  (try clear hb)
  (try clear hb2)
  (try clear hk)
  (try clear hi)
  refine hK.out _ _ (cg3_ BK434) (fun hHeld => ?_)
  clear hK K
  refine nm_ 15 ?_
  refine pu_ 8 6 ?_
  refine pu_ 9 7 ?_
  refine dn_ ?_
  try go_wp2
  go_ret2
  exact ⟨rT_, hB_⟩
 rw [if_neg c10] at H
 have c10b0 : (t436.toList == ([] : List UInt8)) = false := beq_eq_false_iff_ne.mpr c10
 have c10b1 : (t436.toList != ([] : List UInt8)) = true := bne_iff_ne.mpr c10
 have HC15 := aM_ H
 clear H
 go_enter Tryz.func30, Tryz.ntmps30
 try go_wp2_with (first | ((with_reducible refine gD_ 2 ?_); refine bx_ 2 #[.string a0_0, .int .i64 a0_1, .int .i64 a0_2] 40 fun gb434 hg w16 hbox hb => ?_; have BK434 := aM_ (hbox); have GW434 := gW_ w hg; have GE434 := gW_ w hg; replace HB := bS_ hb; clear hb hbox hg))
 replace BK434 := aM_ (blk_drew BK434.out)
 replace HB := aM_ (below_drew1 HB.out)
 refine st_ 10 (fun w' => w'.cell? ⟨gb434, 0, none⟩ = some (.string a0_0) ∧ w'.cell? ⟨gb434, 1, none⟩ = some (.int .i64 a0_1) ∧ w'.cell? ⟨gb434, 2, none⟩ = some (.int .i64 a0_2)) [] Fax.tab1 Fax.bits1 (cg3_ BK434) fun hHeld HT_ HW_ => ?_
 generalize w16.drew = w17 at BK434 HB hHeld ⊢
 refine pu_ 0 8 ?_
 refine pu_ 1 9 ?_
 refine pu_ 4 12 ?_
 refine pu_ 5 13 ?_
 refine tk_ 2 10 ?_
 refine tk_ 6 14 ?_
 refine on_ 3 11 fun K hK => ?_
 refine gS_ Tryz.func59 #[.slice A1 l1.length c1, .int .i64 a0_1] ?_
 with_reducible refine (Fa4.calls k _ _ l1 a0_1 t435 _ ?side1 ?side2 A3.out).mono ?_
 (case side1 => repeat (first | exact (Kd.C_below HR1.out HB.out) | (with_reducible first | apply cA_ | apply cN_ | apply cD_)))
 (case side2 => exact HC1.out)
 rintro e w18 ⟨rfl, hb⟩
 refine ⟨_, rfl, ?_⟩
 replace BK434 := kB_ BK434 hb
 replace HB := bS_ hb
 (try clear hb)
 (try clear hb2)
 (try clear hk)
 (try clear hi)
 refine hK.out _ _ (cg3_ BK434) (fun hHeld => ?_)
 clear hK K
 refine nm_ 11 ?_
 refine on_ 7 15 fun K hK => ?_
 refine gS_ Tryz.func59 #[.slice A1 l1.length c1, .int .i64 a0_2] ?_
 with_reducible refine (Fa4.calls k _ _ l1 a0_2 t436 _ ?side1 ?side2 A4.out).mono ?_
 (case side1 => repeat (first | exact (Kd.C_below HR1.out HB.out) | (with_reducible first | apply cA_ | apply cN_ | apply cD_)))
 (case side2 => exact HC1.out)
 rintro e w19 ⟨rfl, hb⟩
 refine ⟨_, rfl, ?_⟩
 replace BK434 := kB_ BK434 hb
 replace HB := bS_ hb
 (try clear hb)
 (try clear hb2)
 (try clear hk)
 (try clear hi)
 refine hK.out _ _ (cg3_ BK434) (fun hHeld => ?_)
 clear hK K
 refine nm_ 15 ?_
 refine pu_ 8 6 ?_
 refine pu_ 9 7 ?_
 refine dn_ ?_
 go_upto_if 26 with (fail)
 have H := HC15.out
 clear HC15
 by_cases c20 : t435.toList = t436.toList
 rotate_left
 ·rw [if_neg c20] at H
  have c20b0 : (t435.toList == t436.toList) = false := beq_eq_false_iff_ne.mpr c20
  have c20b1 : (t435.toList != t436.toList) = true := bne_iff_ne.mpr c20
  (first | rw [c20b0] | (simp only [i64_w, i32_w]; rw [c20b0]) | skip)
  simp only [Option.some.injEq, Prod.mk.injEq] at H
  obtain ⟨rfl, rfl⟩ := H
  go_wp2
  go_ret2
  exact ⟨rT_, hB_⟩
 rw [if_pos c20] at H
 have c20b0 : (t435.toList == t436.toList) = true := beq_iff_eq.mpr c20
 have c20b1 : (t435.toList != t436.toList) = false := bne_eq_false_iff_eq.mpr c20
 clear c20
 (first | rw [c20b0] | (simp only [i64_w, i32_w]; rw [c20b0]) | skip)
 simp only [Option.some.injEq, Prod.mk.injEq] at H
 obtain ⟨rfl, rfl⟩ := H
 go_wp2
 go_ret2
 exact ⟨rT_, hB_⟩

theorem Faq.calls (k : Nat) (A0 : Option Addr) (c0 : Nat) (l0 : List S74) (A1 : Option Addr) (c1 : Nat) (l1 : List S40) (r1 : List ByteArray) (r2 : List Int) (r3 : Bool) (w : World) (hr0 : Kd.C k74 w A0 l0.length l0) (hc0 : l0.length ≤ c0) (hr1 : Kd.C k40 w A1 l1.length l1) (hc1 : l1.length ≤ c1) (h : Faq.f k l0 l1 = some (r1, r2, r3)) :
 Calls Tryz.prog 5 #[.slice A0 l0.length c0, .slice A1 l1.length c1] w fun e w' => ∃ v0_ v1_ : Value, e = .returned (.tuple #[v0_, v1_, .bool r3]) ∧ Kd.R Kd.string 9 w' w.heap.size (fun _ => True) v0_ r1 ∧ Kd.R (Kd.int .i64) 3 w' w.heap.size (fun _ => True) v1_ r2 ∧ Below w.heap.size w w' := by
 have hu40 := Tryz.underlying40
 have HR0 := aM_ hr0
 have HC0 := aM_ hc0
 clear hr0 hc0
 have HR1 := aM_ hr1
 have HC1 := aM_ hc1
 clear hr1 hc1
 have HB := aM_ (Below.refl w.heap.size w)
 have H : ((Fan.f k l0).bind fun t437 => (if t437 = true then ((FaR.f k l1).bind fun t438 => (Faq.j0 k l0 l1 (!t438))) else (Faq.j0 k l0 l1 true))) = some (r1, r2, r3) := h
 clear h
 have HC3 := aM_ H
 clear H
 go_enter Tryz.func5, Tryz.ntmps5
 go_upto_region 1 with (fail)
 go_cut [20] (fun v20 wc => ∃ (kq : Nat) (x20_2 : Bool), v20 = .bool x20_2 ∧ Aside0 (Faq.j0 kq l0 l1 x20_2 = some (r1, r2, r3)) ∧ Aside0 (kq ≤ k) ∧ Aside0 (Below w.heap.size w wc))
 case first =>
  have H := HC3.out
  clear HC3
  replace H := ob_ H; obtain ⟨t437, A4, H⟩ := H; try dsimp only at H
  by_cases c5 : t437 = true
  rotate_left
  ·replace c5 := Bool.eq_false_iff.mpr c5
   subst c5
   replace H := in_ H (show ¬ (false = true) by decide)
   have H' := aM_ H
   clear H
   go_wp2_with (first | ((with_reducible refine gC_ 28 ?_); refine gM_ (some 14) Tryz.func28 #[.slice A0 l0.length c0] ?_; (with_reducible refine (Fan.calls k _ _ l0 false _ ?_ ?_ A4.out).mono ?_); exact z11_0_; exact HC0.out; rintro e w9 ⟨rfl, hb⟩; refine ⟨_, rfl, ?_⟩; replace HB := bS_ hb; (try clear hb)))
   go_meet
   case rel => exact ⟨_, (true), z11_1_, H', ⟨oR_⟩, ⟨hB_⟩⟩
  subst c5
  replace H := ip_ H rfl
  replace H := ob_ H; obtain ⟨t438, A6, H⟩ := H; try dsimp only at H
  have H' := aM_ H
  clear H
  go_wp2_with (first | ((with_reducible refine gC_ 28 ?_); refine gM_ (some 14) Tryz.func28 #[.slice A0 l0.length c0] ?_; (with_reducible refine (Fan.calls k _ _ l0 true _ ?_ ?_ A4.out).mono ?_); exact z11_0_; exact HC0.out; rintro e w7 ⟨rfl, hb⟩; refine ⟨_, rfl, ?_⟩; replace HB := bS_ hb; (try clear hb)) | (go_at_call 29; (with_reducible refine (FaR.calls k _ _ l1 t438 _ ?_ ?_ A6.out).mono ?_); exact (by repeat (first | exact (Kd.C_below HR1.out HB.out) | (with_reducible first | apply cA_ | apply cN_ | apply cD_))); exact HC1.out; rintro e w8 ⟨rfl, hb⟩; replace HB := bS_ hb; (try clear hb)))
  go_meet
  case rel => exact ⟨_, (!t438), z11_1_, H', ⟨oR_⟩, ⟨hB_⟩⟩
 case rest =>
  clear HC3
  (try clear c1)
  obtain ⟨kq, x20_2, rfl, HA, HJ2, HB⟩ := hcut
  cases kq with
  | zero => exact absurd HA.out (by simp [Faq.j0])
  | succ kj2 =>
   have H := HA.out
   clear HA
   simp only [Faq.j0] at H
   by_cases c10 : x20_2 = true
   ·subst c10
    replace H := ip_ H rfl
    simp only [Option.some.injEq, Prod.mk.injEq] at H
    obtain ⟨rfl, rfl, rfl⟩ := H
    go_wp2
    go_ret3
    exact ⟨_, _, rT_, z11_2_, z11_2_, hB_⟩
   replace c10 := Bool.eq_false_iff.mpr c10
   subst c10
   replace H := in_ H (show ¬ (false = true) by decide)
   have H' := aM_ H
   clear H
   go_wp2
   go_loopg [7, 8, 23] kj2 (fun kq v7 v8 v23 w' => ∃ (x7_2 : List ByteArray) (x8_2 : List Int) (x23_2 : Int), v23 = .int .i64 x23_2 ∧ Aside0 (Faq.l0 kq l0 x7_2 x8_2 l1 (l1.length : Int) x23_2 = some (r1, r2, r3)) ∧ Aside0 (kq ≤ kj2) ∧ Aside0 (Kd.R Kd.string 9 w' w.heap.size (fun _ => True) v7 x7_2) ∧ Aside0 (Kd.R (Kd.int .i64) 3 w' w.heap.size (fun _ => True) v8 x8_2) ∧ Aside0 (Below w.heap.size w w'))
   case atStart => exact ⟨(([] : List ByteArray)), (([] : List Int)), (0), z11_1_, H', ⟨Nat.le_refl _⟩, ⟨z11_2_⟩, ⟨z11_2_⟩, ⟨hB_⟩⟩
   case round =>
    clear H'
    (try clear c1);(try clear c10)
    obtain ⟨x7_2, x8_2, x23_2, rfl, HA, HK2, HO_7, HO_8, HB⟩ := hrel
    cases gk with
    | zero => exact absurd HA.out (by simp [Faq.l0])
    | succ k2 =>
     have H := HA.out
     clear HA
     simp only [Faq.l0] at H
     replace H := iF_ H; obtain ⟨c11b0, H⟩ | ⟨c11b0, H⟩ := H
     ·simp only [Option.some.injEq, Prod.mk.injEq] at H
      obtain ⟨rfl, rfl, rfl⟩ := H
      go_wp2
      go_ret3
      exact ⟨_, _, rT_, (rR_ HO_7), (rR_ HO_8), hB_⟩
     replace H := ig_ H; obtain ⟨c12b0, H⟩ := H
     replace H := ig_ H; obtain ⟨c13b0, H⟩ := H
     replace H := ob_ H; obtain ⟨⟨t441, t442⟩, A14, H⟩ := H; try dsimp only at H
     have HC15 := aM_ H
     clear H
     obtain ⟨⟨ad439, e439, hx439_0, hx439_1, hx439_2⟩, p439, q439⟩ := at2_ (at_T40 HR1.out x23_2); cases e439
     try replace hx439_0 := hc_ HB hx439_0; try replace hx439_1 := hc_ HB hx439_1; try replace hx439_2 := hc_ HB hx439_2
     go_upto_if 35 with (first | ((with_reducible refine gD_ 10 ?_); refine bx_ 10 #[.string (⟨#[]⟩ : ByteArray), .int .i64 0, .int .i64 0] 40 fun gb440 hg w16 hbox hb => ?_; have BK440 := aM_ (hbox); have GW440 := gW_ w hg; have GE440 := gW_ w hg; replace HO_7 := rB_ HO_7 hb; replace HO_8 := rB_ HO_8 hb; replace HB := bS_ hb; clear hb hbox hg; have hz17 := cf3_ BK440.out) | ((with_reducible refine gC_ 30 ?_); refine gM_ (some 31) Tryz.func30 #[.agg #[.string ((rd_T40 l1 x23_2).f0), .int .i64 ((rd_T40 l1 x23_2).f1), .int .i64 ((rd_T40 l1 x23_2).f2)], .slice A0 l0.length c0] ?_; (with_reducible refine (Fax.calls k2 ((rd_T40 l1 x23_2).f0) ((rd_T40 l1 x23_2).f1) ((rd_T40 l1 x23_2).f2) _ _ l0 t441 t442 _ ?_ ?_ A14.out).mono ?_); exact Kd.C_below HR0.out hB_; exact HC0.out; rintro e w18 ⟨rfl, hb⟩; refine ⟨_, rfl, ?_⟩; replace HO_7 := aM_ (Kd.R_below (by (with_reducible repeat (first | apply rA_ | apply rN_ | apply rD_)); exact (Kd.R_mono (Kd.R_far (p := ⟨gb440, 2, none⟩) (Kd.R_far (p := ⟨gb440, 1, none⟩) (Kd.R_far (p := ⟨gb440, 0, none⟩) (Kd.R_types HO_7.out BK440.out (by decide)) (fun _ hk => hk.2) (.string ((rd_T40 l1 x23_2).f0))) (fun _ hk => hk.2) (.int .i64 ((rd_T40 l1 x23_2).f1))) (fun _ hk => hk.2) (.int .i64 ((rd_T40 l1 x23_2).f2))) (fun _ h_ => h_.1))) hb); replace HO_8 := aM_ (Kd.R_below (by (with_reducible repeat (first | apply rA_ | apply rN_ | apply rD_)); exact (Kd.R_mono (Kd.R_far (p := ⟨gb440, 2, none⟩) (Kd.R_far (p := ⟨gb440, 1, none⟩) (Kd.R_far (p := ⟨gb440, 0, none⟩) (Kd.R_types HO_8.out BK440.out (by decide)) (fun _ hk => hk.2) (.string ((rd_T40 l1 x23_2).f0))) (fun _ hk => hk.2) (.int .i64 ((rd_T40 l1 x23_2).f1))) (fun _ hk => hk.2) (.int .i64 ((rd_T40 l1 x23_2).f2))) (fun _ h_ => h_.1))) hb); replace BK440 := aM_ (blk_below (g := gb440) (o := .cells #[.string ((rd_T40 l1 x23_2).f0), .int .i64 ((rd_T40 l1 x23_2).f1), .int .i64 ((rd_T40 l1 x23_2).f2)] 40 (0, 0)) (by (with_reducible repeat (first | apply kN_ | apply kD_ | apply kA_)); refine blk_put (cs := #[.string ((rd_T40 l1 x23_2).f0), .int .i64 ((rd_T40 l1 x23_2).f1), .int .i64 0]) ?_ 2 _ rfl; (with_reducible repeat (first | apply kN_ | apply kD_ | apply kA_)); refine blk_put (cs := #[.string ((rd_T40 l1 x23_2).f0), .int .i64 0, .int .i64 0]) ?_ 1 _ rfl; (with_reducible repeat (first | apply kN_ | apply kD_ | apply kA_)); refine blk_put (cs := #[.string (⟨#[]⟩ : ByteArray), .int .i64 0, .int .i64 0]) ?_ 0 _ rfl; (with_reducible repeat (first | apply kN_ | apply kD_ | apply kA_)); exact BK440.out) hb); replace HB := bS_ hb; (try clear hb); (try clear hk)))
     (try simp only [Act.put, List.setIfInBounds_toArray, List.set_cons_zero, List.set_cons_succ])
     have H := HC15.out
     clear HC15
     by_cases c19 : t441.toList = ([] : List UInt8)
     ·rw [if_pos c19] at H
      have c19b0 : (t441.toList == ([] : List UInt8)) = true := beq_iff_eq.mpr c19
      have c19b1 : (t441.toList != ([] : List UInt8)) = false := bne_eq_false_iff_eq.mpr c19
      clear c19
      (first | rw [c19b0] | (simp only [i64_w, i32_w]; rw [c19b0]) | rw [ie11_ c19b0] | skip)
      replace H := il_ H; obtain ⟨LMc20, H⟩ := H
      obtain ⟨y443, hy443⟩ : ∃ y_ : List Int, y_ = (x8_2 ++ [x23_2]) := ⟨_, rfl⟩
      rw [← hy443] at H
      have Ny443 := aM_ hy443; clear hy443
      have H' := aM_ H
      clear H
      go_wp2_with (first | ((with_reducible refine gate_builtin (b := .append) (xs := #[.tmp 36, .tmp 38]) rfl ?_); at_builtin; refine Kd.R_append (Kd.int .i64) (w0 := w) w.heap.size rfl (.tmp 36) (.tmp 38) 28 3 (.int .i64 0) 8 rfl Tryz.underlying28 info3 rfl (by decide) (by omega) u8 x8_2 x23_2 [.int .i64 x23_2] (fun _ => True) (fun _ => False) rfl rfl ?aP (fun _ hk => hk.elim) ?aF ?aO ?aB ?aS ?aL ?_; (case aP => exact rfl); (case aB => exact hB_); (case aF => exact (fun _ _ => trivial)); (case aO => exact (rR_ HO_8)); (case aS => exact (below_size hB_)); (case aL => have := LMc20.out; omega); intro v444 w21 ho hb hg hat; rw [← Ny443.out] at ho; have HO445 := aM_ (ho); replace HO_7 := rO_ HO_7 HO_8 hg; replace BK440 := aM_ (blk_grown (g := gb440) (kR_ BK440) hg (Kd.R_ne HO_8.out BK440.out (by decide))); replace HB := aM_ (hb); clear HO_8; clear ho hb hg hat))
      go_roundg k2
      case measure => have := HJ2.out; have := HK2.out; omega
      case rel => exact ⟨(x7_2), (y443), (wrap64 (x23_2 + 1)), z11_1_, H', ⟨by have := HJ2.out; have := HK2.out; omega⟩, ⟨(rR_ HO_7)⟩, ⟨rR_ HO445⟩, ⟨hB_⟩⟩
     rw [if_neg c19] at H
     have c19b0 : (t441.toList == ([] : List UInt8)) = false := beq_eq_false_iff_ne.mpr c19
     have c19b1 : (t441.toList != ([] : List UInt8)) = true := bne_iff_ne.mpr c19
     (first | rw [c19b0] | (simp only [i64_w, i32_w]; rw [c19b0]) | rw [ie11_ c19b0] | skip)
     by_cases c22 : t441.size + 1 ≤ 9223372036854775807
     rotate_left
     ·rw [if_neg c22] at H
      exact absurd H (by simp)
     rw [if_pos c22] at H
     have c22b0 := eq_true c22
     have c22b1 : decide (t441.size + 1 ≤ 9223372036854775807) = true := decide_eq_true c22
     try have c22b2 : (9223372036854775807 < t441.size + 1) = False := eq_false (Nat.not_lt.2 c22)
     by_cases c23 : (t441 ++ (⟨#[32]⟩ : ByteArray)).size + ((rd_T40 l1 x23_2).f0).size ≤ 9223372036854775807
     rotate_left
     ·rw [if_neg c23] at H
      exact absurd H (by simp)
     rw [if_pos c23] at H
     have c23b0 := eq_true c23
     have c23b1 : decide ((t441 ++ (⟨#[32]⟩ : ByteArray)).size + ((rd_T40 l1 x23_2).f0).size ≤ 9223372036854775807) = true := decide_eq_true c23
     try have c23b2 : (9223372036854775807 < (t441 ++ (⟨#[32]⟩ : ByteArray)).size + ((rd_T40 l1 x23_2).f0).size) = False := eq_false (Nat.not_lt.2 c23)
     try (have c23b3 := c23b2; simp only [ByteArray.size_append', ByteArray.size_mk', List.size_toArray, List.length_cons, List.length_nil, Nat.zero_add, Nat.reduceAdd] at c23b3)
     by_cases c24 : ((t441 ++ (⟨#[32]⟩ : ByteArray)) ++ ((rd_T40 l1 x23_2).f0)).size + 1 ≤ 9223372036854775807
     rotate_left
     ·rw [if_neg c24] at H
      exact absurd H (by simp)
     rw [if_pos c24] at H
     have c24b0 := eq_true c24
     have c24b1 : decide (((t441 ++ (⟨#[32]⟩ : ByteArray)) ++ ((rd_T40 l1 x23_2).f0)).size + 1 ≤ 9223372036854775807) = true := decide_eq_true c24
     try have c24b2 : (9223372036854775807 < ((t441 ++ (⟨#[32]⟩ : ByteArray)) ++ ((rd_T40 l1 x23_2).f0)).size + 1) = False := eq_false (Nat.not_lt.2 c24)
     try (have c24b3 := c24b2; simp only [ByteArray.size_append', ByteArray.size_mk', List.size_toArray, List.length_cons, List.length_nil, Nat.zero_add, Nat.reduceAdd] at c24b3)
     by_cases c25 : (((t441 ++ (⟨#[32]⟩ : ByteArray)) ++ ((rd_T40 l1 x23_2).f0)) ++ (⟨#[32]⟩ : ByteArray)).size + t442.size ≤ 9223372036854775807
     rotate_left
     ·rw [if_neg c25] at H
      exact absurd H (by simp)
     rw [if_pos c25] at H
     have c25b0 := eq_true c25
     have c25b1 : decide ((((t441 ++ (⟨#[32]⟩ : ByteArray)) ++ ((rd_T40 l1 x23_2).f0)) ++ (⟨#[32]⟩ : ByteArray)).size + t442.size ≤ 9223372036854775807) = true := decide_eq_true c25
     try have c25b2 : (9223372036854775807 < (((t441 ++ (⟨#[32]⟩ : ByteArray)) ++ ((rd_T40 l1 x23_2).f0)) ++ (⟨#[32]⟩ : ByteArray)).size + t442.size) = False := eq_false (Nat.not_lt.2 c25)
     try (have c25b3 := c25b2; simp only [ByteArray.size_append', ByteArray.size_mk', List.size_toArray, List.length_cons, List.length_nil, Nat.zero_add, Nat.reduceAdd] at c25b3)
     replace H := il_ H; obtain ⟨LMc26, H⟩ := H
     obtain ⟨y446, hy446⟩ : ∃ y_ : List ByteArray, y_ = (x7_2 ++ [(((t441 ++ (⟨#[32]⟩ : ByteArray)) ++ ((rd_T40 l1 x23_2).f0)) ++ (⟨#[32]⟩ : ByteArray)) ++ t442]) := ⟨_, rfl⟩
     rw [← hy446] at H
     have Ny446 := aM_ hy446; clear hy446
     have H' := aM_ H
     clear H
     have hz27 := cf3_ BK440.out
     go_wp2_with (first | ((with_reducible refine gate_builtin (b := .append) (xs := #[.tmp 40, .tmp 49]) rfl ?_); at_builtin; refine Kd.R_append Kd.string (w0 := w) w.heap.size rfl (.tmp 40) (.tmp 49) 27 9 (.string ⟨#[]⟩) 16 rfl Tryz.underlying27 info9 rfl (by decide) (by omega) u7 x7_2 ((((t441 ++ (⟨#[32]⟩ : ByteArray)) ++ ((rd_T40 l1 x23_2).f0)) ++ (⟨#[32]⟩ : ByteArray)) ++ t442) [.string ((((t441 ++ (⟨#[32]⟩ : ByteArray)) ++ ((rd_T40 l1 x23_2).f0)) ++ (⟨#[32]⟩ : ByteArray)) ++ t442)] (fun _ => True) (fun _ => False) rfl rfl ?aP (fun _ hk => hk.elim) ?aF ?aO ?aB ?aS ?aL ?_; (case aP => exact rfl); (case aB => exact hB_); (case aF => exact (fun _ _ => trivial)); (case aO => exact (rR_ HO_7)); (case aS => exact (below_size hB_)); (case aL => have := LMc26.out; omega); intro v447 w28 ho hb hg hat; rw [← Ny446.out] at ho; have HO448 := aM_ (ho); replace HO_8 := rO_ HO_8 HO_7 hg; replace BK440 := aM_ (blk_grown (g := gb440) (kR_ BK440) hg (Kd.R_ne HO_7.out BK440.out (by decide))); replace HB := aM_ (hb); clear HO_7; clear ho hb hg hat))
     go_roundg k2
     case measure => have := HJ2.out; have := HK2.out; omega
     case rel => exact ⟨(y446), (x8_2), (wrap64 (x23_2 + 1)), z11_1_, H', ⟨by have := HJ2.out; have := HK2.out; omega⟩, ⟨rR_ HO448⟩, ⟨(rR_ HO_8)⟩, ⟨hB_⟩⟩

theorem FaE.calls (k : Nat) (A0 : Option Addr) (c0 : Nat) (l0 : List S74) (A1 : Option Addr) (c1 : Nat) (l1 : List S40) (r : Bool) (w : World) (hr0 : Kd.C k74 w A0 l0.length l0) (hc0 : l0.length ≤ c0) (hr1 : Kd.C k40 w A1 l1.length l1) (hc1 : l1.length ≤ c1) (h : FaE.f k l0 l1 = some r) :
 Calls Tryz.prog 31 #[.slice A0 l0.length c0, .slice A1 l1.length c1] w fun e w' => e = .returned (.bool r) ∧ Below w.heap.size w w' := by
 have hu40 := Tryz.underlying40
 have HR0 := aM_ hr0
 have HC0 := aM_ hc0
 clear hr0 hc0
 have HR1 := aM_ hr1
 have HC1 := aM_ hc1
 clear hr1 hc1
 have HB := aM_ (Below.refl w.heap.size w)
 have H : (FaE.l0 k l0 l1 l1 (l1.length : Int) 0) = some r := h
 clear h
 have H' := aM_ H
 clear H
 go_enter Tryz.func31, Tryz.ntmps31
 go_wp2
 go_loopg [9] k (fun kq v9 w' => ∃ (x9_1 : Int), v9 = .int .i64 x9_1 ∧ Aside0 (FaE.l0 kq l0 l1 l1 (l1.length : Int) x9_1 = some r) ∧ Aside0 (kq ≤ k) ∧ Aside0 (Below w.heap.size w w'))
 case atStart => exact ⟨(0), z11_1_, H', ⟨Nat.le_refl _⟩, ⟨hB_⟩⟩
 case round =>
  clear H'
  (try clear c1)
  obtain ⟨x9_1, rfl, HA, HK1, HB⟩ := hrel
  cases gk with
  | zero => exact absurd HA.out (by simp [FaE.l0])
  | succ k1 =>
   have H := HA.out
   clear HA
   simp only [FaE.l0] at H
   replace H := iF_ H; obtain ⟨c3b0, H⟩ | ⟨c3b0, H⟩ := H
   ·replace H := ob_ H; obtain ⟨t452, A12, H⟩ := H; try dsimp only at H
    by_cases c13 : t452 = true
    ·subst c13
     replace H := ip_ H rfl
     obtain rfl := Option.some.inj H
     go_wp2_with (first | ((with_reducible refine gC_ 47 ?_); refine gM_ (some 18) Tryz.func47 #[.slice A0 l0.length c0] ?_; (with_reducible refine (Faj.calls k1 _ _ l0 true _ ?_ ?_ A12.out).mono ?_); exact z11_0_; exact HC0.out; rintro e w14 ⟨rfl, hb⟩; refine ⟨_, rfl, ?_⟩; replace HB := bS_ hb; (try clear hb)))
     go_ret
     exact ⟨rT_, hB_⟩
    replace c13 := Bool.eq_false_iff.mpr c13
    subst c13
    replace H := in_ H (show ¬ (false = true) by decide)
    obtain rfl := Option.some.inj H
    go_wp2_with (first | ((with_reducible refine gC_ 47 ?_); refine gM_ (some 18) Tryz.func47 #[.slice A0 l0.length c0] ?_; (with_reducible refine (Faj.calls k1 _ _ l0 false _ ?_ ?_ A12.out).mono ?_); exact z11_0_; exact HC0.out; rintro e w15 ⟨rfl, hb⟩; refine ⟨_, rfl, ?_⟩; replace HB := bS_ hb; (try clear hb)))
    go_ret
    exact ⟨rT_, hB_⟩
   replace H := ig_ H; obtain ⟨c4b0, H⟩ := H
   replace H := ig_ H; obtain ⟨c5b0, H⟩ := H
   replace H := ob_ H; obtain ⟨t451, A6, H⟩ := H; try dsimp only at H
   have HC7 := aM_ H
   clear H
   obtain ⟨⟨ad449, e449, hx449_0, hx449_1, hx449_2⟩, p449, q449⟩ := at2_ (at_T40 HR1.out x9_1); cases e449
   try replace hx449_0 := hc_ HB hx449_0; try replace hx449_1 := hc_ HB hx449_1; try replace hx449_2 := hc_ HB hx449_2
   go_upto_if 15 with (first | ((with_reducible refine gD_ 6 ?_); (try (refine gate_guard (by rfl) ?_; dsimp only)); refine bx_ 6 #[.string (⟨#[]⟩ : ByteArray), .int .i64 0, .int .i64 0] 40 fun gb450 hg w8 hbox hb => ?_; have BK450 := aM_ (hbox); have GW450 := gW_ w hg; have GE450 := gW_ w hg; replace HB := bS_ hb; clear hb hbox hg; have hz9 := cf3_ BK450.out) | ((with_reducible refine gC_ 48 ?_); refine gM_ (some 14) Tryz.func48 #[.agg #[.string ((rd_T40 l1 x9_1).f0), .int .i64 ((rd_T40 l1 x9_1).f1), .int .i64 ((rd_T40 l1 x9_1).f2)]] ?_; (with_reducible refine (FaQ.calls k1 ((rd_T40 l1 x9_1).f0) ((rd_T40 l1 x9_1).f1) ((rd_T40 l1 x9_1).f2) t451 _ A6.out).mono ?_); rintro e w10 ⟨rfl, hb⟩; refine ⟨_, rfl, ?_⟩; replace BK450 := aM_ (blk_below (g := gb450) (o := .cells #[.string ((rd_T40 l1 x9_1).f0), .int .i64 ((rd_T40 l1 x9_1).f1), .int .i64 ((rd_T40 l1 x9_1).f2)] 40 (0, 0)) (by (with_reducible repeat (first | apply kN_ | apply kD_ | apply kA_)); refine blk_put (cs := #[.string ((rd_T40 l1 x9_1).f0), .int .i64 ((rd_T40 l1 x9_1).f1), .int .i64 0]) ?_ 2 _ rfl; (with_reducible repeat (first | apply kN_ | apply kD_ | apply kA_)); refine blk_put (cs := #[.string ((rd_T40 l1 x9_1).f0), .int .i64 0, .int .i64 0]) ?_ 1 _ rfl; (with_reducible repeat (first | apply kN_ | apply kD_ | apply kA_)); refine blk_put (cs := #[.string (⟨#[]⟩ : ByteArray), .int .i64 0, .int .i64 0]) ?_ 0 _ rfl; (with_reducible repeat (first | apply kN_ | apply kD_ | apply kA_)); exact BK450.out) hb); replace HB := bS_ hb; (try clear hb)))
   (try simp only [Act.put, List.setIfInBounds_toArray, List.set_cons_zero, List.set_cons_succ])
   have H := HC7.out
   clear HC7
   by_cases c11 : t451 = true
   rotate_left
   ·replace c11 := Bool.eq_false_iff.mpr c11
    subst c11
    replace H := in_ H (show ¬ (false = true) by decide)
    obtain rfl := Option.some.inj H
    go_wp2
    go_ret
    exact ⟨rT_, hB_⟩
   subst c11
   replace H := ip_ H rfl
   have H' := aM_ H
   clear H
   go_wp2
   go_roundg k1
   case measure => have := HK1.out; omega
   case rel => exact ⟨(wrap64 (x9_1 + 1)), z11_1_, H', ⟨by have := HK1.out; omega⟩, ⟨hB_⟩⟩

theorem Fbe.calls (a0 r : Int) (w : World) (h : Fbe.f a0 = some r) :
 Calls Tryz.prog 42 #[.int .i64 a0] w fun e w' => e = .returned (.int .i64 r) ∧ Drawn0 w w' := by
 have H : ((Fbh.f a0 (wrap64 (-a0))).bind fun t453 => (some t453)) = some r := h
 clear h
 replace H := ob_ H; obtain ⟨t453, A2, H⟩ := H; try dsimp only at H
 obtain rfl := Option.some.inj H
 go_enter Tryz.func42, Tryz.ntmps42
 go_wp2_with (first | ((with_reducible refine gC_ 69 ?_); refine gM_ (some 6) Tryz.func69 #[.int .i64 a0, .int .i64 (wrap64 (-a0))] ?_; (with_reducible refine (Fbh.calls a0 (wrap64 (-a0)) t453 _ A2.out).mono ?_); rintro e w' ⟨rfl, ⟨nd, rfl⟩⟩; refine ⟨_, rfl, ?_⟩))
 go_ret
 exact ⟨z11_1_, by repeat (first | exact Drawn0.refl _ | apply Drawn0.step)⟩

end Go.Proofs.YtbfkpgmdbafmhaaGreat.PFnVerbRuns
