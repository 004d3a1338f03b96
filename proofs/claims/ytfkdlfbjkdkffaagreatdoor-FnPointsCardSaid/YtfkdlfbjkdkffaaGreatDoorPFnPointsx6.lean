/- Printed for this claim: functions of the program as Lean functions, and that the calls answer so. -/
import Derived.Test.YtfkdlfbjkdkffaaGreatDoorPFnPointsx0
import Derived.Test.YtfkdlfbjkdkffaaGreatDoorPFnPointsx2
import Derived.Test.YtfkdlfbjkdkffaaGreatDoorPFnPointsx3
import Derived.Test.YtfkdlfbjkdkffaaGreatDoorPFnPointsx4
import Derived.Test.YtfkdlfbjkdkffaaGreatDoorPFnPointsx5
import Derived.Test.YtfkdlfbjkdkffaaGreatDoorPFnPointsxD0
namespace Go.Proofs.YtfkdlfbjkdkffaaGreatDoor.PFnPoints
open Go.RowKit Go.Proofs.YtfkdlfbjkdkffaaGreatDoorW.PrintWords Go.Proofs.YtfkdlfbjkdkffaaGreatDoorW.PrintLast Go.Proofs.YtfkdlfbjkdkffaaGreatDoorW.PrintMore
theorem z6_0_ {p : Prop} (h : p := by first | rfl | (simp; done) | (simp [*]; done)) : p := h
theorem z6_1_ {p : Prop} (h : p := by first | exact Kd.R_nil _ _ _ _ _ | exact Kd.N_nil _ _ _ _ _ | exact Kd.V_nil _ _ _ _ _ | exact Kd.Q_nil _ _ _ _ _ | exact Kd.S_nil _ _ _ _ _) : p := h
theorem z6_2_ {p : Prop} (h : p := by have := HK1.out; omega) : p := h
theorem z6_3_ {p : Prop} (h : p := by (with_reducible repeat (first | apply kN_ | apply kD_ | apply kA_)); refine blk_put (cs := #[.string ((rd_T58 l0 x10_1).f0), .int .i64 0]) ?_ 1 _ rfl; (with_reducible repeat (first | apply kN_ | apply kD_ | apply kA_)); refine blk_put (cs := #[.string (⟨#[]⟩ : ByteArray), .int .i64 0]) ?_ 0 _ rfl; (with_reducible repeat (first | apply kN_ | apply kD_ | apply kA_)); exact BK177.out) : p := h
theorem z6_4_ {p : Prop} (h : p := by repeat (first | exact (Kd.C_below HR0.out HB.out) | (with_reducible first | apply cA_ | apply cN_ | apply cD_))) : p := h
theorem z6_5_ {p : Prop} (h : p := by repeat (first | (with_reducible first | exact HI0.out | apply IsS70.alloc | apply IsS70.drewN | apply IsS70.drew | apply IsS70.set_1 | apply IsS70.set_2) | exact HI0.out)) : p := h
theorem z6_6_ {p : Prop} (h : p := by repeat (first | (with_reducible first | exact HB.out | apply lA_ | apply lN_ | apply lD_ | refine below_set ?_ (IsS70.ge HI0.out)) | exact HB.out)) : p := h
theorem z6_7_ {p : Prop} (h : p := by repeat (first | (with_reducible first | exact HK.out | apply KeepBut.set_ | apply keep_drewN | apply keep_drew | apply keep_alloc) | exact HK.out)) : p := h
theorem z6_8_ {p : Prop} (h : p := by repeat (first | (with_reducible first | exact HB.out | apply lA_ | apply lN_ | apply lD_ | refine below_set ?_ (IsS70.ge HI266.out)) | exact HB.out)) : p := h
theorem z6_9_ {p : Prop} (h : p := by repeat (first | exact Drawn0.refl _ | apply Drawn0.step)) : p := h
set_option maxHeartbeats 8000000
set_option maxRecDepth 100000
attribute [local go_sem] max2_int min2_int max_two min_two max_three min_three max_four min_four isSome_setCell   -- for this text's walks alone
set_option linter.unusedVariables false
set_option linter.unusedSimpArgs false

/-! ### spec_loWithout: function 109 -/
theorem spec_loWithout.calls (k : Nat) (A0 : Option Addr) (c0 : Nat) (l0 : List (S58)) (a1 : ByteArray) (r : List (S58)) (w : World) (hr0 : Kd.C k58 w A0 l0.length l0) (hc0 : l0.length ≤ c0) (h : spec_loWithout.f k l0 a1 = some r) :
 Calls Tryz.prog 109 #[.slice A0 l0.length c0, .string a1] w fun e w' => ∃ v0_ : Value, e = .returned (v0_) ∧ Kd.R k58 58 w' w.heap.size (fun _ => True) v0_ r ∧ Below w.heap.size w w' := by
 have hu58 := Tryz.underlying58
 have HR0 := Aside0.mk hr0
 have HC0 := Aside0.mk hc0
 clear hr0 hc0
 have HB := Aside0.mk (Below.refl w.heap.size w)
 have H : (spec_loWithout.l0 k a1 ([] : List (S58)) l0 (l0.length : Int) 0) = some r := h
 clear h
 have H' := Aside0.mk H
 clear H
 go_enter Tryz.func109, Tryz.ntmps109
 go_wp2
 go_loopg [5, 10] k (fun kq v5 v10 w' => ∃ (x5_1 : List (S58)) (x10_1 : Int), v10 = .int .i64 x10_1 ∧ Aside0 (spec_loWithout.l0 kq a1 x5_1 l0 (l0.length : Int) x10_1 = some r) ∧ Aside0 (kq ≤ k) ∧ Aside0 (Kd.R k58 58 w' w.heap.size (fun _ => True) v5 x5_1) ∧ Aside0 (Below w.heap.size w w'))
 case atStart => exact ⟨(([] : List (S58))), (0), z6_0_, H', ⟨Nat.le_refl _⟩, ⟨z6_1_⟩, ⟨hB_⟩⟩
 case round =>
  clear H'
  obtain ⟨x5_1, x10_1, rfl, HA, HK1, HO_5, HB⟩ := hrel
  cases gk with
  | zero => exact absurd HA.out (by simp [spec_loWithout.l0])
  | succ k1 =>
   have H := HA.out
   clear HA
   simp only [spec_loWithout.l0] at H
   replace H := iF_ H; obtain ⟨c3b0, H⟩ | ⟨c3b0, H⟩ := H
   ·obtain rfl := Option.some.inj H
    go_wp2
    go_ret
    exact ⟨_, rT_, (rR_ HO_5), hB_⟩
   replace H := ig_ H; obtain ⟨c4b0, H⟩ := H
   replace H := ig_ H; obtain ⟨c5b0, H⟩ := H
   have HC6 := Aside0.mk H
   clear H
   have p176 : 0 ≤ (x10_1 : Int) := ode_
   have q176 : x10_1 < (l0.length : Int) := ode_
   obtain ⟨ad176, e176, hx176_0, hx176_1⟩ := at_T58 HR0.out x10_1 p176 q176
   cases e176
   try replace hx176_0 := hc_ HB hx176_0
   try replace hx176_1 := hc_ HB hx176_1
   replace p176 := eq_true p176
   replace q176 := eq_true q176
   go_upto_if 17 with (first | ((with_reducible refine gate_dst (N := 7) rfl ?_); refine bx_ 7 #[.string (⟨#[]⟩ : ByteArray), .int .i64 0] 58 fun gb177 hg w7 hbox hb => ?_; have BK177 := aM_ (hbox); have GW177 := aM_ (gw_ w hg); have GE177 := aM_ (gw_ w hg); replace HO_5 := aM_ (Kd.R_below (Kd.R_elderB (rR_ HO_5) gb177 (Nat.le_of_eq hg.symm)) hb); replace HB := aM_ (below_step hB_ hb); clear hb hbox hg; have hz8 := cf2_ BK177.out))
   (try simp only [Act.put, List.setIfInBounds_toArray, List.set_cons_zero, List.set_cons_succ])
   have H := HC6.out
   clear HC6
   by_cases c9 : ((rd_T58 l0 x10_1).f0).toList = a1.toList
   ·rw [if_pos c9] at H
    have c9b0 : (((rd_T58 l0 x10_1).f0).toList == a1.toList) = true := beq_iff_eq.mpr c9
    have c9b1 : (((rd_T58 l0 x10_1).f0).toList != a1.toList) = false := bne_eq_false_iff_eq.mpr c9
    clear c9
    (first | rw [c9b0] | (simp only [i64_w, i32_w]; rw [c9b0]) | skip)
    have H' := Aside0.mk H
    clear H
    go_wp2
    go_roundg k1
    case measure => have := HK1.out; omega
    case rel => exact ⟨(x5_1), (wrap64 (x10_1 + 1)), z6_0_, H', ⟨z6_2_⟩, ⟨by (with_reducible repeat (first | apply rA_ | apply rN_ | apply rD_)); exact Kd.R_mono (Kd.R_far (p := ⟨gb177, 1, none⟩) (Kd.R_far (p := ⟨gb177, 0, none⟩) (Kd.R_mono HO_5.out (fun k_ hk => (⟨hk, hk.2⟩ : _ ∧ k_ ≠ gb177))) (fun _ hk => hk.2) (.string ((rd_T58 l0 x10_1).f0))) (fun _ hk => hk.2) (.int .i64 ((rd_T58 l0 x10_1).f1))) (fun _ hk => trivial)⟩, ⟨hB_⟩⟩
   rw [if_neg c9] at H
   have c9b0 : (((rd_T58 l0 x10_1).f0).toList == a1.toList) = false := beq_eq_false_iff_ne.mpr c9
   have c9b1 : (((rd_T58 l0 x10_1).f0).toList != a1.toList) = true := bne_iff_ne.mpr c9
   (first | rw [c9b0] | (simp only [i64_w, i32_w]; rw [c9b0]) | skip)
   replace H := il_ H; obtain ⟨LMc10, H⟩ := H
   obtain ⟨y178, hy178⟩ : ∃ y_ : List (S58), y_ = (x5_1 ++ [(⟨(rd_T58 l0 x10_1).f0, (rd_T58 l0 x10_1).f1⟩ : S58)]) := ⟨_, rfl⟩
   rw [← hy178] at H
   have Ny178 := Aside0.mk hy178; clear hy178
   have H' := Aside0.mk H
   clear H
   have hz11 := cf2_ BK177.out
   go_wp2_with (first | ((with_reducible refine gate_builtin (b := .append) (xs := #[.tmp 18, .tmp 20]) rfl ?_); at_builtin; refine Kd.R_append k58 (w0 := w) w.heap.size rfl (.tmp 18) (.tmp 20) 23 58 (.agg #[(.string ⟨#[]⟩), (.int .i64 0)]) 24 rfl Tryz.underlying23 info58 rfl (by decide) (by omega) u5 x5_1 (⟨(rd_T58 l0 x10_1).f0, (rd_T58 l0 x10_1).f1⟩ : S58) [.string ((rd_T58 l0 x10_1).f0), .int .i64 ((rd_T58 l0 x10_1).f1)] (fun k_ => k_ ≠ gb177) (fun _ => False) rfl (by first | (go_simp; done) | (go_simp; rfl)) ?aP (fun _ hk => hk.elim) ?aF ?aO ?aB ?aS ?aL ?_; (case aP => exact k58_mkM _ _ _ (⟨(rd_T58 l0 x10_1).f0, (rd_T58 l0 x10_1).f1⟩ : S58)); (case aB => exact hB_); (case aF => exact (fun k_ hk => Kd.freshB (g := gb177) (o := .cells #[.string ((rd_T58 l0 x10_1).f0), .int .i64 ((rd_T58 l0 x10_1).f1)] 58 (0, 0)) z6_3_ k_ hk)); (case aO => exact (by (with_reducible repeat (first | apply rA_ | apply rN_ | apply rD_)); exact Kd.R_mono (Kd.R_far (p := ⟨gb177, 1, none⟩) (Kd.R_far (p := ⟨gb177, 0, none⟩) (Kd.R_mono HO_5.out (fun k_ hk => (⟨hk, hk.2⟩ : _ ∧ k_ ≠ gb177))) (fun _ hk => hk.2) (.string ((rd_T58 l0 x10_1).f0))) (fun _ hk => hk.2) (.int .i64 ((rd_T58 l0 x10_1).f1))) (fun _ hk => hk.1.2))); (case aS => exact (below_size hB_)); (case aL => have := LMc10.out; omega); intro v179 w12 ho hb hg hat; rw [← Ny178.out] at ho; have HO180 := aM_ (ho); replace BK177 := aM_ (blk_grown (g := gb177) (o := .cells #[.string ((rd_T58 l0 x10_1).f0), .int .i64 ((rd_T58 l0 x10_1).f1)] 58 (0, 0)) z6_3_ hg (Kd.R_away HO_5.out (fun _ hk => hk.2))); replace HB := aM_ (hb); clear HO_5; clear ho hb hg hat))
   go_roundg k1
   case measure => have := HK1.out; omega
   case rel => exact ⟨(y178), (wrap64 (x10_1 + 1)), z6_0_, H', ⟨z6_2_⟩, ⟨rT1_ HO180⟩, ⟨hB_⟩⟩

/-! ### spec_PutReferent: function 83 -/
theorem spec_PutReferent.calls (k : Nat) (A0 : Option Addr) (c0 : Nat) (l0 : List (S58)) (a1 : ByteArray) (a2 : Int) (r1 : List (S58)) (r2 : Bool) (w : World) (hr0 : Kd.C k58 w A0 l0.length l0) (hc0 : l0.length ≤ c0) (h : spec_PutReferent.f k l0 a1 a2 = some (r1, r2)) :
 Calls Tryz.prog 83 #[.slice A0 l0.length c0, .string a1, .int .i64 a2] w fun e w' => ∃ v0_ : Value, e = .returned (.tuple #[v0_, .bool r2]) ∧ Kd.R k58 58 w' w.heap.size (fun _ => True) v0_ r1 ∧ Below w.heap.size w w' := by
 have hu58 := Tryz.underlying58
 have HR0 := Aside0.mk hr0
 have HC0 := Aside0.mk hc0
 clear hr0 hc0
 have HB := Aside0.mk (Below.refl w.heap.size w)
 have H : ((spec_loGood.f k l0).bind fun t181 => (if t181 = true then ((spec_naName.f k a1).bind fun t182 => (if t182 = true then ((spec_loAngle.f a2).bind fun t183 => (spec_PutReferent.j0 k l0 a1 a2 (!t183))) else (spec_PutReferent.j0 k l0 a1 a2 true))) else (spec_PutReferent.j0 k l0 a1 a2 true))) = some (r1, r2) := h
 clear h
 have HC4 := Aside0.mk H
 clear H
 go_enter Tryz.func83, Tryz.ntmps83
 go_upto_region 1 with (fail)
 go_cut [20] (fun v20 wc => ∃ (kq : Nat) (x20_3 : Bool), v20 = .bool x20_3 ∧ Aside0 (spec_PutReferent.j0 kq l0 a1 a2 x20_3 = some (r1, r2)) ∧ Aside0 (kq ≤ k) ∧ Aside0 (Below w.heap.size w wc))
 case first =>
  have H := HC4.out
  clear HC4
  replace H := ob_ H; obtain ⟨t181, A5, H⟩ := H; try dsimp only at H
  by_cases c6 : t181 = true
  rotate_left
  ·replace c6 := Bool.eq_false_iff.mpr c6
   subst c6
   replace H := in_ H (show ¬ (false = true) by decide)
   have H' := Aside0.mk H
   clear H
   go_wp2_with (first | ((with_reducible refine gC_ 50 ?_); refine gM_ (some 9) Tryz.func50 #[.slice A0 l0.length c0] ?_; (with_reducible refine (spec_loGood.calls k _ _ l0 false _ ?side1 ?side2 A5.out).mono ?_); (case side1 => exact z6_4_); (case side2 => exact HC0.out); rintro e w12 ⟨rfl, hb⟩; refine ⟨_, rfl, ?_⟩; replace HB := aM_ (below_step hB_ hb); (try clear hb)))
   go_meet
   case rel => exact ⟨_, (true), z6_0_, H', ⟨oR_⟩, ⟨hB_⟩⟩
  subst c6
  replace H := ip_ H rfl
  replace H := ob_ H; obtain ⟨t182, A7, H⟩ := H; try dsimp only at H
  by_cases c8 : t182 = true
  rotate_left
  ·replace c8 := Bool.eq_false_iff.mpr c8
   subst c8
   replace H := in_ H (show ¬ (false = true) by decide)
   have H' := Aside0.mk H
   clear H
   go_wp2_with (first | ((with_reducible refine gC_ 50 ?_); refine gM_ (some 9) Tryz.func50 #[.slice A0 l0.length c0] ?_; (with_reducible refine (spec_loGood.calls k _ _ l0 true _ ?side1 ?side2 A5.out).mono ?_); (case side1 => exact z6_4_); (case side2 => exact HC0.out); rintro e w11 ⟨rfl, hb⟩; refine ⟨_, rfl, ?_⟩; replace HB := aM_ (below_step hB_ hb); (try clear hb)) | (go_at_call 91; (with_reducible refine (spec_naName.calls k a1 false _ A7.out).mono ?_); rintro e w' ⟨rfl, ⟨nd, rfl⟩⟩))
   go_meet
   case rel => exact ⟨_, (true), z6_0_, H', ⟨oR_⟩, ⟨hB_⟩⟩
  subst c8
  replace H := ip_ H rfl
  replace H := ob_ H; obtain ⟨t183, A9, H⟩ := H; try dsimp only at H
  have H' := Aside0.mk H
  clear H
  go_wp2_with (first | ((with_reducible refine gC_ 50 ?_); refine gM_ (some 9) Tryz.func50 #[.slice A0 l0.length c0] ?_; (with_reducible refine (spec_loGood.calls k _ _ l0 true _ ?side1 ?side2 A5.out).mono ?_); (case side1 => exact z6_4_); (case side2 => exact HC0.out); rintro e w10 ⟨rfl, hb⟩; refine ⟨_, rfl, ?_⟩; replace HB := aM_ (below_step hB_ hb); (try clear hb)) | (go_at_call 91; (with_reducible refine (spec_naName.calls k a1 true _ A7.out).mono ?_); rintro e w' ⟨rfl, ⟨nd, rfl⟩⟩) | (go_at_call 81; (with_reducible refine (spec_loAngle.calls a2 t183 _ A9.out).mono ?_); rintro e w' ⟨rfl, ⟨nd, rfl⟩⟩))
  go_meet
  case rel => exact ⟨_, (!t183), z6_0_, H', ⟨oR_⟩, ⟨hB_⟩⟩
 case rest =>
  clear HC4
  obtain ⟨kq, x20_3, rfl, HA, HJ3, HB⟩ := hcut
  cases kq with
  | zero => exact absurd HA.out (by simp [spec_PutReferent.j0])
  | succ kj3 =>
   have H := HA.out
   clear HA
   simp only [spec_PutReferent.j0] at H
   by_cases c13 : x20_3 = true
   ·subst c13
    replace H := ip_ H rfl
    simp only [Option.some.injEq, Prod.mk.injEq] at H
    obtain ⟨rfl, rfl⟩ := H
    go_wp2
    go_ret2
    exact ⟨_, rT_, z6_1_, hB_⟩
   replace c13 := Bool.eq_false_iff.mpr c13
   subst c13
   replace H := in_ H (show ¬ (false = true) by decide)
   replace H := ob_ H; obtain ⟨t184, A14, H⟩ := H; try dsimp only at H
   replace H := ob_ H; obtain ⟨t187, A15, H⟩ := H; try dsimp only at H
   replace H := ob_ H; obtain ⟨⟨t190, t193⟩, A16, H⟩ := H; try dsimp only at H
   simp only [Option.some.injEq, Prod.mk.injEq] at H
   obtain ⟨rfl, rfl⟩ := H
   go_wp2_with (first | ((with_reducible refine gC_ 109 ?_); refine gM_ (some 23) Tryz.func109 #[.slice A0 l0.length c0, .string a1] ?_; (with_reducible refine (spec_loWithout.calls kj3 _ _ l0 a1 t184 _ ?side1 ?side2 A14.out).mono ?_); (case side1 => exact z6_4_); (case side2 => exact HC0.out); rintro e w17 ⟨v185, rfl, ho0, hb⟩; refine ⟨_, rfl, ?_⟩; have HO186 := aM_ (Kd.R_lower ho0 (below_size hB_)); replace HB := aM_ (below_step hB_ hb); (try clear hb); (try clear ho0); obtain ⟨Ao18, co18, eo18⟩ := Kd.R_slice HO186.out; subst eo18) | ((with_reducible refine gC_ 108 ?_); refine gM_ (some 27) Tryz.func108 #[.slice Ao18 t184.length co18, .agg #[.string a1, .int .i64 a2]] ?_; (with_reducible refine (spec_loPut.calls kj3 _ _ t184 a1 a2 t187 _ ?side1 ?side2 A15.out).mono ?_); (case side1 => exact cR_ HO186); (case side2 => exact (Kd.R_reads' HO186.out).2.1); rintro e w19 ⟨v188, rfl, ho0, hb⟩; refine ⟨_, rfl, ?_⟩; have HO189 := aM_ (Kd.R_lower (Kd.R_new' ho0 (Kd.R_lt (rR_ HO186))) (below_size hB_)); replace HO186 := aM_ (Kd.R_elder' (rR_ HO186) (Kd.R_base ho0) hb); replace HB := aM_ (below_step hB_ hb); (try clear hb); (try clear ho0); obtain ⟨Ao20, co20, eo20⟩ := Kd.R_slice HO189.out; subst eo20) | ((with_reducible refine gC_ 107 ?_); refine gM_ (some 28) Tryz.func107 #[.slice Ao20 t187.length co20] ?_; (with_reducible refine (spec_loIf.calls kj3 (fun k_ => some k_ = (.slice Ao20 t187.length co20 : Value).ownBlock) (.slice Ao20 t187.length co20) t187 t190 t193 w _ ?side1 ?side2 A16.out).mono ?_); (case side1 => exact (by repeat (first | (with_reducible first | exact HB.out | apply lA_ | apply lN_ | apply lD_) | exact HB.out))); (case side2 => exact Kd.R_tight rfl HO189.out); rintro e w21 ⟨v191, rfl, ho0, hb, hkp⟩; refine ⟨_, rfl, ?_⟩; have HO192 := aM_ (Kd.R_mono (ok' := fun k_ => some k_ ≠ (.slice Ao18 t184.length co18 : Value).ownBlock) ho0 (fun k_ hk_ => Or.elim hk_ (fun hs_ => fun e_ => (((HO186.out).1 k_ e_.symm).2) hs_) (fun hn_ => (Kd.fresh' (Kd.R_lt (rR_ HO186)) k_ hn_)))); replace HO186 := aM_ (Kd.R_mono (ok' := fun k_ => some k_ ≠ (v191 : Value).ownBlock) (Kd.R_keptB (HO186.out) hkp (fun k_ hk_ hs_ => (hk_.2) hs_)) (fun k_ hk_ => fun e_ => Or.elim (ho0.1 k_ e_.symm) (fun hs_ => hk_.2.1 hs_) (fun hn_ => Nat.not_le.2 hk_.2.2 hn_))); replace HB := aM_ (hb); clear HO189; (try clear hb); (try clear hkp); (try clear ho0)))
   go_ret2
   exact ⟨_, rT_, by (with_reducible repeat (first | apply rA_ | apply rN_ | apply rD_)); exact Kd.R_mono HO192.out (fun _ hk => trivial), hB_⟩

/-! ### spec_l1Cur_of: function 44 -/
theorem spec_l1Cur_of.calls (g : Nat) (s0_0 : List Int) (s0_1 : Int) (s0_2 : Int) (A1 : Option Addr) (c1 : Nat) (l1 : List ByteArray) (r1 : ByteArray) (r2 : Int) (r3 : Int) (w0 w : World) (hI : IsS70 w0 w g s0_0 s0_1 s0_2) (hB : Below w0.heap.size w0 w) (hr1 : Kd.C Kd.string w A1 l1.length l1) (hc1 : l1.length ≤ c1) (hf1 : ∀ ad, A1 = some ad → 0 < l1.length → ad.block ≠ g) (h : spec_l1Cur_of.f s0_0 s0_1 s0_2 l1 = some (r1, r2, r3)) :
 Calls Tryz.prog 44 #[.pointer (some ⟨g, 0, none⟩), .slice A1 l1.length c1] w fun e w' => e = .returned (.string r1) ∧ IsS70 w0 w' g s0_0 r2 r3 ∧ Below w0.heap.size w0 w' ∧ KeepBut w w' g none := by
 have HR1 := Aside0.mk hr1
 have HC1 := Aside0.mk hc1
 clear hr1 hc1
 have HI0 := Aside0.mk hI
 have HK := Aside0.mk (KeepBut.refl w g none)
 have HL := Aside0.mk hB.size
 clear hI
 have HW0 := Aside0.mk hB.size
 have HB := Aside0.mk hB
 clear hB
 have H : ((spec_l1Cur_pick.f s0_0 s0_1 s0_2 (l1.length : Int)).bind fun bt194 => (if 0 ≤ bt194.1 then (if bt194.1 < (l1.length : Int) then (some (rdOf ByteArray.empty l1 bt194.1, bt194.2.1, bt194.2.2)) else (none)) else (none))) = some (r1, r2, r3) := h
 clear h
 replace H := ob_ H; obtain ⟨⟨t194, t195, t196⟩, A3, H⟩ := H; try dsimp only at H
 replace H := ig_ H; obtain ⟨c4b0, H⟩ := H
 replace H := ig_ H; obtain ⟨c5b0, H⟩ := H
 simp only [Option.some.injEq, Prod.mk.injEq] at H
 obtain ⟨rfl, rfl, rfl⟩ := H
 go_enter Tryz.func44, Tryz.ntmps44
 go_wp2_with (first | ((with_reducible refine gC_ 59 ?_); refine gM_ (some 9) Tryz.func59 #[.pointer (some ⟨g, 0, none⟩), .int .i64 (l1.length : Int)] ?_; (with_reducible refine (spec_l1Cur_pick.calls g s0_0 s0_1 s0_2 (l1.length : Int) t194 t195 t196 w0 _ ?side1 ?side2 A3.out).mono ?_); (case side1 => exact z6_5_); (case side2 => exact z6_6_); rintro e w6 ⟨rfl, hi, hb, hk⟩; refine ⟨_, rfl, ?_⟩; replace HK := aM_ (KeepBut.trans z6_7_ hk (.inl rfl)); replace HB := aM_ (hb); replace HI0 := aM_ (hi); (try clear hb); (try clear hk); (try clear hi); have p197 : 0 ≤ (t194 : Int) := ode_; have q197 : t194 < (l1.length : Int) := ode_; obtain ⟨ad197, e197, hx197_0⟩ := Kd.at_string HR1.out t194 p197 q197; cases e197; replace hx197_0 := keep_cell HK.out hx197_0 (by first | (rw [add_block]; exact hf1 _ rfl (by omega)) | exact hf1 _ rfl (by omega) | exact hf1 ad197 rfl (by omega)); replace p197 := eq_true p197; replace q197 := eq_true q197))
 go_ret
 exact ⟨rT_, z6_5_, z6_6_, z6_7_⟩

/-! ### spec_l1Cur_referent: function 84 -/
theorem spec_l1Cur_referent.calls (g : Nat) (s0_0 : List Int) (s0_1 : Int) (s0_2 : Int) (r1 : ByteArray) (r2 : Int) (r3 : Int) (w0 w : World) (hI : IsS70 w0 w g s0_0 s0_1 s0_2) (hB : Below w0.heap.size w0 w) (h : spec_l1Cur_referent.f s0_0 s0_1 s0_2 = some (r1, r2, r3)) :
 Calls Tryz.prog 84 #[.pointer (some ⟨g, 0, none⟩)] w fun e w' => e = .returned (.string r1) ∧ IsS70 w0 w' g s0_0 r2 r3 ∧ Below w0.heap.size w0 w' ∧ KeepBut w w' g none := by
 have HI0 := Aside0.mk hI
 have HK := Aside0.mk (KeepBut.refl w g none)
 have HL := Aside0.mk hB.size
 clear hI
 have HW0 := Aside0.mk hB.size
 have HB := Aside0.mk hB
 clear hB
 have H : ((spec_l1Cur_of.f s0_0 s0_1 s0_2 (([(⟨#[109, 97, 114, 121]⟩ : ByteArray), (⟨#[106, 111, 104, 110]⟩ : ByteArray), (⟨#[100, 111, 103]⟩ : ByteArray), (⟨#[99, 97, 116]⟩ : ByteArray), (⟨#[115, 105, 103, 110, 101, 114]⟩ : ByteArray)] : List ByteArray))).bind fun bt201 => (some (bt201.1, bt201.2.1, bt201.2.2))) = some (r1, r2, r3) := h
 clear h
 obtain ⟨y198, hy198⟩ : ∃ y_ : List ByteArray, y_ = (([(⟨#[109, 97, 114, 121]⟩ : ByteArray), (⟨#[106, 111, 104, 110]⟩ : ByteArray), (⟨#[100, 111, 103]⟩ : ByteArray), (⟨#[99, 97, 116]⟩ : ByteArray), (⟨#[115, 105, 103, 110, 101, 114]⟩ : ByteArray)] : List ByteArray)) := ⟨_, rfl⟩
 rw [← hy198] at H
 have Ny198 := Aside0.mk hy198; clear hy198
 replace H := ob_ H; obtain ⟨⟨t201, t202, t203⟩, A2, H⟩ := H; try dsimp only at H
 simp only [Option.some.injEq, Prod.mk.injEq] at H
 obtain ⟨rfl, rfl, rfl⟩ := H
 go_enter Tryz.func84, Tryz.ntmps84
 go_wp2_with (first | ((with_reducible refine gate_dst (N := 4) rfl ?_); refine rl_ Kd.string 9 4 ([(⟨#[109, 97, 114, 121]⟩ : ByteArray), (⟨#[106, 111, 104, 110]⟩ : ByteArray), (⟨#[100, 111, 103]⟩ : ByteArray), (⟨#[99, 97, 116]⟩ : ByteArray), (⟨#[115, 105, 103, 110, 101, 114]⟩ : ByteArray)] : List ByteArray) [.string (⟨#[109, 97, 114, 121]⟩ : ByteArray), .string (⟨#[106, 111, 104, 110]⟩ : ByteArray), .string (⟨#[100, 111, 103]⟩ : ByteArray), .string (⟨#[99, 97, 116]⟩ : ByteArray), .string (⟨#[115, 105, 103, 110, 101, 114]⟩ : ByteArray)] (Reps.one (show Kd.M Kd.string _ _ _ (⟨#[109, 97, 114, 121]⟩ : ByteArray) [.string (⟨#[109, 97, 114, 121]⟩ : ByteArray)] from rfl) (Reps.one (show Kd.M Kd.string _ _ _ (⟨#[106, 111, 104, 110]⟩ : ByteArray) [.string (⟨#[106, 111, 104, 110]⟩ : ByteArray)] from rfl) (Reps.one (show Kd.M Kd.string _ _ _ (⟨#[100, 111, 103]⟩ : ByteArray) [.string (⟨#[100, 111, 103]⟩ : ByteArray)] from rfl) (Reps.one (show Kd.M Kd.string _ _ _ (⟨#[99, 97, 116]⟩ : ByteArray) [.string (⟨#[99, 97, 116]⟩ : ByteArray)] from rfl) (Reps.one (show Kd.M Kd.string _ _ _ (⟨#[115, 105, 103, 110, 101, 114]⟩ : ByteArray) [.string (⟨#[115, 105, 103, 110, 101, 114]⟩ : ByteArray)] from rfl) (Reps.none _ _)))))) ?_; intro v199 w3 ho4 hb hg_ hnew_; clear hg_ hnew_; (first | rw [← Ny198.out] at ho4 | (simp only [Int.reduceToNat] at ho4; rw [← Ny198.out] at ho4)); have HO200 := aM_ (Kd.R_lower ho4 (keep_size (w := w) (g := g) (row := none) z6_7_)); replace HK := aM_ (KeepBut.trans z6_7_ (KeepBut.of_below hb g none) (.inl rfl)); replace HB := aM_ (below_step z6_6_ hb); replace HI0 := aM_ (IsS70.below z6_5_ hb); clear hb ho4; obtain ⟨Ao5, co5, eo5⟩ := Kd.R_slice HO200.out; subst eo5) | ((with_reducible refine gC_ 44 ?_); refine gM_ (some 5) Tryz.func44 #[.pointer (some ⟨g, 0, none⟩), .slice Ao5 y198.length co5] ?_; (with_reducible refine (spec_l1Cur_of.calls g s0_0 s0_1 s0_2 _ _ y198 t201 t202 t203 w0 _ ?side1 ?side2 ?side3 ?side4 ?side5 A2.out).mono ?_); (case side1 => exact z6_5_); (case side2 => exact z6_6_); (case side3 => exact cR_ HO200); (case side4 => exact (Kd.R_reads' HO200.out).2.1); (case side5 => exact far_slice (IsS70.own_ne HI0.out HO200.out (by decide))); rintro e w6 ⟨rfl, hi, hb, hk⟩; refine ⟨_, rfl, ?_⟩; replace HO200 := aM_ (Kd.R_mono (Kd.R_keep (IsS70.apart (show IsS70 w0 _ g s0_0 s0_1 s0_2 from by repeat (first | (with_reducible first | exact HI0.out | apply IsS70.alloc | apply IsS70.drewN | apply IsS70.drew | apply IsS70.set_1 | apply IsS70.set_2) | exact HI0.out)) (rR_ HO200) (by decide)) hk (fun _ h => h.2)) (fun _ h => h.1)); replace HK := aM_ (KeepBut.trans z6_7_ hk (.inl rfl)); replace HB := aM_ (hb); replace HI0 := aM_ (hi); (try clear hb); (try clear hk); (try clear hi)))
 go_ret
 exact ⟨rT_, z6_5_, z6_6_, z6_7_⟩

/-! ### spec_l1Cur_among: function 78 -/
theorem spec_l1Cur_among.calls (g : Nat) (s0_0 : List Int) (s0_1 : Int) (s0_2 : Int) (A1 : Option Addr) (c1 : Nat) (l1 : List Int) (r1 : Int) (r2 : Int) (r3 : Int) (w0 w : World) (hI : IsS70 w0 w g s0_0 s0_1 s0_2) (hB : Below w0.heap.size w0 w) (hr1 : Kd.C (Kd.int .i64) w A1 l1.length l1) (hc1 : l1.length ≤ c1) (hf1 : ∀ ad, A1 = some ad → 0 < l1.length → ad.block ≠ g) (h : spec_l1Cur_among.f s0_0 s0_1 s0_2 l1 = some (r1, r2, r3)) :
 Calls Tryz.prog 78 #[.pointer (some ⟨g, 0, none⟩), .slice A1 l1.length c1] w fun e w' => e = .returned (.int .i64 r1) ∧ IsS70 w0 w' g s0_0 r2 r3 ∧ Below w0.heap.size w0 w' ∧ KeepBut w w' g none := by
 have HR1 := Aside0.mk hr1
 have HC1 := Aside0.mk hc1
 clear hr1 hc1
 have HI0 := Aside0.mk hI
 have HK := Aside0.mk (KeepBut.refl w g none)
 have HL := Aside0.mk hB.size
 clear hI
 have HW0 := Aside0.mk hB.size
 have HB := Aside0.mk hB
 clear hB
 have H : ((spec_l1Cur_pick.f s0_0 s0_1 s0_2 (l1.length : Int)).bind fun bt204 => (if 0 ≤ bt204.1 then (if bt204.1 < (l1.length : Int) then (some (rd l1 bt204.1, bt204.2.1, bt204.2.2)) else (none)) else (none))) = some (r1, r2, r3) := h
 clear h
 replace H := ob_ H; obtain ⟨⟨t204, t205, t206⟩, A3, H⟩ := H; try dsimp only at H
 replace H := ig_ H; obtain ⟨c4b0, H⟩ := H
 replace H := ig_ H; obtain ⟨c5b0, H⟩ := H
 simp only [Option.some.injEq, Prod.mk.injEq] at H
 obtain ⟨rfl, rfl, rfl⟩ := H
 go_enter Tryz.func78, Tryz.ntmps78
 go_wp2_with (first | ((with_reducible refine gC_ 59 ?_); refine gM_ (some 9) Tryz.func59 #[.pointer (some ⟨g, 0, none⟩), .int .i64 (l1.length : Int)] ?_; (with_reducible refine (spec_l1Cur_pick.calls g s0_0 s0_1 s0_2 (l1.length : Int) t204 t205 t206 w0 _ ?side1 ?side2 A3.out).mono ?_); (case side1 => exact z6_5_); (case side2 => exact z6_6_); rintro e w6 ⟨rfl, hi, hb, hk⟩; refine ⟨_, rfl, ?_⟩; replace HK := aM_ (KeepBut.trans z6_7_ hk (.inl rfl)); replace HB := aM_ (hb); replace HI0 := aM_ (hi); (try clear hb); (try clear hk); (try clear hi); have p207 : 0 ≤ (t204 : Int) := ode_; have q207 : t204 < (l1.length : Int) := ode_; obtain ⟨ad207, e207, hx207_0⟩ := Kd.at_int HR1.out t204 p207 q207; cases e207; replace hx207_0 := keep_cell HK.out hx207_0 (by first | (rw [add_block]; exact hf1 _ rfl (by omega)) | exact hf1 _ rfl (by omega) | exact hf1 ad207 rfl (by omega)); replace p207 := eq_true p207; replace q207 := eq_true q207))
 go_ret
 exact ⟨rT_, z6_5_, z6_6_, z6_7_⟩

/-! ### spec_l1Cur_angleOf: function 85 -/
theorem spec_l1Cur_angleOf.calls (g : Nat) (s0_0 : List Int) (s0_1 : Int) (s0_2 : Int) (r1 : Int) (r2 : Int) (r3 : Int) (w0 w : World) (hI : IsS70 w0 w g s0_0 s0_1 s0_2) (hB : Below w0.heap.size w0 w) (h : spec_l1Cur_angleOf.f s0_0 s0_1 s0_2 = some (r1, r2, r3)) :
 Calls Tryz.prog 85 #[.pointer (some ⟨g, 0, none⟩)] w fun e w' => e = .returned (.int .i64 r1) ∧ IsS70 w0 w' g s0_0 r2 r3 ∧ Below w0.heap.size w0 w' ∧ KeepBut w w' g none := by
 have HI0 := Aside0.mk hI
 have HK := Aside0.mk (KeepBut.refl w g none)
 have HL := Aside0.mk hB.size
 clear hI
 have HW0 := Aside0.mk hB.size
 have HB := Aside0.mk hB
 clear hB
 have H : ((spec_l1Cur_pick.f s0_0 s0_1 s0_2 181).bind fun bt208 => ((spec_l1Cur_among.f s0_0 bt208.2.1 bt208.2.2 (([5, 91, (-91), (-9223372036854775808)] : List Int))).bind fun bt214 => ((spec_l1Cur_among.f s0_0 bt214.2.1 bt214.2.2 (([0, (-40), 30, 25, 10, wrap64 (bt208.1 - 90), 90, (-90), bt214.1] : List Int))).bind fun bt220 => (some (bt220.1, bt220.2.1, bt220.2.2))))) = some (r1, r2, r3) := h
 clear h
 replace H := ob_ H; obtain ⟨⟨t208, t209, t210⟩, A2, H⟩ := H; try dsimp only at H
 obtain ⟨y211, hy211⟩ : ∃ y_ : List Int, y_ = (([5, 91, (-91), (-9223372036854775808)] : List Int)) := ⟨_, rfl⟩
 rw [← hy211] at H
 have Ny211 := Aside0.mk hy211; clear hy211
 replace H := ob_ H; obtain ⟨⟨t214, t215, t216⟩, A3, H⟩ := H; try dsimp only at H
 obtain ⟨y217, hy217⟩ : ∃ y_ : List Int, y_ = (([0, (-40), 30, 25, 10, wrap64 (t208 - 90), 90, (-90), t214] : List Int)) := ⟨_, rfl⟩
 rw [← hy217] at H
 have Ny217 := Aside0.mk hy217; clear hy217
 replace H := ob_ H; obtain ⟨⟨t220, t221, t222⟩, A4, H⟩ := H; try dsimp only at H
 simp only [Option.some.injEq, Prod.mk.injEq] at H
 obtain ⟨rfl, rfl, rfl⟩ := H
 go_enter Tryz.func85, Tryz.ntmps85
 go_wp2_with (first | ((with_reducible refine gC_ 59 ?_); refine gM_ (some 5) Tryz.func59 #[.pointer (some ⟨g, 0, none⟩), .int .i64 181] ?_; (with_reducible refine (spec_l1Cur_pick.calls g s0_0 s0_1 s0_2 181 t208 t209 t210 w0 _ ?side1 ?side2 A2.out).mono ?_); (case side1 => exact z6_5_); (case side2 => exact z6_6_); rintro e w5 ⟨rfl, hi, hb, hk⟩; refine ⟨_, rfl, ?_⟩; replace HK := aM_ (KeepBut.trans z6_7_ hk (.inl rfl)); replace HB := aM_ (hb); replace HI0 := aM_ (hi); (try clear hb); (try clear hk); (try clear hi)) | ((with_reducible refine gate_dst (N := 8) rfl ?_); refine rl_ (Kd.int .i64) 3 8 ([5, 91, (-91), (-9223372036854775808)] : List Int) [.int .i64 5, .int .i64 91, .int .i64 (-91), .int .i64 (-9223372036854775808)] (Reps.one (show Kd.M (Kd.int .i64) _ _ _ 5 [.int .i64 5] from rfl) (Reps.one (show Kd.M (Kd.int .i64) _ _ _ 91 [.int .i64 91] from rfl) (Reps.one (show Kd.M (Kd.int .i64) _ _ _ (-91) [.int .i64 (-91)] from rfl) (Reps.one (show Kd.M (Kd.int .i64) _ _ _ (-9223372036854775808) [.int .i64 (-9223372036854775808)] from rfl) (Reps.none _ _))))) ?_; intro v212 w6 ho7 hb hg_ hnew_; clear hg_ hnew_; (first | rw [← Ny211.out] at ho7 | (simp only [Int.reduceToNat] at ho7; rw [← Ny211.out] at ho7)); have HO213 := aM_ (Kd.R_lower ho7 (keep_size (w := w) (g := g) (row := none) z6_7_)); replace HK := aM_ (KeepBut.trans z6_7_ (KeepBut.of_below hb g none) (.inl rfl)); replace HB := aM_ (below_step z6_6_ hb); replace HI0 := aM_ (IsS70.below z6_5_ hb); clear hb ho7; obtain ⟨Ao8, co8, eo8⟩ := Kd.R_slice HO213.out; subst eo8) | ((with_reducible refine gC_ 78 ?_); refine gM_ (some 9) Tryz.func78 #[.pointer (some ⟨g, 0, none⟩), .slice Ao8 y211.length co8] ?_; (with_reducible refine (spec_l1Cur_among.calls g s0_0 t209 t210 _ _ y211 t214 t215 t216 w0 _ ?side1 ?side2 ?side3 ?side4 ?side5 A3.out).mono ?_); (case side1 => exact z6_5_); (case side2 => exact z6_6_); (case side3 => exact cR_ HO213); (case side4 => exact (Kd.R_reads' HO213.out).2.1); (case side5 => exact far_slice (IsS70.own_ne HI0.out HO213.out (by decide))); rintro e w9 ⟨rfl, hi, hb, hk⟩; refine ⟨_, rfl, ?_⟩; replace HO213 := aM_ (Kd.R_mono (Kd.R_keep (IsS70.apart (show IsS70 w0 _ g s0_0 t209 t210 from by repeat (first | (with_reducible first | exact HI0.out | apply IsS70.alloc | apply IsS70.drewN | apply IsS70.drew | apply IsS70.set_1 | apply IsS70.set_2) | exact HI0.out)) (rR_ HO213) (by decide)) hk (fun _ h => h.2)) (fun _ h => h.1)); replace HK := aM_ (KeepBut.trans z6_7_ hk (.inl rfl)); replace HB := aM_ (hb); replace HI0 := aM_ (hi); (try clear hb); (try clear hk); (try clear hi)) | ((with_reducible refine gate_dst (N := 10) rfl ?_); refine rl_ (Kd.int .i64) 3 10 ([0, (-40), 30, 25, 10, wrap64 (t208 - 90), 90, (-90), t214] : List Int) [.int .i64 0, .int .i64 (-40), .int .i64 30, .int .i64 25, .int .i64 10, .int .i64 (wrap64 (t208 - 90)), .int .i64 90, .int .i64 (-90), .int .i64 t214] (Reps.one (show Kd.M (Kd.int .i64) _ _ _ 0 [.int .i64 0] from rfl) (Reps.one (show Kd.M (Kd.int .i64) _ _ _ (-40) [.int .i64 (-40)] from rfl) (Reps.one (show Kd.M (Kd.int .i64) _ _ _ 30 [.int .i64 30] from rfl) (Reps.one (show Kd.M (Kd.int .i64) _ _ _ 25 [.int .i64 25] from rfl) (Reps.one (show Kd.M (Kd.int .i64) _ _ _ 10 [.int .i64 10] from rfl) (Reps.one (show Kd.M (Kd.int .i64) _ _ _ (wrap64 (t208 - 90)) [.int .i64 (wrap64 (t208 - 90))] from rfl) (Reps.one (show Kd.M (Kd.int .i64) _ _ _ 90 [.int .i64 90] from rfl) (Reps.one (show Kd.M (Kd.int .i64) _ _ _ (-90) [.int .i64 (-90)] from rfl) (Reps.one (show Kd.M (Kd.int .i64) _ _ _ t214 [.int .i64 t214] from rfl) (Reps.none _ _)))))))))) ?_; intro v218 w10 ho11 hb hg_ hnew_; clear hg_ hnew_; (first | rw [← Ny217.out] at ho11 | (simp only [Int.reduceToNat] at ho11; rw [← Ny217.out] at ho11)); have HO219 := aM_ (Kd.R_lower (Kd.R_new' ho11 (Kd.R_lt (rR_ HO213))) (keep_size (w := w) (g := g) (row := none) z6_7_)); replace HO213 := aM_ (Kd.R_elder' (rR_ HO213) (Kd.R_base ho11) hb); replace HK := aM_ (KeepBut.trans z6_7_ (KeepBut.of_below hb g none) (.inl rfl)); replace HB := aM_ (below_step z6_6_ hb); replace HI0 := aM_ (IsS70.below z6_5_ hb); clear hb ho11; obtain ⟨Ao12, co12, eo12⟩ := Kd.R_slice HO219.out; subst eo12) | ((with_reducible refine gC_ 78 ?_); refine gM_ (some 11) Tryz.func78 #[.pointer (some ⟨g, 0, none⟩), .slice Ao12 y217.length co12] ?_; (with_reducible refine (spec_l1Cur_among.calls g s0_0 t215 t216 _ _ y217 t220 t221 t222 w0 _ ?side1 ?side2 ?side3 ?side4 ?side5 A4.out).mono ?_); (case side1 => exact z6_5_); (case side2 => exact z6_6_); (case side3 => exact cR_ HO219); (case side4 => exact (Kd.R_reads' HO219.out).2.1); (case side5 => exact far_slice (IsS70.own_ne HI0.out HO219.out (by decide))); rintro e w13 ⟨rfl, hi, hb, hk⟩; refine ⟨_, rfl, ?_⟩; replace HO213 := aM_ (Kd.R_mono (Kd.R_keep (IsS70.apart (show IsS70 w0 _ g s0_0 t215 t216 from by repeat (first | (with_reducible first | exact HI0.out | apply IsS70.alloc | apply IsS70.drewN | apply IsS70.drew | apply IsS70.set_1 | apply IsS70.set_2) | exact HI0.out)) (rR_ HO213) (by decide)) hk (fun _ h => h.2)) (fun _ h => h.1)); replace HO219 := aM_ (Kd.R_mono (Kd.R_keep (IsS70.apart (show IsS70 w0 _ g s0_0 t215 t216 from by repeat (first | (with_reducible first | exact HI0.out | apply IsS70.alloc | apply IsS70.drewN | apply IsS70.drew | apply IsS70.set_1 | apply IsS70.set_2) | exact HI0.out)) (rR_ HO219) (by decide)) hk (fun _ h => h.2)) (fun _ h => h.1)); replace HK := aM_ (KeepBut.trans z6_7_ hk (.inl rfl)); replace HB := aM_ (hb); replace HI0 := aM_ (hi); (try clear hb); (try clear hk); (try clear hi)))
 go_ret
 exact ⟨rT_, z6_5_, z6_6_, z6_7_⟩

/-! ### spec_l1Cur_anyReferent: function 86 -/
theorem spec_l1Cur_anyReferent.calls (g : Nat) (s0_0 : List Int) (s0_1 : Int) (s0_2 : Int) (r1 : ByteArray) (r2 : Int) (r3 : Int) (w0 w : World) (hI : IsS70 w0 w g s0_0 s0_1 s0_2) (hB : Below w0.heap.size w0 w) (h : spec_l1Cur_anyReferent.f s0_0 s0_1 s0_2 = some (r1, r2, r3)) :
 Calls Tryz.prog 86 #[.pointer (some ⟨g, 0, none⟩)] w fun e w' => e = .returned (.string r1) ∧ IsS70 w0 w' g s0_0 r2 r3 ∧ Below w0.heap.size w0 w' ∧ KeepBut w w' g none := by
 have HI0 := Aside0.mk hI
 have HK := Aside0.mk (KeepBut.refl w g none)
 have HL := Aside0.mk hB.size
 clear hI
 have HW0 := Aside0.mk hB.size
 have HB := Aside0.mk hB
 clear hB
 have H : ((spec_l1Cur_of.f s0_0 s0_1 s0_2 (([(⟨#[115, 105, 103, 110, 101, 114]⟩ : ByteArray), (⟨#[]⟩ : ByteArray), (⟨#[77, 97, 114, 121]⟩ : ByteArray), (⟨#[110, 105, 110, 101, 99, 104, 97, 114, 115]⟩ : ByteArray), (⟨#[122, 122]⟩ : ByteArray)] : List ByteArray))).bind fun bt226 => ((spec_l1Cur_of.f s0_0 bt226.2.1 bt226.2.2 (([(⟨#[109, 97, 114, 121]⟩ : ByteArray), (⟨#[106, 111, 104, 110]⟩ : ByteArray), (⟨#[100, 111, 103]⟩ : ByteArray), (⟨#[109, 97, 114, 121]⟩ : ByteArray), bt226.1] : List ByteArray))).bind fun bt232 => (some (bt232.1, bt232.2.1, bt232.2.2)))) = some (r1, r2, r3) := h
 clear h
 obtain ⟨y223, hy223⟩ : ∃ y_ : List ByteArray, y_ = (([(⟨#[115, 105, 103, 110, 101, 114]⟩ : ByteArray), (⟨#[]⟩ : ByteArray), (⟨#[77, 97, 114, 121]⟩ : ByteArray), (⟨#[110, 105, 110, 101, 99, 104, 97, 114, 115]⟩ : ByteArray), (⟨#[122, 122]⟩ : ByteArray)] : List ByteArray)) := ⟨_, rfl⟩
 rw [← hy223] at H
 have Ny223 := Aside0.mk hy223; clear hy223
 replace H := ob_ H; obtain ⟨⟨t226, t227, t228⟩, A2, H⟩ := H; try dsimp only at H
 obtain ⟨y229, hy229⟩ : ∃ y_ : List ByteArray, y_ = (([(⟨#[109, 97, 114, 121]⟩ : ByteArray), (⟨#[106, 111, 104, 110]⟩ : ByteArray), (⟨#[100, 111, 103]⟩ : ByteArray), (⟨#[109, 97, 114, 121]⟩ : ByteArray), t226] : List ByteArray)) := ⟨_, rfl⟩
 rw [← hy229] at H
 have Ny229 := Aside0.mk hy229; clear hy229
 replace H := ob_ H; obtain ⟨⟨t232, t233, t234⟩, A3, H⟩ := H; try dsimp only at H
 simp only [Option.some.injEq, Prod.mk.injEq] at H
 obtain ⟨rfl, rfl, rfl⟩ := H
 go_enter Tryz.func86, Tryz.ntmps86
 go_wp2_with (first | ((with_reducible refine gate_dst (N := 5) rfl ?_); refine rl_ Kd.string 9 5 ([(⟨#[115, 105, 103, 110, 101, 114]⟩ : ByteArray), (⟨#[]⟩ : ByteArray), (⟨#[77, 97, 114, 121]⟩ : ByteArray), (⟨#[110, 105, 110, 101, 99, 104, 97, 114, 115]⟩ : ByteArray), (⟨#[122, 122]⟩ : ByteArray)] : List ByteArray) [.string (⟨#[115, 105, 103, 110, 101, 114]⟩ : ByteArray), .string (⟨#[]⟩ : ByteArray), .string (⟨#[77, 97, 114, 121]⟩ : ByteArray), .string (⟨#[110, 105, 110, 101, 99, 104, 97, 114, 115]⟩ : ByteArray), .string (⟨#[122, 122]⟩ : ByteArray)] (Reps.one (show Kd.M Kd.string _ _ _ (⟨#[115, 105, 103, 110, 101, 114]⟩ : ByteArray) [.string (⟨#[115, 105, 103, 110, 101, 114]⟩ : ByteArray)] from rfl) (Reps.one (show Kd.M Kd.string _ _ _ (⟨#[]⟩ : ByteArray) [.string (⟨#[]⟩ : ByteArray)] from rfl) (Reps.one (show Kd.M Kd.string _ _ _ (⟨#[77, 97, 114, 121]⟩ : ByteArray) [.string (⟨#[77, 97, 114, 121]⟩ : ByteArray)] from rfl) (Reps.one (show Kd.M Kd.string _ _ _ (⟨#[110, 105, 110, 101, 99, 104, 97, 114, 115]⟩ : ByteArray) [.string (⟨#[110, 105, 110, 101, 99, 104, 97, 114, 115]⟩ : ByteArray)] from rfl) (Reps.one (show Kd.M Kd.string _ _ _ (⟨#[122, 122]⟩ : ByteArray) [.string (⟨#[122, 122]⟩ : ByteArray)] from rfl) (Reps.none _ _)))))) ?_; intro v224 w4 ho5 hb hg_ hnew_; clear hg_ hnew_; (first | rw [← Ny223.out] at ho5 | (simp only [Int.reduceToNat] at ho5; rw [← Ny223.out] at ho5)); have HO225 := aM_ (Kd.R_lower ho5 (keep_size (w := w) (g := g) (row := none) z6_7_)); replace HK := aM_ (KeepBut.trans z6_7_ (KeepBut.of_below hb g none) (.inl rfl)); replace HB := aM_ (below_step z6_6_ hb); replace HI0 := aM_ (IsS70.below z6_5_ hb); clear hb ho5; obtain ⟨Ao6, co6, eo6⟩ := Kd.R_slice HO225.out; subst eo6) | ((with_reducible refine gC_ 44 ?_); refine gM_ (some 6) Tryz.func44 #[.pointer (some ⟨g, 0, none⟩), .slice Ao6 y223.length co6] ?_; (with_reducible refine (spec_l1Cur_of.calls g s0_0 s0_1 s0_2 _ _ y223 t226 t227 t228 w0 _ ?side1 ?side2 ?side3 ?side4 ?side5 A2.out).mono ?_); (case side1 => exact z6_5_); (case side2 => exact z6_6_); (case side3 => exact cR_ HO225); (case side4 => exact (Kd.R_reads' HO225.out).2.1); (case side5 => exact far_slice (IsS70.own_ne HI0.out HO225.out (by decide))); rintro e w7 ⟨rfl, hi, hb, hk⟩; refine ⟨_, rfl, ?_⟩; replace HO225 := aM_ (Kd.R_mono (Kd.R_keep (IsS70.apart (show IsS70 w0 _ g s0_0 s0_1 s0_2 from by repeat (first | (with_reducible first | exact HI0.out | apply IsS70.alloc | apply IsS70.drewN | apply IsS70.drew | apply IsS70.set_1 | apply IsS70.set_2) | exact HI0.out)) (rR_ HO225) (by decide)) hk (fun _ h => h.2)) (fun _ h => h.1)); replace HK := aM_ (KeepBut.trans z6_7_ hk (.inl rfl)); replace HB := aM_ (hb); replace HI0 := aM_ (hi); (try clear hb); (try clear hk); (try clear hi)) | ((with_reducible refine gate_dst (N := 7) rfl ?_); refine rl_ Kd.string 9 7 ([(⟨#[109, 97, 114, 121]⟩ : ByteArray), (⟨#[106, 111, 104, 110]⟩ : ByteArray), (⟨#[100, 111, 103]⟩ : ByteArray), (⟨#[109, 97, 114, 121]⟩ : ByteArray), t226] : List ByteArray) [.string (⟨#[109, 97, 114, 121]⟩ : ByteArray), .string (⟨#[106, 111, 104, 110]⟩ : ByteArray), .string (⟨#[100, 111, 103]⟩ : ByteArray), .string (⟨#[109, 97, 114, 121]⟩ : ByteArray), .string t226] (Reps.one (show Kd.M Kd.string _ _ _ (⟨#[109, 97, 114, 121]⟩ : ByteArray) [.string (⟨#[109, 97, 114, 121]⟩ : ByteArray)] from rfl) (Reps.one (show Kd.M Kd.string _ _ _ (⟨#[106, 111, 104, 110]⟩ : ByteArray) [.string (⟨#[106, 111, 104, 110]⟩ : ByteArray)] from rfl) (Reps.one (show Kd.M Kd.string _ _ _ (⟨#[100, 111, 103]⟩ : ByteArray) [.string (⟨#[100, 111, 103]⟩ : ByteArray)] from rfl) (Reps.one (show Kd.M Kd.string _ _ _ (⟨#[109, 97, 114, 121]⟩ : ByteArray) [.string (⟨#[109, 97, 114, 121]⟩ : ByteArray)] from rfl) (Reps.one (show Kd.M Kd.string _ _ _ t226 [.string t226] from rfl) (Reps.none _ _)))))) ?_; intro v230 w8 ho9 hb hg_ hnew_; clear hg_ hnew_; (first | rw [← Ny229.out] at ho9 | (simp only [Int.reduceToNat] at ho9; rw [← Ny229.out] at ho9)); have HO231 := aM_ (Kd.R_lower (Kd.R_new' ho9 (Kd.R_lt (rR_ HO225))) (keep_size (w := w) (g := g) (row := none) z6_7_)); replace HO225 := aM_ (Kd.R_elder' (rR_ HO225) (Kd.R_base ho9) hb); replace HK := aM_ (KeepBut.trans z6_7_ (KeepBut.of_below hb g none) (.inl rfl)); replace HB := aM_ (below_step z6_6_ hb); replace HI0 := aM_ (IsS70.below z6_5_ hb); clear hb ho9; obtain ⟨Ao10, co10, eo10⟩ := Kd.R_slice HO231.out; subst eo10) | ((with_reducible refine gC_ 44 ?_); refine gM_ (some 8) Tryz.func44 #[.pointer (some ⟨g, 0, none⟩), .slice Ao10 y229.length co10] ?_; (with_reducible refine (spec_l1Cur_of.calls g s0_0 t227 t228 _ _ y229 t232 t233 t234 w0 _ ?side1 ?side2 ?side3 ?side4 ?side5 A3.out).mono ?_); (case side1 => exact z6_5_); (case side2 => exact z6_6_); (case side3 => exact cR_ HO231); (case side4 => exact (Kd.R_reads' HO231.out).2.1); (case side5 => exact far_slice (IsS70.own_ne HI0.out HO231.out (by decide))); rintro e w11 ⟨rfl, hi, hb, hk⟩; refine ⟨_, rfl, ?_⟩; replace HO225 := aM_ (Kd.R_mono (Kd.R_keep (IsS70.apart (show IsS70 w0 _ g s0_0 t227 t228 from by repeat (first | (with_reducible first | exact HI0.out | apply IsS70.alloc | apply IsS70.drewN | apply IsS70.drew | apply IsS70.set_1 | apply IsS70.set_2) | exact HI0.out)) (rR_ HO225) (by decide)) hk (fun _ h => h.2)) (fun _ h => h.1)); replace HO231 := aM_ (Kd.R_mono (Kd.R_keep (IsS70.apart (show IsS70 w0 _ g s0_0 t227 t228 from by repeat (first | (with_reducible first | exact HI0.out | apply IsS70.alloc | apply IsS70.drewN | apply IsS70.drew | apply IsS70.set_1 | apply IsS70.set_2) | exact HI0.out)) (rR_ HO231) (by decide)) hk (fun _ h => h.2)) (fun _ h => h.1)); replace HK := aM_ (KeepBut.trans z6_7_ hk (.inl rfl)); replace HB := aM_ (hb); replace HI0 := aM_ (hi); (try clear hb); (try clear hk); (try clear hi)))
 go_ret
 exact ⟨rT_, z6_5_, z6_6_, z6_7_⟩

/-! ### spec_l1Cur_loci: function 43 -/
theorem spec_l1Cur_loci.calls (k : Nat) (g : Nat) (s0_0 : List Int) (s0_1 : Int) (s0_2 : Int) (r1 : List (S58)) (r2 : Int) (r3 : Int) (w0 w : World) (hI : IsS70 w0 w g s0_0 s0_1 s0_2) (hB : Below w0.heap.size w0 w) (h : spec_l1Cur_loci.f k s0_0 s0_1 s0_2 = some (r1, r2, r3)) :
 Calls Tryz.prog 43 #[.pointer (some ⟨g, 0, none⟩)] w fun e w' => ∃ v0_ : Value, e = .returned (v0_) ∧ Kd.R k58 58 w' w.heap.size (fun _ => True) v0_ r1 ∧ IsS70 w0 w' g s0_0 r2 r3 ∧ Below w0.heap.size w0 w' ∧ KeepBut w w' g none := by
 have hu58 := Tryz.underlying58
 have HI0 := Aside0.mk hI
 have HK := Aside0.mk (KeepBut.refl w g none)
 have HL := Aside0.mk hB.size
 clear hI
 have HW0 := Aside0.mk hB.size
 have HB := Aside0.mk hB
 clear hB
 have H : ((spec_l1Cur_pick.f s0_0 s0_1 s0_2 6).bind fun bt235 => (spec_l1Cur_loci.l0 k ([] : List (S58)) bt235.1 s0_0 bt235.2.1 bt235.2.2)) = some (r1, r2, r3) := h
 clear h
 replace H := ob_ H; obtain ⟨⟨t235, t236, t237⟩, A2, H⟩ := H; try dsimp only at H
 have H' := Aside0.mk H
 clear H
 go_enter Tryz.func43, Tryz.ntmps43
 go_wp2_with (first | ((with_reducible refine gC_ 59 ?_); refine gM_ (some 9) Tryz.func59 #[.pointer (some ⟨g, 0, none⟩), .int .i64 6] ?_; (with_reducible refine (spec_l1Cur_pick.calls g s0_0 s0_1 s0_2 6 t235 t236 t237 w0 _ ?side1 ?side2 A2.out).mono ?_); (case side1 => exact z6_5_); (case side2 => exact z6_6_); rintro e w3 ⟨rfl, hi, hb, hk⟩; refine ⟨_, rfl, ?_⟩; replace HK := aM_ (KeepBut.trans z6_7_ hk (.inl rfl)); replace HB := aM_ (hb); replace HI0 := aM_ (hi); (try clear hb); (try clear hk); (try clear hi)))
 go_loopg [3, 4] k (fun kq v3 v4 w' => ∃ (x3_1 : List (S58)) (x4_1 : Int) (x1001_1 : Int) (x1002_1 : Int), v4 = .int .i64 x4_1 ∧ Aside0 (spec_l1Cur_loci.l0 kq x3_1 x4_1 s0_0 x1001_1 x1002_1 = some (r1, r2, r3)) ∧ Aside0 (kq ≤ k) ∧ Aside0 (Kd.R k58 58 w' w.heap.size (fun _ => True) v3 x3_1) ∧ Aside0 (IsS70 w0 w' g s0_0 x1001_1 x1002_1) ∧ Aside0 (KeepBut w w' g none) ∧ Aside0 (Below w0.heap.size w0 w'))
 case atStart => exact ⟨(([] : List (S58))), (t235), (t236), (t237), z6_0_, H', ⟨Nat.le_refl _⟩, ⟨z6_1_⟩, ⟨z6_5_⟩, ⟨z6_7_⟩, ⟨z6_6_⟩⟩
 case round =>
  clear H'
  obtain ⟨x3_1, x4_1, x1001_1, x1002_1, rfl, HA, HK1, HO_3, HI0, HK, HB⟩ := hrel
  cases gk with
  | zero => exact absurd HA.out (by simp [spec_l1Cur_loci.l0])
  | succ k1 =>
   have H := HA.out
   clear HA
   simp only [spec_l1Cur_loci.l0] at H
   by_cases c4 : x4_1 > 0
   ·rw [if_pos c4] at H
    have c4b0 : decide (0 < x4_1) = true := decide_eq_true c4
    clear c4
    replace H := ob_ H; obtain ⟨⟨t238, t239, t240⟩, A5, H⟩ := H; try dsimp only at H
    replace H := ob_ H; obtain ⟨⟨t241, t242, t243⟩, A6, H⟩ := H; try dsimp only at H
    replace H := ob_ H; obtain ⟨⟨t244, t245⟩, A7, H⟩ := H; try dsimp only at H
    have HC8 := Aside0.mk H
    clear H
    go_upto_if 23 with (first | ((with_reducible refine gC_ 84 ?_); refine gM_ (some 17) Tryz.func84 #[.pointer (some ⟨g, 0, none⟩)] ?_; (with_reducible refine (spec_l1Cur_referent.calls g s0_0 x1001_1 x1002_1 t238 t239 t240 w0 _ ?side1 ?side2 A5.out).mono ?_); (case side1 => exact z6_5_); (case side2 => exact z6_6_); rintro e w9 ⟨rfl, hi, hb, hk⟩; refine ⟨_, rfl, ?_⟩; replace HO_3 := aM_ (Kd.R_mono (Kd.R_keep (IsS70.apart (show IsS70 w0 _ g s0_0 x1001_1 x1002_1 from by repeat (first | (with_reducible first | exact HI0.out | apply IsS70.alloc | apply IsS70.drewN | apply IsS70.drew | apply IsS70.set_1 | apply IsS70.set_2) | exact HI0.out)) (rR_ HO_3) (by decide)) hk (fun _ h => h.2)) (fun _ h => h.1)); replace HK := aM_ (KeepBut.trans z6_7_ hk (.inl rfl)); replace HB := aM_ (hb); replace HI0 := aM_ (hi); (try clear hb); (try clear hk); (try clear hi)) | ((with_reducible refine gC_ 85 ?_); refine gM_ (some 19) Tryz.func85 #[.pointer (some ⟨g, 0, none⟩)] ?_; (with_reducible refine (spec_l1Cur_angleOf.calls g s0_0 t239 t240 t241 t242 t243 w0 _ ?side1 ?side2 A6.out).mono ?_); (case side1 => exact z6_5_); (case side2 => exact z6_6_); rintro e w10 ⟨rfl, hi, hb, hk⟩; refine ⟨_, rfl, ?_⟩; replace HO_3 := aM_ (Kd.R_mono (Kd.R_keep (IsS70.apart (show IsS70 w0 _ g s0_0 t239 t240 from by repeat (first | (with_reducible first | exact HI0.out | apply IsS70.alloc | apply IsS70.drewN | apply IsS70.drew | apply IsS70.set_1 | apply IsS70.set_2) | exact HI0.out)) (rR_ HO_3) (by decide)) hk (fun _ h => h.2)) (fun _ h => h.1)); replace HK := aM_ (KeepBut.trans z6_7_ hk (.inl rfl)); replace HB := aM_ (hb); replace HI0 := aM_ (hi); (try clear hb); (try clear hk); (try clear hi); obtain ⟨Ao11, co11, eo11⟩ := Kd.R_slice HO_3.out; subst eo11) | ((with_reducible refine gC_ 83 ?_); refine gM_ (some 20) Tryz.func83 #[.slice Ao11 x3_1.length co11, .string t238, .int .i64 t241] ?_; (with_reducible refine (spec_PutReferent.calls k1 _ _ x3_1 t238 t241 t244 t245 _ ?side1 ?side2 A7.out).mono ?_); (case side1 => exact cR_ HO_3); (case side2 => exact (Kd.R_reads' HO_3.out).2.1); rintro e w12 ⟨v246, rfl, ho0, hb⟩; refine ⟨_, rfl, ?_⟩; have HO247 := aM_ (Kd.R_lower (Kd.R_new' ho0 (Kd.R_lt (rR_ HO_3))) (keep_size (w := w) (g := g) (row := none) z6_7_)); replace HO_3 := aM_ (Kd.R_elder' (rR_ HO_3) (Kd.R_base ho0) hb); replace HK := aM_ (KeepBut.trans z6_7_ (KeepBut.of_below hb g none) (.inl rfl)); replace HB := aM_ (below_step z6_6_ hb); replace HI0 := aM_ (IsS70.below z6_5_ hb); (try clear hb); (try clear hk); (try clear hi); (try clear ho0)))
    (try simp only [Act.put, List.setIfInBounds_toArray, List.set_cons_zero, List.set_cons_succ])
    have H := HC8.out
    clear HC8
    by_cases c13 : t245 = true
    ·subst c13
     replace H := ip_ H rfl
     have H' := Aside0.mk H
     clear H
     go_wp2
     go_roundg k1
     case measure => have := HK1.out; omega
     case rel => exact ⟨(t244), (wrap64 (x4_1 - 1)), (t242), (t243), z6_0_, H', ⟨z6_2_⟩, ⟨rT1_ HO247⟩, ⟨z6_5_⟩, ⟨z6_7_⟩, ⟨z6_6_⟩⟩
    replace c13 := Bool.eq_false_iff.mpr c13
    subst c13
    replace H := in_ H (show ¬ (false = true) by decide)
    have H' := Aside0.mk H
    clear H
    go_wp2
    go_roundg k1
    case measure => have := HK1.out; omega
    case rel => exact ⟨(x3_1), (wrap64 (x4_1 - 1)), (t242), (t243), z6_0_, H', ⟨z6_2_⟩, ⟨rT1_ HO_3⟩, ⟨z6_5_⟩, ⟨z6_7_⟩, ⟨z6_6_⟩⟩
   rw [if_neg c4] at H
   have c4b0 : decide (0 < x4_1) = false := decide_eq_false c4
   clear c4
   replace H := ob_ H; obtain ⟨⟨t248, t249, t250⟩, A14, H⟩ := H; try dsimp only at H
   have HC15 := Aside0.mk H
   clear H
   go_upto_if 27 with (first | ((with_reducible refine gC_ 59 ?_); refine gM_ (some 26) Tryz.func59 #[.pointer (some ⟨g, 0, none⟩), .int .i64 24] ?_; (with_reducible refine (spec_l1Cur_pick.calls g s0_0 x1001_1 x1002_1 24 t248 t249 t250 w0 _ ?side1 ?side2 A14.out).mono ?_); (case side1 => exact z6_5_); (case side2 => exact z6_6_); rintro e w16 ⟨rfl, hi, hb, hk⟩; refine ⟨_, rfl, ?_⟩; replace HO_3 := aM_ (Kd.R_mono (Kd.R_keep (IsS70.apart (show IsS70 w0 _ g s0_0 x1001_1 x1002_1 from by repeat (first | (with_reducible first | exact HI0.out | apply IsS70.alloc | apply IsS70.drewN | apply IsS70.drew | apply IsS70.set_1 | apply IsS70.set_2) | exact HI0.out)) (rR_ HO_3) (by decide)) hk (fun _ h => h.2)) (fun _ h => h.1)); replace HK := aM_ (KeepBut.trans z6_7_ hk (.inl rfl)); replace HB := aM_ (hb); replace HI0 := aM_ (hi); (try clear hb); (try clear hk); (try clear hi)))
   (try simp only [Act.put, List.setIfInBounds_toArray, List.set_cons_zero, List.set_cons_succ])
   have H := HC15.out
   clear HC15
   by_cases c17 : t248 = 0
   ·rw [if_pos c17] at H
    have c17b0 : (t248 == 0) = true := beq_iff_eq.mpr c17
    have c17b1 : (t248 != 0) = false := bne_eq_false_iff_eq.mpr c17
    clear c17
    (first | rw [c17b0] | (simp only [i64_w, i32_w]; rw [c17b0]) | skip)
    replace H := ob_ H; obtain ⟨⟨t251, t252, t253⟩, A18, H⟩ := H; try dsimp only at H
    replace H := ob_ H; obtain ⟨⟨t254, t255, t256⟩, A19, H⟩ := H; try dsimp only at H
    replace H := il_ H; obtain ⟨LMc20, H⟩ := H
    obtain ⟨y257, hy257⟩ : ∃ y_ : List (S58), y_ = (x3_1 ++ [(⟨t251, t254⟩ : S58)]) := ⟨_, rfl⟩
    rw [← hy257] at H
    have Ny257 := Aside0.mk hy257; clear hy257
    simp only [Option.some.injEq, Prod.mk.injEq] at H
    obtain ⟨rfl, rfl, rfl⟩ := H
    go_wp2_with (first | ((with_reducible refine gC_ 86 ?_); refine gM_ (some 31) Tryz.func86 #[.pointer (some ⟨g, 0, none⟩)] ?_; (with_reducible refine (spec_l1Cur_anyReferent.calls g s0_0 t249 t250 t251 t252 t253 w0 _ ?side1 ?side2 A18.out).mono ?_); (case side1 => exact z6_5_); (case side2 => exact z6_6_); rintro e w21 ⟨rfl, hi, hb, hk⟩; refine ⟨_, rfl, ?_⟩; replace HO_3 := aM_ (Kd.R_mono (Kd.R_keep (IsS70.apart (show IsS70 w0 _ g s0_0 t249 t250 from by repeat (first | (with_reducible first | exact HI0.out | apply IsS70.alloc | apply IsS70.drewN | apply IsS70.drew | apply IsS70.set_1 | apply IsS70.set_2) | exact HI0.out)) (rR_ HO_3) (by decide)) hk (fun _ h => h.2)) (fun _ h => h.1)); replace HK := aM_ (KeepBut.trans z6_7_ hk (.inl rfl)); replace HB := aM_ (hb); replace HI0 := aM_ (hi); (try clear hb); (try clear hk); (try clear hi)) | ((with_reducible refine gC_ 85 ?_); refine gM_ (some 33) Tryz.func85 #[.pointer (some ⟨g, 0, none⟩)] ?_; (with_reducible refine (spec_l1Cur_angleOf.calls g s0_0 t252 t253 t254 t255 t256 w0 _ ?side1 ?side2 A19.out).mono ?_); (case side1 => exact z6_5_); (case side2 => exact z6_6_); rintro e w22 ⟨rfl, hi, hb, hk⟩; refine ⟨_, rfl, ?_⟩; replace HO_3 := aM_ (Kd.R_mono (Kd.R_keep (IsS70.apart (show IsS70 w0 _ g s0_0 t252 t253 from by repeat (first | (with_reducible first | exact HI0.out | apply IsS70.alloc | apply IsS70.drewN | apply IsS70.drew | apply IsS70.set_1 | apply IsS70.set_2) | exact HI0.out)) (rR_ HO_3) (by decide)) hk (fun _ h => h.2)) (fun _ h => h.1)); replace HK := aM_ (KeepBut.trans z6_7_ hk (.inl rfl)); replace HB := aM_ (hb); replace HI0 := aM_ (hi); (try clear hb); (try clear hk); (try clear hi)) | ((with_reducible refine gate_builtin (b := .append) (xs := #[.tmp 29, .tmp 35]) rfl ?_); at_builtin; refine Kd.R_append k58 w.heap.size rfl (.tmp 29) (.tmp 35) 23 58 (.agg #[(.string ⟨#[]⟩), (.int .i64 0)]) 24 rfl Tryz.underlying23 info58 rfl (by decide) (by omega) u3 x3_1 (⟨t251, t254⟩ : S58) [.string t251, .int .i64 t254] (fun _ => True) (fun _ => False) rfl rfl ?aP (fun _ hk => hk.elim) ?aF ?aO (Below.refl _ _) ?aS ?aL ?_; (case aP => exact k58_mkM _ _ _ (⟨t251, t254⟩ : S58)); (case aF => exact (fun _ _ => trivial)); (case aO => exact (rR_ HO_3)); (case aS => exact (keep_size (w := w) (g := g) (row := none) z6_7_)); (case aL => have := LMc20.out; omega); intro v258 w23 ho hb hg hat; rw [← Ny257.out] at ho; have HO259 := aM_ (ho); replace HB := aM_ (below_weaken z6_6_ HL.out hb); replace HI0 := aM_ (IsS70.grown z6_5_ hg (IsS70.own_ne HI0.out HO_3.out (by decide))); replace HK := aM_ (KeepBut.trans z6_7_ (KeepBut.of_grown hg g) (Kd.R_base2 HO_3.out)); clear HO_3; clear ho hb hg hat))
    go_ret
    exact ⟨_, rT_, by (with_reducible repeat (first | apply rA_ | apply rN_ | apply rD_)); exact HO259.out, z6_5_, z6_6_, z6_7_⟩
   rw [if_neg c17] at H
   have c17b0 : (t248 == 0) = false := beq_eq_false_iff_ne.mpr c17
   have c17b1 : (t248 != 0) = true := bne_iff_ne.mpr c17
   (first | rw [c17b0] | (simp only [i64_w, i32_w]; rw [c17b0]) | skip)
   by_cases c24 : t248 = 1
   rotate_left
   ·rw [if_neg c24] at H
    have c24b0 : (t248 == 1) = false := beq_eq_false_iff_ne.mpr c24
    have c24b1 : (t248 != 1) = true := bne_iff_ne.mpr c24
    simp only [Option.some.injEq, Prod.mk.injEq] at H
    obtain ⟨rfl, rfl, rfl⟩ := H
    go_wp2
    go_ret
    exact ⟨_, rT_, (rR_ HO_3), z6_5_, z6_6_, z6_7_⟩
   rw [if_pos c24] at H
   have c24b0 : (t248 == 1) = true := beq_iff_eq.mpr c24
   have c24b1 : (t248 != 1) = false := bne_eq_false_iff_eq.mpr c24
   clear c24
   replace H := ob_ H; obtain ⟨⟨t260, t261, t262⟩, A25, H⟩ := H; try dsimp only at H
   have H' := Aside0.mk H
   clear H
   go_wp2_with (first | ((with_reducible refine gC_ 59 ?_); refine gM_ (some 40) Tryz.func59 #[.pointer (some ⟨g, 0, none⟩), .int .i64 2] ?_; (with_reducible refine (spec_l1Cur_pick.calls g s0_0 t249 t250 2 t260 t261 t262 w0 _ ?side1 ?side2 A25.out).mono ?_); (case side1 => exact z6_5_); (case side2 => exact z6_6_); rintro e w26 ⟨rfl, hi, hb, hk⟩; refine ⟨_, rfl, ?_⟩; replace HO_3 := aM_ (Kd.R_mono (Kd.R_keep (IsS70.apart (show IsS70 w0 _ g s0_0 t249 t250 from by repeat (first | (with_reducible first | exact HI0.out | apply IsS70.alloc | apply IsS70.drewN | apply IsS70.drew | apply IsS70.set_1 | apply IsS70.set_2) | exact HI0.out)) (rR_ HO_3) (by decide)) hk (fun _ h => h.2)) (fun _ h => h.1)); replace HK := aM_ (KeepBut.trans z6_7_ hk (.inl rfl)); replace HB := aM_ (hb); replace HI0 := aM_ (hi); (try clear hb); (try clear hk); (try clear hi)))
   go_loopg [3] k1 (fun kq v3 w' => ∃ (x3_2 : List (S58)), Aside0 (spec_l1Cur_loci.l1 kq x3_2 (wrap64 (8 + t260)) s0_0 t261 t262 = some (r1, r2, r3)) ∧ Aside0 (kq ≤ k1) ∧ Aside0 (Kd.R k58 58 w' w.heap.size (fun _ => True) v3 x3_2) ∧ Aside0 (IsS70 w0 w' g s0_0 t261 t262) ∧ Aside0 (KeepBut w w' g none) ∧ Aside0 (Below w0.heap.size w0 w'))
   case atStart => exact ⟨(([] : List (S58))), H', ⟨Nat.le_refl _⟩, ⟨z6_1_⟩, ⟨z6_5_⟩, ⟨z6_7_⟩, ⟨z6_6_⟩⟩
   case round =>
    clear H'
    (try clear c4);(try clear c4b0);(try clear c17);(try clear c17b0);(try clear c17b1);(try clear c24);(try clear c24b0);(try clear c24b1)
    obtain ⟨x3_2, HA, HK2, HO_3, HI0, HK, HB⟩ := hrel
    cases gk with
    | zero => exact absurd HA.out (by simp [spec_l1Cur_loci.l1])
    | succ k2 =>
     have H := HA.out
     clear HA
     simp only [spec_l1Cur_loci.l1] at H
     replace H := iF_ H; obtain ⟨c27b0, H⟩ | ⟨c27b0, H⟩ := H
     ·simp only [Option.some.injEq, Prod.mk.injEq] at H
      obtain ⟨rfl, rfl, rfl⟩ := H
      obtain ⟨Ao35, co35, eo35⟩ := Kd.R_slice HO_3.out
      subst eo35
      go_wp2
      go_ret
      exact ⟨_, rT_, (rR_ HO_3), z6_5_, z6_6_, z6_7_⟩
     replace H := it_ H; obtain ⟨c28b0, c28b1, H⟩ := H
     by_cases c29 : (x3_2.length : Int) ≤ (wrap64 ((x3_2.length : Int) + 1))
     rotate_left
     ·rw [if_neg c29] at H
      exact absurd H (by simp)
     rw [if_pos c29] at H
     have c29b0 := eq_true c29
     have c29b1 : decide ((x3_2.length : Int) ≤ (wrap64 ((x3_2.length : Int) + 1))) = true := decide_eq_true c29
     by_cases c30 : (wrap64 ((x3_2.length : Int) + 1)) ≤ 9
     rotate_left
     ·rw [if_neg c30] at H
      exact absurd H (by simp)
     rw [if_pos c30] at H
     have c30b0 := eq_true c30
     have c30b1 : decide ((wrap64 ((x3_2.length : Int) + 1)) ≤ 9) = true := decide_eq_true c30
     by_cases c31 : 1 + ((⟨#[97, 98, 99, 100, 101, 102, 103, 104, 105]⟩ : ByteArray).extract ((x3_2.length : Int) : Int).toNat ((wrap64 ((x3_2.length : Int) + 1)) : Int).toNat).size ≤ 9223372036854775807
     rotate_left
     ·rw [if_neg c31] at H
      exact absurd H (by simp)
     rw [if_pos c31] at H
     have c31b0 := eq_true c31
     have c31b1 : decide (1 + ((⟨#[97, 98, 99, 100, 101, 102, 103, 104, 105]⟩ : ByteArray).extract ((x3_2.length : Int) : Int).toNat ((wrap64 ((x3_2.length : Int) + 1)) : Int).toNat).size ≤ 9223372036854775807) = true := decide_eq_true c31
     try have c31b2 : (9223372036854775807 < 1 + ((⟨#[97, 98, 99, 100, 101, 102, 103, 104, 105]⟩ : ByteArray).extract ((x3_2.length : Int) : Int).toNat ((wrap64 ((x3_2.length : Int) + 1)) : Int).toNat).size) = False := eq_false (Nat.not_lt.2 c31)
     have c31b3 : (9223372036854775807 < 1 + (((wrap64 ((x3_2.length : Int) + 1)) : Int).toNat - x3_2.length)) = False := eq_false (by omega)
     clear c29
     clear c30
     clear c31
     replace H := il_ H; obtain ⟨LMc32, H⟩ := H
     obtain ⟨y263, hy263⟩ : ∃ y_ : List (S58), y_ = (x3_2 ++ [(⟨(⟨#[120]⟩ : ByteArray) ++ ((⟨#[97, 98, 99, 100, 101, 102, 103, 104, 105]⟩ : ByteArray).extract ((x3_2.length : Int) : Int).toNat ((wrap64 ((x3_2.length : Int) + 1)) : Int).toNat), wrap64 ((wrap64 (20 * (x3_2.length : Int))) - 90)⟩ : S58)]) := ⟨_, rfl⟩
     rw [← hy263] at H
     have Ny263 := Aside0.mk hy263; clear hy263
     have H' := Aside0.mk H
     clear H
     obtain ⟨Ao33, co33, eo33⟩ := Kd.R_slice HO_3.out
     subst eo33
     go_wp2_with (first | ((with_reducible refine gate_builtin (b := .append) (xs := #[.tmp 46, .tmp 59]) rfl ?_); at_builtin; refine Kd.R_append k58 w.heap.size rfl (.tmp 46) (.tmp 59) 23 58 (.agg #[(.string ⟨#[]⟩), (.int .i64 0)]) 24 rfl Tryz.underlying23 info58 rfl (by decide) (by omega) (.slice Ao33 x3_2.length co33) x3_2 (⟨(⟨#[120]⟩ : ByteArray) ++ ((⟨#[97, 98, 99, 100, 101, 102, 103, 104, 105]⟩ : ByteArray).extract ((x3_2.length : Int) : Int).toNat ((wrap64 ((x3_2.length : Int) + 1)) : Int).toNat), wrap64 ((wrap64 (20 * (x3_2.length : Int))) - 90)⟩ : S58) [.string ((⟨#[120]⟩ : ByteArray) ++ ((⟨#[97, 98, 99, 100, 101, 102, 103, 104, 105]⟩ : ByteArray).extract ((x3_2.length : Int) : Int).toNat ((wrap64 ((x3_2.length : Int) + 1)) : Int).toNat)), .int .i64 (wrap64 ((wrap64 (20 * (x3_2.length : Int))) - 90))] (fun _ => True) (fun _ => False) rfl rfl ?aP (fun _ hk => hk.elim) ?aF ?aO (Below.refl _ _) ?aS ?aL ?_; (case aP => exact k58_mkM _ _ _ (⟨(⟨#[120]⟩ : ByteArray) ++ ((⟨#[97, 98, 99, 100, 101, 102, 103, 104, 105]⟩ : ByteArray).extract ((x3_2.length : Int) : Int).toNat ((wrap64 ((x3_2.length : Int) + 1)) : Int).toNat), wrap64 ((wrap64 (20 * (x3_2.length : Int))) - 90)⟩ : S58)); (case aF => exact (fun _ _ => trivial)); (case aO => exact (rR_ HO_3)); (case aS => exact (keep_size (w := w) (g := g) (row := none) z6_7_)); (case aL => have := LMc32.out; omega); intro v264 w34 ho hb hg hat; rw [← Ny263.out] at ho; have HO265 := aM_ (ho); replace HB := aM_ (below_weaken z6_6_ HL.out hb); replace HI0 := aM_ (IsS70.grown z6_5_ hg (IsS70.own_ne HI0.out HO_3.out (by decide))); replace HK := aM_ (KeepBut.trans z6_7_ (KeepBut.of_grown hg g) (Kd.R_base2 HO_3.out)); clear HO_3; clear ho hb hg hat))
     go_roundg k2
     case measure => have := HK1.out; have := HK2.out; omega
     case rel => exact ⟨(y263), H', ⟨by have := HK1.out; have := HK2.out; omega⟩, ⟨rR_ HO265⟩, ⟨z6_5_⟩, ⟨z6_7_⟩, ⟨z6_6_⟩⟩

/-! ### spec_DrawAreLoci: function 66 -/
theorem spec_DrawAreLoci.calls (k : Nat) (A0 : Option Addr) (c0 : Nat) (l0 : List Int) (r : List (S58)) (w : World) (hr0 : Kd.C (Kd.int .u8) w A0 l0.length l0) (hc0 : l0.length ≤ c0) (h : spec_DrawAreLoci.f k l0 = some r) :
 Calls Tryz.prog 66 #[.slice A0 l0.length c0] w fun e w' => ∃ v0_ : Value, e = .returned (v0_) ∧ Kd.R k58 58 w' w.heap.size (fun _ => True) v0_ r ∧ Below w.heap.size w w' := by
 have hu70 := Tryz.underlying70
 have HR0 := Aside0.mk hr0
 have HC0 := Aside0.mk hc0
 clear hr0 hc0
 have HB := Aside0.mk (Below.refl w.heap.size w)
 have H : ((spec_l1Cur_loci.f k l0 0 0).bind fun bt267 => (some bt267.1)) = some r := h
 clear h
 replace H := ob_ H; obtain ⟨⟨t267, t270, t271⟩, A2, H⟩ := H; try dsimp only at H
 obtain rfl := Option.some.inj H
 go_enter Tryz.func66, Tryz.ntmps66
 go_wp2_with (first | ((with_reducible refine gate_dst (N := 6) rfl ?_); refine bx_ 6 #[.slice A0 l0.length c0, .int .i64 0, .int .u64 0] 70 fun gb266 hg w3 hbox hb => ?_; have HI266 := aM_ ((show IsS70 w w3 gb266 l0 0 0 from ⟨A0, c0, hbox, (by rw [hg]; exact (below_size hB_) : w.heap.size ≤ gb266), HR0.out⟩)); replace HB := aM_ (below_step hB_ hb); clear hb hbox hg) | ((with_reducible refine gC_ 43 ?_); refine gM_ (some 8) Tryz.func43 #[.pointer (some ⟨gb266, 0, none⟩)] ?_; (with_reducible refine (spec_l1Cur_loci.calls k gb266 l0 0 0 t267 t270 t271 w _ ?side1 ?side2 A2.out).mono ?_); (case side1 => exact (by repeat (first | (with_reducible first | exact HI266.out | apply IsS70.alloc | apply IsS70.drewN | apply IsS70.drew | apply IsS70.set_1 | apply IsS70.set_2) | exact HI266.out))); (case side2 => exact z6_8_); rintro e w4 ⟨v268, rfl, ho0, hi, hb, hk⟩; refine ⟨_, rfl, ?_⟩; have HO269 := aM_ (Kd.R_lower ho0 (below_size z6_8_)); replace HB := aM_ (hb); replace HI266 := aM_ (hi); (try clear hb); (try clear hk); (try clear hi); (try clear ho0)))
 go_ret
 exact ⟨_, rT_, by (with_reducible repeat (first | apply rA_ | apply rN_ | apply rD_)); exact HO269.out, z6_8_⟩

/-! ### spec_DrawAmbiguousAngles: function 22 -/
theorem spec_DrawAmbiguousAngles.calls (k : Nat) (A0 : Option Addr) (c0 : Nat) (l0 : List Int) (r : List (S58)) (w : World) (hr0 : Kd.C (Kd.int .u8) w A0 l0.length l0) (hc0 : l0.length ≤ c0) (h : spec_DrawAmbiguousAngles.f k l0 = some r) :
 Calls Tryz.prog 22 #[.slice A0 l0.length c0] w fun e w' => ∃ v0_ : Value, e = .returned (v0_) ∧ Kd.R k58 58 w' w.heap.size (fun _ => True) v0_ r ∧ Below w.heap.size w w' := by
 have HR0 := Aside0.mk hr0
 have HC0 := Aside0.mk hc0
 clear hr0 hc0
 have HB := Aside0.mk (Below.refl w.heap.size w)
 have H : ((spec_DrawAreLoci.f k l0).bind fun t272 => (some t272)) = some r := h
 clear h
 replace H := ob_ H; obtain ⟨t272, A2, H⟩ := H; try dsimp only at H
 obtain rfl := Option.some.inj H
 go_enter Tryz.func22, Tryz.ntmps22
 go_wp2_with (first | ((with_reducible refine gC_ 66 ?_); refine gM_ (some 4) Tryz.func66 #[.slice A0 l0.length c0] ?_; (with_reducible refine (spec_DrawAreLoci.calls k _ _ l0 t272 _ ?side1 ?side2 A2.out).mono ?_); (case side1 => exact cC_ HR0); (case side2 => exact HC0.out); rintro e w3 ⟨v273, rfl, ho0, hb⟩; refine ⟨_, rfl, ?_⟩; have HO274 := aM_ (Kd.R_lower ho0 (below_size hB_)); replace HB := aM_ (below_step hB_ hb); (try clear hb); (try clear ho0)))
 go_ret
 exact ⟨_, rT_, by (with_reducible repeat (first | apply rA_ | apply rN_ | apply rD_)); exact HO274.out, hB_⟩

/-! ### impl_locusOf_1: function 181 -/
theorem impl_locusOf_1.calls (a0_0 : ByteArray) (a0_1 : Int) (g1_0 : Nat) (a1_0 : ByteArray) (r : Bool) (w : World) (hb1_0 : w.heap[g1_0]? = some (.cells #[.string a1_0] 9 (0, 0))) (h : impl_locusOf_1.f a0_0 a0_1 a1_0 = some r) :
 Calls Tryz.prog 90 #[.agg #[.string a0_0, .int .i64 a0_1], .pointer (some ⟨g1_0, 0, none⟩)] w fun e w' => e = .returned (.bool r) ∧ Below w.heap.size w w' := by
 have hu58 := Tryz.underlying58
 have BK38 := Aside0.mk hb1_0
 clear hb1_0
 have HB := Aside0.mk (Below.refl w.heap.size w)
 have H : (some (a0_0.toList == a1_0.toList)) = some r := h
 clear h
 obtain rfl := Option.some.inj H
 go_enter Tryz.func90, Tryz.ntmps90
 go_wp2_with (first | ((with_reducible refine gate_dst (N := 2) rfl ?_); refine bx_ 2 #[.string a0_0, .int .i64 a0_1] 58 fun gb275 hg w3 hbox hb => ?_; have BK275 := aM_ (hbox); have GW275 := aM_ (gw_ w hg); have GE275 := aM_ (gw_ w hg); have NB38_275 := aM_ (nb_ g1_0 hg); have NB275_38 := aM_ (nc_ g1_0 hg); replace BK38 := aM_ (blk_below (g := g1_0) (kR_ BK38) hb); replace HB := aM_ (below_step hB_ hb); clear hb hbox hg; have hnb4 := NB275_38.out; have hnc4 := NB38_275.out; have hz5 := cf2_ BK275.out; clear BK275; have hz6 := cf1_ BK38.out))
 go_ret
 exact ⟨rT_, hB_⟩

/-! ### slices_IndexFunc_Locus_impl_locusOf_1: function 180 -/
theorem slices_IndexFunc_Locus_impl_locusOf_1.calls (k : Nat) (A0 : Option Addr) (c0 : Nat) (l0 : List (S58)) (g1_0 : Nat) (a1_0 : ByteArray) (r : Int) (w : World) (hr0 : Kd.C k58 w A0 l0.length l0) (hc0 : l0.length ≤ c0) (hb1_0 : w.heap[g1_0]? = some (.cells #[.string a1_0] 9 (0, 0))) (h : slices_IndexFunc_Locus_impl_locusOf_1.f k l0 a1_0 = some r) :
 Calls Tryz.prog 89 #[.slice A0 l0.length c0, .func (.func 90) #[] #[.pointer (some ⟨g1_0, 0, none⟩)]] w fun e w' => e = .returned (.int .i64 r) ∧ Below w.heap.size w w' := by
 have hu58 := Tryz.underlying58
 have HR0 := Aside0.mk hr0
 have HC0 := Aside0.mk hc0
 clear hr0 hc0
 have BK38 := Aside0.mk hb1_0
 clear hb1_0
 have HB := Aside0.mk (Below.refl w.heap.size w)
 have H : (slices_IndexFunc_Locus_impl_locusOf_1.l0 k l0 (l0.length : Int) 0 a1_0) = some r := h
 clear h
 have H' := Aside0.mk H
 clear H
 go_enter Tryz.func89, Tryz.ntmps89
 go_wp2
 go_loopg [8] k (fun kq v8 w' => ∃ (x8_1 : Int), v8 = .int .i64 x8_1 ∧ Aside0 (slices_IndexFunc_Locus_impl_locusOf_1.l0 kq l0 (l0.length : Int) x8_1 a1_0 = some r) ∧ Aside0 (kq ≤ k) ∧ Aside0 (w'.heap[g1_0]? = some (.cells #[.string a1_0] 9 (0, 0))) ∧ Aside0 (Below w.heap.size w w'))
 case atStart => exact ⟨(0), z6_0_, H', ⟨Nat.le_refl _⟩, ⟨kP_⟩, ⟨hB_⟩⟩
 case round =>
  clear H'
  obtain ⟨x8_1, rfl, HA, HK1, BK38, HB⟩ := hrel
  cases gk with
  | zero => exact absurd HA.out (by simp [slices_IndexFunc_Locus_impl_locusOf_1.l0])
  | succ k1 =>
   have H := HA.out
   clear HA
   simp only [slices_IndexFunc_Locus_impl_locusOf_1.l0] at H
   replace H := iF_ H; obtain ⟨c3b0, H⟩ | ⟨c3b0, H⟩ := H
   ·obtain rfl := Option.some.inj H
    go_wp2
    go_ret
    exact ⟨rT_, hB_⟩
   replace H := ig_ H; obtain ⟨c4b0, H⟩ := H
   replace H := ig_ H; obtain ⟨c5b0, H⟩ := H
   replace H := ob_ H; obtain ⟨t277, A6, H⟩ := H; try dsimp only at H
   have HC7 := Aside0.mk H
   clear H
   have p276 : 0 ≤ (x8_1 : Int) := ode_
   have q276 : x8_1 < (l0.length : Int) := ode_
   obtain ⟨ad276, e276, hx276_0, hx276_1⟩ := at_T58 HR0.out x8_1 p276 q276
   cases e276
   try replace hx276_0 := hc_ HB hx276_0
   try replace hx276_1 := hc_ HB hx276_1
   replace p276 := eq_true p276
   replace q276 := eq_true q276
   go_upto_if 16 with (first | ((with_reducible refine gate_via (t := 11) rfl ?_); refine goesV_ (some 16) rfl rfl Tryz.func90 (by kernel_rfl) rfl #[.agg #[.string ((rd_T58 l0 x8_1).f0), .int .i64 ((rd_T58 l0 x8_1).f1)], .pointer (some ⟨g1_0, 0, none⟩)] rfl rfl (by (try simp only [List.map_toArray, List.map_cons, List.map_nil]); first | done | rfl | simp | (simp; rfl)) ?_; (with_reducible refine (impl_locusOf_1.calls ((rd_T58 l0 x8_1).f0) ((rd_T58 l0 x8_1).f1) g1_0 a1_0 t277 _ ?side1 A6.out).mono ?_); (case side1 => (with_reducible repeat (first | apply kN_ | apply kD_ | apply kA_)); exact BK38.out); rintro e w8 ⟨rfl, hb⟩; refine ⟨_, rfl, ?_⟩; replace BK38 := aM_ (blk_below (g := g1_0) (kR_ BK38) hb); replace HB := aM_ (below_step hB_ hb); (try clear hb)))
   (try simp only [Act.put, List.setIfInBounds_toArray, List.set_cons_zero, List.set_cons_succ])
   have H := HC7.out
   clear HC7
   by_cases c9 : t277 = true
   ·subst c9
    replace H := ip_ H rfl
    obtain rfl := Option.some.inj H
    go_wp2
    go_ret
    exact ⟨rT_, hB_⟩
   replace c9 := Bool.eq_false_iff.mpr c9
   subst c9
   replace H := in_ H (show ¬ (false = true) by decide)
   have H' := Aside0.mk H
   clear H
   go_wp2
   go_roundg k1
   case measure => have := HK1.out; omega
   case rel => exact ⟨(wrap64 (x8_1 + 1)), z6_0_, H', ⟨z6_2_⟩, ⟨kP_⟩, ⟨hB_⟩⟩

/-! ### impl_locusOf: function 48 -/
theorem impl_locusOf.calls (k : Nat) (A0 : Option Addr) (c0 : Nat) (l0 : List (S58)) (a1 : ByteArray) (r : Int) (w : World) (hr0 : Kd.C k58 w A0 l0.length l0) (hc0 : l0.length ≤ c0) (h : impl_locusOf.f k l0 a1 = some r) :
 Calls Tryz.prog 48 #[.slice A0 l0.length c0, .string a1] w fun e w' => e = .returned (.int .i64 r) ∧ Below w.heap.size w w' := by
 have hu9 := Tryz.underlying9
 have HR0 := Aside0.mk hr0
 have HC0 := Aside0.mk hc0
 clear hr0 hc0
 have HB := Aside0.mk (Below.refl w.heap.size w)
 have H : ((slices_IndexFunc_Locus_impl_locusOf_1.f k l0 a1).bind fun t279 => (some t279)) = some r := h
 clear h
 replace H := ob_ H; obtain ⟨t279, A3, H⟩ := H; try dsimp only at H
 obtain rfl := Option.some.inj H
 go_enter Tryz.func48, Tryz.ntmps48
 go_wp2_with (first | ((with_reducible refine gate_dst (N := 3) rfl ?_); refine bx_ 3 #[.string a1] 9 fun gb278 hg w4 hbox hb => ?_; have BK278 := aM_ (hbox); have GW278 := aM_ (gw_ w hg); have GE278 := aM_ (gw_ w hg); replace HB := aM_ (below_step hB_ hb); clear hb hbox hg) | ((with_reducible refine gC_ 89 ?_); refine gM_ (some 7) Tryz.func89 #[.slice A0 l0.length c0, .func (.func 90) #[] #[.pointer (some ⟨gb278, 0, none⟩)]] ?_; (with_reducible refine (slices_IndexFunc_Locus_impl_locusOf_1.calls k _ _ l0 gb278 a1 t279 _ ?side1 ?side2 ?side3 A3.out).mono ?_); (case side1 => exact z6_4_); (case side2 => exact HC0.out); (case side3 => (with_reducible repeat (first | apply kN_ | apply kD_ | apply kA_)); exact BK278.out); rintro e w5 ⟨rfl, hb⟩; refine ⟨_, rfl, ?_⟩; replace BK278 := aM_ (blk_below (g := gb278) (kR_ BK278) hb); replace HB := aM_ (below_step hB_ hb); (try clear hb)))
 go_ret
 exact ⟨rT_, hB_⟩

/-! ### impl_within: function 100 -/
theorem impl_within.calls (a0 : Int) (a1 : Int) (a2 : Int) (r : Bool) (w : World) (h : impl_within.f a0 a1 a2 = some r) :
 Calls Tryz.prog 100 #[.int .i64 a0, .int .i64 a1, .int .i64 a2] w fun e w' => e = .returned (.bool r) ∧ Drawn0 w w' := by
 have H : (if a0 ≥ a1 then (some (decide (a0 ≤ a2))) else (some false)) = some r := h
 clear h
 by_cases c4 : a0 ≥ a1
 ·rw [if_pos c4] at H
  have c4b0 : decide (a1 ≤ a0) = true := decide_eq_true c4
  clear c4
  obtain rfl := Option.some.inj H
  go_enter Tryz.func100, Tryz.ntmps100
  go_wp2
  go_ret
  exact ⟨z6_0_, z6_9_⟩
 rw [if_neg c4] at H
 have c4b0 : decide (a1 ≤ a0) = false := decide_eq_false c4
 clear c4
 obtain rfl := Option.some.inj H
 go_enter Tryz.func100, Tryz.ntmps100
 go_wp2
 go_ret
 exact ⟨z6_0_, z6_9_⟩

/-! ### impl_isAngle: function 65 -/
theorem impl_isAngle.calls (a0 : Int) (r : Bool) (w : World) (h : impl_isAngle.f a0 = some r) :
 Calls Tryz.prog 65 #[.int .i64 a0] w fun e w' => e = .returned (.bool r) ∧ Drawn0 w w' := by
 have H : ((impl_within.f a0 (-90) 90).bind fun t280 => (some t280)) = some r := h
 clear h
 replace H := ob_ H; obtain ⟨t280, A2, H⟩ := H; try dsimp only at H
 obtain rfl := Option.some.inj H
 go_enter Tryz.func65, Tryz.ntmps65
 go_wp2_with (first | ((with_reducible refine gC_ 100 ?_); refine gM_ (some 4) Tryz.func100 #[.int .i64 a0, .int .i64 (-90), .int .i64 90] ?_; (with_reducible refine (impl_within.calls a0 (-90) 90 t280 _ A2.out).mono ?_); rintro e w' ⟨rfl, ⟨nd, rfl⟩⟩; refine ⟨_, rfl, ?_⟩))
 go_ret
 exact ⟨z6_0_, z6_9_⟩

/-! ### stringslite_IndexByte: function 123, by hand -/
set_option maxHeartbeats 1000000 in
theorem stringslite_IndexByte.calls (a0 : ByteArray) (a1 : Int) (r : Int) (w : World) (h : stringslite_IndexByte.f a0 a1 = some r) :
 Calls Tryz.prog 123 #[.string a0, .int .u8 a1] w fun e w' => e = .returned (.int .i64 r) ∧ Drawn0 w w' := by
 obtain rfl := Option.some.inj h
 go_enter Tryz.func123, Tryz.ntmps123
 go_wp2
 rw [run_callFunc_extern Tryz.func137 (by kernel_rfl) (by kernel_rfl) (by kernel_rfl) (e := Extern.BytealgIndexByte.indexByte) (by kernel_rfl), Lib.run_indexByteString]
 simp only [Result.andThen]
 rw [Oper.upon_value]
 go_wp2
 go_ret
 exact ⟨rfl, Drawn0.refl _⟩

end Go.Proofs.YtfkdlfbjkdkffaaGreatDoor.PFnPoints
