/- Printed for this claim: functions of the program as Lean functions, and that the calls answer so. -/
import Derived.Test.YtbfkpgmdbafmhaaGreatPFnVerbRunsx0
import Derived.Test.YtbfkpgmdbafmhaaGreatPFnVerbRunsx9
import Derived.Test.YtbfkpgmdbafmhaaGreatPFnVerbRunsx10
import Derived.Test.YtbfkpgmdbafmhaaGreatPFnVerbRunsx11
import Derived.Test.YtbfkpgmdbafmhaaGreatPFnVerbRunsx12
import Derived.Test.YtbfkpgmdbafmhaaGreatPFnVerbRunsxD0
import Derived.Test.YtbfkpgmdbafmhaaGreatPFnVerbRunsxD1
namespace Go.Proofs.YtbfkpgmdbafmhaaGreat.PFnVerbRuns
open Go.RowKit Go.Proofs.YtbfkpgmdbafmhaaGreatW.PrintWords Go.Proofs.YtbfkpgmdbafmhaaGreatW.PrintLast Go.Proofs.YtbfkpgmdbafmhaaGreatW.PrintMore
attribute [local go_sem] max2_int min2_int max_two min_two max_three min_three max_four min_four isSome_setCell   -- for this text's walks alone
set_option linter.unusedVariables false
set_option linter.unusedSimpArgs false

theorem z13_0_ {p : Prop} (h : p := by repeat (first | exact (Kd.C_below HR0.out HB.out) | (with_reducible first | apply cA_ | apply cN_ | apply cD_))) : p := h
theorem z13_1_ {p : Prop} (h : p := by first | rfl | (simp; done) | (simp [*]; done)) : p := h
theorem z13_2_ {p : Prop} (h : p := by repeat (first | exact (Kd.C_below HR1.out HB.out) | (with_reducible first | apply cA_ | apply cN_ | apply cD_))) : p := h
theorem z13_3_ {p : Prop} (h : p := by first | exact Kd.R_nil _ _ _ _ _ | exact Kd.N_nil _ _ _ _ _ | exact Kd.V_nil _ _ _ _ _ | exact Kd.Q_nil _ _ _ _ _ | exact Kd.S_nil _ _ _ _ _) : p := h
theorem z13_4_ {p : Prop} (h : p := by (with_reducible repeat (first | apply kN_ | apply kD_ | apply kA_)); refine blk_put (cs := #[.string ((rd_T40 l1 x28_2).f0), .int .i64 ((rd_T40 l1 x28_2).f1), .int .i64 0]) ?_ 2 _ rfl; (with_reducible repeat (first | apply kN_ | apply kD_ | apply kA_)); refine blk_put (cs := #[.string ((rd_T40 l1 x28_2).f0), .int .i64 0, .int .i64 0]) ?_ 1 _ rfl; (with_reducible repeat (first | apply kN_ | apply kD_ | apply kA_)); refine blk_put (cs := #[.string (⟨#[]⟩ : ByteArray), .int .i64 0, .int .i64 0]) ?_ 0 _ rfl; (with_reducible repeat (first | apply kN_ | apply kD_ | apply kA_)); exact BK513.out) : p := h
theorem z13_5_ {p : Prop} (h : p := by have := HJ3.out; have := HK2.out; omega) : p := h
set_option maxHeartbeats 8000000 in
set_option maxRecDepth 100000 in
theorem Fas.calls (k : Nat) (A0 : Option Addr) (c0 : Nat) (l0 : List S74) (A1 : Option Addr) (c1 : Nat) (l1 : List S40) (a2 : ByteArray) (r1 : List ByteArray) (r2 : Bool) (w : World) (hr0 : Kd.C k74 w A0 l0.length l0) (hc0 : l0.length ≤ c0) (hr1 : Kd.C k40 w A1 l1.length l1) (hc1 : l1.length ≤ c1) (h : Fas.f k l0 l1 a2 = some (r1, r2)) :
 Calls Tryz.prog 8 #[.slice A0 l0.length c0, .slice A1 l1.length c1, .string a2] w fun e w' => ∃ v0_ : Value, e = .returned (.tuple #[v0_, .bool r2]) ∧ Kd.R Kd.string 9 w' w.heap.size (fun _ => True) v0_ r1 ∧ Below w.heap.size w w' := by
 have hu40 := Tryz.underlying40
 have HR0 := aM_ hr0
 have HC0 := aM_ hc0
 clear hr0 hc0
 have HR1 := aM_ hr1
 have HC1 := aM_ hc1
 clear hr1 hc1
 have HB := aM_ (Below.refl w.heap.size w)
 have H : ((Fan.f k l0).bind fun t509 => (if t509 = true then ((FaR.f k l1).bind fun t510 => (if t510 = true then ((Fa6.f k a2).bind fun t511 => (Fas.j0 k l0 l1 a2 (!t511))) else (Fas.j0 k l0 l1 a2 true))) else (Fas.j0 k l0 l1 a2 true))) = some (r1, r2) := h
 clear h
 have HC4 := aM_ H
 clear H
 go_enter Tryz.func8, Tryz.ntmps8
 go_upto_region 1 with (fail)
 go_cut [25] (fun v25 wc => ∃ (kq : Nat) (x25_3 : Bool), v25 = .bool x25_3 ∧ Aside0 (Fas.j0 kq l0 l1 a2 x25_3 = some (r1, r2)) ∧ Aside0 (kq ≤ k) ∧ Aside0 (Below w.heap.size w wc))
 case first =>
  have H := HC4.out
  clear HC4
  replace H := ob_ H; obtain ⟨t509, A5, H⟩ := H; try dsimp only at H
  by_cases c6 : t509 = true
  rotate_left
  ·replace c6 := Bool.eq_false_iff.mpr c6
   subst c6
   replace H := in_ H (show ¬ (false = true) by decide)
   have H' := aM_ H
   clear H
   go_wp2_with (first | ((with_reducible refine gC_ 28 ?_); refine gM_ (some 14) Tryz.func28 #[.slice A0 l0.length c0] ?_; (with_reducible refine (Fan.calls k _ _ l0 false _ ?_ ?_ A5.out).mono ?_); exact z13_0_; exact HC0.out; rintro e w14 ⟨rfl, hb⟩; refine ⟨_, rfl, ?_⟩; replace HB := bS_ hb; (try clear hb)))
   go_meet
   case rel => exact ⟨_, (true), z13_1_, H', ⟨oR_⟩, ⟨hB_⟩⟩
  subst c6
  replace H := ip_ H rfl
  replace H := ob_ H; obtain ⟨t510, A7, H⟩ := H; try dsimp only at H
  by_cases c8 : t510 = true
  rotate_left
  ·replace c8 := Bool.eq_false_iff.mpr c8
   subst c8
   replace H := in_ H (show ¬ (false = true) by decide)
   have H' := aM_ H
   clear H
   go_wp2_with (first | ((with_reducible refine gC_ 28 ?_); refine gM_ (some 14) Tryz.func28 #[.slice A0 l0.length c0] ?_; (with_reducible refine (Fan.calls k _ _ l0 true _ ?_ ?_ A5.out).mono ?_); exact z13_0_; exact HC0.out; rintro e w12 ⟨rfl, hb⟩; refine ⟨_, rfl, ?_⟩; replace HB := bS_ hb; (try clear hb)) | (go_at_call 29; (with_reducible refine (FaR.calls k _ _ l1 false _ ?_ ?_ A7.out).mono ?_); exact z13_2_; exact HC1.out; rintro e w13 ⟨rfl, hb⟩; replace HB := bS_ hb; (try clear hb)))
   go_meet
   case rel => exact ⟨_, (true), z13_1_, H', ⟨oR_⟩, ⟨hB_⟩⟩
  subst c8
  replace H := ip_ H rfl
  replace H := ob_ H; obtain ⟨t511, A9, H⟩ := H; try dsimp only at H
  have H' := aM_ H
  clear H
  go_wp2_with (first | ((with_reducible refine gC_ 28 ?_); refine gM_ (some 14) Tryz.func28 #[.slice A0 l0.length c0] ?_; (with_reducible refine (Fan.calls k _ _ l0 true _ ?_ ?_ A5.out).mono ?_); exact z13_0_; exact HC0.out; rintro e w10 ⟨rfl, hb⟩; refine ⟨_, rfl, ?_⟩; replace HB := bS_ hb; (try clear hb)) | (go_at_call 29; (with_reducible refine (FaR.calls k _ _ l1 true _ ?_ ?_ A7.out).mono ?_); exact z13_2_; exact HC1.out; rintro e w11 ⟨rfl, hb⟩; replace HB := bS_ hb; (try clear hb)) | (go_at_call 34; (with_reducible refine (Fa6.calls k a2 t511 _ A9.out).mono ?_); rintro e w' ⟨rfl, ⟨nd, rfl⟩⟩))
  go_meet
  case rel => exact ⟨_, (!t511), z13_1_, H', ⟨oR_⟩, ⟨hB_⟩⟩
 case rest =>
  clear HC4
  (try clear c1)
  obtain ⟨kq, x25_3, rfl, HA, HJ3, HB⟩ := hcut
  cases kq with
  | zero => exact absurd HA.out (by simp [Fas.j0])
  | succ kj3 =>
   have H := HA.out
   clear HA
   simp only [Fas.j0] at H
   by_cases c15 : x25_3 = true
   ·subst c15
    replace H := ip_ H rfl
    simp only [Option.some.injEq, Prod.mk.injEq] at H
    obtain ⟨rfl, rfl⟩ := H
    go_wp2
    go_ret2
    exact ⟨_, rT_, z13_3_, hB_⟩
   replace c15 := Bool.eq_false_iff.mpr c15
   subst c15
   replace H := in_ H (show ¬ (false = true) by decide)
   have H' := aM_ H
   clear H
   go_wp2
   go_loopg [8, 28] kj3 (fun kq v8 v28 w' => ∃ (x8_2 : List ByteArray) (x28_2 : Int), v28 = .int .i64 x28_2 ∧ Aside0 (Fas.l0 kq l0 a2 x8_2 l1 (l1.length : Int) x28_2 = some (r1, r2)) ∧ Aside0 (kq ≤ kj3) ∧ Aside0 (Kd.R Kd.string 9 w' w.heap.size (fun _ => True) v8 x8_2) ∧ Aside0 (Below w.heap.size w w'))
   case atStart => exact ⟨(([] : List ByteArray)), (0), z13_1_, H', ⟨Nat.le_refl _⟩, ⟨z13_3_⟩, ⟨hB_⟩⟩
   case round =>
    clear H'
    (try clear c1);(try clear c15)
    obtain ⟨x8_2, x28_2, rfl, HA, HK2, HO_8, HB⟩ := hrel
    cases gk with
    | zero => exact absurd HA.out (by simp [Fas.l0])
    | succ k2 =>
     have H := HA.out
     clear HA
     simp only [Fas.l0] at H
     replace H := iF_ H; obtain ⟨c16b0, H⟩ | ⟨c16b0, H⟩ := H
     ·replace H := ob_ H; obtain ⟨t519, A32, H⟩ := H; try dsimp only at H
      simp only [Option.some.injEq, Prod.mk.injEq] at H
      obtain ⟨rfl, rfl⟩ := H
      obtain ⟨Ao33, co33, eo33⟩ := rS_ HO_8
      subst eo33
      go_wp2_with (first | ((with_reducible refine gC_ 35 ?_); refine gM_ (some 52) Tryz.func35 #[.slice Ao33 x8_2.length co33] ?_; (with_reducible refine (Fbp.calls _ _ x8_2 t519 _ ?_ ?_ A32.out).mono ?_); exact cR_ HO_8; exact (Kd.R_reads' HO_8.out).2.1; rintro e w34 ⟨v520, rfl, ho0, hb⟩; refine ⟨_, rfl, ?_⟩; have HO521 := aM_ (Kd.R_lower (Kd.R_new' ho0 (Kd.R_lt (rR_ HO_8))) (below_size hB_)); replace HO_8 := rE_ HO_8 ho0 hb; replace HB := bS_ hb; (try clear hb); (try clear ho0)))
      go_ret2
      exact ⟨_, rT_, by (with_reducible repeat (first | apply rA_ | apply rN_ | apply rD_)); exact Kd.R_mono HO521.out (fun _ hk => trivial), hB_⟩
     replace H := ig_ H; obtain ⟨c17b0, H⟩ := H
     replace H := ig_ H; obtain ⟨c18b0, H⟩ := H
     replace H := ob_ H; obtain ⟨⟨t514, t515⟩, A19, H⟩ := H; try dsimp only at H
     by_cases c20 : t514.toList = ([] : List UInt8)
     ·rw [if_pos c20] at H
      have c20b0 : (t514.toList == ([] : List UInt8)) = true := beq_iff_eq.mpr c20
      have c20b1 : (t514.toList != ([] : List UInt8)) = false := bne_eq_false_iff_eq.mpr c20
      clear c20
      have H' := aM_ H
      clear H
      obtain ⟨⟨ad512, e512, hx512_0, hx512_1, hx512_2⟩, p512, q512⟩ := at2_ (at_T40 HR1.out x28_2); cases e512
      try replace hx512_0 := hc_ HB hx512_0; try replace hx512_1 := hc_ HB hx512_1; try replace hx512_2 := hc_ HB hx512_2
      go_wp2_with (first | ((with_reducible refine gD_ 10 ?_); refine bx_ 10 #[.string (⟨#[]⟩ : ByteArray), .int .i64 0, .int .i64 0] 40 fun gb513 hg w21 hbox hb => ?_; have BK513 := aM_ (hbox); have GW513 := gW_ w hg; have GE513 := gW_ w hg; replace HO_8 := rB_ HO_8 hb; replace HB := bS_ hb; clear hb hbox hg; have hz22 := cf3_ BK513.out) | ((with_reducible refine gC_ 30 ?_); refine gM_ (some 35) Tryz.func30 #[.agg #[.string ((rd_T40 l1 x28_2).f0), .int .i64 ((rd_T40 l1 x28_2).f1), .int .i64 ((rd_T40 l1 x28_2).f2)], .slice A0 l0.length c0] ?_; (with_reducible refine (Fax.calls k2 ((rd_T40 l1 x28_2).f0) ((rd_T40 l1 x28_2).f1) ((rd_T40 l1 x28_2).f2) _ _ l0 t514 t515 _ ?_ ?_ A19.out).mono ?_); exact Kd.C_below HR0.out hB_; exact HC0.out; rintro e w23 ⟨rfl, hb⟩; refine ⟨_, rfl, ?_⟩; replace HO_8 := aM_ (Kd.R_below (by (with_reducible repeat (first | apply rA_ | apply rN_ | apply rD_)); exact (Kd.R_mono (Kd.R_far (p := ⟨gb513, 2, none⟩) (Kd.R_far (p := ⟨gb513, 1, none⟩) (Kd.R_far (p := ⟨gb513, 0, none⟩) (Kd.R_types HO_8.out BK513.out (by decide)) (fun _ hk => hk.2) (.string ((rd_T40 l1 x28_2).f0))) (fun _ hk => hk.2) (.int .i64 ((rd_T40 l1 x28_2).f1))) (fun _ hk => hk.2) (.int .i64 ((rd_T40 l1 x28_2).f2))) (fun _ h_ => h_.1))) hb); replace BK513 := aM_ (blk_below (g := gb513) (o := .cells #[.string ((rd_T40 l1 x28_2).f0), .int .i64 ((rd_T40 l1 x28_2).f1), .int .i64 ((rd_T40 l1 x28_2).f2)] 40 (0, 0)) z13_4_ hb); replace HB := bS_ hb; (try clear hb); (try clear hk)))
      go_roundg k2
      case measure => have := HJ3.out; have := HK2.out; omega
      case rel => exact ⟨(x8_2), (wrap64 (x28_2 + 1)), z13_1_, H', ⟨z13_5_⟩, ⟨(rR_ HO_8)⟩, ⟨hB_⟩⟩
     rw [if_neg c20] at H
     have c20b0 : (t514.toList == ([] : List UInt8)) = false := beq_eq_false_iff_ne.mpr c20
     have c20b1 : (t514.toList != ([] : List UInt8)) = true := bne_iff_ne.mpr c20
     have HC24 := aM_ H
     clear H
     obtain ⟨⟨ad512, e512, hx512_0, hx512_1, hx512_2⟩, p512, q512⟩ := at2_ (at_T40 HR1.out x28_2); cases e512
     try replace hx512_0 := hc_ HB hx512_0; try replace hx512_1 := hc_ HB hx512_1; try replace hx512_2 := hc_ HB hx512_2
     go_upto_if 45 with (first | ((with_reducible refine gD_ 10 ?_); refine bx_ 10 #[.string (⟨#[]⟩ : ByteArray), .int .i64 0, .int .i64 0] 40 fun gb513 hg w25 hbox hb => ?_; have BK513 := aM_ (hbox); have GW513 := gW_ w hg; have GE513 := gW_ w hg; replace HO_8 := rB_ HO_8 hb; replace HB := bS_ hb; clear hb hbox hg; have hz26 := cf3_ BK513.out) | ((with_reducible refine gC_ 30 ?_); refine gM_ (some 35) Tryz.func30 #[.agg #[.string ((rd_T40 l1 x28_2).f0), .int .i64 ((rd_T40 l1 x28_2).f1), .int .i64 ((rd_T40 l1 x28_2).f2)], .slice A0 l0.length c0] ?_; (with_reducible refine (Fax.calls k2 ((rd_T40 l1 x28_2).f0) ((rd_T40 l1 x28_2).f1) ((rd_T40 l1 x28_2).f2) _ _ l0 t514 t515 _ ?_ ?_ A19.out).mono ?_); exact Kd.C_below HR0.out hB_; exact HC0.out; rintro e w27 ⟨rfl, hb⟩; refine ⟨_, rfl, ?_⟩; replace HO_8 := aM_ (Kd.R_below (by (with_reducible repeat (first | apply rA_ | apply rN_ | apply rD_)); exact (Kd.R_mono (Kd.R_far (p := ⟨gb513, 2, none⟩) (Kd.R_far (p := ⟨gb513, 1, none⟩) (Kd.R_far (p := ⟨gb513, 0, none⟩) (Kd.R_types HO_8.out BK513.out (by decide)) (fun _ hk => hk.2) (.string ((rd_T40 l1 x28_2).f0))) (fun _ hk => hk.2) (.int .i64 ((rd_T40 l1 x28_2).f1))) (fun _ hk => hk.2) (.int .i64 ((rd_T40 l1 x28_2).f2))) (fun _ h_ => h_.1))) hb); replace BK513 := aM_ (blk_below (g := gb513) (o := .cells #[.string ((rd_T40 l1 x28_2).f0), .int .i64 ((rd_T40 l1 x28_2).f1), .int .i64 ((rd_T40 l1 x28_2).f2)] 40 (0, 0)) z13_4_ hb); replace HB := bS_ hb; (try clear hb); (try clear hk); have hz28 := cf3_ BK513.out))
     (try simp only [Act.put, List.setIfInBounds_toArray, List.set_cons_zero, List.set_cons_succ])
     have H := HC24.out
     clear HC24
     by_cases c29 : ((rd_T40 l1 x28_2).f0).toList = a2.toList
     rotate_left
     ·rw [if_neg c29] at H
      have c29b0 : (((rd_T40 l1 x28_2).f0).toList == a2.toList) = false := beq_eq_false_iff_ne.mpr c29
      have c29b1 : (((rd_T40 l1 x28_2).f0).toList != a2.toList) = true := bne_iff_ne.mpr c29
      (first | rw [c29b0] | (simp only [i64_w, i32_w]; rw [c29b0]) | skip)
      have H' := aM_ H
      clear H
      go_wp2
      go_roundg k2
      case measure => have := HJ3.out; have := HK2.out; omega
      case rel => exact ⟨(x8_2), (wrap64 (x28_2 + 1)), z13_1_, H', ⟨z13_5_⟩, ⟨(rR_ HO_8)⟩, ⟨hB_⟩⟩
     rw [if_pos c29] at H
     have c29b0 : (((rd_T40 l1 x28_2).f0).toList == a2.toList) = true := beq_iff_eq.mpr c29
     have c29b1 : (((rd_T40 l1 x28_2).f0).toList != a2.toList) = false := bne_eq_false_iff_eq.mpr c29
     clear c29
     (first | rw [c29b0] | (simp only [i64_w, i32_w]; rw [c29b0]) | skip)
     replace H := il_ H; obtain ⟨LMc30, H⟩ := H
     obtain ⟨y516, hy516⟩ : ∃ y_ : List ByteArray, y_ = (x8_2 ++ [t514]) := ⟨_, rfl⟩
     rw [← hy516] at H
     have Ny516 := aM_ hy516; clear hy516
     have H' := aM_ H
     clear H
     go_wp2_with (first | ((with_reducible refine gate_builtin (b := .append) (xs := #[.tmp 46, .tmp 48]) rfl ?_); at_builtin; refine Kd.R_append Kd.string (w0 := w) w.heap.size rfl (.tmp 46) (.tmp 48) 27 9 (.string ⟨#[]⟩) 16 rfl Tryz.underlying27 info9 rfl (by decide) (by omega) u8 x8_2 t514 [.string t514] (fun _ => True) (fun _ => False) rfl rfl ?aP (fun _ hk => hk.elim) ?aF ?aO ?aB ?aS ?aL ?_; (case aP => exact rfl); (case aB => exact hB_); (case aF => exact (fun _ _ => trivial)); (case aO => exact (rR_ HO_8)); (case aS => exact (below_size hB_)); (case aL => have := LMc30.out; omega); intro v517 w31 ho hb hg hat; rw [← Ny516.out] at ho; have HO518 := aM_ (ho); replace BK513 := aM_ (blk_grown (g := gb513) (kR_ BK513) hg (Kd.R_ne HO_8.out BK513.out (by decide))); replace HB := aM_ (hb); clear HO_8; clear ho hb hg hat))
     go_roundg k2
     case measure => have := HJ3.out; have := HK2.out; omega
     case rel => exact ⟨(y516), (wrap64 (x28_2 + 1)), z13_1_, H', ⟨z13_5_⟩, ⟨rR_ HO518⟩, ⟨hB_⟩⟩

end Go.Proofs.YtbfkpgmdbafmhaaGreat.PFnVerbRuns
