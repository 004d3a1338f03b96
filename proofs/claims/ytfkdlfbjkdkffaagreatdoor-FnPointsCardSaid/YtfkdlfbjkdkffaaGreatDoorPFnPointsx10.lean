/- Printed for this claim: functions of the program as Lean functions, and that the calls answer so. -/
import Derived.Test.YtfkdlfbjkdkffaaGreatDoorPFnPointsx0
import Derived.Test.YtfkdlfbjkdkffaaGreatDoorPFnPointsx3
import Derived.Test.YtfkdlfbjkdkffaaGreatDoorPFnPointsx8
import Derived.Test.YtfkdlfbjkdkffaaGreatDoorPFnPointsx9
import Derived.Test.YtfkdlfbjkdkffaaGreatDoorPFnPointsxD0
namespace Go.Proofs.YtfkdlfbjkdkffaaGreatDoor.PFnPoints
open Go.RowKit Go.Proofs.YtfkdlfbjkdkffaaGreatDoorW.PrintWords Go.Proofs.YtfkdlfbjkdkffaaGreatDoorW.PrintLast Go.Proofs.YtfkdlfbjkdkffaaGreatDoorW.PrintMore
theorem z10_0_ {p : Prop} (h : p := by first | exact Kd.R_nil _ _ _ _ _ | exact Kd.N_nil _ _ _ _ _ | exact Kd.V_nil _ _ _ _ _ | exact Kd.Q_nil _ _ _ _ _ | exact Kd.S_nil _ _ _ _ _) : p := h
theorem z10_1_ {p : Prop} (h : p := by repeat (first | exact (Kd.C_below HR0.out HB.out) | (with_reducible first | apply cA_ | apply cN_ | apply cD_))) : p := h
theorem z10_2_ {p : Prop} (h : p := by first | rfl | (simp; done) | (simp [*]; done)) : p := h
theorem z10_3_ {p : Prop} (h : p := by have h_ : (x13_1 : Int) < ((x4_1.length : Int) : Int) := ode_; first | exact h_ | (have e_ := (Kd.R_reads' HO_4.out).1; omega) | simpa using h_) : p := h
theorem z10_4_ {p : Prop} (h : p := by have := HK1.out; omega) : p := h
theorem z10_5_ {p : Prop} (h : p := by (try simp only [hl4_1]); (with_reducible repeat (first | apply rA_ | apply rN_ | apply rD_)); exact HO_4.out) : p := h
theorem z10_6_ {p : Prop} (h : p := by (with_reducible repeat (first | apply kN_ | apply kD_ | apply kA_)); refine blk_put (cs := #[.string ((rd_T58 l0 x12_1).f0), .int .i64 ((rd_T58 l0 x12_1).f1)]) ?_ 1 _ rfl; (with_reducible repeat (first | apply kN_ | apply kD_ | apply kA_)); refine blk_put (cs := #[.string ((rd_T58 l0 x12_1).f0), .int .i64 0]) ?_ 1 _ rfl; (with_reducible repeat (first | apply kN_ | apply kD_ | apply kA_)); refine blk_put (cs := #[.string (⟨#[]⟩ : ByteArray), .int .i64 0]) ?_ 0 _ rfl; (with_reducible repeat (first | apply kN_ | apply kD_ | apply kA_)); exact BK349.out) : p := h
theorem z10_7_ {p : Prop} (h : p := by (with_reducible repeat (first | apply kN_ | apply kD_ | apply kA_)); refine blk_put (cs := #[.string ((rd_T58 l0 x12_1).f0), .int .i64 0]) ?_ 1 _ rfl; (with_reducible repeat (first | apply kN_ | apply kD_ | apply kA_)); refine blk_put (cs := #[.string ((rd_T58 l0 x12_1).f0), .int .i64 ((rd_T58 l0 x12_1).f1)]) ?_ 1 _ rfl; (with_reducible repeat (first | apply kN_ | apply kD_ | apply kA_)); refine blk_put (cs := #[.string ((rd_T58 l0 x12_1).f0), .int .i64 0]) ?_ 1 _ rfl; (with_reducible repeat (first | apply kN_ | apply kD_ | apply kA_)); refine blk_put (cs := #[.string (⟨#[]⟩ : ByteArray), .int .i64 0]) ?_ 0 _ rfl; (with_reducible repeat (first | apply kN_ | apply kD_ | apply kA_)); exact BK349.out) : p := h
set_option maxHeartbeats 8000000
set_option maxRecDepth 100000
attribute [local go_sem] max2_int min2_int max_two min_two max_three min_three max_four min_four isSome_setCell   -- for this text's walks alone
set_option linter.unusedVariables false
set_option linter.unusedSimpArgs false

/-! ### impl_SpreadLoci: function 27 -/
theorem impl_SpreadLoci.calls (k : Nat) (A0 : Option Addr) (c0 : Nat) (l0 : List (S58)) (r1 : List (S58)) (r2 : Bool) (w : World) (hr0 : Kd.C k58 w A0 l0.length l0) (hc0 : l0.length ≤ c0) (h : impl_SpreadLoci.f k l0 = some (r1, r2)) :
 Calls Tryz.prog 27 #[.slice A0 l0.length c0] w fun e w' => ∃ v0_ : Value, e = .returned (.tuple #[v0_, .bool r2]) ∧ Kd.R k58 58 w' w.heap.size (fun _ => True) v0_ r1 ∧ Below w.heap.size w w' := by
 have HR0 := Aside0.mk hr0
 have HC0 := Aside0.mk hc0
 clear hr0 hc0
 have HB := Aside0.mk (Below.refl w.heap.size w)
 have H : ((impl_AreLoci.f k l0).bind fun t341 => (if t341 = true then ((slices_Clone_Locus.f l0).bind fun t342 => (impl_SpreadLoci.l0 k t342 (t342.length : Int) 0)) else (some (([] : List (S58)), false)))) = some (r1, r2) := h
 clear h
 replace H := ob_ H; obtain ⟨t341, A2, H⟩ := H; try dsimp only at H
 have HC3 := Aside0.mk H
 clear H
 go_enter Tryz.func27, Tryz.ntmps27
 go_upto_if 8 with (first | ((with_reducible refine gC_ 33 ?_); refine gM_ (some 7) Tryz.func33 #[.slice A0 l0.length c0] ?_; (with_reducible refine (impl_AreLoci.calls k _ _ l0 t341 _ ?side1 ?side2 A2.out).mono ?_); (case side1 => exact cC_ HR0); (case side2 => exact HC0.out); rintro e w4 ⟨rfl, hb⟩; refine ⟨_, rfl, ?_⟩; replace HB := aM_ (below_step hB_ hb); (try clear hb)))
 (try simp only [Act.put, List.setIfInBounds_toArray, List.set_cons_zero, List.set_cons_succ])
 have H := HC3.out
 clear HC3
 by_cases c5 : t341 = true
 rotate_left
 ·replace c5 := Bool.eq_false_iff.mpr c5
  subst c5
  replace H := in_ H (show ¬ (false = true) by decide)
  simp only [Option.some.injEq, Prod.mk.injEq] at H
  obtain ⟨rfl, rfl⟩ := H
  go_wp2
  go_ret2
  exact ⟨_, rT_, z10_0_, hB_⟩
 subst c5
 replace H := ip_ H rfl
 replace H := ob_ H; obtain ⟨t342, A6, H⟩ := H; try dsimp only at H
 have H' := Aside0.mk H
 clear H
 go_wp2_with (first | ((with_reducible refine gC_ 69 ?_); refine gM_ (some 10) Tryz.func69 #[.slice A0 l0.length c0] ?_; (with_reducible refine (slices_Clone_Locus.calls _ _ l0 t342 _ ?side1 ?side2 A6.out).mono ?_); (case side1 => exact z10_1_); (case side2 => exact HC0.out); rintro e w7 ⟨v343, rfl, ho0, hb⟩; refine ⟨_, rfl, ?_⟩; have HO344 := aM_ (Kd.R_lower ho0 (below_size hB_)); replace HB := aM_ (below_step hB_ hb); (try clear hb); (try clear ho0); obtain ⟨Ao8, co8, eo8⟩ := Kd.R_slice HO344.out; subst eo8))
 go_loopg [13] k (fun kq v13 w' => ∃ (x4_1 : List (S58)) (x13_1 : Int), v13 = .int .i64 x13_1 ∧ Aside0 (impl_SpreadLoci.l0 kq x4_1 (t342.length : Int) x13_1 = some (r1, r2)) ∧ Aside0 (kq ≤ k) ∧ Aside0 (Kd.R k58 58 w' w.heap.size (fun _ => True) (.slice Ao8 t342.length co8) x4_1) ∧ Aside0 (Below w.heap.size w w'))
 case atStart => exact ⟨(t342), (0), z10_2_, H', ⟨Nat.le_refl _⟩, ⟨rR_ HO344⟩, ⟨hB_⟩⟩
 case round =>
  clear H'
  (try clear c5)
  obtain ⟨x4_1, x13_1, rfl, HA, HK1, HO_4, HB⟩ := hrel
  have hl4_1 := (Kd.R_reads' HO_4.out).1
  rw [hl4_1] at HO_4
  (try simp only [hl4_1])
  cases gk with
  | zero => exact absurd HA.out (by simp [impl_SpreadLoci.l0])
  | succ k1 =>
   have H := HA.out
   clear HA
   simp only [impl_SpreadLoci.l0] at H
   by_cases c9 : x13_1 < (t342.length : Int)
   rotate_left
   ·rw [if_neg c9] at H
    have c9b0 : decide (x13_1 < (t342.length : Int)) = false := decide_eq_false c9
    try (have c9b9 := c9b0; simp only [hl4_1] at c9b9)
    clear c9
    (first | rw [c9b0] | (simp only [i64_w, i32_w]; rw [c9b0]) | skip)
    simp only [Option.some.injEq, Prod.mk.injEq] at H
    obtain ⟨rfl, rfl⟩ := H
    go_wp2
    go_ret2
    exact ⟨_, rT_, (rR_ HO_4), hB_⟩
   rw [if_pos c9] at H
   have c9b0 : decide (x13_1 < (t342.length : Int)) = true := decide_eq_true c9
   clear c9
   (first | rw [c9b0] | (simp only [i64_w, i32_w]; rw [c9b0]) | skip)
   replace H := ig_ H; obtain ⟨c10b0, H⟩ := H
   replace H := ig_ H; obtain ⟨c11b0, H⟩ := H
   replace H := bs_ H; obtain ⟨y345, Ny345, H⟩ := H; try dsimp only at H
   have HC13 := Aside0.mk H
   clear H
   have p12 : 0 ≤ (x13_1 : Int) := ode_
   have q12 : (x13_1 : Int) < ((x4_1.length : Int) : Int) := ode_
   obtain ⟨go12, co12, eo12, gb12, gl12, cl12, HG12⟩ := Kd.R_form HO_4.out (by omega)
   (first | cases eo12 | (injection eo12 with ea_ en_ ec_; (first | subst ea_ | (injection ea_ with ea_; subst ea_)); subst ec_; clear en_))
   have GB12 := Aside0.mk gb12
   have GG12 := Aside0.mk HG12
   clear gb12 gl12 HG12
   obtain ⟨ce12, hcl12, hM12, hcc12, hfr12⟩ := Kd.R_elem HO_4.out z58 (x13_1 : Int) p12 q12
   obtain rfl := k58_openM hM12
   have hx12_0 : wr.cell? ⟨go12, (x13_1 : Int).toNat * 2, none⟩ = some (.string ((rd_T58 x4_1 x13_1).f0)) := hcc12 0 _ rfl
   have hx12_1 : wr.cell? ⟨go12, (x13_1 : Int).toNat * 2 + 1, none⟩ = some (.int .i64 ((rd_T58 x4_1 x13_1).f1)) := hcc12 1 _ rfl
   have hf12_0 : wr.frozen? ⟨go12, (x13_1 : Int).toNat * 2, none⟩ = false := hfr12 0
   have hf12_1 : wr.frozen? ⟨go12, (x13_1 : Int).toNat * 2 + 1, none⟩ = false := hfr12 1
   clear hcl12 hcc12 hfr12 hM12
   replace p12 := eq_true p12
   replace q12 := eq_true q12
   have HX14 := Aside0.mk (show Kd.R k58 58 wr w.heap.size (fun _ => True) (.slice (some ⟨go12, 0, none⟩) x4_1.length co8) x4_1 from (rR_ HO_4))
   obtain ⟨ce14, hcl14, hM14, hcc14, hfr14⟩ := Kd.R_elem HX14.out z58 (x13_1 : Int) ode_ z10_3_
   obtain rfl := k58_openM hM14
   have HP14 := Kd.R_seg HX14.out (x13_1 : Int) ode_ z10_3_ (seg := [.int .i64 0]) (j := 1) hcl14 hcc14 (show 2 ≤ 2 from by decide) (x' := (⟨(rd_T58 x4_1 x13_1).f0, 0⟩ : S58)) (k58_mkM _ _ _ (⟨(rd_T58 x4_1 x13_1).f0, 0⟩ : S58) ) (fun _ hk => hk)
   have hx14_1 := hcc14 1 _ rfl
   (try simp only [show (k58).sz = 2 from rfl, Nat.mul_one, Nat.add_zero] at hx14_1)
   have hf14_1 := hfr14 1
   (try simp only [show (k58).sz = 2 from rfl, Nat.mul_one, Nat.add_zero] at hf14_1)
   clear hcl14 hcc14 hfr14 hM14
   go_upto_if 22 with (first | ((with_reducible refine gate_store (t := 3) (p := 19) rfl ?_); refine store_event (t := 3) (p := 19) (v := ?vo_w15) (w1 := (wr.setCell ⟨go12, (x13_1 : Int).toNat * 2 + 1, none⟩ (.int .i64 0))) ?hg ?ho ?hn ?hr ?_; (case ho => rfl); (case hg => rfl); (case hn => rfl); (case hr => first | (go_simp; done) | (go_simp; rfl)); intro w15 hw; have hg : wr.grownBy w15 (some go12) := (by rw [hw]; exact HP14.2); have hp_ : Kd.R k58 58 w15 w.heap.size (fun _ => True) (.slice (some ⟨go12, 0, none⟩) x4_1.length co8) y345 := (by rw [hw, Ny345.out]; exact HP14.1); clear HP14; replace HO_4 := aM_ (hp_); replace HB := aM_ ((by rw [hw]; exact below_set (HB.out) GB12.out : Below w.heap.size w w15)); clear hg hw hp_))
   (try simp only [Act.put, List.setIfInBounds_toArray, List.set_cons_zero, List.set_cons_succ])
   have H := HC13.out
   clear HC13
   by_cases c16 : (x4_1.length : Int) > 1
   rotate_left
   ·rw [if_neg c16] at H
    have c16b0 : decide (1 < (x4_1.length : Int)) = false := decide_eq_false c16
    have c16b1 : decide (1 < x4_1.length) = false := decide_eq_false (by omega)
    clear c16
    (first | rw [c16b0] | (simp only [i64_w, i32_w]; rw [c16b0]) | skip)
    have H' := Aside0.mk H
    clear H
    go_wp2
    (try simp only [← hl4_1])
    go_roundg k1
    case measure => have := HK1.out; omega
    case rel => exact ⟨(y345), (wrap64 (x13_1 + 1)), z10_2_, H', ⟨z10_4_⟩, ⟨z10_5_⟩, ⟨hB_⟩⟩
   rw [if_pos c16] at H
   have c16b0 : decide (1 < (x4_1.length : Int)) = true := decide_eq_true c16
   have c16b1 : decide (1 < x4_1.length) = true := decide_eq_true (by omega)
   clear c16
   (first | rw [c16b0] | (simp only [i64_w, i32_w]; rw [c16b0]) | skip)
   by_cases c17 : (wrap64 ((x4_1.length : Int) - 1)) = 0
   ·rw [if_pos c17] at H
    exact absurd H (by simp)
   rw [if_neg c17] at H
   have c17b0 : ((wrap64 ((x4_1.length : Int) - 1)) == 0) = false := beq_eq_false_iff_ne.mpr c17
   have c17b1 : ((wrap64 ((x4_1.length : Int) - 1)) != 0) = true := bne_iff_ne.mpr c17
   obtain ⟨y346, hy346⟩ : ∃ y_ : List (S58), y_ = (y345.set (x13_1 : Int).toNat (⟨(rd_T58 y345 x13_1).f0, wrap64 ((-90) + (wrap64 (Int.tdiv (wrap64 (180 * x13_1)) (wrap64 ((x4_1.length : Int) - 1)))))⟩ : S58)) := ⟨_, rfl⟩
   rw [← hy346] at H
   have Ny346 := Aside0.mk hy346; clear hy346
   have H' := Aside0.mk H
   clear H
   have p18 : 0 ≤ (x13_1 : Int) := ode_
   have q18 : (x13_1 : Int) < ((x4_1.length : Int) : Int) := ode_
   obtain ⟨ce18, hcl18, hM18, hcc18, hfr18⟩ := Kd.R_elem HO_4.out z58 (x13_1 : Int) p18 q18
   obtain rfl := k58_openM hM18
   have hx18_0 : w15.cell? ⟨go12, (x13_1 : Int).toNat * 2, none⟩ = some (.string ((rd_T58 y345 x13_1).f0)) := hcc18 0 _ rfl
   have hx18_1 : w15.cell? ⟨go12, (x13_1 : Int).toNat * 2 + 1, none⟩ = some (.int .i64 ((rd_T58 y345 x13_1).f1)) := hcc18 1 _ rfl
   have hf18_0 : w15.frozen? ⟨go12, (x13_1 : Int).toNat * 2, none⟩ = false := hfr18 0
   have hf18_1 : w15.frozen? ⟨go12, (x13_1 : Int).toNat * 2 + 1, none⟩ = false := hfr18 1
   clear hcl18 hcc18 hfr18 hM18
   replace p18 := eq_true p18
   replace q18 := eq_true q18
   have HX19 := Aside0.mk (show Kd.R k58 58 w15 w.heap.size (fun _ => True) (.slice (some ⟨go12, 0, none⟩) x4_1.length co8) y345 from (rR_ HO_4))
   obtain ⟨ce19, hcl19, hM19, hcc19, hfr19⟩ := Kd.R_elem HX19.out z58 (x13_1 : Int) ode_ z10_3_
   obtain rfl := k58_openM hM19
   have HP19 := Kd.R_seg HX19.out (x13_1 : Int) ode_ z10_3_ (seg := [.int .i64 (wrap64 ((-90) + (wrap64 (Int.tdiv (wrap64 (180 * x13_1)) (wrap64 ((x4_1.length : Int) - 1))))))]) (j := 1) hcl19 hcc19 (show 2 ≤ 2 from by decide) (x' := (⟨(rd_T58 y345 x13_1).f0, wrap64 ((-90) + (wrap64 (Int.tdiv (wrap64 (180 * x13_1)) (wrap64 ((x4_1.length : Int) - 1)))))⟩ : S58)) (k58_mkM _ _ _ (⟨(rd_T58 y345 x13_1).f0, wrap64 ((-90) + (wrap64 (Int.tdiv (wrap64 (180 * x13_1)) (wrap64 ((x4_1.length : Int) - 1)))))⟩ : S58) ) (fun _ hk => hk)
   have hx19_1 := hcc19 1 _ rfl
   (try simp only [show (k58).sz = 2 from rfl, Nat.mul_one, Nat.add_zero] at hx19_1)
   have hf19_1 := hfr19 1
   (try simp only [show (k58).sz = 2 from rfl, Nat.mul_one, Nat.add_zero] at hf19_1)
   clear hcl19 hcc19 hfr19 hM19
   go_wp2_with (first | ((with_reducible refine gate_store (t := 3) (p := 33) rfl ?_); refine store_event (t := 3) (p := 33) (v := ?vo_w20) (w1 := (w15.setCell ⟨go12, (x13_1 : Int).toNat * 2 + 1, none⟩ (.int .i64 (wrap64 ((-90) + (wrap64 (Int.tdiv (wrap64 (180 * x13_1)) (wrap64 ((x4_1.length : Int) - 1))))))))) ?hg ?ho ?hn ?hr ?_; (case ho => rfl); (case hg => rfl); (case hn => rfl); (case hr => first | (go_simp; done) | (go_simp; rfl)); intro w20 hw; have hg : w15.grownBy w20 (some go12) := (by rw [hw]; exact HP19.2); have hp_ : Kd.R k58 58 w20 w.heap.size (fun _ => True) (.slice (some ⟨go12, 0, none⟩) x4_1.length co8) y346 := (by rw [hw, Ny346.out]; exact HP19.1); clear HP19; replace HO_4 := aM_ (hp_); replace HB := aM_ ((by rw [hw]; exact below_set (HB.out) GB12.out : Below w.heap.size w w20)); clear hg hw hp_))
   (try simp only [← hl4_1])
   go_roundg k1
   case measure => have := HK1.out; omega
   case rel => exact ⟨(y346), (wrap64 (x13_1 + 1)), z10_2_, H', ⟨z10_4_⟩, ⟨z10_5_⟩, ⟨hB_⟩⟩

/-! ### spec_SpreadLoci: function 28 -/
theorem spec_SpreadLoci.calls (k : Nat) (A0 : Option Addr) (c0 : Nat) (l0 : List (S58)) (r1 : List (S58)) (r2 : Bool) (w : World) (hr0 : Kd.C k58 w A0 l0.length l0) (hc0 : l0.length ≤ c0) (h : spec_SpreadLoci.f k l0 = some (r1, r2)) :
 Calls Tryz.prog 28 #[.slice A0 l0.length c0] w fun e w' => ∃ v0_ : Value, e = .returned (.tuple #[v0_, .bool r2]) ∧ Kd.R k58 58 w' w.heap.size (fun _ => True) v0_ r1 ∧ Below w.heap.size w w' := by
 have hu58 := Tryz.underlying58
 have HR0 := Aside0.mk hr0
 have HC0 := Aside0.mk hc0
 clear hr0 hc0
 have HB := Aside0.mk (Below.refl w.heap.size w)
 have H : ((spec_loGood.f k l0).bind fun t347 => (if t347 = true then (spec_SpreadLoci.l0 k l0 ([] : List (S58)) l0 (l0.length : Int) 0) else (some (([] : List (S58)), false)))) = some (r1, r2) := h
 clear h
 replace H := ob_ H; obtain ⟨t347, A2, H⟩ := H; try dsimp only at H
 have HC3 := Aside0.mk H
 clear H
 go_enter Tryz.func28, Tryz.ntmps28
 go_upto_if 9 with (first | ((with_reducible refine gC_ 50 ?_); refine gM_ (some 8) Tryz.func50 #[.slice A0 l0.length c0] ?_; (with_reducible refine (spec_loGood.calls k _ _ l0 t347 _ ?side1 ?side2 A2.out).mono ?_); (case side1 => exact cC_ HR0); (case side2 => exact HC0.out); rintro e w4 ⟨rfl, hb⟩; refine ⟨_, rfl, ?_⟩; replace HB := aM_ (below_step hB_ hb); (try clear hb)))
 (try simp only [Act.put, List.setIfInBounds_toArray, List.set_cons_zero, List.set_cons_succ])
 have H := HC3.out
 clear HC3
 by_cases c5 : t347 = true
 rotate_left
 ·replace c5 := Bool.eq_false_iff.mpr c5
  subst c5
  replace H := in_ H (show ¬ (false = true) by decide)
  simp only [Option.some.injEq, Prod.mk.injEq] at H
  obtain ⟨rfl, rfl⟩ := H
  go_wp2
  go_ret2
  exact ⟨_, rT_, z10_0_, hB_⟩
 subst c5
 replace H := ip_ H rfl
 have H' := Aside0.mk H
 clear H
 go_wp2
 go_loopg [4, 12] k (fun kq v4 v12 w' => ∃ (x4_1 : List (S58)) (x12_1 : Int), v12 = .int .i64 x12_1 ∧ Aside0 (spec_SpreadLoci.l0 kq l0 x4_1 l0 (l0.length : Int) x12_1 = some (r1, r2)) ∧ Aside0 (kq ≤ k) ∧ Aside0 (Kd.R k58 58 w' w.heap.size (fun _ => True) v4 x4_1) ∧ Aside0 (Below w.heap.size w w'))
 case atStart => exact ⟨(([] : List (S58))), (0), z10_2_, H', ⟨Nat.le_refl _⟩, ⟨z10_0_⟩, ⟨hB_⟩⟩
 case round =>
  clear H'
  (try clear c5)
  obtain ⟨x4_1, x12_1, rfl, HA, HK1, HO_4, HB⟩ := hrel
  cases gk with
  | zero => exact absurd HA.out (by simp [spec_SpreadLoci.l0])
  | succ k1 =>
   have H := HA.out
   clear HA
   simp only [spec_SpreadLoci.l0] at H
   replace H := iF_ H; obtain ⟨c6b0, H⟩ | ⟨c6b0, H⟩ := H
   ·(first | rw [c6b0] | (simp only [i64_w, i32_w]; rw [c6b0]) | skip)
    simp only [Option.some.injEq, Prod.mk.injEq] at H
    obtain ⟨rfl, rfl⟩ := H
    go_wp2
    go_ret2
    exact ⟨_, rT_, (rR_ HO_4), hB_⟩
   (first | rw [c6b0] | (simp only [i64_w, i32_w]; rw [c6b0]) | skip)
   replace H := ig_ H; obtain ⟨c7b0, H⟩ := H
   replace H := ig_ H; obtain ⟨c8b0, H⟩ := H
   have HC9 := Aside0.mk H
   clear H
   have p348 : 0 ≤ (x12_1 : Int) := ode_
   have q348 : x12_1 < (l0.length : Int) := ode_
   obtain ⟨ad348, e348, hx348_0, hx348_1⟩ := at_T58 HR0.out x12_1 p348 q348
   cases e348
   try replace hx348_0 := hc_ HB hx348_0
   try replace hx348_1 := hc_ HB hx348_1
   replace p348 := eq_true p348
   replace q348 := eq_true q348
   go_upto_if 20 with (first | ((with_reducible refine gate_dst (N := 6) rfl ?_); refine bx_ 6 #[.string (⟨#[]⟩ : ByteArray), .int .i64 0] 58 fun gb349 hg w10 hbox hb => ?_; have BK349 := aM_ (hbox); have GW349 := aM_ (gw_ w hg); have GE349 := aM_ (gw_ w hg); replace HO_4 := aM_ (Kd.R_below (Kd.R_elderB (rR_ HO_4) gb349 (Nat.le_of_eq hg.symm)) hb); replace HB := aM_ (below_step hB_ hb); clear hb hbox hg; have hz11 := cf2_ BK349.out))
   (try simp only [Act.put, List.setIfInBounds_toArray, List.set_cons_zero, List.set_cons_succ])
   have H := HC9.out
   clear HC9
   by_cases c12 : (l0.length : Int) > 1
   rotate_left
   ·rw [if_neg c12] at H
    have c12b0 : decide (1 < (l0.length : Int)) = false := decide_eq_false c12
    have c12b1 : decide (1 < l0.length) = false := decide_eq_false (by omega)
    clear c12
    (first | rw [c12b0] | (simp only [i64_w, i32_w]; rw [c12b0]) | skip)
    replace H := il_ H; obtain ⟨LMc17, H⟩ := H
    obtain ⟨y353, hy353⟩ : ∃ y_ : List (S58), y_ = (x4_1 ++ [(⟨(rd_T58 l0 x12_1).f0, 0⟩ : S58)]) := ⟨_, rfl⟩
    rw [← hy353] at H
    have Ny353 := Aside0.mk hy353; clear hy353
    have H' := Aside0.mk H
    clear H
    have hz18 := cf2_ BK349.out
    go_wp2_with (first | ((with_reducible refine gate_builtin (b := .append) (xs := #[.tmp 29, .tmp 31]) rfl ?_); at_builtin; refine Kd.R_append k58 (w0 := w) w.heap.size rfl (.tmp 29) (.tmp 31) 23 58 (.agg #[(.string ⟨#[]⟩), (.int .i64 0)]) 24 rfl Tryz.underlying23 info58 rfl (by decide) (by omega) u4 x4_1 (⟨(rd_T58 l0 x12_1).f0, 0⟩ : S58) [.string ((rd_T58 l0 x12_1).f0), .int .i64 0] (fun k_ => k_ ≠ gb349) (fun _ => False) rfl (by first | (go_simp; done) | (go_simp; rfl)) ?aP (fun _ hk => hk.elim) ?aF ?aO ?aB ?aS ?aL ?_; (case aP => exact k58_mkM _ _ _ (⟨(rd_T58 l0 x12_1).f0, 0⟩ : S58)); (case aB => exact hB_); (case aF => exact (fun k_ hk => Kd.freshB (g := gb349) (o := .cells #[.string ((rd_T58 l0 x12_1).f0), .int .i64 0] 58 (0, 0)) z10_6_ k_ hk)); (case aO => exact (by (with_reducible repeat (first | apply rA_ | apply rN_ | apply rD_)); exact Kd.R_mono (Kd.R_far (p := ⟨gb349, 1, none⟩) (Kd.R_far (p := ⟨gb349, 1, none⟩) (Kd.R_far (p := ⟨gb349, 0, none⟩) (Kd.R_mono HO_4.out (fun k_ hk => (⟨hk, hk.2⟩ : _ ∧ k_ ≠ gb349))) (fun _ hk => hk.2) (.string ((rd_T58 l0 x12_1).f0))) (fun _ hk => hk.2) (.int .i64 ((rd_T58 l0 x12_1).f1))) (fun _ hk => hk.2) (.int .i64 0)) (fun _ hk => hk.1.2))); (case aS => exact (below_size hB_)); (case aL => have := LMc17.out; omega); intro v354 w19 ho hb hg hat; rw [← Ny353.out] at ho; have HO355 := aM_ (ho); replace BK349 := aM_ (blk_grown (g := gb349) (o := .cells #[.string ((rd_T58 l0 x12_1).f0), .int .i64 0] 58 (0, 0)) z10_6_ hg (Kd.R_away HO_4.out (fun _ hk => hk.2))); replace HB := aM_ (hb); clear HO_4; clear ho hb hg hat))
    go_roundg k1
    case measure => have := HK1.out; omega
    case rel => exact ⟨(y353), (wrap64 (x12_1 + 1)), z10_2_, H', ⟨z10_4_⟩, ⟨rT1_ HO355⟩, ⟨hB_⟩⟩
   rw [if_pos c12] at H
   have c12b0 : decide (1 < (l0.length : Int)) = true := decide_eq_true c12
   have c12b1 : decide (1 < l0.length) = true := decide_eq_true (by omega)
   clear c12
   (first | rw [c12b0] | (simp only [i64_w, i32_w]; rw [c12b0]) | skip)
   by_cases c13 : (wrap64 ((l0.length : Int) - 1)) = 0
   ·rw [if_pos c13] at H
    exact absurd H (by simp)
   rw [if_neg c13] at H
   have c13b0 : ((wrap64 ((l0.length : Int) - 1)) == 0) = false := beq_eq_false_iff_ne.mpr c13
   have c13b1 : ((wrap64 ((l0.length : Int) - 1)) != 0) = true := bne_iff_ne.mpr c13
   replace H := il_ H; obtain ⟨LMc14, H⟩ := H
   obtain ⟨y350, hy350⟩ : ∃ y_ : List (S58), y_ = (x4_1 ++ [(⟨(rd_T58 l0 x12_1).f0, wrap64 ((wrap64 (Int.tdiv (wrap64 (180 * x12_1)) (wrap64 ((l0.length : Int) - 1)))) - 90)⟩ : S58)]) := ⟨_, rfl⟩
   rw [← hy350] at H
   have Ny350 := Aside0.mk hy350; clear hy350
   have H' := Aside0.mk H
   clear H
   have hz15 := cf2_ BK349.out
   go_wp2_with (first | ((with_reducible refine gate_builtin (b := .append) (xs := #[.tmp 29, .tmp 31]) rfl ?_); at_builtin; refine Kd.R_append k58 (w0 := w) w.heap.size rfl (.tmp 29) (.tmp 31) 23 58 (.agg #[(.string ⟨#[]⟩), (.int .i64 0)]) 24 rfl Tryz.underlying23 info58 rfl (by decide) (by omega) u4 x4_1 (⟨(rd_T58 l0 x12_1).f0, wrap64 ((wrap64 (Int.tdiv (wrap64 (180 * x12_1)) (wrap64 ((l0.length : Int) - 1)))) - 90)⟩ : S58) [.string ((rd_T58 l0 x12_1).f0), .int .i64 (wrap64 ((wrap64 (Int.tdiv (wrap64 (180 * x12_1)) (wrap64 ((l0.length : Int) - 1)))) - 90))] (fun k_ => k_ ≠ gb349) (fun _ => False) rfl (by first | (go_simp; done) | (go_simp; rfl)) ?aP (fun _ hk => hk.elim) ?aF ?aO ?aB ?aS ?aL ?_; (case aP => exact k58_mkM _ _ _ (⟨(rd_T58 l0 x12_1).f0, wrap64 ((wrap64 (Int.tdiv (wrap64 (180 * x12_1)) (wrap64 ((l0.length : Int) - 1)))) - 90)⟩ : S58)); (case aB => exact hB_); (case aF => exact (fun k_ hk => Kd.freshB (g := gb349) (o := .cells #[.string ((rd_T58 l0 x12_1).f0), .int .i64 (wrap64 ((wrap64 (Int.tdiv (wrap64 (180 * x12_1)) (wrap64 ((l0.length : Int) - 1)))) - 90))] 58 (0, 0)) z10_7_ k_ hk)); (case aO => exact (by (with_reducible repeat (first | apply rA_ | apply rN_ | apply rD_)); exact Kd.R_mono (Kd.R_far (p := ⟨gb349, 1, none⟩) (Kd.R_far (p := ⟨gb349, 1, none⟩) (Kd.R_far (p := ⟨gb349, 1, none⟩) (Kd.R_far (p := ⟨gb349, 0, none⟩) (Kd.R_mono HO_4.out (fun k_ hk => (⟨hk, hk.2⟩ : _ ∧ k_ ≠ gb349))) (fun _ hk => hk.2) (.string ((rd_T58 l0 x12_1).f0))) (fun _ hk => hk.2) (.int .i64 ((rd_T58 l0 x12_1).f1))) (fun _ hk => hk.2) (.int .i64 0)) (fun _ hk => hk.2) (.int .i64 (wrap64 ((wrap64 (Int.tdiv (wrap64 (180 * x12_1)) (wrap64 ((l0.length : Int) - 1)))) - 90)))) (fun _ hk => hk.1.2))); (case aS => exact (below_size hB_)); (case aL => have := LMc14.out; omega); intro v351 w16 ho hb hg hat; rw [← Ny350.out] at ho; have HO352 := aM_ (ho); replace BK349 := aM_ (blk_grown (g := gb349) (o := .cells #[.string ((rd_T58 l0 x12_1).f0), .int .i64 (wrap64 ((wrap64 (Int.tdiv (wrap64 (180 * x12_1)) (wrap64 ((l0.length : Int) - 1)))) - 90))] 58 (0, 0)) z10_7_ hg (Kd.R_away HO_4.out (fun _ hk => hk.2))); replace HB := aM_ (hb); clear HO_4; clear ho hb hg hat))
   go_roundg k1
   case measure => have := HK1.out; omega
   case rel => exact ⟨(y350), (wrap64 (x12_1 + 1)), z10_2_, H', ⟨z10_4_⟩, ⟨rT1_ HO352⟩, ⟨hB_⟩⟩

/-! ### strconv_Itoa: function 95, by hand -/
open Go.Shelf Go.RowKit Go.Sort Go.Lib in
def laid_laysM171_ren : Go.Shelf.Ren := ⟨fun | 171 => 95 | 243 => 112 | 246 => 122 | 283 => 133 | 284 => 134 | 285 => 135 | 286 => 136 | 129 => 143 | 317 => 142 | 318 => 144 | 319 => 145 | 320 => 146 | 337 => 149 | 338 => 150 | n => n, fun | 3 => 3 | 9 => 9 | 2 => 2 | 4 => 4 | 171 => 129 | 0 => 0 | 53 => 68 | 37 => 22 | 5 => 5 | 173 => 132 | 212 => 148 | 51 => 134 | 20 => 20 | 213 => 149 | 46 => 115 | 232 => 157 | 233 => 158 | n => n, fun | 17 => 5 | 18 => 6 | 19 => 7 | n => n⟩
open Go.Shelf Go.RowKit Go.Sort Go.Lib in
theorem laid_laysM171 : Go.Proofs.LaysM.n171 Tryz.prog laid_laysM171_ren := {
 mixed := by kernel_rfl
 f129 := Tryz.func143.trans (congrArg some (by kernel_rfl))
 f171 := Tryz.func95.trans (congrArg some (by kernel_rfl))
 f243 := Tryz.func112.trans (congrArg some (by kernel_rfl))
 f246 := Tryz.func122.trans (congrArg some (by kernel_rfl))
 f283 := Tryz.func133.trans (congrArg some (by kernel_rfl))
 f284 := Tryz.func134.trans (congrArg some (by kernel_rfl))
 f285 := Tryz.func135.trans (congrArg some (by kernel_rfl))
 f286 := Tryz.func136.trans (congrArg some (by kernel_rfl))
 f317 := Tryz.func142.trans (congrArg some (by kernel_rfl))
 f318 := Tryz.func144.trans (congrArg some (by kernel_rfl))
 f319 := Tryz.func145.trans (congrArg some (by kernel_rfl))
 f320 := Tryz.func146.trans (congrArg some (by kernel_rfl))
 f337 := Tryz.func149.trans (congrArg some (by kernel_rfl))
 f338 := Tryz.func150.trans (congrArg some (by kernel_rfl))
 t0 := Tryz.underlying0
 a0 := Tryz.isAgg0
 z0 := Tryz.sizeOf0
 v0 := Tryz.zeroValue0
 t2 := Tryz.underlying2
 a2 := Tryz.isAgg2
 z2 := Tryz.sizeOf2
 v2 := Tryz.zeroValue2
 t3 := Tryz.underlying3
 a3 := Tryz.isAgg3
 z3 := Tryz.sizeOf3
 v3 := Tryz.zeroValue3
 t4 := Tryz.underlying4
 a4 := Tryz.isAgg4
 z4 := Tryz.sizeOf4
 v4 := Tryz.zeroValue4
 t5 := Tryz.underlying5
 a5 := Tryz.isAgg5
 z5 := Tryz.sizeOf5
 v5 := Tryz.zeroValue5
 t9 := Tryz.underlying9
 a9 := Tryz.isAgg9
 z9 := Tryz.sizeOf9
 v9 := Tryz.zeroValue9
 t20 := Tryz.underlying20
 a20 := Tryz.isAgg20
 z20 := Tryz.sizeOf20
 v20 := Tryz.zeroValue20
 t37 := Tryz.underlying22
 a37 := Tryz.isAgg22
 z37 := Tryz.sizeOf22
 v37 := Tryz.zeroValue22
 t46 := Tryz.underlying115
 a46 := Tryz.isAgg115
 z46 := Tryz.sizeOf115
 v46 := Tryz.zeroValue115
 t51 := Tryz.underlying134
 a51 := Tryz.isAgg134
 z51 := Tryz.sizeOf134
 v51 := Tryz.zeroValue134
 t53 := Tryz.underlying68
 a53 := Tryz.isAgg68
 z53 := Tryz.sizeOf68
 v53 := Tryz.zeroValue68
 t171 := Tryz.underlying129
 a171 := Tryz.isAgg129
 z171 := Tryz.sizeOf129
 v171 := Tryz.zeroValue129
 t173 := Tryz.underlying132
 a173 := Tryz.isAgg132
 z173 := Tryz.sizeOf132
 v173 := Tryz.zeroValue132
 t212 := Tryz.underlying148
 a212 := Tryz.isAgg148
 z212 := Tryz.sizeOf148
 v212 := Tryz.zeroValue148
 t213 := Tryz.underlying149
 a213 := Tryz.isAgg149
 z213 := Tryz.sizeOf149
 t232 := Tryz.underlying157
 a232 := Tryz.isAgg157
 z232 := Tryz.sizeOf157
 v232 := Tryz.zeroValue157
 t233 := Tryz.underlying158
 a233 := Tryz.isAgg158
 z233 := Tryz.sizeOf158
 v233 := Tryz.zeroValue158
 g17 := by kernel_rfl
 g18 := by kernel_rfl
 g19 := by kernel_rfl
 i0 := by kernel_rfl
 i2 := by kernel_rfl
 i3 := by kernel_rfl
 i4 := by kernel_rfl
 i5 := by kernel_rfl
 i9 := by kernel_rfl
 i20 := by kernel_rfl
 i37 := by kernel_rfl
 i46 := by kernel_rfl
 i51 := by kernel_rfl
 i53 := by kernel_rfl
 i171 := by kernel_rfl
 i173 := by kernel_rfl
 i212 := by kernel_rfl
 i232 := by kernel_rfl
 i233 := by kernel_rfl
 m17 := by kernel_rfl
 m18 := by kernel_rfl
 m19 := by kernel_rfl }
theorem strconv_Itoa.calls (a0 : Int) (r : ByteArray) (w : World) (hT_ : TabW Tryz.prog 0 w) (h : strconv_Itoa.f a0 = some r) :
 Calls Tryz.prog 95 #[.int .i64 a0] w fun e w' => e = .returned (.string r) ∧ Below w.heap.size w w' := by
 unfold strconv_Itoa.f at h
 split at h
 case isFalse => cases h
 case isTrue hl =>
  obtain rfl := Option.some.inj h
  exact itoa_tab (fun ht => Any.strconv_Itoa laid_laysM171 a0 hl.1 hl.2 w ht) hT_

/-! ### impl_lociText: function 70 -/
def impl_lociText.T5 : Bool × List (List Nat × List Nat) := (true, [([], []), ([], []), ([1], [1]), ([2], [2]), ([], []), ([4], [4]), ([5], [5]), ([3, 6], [3, 6]), ([7], [7]), ([0, 8], [0, 8]), ([9, 6, 0, 1, 2, 3, 4, 5, 6, 7, 8, 9], [0, 9])])
def impl_lociText.B5 : List Nat := [0, 0, 2, 6, 0, 16, 48, 126, 254, 511, 1023]
theorem impl_lociText.tab5 : rtab .any (opsOf Tryz.f70 5) = impl_lociText.T5 := by kernel_rfl
theorem impl_lociText.bits5 : waitsOk impl_lociText.T5.2 impl_lociText.B5 = true := by kernel_rfl
theorem impl_lociText.calls (k : Nat) (A0 : Option Addr) (c0 : Nat) (l0 : List (S58)) (r : ByteArray) (w : World) (hT_ : TabW Tryz.prog 0 w) (hr0 : Kd.C k58 w A0 l0.length l0) (hc0 : l0.length ≤ c0) (h : impl_lociText.f k l0 = some r) :
 Calls Tryz.prog 70 #[.slice A0 l0.length c0] w fun e w' => e = .returned (.string r) ∧ Below w.heap.size w w' := by
 have hu58 := Tryz.underlying58
 have HR0 := Aside0.mk hr0
 have HC0 := Aside0.mk hc0
 clear hr0 hc0
 have HT := Aside0.mk hT_
 clear hT_
 have HB := Aside0.mk (Below.refl w.heap.size w)
 have H : (impl_lociText.l0 k (⟨#[]⟩ : ByteArray) l0 (l0.length : Int) 0) = some r := h
 clear h
 have H' := Aside0.mk H
 clear H
 go_enter Tryz.func70, Tryz.ntmps70
 go_wp2
 go_loopg [3, 8] k (fun kq v3 v8 w' => ∃ (x3_1 : ByteArray) (x8_1 : Int), v3 = .string x3_1 ∧ v8 = .int .i64 x8_1 ∧ Aside0 (impl_lociText.l0 kq x3_1 l0 (l0.length : Int) x8_1 = some r) ∧ Aside0 (kq ≤ k) ∧ Aside0 (Below w.heap.size w w'))
 case atStart => exact ⟨((⟨#[]⟩ : ByteArray)), (0), z10_2_, z10_2_, H', ⟨Nat.le_refl _⟩, ⟨hB_⟩⟩
 case round =>
  clear H'
  obtain ⟨x3_1, x8_1, rfl, rfl, HA, HK1, HB⟩ := hrel
  cases gk with
  | zero => exact absurd HA.out (by simp [impl_lociText.l0])
  | succ k1 =>
   have H := HA.out
   clear HA
   simp only [impl_lociText.l0] at H
   replace H := iF_ H; obtain ⟨c2b0, H⟩ | ⟨c2b0, H⟩ := H
   ·obtain rfl := Option.some.inj H
    go_wp2
    go_ret
    exact ⟨rT_, hB_⟩
   replace H := ig_ H; obtain ⟨c3b0, H⟩ := H
   replace H := ig_ H; obtain ⟨c4b0, H⟩ := H
   by_cases c5 : ((rd_T58 l0 x8_1).f0).size + 1 ≤ 9223372036854775807
   rotate_left
   ·rw [if_neg c5] at H
    exact absurd H (by simp)
   rw [if_pos c5] at H
   have c5b0 := eq_true c5
   have c5b1 : decide (((rd_T58 l0 x8_1).f0).size + 1 ≤ 9223372036854775807) = true := decide_eq_true c5
   try have c5b2 : (9223372036854775807 < ((rd_T58 l0 x8_1).f0).size + 1) = False := eq_false (Nat.not_lt.2 c5)
   replace H := ob_ H; obtain ⟨t358, A6, H⟩ := H; try dsimp only at H
   by_cases c7 : (((rd_T58 l0 x8_1).f0) ++ (⟨#[64]⟩ : ByteArray)).size + t358.size ≤ 9223372036854775807
   rotate_left
   ·rw [if_neg c7] at H
    exact absurd H (by simp)
   rw [if_pos c7] at H
   have c7b0 := eq_true c7
   have c7b1 : decide ((((rd_T58 l0 x8_1).f0) ++ (⟨#[64]⟩ : ByteArray)).size + t358.size ≤ 9223372036854775807) = true := decide_eq_true c7
   try have c7b2 : (9223372036854775807 < (((rd_T58 l0 x8_1).f0) ++ (⟨#[64]⟩ : ByteArray)).size + t358.size) = False := eq_false (Nat.not_lt.2 c7)
   try (have c7b3 := c7b2; simp only [ByteArray.size_append', ByteArray.size_mk', List.size_toArray, List.length_cons, List.length_nil, Nat.zero_add, Nat.reduceAdd] at c7b3)
   by_cases c8 : ((((rd_T58 l0 x8_1).f0) ++ (⟨#[64]⟩ : ByteArray)) ++ t358).size + 1 ≤ 9223372036854775807
   rotate_left
   ·rw [if_neg c8] at H
    exact absurd H (by simp)
   rw [if_pos c8] at H
   have c8b0 := eq_true c8
   have c8b1 : decide (((((rd_T58 l0 x8_1).f0) ++ (⟨#[64]⟩ : ByteArray)) ++ t358).size + 1 ≤ 9223372036854775807) = true := decide_eq_true c8
   try have c8b2 : (9223372036854775807 < ((((rd_T58 l0 x8_1).f0) ++ (⟨#[64]⟩ : ByteArray)) ++ t358).size + 1) = False := eq_false (Nat.not_lt.2 c8)
   try (have c8b3 := c8b2; simp only [ByteArray.size_append', ByteArray.size_mk', List.size_toArray, List.length_cons, List.length_nil, Nat.zero_add, Nat.reduceAdd] at c8b3)
   by_cases c9 : x3_1.size + (((((rd_T58 l0 x8_1).f0) ++ (⟨#[64]⟩ : ByteArray)) ++ t358) ++ (⟨#[59]⟩ : ByteArray)).size ≤ 9223372036854775807
   rotate_left
   ·rw [if_neg c9] at H
    exact absurd H (by simp)
   rw [if_pos c9] at H
   have c9b0 := eq_true c9
   have c9b1 : decide (x3_1.size + (((((rd_T58 l0 x8_1).f0) ++ (⟨#[64]⟩ : ByteArray)) ++ t358) ++ (⟨#[59]⟩ : ByteArray)).size ≤ 9223372036854775807) = true := decide_eq_true c9
   try have c9b2 : (9223372036854775807 < x3_1.size + (((((rd_T58 l0 x8_1).f0) ++ (⟨#[64]⟩ : ByteArray)) ++ t358) ++ (⟨#[59]⟩ : ByteArray)).size) = False := eq_false (Nat.not_lt.2 c9)
   try (have c9b3 := c9b2; simp only [ByteArray.size_append', ByteArray.size_mk', List.size_toArray, List.length_cons, List.length_nil, Nat.zero_add, Nat.reduceAdd] at c9b3)
   have H' := Aside0.mk H
   clear H
   have p356 : 0 ≤ (x8_1 : Int) := ode_
   have q356 : x8_1 < (l0.length : Int) := ode_
   obtain ⟨ad356, e356, hx356_0, hx356_1⟩ := at_T58 HR0.out x8_1 p356 q356
   cases e356
   try replace hx356_0 := hc_ HB hx356_0
   try replace hx356_1 := hc_ HB hx356_1
   replace p356 := eq_true p356
   replace q356 := eq_true q356
   try go_wp2_with (first | ((with_reducible refine gate_dst (N := 5) rfl ?_); refine bx_ 5 #[.string (⟨#[]⟩ : ByteArray), .int .i64 0] 58 fun gb357 hg w10 hbox hb => ?_; have BK357 := aM_ (hbox); have GW357 := aM_ (gw_ w hg); have GE357 := aM_ (gw_ w hg); replace HB := aM_ (below_step hB_ hb); clear hb hbox hg; have hz11 := cf2_ BK357.out))
   have n0_ : Aside0 (((w10.setCell ⟨gb357, 0, none⟩ (.string ((rd_T58 l0 x8_1).f0))).setCell ⟨gb357, 1, none⟩ (.int .i64 ((rd_T58 l0 x8_1).f1))).heap[gb357]? = some (.cells #[.string ((rd_T58 l0 x8_1).f0), .int .i64 ((rd_T58 l0 x8_1).f1)] 58 (0, 0))) := ⟨by (with_reducible repeat (first | apply kN_ | apply kD_ | apply kA_)); refine blk_put (cs := #[.string ((rd_T58 l0 x8_1).f0), .int .i64 0]) ?_ 1 _ rfl; (with_reducible repeat (first | apply kN_ | apply kD_ | apply kA_)); refine blk_put (cs := #[.string (⟨#[]⟩ : ByteArray), .int .i64 0]) ?_ 0 _ rfl; (with_reducible repeat (first | apply kN_ | apply kD_ | apply kA_)); exact BK357.out⟩
   have n1_ : Aside0 (Below w.heap.size w ((w10.setCell ⟨gb357, 0, none⟩ (.string ((rd_T58 l0 x8_1).f0))).setCell ⟨gb357, 1, none⟩ (.int .i64 ((rd_T58 l0 x8_1).f1)))) := ⟨hB_⟩
   (try clear BK357)
   (try clear HB)
   repeat rw [sd_]
   generalize ((w10.setCell ⟨gb357, 0, none⟩ (.string ((rd_T58 l0 x8_1).f0))).setCell ⟨gb357, 1, none⟩ (.int .i64 ((rd_T58 l0 x8_1).f1))) = w12 at n0_ n1_ ⊢
   have BK357 := n0_
   have HB := n1_
   clear n0_ n1_
   replace BK357 := aM_ (blk_drew BK357.out)
   replace HB := aM_ (below_drew1 HB.out)
   refine st_ 11 (fun w' => w'.cell? ⟨gb357, 0, none⟩ = some (.string ((rd_T58 l0 x8_1).f0)) ∧ w'.cell? ⟨gb357, 1, none⟩ = some (.int .i64 ((rd_T58 l0 x8_1).f1))) [] impl_lociText.tab5 impl_lociText.bits5 ⟨(blk_cell BK357.out 0).trans rfl, (blk_cell BK357.out 1).trans rfl⟩ fun hHeld HT_ HW_ => ?_
   generalize w12.drew = w13 at BK357 HB hHeld ⊢
   refine pu_ 0 12 ?_
   refine pu_ 1 13 ?_
   refine pu_ 4 16 ?_
   refine tk_ 2 14 ?_
   refine pu_ 3 15 ?_
   refine tk_ 5 17 ?_
   refine on_ 6 18 fun K hK => ?_
   refine gS_ Tryz.func95 #[.int .i64 ((rd_T58 l0 x8_1).f1)] ?_
   with_reducible refine (strconv_Itoa.calls ((rd_T58 l0 x8_1).f1) t358 _ ?side1 A6.out).mono ?_
   (case side1 => exact TabW.below HT.out hB_)
   rintro e w14 ⟨rfl, hb⟩
   refine ⟨_, rfl, ?_⟩
   replace BK357 := aM_ (blk_below (g := gb357) (kR_ BK357) hb)
   replace HB := aM_ (below_step hB_ hb)
   (try clear hb)
   (try clear hb2)
   (try clear hk)
   (try clear hi)
   refine hK.out _ _ ⟨(blk_cell BK357.out 0).trans rfl, (blk_cell BK357.out 1).trans rfl⟩ (fun hHeld => ?_)
   clear hK K
   refine nm_ 18 ?_
   refine pu_ 7 19 ?_
   refine pu_ 8 20 ?_
   refine pu_ 9 21 ?_
   refine pu_ 10 3 ?_
   refine dn_ ?_
   try go_wp2
   go_roundg k1
   case measure => have := HK1.out; omega
   case rel => exact ⟨(x3_1 ++ (((((rd_T58 l0 x8_1).f0) ++ (⟨#[64]⟩ : ByteArray)) ++ t358) ++ (⟨#[59]⟩ : ByteArray))), (wrap64 (x8_1 + 1)), z10_2_, z10_2_, H', ⟨z10_4_⟩, ⟨hB_⟩⟩

/-! ### impl_LociText: function 29 -/
theorem impl_LociText.calls (k : Nat) (A0 : Option Addr) (c0 : Nat) (l0 : List (S58)) (r1 : ByteArray) (r2 : Bool) (w : World) (hT_ : TabW Tryz.prog 0 w) (hr0 : Kd.C k58 w A0 l0.length l0) (hc0 : l0.length ≤ c0) (h : impl_LociText.f k l0 = some (r1, r2)) :
 Calls Tryz.prog 29 #[.slice A0 l0.length c0] w fun e w' => e = .returned (.tuple #[.string r1, .bool r2]) ∧ Below w.heap.size w w' := by
 have HR0 := Aside0.mk hr0
 have HC0 := Aside0.mk hc0
 clear hr0 hc0
 have HT := Aside0.mk hT_
 clear hT_
 have HB := Aside0.mk (Below.refl w.heap.size w)
 have H : ((impl_AreLoci.f k l0).bind fun t359 => (if t359 = true then ((impl_lociText.f k l0).bind fun t360 => (some (t360, true))) else (some ((⟨#[]⟩ : ByteArray), false)))) = some (r1, r2) := h
 clear h
 replace H := ob_ H; obtain ⟨t359, A2, H⟩ := H; try dsimp only at H
 have HC3 := Aside0.mk H
 clear H
 go_enter Tryz.func29, Tryz.ntmps29
 go_upto_if 6 with (first | ((with_reducible refine gC_ 33 ?_); refine gM_ (some 5) Tryz.func33 #[.slice A0 l0.length c0] ?_; (with_reducible refine (impl_AreLoci.calls k _ _ l0 t359 _ ?side1 ?side2 A2.out).mono ?_); (case side1 => exact cC_ HR0); (case side2 => exact HC0.out); rintro e w4 ⟨rfl, hb⟩; refine ⟨_, rfl, ?_⟩; replace HB := aM_ (below_step hB_ hb); (try clear hb)))
 (try simp only [Act.put, List.setIfInBounds_toArray, List.set_cons_zero, List.set_cons_succ])
 have H := HC3.out
 clear HC3
 by_cases c5 : t359 = true
 rotate_left
 ·replace c5 := Bool.eq_false_iff.mpr c5
  subst c5
  replace H := in_ H (show ¬ (false = true) by decide)
  simp only [Option.some.injEq, Prod.mk.injEq] at H
  obtain ⟨rfl, rfl⟩ := H
  go_wp2
  go_ret2
  exact ⟨rT_, hB_⟩
 subst c5
 replace H := ip_ H rfl
 replace H := ob_ H; obtain ⟨t360, A6, H⟩ := H; try dsimp only at H
 simp only [Option.some.injEq, Prod.mk.injEq] at H
 obtain ⟨rfl, rfl⟩ := H
 go_wp2_with (first | ((with_reducible refine gC_ 70 ?_); refine gM_ (some 8) Tryz.func70 #[.slice A0 l0.length c0] ?_; (with_reducible refine (impl_lociText.calls k _ _ l0 t360 _ ?side3 ?side1 ?side2 A6.out).mono ?_); (case side1 => exact z10_1_); (case side2 => exact HC0.out); (case side3 => exact TabW.below HT.out hB_); rintro e w7 ⟨rfl, hb⟩; refine ⟨_, rfl, ?_⟩; replace HB := aM_ (below_step hB_ hb); (try clear hb)))
 go_ret2
 exact ⟨rT_, hB_⟩

end Go.Proofs.YtfkdlfbjkdkffaaGreatDoor.PFnPoints
