/- Printed for this claim: functions of the program as Lean functions, and that the calls answer so. -/
import Derived.Test.YtbfkpgmdbafmhaaPFnTierCountsx0
import Derived.Test.YtbfkpgmdbafmhaaPFnTierCountsxD0
import Derived.Test.YtbfkpgmdbafmhaaPFnTierCountsxD1
namespace Go.Proofs.Ytbfkpgmdbafmhaa.PFnTierCounts
open Go.RowKit Go.Proofs.YtbfkpgmdbafmhaaW.PrintWords Go.Proofs.YtbfkpgmdbafmhaaW.PrintLast Go.Proofs.YtbfkpgmdbafmhaaW.PrintMore
attribute [local go_sem] max2_int min2_int max_two min_two max_three min_three max_four min_four isSome_setCell   -- for this text's walks alone
set_option linter.unusedVariables false
set_option linter.unusedSimpArgs false

theorem z8_0_ {p : Prop} (h : p := by first | rfl | (simp; done) | (simp [*]; done)) : p := h
theorem z8_1_ {p : Prop} (h : p := by have := HK1.out; have := HK2.out; omega) : p := h
/-! ### impl_fits: function 40 -/
def impl_fits.T14 : Bool × List (List Nat × List Nat) := (true, [([], []), ([], []), ([], []), ([2], [2]), ([3], [3]), ([4], [4]), ([4], [4]), ([6, 4], [4, 6]), ([5, 7, 4], [4, 5, 7]), ([8, 4], [4, 8]), ([4, 9], [4, 9]), ([10, 4], [10]), ([11], [11]), ([11], [11]), ([12, 13, 11], [11, 12, 13]), ([14, 11], [11, 14]), ([15, 11, 11], [11, 15]), ([16], [16]), ([16], [16]), ([17, 18, 16], [16, 17, 18]), ([16], [16]), ([16], [16]), ([21, 16], [16, 21]), ([20, 22, 16], [16, 20, 22]), ([19, 23, 16], [16, 19, 23]), ([16, 24, 11], [11, 16, 24]), ([11, 25], [11, 25]), ([0, 1, 0, 1, 2, 3, 4, 5, 6, 7, 8, 9, 10, 11, 12, 13, 14, 15, 16, 17, 18, 19, 20, 21, 22, 23, 24, 25, 26], [0, 1]), ([27, 26, 16, 0, 1, 2, 3, 4, 5, 6, 7, 8, 9, 10, 11, 12, 13, 14, 15, 16, 17, 18, 19, 20, 21, 22, 23, 24, 25, 26], [26, 27])])
def impl_fits.B14 : List Nat := [0, 0, 0, 4, 12, 28, 28, 92, 252, 508, 1020, 2044, 4092, 4092, 16380, 32764, 65532, 131068, 131068, 524284, 131068, 131068, 2228220, 7471100, 16777212, 33554428, 67108860, 134217727, 268435455]
theorem impl_fits.tab14 : rtab .any (opsOf Try.f40 14) = impl_fits.T14 := by kernel_rfl
theorem impl_fits.bits14 : waitsOk impl_fits.T14.2 impl_fits.B14 = true := by kernel_rfl
set_option maxHeartbeats 8000000 in
set_option maxRecDepth 100000 in
theorem impl_fits.calls (k : Nat) (a0 : ByteArray) (a1 : ByteArray) (r : Bool) (w : World) (h : impl_fits.f k a0 a1 = some r) :
 Calls Try.prog 40 #[.string a0, .string a1] w fun e w' => e = .returned (.bool r) ∧ Below w.heap.size w w' := by
 have HB := Aside0.mk (Below.refl w.heap.size w)
 have H : (if a0.toList = ([] : List UInt8) then (some (a1.toList == ([] : List UInt8))) else (if 0 ≤ (wrap64 ((a1.size : Int) + 1)) then (if (wrap64 ((a1.size : Int) + 1) : Int).toNat ≤ 281474976710656 then ((some (List.replicate (wrap64 ((a1.size : Int) + 1) : Int).toNat false : List Bool)).bind fun y404 => (if 0 < (y404.length : Int) then (impl_fits.l0 k a0 a1 (y404.set (0 : Int).toNat true) (a0.size : Int) 0) else (none))) else (none)) else (none))) = some r := h
 clear h
 by_cases c3 : a0.toList = ([] : List UInt8)
 ·rw [if_pos c3] at H
  have c3b0 : (a0.toList == ([] : List UInt8)) = true := beq_iff_eq.mpr c3
  have c3b1 : (a0.toList != ([] : List UInt8)) = false := bne_eq_false_iff_eq.mpr c3
  clear c3
  obtain rfl := Option.some.inj H
  go_enter Try.func40, Try.ntmps40
  go_wp2
  go_ret
  exact ⟨rT_, hB_⟩
 rw [if_neg c3] at H
 have c3b0 : (a0.toList == ([] : List UInt8)) = false := beq_eq_false_iff_ne.mpr c3
 have c3b1 : (a0.toList != ([] : List UInt8)) = true := bne_iff_ne.mpr c3
 obtain ⟨ji4, hji4⟩ : ∃ j_ : Int, (wrap64 ((a1.size : Int) + 1)) = j_ := ⟨_, rfl⟩
 replace H : (if 0 ≤ (ji4) then (if (ji4 : Int).toNat ≤ 281474976710656 then ((some (List.replicate (ji4 : Int).toNat false : List Bool)).bind fun y404 => (if 0 < (y404.length : Int) then (impl_fits.l0 k a0 a1 (y404.set (0 : Int).toNat true) (a0.size : Int) 0) else (none))) else (none)) else (none)) = some r := by first | (rw [hji4] at H; exact H) | (simp only [hji4] at H ⊢; exact H)
 have hji4w : (IntKind.i64.wrap ((a1.size : Int) + 1)) = ji4 := (i64_w _).trans hji4
 replace H := it_ H; obtain ⟨c5b0, c5b1, H⟩ := H
 replace H := it_ H; obtain ⟨c6b0, c6b1, H⟩ := H
 replace H := bs_ H; obtain ⟨y404, Ny404, H⟩ := H; try dsimp only at H
 by_cases c7 : 0 < (y404.length : Int)
 rotate_left
 ·rw [if_neg c7] at H
  exact absurd H (by simp)
 rw [if_pos c7] at H
 have c7b0 : decide (0 < (y404.length : Int)) = true := decide_eq_true c7
 have c7b1 : decide (0 < y404.length) = true := decide_eq_true (by omega)
 clear c7
 obtain ⟨y407, hy407⟩ : ∃ y_ : List Bool, y_ = (y404.set (0 : Int).toNat true) := ⟨_, rfl⟩
 rw [← hy407] at H
 have Ny407 := Aside0.mk hy407; clear hy407
 have H' := Aside0.mk H
 clear H
 go_enter Try.func40, Try.ntmps40
 go_wp2_with (first | ((with_reducible refine gate_dst (N := 16) rfl ?_); refine Kd.R_make Kd.bool _ 4 rfl (N := 16) rfl 80 _ _ rfl ji4 rfl rfl Try.underlying80 (.bool false) 1 info4 rfl (by decide) (by omega) false (ok := fun _ => True) (okp := fun _ => True) rfl (fun _ hk => hk) trivial ode_ (Nat.le_trans (Nat.mul_le_mul_right _ (ode_ : ji4.toNat ≤ 281474976710656)) (by omega)) (Below.refl _ _) (Nat.le_refl _) ?_; intro v405 w9 ho10 hb hg_ hnew_; clear hg_ hnew_; (first | rw [← Ny404.out] at ho10 | (simp only [Int.reduceToNat] at ho10; rw [← Ny404.out] at ho10)); have HO406 := aM_ (Kd.R_lower ho10 (below_size hB_)); replace HB := aM_ (below_step hB_ hb); clear hb ho10; have p8 : 0 ≤ (0 : Int) := (by omega); have q8 : (0 : Int) < ((y404.length : Int) : Int) := ode_; have qi8 : (0 < y404.length) = True := eq_true (by omega); obtain ⟨go8, co8, eo8, gb8, gl8, cl8, HG8⟩ := Kd.R_form HO406.out (by omega); (first | cases eo8 | (injection eo8 with ea_ en_ ec_; (first | subst ea_ | (injection ea_ with ea_; subst ea_)); subst ec_; clear en_)); have GB8 := Aside0.mk gb8; have GG8 := Aside0.mk HG8; clear gb8 gl8 HG8; obtain ⟨hx8_0, hf8_0⟩ := Kd.R_celln false HO406.out (0 : Int) p8 q8; (try rw [show ((0 : Int)).toNat = 0 from rfl] at hx8_0); (try simp only [Nat.reduceMul, Nat.zero_mul, Nat.zero_add, Nat.reduceAdd] at hx8_0); (try rw [show ((0 : Int)).toNat = 0 from rfl] at hf8_0); (try simp only [Nat.reduceMul, Nat.zero_mul, Nat.zero_add, Nat.reduceAdd] at hf8_0); replace p8 := eq_true p8; replace q8 := eq_true q8; obtain ⟨hy11_, hz11_⟩ := Kd.R_celln false HO406.out (0 : Int) (by omega) ode_; (try simp only [Int.reduceToNat, Int.toNat_zero, Int.toNat_ofNat, Nat.reduceMul, Nat.zero_mul, Nat.zero_add] at hy11_ hz11_); (try rw [show ((0 : Int)).toNat = 0 from rfl] at hy11_); (try rw [show ((0 : Int)).toNat = 0 from rfl] at hz11_); have HP11 := Kd.R_putg HO406.out (0 : Int) true) | ((with_reducible refine gate_store (t := 4) (p := 18) rfl ?_); refine store_event (t := 4) (p := 18) (v := ?vo_w12) (w1 := (w9.setCell ⟨go8, (0 : Int).toNat, none⟩ (.bool true))) ?hg ?ho ?hn ?hr ?_; (case ho => rfl); (case hg => rfl); (case hn => rfl); (case hr => first | (go_simp; done) | (go_simp; rfl)); intro w12 hw; have hg : w9.grownBy w12 (some go8) := (by rw [hw]; exact HP11.2); have hp_ : Kd.R Kd.bool 4 w12 w.heap.size (fun _ => True) (.slice (some ⟨go8, 0, none⟩) y404.length co8) y407 := (by rw [hw, Ny407.out]; exact HP11.1); clear HP11; replace HO406 := aM_ (hp_); replace HB := aM_ ((by rw [hw]; exact below_set (HB.out) GB8.out : Below w.heap.size w w12)); clear hg hw hp_))
 go_loopg [5, 21] k (fun kq v5 v21 w' => ∃ (x5_1 : List Bool) (x21_1 : Int), v21 = .int .i64 x21_1 ∧ Aside0 (impl_fits.l0 kq a0 a1 x5_1 (a0.size : Int) x21_1 = some r) ∧ Aside0 (kq ≤ k) ∧ Aside0 (Kd.R Kd.bool 4 w' w.heap.size (fun _ => True) v5 x5_1) ∧ Aside0 (Below w.heap.size w w'))
 case atStart => exact ⟨(y407), (0), z8_0_, H', ⟨Nat.le_refl _⟩, ⟨rR_ HO406⟩, ⟨hB_⟩⟩
 case round =>
  clear H'
  (try clear c3);(try clear c3b0);(try clear c3b1);(try clear c5);(try clear c5b0);(try clear c5b1);(try clear c6);(try clear c6b0);(try clear c6b1);(try clear c7);(try clear c7b0);(try clear c7b1);(try clear p8);(try clear q8);(try clear qi8);(try clear hx8_0);(try clear p8);(try clear q8)
  obtain ⟨x5_1, x21_1, rfl, HA, HK1, HO_5, HB⟩ := hrel
  cases gk with
  | zero => exact absurd HA.out (by simp [impl_fits.l0])
  | succ k1 =>
   have H := HA.out
   clear HA
   simp only [impl_fits.l0] at H
   replace H := iF_ H; obtain ⟨c13b0, H⟩ | ⟨c13b0, H⟩ := H
   ·by_cases c76 : 0 ≤ (a1.size : Int)
    rotate_left
    ·rw [if_neg c76] at H
     exact absurd H (by simp)
    rw [if_pos c76] at H
    have c76b0 : decide (0 ≤ (a1.size : Int)) = true := decide_eq_true c76
    have c76b1 : decide (0 ≤ a1.size) = true := decide_eq_true (by omega)
    clear c76
    by_cases c77 : (a1.size : Int) < (x5_1.length : Int)
    rotate_left
    ·rw [if_neg c77] at H
     exact absurd H (by simp)
    rw [if_pos c77] at H
    have c77b0 : decide ((a1.size : Int) < (x5_1.length : Int)) = true := decide_eq_true c77
    have c77b1 : decide (a1.size < x5_1.length) = true := decide_eq_true (Int.ofNat_lt.mp c77)
    clear c77
    obtain rfl := Option.some.inj H
    obtain ⟨Ao78, co78, eo78⟩ := Kd.R_slice HO_5.out
    subst eo78
    have p408 : 0 ≤ ((a1.size : Int) : Int) := ode_
    have q408 : (a1.size : Int) < (x5_1.length : Int) := ode_
    obtain ⟨ad408, e408, hx408_0⟩ := Kd.at_bool (Kd.R_reads' HO_5.out).2.2 (a1.size : Int) p408 q408
    try simp only [Int.toNat_natCast] at hx408_0
    cases e408
    replace p408 := eq_true p408
    replace q408 := eq_true q408
    go_wp2
    go_ret
    exact ⟨by first | rfl | (simp [errW_none, errW_some] <;> rfl) | (simp only [← hji4]; first | rfl | (simp [errW_none, errW_some] <;> rfl)) | (simp [*, errW_none, errW_some] <;> rfl), hB_⟩
   replace H := it_ H; obtain ⟨c14b0, c14b1, H⟩ := H
   replace H := it_ H; obtain ⟨c15b0, c15b1, H⟩ := H
   obtain ⟨y409, hy409⟩ : ∃ y_ : List Bool, y_ = (List.replicate ((x5_1.length : Int) : Int).toNat false) := ⟨_, rfl⟩
   rw [← hy409] at H
   have Ny409 := Aside0.mk hy409; clear hy409
   have H' := Aside0.mk H
   clear H
   obtain ⟨Ao16, co16, eo16⟩ := Kd.R_slice HO_5.out
   subst eo16
   go_wp2_with (first | ((with_reducible refine gate_dst (N := 26) rfl ?_); refine Kd.R_make Kd.bool _ 4 rfl (N := 26) rfl 80 _ _ rfl (x5_1.length : Int) rfl rfl Try.underlying80 (.bool false) 1 info4 rfl (by decide) (by omega) false (ok := fun _ => True) (okp := fun _ => True) rfl (fun _ hk => hk) trivial ode_ (Nat.le_trans (Nat.mul_le_mul_right _ (ode_ : (x5_1.length : Int).toNat ≤ 281474976710656)) (by omega)) (Below.refl _ _) (Nat.le_refl _) ?_; intro v410 w17 ho18 hb hg_ hnew_; clear hg_ hnew_; (first | rw [← Ny409.out] at ho18 | (simp only [Int.reduceToNat] at ho18; rw [← Ny409.out] at ho18)); have HO411 := aM_ (Kd.R_lower (Kd.R_new' ho18 (Kd.R_lt (rR_ HO_5))) (below_size hB_)); replace HO_5 := aM_ (Kd.R_elder' (rR_ HO_5) (Kd.R_base ho18) hb); replace HB := aM_ (below_step hB_ hb); clear hb ho18))
   go_loopg [29] k1 (fun kq v29 w' => ∃ (x7_2 : List Bool) (x29_2 : Int), v29 = .int .i64 x29_2 ∧ Aside0 (impl_fits.l1 kq a0 a1 x5_1 x21_1 x7_2 (a0.size : Int) x21_1 (x5_1.length : Int) x29_2 = some r) ∧ Aside0 (kq ≤ k1) ∧ Aside0 (Kd.R Kd.bool 4 w' w.heap.size (fun k_ => some k_ ≠ (v410 : Value).ownBlock) (.slice Ao16 x5_1.length co16) x5_1) ∧ Aside0 (Kd.R Kd.bool 4 w' w.heap.size (fun k_ => some k_ ≠ ((.slice Ao16 x5_1.length co16) : Value).ownBlock) v410 x7_2) ∧ Aside0 (Below w.heap.size w w'))
   case atStart => exact ⟨(y409), (0), z8_0_, H', ⟨Nat.le_refl _⟩, ⟨(rM_ HO_5 (fun _ hk => hk.2))⟩, ⟨rM_ HO411 (fun _ hk => hk.2)⟩, ⟨hB_⟩⟩
   case round =>
    clear H'
    (try clear c3);(try clear c3b0);(try clear c3b1);(try clear c5);(try clear c5b0);(try clear c5b1);(try clear c6);(try clear c6b0);(try clear c6b1);(try clear c7);(try clear c7b0);(try clear c7b1);(try clear p8);(try clear q8);(try clear qi8);(try clear c13);(try clear c13b0);(try clear c14);(try clear c14b0);(try clear c14b1);(try clear c15);(try clear c15b0);(try clear c15b1);(try clear hx8_0);(try clear p8);(try clear q8)
    obtain ⟨x7_2, x29_2, rfl, HA, HK2, HO_5, HO_7, HB⟩ := hrel
    cases gk with
    | zero => exact absurd HA.out (by simp [impl_fits.l1])
    | succ k2 =>
     have H := HA.out
     clear HA
     simp only [impl_fits.l1] at H
     replace H := iF_ H; obtain ⟨c19b0, H⟩ | ⟨c19b0, H⟩ := H
     ·have H' := Aside0.mk H
      clear H
      go_wp2
      go_roundg k2
      case measure => have := HK1.out; have := HK2.out; omega
      case rel => exact ⟨(x7_2), (wrap64 (x21_1 + 1)), z8_0_, H', ⟨z8_1_⟩, ⟨rT1_ HO_7⟩, ⟨hB_⟩⟩
     replace H := ig_ H; obtain ⟨c20b0, H⟩ := H
     replace H := ig_ H; obtain ⟨c21b0, H⟩ := H
     by_cases c23 : (bt a0 x21_1) = 42
     ·rw [if_pos c23] at H
      have c23b0 : ((bt a0 x21_1) == 42) = true := beq_iff_eq.mpr c23
      have c23b1 : ((bt a0 x21_1) != 42) = false := bne_eq_false_iff_eq.mpr c23
      clear c23
      replace H := ig_ H; obtain ⟨c24b0, H⟩ := H
      replace H := ig_ H; obtain ⟨c25b0, H⟩ := H
      obtain ⟨bq26, hbq26⟩ : ∃ b_ : Bool, b_ = (rdOf false x5_1 x29_2) := ⟨_, rfl⟩
      replace H : (if bq26 = true then (if x29_2 < (x7_2.length : Int) then (impl_fits.l1 k2 a0 a1 x5_1 x21_1 (x7_2.set (x29_2 : Int).toNat true) (a0.size : Int) x21_1 (x5_1.length : Int) (wrap64 (x29_2 + 1))) else (none)) else (if x29_2 > 0 then (if 0 ≤ (wrap64 (x29_2 - 1)) then (if (wrap64 (x29_2 - 1)) < (x7_2.length : Int) then (if x29_2 < (x7_2.length : Int) then (impl_fits.l1 k2 a0 a1 x5_1 x21_1 (x7_2.set (x29_2 : Int).toNat (rdOf false x7_2 (wrap64 (x29_2 - 1)))) (a0.size : Int) x21_1 (x5_1.length : Int) (wrap64 (x29_2 + 1))) else (none)) else (none)) else (none)) else (if x29_2 < (x7_2.length : Int) then (impl_fits.l1 k2 a0 a1 x5_1 x21_1 (x7_2.set (x29_2 : Int).toNat false) (a0.size : Int) x21_1 (x5_1.length : Int) (wrap64 (x29_2 + 1))) else (none)))) = some r := by rw [← hbq26] at H; exact H
      have Nbq26 := Aside0.mk hbq26
      clear hbq26
      by_cases c27 : bq26 = true
      ·subst c27
       replace H := ip_ H rfl
       replace H := ig_ H; obtain ⟨c28b0, H⟩ := H
       obtain ⟨y413, hy413⟩ : ∃ y_ : List Bool, y_ = (x7_2.set (x29_2 : Int).toNat true) := ⟨_, rfl⟩
       rw [← hy413] at H
       have Ny413 := Aside0.mk hy413; clear hy413
       have H' := Aside0.mk H
       clear H
       have p22 : 0 ≤ (x21_1 : Int) := ode_
       have q22 : x21_1 < (a0.size : Int) := ode_
       have hx22 := bt_at a0 x21_1
       replace p22 := eq_true p22
       replace q22 := eq_true q22
       have p412 : 0 ≤ (x29_2 : Int) := ode_
       have q412 : x29_2 < (x5_1.length : Int) := ode_
       obtain ⟨ad412, e412, hx412_0⟩ := Kd.at_bool (Kd.R_reads' HO_5.out).2.2 x29_2 p412 q412
       (try rw [← Nbq26.out] at hx412_0)
       cases e412
       replace p412 := eq_true p412
       replace q412 := eq_true q412
       have p29 : 0 ≤ (x29_2 : Int) := ode_
       have q29 : (x29_2 : Int) < ((x7_2.length : Int) : Int) := ode_
       obtain ⟨go29, co29, eo29, gb29, gl29, cl29, HG29⟩ := Kd.R_form HO_7.out (by omega)
       (first | cases eo29 | (injection eo29 with ea_ en_ ec_; (first | subst ea_ | (injection ea_ with ea_; subst ea_)); subst ec_; clear en_))
       have GB29 := Aside0.mk gb29
       have GG29 := Aside0.mk HG29
       clear gb29 gl29 HG29
       obtain ⟨hx29_0, hf29_0⟩ := Kd.R_celln false HO_7.out (x29_2 : Int) p29 q29
       replace p29 := eq_true p29
       replace q29 := eq_true q29
       have HP30 := Kd.R_putg HO_7.out (x29_2 : Int) true
       go_wp2_with (first | ((with_reducible refine gate_store (t := 4) (p := 53) rfl ?_); refine store_event (t := 4) (p := 53) (v := ?vo_w31) (w1 := (wr.setCell ⟨go29, (x29_2 : Int).toNat, none⟩ (.bool true))) ?hg ?ho ?hn ?hr ?_; (case ho => rfl); (case hg => rfl); (case hn => rfl); (case hr => first | (go_simp; done) | (go_simp; rfl)); intro w31 hw; have hg : wr.grownBy w31 (some go29) := (by rw [hw]; exact HP30.2); have hp_ : Kd.R Kd.bool 4 w31 w.heap.size (fun k_ => some k_ ≠ (.slice (some ad412) x5_1.length co16 : Value).ownBlock) (.slice (some ⟨go29, 0, none⟩) x7_2.length co29) y413 := (by rw [hw, Ny413.out]; exact HP30.1); clear HP30; replace HO_5 := aM_ (Kd.R_after (v := (.slice (some ⟨go29, 0, none⟩) x7_2.length co29)) (v1 := (.slice (some ⟨go29, 0, none⟩) x7_2.length co29)) (ok := (fun _ => True)) (rM_ HO_5 (fun _ hk => ⟨trivial, hk⟩)) hg (.inl rfl)); replace HO_7 := aM_ (hp_); replace HB := aM_ ((by rw [hw]; exact below_set (HB.out) GB29.out : Below w.heap.size w w31)); clear hg hw hp_))
       go_roundg k2
       case measure => have := HK1.out; have := HK2.out; omega
       case rel => exact ⟨(y413), (wrap64 (x29_2 + 1)), z8_0_, H', ⟨z8_1_⟩, ⟨(rM_ HO_5 (fun _ hk => hk.2))⟩, ⟨(rR_ HO_7)⟩, ⟨hB_⟩⟩
      replace c27 := Bool.eq_false_iff.mpr c27
      subst c27
      replace H := in_ H (show ¬ (false = true) by decide)
      by_cases c32 : x29_2 > 0
      rotate_left
      ·rw [if_neg c32] at H
       have c32b0 : decide (0 < x29_2) = false := decide_eq_false c32
       clear c32
       replace H := ig_ H; obtain ⟨c41b0, H⟩ := H
       obtain ⟨y416, hy416⟩ : ∃ y_ : List Bool, y_ = (x7_2.set (x29_2 : Int).toNat false) := ⟨_, rfl⟩
       rw [← hy416] at H
       have Ny416 := Aside0.mk hy416; clear hy416
       have H' := Aside0.mk H
       clear H
       have p22 : 0 ≤ (x21_1 : Int) := ode_
       have q22 : x21_1 < (a0.size : Int) := ode_
       have hx22 := bt_at a0 x21_1
       replace p22 := eq_true p22
       replace q22 := eq_true q22
       have p412 : 0 ≤ (x29_2 : Int) := ode_
       have q412 : x29_2 < (x5_1.length : Int) := ode_
       obtain ⟨ad412, e412, hx412_0⟩ := Kd.at_bool (Kd.R_reads' HO_5.out).2.2 x29_2 p412 q412
       (try rw [← Nbq26.out] at hx412_0)
       cases e412
       replace p412 := eq_true p412
       replace q412 := eq_true q412
       have p42 : 0 ≤ (x29_2 : Int) := ode_
       have q42 : (x29_2 : Int) < ((x7_2.length : Int) : Int) := ode_
       obtain ⟨go42, co42, eo42, gb42, gl42, cl42, HG42⟩ := Kd.R_form HO_7.out (by omega)
       (first | cases eo42 | (injection eo42 with ea_ en_ ec_; (first | subst ea_ | (injection ea_ with ea_; subst ea_)); subst ec_; clear en_))
       have GB42 := Aside0.mk gb42
       have GG42 := Aside0.mk HG42
       clear gb42 gl42 HG42
       obtain ⟨hx42_0, hf42_0⟩ := Kd.R_celln false HO_7.out (x29_2 : Int) p42 q42
       replace p42 := eq_true p42
       replace q42 := eq_true q42
       have HP43 := Kd.R_putg HO_7.out (x29_2 : Int) false
       go_wp2_with (first | ((with_reducible refine gate_store (t := 4) (p := 53) rfl ?_); refine store_event (t := 4) (p := 53) (v := ?vo_w44) (w1 := (wr.setCell ⟨go42, (x29_2 : Int).toNat, none⟩ (.bool false))) ?hg ?ho ?hn ?hr ?_; (case ho => rfl); (case hg => rfl); (case hn => rfl); (case hr => first | (go_simp; done) | (go_simp; rfl)); intro w44 hw; have hg : wr.grownBy w44 (some go42) := (by rw [hw]; exact HP43.2); have hp_ : Kd.R Kd.bool 4 w44 w.heap.size (fun k_ => some k_ ≠ (.slice (some ad412) x5_1.length co16 : Value).ownBlock) (.slice (some ⟨go42, 0, none⟩) x7_2.length co42) y416 := (by rw [hw, Ny416.out]; exact HP43.1); clear HP43; replace HO_5 := aM_ (Kd.R_after (v := (.slice (some ⟨go42, 0, none⟩) x7_2.length co42)) (v1 := (.slice (some ⟨go42, 0, none⟩) x7_2.length co42)) (ok := (fun _ => True)) (rM_ HO_5 (fun _ hk => ⟨trivial, hk⟩)) hg (.inl rfl)); replace HO_7 := aM_ (hp_); replace HB := aM_ ((by rw [hw]; exact below_set (HB.out) GB42.out : Below w.heap.size w w44)); clear hg hw hp_))
       go_roundg k2
       case measure => have := HK1.out; have := HK2.out; omega
       case rel => exact ⟨(y416), (wrap64 (x29_2 + 1)), z8_0_, H', ⟨z8_1_⟩, ⟨(rM_ HO_5 (fun _ hk => hk.2))⟩, ⟨(rR_ HO_7)⟩, ⟨hB_⟩⟩
      rw [if_pos c32] at H
      have c32b0 : decide (0 < x29_2) = true := decide_eq_true c32
      clear c32
      obtain ⟨ji33, hji33⟩ : ∃ j_ : Int, (wrap64 (x29_2 - 1)) = j_ := ⟨_, rfl⟩
      replace H : (if 0 ≤ (ji33) then (if (ji33) < (x7_2.length : Int) then (if x29_2 < (x7_2.length : Int) then (impl_fits.l1 k2 a0 a1 x5_1 x21_1 (x7_2.set (x29_2 : Int).toNat (rdOf false x7_2 (ji33))) (a0.size : Int) x21_1 (x5_1.length : Int) (wrap64 (x29_2 + 1))) else (none)) else (none)) else (none)) = some r := by first | (rw [hji33] at H; exact H) | (simp only [hji33] at H ⊢; exact H)
      have hji33w : (IntKind.i64.wrap (x29_2 - 1)) = ji33 := (i64_w _).trans hji33
      replace H := ig_ H; obtain ⟨c34b0, H⟩ := H
      replace H := ig_ H; obtain ⟨c35b0, H⟩ := H
      replace H := ig_ H; obtain ⟨c36b0, H⟩ := H
      obtain ⟨y415, hy415⟩ : ∃ y_ : List Bool, y_ = (x7_2.set (x29_2 : Int).toNat (rdOf false x7_2 (ji33))) := ⟨_, rfl⟩
      rw [← hy415] at H
      have Ny415 := Aside0.mk hy415; clear hy415
      have H' := Aside0.mk H
      clear H
      have p22 : 0 ≤ (x21_1 : Int) := ode_
      have q22 : x21_1 < (a0.size : Int) := ode_
      have hx22 := bt_at a0 x21_1
      replace p22 := eq_true p22
      replace q22 := eq_true q22
      have p412 : 0 ≤ (x29_2 : Int) := ode_
      have q412 : x29_2 < (x5_1.length : Int) := ode_
      obtain ⟨ad412, e412, hx412_0⟩ := Kd.at_bool (Kd.R_reads' HO_5.out).2.2 x29_2 p412 q412
      (try rw [← Nbq26.out] at hx412_0)
      cases e412
      replace p412 := eq_true p412
      replace q412 := eq_true q412
      obtain ⟨Ao38, co38, eo38⟩ := Kd.R_slice HO_7.out
      subst eo38
      have p414 : 0 ≤ ((ji33) : Int) := ode_
      have q414 : (ji33) < (x7_2.length : Int) := ode_
      obtain ⟨ad414, e414, hx414_0⟩ := Kd.at_bool (Kd.R_reads' HO_7.out).2.2 (ji33) p414 q414
      (try rw [← Nbq26.out] at hx414_0)
      cases e414
      replace p414 := eq_true p414
      replace q414 := eq_true q414
      have p37 : 0 ≤ (x29_2 : Int) := ode_
      have q37 : (x29_2 : Int) < ((x7_2.length : Int) : Int) := ode_
      obtain ⟨go37, co37, eo37, gb37, gl37, cl37, HG37⟩ := Kd.R_form HO_7.out (by omega)
      (first | cases eo37 | (injection eo37 with ea_ en_ ec_; (first | subst ea_ | (injection ea_ with ea_; subst ea_)); subst ec_; clear en_))
      have GB37 := Aside0.mk gb37
      have GG37 := Aside0.mk HG37
      clear gb37 gl37 HG37
      (first | simp only [add_plain] at hx414_0 | skip)
      obtain ⟨hx37_0, hf37_0⟩ := Kd.R_celln false HO_7.out (x29_2 : Int) p37 q37
      replace p37 := eq_true p37
      replace q37 := eq_true q37
      have HP39 := Kd.R_putg HO_7.out (x29_2 : Int) (rdOf false x7_2 (ji33))
      go_wp2_with (first | ((with_reducible refine gate_store (t := 4) (p := 53) rfl ?_); refine store_event (t := 4) (p := 53) (v := ?vo_w40) (w1 := (wr.setCell ⟨go37, (x29_2 : Int).toNat, none⟩ (.bool (rdOf false x7_2 (ji33))))) ?hg ?ho ?hn ?hr ?_; (case ho => rfl); (case hg => rfl); (case hn => rfl); (case hr => first | (go_simp; done) | (go_simp; rfl)); intro w40 hw; have hg : wr.grownBy w40 (some go37) := (by rw [hw]; exact HP39.2); have hp_ : Kd.R Kd.bool 4 w40 w.heap.size (fun k_ => some k_ ≠ (.slice (some ad412) x5_1.length co16 : Value).ownBlock) (.slice (some ⟨go37, 0, none⟩) x7_2.length co38) y415 := (by rw [hw, Ny415.out]; exact HP39.1); clear HP39; replace HO_5 := aM_ (Kd.R_after (v := (.slice (some ⟨go37, 0, none⟩) x7_2.length co38)) (v1 := (.slice (some ⟨go37, 0, none⟩) x7_2.length co38)) (ok := (fun _ => True)) (rM_ HO_5 (fun _ hk => ⟨trivial, hk⟩)) hg (.inl rfl)); replace HO_7 := aM_ (hp_); replace HB := aM_ ((by rw [hw]; exact below_set (HB.out) GB37.out : Below w.heap.size w w40)); clear hg hw hp_))
      go_roundg k2
      case measure => have := HK1.out; have := HK2.out; omega
      case rel => exact ⟨(y415), (wrap64 (x29_2 + 1)), z8_0_, H', ⟨z8_1_⟩, ⟨(rM_ HO_5 (fun _ hk => hk.2))⟩, ⟨(rR_ HO_7)⟩, ⟨hB_⟩⟩
     rw [if_neg c23] at H
     have c23b0 : ((bt a0 x21_1) == 42) = false := beq_eq_false_iff_ne.mpr c23
     have c23b1 : ((bt a0 x21_1) != 42) = true := bne_iff_ne.mpr c23
     by_cases c45 : x29_2 > 0
     rotate_left
     ·rw [if_neg c45] at H
      have c45b0 : decide (0 < x29_2) = false := decide_eq_false c45
      clear c45
      replace H := ig_ H; obtain ⟨c71b0, H⟩ := H
      replace H := ig_ H; obtain ⟨c72b0, H⟩ := H
      obtain ⟨y421, hy421⟩ : ∃ y_ : List Bool, y_ = (x7_2.set (x29_2 : Int).toNat false) := ⟨_, rfl⟩
      rw [← hy421] at H
      have Ny421 := Aside0.mk hy421; clear hy421
      have H' := Aside0.mk H
      clear H
      have p22 : 0 ≤ (x21_1 : Int) := ode_
      have q22 : x21_1 < (a0.size : Int) := ode_
      have hx22 := bt_at a0 x21_1
      replace p22 := eq_true p22
      replace q22 := eq_true q22
      try go_wp2
      replace HO_5 := aM_ (Kd.R_drew HO_5.out)
      replace HO_7 := aM_ (Kd.R_drew HO_7.out)
      replace HB := aM_ (below_drew1 HB.out)
      have p73 : 0 ≤ (x29_2 : Int) := ode_
      have q73 : (x29_2 : Int) < ((x7_2.length : Int) : Int) := ode_
      obtain ⟨go73, co73, eo73, gb73, gl73, cl73, HG73⟩ := Kd.R_form HO_7.out (by omega)
      (first | cases eo73 | (injection eo73 with ea_ en_ ec_; (first | subst ea_ | (injection ea_ with ea_; subst ea_)); subst ec_; clear en_))
      have GB73 := Aside0.mk gb73
      have GG73 := Aside0.mk HG73
      clear gb73 gl73 HG73
      obtain ⟨hx73_0, hf73_0⟩ := Kd.R_celln false HO_7.out (x29_2 : Int) p73 q73
      replace p73 := eq_true p73
      replace q73 := eq_true q73
      have HP75 := Kd.R_putn HO_7.out (x29_2 : Int) false
      rw [← Ny421.out] at HP75
      have HQ75 := Aside0.mk HP75
      clear HP75
      refine st_ 29 (fun w' => True) [28] impl_fits.tab14 impl_fits.bits14 trivial fun hHeld HT_ HW_ => ?_
      generalize wr.drew = w74 at HO_5 HO_7 HB GG73 HQ75 hf73_0 hx73_0 hHeld ⊢
      refine pu_ 0 54 ?_
      refine pu_ 1 55 ?_
      refine pu_ 2 56 ?_
      refine pu_ 3 57 ?_
      refine pu_ 4 58 ?_
      refine pv_ 5 59 ?_
      refine pv_ 6 60 ?_
      refine pv_ 7 61 ?_
      refine pv_ 8 62 ?_
      refine pv_ 9 63 ?_
      refine pu_ 10 64 ?_
      refine pu_ 11 65 ?_
      refine pv_ 12 66 ?_
      refine pv_ 13 67 ?_
      refine pv_ 14 68 ?_
      refine pv_ 15 69 ?_
      refine pv_ 16 70 ?_
      refine pv_ 17 71 ?_
      refine pv_ 18 72 ?_
      refine pv_ 19 73 ?_
      refine pv_ 20 74 ?_
      refine pv_ 21 75 ?_
      refine pv_ 22 76 ?_
      refine pv_ 23 77 ?_
      refine pv_ 24 78 ?_
      refine pv_ 25 79 ?_
      refine pu_ 26 80 ?_
      refine pu_ 27 81 ?_
      refine last_ (i := 28) (N := none) (bz_ 29 0x1fffffff) rfl rfl (one_of HT_.out (by kernel_rfl)) (by decide) (fun K hK => ?_)
      refine skip_ (w1 := ?_) (by rfl) rfl ?_ ?_
      rotate_left
      ·go_simp
       rfl
      refine hK.out _ _ ?_
      clear hK K
      refine dn_ ?_
      try go_wp2
      go_roundg k2
      case measure => have := HK1.out; have := HK2.out; omega
      case rel => exact ⟨(y421), (wrap64 (x29_2 + 1)), z8_0_, H', ⟨z8_1_⟩, ⟨by (with_reducible repeat (first | apply rA_ | apply rN_ | apply rD_)); exact Kd.R_mono (Kd.R_far (p := ⟨go73, (x29_2 : Int).toNat, none⟩) (Kd.R_mono HO_5.out (fun k_ hk => (⟨hk, fun e_ => hk (by rw [e_]; rfl)⟩ : _ ∧ k_ ≠ go73))) (fun _ hk => hk.2) (.bool false)) (fun _ hk => hk.1)⟩, ⟨rR_ HQ75⟩, ⟨by repeat (first | (with_reducible first | exact HB.out | apply lA_ | apply lN_ | apply lD_ | refine below_set ?_ GB73.out) | exact HB.out)⟩⟩
     rw [if_pos c45] at H
     have c45b0 : decide (0 < x29_2) = true := decide_eq_true c45
     clear c45
     obtain ⟨ji46, hji46⟩ : ∃ j_ : Int, (wrap64 (x29_2 - 1)) = j_ := ⟨_, rfl⟩
     replace H : (if 0 ≤ (ji46) then (if (ji46) < (x5_1.length : Int) then (if rdOf false x5_1 (ji46) = true then (if (bt a0 x21_1) = 63 then (if 0 ≤ x29_2 then (if x29_2 < (x7_2.length : Int) then (impl_fits.l1 k2 a0 a1 x5_1 x21_1 (x7_2.set (x29_2 : Int).toNat true) (a0.size : Int) x21_1 (x5_1.length : Int) (wrap64 (x29_2 + 1))) else (none)) else (none)) else (if (ji46) < (a1.size : Int) then (if 0 ≤ x29_2 then (if x29_2 < (x7_2.length : Int) then (impl_fits.l1 k2 a0 a1 x5_1 x21_1 (x7_2.set (x29_2 : Int).toNat ((bt a0 x21_1) == (bt a1 (ji46)))) (a0.size : Int) x21_1 (x5_1.length : Int) (wrap64 (x29_2 + 1))) else (none)) else (none)) else (none))) else (if 0 ≤ x29_2 then (if x29_2 < (x7_2.length : Int) then (impl_fits.l1 k2 a0 a1 x5_1 x21_1 (x7_2.set (x29_2 : Int).toNat false) (a0.size : Int) x21_1 (x5_1.length : Int) (wrap64 (x29_2 + 1))) else (none)) else (none))) else (none)) else (none)) = some r := by first | (rw [hji46] at H; exact H) | (simp only [hji46] at H ⊢; exact H)
     have hji46w : (IntKind.i64.wrap (x29_2 - 1)) = ji46 := (i64_w _).trans hji46
     replace H := ig_ H; obtain ⟨c47b0, H⟩ := H
     replace H := ig_ H; obtain ⟨c48b0, H⟩ := H
     obtain ⟨bq49, hbq49⟩ : ∃ b_ : Bool, b_ = (rdOf false x5_1 (ji46)) := ⟨_, rfl⟩
     replace H : (if bq49 = true then (if (bt a0 x21_1) = 63 then (if 0 ≤ x29_2 then (if x29_2 < (x7_2.length : Int) then (impl_fits.l1 k2 a0 a1 x5_1 x21_1 (x7_2.set (x29_2 : Int).toNat true) (a0.size : Int) x21_1 (x5_1.length : Int) (wrap64 (x29_2 + 1))) else (none)) else (none)) else (if (ji46) < (a1.size : Int) then (if 0 ≤ x29_2 then (if x29_2 < (x7_2.length : Int) then (impl_fits.l1 k2 a0 a1 x5_1 x21_1 (x7_2.set (x29_2 : Int).toNat ((bt a0 x21_1) == (bt a1 (ji46)))) (a0.size : Int) x21_1 (x5_1.length : Int) (wrap64 (x29_2 + 1))) else (none)) else (none)) else (none))) else (if 0 ≤ x29_2 then (if x29_2 < (x7_2.length : Int) then (impl_fits.l1 k2 a0 a1 x5_1 x21_1 (x7_2.set (x29_2 : Int).toNat false) (a0.size : Int) x21_1 (x5_1.length : Int) (wrap64 (x29_2 + 1))) else (none)) else (none))) = some r := by rw [← hbq49] at H; exact H
     have Nbq49 := Aside0.mk hbq49
     clear hbq49
     by_cases c50 : bq49 = true
     rotate_left
     ·replace c50 := Bool.eq_false_iff.mpr c50
      subst c50
      replace H := in_ H (show ¬ (false = true) by decide)
      replace H := ig_ H; obtain ⟨c66b0, H⟩ := H
      replace H := ig_ H; obtain ⟨c67b0, H⟩ := H
      obtain ⟨y420, hy420⟩ : ∃ y_ : List Bool, y_ = (x7_2.set (x29_2 : Int).toNat false) := ⟨_, rfl⟩
      rw [← hy420] at H
      have Ny420 := Aside0.mk hy420; clear hy420
      have H' := Aside0.mk H
      clear H
      have p22 : 0 ≤ (x21_1 : Int) := ode_
      have q22 : x21_1 < (a0.size : Int) := ode_
      have hx22 := bt_at a0 x21_1
      replace p22 := eq_true p22
      replace q22 := eq_true q22
      try go_wp2
      replace HO_5 := aM_ (Kd.R_drew HO_5.out)
      replace HO_7 := aM_ (Kd.R_drew HO_7.out)
      replace HB := aM_ (below_drew1 HB.out)
      have p417 : 0 ≤ ((ji46) : Int) := ode_
      have q417 : (ji46) < (x5_1.length : Int) := ode_
      obtain ⟨ad417, e417, hx417_0⟩ := Kd.at_bool (Kd.R_reads' HO_5.out).2.2 (ji46) p417 q417
      (try rw [← Nbq49.out] at hx417_0)
      cases e417
      replace p417 := eq_true p417
      replace q417 := eq_true q417
      have p68 : 0 ≤ (x29_2 : Int) := ode_
      have q68 : (x29_2 : Int) < ((x7_2.length : Int) : Int) := ode_
      obtain ⟨go68, co68, eo68, gb68, gl68, cl68, HG68⟩ := Kd.R_form HO_7.out (by omega)
      (first | cases eo68 | (injection eo68 with ea_ en_ ec_; (first | subst ea_ | (injection ea_ with ea_; subst ea_)); subst ec_; clear en_))
      have GB68 := Aside0.mk gb68
      have GG68 := Aside0.mk HG68
      clear gb68 gl68 HG68
      obtain ⟨hx68_0, hf68_0⟩ := Kd.R_celln false HO_7.out (x29_2 : Int) p68 q68
      replace p68 := eq_true p68
      replace q68 := eq_true q68
      have HP70 := Kd.R_putn HO_7.out (x29_2 : Int) false
      rw [← Ny420.out] at HP70
      have HQ70 := Aside0.mk HP70
      clear HP70
      refine st_ 29 (fun w' => w'.cell? (ad417.add ((ji46)).toNat) = some (.bool false)) [28] impl_fits.tab14 impl_fits.bits14 (hx417_0) fun hHeld HT_ HW_ => ?_
      generalize wr.drew = w69 at HO_5 HO_7 HB GG68 HQ70 hf68_0 hx417_0 hx68_0 hHeld ⊢
      refine pu_ 0 54 ?_
      refine pu_ 1 55 ?_
      refine pu_ 2 56 ?_
      refine pu_ 3 57 ?_
      refine pu_ 4 58 ?_
      refine pu_ 5 59 ?_
      refine pu_ 6 60 ?_
      refine pu_ 7 61 ?_
      refine pu_ 8 62 ?_
      refine tk_ 9 63 ?_
      refine pu_ 10 64 ?_
      refine pu_ 11 65 ?_
      refine pv_ 12 66 ?_
      refine pv_ 13 67 ?_
      refine pv_ 14 68 ?_
      refine pv_ 15 69 ?_
      refine pv_ 16 70 ?_
      refine pv_ 17 71 ?_
      refine pv_ 18 72 ?_
      refine pv_ 19 73 ?_
      refine pv_ 20 74 ?_
      refine pv_ 21 75 ?_
      refine pv_ 22 76 ?_
      refine pv_ 23 77 ?_
      refine pv_ 24 78 ?_
      refine pv_ 25 79 ?_
      refine pu_ 26 80 ?_
      refine pu_ 27 81 ?_
      refine last_ (i := 28) (N := none) (bz_ 29 0x1fffffff) rfl rfl (one_of HT_.out (by kernel_rfl)) (by decide) (fun K hK => ?_)
      refine skip_ (w1 := ?_) (by rfl) rfl ?_ ?_
      rotate_left
      ·go_simp
       rfl
      refine hK.out _ _ ?_
      clear hK K
      refine dn_ ?_
      try go_wp2
      go_roundg k2
      case measure => have := HK1.out; have := HK2.out; omega
      case rel => exact ⟨(y420), (wrap64 (x29_2 + 1)), z8_0_, H', ⟨z8_1_⟩, ⟨by (with_reducible repeat (first | apply rA_ | apply rN_ | apply rD_)); exact Kd.R_mono (Kd.R_far (p := ⟨go68, (x29_2 : Int).toNat, none⟩) (Kd.R_mono HO_5.out (fun k_ hk => (⟨hk, fun e_ => hk (by rw [e_]; rfl)⟩ : _ ∧ k_ ≠ go68))) (fun _ hk => hk.2) (.bool false)) (fun _ hk => hk.1)⟩, ⟨rR_ HQ70⟩, ⟨by repeat (first | (with_reducible first | exact HB.out | apply lA_ | apply lN_ | apply lD_ | refine below_set ?_ GB68.out) | exact HB.out)⟩⟩
     subst c50
     replace H := ip_ H rfl
     by_cases c52 : (bt a0 x21_1) = 63
     ·rw [if_pos c52] at H
      have c52b0 : ((bt a0 x21_1) == 63) = true := beq_iff_eq.mpr c52
      have c52b1 : ((bt a0 x21_1) != 63) = false := bne_eq_false_iff_eq.mpr c52
      clear c52
      replace H := ig_ H; obtain ⟨c53b0, H⟩ := H
      replace H := ig_ H; obtain ⟨c54b0, H⟩ := H
      obtain ⟨y418, hy418⟩ : ∃ y_ : List Bool, y_ = (x7_2.set (x29_2 : Int).toNat true) := ⟨_, rfl⟩
      rw [← hy418] at H
      have Ny418 := Aside0.mk hy418; clear hy418
      have H' := Aside0.mk H
      clear H
      have p22 : 0 ≤ (x21_1 : Int) := ode_
      have q22 : x21_1 < (a0.size : Int) := ode_
      have hx22 := bt_at a0 x21_1
      replace p22 := eq_true p22
      replace q22 := eq_true q22
      try go_wp2
      replace HO_5 := aM_ (Kd.R_drew HO_5.out)
      replace HO_7 := aM_ (Kd.R_drew HO_7.out)
      replace HB := aM_ (below_drew1 HB.out)
      have p417 : 0 ≤ ((ji46) : Int) := ode_
      have q417 : (ji46) < (x5_1.length : Int) := ode_
      obtain ⟨ad417, e417, hx417_0⟩ := Kd.at_bool (Kd.R_reads' HO_5.out).2.2 (ji46) p417 q417
      (try rw [← Nbq49.out] at hx417_0)
      cases e417
      replace p417 := eq_true p417
      replace q417 := eq_true q417
      have p51 : 0 ≤ (x21_1 : Int) := ode_
      have q51 : x21_1 < (a0.size : Int) := ode_
      have hx51 := bt_at a0 x21_1
      replace p51 := eq_true p51
      replace q51 := eq_true q51
      have p55 : 0 ≤ (x29_2 : Int) := ode_
      have q55 : (x29_2 : Int) < ((x7_2.length : Int) : Int) := ode_
      obtain ⟨go55, co55, eo55, gb55, gl55, cl55, HG55⟩ := Kd.R_form HO_7.out (by omega)
      (first | cases eo55 | (injection eo55 with ea_ en_ ec_; (first | subst ea_ | (injection ea_ with ea_; subst ea_)); subst ec_; clear en_))
      have GB55 := Aside0.mk gb55
      have GG55 := Aside0.mk HG55
      clear gb55 gl55 HG55
      obtain ⟨hx55_0, hf55_0⟩ := Kd.R_celln false HO_7.out (x29_2 : Int) p55 q55
      replace p55 := eq_true p55
      replace q55 := eq_true q55
      have HP57 := Kd.R_putn HO_7.out (x29_2 : Int) true
      rw [← Ny418.out] at HP57
      have HQ57 := Aside0.mk HP57
      clear HP57
      refine st_ 29 (fun w' => w'.cell? (ad417.add ((ji46)).toNat) = some (.bool true)) [28] impl_fits.tab14 impl_fits.bits14 (hx417_0) fun hHeld HT_ HW_ => ?_
      generalize wr.drew = w56 at HO_5 HO_7 HB GG55 HQ57 hf55_0 hx417_0 hx55_0 hHeld ⊢
      refine pu_ 0 54 ?_
      refine pu_ 1 55 ?_
      refine pu_ 2 56 ?_
      refine pu_ 3 57 ?_
      refine pu_ 4 58 ?_
      refine pu_ 5 59 ?_
      refine pu_ 6 60 ?_
      refine pu_ 7 61 ?_
      refine pu_ 8 62 ?_
      refine tk_ 9 63 ?_
      refine pu_ 10 64 ?_
      refine pu_ 11 65 ?_
      refine pu_ 12 66 ?_
      refine pu_ 13 67 ?_
      refine tk_ 14 68 ?_
      refine pu_ 15 69 ?_
      refine pu_ 16 70 ?_
      refine pv_ 17 71 ?_
      refine pv_ 18 72 ?_
      refine pv_ 19 73 ?_
      refine pv_ 20 74 ?_
      refine pv_ 21 75 ?_
      refine pv_ 22 76 ?_
      refine pv_ 23 77 ?_
      refine pv_ 24 78 ?_
      refine pu_ 25 79 ?_
      refine pu_ 26 80 ?_
      refine pu_ 27 81 ?_
      refine last_ (i := 28) (N := none) (bz_ 29 0x1fffffff) rfl rfl (one_of HT_.out (by kernel_rfl)) (by decide) (fun K hK => ?_)
      refine skip_ (w1 := ?_) (by rfl) rfl ?_ ?_
      rotate_left
      ·go_simp
       rfl
      refine hK.out _ _ ?_
      clear hK K
      refine dn_ ?_
      try go_wp2
      go_roundg k2
      case measure => have := HK1.out; have := HK2.out; omega
      case rel => exact ⟨(y418), (wrap64 (x29_2 + 1)), z8_0_, H', ⟨z8_1_⟩, ⟨by (with_reducible repeat (first | apply rA_ | apply rN_ | apply rD_)); exact Kd.R_mono (Kd.R_far (p := ⟨go55, (x29_2 : Int).toNat, none⟩) (Kd.R_mono HO_5.out (fun k_ hk => (⟨hk, fun e_ => hk (by rw [e_]; rfl)⟩ : _ ∧ k_ ≠ go55))) (fun _ hk => hk.2) (.bool true)) (fun _ hk => hk.1)⟩, ⟨rR_ HQ57⟩, ⟨by repeat (first | (with_reducible first | exact HB.out | apply lA_ | apply lN_ | apply lD_ | refine below_set ?_ GB55.out) | exact HB.out)⟩⟩
     rw [if_neg c52] at H
     have c52b0 : ((bt a0 x21_1) == 63) = false := beq_eq_false_iff_ne.mpr c52
     have c52b1 : ((bt a0 x21_1) != 63) = true := bne_iff_ne.mpr c52
     replace H := ig_ H; obtain ⟨c59b0, H⟩ := H
     replace H := ig_ H; obtain ⟨c61b0, H⟩ := H
     replace H := ig_ H; obtain ⟨c62b0, H⟩ := H
     obtain ⟨y419, hy419⟩ : ∃ y_ : List Bool, y_ = (x7_2.set (x29_2 : Int).toNat ((bt a0 x21_1) == (bt a1 (ji46)))) := ⟨_, rfl⟩
     rw [← hy419] at H
     have Ny419 := Aside0.mk hy419; clear hy419
     have H' := Aside0.mk H
     clear H
     have p22 : 0 ≤ (x21_1 : Int) := ode_
     have q22 : x21_1 < (a0.size : Int) := ode_
     have hx22 := bt_at a0 x21_1
     replace p22 := eq_true p22
     replace q22 := eq_true q22
     try go_wp2
     replace HO_5 := aM_ (Kd.R_drew HO_5.out)
     replace HO_7 := aM_ (Kd.R_drew HO_7.out)
     replace HB := aM_ (below_drew1 HB.out)
     have p417 : 0 ≤ ((ji46) : Int) := ode_
     have q417 : (ji46) < (x5_1.length : Int) := ode_
     obtain ⟨ad417, e417, hx417_0⟩ := Kd.at_bool (Kd.R_reads' HO_5.out).2.2 (ji46) p417 q417
     (try rw [← Nbq49.out] at hx417_0)
     cases e417
     replace p417 := eq_true p417
     replace q417 := eq_true q417
     have p51 : 0 ≤ (x21_1 : Int) := ode_
     have q51 : x21_1 < (a0.size : Int) := ode_
     have hx51 := bt_at a0 x21_1
     replace p51 := eq_true p51
     replace q51 := eq_true q51
     have p58 : 0 ≤ (x21_1 : Int) := ode_
     have q58 : x21_1 < (a0.size : Int) := ode_
     have hx58 := bt_at a0 x21_1
     replace p58 := eq_true p58
     replace q58 := eq_true q58
     have p60 : 0 ≤ ((ji46) : Int) := ode_
     have q60 : (ji46) < (a1.size : Int) := ode_
     have hx60 := bt_at a1 (ji46)
     replace p60 := eq_true p60
     replace q60 := eq_true q60
     have p63 : 0 ≤ (x29_2 : Int) := ode_
     have q63 : (x29_2 : Int) < ((x7_2.length : Int) : Int) := ode_
     obtain ⟨go63, co63, eo63, gb63, gl63, cl63, HG63⟩ := Kd.R_form HO_7.out (by omega)
     (first | cases eo63 | (injection eo63 with ea_ en_ ec_; (first | subst ea_ | (injection ea_ with ea_; subst ea_)); subst ec_; clear en_))
     have GB63 := Aside0.mk gb63
     have GG63 := Aside0.mk HG63
     clear gb63 gl63 HG63
     obtain ⟨hx63_0, hf63_0⟩ := Kd.R_celln false HO_7.out (x29_2 : Int) p63 q63
     replace p63 := eq_true p63
     replace q63 := eq_true q63
     have HP65 := Kd.R_putn HO_7.out (x29_2 : Int) ((bt a0 x21_1) == (bt a1 (ji46)))
     rw [← Ny419.out] at HP65
     have HQ65 := Aside0.mk HP65
     clear HP65
     refine st_ 29 (fun w' => w'.cell? (ad417.add ((ji46)).toNat) = some (.bool true)) [28] impl_fits.tab14 impl_fits.bits14 (hx417_0) fun hHeld HT_ HW_ => ?_
     generalize wr.drew = w64 at HO_5 HO_7 HB GG63 HQ65 hf63_0 hx417_0 hx63_0 hHeld ⊢
     refine pu_ 0 54 ?_
     refine pu_ 1 55 ?_
     refine pu_ 2 56 ?_
     refine pu_ 3 57 ?_
     refine pu_ 4 58 ?_
     refine pu_ 5 59 ?_
     refine pu_ 6 60 ?_
     refine pu_ 7 61 ?_
     refine pu_ 8 62 ?_
     refine tk_ 9 63 ?_
     refine pu_ 10 64 ?_
     refine pu_ 11 65 ?_
     refine pu_ 12 66 ?_
     refine pu_ 13 67 ?_
     refine tk_ 14 68 ?_
     refine pu_ 15 69 ?_
     refine pu_ 16 70 ?_
     refine pu_ 17 71 ?_
     refine pu_ 18 72 ?_
     refine pu_ 20 74 ?_
     refine pu_ 21 75 ?_
     refine pu_ 22 76 ?_
     refine tk_ 19 73 ?_
     refine tk_ 23 77 ?_
     refine pu_ 24 78 ?_
     refine pu_ 25 79 ?_
     refine pu_ 26 80 ?_
     refine pu_ 27 81 ?_
     refine last_ (i := 28) (N := none) (bz_ 29 0x1fffffff) rfl rfl (one_of HT_.out (by kernel_rfl)) (by decide) (fun K hK => ?_)
     refine skip_ (w1 := ?_) (by rfl) rfl ?_ ?_
     rotate_left
     ·go_simp
      rfl
     refine hK.out _ _ ?_
     clear hK K
     refine dn_ ?_
     try go_wp2
     go_roundg k2
     case measure => have := HK1.out; have := HK2.out; omega
     case rel => exact ⟨(y419), (wrap64 (x29_2 + 1)), z8_0_, H', ⟨z8_1_⟩, ⟨by (with_reducible repeat (first | apply rA_ | apply rN_ | apply rD_)); exact Kd.R_mono (Kd.R_far (p := ⟨go63, (x29_2 : Int).toNat, none⟩) (Kd.R_mono HO_5.out (fun k_ hk => (⟨hk, fun e_ => hk (by rw [e_]; rfl)⟩ : _ ∧ k_ ≠ go63))) (fun _ hk => hk.2) (.bool ((bt a0 x21_1) == (bt a1 (ji46))))) (fun _ hk => hk.1)⟩, ⟨rR_ HQ65⟩, ⟨by repeat (first | (with_reducible first | exact HB.out | apply lA_ | apply lN_ | apply lD_ | refine below_set ?_ GB63.out) | exact HB.out)⟩⟩

end Go.Proofs.Ytbfkpgmdbafmhaa.PFnTierCounts
