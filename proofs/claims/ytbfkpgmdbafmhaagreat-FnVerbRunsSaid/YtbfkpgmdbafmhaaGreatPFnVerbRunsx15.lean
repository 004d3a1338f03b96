/- Printed for this claim: functions of the program as Lean functions, and that the calls answer so. -/
import Derived.Test.YtbfkpgmdbafmhaaGreatPFnVerbRunsx0
import Derived.Test.YtbfkpgmdbafmhaaGreatPFnVerbRunsx2
import Derived.Test.YtbfkpgmdbafmhaaGreatPFnVerbRunsx6
import Derived.Test.YtbfkpgmdbafmhaaGreatPFnVerbRunsx8
import Derived.Test.YtbfkpgmdbafmhaaGreatPFnVerbRunsx9
import Derived.Test.YtbfkpgmdbafmhaaGreatPFnVerbRunsx10
import Derived.Test.YtbfkpgmdbafmhaaGreatPFnVerbRunsxD0
import Derived.Test.YtbfkpgmdbafmhaaGreatPFnVerbRunsxD1
namespace Go.Proofs.YtbfkpgmdbafmhaaGreat.PFnVerbRuns
open Go.RowKit Go.Proofs.YtbfkpgmdbafmhaaGreatW.PrintWords Go.Proofs.YtbfkpgmdbafmhaaGreatW.PrintLast Go.Proofs.YtbfkpgmdbafmhaaGreatW.PrintMore
theorem z15_0_ {p : Prop} (h : p := by first | rfl | (simp; done) | (simp [*]; done)) : p := h
theorem z15_1_ {p : Prop} (h : p := by repeat (first | (with_reducible first | exact HI0.out | apply IsS60.alloc | apply IsS60.drewN | apply IsS60.drew | apply IsS60.set_1 | apply IsS60.set_2) | exact HI0.out)) : p := h
theorem z15_2_ {p : Prop} (h : p := by repeat (first | (with_reducible first | exact HK.out | apply KeepBut.set_ | apply keep_drewN | apply keep_drew | apply keep_alloc) | exact HK.out)) : p := h
theorem z15_3_ {p : Prop} (h : p := by repeat (first | (with_reducible first | exact HB.out | apply lA_ | apply lN_ | apply lD_ | refine below_set ?_ (IsS60.ge HI0.out)) | exact HB.out)) : p := h
theorem z15_4_ {p : Prop} (h : p := by repeat (first | (with_reducible first | exact HI567.out | apply IsS60.alloc | apply IsS60.drewN | apply IsS60.drew | apply IsS60.set_1 | apply IsS60.set_2) | exact HI567.out)) : p := h
theorem z15_5_ {p : Prop} (h : p := by repeat (first | (with_reducible first | exact HB.out | apply lA_ | apply lN_ | apply lD_ | refine below_set ?_ (IsS60.ge HI567.out)) | exact HB.out)) : p := h
theorem z15_6_ {p : Prop} (h : p := by (try simp only [List.map_toArray, List.map_cons, List.map_nil]); first | done | rfl | simp | (simp; rfl)) : p := h
theorem z15_7_ {p : Prop} (h : p := by repeat (first | exact (Kd.C_below HR1_0.out HB.out) | (with_reducible first | apply cA_ | apply cN_ | apply cD_))) : p := h
theorem z15_8_ {p : Prop} (h : p := by repeat (first | exact (Kd.C_below HR0.out HB.out) | (with_reducible first | apply cA_ | apply cN_ | apply cD_))) : p := h
set_option maxHeartbeats 8000000
set_option maxRecDepth 100000
attribute [local go_sem] max2_int min2_int max_two min_two max_three min_three max_four min_four isSome_setCell   -- for this text's walks alone
set_option linter.unusedVariables false
set_option linter.unusedSimpArgs false

theorem Fap.calls (k g : Nat) (s0_0 : List Int) (s0_1 s0_2 : Int) (A1 : Option Addr) (c1 : Nat) (l1 : List S74) (r1 : ByteArray) (r2 r3 : Int) (w0 w : World) (hI : IsS60 w0 w g s0_0 s0_1 s0_2) (hB : Below w0.heap.size w0 w) (hr1 : ∀ W_, KeepBut w W_ g none → Kd.C k74 W_ A1 l1.length l1) (hc1 : l1.length ≤ c1) (h : Fap.f k s0_0 s0_1 s0_2 l1 = some (r1, r2, r3)) :
 Calls Tryz.prog 37 #[.pointer (some ⟨g, 0, none⟩), .slice A1 l1.length c1] w fun e w' => e = .returned (.string r1) ∧ IsS60 w0 w' g s0_0 r2 r3 ∧ Below w0.heap.size w0 w' ∧ KeepBut w w' g none := by
 have HR1 := aM_ hr1
 have HC1 := aM_ hc1
 clear hr1 hc1
 have HI0 := aM_ hI
 have HK := aM_ (KeepBut.refl w g none)
 have HL := aM_ hB.size
 clear hI
 have HW0 := aM_ hB.size
 have HB := aM_ hB
 clear hB
 have H : (if (l1.length : Int) > 0 then ((Fbb.f s0_0 s0_1 s0_2 8).bind fun bt554 => (Fap.j0 k l1 (l1.length : Int) (!bt554.1) s0_0 bt554.2.1 bt554.2.2)) else (Fap.j0 k l1 (l1.length : Int) false s0_0 s0_1 s0_2)) = some (r1, r2, r3) := h
 clear h
 have HC3 := aM_ H
 clear H
 go_enter Tryz.func37, Tryz.ntmps37
 go_upto_region 2 with (fail)
 go_cut [14] (fun v14 wc => ∃ (kq : Nat) (x14_2 : Bool) (x1001_2 x1002_2 : Int), v14 = .bool x14_2 ∧ Aside0 (Fap.j0 kq l1 (l1.length : Int) x14_2 s0_0 x1001_2 x1002_2 = some (r1, r2, r3)) ∧ Aside0 (kq ≤ k) ∧ Aside0 (IsS60 w0 wc g s0_0 x1001_2 x1002_2) ∧ Aside0 (KeepBut w wc g none) ∧ Aside0 (Below w0.heap.size w0 wc))
 case first =>
  have H := HC3.out
  clear HC3
  by_cases c4 : (l1.length : Int) > 0
  rotate_left
  ·rw [if_neg c4] at H
   have c4b0 : decide (0 < (l1.length : Int)) = false := decide_eq_false c4
   have c4b1 : decide (0 < l1.length) = false := decide_eq_false (by omega)
   clear c4
   (first | rw [c4b0] | (simp only [i64_w, i32_w]; rw [c4b0]) | skip)
   have H' := aM_ H
   clear H
   go_wp2
   go_meet
   case rel => exact ⟨_, (false), (s0_1), (s0_2), z15_0_, H', ⟨oR_⟩, ⟨z15_1_⟩, ⟨z15_2_⟩, ⟨z15_3_⟩⟩
  rw [if_pos c4] at H
  have c4b0 : decide (0 < (l1.length : Int)) = true := decide_eq_true c4
  have c4b1 : decide (0 < l1.length) = true := decide_eq_true (by omega)
  clear c4
  (first | rw [c4b0] | (simp only [i64_w, i32_w]; rw [c4b0]) | skip)
  replace H := ob_ H; obtain ⟨⟨t554, t555, t556⟩, A5, H⟩ := H; try dsimp only at H
  have H' := aM_ H
  clear H
  go_wp2_with (first | (go_at_call 50; (with_reducible refine (Fbb.calls g s0_0 s0_1 s0_2 8 t554 t555 t556 w0 _ ?_ ?_ A5.out).mono ?_); exact z15_1_; exact z15_3_; rintro e w6 ⟨rfl, hi, hb, hk⟩; replace HK := aM_ (KeepBut.trans z15_2_ hk (.inl rfl)); replace HB := aM_ (hb); replace HI0 := aM_ (hi); (try clear hb); (try clear hk); (try clear hi)))
  go_meet
  case rel => exact ⟨_, (!t554), (t555), (t556), z15_0_, H', ⟨oR_⟩, ⟨z15_1_⟩, ⟨z15_2_⟩, ⟨z15_3_⟩⟩
 case rest =>
  clear HC3
  (try clear c1)
  obtain ⟨kq, x14_2, x1001_2, x1002_2, rfl, HA, HJ2, HI0, HK, HB⟩ := hcut
  cases kq with
  | zero => exact absurd HA.out (by simp [Fap.j0])
  | succ kj2 =>
   have H := HA.out
   clear HA
   simp only [Fap.j0] at H
   by_cases c7 : x14_2 = true
   ·subst c7
    replace H := ip_ H rfl
    replace H := ob_ H; obtain ⟨⟨t557, t558, t559⟩, A8, H⟩ := H; try dsimp only at H
    replace H := ig_ H; obtain ⟨c9b0, H⟩ := H
    replace H := ig_ H; obtain ⟨c10b0, H⟩ := H
    simp only [Option.some.injEq, Prod.mk.injEq] at H
    obtain ⟨rfl, rfl, rfl⟩ := H
    go_wp2_with (first | ((with_reducible refine gC_ 51 ?_); refine gM_ (some 18) Tryz.func51 #[.pointer (some ⟨g, 0, none⟩), .int .i64 (l1.length : Int)] ?_; (with_reducible refine (FaJ.calls g s0_0 x1001_2 x1002_2 (l1.length : Int) t557 t558 t559 w0 _ ?_ ?_ A8.out).mono ?_); exact z15_1_; exact z15_3_; rintro e w11 ⟨rfl, hi, hb, hk⟩; refine ⟨_, rfl, ?_⟩; replace HK := aM_ (KeepBut.trans z15_2_ hk (.inl rfl)); replace HB := aM_ (hb); replace HI0 := aM_ (hi); (try clear hb); (try clear hk); (try clear hi); have p560 : 0 ≤ (t557 : Int) := ode_; have q560 : t557 < (l1.length : Int) := ode_; obtain ⟨ad560, e560, hx560_0, hx560_1⟩ := at_T74 (Kd.C_foot_now HR1.out HK.out) t557 p560 q560; cases e560; replace p560 := eq_true p560; replace q560 := eq_true q560))
    go_ret
    exact ⟨rT_, z15_1_, z15_3_, z15_2_⟩
   replace c7 := Bool.eq_false_iff.mpr c7
   subst c7
   replace H := in_ H (show ¬ (false = true) by decide)
   obtain ⟨y561, hy561⟩ : ∃ y_ : List ByteArray, y_ = (([(⟨#[109, 97, 114, 121]⟩ : ByteArray), (⟨#[110, 111, 98, 111, 100, 121]⟩ : ByteArray), (⟨#[]⟩ : ByteArray)] : List ByteArray)) := ⟨_, rfl⟩
   rw [← hy561] at H
   have Ny561 := aM_ hy561; clear hy561
   replace H := ob_ H; obtain ⟨⟨t564, t565, t566⟩, A12, H⟩ := H; try dsimp only at H
   simp only [Option.some.injEq, Prod.mk.injEq] at H
   obtain ⟨rfl, rfl, rfl⟩ := H
   go_wp2_with (first | ((with_reducible refine gD_ 23 ?_); refine rl_ Kd.string 9 23 ([(⟨#[109, 97, 114, 121]⟩ : ByteArray), (⟨#[110, 111, 98, 111, 100, 121]⟩ : ByteArray), (⟨#[]⟩ : ByteArray)] : List ByteArray) [.string (⟨#[109, 97, 114, 121]⟩ : ByteArray), .string (⟨#[110, 111, 98, 111, 100, 121]⟩ : ByteArray), .string (⟨#[]⟩ : ByteArray)] (Reps.one (show Kd.M Kd.string _ _ _ (⟨#[109, 97, 114, 121]⟩ : ByteArray) [.string (⟨#[109, 97, 114, 121]⟩ : ByteArray)] from rfl) (Reps.one (show Kd.M Kd.string _ _ _ (⟨#[110, 111, 98, 111, 100, 121]⟩ : ByteArray) [.string (⟨#[110, 111, 98, 111, 100, 121]⟩ : ByteArray)] from rfl) (Reps.one (show Kd.M Kd.string _ _ _ (⟨#[]⟩ : ByteArray) [.string (⟨#[]⟩ : ByteArray)] from rfl) (Reps.none _ _)))) ?_; intro v562 w13 ho14 hb hg_ hnew_; clear hg_ hnew_; (first | rw [← Ny561.out] at ho14 | (simp only [Int.reduceToNat] at ho14; rw [← Ny561.out] at ho14)); have HO563 := aM_ (Kd.R_lower ho14 (keep_size (w := w) (g := g) (row := none) z15_2_)); replace HK := aM_ (KeepBut.trans z15_2_ (KeepBut.of_below hb g none) (.inl rfl)); replace HB := aM_ (below_step z15_3_ hb); replace HI0 := aM_ (IsS60.below z15_1_ hb); clear hb ho14; obtain ⟨Ao15, co15, eo15⟩ := rS_ HO563; subst eo15) | ((with_reducible refine gC_ 33 ?_); refine gM_ (some 24) Tryz.func33 #[.pointer (some ⟨g, 0, none⟩), .slice Ao15 y561.length co15] ?_; (with_reducible refine (Fba.calls g s0_0 x1001_2 x1002_2 _ _ y561 t564 t565 t566 w0 _ ?_ ?_ ?_ ?_ ?_ A12.out).mono ?_); exact z15_1_; exact z15_3_; exact cR_ HO563; exact (Kd.R_reads' HO563.out).2.1; exact far_slice (IsS60.own_ne HI0.out HO563.out (by decide)); rintro e w16 ⟨rfl, hi, hb, hk⟩; refine ⟨_, rfl, ?_⟩; replace HO563 := aM_ (Kd.R_mono (Kd.R_keep (IsS60.apart (show IsS60 w0 _ g s0_0 x1001_2 x1002_2 from by repeat (first | (with_reducible first | exact HI0.out | apply IsS60.alloc | apply IsS60.drewN | apply IsS60.drew | apply IsS60.set_1 | apply IsS60.set_2) | exact HI0.out)) (rR_ HO563) (by decide)) hk (fun _ h => h.2)) (fun _ h => h.1)); replace HK := aM_ (KeepBut.trans z15_2_ hk (.inl rfl)); replace HB := aM_ (hb); replace HI0 := aM_ (hi); (try clear hb); (try clear hk); (try clear hi)))
   go_ret
   exact ⟨rT_, z15_1_, z15_3_, z15_2_⟩

theorem FaY.calls (k : Nat) (A0 : Option Addr) (c0 : Nat) (l0 : List Int) (r1 : List S74) (r2 : List S40) (r3 r4 : ByteArray) (w : World) (hr0 : Kd.C (Kd.int .u8) w A0 l0.length l0) (hc0 : l0.length ≤ c0) (h : FaY.f k l0 = some (r1, r2, r3, r4)) :
 Calls Tryz.prog 10 #[.slice A0 l0.length c0] w fun e w' => ∃ v0_ v1_ : Value, e = .returned (.tuple #[v0_, v1_, .string r3, .string r4]) ∧ Kd.R k74 74 w' w.heap.size (fun _ => True) v0_ r1 ∧ Kd.R k40 40 w' w.heap.size (fun _ => True) v1_ r2 ∧ Below w.heap.size w w' := by
 have hu60 := Tryz.underlying60
 have HR0 := aM_ hr0
 have HC0 := aM_ hc0
 clear hr0 hc0
 have HB := aM_ (Below.refl w.heap.size w)
 have H : ((Fah.f k l0 0 0).bind fun bt568 => ((Fai.f k l0 bt568.2.1 bt568.2.2 bt568.1).bind fun bt573 => ((Fap.f k l0 bt573.2.1 bt573.2.2 bt568.1).bind fun bt578 => ((Fap.f k l0 bt578.2.1 bt578.2.2 bt568.1).bind fun bt581 => (some (bt568.1, bt573.1, bt578.1, bt581.1)))))) = some (r1, r2, r3, r4) := h
 clear h
 replace H := ob_ H; obtain ⟨⟨t568, t571, t572⟩, A2, H⟩ := H; try dsimp only at H
 replace H := ob_ H; obtain ⟨⟨t573, t576, t577⟩, A3, H⟩ := H; try dsimp only at H
 replace H := ob_ H; obtain ⟨⟨t578, t579, t580⟩, A4, H⟩ := H; try dsimp only at H
 replace H := ob_ H; obtain ⟨⟨t581, t582, t583⟩, A5, H⟩ := H; try dsimp only at H
 simp only [Option.some.injEq, Prod.mk.injEq] at H
 obtain ⟨rfl, rfl, rfl, rfl⟩ := H
 go_enter Tryz.func10, Tryz.ntmps10
 go_wp2_with (first | ((with_reducible refine gD_ 10 ?_); refine bx_ 10 #[.slice A0 l0.length c0, .int .i64 0, .int .u64 0] 60 fun gb567 hg w6 hbox hb => ?_; have HI567 := aM_ ((show IsS60 w w6 gb567 l0 0 0 from ⟨A0, c0, hbox, (by rw [hg]; exact (below_size hB_) : w.heap.size ≤ gb567), HR0.out⟩)); replace HB := bS_ hb; clear hb hbox hg) | ((with_reducible refine gC_ 26 ?_); refine gM_ (some 12) Tryz.func26 #[.pointer (some ⟨gb567, 0, none⟩)] ?_; (with_reducible refine (Fah.calls k gb567 l0 0 0 t568 t571 t572 w _ ?_ ?_ A2.out).mono ?_); exact z15_4_; exact z15_5_; rintro e w7 ⟨v569, rfl, ho0, hi, hb, hk⟩; refine ⟨_, rfl, ?_⟩; have HO570 := aM_ (Kd.R_lower ho0 (below_size z15_5_)); replace HB := aM_ (hb); replace HI567 := aM_ (hi); (try clear hb); (try clear hk); (try clear hi); (try clear ho0); obtain ⟨Ao8, co8, eo8⟩ := rS_ HO570; subst eo8) | ((with_reducible refine gC_ 27 ?_); refine gM_ (some 16) Tryz.func27 #[.pointer (some ⟨gb567, 0, none⟩), .slice Ao8 t568.length co8] ?_; (with_reducible refine (Fai.calls k gb567 l0 t571 t572 _ _ t568 t573 t576 t577 w _ ?_ ?_ ?_ ?_ A3.out).mono ?_); exact z15_4_; exact z15_5_; exact Kd.C_foot_own (IsS60.apart (show IsS60 w _ gb567 l0 t571 t572 from by repeat (first | (with_reducible first | exact HI567.out | apply IsS60.alloc | apply IsS60.drewN | apply IsS60.drew | apply IsS60.set_1 | apply IsS60.set_2) | exact HI567.out)) (rR_ HO570) (by decide)) (fun _ h_ => h_.2); exact (Kd.R_reads' HO570.out).2.1; rintro e w9 ⟨v574, rfl, ho0, hi, hb, hk⟩; refine ⟨_, rfl, ?_⟩; have HO575 := aM_ (Kd.R_lower ho0 (below_size z15_5_)); replace HO570 := aM_ (Kd.R_mono (Kd.R_keep (IsS60.apart (show IsS60 w _ gb567 l0 t571 t572 from by repeat (first | (with_reducible first | exact HI567.out | apply IsS60.alloc | apply IsS60.drewN | apply IsS60.drew | apply IsS60.set_1 | apply IsS60.set_2) | exact HI567.out)) (rR_ HO570) (by decide)) hk (fun _ h => h.2)) (fun _ h => h.1)); replace HB := aM_ (hb); replace HI567 := aM_ (hi); (try clear hb); (try clear hk); (try clear hi); (try clear ho0)) | ((with_reducible refine gC_ 37 ?_); refine gM_ (some 19) Tryz.func37 #[.pointer (some ⟨gb567, 0, none⟩), .slice Ao8 t568.length co8] ?_; (with_reducible refine (Fap.calls k gb567 l0 t576 t577 _ _ t568 t578 t579 t580 w _ ?_ ?_ ?_ ?_ A4.out).mono ?_); exact z15_4_; exact z15_5_; exact Kd.C_foot_own (IsS60.apart (show IsS60 w _ gb567 l0 t576 t577 from by repeat (first | (with_reducible first | exact HI567.out | apply IsS60.alloc | apply IsS60.drewN | apply IsS60.drew | apply IsS60.set_1 | apply IsS60.set_2) | exact HI567.out)) (rR_ HO570) (by decide)) (fun _ h_ => h_.2); exact (Kd.R_reads' HO570.out).2.1; rintro e w10 ⟨rfl, hi, hb, hk⟩; refine ⟨_, rfl, ?_⟩; replace HO570 := aM_ (Kd.R_mono (Kd.R_keep (IsS60.apart (show IsS60 w _ gb567 l0 t576 t577 from by repeat (first | (with_reducible first | exact HI567.out | apply IsS60.alloc | apply IsS60.drewN | apply IsS60.drew | apply IsS60.set_1 | apply IsS60.set_2) | exact HI567.out)) (rR_ HO570) (by decide)) hk (fun _ h => h.2)) (fun _ h => h.1)); replace HO575 := aM_ (Kd.R_mono (Kd.R_keep (IsS60.apart (show IsS60 w _ gb567 l0 t576 t577 from by repeat (first | (with_reducible first | exact HI567.out | apply IsS60.alloc | apply IsS60.drewN | apply IsS60.drew | apply IsS60.set_1 | apply IsS60.set_2) | exact HI567.out)) (rR_ HO575) (by decide)) hk (fun _ h => h.2)) (fun _ h => h.1)); replace HB := aM_ (hb); replace HI567 := aM_ (hi); (try clear hb); (try clear hk); (try clear hi)) | ((with_reducible refine gC_ 37 ?_); refine gM_ (some 22) Tryz.func37 #[.pointer (some ⟨gb567, 0, none⟩), .slice Ao8 t568.length co8] ?_; (with_reducible refine (Fap.calls k gb567 l0 t579 t580 _ _ t568 t581 t582 t583 w _ ?_ ?_ ?_ ?_ A5.out).mono ?_); exact z15_4_; exact z15_5_; exact Kd.C_foot_own (IsS60.apart (show IsS60 w _ gb567 l0 t579 t580 from by repeat (first | (with_reducible first | exact HI567.out | apply IsS60.alloc | apply IsS60.drewN | apply IsS60.drew | apply IsS60.set_1 | apply IsS60.set_2) | exact HI567.out)) (rR_ HO570) (by decide)) (fun _ h_ => h_.2); exact (Kd.R_reads' HO570.out).2.1; rintro e w11 ⟨rfl, hi, hb, hk⟩; refine ⟨_, rfl, ?_⟩; replace HO570 := aM_ (Kd.R_mono (Kd.R_keep (IsS60.apart (show IsS60 w _ gb567 l0 t579 t580 from by repeat (first | (with_reducible first | exact HI567.out | apply IsS60.alloc | apply IsS60.drewN | apply IsS60.drew | apply IsS60.set_1 | apply IsS60.set_2) | exact HI567.out)) (rR_ HO570) (by decide)) hk (fun _ h => h.2)) (fun _ h => h.1)); replace HO575 := aM_ (Kd.R_mono (Kd.R_keep (IsS60.apart (show IsS60 w _ gb567 l0 t579 t580 from by repeat (first | (with_reducible first | exact HI567.out | apply IsS60.alloc | apply IsS60.drewN | apply IsS60.drew | apply IsS60.set_1 | apply IsS60.set_2) | exact HI567.out)) (rR_ HO575) (by decide)) hk (fun _ h => h.2)) (fun _ h => h.1)); replace HB := aM_ (hb); replace HI567 := aM_ (hi); (try clear hb); (try clear hk); (try clear hi)))
 refine bodyPost_ret (results_list (rs := [.tmp 2, .tmp 3, .tmp 4, .tmp 5]) rfl (by simp) (.tmp (.tmp (.tmp (.tmp .nil))))) rfl ?_
 exact ⟨_, _, rT_, (rR_ HO570), (rR_ HO575), z15_5_⟩

theorem Fa2.calls (k : Nat) (a0 : ByteArray) (g1_0 : Nat) (A1_0 : Option Addr) (c1_0 : Nat) (l1_0 : List S74) (r : Bool) (w : World) (hr1_0 : Kd.C k74 w A1_0 l1_0.length l1_0) (hc1_0 : l1_0.length ≤ c1_0) (hb1_0 : w.heap[g1_0]? = some (.cells #[.slice A1_0 l1_0.length c1_0] 23 (0, 0))) (h : Fa2.f k a0 l1_0 = some r) :
 Calls Tryz.prog 66 #[.string a0, .pointer (some ⟨g1_0, 0, none⟩)] w fun e w' => e = .returned (.bool r) ∧ Below w.heap.size w w' := by
 have HR1_0 := aM_ hr1_0
 have HC1_0 := aM_ hc1_0
 clear hr1_0 hc1_0
 have BK38 := aM_ hb1_0
 clear hb1_0
 have HB := aM_ (Below.refl w.heap.size w)
 have H : ((FaN.f k l1_0 a0).bind fun t584 => (some (decide (t584 ≥ 0)))) = some r := h
 clear h
 replace H := ob_ H; obtain ⟨t584, A3, H⟩ := H; try dsimp only at H
 obtain rfl := Option.some.inj H
 have hz4 := cf1_ BK38.out
 clear BK38
 go_enter Tryz.func66, Tryz.ntmps66
 go_wp2_with (first | ((with_reducible refine gC_ 39 ?_); refine gM_ (some 6) Tryz.func39 #[.slice A1_0 l1_0.length c1_0, .string a0] ?_; (with_reducible refine (FaN.calls k _ _ l1_0 a0 t584 _ ?_ ?_ A3.out).mono ?_); exact cC_ HR1_0; exact HC1_0.out; rintro e w5 ⟨rfl, hb⟩; refine ⟨_, rfl, ?_⟩; replace HB := bS_ hb; (try clear hb)))
 go_ret
 exact ⟨rT_, hB_⟩

theorem Faz.calls (k : Nat) (a0 : ByteArray) (g1_0 g1_1 : Nat) (A1_0 : Option Addr) (c1_0 : Nat) (l1_0 : List S74) (r : Bool) (w : World) (hr1_0 : Kd.C k74 w A1_0 l1_0.length l1_0) (hc1_0 : l1_0.length ≤ c1_0) (hb1_0 : w.heap[g1_0]? = some (.cells #[.func (.func 66) #[] #[.pointer (some ⟨g1_1, 0, none⟩)]] 69 (0, 0))) (hb1_1 : w.heap[g1_1]? = some (.cells #[.slice A1_0 l1_0.length c1_0] 23 (0, 0))) (h : Faz.f k a0 l1_0 = some r) :
 Calls Tryz.prog 87 #[.string a0, .pointer (some ⟨g1_0, 0, none⟩)] w fun e w' => e = .returned (.bool r) ∧ Below w.heap.size w w' := by
 have HR1_0 := aM_ hr1_0
 have HC1_0 := aM_ hc1_0
 clear hr1_0 hc1_0
 have BK38 := aM_ hb1_0
 clear hb1_0
 have BK39 := aM_ hb1_1
 clear hb1_1
 have HB := aM_ (Below.refl w.heap.size w)
 have H : ((Fa2.f k a0 l1_0).bind fun t585 => (some (!t585))) = some r := h
 clear h
 replace H := ob_ H; obtain ⟨t585, A3, H⟩ := H; try dsimp only at H
 obtain rfl := Option.some.inj H
 have hz5 := cf1_ BK38.out
 clear BK38
 go_enter Tryz.func87, Tryz.ntmps87
 go_wp2_with (first | ((with_reducible refine gate_via (t := 4) rfl ?_); refine goesV_ (some 6) rfl rfl Tryz.func66 (by kernel_rfl) rfl #[.string a0, .pointer (some ⟨g1_1, 0, none⟩)] rfl rfl z15_6_ ?_; (with_reducible refine (Fa2.calls k a0 g1_1 A1_0 c1_0 l1_0 t585 _ ?_ ?_ ?_ A3.out).mono ?_); exact cC_ HR1_0; exact HC1_0.out; exact kR_ BK39; rintro e w6 ⟨rfl, hb⟩; refine ⟨_, rfl, ?_⟩; replace BK39 := kB_ BK39 hb; replace HB := bS_ hb; (try clear hb)))
 go_ret
 exact ⟨rT_, hB_⟩

theorem Fab.calls (k : Nat) (A0 : Option Addr) (c0 : Nat) (l0 : List ByteArray) (g1_0 g1_1 : Nat) (A1_0 : Option Addr) (c1_0 : Nat) (l1_0 : List S74) (r : Int) (w : World) (hr0 : Kd.C Kd.string w A0 l0.length l0) (hc0 : l0.length ≤ c0) (hr1_0 : Kd.C k74 w A1_0 l1_0.length l1_0) (hc1_0 : l1_0.length ≤ c1_0) (hb1_0 : w.heap[g1_0]? = some (.cells #[.func (.func 66) #[] #[.pointer (some ⟨g1_1, 0, none⟩)]] 69 (0, 0))) (hb1_1 : w.heap[g1_1]? = some (.cells #[.slice A1_0 l1_0.length c1_0] 23 (0, 0))) (h : Fab.f k l0 l1_0 = some r) :
 Calls Tryz.prog 101 #[.slice A0 l0.length c0, .func (.func 87) #[] #[.pointer (some ⟨g1_0, 0, none⟩)]] w fun e w' => e = .returned (.int .i64 r) ∧ Below w.heap.size w w' := by
 have HR0 := aM_ hr0
 have HC0 := aM_ hc0
 clear hr0 hc0
 have HR1_0 := aM_ hr1_0
 have HC1_0 := aM_ hc1_0
 clear hr1_0 hc1_0
 have BK38 := aM_ hb1_0
 clear hb1_0
 have BK39 := aM_ hb1_1
 clear hb1_1
 have HB := aM_ (Below.refl w.heap.size w)
 have H : (Fab.l0 k l0 (l0.length : Int) 0 l1_0) = some r := h
 clear h
 have H' := aM_ H
 clear H
 go_enter Tryz.func101, Tryz.ntmps101
 go_wp2
 go_loopg [8] k (fun kq v8 w' => ∃ (x8_1 : Int), v8 = .int .i64 x8_1 ∧ Aside0 (Fab.l0 kq l0 (l0.length : Int) x8_1 l1_0 = some r) ∧ Aside0 (kq ≤ k) ∧ Aside0 (w'.heap[g1_0]? = some (.cells #[(.func (.func 66) #[] #[.pointer (some ⟨g1_1, 0, none⟩)])] 69 (0, 0))) ∧ Aside0 (w'.heap[g1_1]? = some (.cells #[(.slice A1_0 l1_0.length c1_0)] 23 (0, 0))) ∧ Aside0 (Below w.heap.size w w'))
 case atStart => exact ⟨(0), z15_0_, H', ⟨Nat.le_refl _⟩, ⟨kP_⟩, ⟨kP_⟩, ⟨hB_⟩⟩
 case round =>
  clear H'
  obtain ⟨x8_1, rfl, HA, HK1, BK38, BK39, HB⟩ := hrel
  cases gk with
  | zero => exact absurd HA.out (by simp [Fab.l0])
  | succ k1 =>
   have H := HA.out
   clear HA
   simp only [Fab.l0] at H
   replace H := iF_ H; obtain ⟨c3b0, H⟩ | ⟨c3b0, H⟩ := H
   ·obtain rfl := Option.some.inj H
    go_wp2
    go_ret
    exact ⟨rT_, hB_⟩
   replace H := ig_ H; obtain ⟨c4b0, H⟩ := H
   replace H := ig_ H; obtain ⟨c5b0, H⟩ := H
   replace H := ob_ H; obtain ⟨t587, A6, H⟩ := H; try dsimp only at H
   have HC7 := aM_ H
   clear H
   obtain ⟨⟨ad586, e586, hx586_0⟩, p586, q586⟩ := at2_ (Kd.at_string HR0.out x8_1); cases e586
   try replace hx586_0 := hc_ HB hx586_0
   go_upto_if 16 with (first | ((with_reducible refine gate_via (t := 11) rfl ?_); refine goesV_ (some 16) rfl rfl Tryz.func87 (by kernel_rfl) rfl #[.string (rdOf ByteArray.empty l0 x8_1), .pointer (some ⟨g1_0, 0, none⟩)] rfl rfl z15_6_ ?_; (with_reducible refine (Faz.calls k1 (rdOf ByteArray.empty l0 x8_1) g1_0 g1_1 A1_0 c1_0 l1_0 t587 _ ?_ ?_ ?_ ?_ A6.out).mono ?_); exact z15_7_; exact HC1_0.out; exact kR_ BK38; exact kR_ BK39; rintro e w8 ⟨rfl, hb⟩; refine ⟨_, rfl, ?_⟩; replace BK38 := kB_ BK38 hb; replace BK39 := kB_ BK39 hb; replace HB := bS_ hb; (try clear hb)))
   (try simp only [Act.put, List.setIfInBounds_toArray, List.set_cons_zero, List.set_cons_succ])
   have H := HC7.out
   clear HC7
   by_cases c9 : t587 = true
   ·subst c9
    replace H := ip_ H rfl
    obtain rfl := Option.some.inj H
    go_wp2
    go_ret
    exact ⟨rT_, hB_⟩
   replace c9 := Bool.eq_false_iff.mpr c9
   subst c9
   replace H := in_ H (show ¬ (false = true) by decide)
   have H' := aM_ H
   clear H
   go_wp2
   go_roundg k1
   case measure => have := HK1.out; omega
   case rel => exact ⟨(wrap64 (x8_1 + 1)), z15_0_, H', ⟨by have := HK1.out; omega⟩, ⟨kP_⟩, ⟨kP_⟩, ⟨hB_⟩⟩

theorem Fak.calls (k : Nat) (A0 : Option Addr) (c0 : Nat) (l0 : List ByteArray) (g1_0 g1_1 : Nat) (A1_0 : Option Addr) (c1_0 : Nat) (l1_0 : List S74) (r : Bool) (w : World) (hr0 : Kd.C Kd.string w A0 l0.length l0) (hc0 : l0.length ≤ c0) (hr1_0 : Kd.C k74 w A1_0 l1_0.length l1_0) (hc1_0 : l1_0.length ≤ c1_0) (hb1_0 : w.heap[g1_0]? = some (.cells #[.func (.func 66) #[] #[.pointer (some ⟨g1_1, 0, none⟩)]] 69 (0, 0))) (hb1_1 : w.heap[g1_1]? = some (.cells #[.slice A1_0 l1_0.length c1_0] 23 (0, 0))) (h : Fak.f k l0 l1_0 = some r) :
 Calls Tryz.prog 86 #[.slice A0 l0.length c0, .func (.func 87) #[] #[.pointer (some ⟨g1_0, 0, none⟩)]] w fun e w' => e = .returned (.bool r) ∧ Below w.heap.size w w' := by
 have HR0 := aM_ hr0
 have HC0 := aM_ hc0
 clear hr0 hc0
 have HR1_0 := aM_ hr1_0
 have HC1_0 := aM_ hc1_0
 clear hr1_0 hc1_0
 have BK38 := aM_ hb1_0
 clear hb1_0
 have BK39 := aM_ hb1_1
 clear hb1_1
 have HB := aM_ (Below.refl w.heap.size w)
 have H : ((Fab.f k l0 l1_0).bind fun t588 => (some (decide (t588 ≥ 0)))) = some r := h
 clear h
 replace H := ob_ H; obtain ⟨t588, A3, H⟩ := H; try dsimp only at H
 obtain rfl := Option.some.inj H
 go_enter Tryz.func86, Tryz.ntmps86
 go_wp2_with (first | ((with_reducible refine gC_ 101 ?_); refine gM_ (some 7) Tryz.func101 #[.slice A0 l0.length c0, .func (.func 87) #[] #[.pointer (some ⟨g1_0, 0, none⟩)]] ?_; (with_reducible refine (Fab.calls k _ _ l0 g1_0 g1_1 A1_0 c1_0 l1_0 t588 _ ?_ ?_ ?_ ?_ ?_ ?_ A3.out).mono ?_); exact cC_ HR0; exact HC0.out; exact cC_ HR1_0; exact HC1_0.out; exact kR_ BK38; exact kR_ BK39; rintro e w4 ⟨rfl, hb⟩; refine ⟨_, rfl, ?_⟩; replace BK38 := kB_ BK38 hb; replace BK39 := kB_ BK39 hb; replace HB := bS_ hb; (try clear hb)))
 go_ret
 exact ⟨rT_, hB_⟩

theorem FaB.calls (k : Nat) (A0 : Option Addr) (c0 : Nat) (l0 : List ByteArray) (g1_0 : Nat) (A1_0 : Option Addr) (c1_0 : Nat) (l1_0 : List S74) (r : Bool) (w : World) (hr0 : Kd.C Kd.string w A0 l0.length l0) (hc0 : l0.length ≤ c0) (hr1_0 : Kd.C k74 w A1_0 l1_0.length l1_0) (hc1_0 : l1_0.length ≤ c1_0) (hb1_0 : w.heap[g1_0]? = some (.cells #[.slice A1_0 l1_0.length c1_0] 23 (0, 0))) (h : FaB.f k l0 l1_0 = some r) :
 Calls Tryz.prog 65 #[.slice A0 l0.length c0, .func (.func 66) #[] #[.pointer (some ⟨g1_0, 0, none⟩)]] w fun e w' => e = .returned (.bool r) ∧ Below w.heap.size w w' := by
 have hu69 := Tryz.underlying69
 have HR0 := aM_ hr0
 have HC0 := aM_ hc0
 clear hr0 hc0
 have HR1_0 := aM_ hr1_0
 have HC1_0 := aM_ hc1_0
 clear hr1_0 hc1_0
 have BK38 := aM_ hb1_0
 clear hb1_0
 have HB := aM_ (Below.refl w.heap.size w)
 have H : ((Fak.f k l0 l1_0).bind fun t590 => (some (!t590))) = some r := h
 clear h
 replace H := ob_ H; obtain ⟨t590, A3, H⟩ := H; try dsimp only at H
 obtain rfl := Option.some.inj H
 go_enter Tryz.func65, Tryz.ntmps65
 go_wp2_with (first | ((with_reducible refine gD_ 3 ?_); refine bx_ 3 #[.func (.func 66) #[] #[.pointer (some ⟨g1_0, 0, none⟩)]] 69 fun gb589 hg w4 hbox hb => ?_; have BK589 := aM_ (hbox); have GW589 := gW_ w hg; have GE589 := gW_ w hg; have NB38_589 := nB_ g1_0 hg; have NB589_38 := nC_ g1_0 hg; replace BK38 := kB_ BK38 hb; replace HB := bS_ hb; clear hb hbox hg) | ((with_reducible refine gC_ 86 ?_); refine gM_ (some 7) Tryz.func86 #[.slice A0 l0.length c0, .func (.func 87) #[] #[.pointer (some ⟨gb589, 0, none⟩)]] ?_; (with_reducible refine (Fak.calls k _ _ l0 gb589 g1_0 A1_0 c1_0 l1_0 t590 _ ?_ ?_ ?_ ?_ ?_ ?_ A3.out).mono ?_); exact z15_8_; exact HC0.out; exact z15_7_; exact HC1_0.out; exact kR_ BK589; exact kR_ BK38; rintro e w5 ⟨rfl, hb⟩; refine ⟨_, rfl, ?_⟩; replace BK38 := kB_ BK38 hb; replace BK589 := kB_ BK589 hb; replace HB := bS_ hb; (try clear hb)))
 go_ret
 exact ⟨rT_, hB_⟩

theorem FaL.calls (k : Nat) (A0 : Option Addr) (c0 : Nat) (l0 : List S74) (A1 : Option Addr) (c1 : Nat) (l1 : List ByteArray) (r : Bool) (w : World) (hr0 : Kd.C k74 w A0 l0.length l0) (hc0 : l0.length ≤ c0) (hr1 : Kd.C Kd.string w A1 l1.length l1) (hc1 : l1.length ≤ c1) (h : FaL.f k l0 l1 = some r) :
 Calls Tryz.prog 38 #[.slice A0 l0.length c0, .slice A1 l1.length c1] w fun e w' => e = .returned (.bool r) ∧ Below w.heap.size w w' := by
 have hu23 := Tryz.underlying23
 have HR0 := aM_ hr0
 have HC0 := aM_ hc0
 clear hr0 hc0
 have HR1 := aM_ hr1
 have HC1 := aM_ hc1
 clear hr1 hc1
 have HB := aM_ (Below.refl w.heap.size w)
 have H : ((Fan.f k l0).bind fun t592 => (if t592 = true then ((FaB.f k l1 l0).bind fun t593 => (some t593)) else (some false))) = some r := h
 clear h
 replace H := ob_ H; obtain ⟨t592, A3, H⟩ := H; try dsimp only at H
 by_cases c4 : t592 = true
 rotate_left
 ·replace c4 := Bool.eq_false_iff.mpr c4
  subst c4
  replace H := in_ H (show ¬ (false = true) by decide)
  obtain rfl := Option.some.inj H
  go_enter Tryz.func38, Tryz.ntmps38
  go_wp2_with (first | ((with_reducible refine gD_ 2 ?_); refine bx_ 2 #[.slice A0 l0.length c0] 23 fun gb591 hg w10 hbox hb => ?_; have BK591 := aM_ (hbox); have GW591 := gW_ w hg; have GE591 := gW_ w hg; replace HB := bS_ hb; clear hb hbox hg; have hz11 := cf1_ BK591.out; clear BK591) | ((with_reducible refine gC_ 28 ?_); refine gM_ (some 6) Tryz.func28 #[.slice A0 l0.length c0] ?_; (with_reducible refine (Fan.calls k _ _ l0 false _ ?_ ?_ A3.out).mono ?_); exact z15_8_; exact HC0.out; rintro e w12 ⟨rfl, hb⟩; refine ⟨_, rfl, ?_⟩; replace HB := bS_ hb; (try clear hb)))
  go_ret
  exact ⟨rT_, hB_⟩
 subst c4
 replace H := ip_ H rfl
 replace H := ob_ H; obtain ⟨t593, A5, H⟩ := H; try dsimp only at H
 obtain rfl := Option.some.inj H
 go_enter Tryz.func38, Tryz.ntmps38
 go_wp2_with (first | ((with_reducible refine gD_ 2 ?_); refine bx_ 2 #[.slice A0 l0.length c0] 23 fun gb591 hg w6 hbox hb => ?_; have BK591 := aM_ (hbox); have GW591 := gW_ w hg; have GE591 := gW_ w hg; replace HB := bS_ hb; clear hb hbox hg; have hz7 := cf1_ BK591.out) | ((with_reducible refine gC_ 28 ?_); refine gM_ (some 6) Tryz.func28 #[.slice A0 l0.length c0] ?_; (with_reducible refine (Fan.calls k _ _ l0 true _ ?_ ?_ A3.out).mono ?_); exact z15_8_; exact HC0.out; rintro e w8 ⟨rfl, hb⟩; refine ⟨_, rfl, ?_⟩; replace BK591 := kB_ BK591 hb; replace HB := bS_ hb; (try clear hb)) | (go_at_call 65; (with_reducible refine (FaB.calls k _ _ l1 gb591 A0 c0 l0 t593 _ ?_ ?_ ?_ ?_ ?_ A5.out).mono ?_); exact (by repeat (first | exact (Kd.C_below HR1.out HB.out) | (with_reducible first | apply cA_ | apply cN_ | apply cD_))); exact HC1.out; exact z15_8_; exact HC0.out; exact kR_ BK591; rintro e w9 ⟨rfl, hb⟩; replace BK591 := kB_ BK591 hb; replace HB := bS_ hb; (try clear hb)))
 go_ret
 exact ⟨rT_, hB_⟩

def Fa5.T1 : Bool × List (List Nat × List Nat) := (true, [([], []), ([0], [0]), ([], []), ([1, 2], [1, 2]), ([], []), ([4], [4]), ([], []), ([5, 6, 3], [5, 6]), ([3, 7], [3, 7]), ([8, 7, 0, 1, 2, 3, 4, 5, 6, 7, 8], [8])])
def Fa5.B1 : List Nat := [0, 1, 0, 7, 0, 16, 0, 127, 255, 511]
theorem Fa5.tab1 : rtab .any (opsOf Tryz.f40 1) = Fa5.T1 := by kernel_rfl
theorem Fa5.bits1 : waitsOk Fa5.T1.2 Fa5.B1 = true := by kernel_rfl
theorem Fa5.calls (a0_0 : ByteArray) (a0_1 a0_2 : Int) (g1_0 : Nat) (a1_0 : Int) (g2_0 : Nat) (a2_0 r : Int) (w : World) (hb1_0 : w.heap[g1_0]? = some (.cells #[.int .i64 a1_0] 3 (0, 0))) (hb2_0 : w.heap[g2_0]? = some (.cells #[.int .i64 a2_0] 3 (0, 0))) (h : Fa5.f a0_0 a0_1 a0_2 a1_0 a2_0 = some r) :
 Calls Tryz.prog 40 #[.agg #[.string a0_0, .int .i64 a0_1, .int .i64 a0_2], .pointer (some ⟨g1_0, 0, none⟩), .pointer (some ⟨g2_0, 0, none⟩)] w fun e w' => e = .returned (.int .i64 r) ∧ Below w.heap.size w w' := by
 have hu40 := Tryz.underlying40
 have BK38 := aM_ hb1_0
 clear hb1_0
 have BK46 := aM_ hb2_0
 clear hb2_0
 have HB := aM_ (Below.refl w.heap.size w)
 have H : ((Fbj.f a0_1 a1_0).bind fun t595 => ((Fbj.f a0_2 a2_0).bind fun t596 => (some (wrap64 (t595 + t596))))) = some r := h
 clear h
 replace H := ob_ H; obtain ⟨t595, A4, H⟩ := H; try dsimp only at H
 replace H := ob_ H; obtain ⟨t596, A5, H⟩ := H; try dsimp only at H
 obtain rfl := Option.some.inj H
 go_enter Tryz.func40, Tryz.ntmps40
 try go_wp2_with (first | ((with_reducible refine gD_ 3 ?_); refine bx_ 3 #[.string a0_0, .int .i64 a0_1, .int .i64 a0_2] 40 fun gb594 hg w6 hbox hb => ?_; have BK594 := aM_ (hbox); have GW594 := gW_ w hg; have GE594 := gW_ w hg; have NB38_594 := nB_ g1_0 hg; have NB594_38 := nC_ g1_0 hg; have NB46_594 := nB_ g2_0 hg; have NB594_46 := nC_ g2_0 hg; replace BK38 := kB_ BK38 hb; replace BK46 := kB_ BK46 hb; replace HB := bS_ hb; clear hb hbox hg))
 replace BK38 := aM_ (blk_drew BK38.out)
 replace BK46 := aM_ (blk_drew BK46.out)
 replace BK594 := aM_ (blk_drew BK594.out)
 replace HB := aM_ (below_drew1 HB.out)
 refine st_ 10 (fun w' => w'.cell? ⟨gb594, 0, none⟩ = some (.string a0_0) ∧ w'.cell? ⟨gb594, 1, none⟩ = some (.int .i64 a0_1) ∧ w'.cell? ⟨gb594, 2, none⟩ = some (.int .i64 a0_2) ∧ w'.cell? ⟨g1_0, 0, none⟩ = some (.int .i64 a1_0) ∧ w'.cell? ⟨g2_0, 0, none⟩ = some (.int .i64 a2_0)) [] Fa5.tab1 Fa5.bits1 ⟨(blk_cell BK594.out 0).trans rfl, (blk_cell BK594.out 1).trans rfl, (blk_cell BK594.out 2).trans rfl, (blk_cell BK38.out 0).trans rfl, (blk_cell BK46.out 0).trans rfl⟩ fun hHeld HT_ HW_ => ?_
 generalize w6.drew = w7 at BK38 BK46 BK594 HB hHeld ⊢
 refine pu_ 0 5 ?_
 refine pu_ 4 9 ?_
 refine tk_ 1 6 ?_
 refine tk_ 2 7 ?_
 refine tk_ 5 10 ?_
 refine tk_ 6 11 ?_
 refine on_ 3 8 fun K hK => ?_
 refine gS_ Tryz.func41 #[.int .i64 a0_1, .int .i64 a1_0] ?_
 with_reducible refine (Fbj.calls a0_1 a1_0 t595 _ A4.out).mono ?_
 rintro e w8 ⟨rfl, hb⟩
 refine ⟨_, rfl, ?_⟩
 replace BK38 := kB_ BK38 hb
 replace BK46 := kB_ BK46 hb
 replace BK594 := kB_ BK594 hb
 replace HB := bS_ hb
 (try clear hb)
 (try clear hb2)
 (try clear hk)
 (try clear hi)
 refine hK.out _ _ ⟨(blk_cell BK594.out 0).trans rfl, (blk_cell BK594.out 1).trans rfl, (blk_cell BK594.out 2).trans rfl, (blk_cell BK38.out 0).trans rfl, (blk_cell BK46.out 0).trans rfl⟩ (fun hHeld => ?_)
 clear hK K
 refine nm_ 8 ?_
 refine on_ 7 12 fun K hK => ?_
 refine gS_ Tryz.func41 #[.int .i64 a0_2, .int .i64 a2_0] ?_
 with_reducible refine (Fbj.calls a0_2 a2_0 t596 _ A5.out).mono ?_
 rintro e w9 ⟨rfl, hb⟩
 refine ⟨_, rfl, ?_⟩
 replace BK38 := kB_ BK38 hb
 replace BK46 := kB_ BK46 hb
 replace BK594 := kB_ BK594 hb
 replace HB := bS_ hb
 (try clear hb)
 (try clear hb2)
 (try clear hk)
 (try clear hi)
 refine hK.out _ _ ⟨(blk_cell BK594.out 0).trans rfl, (blk_cell BK594.out 1).trans rfl, (blk_cell BK594.out 2).trans rfl, (blk_cell BK38.out 0).trans rfl, (blk_cell BK46.out 0).trans rfl⟩ (fun hHeld => ?_)
 clear hK K
 refine nm_ 12 ?_
 refine pu_ 8 13 ?_
 refine pu_ 9 4 ?_
 refine dn_ ?_
 try go_wp2
 go_ret
 exact ⟨rT_, hB_⟩

end Go.Proofs.YtbfkpgmdbafmhaaGreat.PFnVerbRuns
