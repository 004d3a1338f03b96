/- Printed for this claim: functions of the program as Lean functions, and that the calls answer so. -/
import Derived.Test.YtbfkpgmdbafmhaaGreatPFnVerbRunsx0
import Derived.Test.YtbfkpgmdbafmhaaGreatPFnVerbRunsx2
import Derived.Test.YtbfkpgmdbafmhaaGreatPFnVerbRunsx3
import Derived.Test.YtbfkpgmdbafmhaaGreatPFnVerbRunsx6
import Derived.Test.YtbfkpgmdbafmhaaGreatPFnVerbRunsx7
import Derived.Test.YtbfkpgmdbafmhaaGreatPFnVerbRunsx8
import Derived.Test.YtbfkpgmdbafmhaaGreatPFnVerbRunsx10
import Derived.Test.YtbfkpgmdbafmhaaGreatPFnVerbRunsx11
import Derived.Test.YtbfkpgmdbafmhaaGreatPFnVerbRunsx12
import Derived.Test.YtbfkpgmdbafmhaaGreatPFnVerbRunsx15
import Derived.Test.YtbfkpgmdbafmhaaGreatPFnVerbRunsx19
import Derived.Test.YtbfkpgmdbafmhaaGreatPFnVerbRunsxD0
import Derived.Test.YtbfkpgmdbafmhaaGreatPFnVerbRunsxD1
namespace Go.Proofs.YtbfkpgmdbafmhaaGreat.PFnVerbRuns
open Go.RowKit Go.Proofs.YtbfkpgmdbafmhaaGreatW.PrintWords Go.Proofs.YtbfkpgmdbafmhaaGreatW.PrintLast Go.Proofs.YtbfkpgmdbafmhaaGreatW.PrintMore
theorem z20_0_ {p : Prop} (h : p := by repeat (first | (with_reducible first | exact HI680.out | apply IsS60.alloc | apply IsS60.drewN | apply IsS60.drew | apply IsS60.set_1 | apply IsS60.set_2 | refine IsS60.far ?_ (Aside0.out (by assumption)) _) | exact HI680.out)) : p := h
theorem z20_1_ {p : Prop} (h : p := by repeat (first | (with_reducible first | exact HB.out | apply lA_ | apply lN_ | apply lD_ | refine below_set ?_ (IsS60.ge HI680.out) | refine below_set ?_ GE679.out) | exact HB.out)) : p := h
theorem z20_2_ {p : Prop} (h : p := by assumption) : p := h
theorem z20_3_ {p : Prop} (h : p := by repeat (first | (with_reducible first | exact HB.out | apply lA_ | apply lN_ | apply lD_ | refine below_set ?_ (IsS60.ge HI680.out) | refine below_set ?_ GE679.out | refine below_set ?_ GE691.out) | exact HB.out)) : p := h
theorem z20_4_ {p : Prop} (h : p := by first | rfl | (simp; done) | (simp [*]; done)) : p := h
theorem z20_5_ {p : Prop} (h : p := by (with_reducible repeat (first | apply kN_ | apply kD_ | apply kA_)); refine blk_put (cs := #[.string t686, .int .i64 t687, .int .i64 0]) ?_ 2 _ rfl; (with_reducible repeat (first | apply kN_ | apply kD_ | apply kA_)); refine blk_put (cs := #[.string t686, .int .i64 0, .int .i64 0]) ?_ 1 _ rfl; (with_reducible repeat (first | apply kN_ | apply kD_ | apply kA_)); refine blk_put (cs := #[.string (⟨#[]⟩ : ByteArray), .int .i64 0, .int .i64 0]) ?_ 0 _ rfl; (with_reducible repeat (first | apply kN_ | apply kD_ | apply kA_)); exact BK679.out) : p := h
theorem z20_6_ {p : Prop} (h : p := by repeat (first | exact (Kd.C_below HR0.out HB.out) | (with_reducible first | apply cA_ | apply cN_ | apply cD_))) : p := h
theorem z20_7_ {p : Prop} (h : p := by repeat (first | exact Drawn0.refl _ | apply Drawn0.step)) : p := h
set_option maxHeartbeats 8000000
set_option maxRecDepth 100000
attribute [local go_sem] max2_int min2_int max_two min_two max_three min_three max_four min_four isSome_setCell   -- for this text's walks alone
set_option linter.unusedVariables false
set_option linter.unusedSimpArgs false

def Fam.T6 : Bool × List (List Nat × List Nat) := (true, [([], []), ([], []), ([], []), ([], []), ([0, 0], [0]), ([1, 4, 0, 1, 4], [1]), ([2, 5, 0, 1, 2, 4, 5], [2]), ([3, 6, 0, 1, 2, 3, 4, 5, 6], [3])])
def Fam.B6 : List Nat := [0, 0, 0, 0, 1, 19, 55, 127]
theorem Fam.tab6 : rtab .any (opsOf Tryz.f16 6) = Fam.T6 := by kernel_rfl
theorem Fam.bits6 : waitsOk Fam.T6.2 Fam.B6 = true := by kernel_rfl
def Fam.T7 : Bool × List (List Nat × List Nat) := (true, [([], []), ([], []), ([], []), ([], []), ([2, 3], [2, 3]), ([], []), ([], []), ([5, 6, 4], [5, 6]), ([0, 7, 0], [0]), ([1, 8, 0, 1, 8], [1]), ([4, 9, 0, 1, 2, 3, 4, 8, 9], [4]), ([7, 10, 0, 1, 2, 3, 4, 5, 6, 7, 8, 9, 10], [7])])
def Fam.B7 : List Nat := [0, 0, 0, 0, 12, 0, 0, 124, 253, 511, 1023, 2047]
theorem Fam.tab7 : rtab .any (opsOf Tryz.f16 7) = Fam.T7 := by kernel_rfl
theorem Fam.bits7 : waitsOk Fam.T7.2 Fam.B7 = true := by kernel_rfl
theorem Fam.calls (k : Nat) (A0 : Option Addr) (c0 : Nat) (l0 : List Int) (r1 : List S74) (r2 : ByteArray) (r3 r4 : Int) (r5 r6 : ByteArray) (w : World) (hr0 : Kd.C (Kd.int .u8) w A0 l0.length l0) (hc0 : l0.length ≤ c0) (h : Fam.f k l0 = some (r1, r2, r3, r4, r5, r6)) :
 Calls Tryz.prog 16 #[.slice A0 l0.length c0] w fun e w' => ∃ v0_ : Value, e = .returned (.tuple #[v0_, .agg #[.string r2, .int .i64 r3, .int .i64 r4], .string r5, .string r6]) ∧ Kd.R k74 74 w' w.heap.size (fun _ => True) v0_ r1 ∧ Below w.heap.size w w' := by
 have hu40 := Tryz.underlying40
 have hu60 := Tryz.underlying60
 have HR0 := aM_ hr0
 have HC0 := aM_ hc0
 clear hr0 hc0
 have HB := aM_ (Below.refl w.heap.size w)
 have H : ((Fah.f k l0 0 0).bind fun bt681 => ((Fag.f k l0 bt681.2.1 bt681.2.2 bt681.1).bind fun bt686 => ((FaT.f k bt681.1 bt686.1 bt686.2.1 bt686.2.2.1).bind fun bt692 => (if bt692.2.2 = true then ((Fbb.f l0 bt686.2.2.2.1 bt686.2.2.2.2 2).bind fun bt695 => (Fam.j0 k bt681.1 bt692.1 bt692.2.1 bt695.1 l0 bt695.2.1 bt695.2.2 bt686.1 bt686.2.1 bt686.2.2.1)) else (Fam.j0 k bt681.1 bt692.1 bt692.2.1 false l0 bt686.2.2.2.1 bt686.2.2.2.2 bt686.1 bt686.2.1 bt686.2.2.1))))) = some (r1, r2, r3, r4, r5, r6) := h
 clear h
 replace H := ob_ H; obtain ⟨⟨t681, t684, t685⟩, A2, H⟩ := H; try dsimp only at H
 replace H := ob_ H; obtain ⟨⟨t686, t687, t688, t689, t690⟩, A3, H⟩ := H; try dsimp only at H
 replace H := ob_ H; obtain ⟨⟨t692, t693, t694⟩, A4, H⟩ := H; try dsimp only at H
 have HC5 := aM_ H
 clear H
 go_enter Tryz.func16, Tryz.ntmps16
 go_upto_region 5 with (first | ((with_reducible refine gD_ 3 ?_); refine bx_ 3 #[.string (⟨#[]⟩ : ByteArray), .int .i64 0, .int .i64 0] 40 fun gb679 hg w6 hbox hb => ?_; have BK679 := aM_ (hbox); have GW679 := gW_ w hg; have GE679 := gW_ w hg; replace HB := bS_ hb; clear hb hbox hg) | ((with_reducible refine gD_ 14 ?_); refine bx_ 14 #[.slice A0 l0.length c0, .int .i64 0, .int .u64 0] 60 fun gb680 hg w7 hbox hb => ?_; have NB679_680 := aM_ (nR_ BK679 hg); have NB680_679 := aM_ (mR_ BK679 hg); have HI680 := aM_ ((show IsS60 w w7 gb680 l0 0 0 from ⟨A0, c0, hbox, (by rw [hg]; exact (below_size hB_) : w.heap.size ≤ gb680), HR0.out⟩)); replace BK679 := kB_ BK679 hb; replace HB := bS_ hb; clear hb hbox hg) | ((with_reducible refine gC_ 26 ?_); refine gM_ (some 16) Tryz.func26 #[.pointer (some ⟨gb680, 0, none⟩)] ?_; (with_reducible refine (Fah.calls k gb680 l0 0 0 t681 t684 t685 w _ ?_ ?_ A2.out).mono ?_); exact z20_0_; exact z20_1_; rintro e w8 ⟨v682, rfl, ho0, hi, hb, hk⟩; refine ⟨_, rfl, ?_⟩; have HO683 := aM_ (Kd.R_lower ho0 (below_size z20_1_)); replace BK679 := aM_ (KeepBut.blk hk (g' := gb679) (o := .cells #[.string (⟨#[]⟩ : ByteArray), .int .i64 0, .int .i64 0] 40 (0, 0)) (kR_ BK679) NB679_680.out (by simp)); replace HB := aM_ (hb); replace HI680 := aM_ (hi); (try clear hb); (try clear hk); (try clear hi); (try clear ho0); obtain ⟨Ao9, co9, eo9⟩ := rS_ HO683; subst eo9) | ((with_reducible refine gC_ 43 ?_); refine gM_ (some 19) Tryz.func43 #[.pointer (some ⟨gb680, 0, none⟩), .slice Ao9 t681.length co9] ?_; (with_reducible refine (Fag.calls k gb680 l0 t684 t685 _ _ t681 t686 t687 t688 t689 t690 w _ ?_ ?_ ?_ ?_ A3.out).mono ?_); exact z20_0_; exact z20_1_; exact Kd.C_foot_own (IsS60.apart (show IsS60 w _ gb680 l0 t684 t685 from by repeat (first | (with_reducible first | exact HI680.out | apply IsS60.alloc | apply IsS60.drewN | apply IsS60.drew | apply IsS60.set_1 | apply IsS60.set_2 | refine IsS60.far ?_ (Aside0.out z20_2_) _) | exact HI680.out)) (rR_ HO683) (by decide)) (fun _ h_ => h_.2); exact (Kd.R_reads' HO683.out).2.1; rintro e w10 ⟨rfl, hi, hb, hk⟩; refine ⟨_, rfl, ?_⟩; replace BK679 := aM_ (KeepBut.blk hk (g' := gb679) (o := .cells #[.string (⟨#[]⟩ : ByteArray), .int .i64 0, .int .i64 0] 40 (0, 0)) (kR_ BK679) NB679_680.out (by simp)); replace HO683 := aM_ (Kd.R_mono (Kd.R_keep (IsS60.apart (show IsS60 w _ gb680 l0 t684 t685 from by repeat (first | (with_reducible first | exact HI680.out | apply IsS60.alloc | apply IsS60.drewN | apply IsS60.drew | apply IsS60.set_1 | apply IsS60.set_2 | refine IsS60.far ?_ (Aside0.out z20_2_) _) | exact HI680.out)) (rR_ HO683) (by decide)) hk (fun _ h => h.2)) (fun _ h => h.1)); replace HB := aM_ (hb); replace HI680 := aM_ (hi); (try clear hb); (try clear hk); (try clear hi)) | ((with_reducible refine gD_ 8 ?_); refine bx_ 8 #[.string (⟨#[]⟩ : ByteArray), .int .i64 0, .int .i64 0] 40 fun gb691 hg w11 hbox hb => ?_; have BK691 := aM_ (hbox); have GW691 := aM_ ((by rw [hg]; exact (below_size z20_1_) : w.heap.size ≤ gb691)); have GE691 := aM_ ((by rw [hg]; exact (below_size z20_1_) : w.heap.size ≤ gb691)); have NB679_691 := aM_ (nR_ BK679 hg); have NB691_679 := aM_ (mR_ BK679 hg); have NB680_691 := aM_ ((by rw [hg]; exact Nat.ne_of_lt (IsS60.lt (show IsS60 w _ gb680 l0 t689 t690 from by repeat (first | (with_reducible first | exact HI680.out | apply IsS60.alloc | apply IsS60.drewN | apply IsS60.drew | apply IsS60.set_1 | apply IsS60.set_2 | refine IsS60.far ?_ (Aside0.out z20_2_) _) | exact HI680.out))) : gb680 ≠ gb691)); have NB691_680 := aM_ ((by rw [hg]; exact Nat.ne_of_gt (IsS60.lt (show IsS60 w _ gb680 l0 t689 t690 from by repeat (first | (with_reducible first | exact HI680.out | apply IsS60.alloc | apply IsS60.drewN | apply IsS60.drew | apply IsS60.set_1 | apply IsS60.set_2 | refine IsS60.far ?_ (Aside0.out z20_2_) _) | exact HI680.out))) : gb691 ≠ gb680)); replace HO683 := rB_ HO683 hb; replace BK679 := kB_ BK679 hb; replace HB := aM_ (below_step z20_1_ hb); replace HI680 := aM_ (IsS60.below z20_0_ hb); clear hb hbox hg; have hnb12 := NB691_679.out; have hnc12 := NB679_691.out; have hnb13 := NB691_680.out; have hnc13 := NB680_691.out; have hz14 := cf3_ BK691.out) | ((with_reducible refine gC_ 23 ?_); refine gM_ (some 23) Tryz.func23 #[.slice Ao9 t681.length co9, .agg #[.string t686, .int .i64 t687, .int .i64 t688]] ?_; (with_reducible refine (FaT.calls k _ _ t681 t686 t687 t688 t692 t693 t694 _ ?side1 ?_ A4.out).mono ?_); (case side1 => refine (Kd.R_reads' (e := 74) (base := w.heap.size) (ok := fun k_ => True) (n := t681.length) (c := co9) ?_).2.2; exact (by (with_reducible repeat (first | apply rA_ | apply rN_ | apply rD_)); exact (Kd.R_mono (Kd.R_far (p := ⟨gb691, 2, none⟩) (Kd.R_far (p := ⟨gb691, 1, none⟩) (Kd.R_far (p := ⟨gb691, 0, none⟩) (Kd.R_types HO683.out BK691.out (by decide)) (fun _ hk => hk.2) (.string t686)) (fun _ hk => hk.2) (.int .i64 t687)) (fun _ hk => hk.2) (.int .i64 t688)) (fun _ h_ => h_.1)))); exact (Kd.R_reads' HO683.out).2.1; rintro e w15 ⟨rfl, hb⟩; refine ⟨_, rfl, ?_⟩; replace HO683 := aM_ (Kd.R_below (by (with_reducible repeat (first | apply rA_ | apply rN_ | apply rD_)); exact (Kd.R_mono (Kd.R_far (p := ⟨gb691, 2, none⟩) (Kd.R_far (p := ⟨gb691, 1, none⟩) (Kd.R_far (p := ⟨gb691, 0, none⟩) (Kd.R_types HO683.out BK691.out (by decide)) (fun _ hk => hk.2) (.string t686)) (fun _ hk => hk.2) (.int .i64 t687)) (fun _ hk => hk.2) (.int .i64 t688)) (fun _ h_ => h_.1))) hb); replace BK679 := kB_ BK679 hb; replace BK691 := aM_ (blk_below (g := gb691) (o := .cells #[.string t686, .int .i64 t687, .int .i64 t688] 40 (0, 0)) (by (with_reducible repeat (first | apply kN_ | apply kD_ | apply kA_)); refine blk_put (cs := #[.string t686, .int .i64 t687, .int .i64 0]) ?_ 2 _ rfl; (with_reducible repeat (first | apply kN_ | apply kD_ | apply kA_)); refine blk_put (cs := #[.string t686, .int .i64 0, .int .i64 0]) ?_ 1 _ rfl; (with_reducible repeat (first | apply kN_ | apply kD_ | apply kA_)); refine blk_put (cs := #[.string (⟨#[]⟩ : ByteArray), .int .i64 0, .int .i64 0]) ?_ 0 _ rfl; (with_reducible repeat (first | apply kN_ | apply kD_ | apply kA_)); exact BK691.out) hb); replace HB := aM_ (below_step z20_3_ hb); replace HI680 := aM_ (IsS60.below (show IsS60 w (((w11.setCell ⟨gb691, 0, none⟩ (.string t686)).setCell ⟨gb691, 1, none⟩ (.int .i64 t687)).setCell ⟨gb691, 2, none⟩ (.int .i64 t688)) gb680 l0 t689 t690 from by repeat (first | (with_reducible first | exact HI680.out | apply IsS60.alloc | apply IsS60.drewN | apply IsS60.drew | apply IsS60.set_1 | apply IsS60.set_2 | refine IsS60.far ?_ (Aside0.out z20_2_) _) | exact HI680.out)) hb); (try clear hb); (try clear hk); (try clear hi)))
 (try simp only [Act.put, List.setIfInBounds_toArray, List.set_cons_zero, List.set_cons_succ])
 go_cut [31] (fun v31 wc => ∃ (kq : Nat) (x31_4 : Bool) (x681001_4 x681002_4 : Int), v31 = .bool x31_4 ∧ Aside0 (Fam.j0 kq t681 t692 t693 x31_4 l0 x681001_4 x681002_4 t686 t687 t688 = some (r1, r2, r3, r4, r5, r6)) ∧ Aside0 (kq ≤ k) ∧ Aside0 (Kd.R k74 74 wc w.heap.size (fun _ => True) (.slice Ao9 t681.length co9) t681) ∧ Aside0 (wc.heap[gb679]? = some (.cells #[.string (⟨#[]⟩ : ByteArray), .int .i64 0, .int .i64 0] 40 (0, 0))) ∧ Aside0 (wc.heap[gb691]? = some (.cells #[.string t686, .int .i64 t687, .int .i64 t688] 40 (0, 0))) ∧ Aside0 (IsS60 w wc gb680 l0 x681001_4 x681002_4) ∧ Aside0 (Below w.heap.size w wc))
 case first =>
  have H := HC5.out
  clear HC5
  by_cases c16 : t694 = true
  rotate_left
  ·replace c16 := Bool.eq_false_iff.mpr c16
   subst c16
   replace H := in_ H (show ¬ (false = true) by decide)
   have H' := aM_ H
   clear H
   go_wp2
   go_meet
   case rel => exact ⟨_, (false), (t689), (t690), z20_4_, H', ⟨oR_⟩, ⟨(rR_ HO683)⟩, ⟨kP_⟩, ⟨kP_⟩, ⟨z20_0_⟩, ⟨z20_3_⟩⟩
  subst c16
  replace H := ip_ H rfl
  replace H := ob_ H; obtain ⟨⟨t695, t696, t697⟩, A17, H⟩ := H; try dsimp only at H
  have H' := aM_ H
  clear H
  go_wp2_with (first | (go_at_call 50; (with_reducible refine (Fbb.calls gb680 l0 t689 t690 2 t695 t696 t697 w _ ?_ ?_ A17.out).mono ?_); exact z20_0_; exact z20_3_; rintro e w18 ⟨rfl, hi, hb, hk⟩; replace BK679 := aM_ (KeepBut.blk hk (g' := gb679) (o := .cells #[.string (⟨#[]⟩ : ByteArray), .int .i64 0, .int .i64 0] 40 (0, 0)) (kR_ BK679) NB679_680.out (by simp)); replace HO683 := aM_ (Kd.R_mono (Kd.R_keep (IsS60.apart (show IsS60 w _ gb680 l0 t689 t690 from by repeat (first | (with_reducible first | exact HI680.out | apply IsS60.alloc | apply IsS60.drewN | apply IsS60.drew | apply IsS60.set_1 | apply IsS60.set_2 | refine IsS60.far ?_ (Aside0.out z20_2_) _) | exact HI680.out)) (rR_ HO683) (by decide)) hk (fun _ h => h.2)) (fun _ h => h.1)); replace BK691 := aM_ (KeepBut.blk hk (g' := gb691) (o := .cells #[.string t686, .int .i64 t687, .int .i64 t688] 40 (0, 0)) (kR_ BK691) NB691_680.out (by simp)); replace HB := aM_ (hb); replace HI680 := aM_ (hi); (try clear hb); (try clear hk); (try clear hi)))
  go_meet
  case rel => exact ⟨_, (t695), (t696), (t697), z20_4_, H', ⟨oR_⟩, ⟨(rR_ HO683)⟩, ⟨kP_⟩, ⟨kP_⟩, ⟨z20_0_⟩, ⟨z20_3_⟩⟩
 case rest =>
  clear HC5
  (try clear hcz14_0);(try clear hcz14_1);(try clear hcz14_2);(try clear hfz14_0);(try clear hfz14_1);(try clear hfz14_2)
  obtain ⟨kq, x31_4, x681001_4, x681002_4, rfl, HA, HJ4, HO_7, BK679, BK691, HI680, HB⟩ := hcut
  cases kq with
  | zero => exact absurd HA.out (by simp [Fam.j0])
  | succ kj4 =>
   have H := HA.out
   clear HA
   simp only [Fam.j0] at H
   by_cases c19 : x31_4 = true
   ·subst c19
    replace H := ip_ H rfl
    simp only [Option.some.injEq, Prod.mk.injEq] at H
    obtain ⟨rfl, rfl, rfl, rfl, rfl, rfl⟩ := H
    try go_wp2
    replace HO_7 := aM_ (Kd.R_drew HO_7.out)
    replace BK679 := aM_ (blk_drew BK679.out)
    replace BK691 := aM_ (blk_drew BK691.out)
    replace HI680 := aM_ (IsS60.drew HI680.out)
    replace HB := aM_ (below_drew1 HB.out)
    refine st_ 8 (fun w' => w'.cell? ⟨gb691, 0, none⟩ = some (.string t686) ∧ w'.cell? ⟨gb691, 1, none⟩ = some (.int .i64 t687) ∧ w'.cell? ⟨gb691, 2, none⟩ = some (.int .i64 t688)) [] Fam.tab6 Fam.bits6 (cg3_ BK691) fun hHeld HT_ HW_ => ?_
    generalize wc.drew = w20 at HO_7 BK679 BK691 HI680 HB hHeld ⊢
    refine pu_ 0 32 ?_
    refine pu_ 2 34 ?_
    refine pu_ 3 35 ?_
    refine pu_ 4 2 ?_
    refine tk_ 1 33 ?_
    refine one_ (i := 5) (N := none) (bz_ 8 0x3f) rfl rfl (one_of HT_.out (by kernel_rfl)) (by decide) (fun K hK => ?_)
    have hs21 : w20.cell? ⟨gb679, 0, none⟩ = some (.string (⟨#[]⟩ : ByteArray)) := (blk_cell BK679.out 0).trans rfl
    have hfs21 := blk_frozen BK679.out 0
    have hns21_1 := NB691_679.out
    have hms21_1 := NB679_691.out
    have hs22 : w20.cell? ⟨gb679, 1, none⟩ = some (.int .i64 0) := (blk_cell BK679.out 1).trans rfl
    have hfs22 := blk_frozen BK679.out 1
    have hns22_1 := NB691_679.out
    have hms22_1 := NB679_691.out
    have hs23 : w20.cell? ⟨gb679, 2, none⟩ = some (.int .i64 0) := (blk_cell BK679.out 2).trans rfl
    have hfs23 := blk_frozen BK679.out 2
    have hns23_1 := NB691_679.out
    have hms23_1 := NB679_691.out
    refine skip_ (w1 := ?_) (by rfl) rfl ?_ ?_
    rotate_left
    ·go_simp
     rfl
    refine hK.out _ _ ⟨((cell_far (p := ⟨gb679, _, none⟩) NB691_679.out _).trans (((cell_far (p := ⟨gb679, _, none⟩) NB691_679.out _).trans (((cell_far (p := ⟨gb679, _, none⟩) NB691_679.out _).trans (hHeld.1)))))), ((cell_far (p := ⟨gb679, _, none⟩) NB691_679.out _).trans (((cell_far (p := ⟨gb679, _, none⟩) NB691_679.out _).trans (((cell_far (p := ⟨gb679, _, none⟩) NB691_679.out _).trans (hHeld.2.1)))))), ((cell_far (p := ⟨gb679, _, none⟩) NB691_679.out _).trans (((cell_far (p := ⟨gb679, _, none⟩) NB691_679.out _).trans (((cell_far (p := ⟨gb679, _, none⟩) NB691_679.out _).trans (hHeld.2.2))))))⟩ (fun hHeld => ?_)
    clear hK K
    refine pu_ 6 4 ?_
    refine pu_ 7 5 ?_
    refine dn_ ?_
    try go_wp2
    refine bodyPost_ret (results_list (rs := [.tmp 2, .cell 3 40, .tmp 4, .tmp 5]) rfl (by simp) (.tmp (.cell gb679 40 #[.string t686, .int .i64 t687, .int .i64 t688] (0, 0) _ rfl z20_5_ Tryz.underlying40 rfl (by kernel_rfl) (.tmp (.tmp .nil))))) rfl ?_
    exact ⟨_, rT_, by (with_reducible repeat (first | apply rA_ | apply rN_ | apply rD_)); exact Kd.R_mono (Kd.R_far (p := ⟨gb679, 2, none⟩) (Kd.R_far (p := ⟨gb679, 1, none⟩) (Kd.R_far (p := ⟨gb679, 0, none⟩) (Kd.R_types HO_7.out BK679.out (by decide)) (fun _ hk => hk.2) (.string t686)) (fun _ hk => hk.2) (.int .i64 t687)) (fun _ hk => hk.2) (.int .i64 t688)) (fun _ hk => trivial), z20_3_⟩
   replace c19 := Bool.eq_false_iff.mpr c19
   subst c19
   replace H := in_ H (show ¬ (false = true) by decide)
   replace H := ob_ H; obtain ⟨⟨t698, t699, t700⟩, A24, H⟩ := H; try dsimp only at H
   replace H := ob_ H; obtain ⟨⟨t701, t702, t703⟩, A25, H⟩ := H; try dsimp only at H
   simp only [Option.some.injEq, Prod.mk.injEq] at H
   obtain ⟨rfl, rfl, rfl, rfl, rfl, rfl⟩ := H
   try go_wp2
   replace HO_7 := aM_ (Kd.R_drew HO_7.out)
   replace BK679 := aM_ (blk_drew BK679.out)
   replace BK691 := aM_ (blk_drew BK691.out)
   replace HI680 := aM_ (IsS60.drew HI680.out)
   replace HB := aM_ (below_drew1 HB.out)
   refine st_ 12 (fun w' => w'.cell? ⟨gb691, 0, none⟩ = some (.string t686) ∧ w'.cell? ⟨gb691, 1, none⟩ = some (.int .i64 t687) ∧ w'.cell? ⟨gb691, 2, none⟩ = some (.int .i64 t688)) [] Fam.tab7 Fam.bits7 (cg3_ BK691) fun hHeld HT_ HW_ => ?_
   generalize wc.drew = w26 at HO_7 BK679 BK691 HI680 HB hHeld ⊢
   refine pu_ 0 36 ?_
   refine pu_ 2 38 ?_
   refine pu_ 3 39 ?_
   refine pu_ 5 41 ?_
   refine pu_ 6 42 ?_
   refine tk_ 1 37 ?_
   refine on_ 4 40 fun K hK => ?_
   refine gS_ Tryz.func37 #[.pointer (some ⟨gb680, 0, none⟩), .slice Ao9 t681.length co9] ?_
   with_reducible refine (Fap.calls kj4 gb680 l0 x681001_4 x681002_4 _ _ t681 t698 t699 t700 w _ ?side1 ?side2 ?side3 ?side4 A24.out).mono ?_
   (case side1 => repeat (first | (with_reducible first | exact HI680.out | apply IsS60.alloc | apply IsS60.drewN | apply IsS60.drew | apply IsS60.set_1 | apply IsS60.set_2 | refine IsS60.far ?_ (Aside0.out z20_2_) _) | exact HI680.out))
   (case side2 => repeat (first | (with_reducible first | exact HB.out | apply lA_ | apply lN_ | apply lD_ | refine below_set ?_ (IsS60.ge HI680.out) | refine below_set ?_ GE679.out | refine below_set ?_ GE691.out) | exact HB.out))
   (case side3 => exact Kd.C_foot_own (IsS60.apart (show IsS60 w _ gb680 l0 x681001_4 x681002_4 from by repeat (first | (with_reducible first | exact HI680.out | apply IsS60.alloc | apply IsS60.drewN | apply IsS60.drew | apply IsS60.set_1 | apply IsS60.set_2 | refine IsS60.far ?_ (Aside0.out z20_2_) _) | exact HI680.out)) (rR_ HO_7) (by decide)) (fun _ h_ => h_.2))
   (case side4 => exact (Kd.R_reads' HO_7.out).2.1)
   rintro e w27 ⟨rfl, hi, hb, hk⟩
   refine ⟨_, rfl, ?_⟩
   replace HO_7 := aM_ (Kd.R_mono (Kd.R_keep (IsS60.apart (show IsS60 w _ gb680 l0 x681001_4 x681002_4 from by repeat (first | (with_reducible first | exact HI680.out | apply IsS60.alloc | apply IsS60.drewN | apply IsS60.drew | apply IsS60.set_1 | apply IsS60.set_2 | refine IsS60.far ?_ (Aside0.out z20_2_) _) | exact HI680.out)) (rR_ HO_7) (by decide)) hk (fun _ h => h.2)) (fun _ h => h.1))
   replace BK679 := aM_ (KeepBut.blk hk (g' := gb679) (o := .cells #[.string (⟨#[]⟩ : ByteArray), .int .i64 0, .int .i64 0] 40 (0, 0)) (kR_ BK679) NB679_680.out (by simp))
   replace BK691 := aM_ (KeepBut.blk hk (g' := gb691) (o := .cells #[.string t686, .int .i64 t687, .int .i64 t688] 40 (0, 0)) (kR_ BK691) NB691_680.out (by simp))
   replace HB := aM_ (hb)
   replace HI680 := aM_ (hi)
   (try clear hb)
   (try clear hb2)
   (try clear hk)
   (try clear hi)
   refine hK.out _ _ (cg3_ BK691) (fun hHeld => ?_)
   clear hK K
   refine nm_ 40 ?_
   refine on_ 7 43 fun K hK => ?_
   refine gS_ Tryz.func37 #[.pointer (some ⟨gb680, 0, none⟩), .slice Ao9 t681.length co9] ?_
   with_reducible refine (Fap.calls kj4 gb680 l0 t699 t700 _ _ t681 t701 t702 t703 w _ ?side1 ?side2 ?side3 ?side4 A25.out).mono ?_
   (case side1 => repeat (first | (with_reducible first | exact HI680.out | apply IsS60.alloc | apply IsS60.drewN | apply IsS60.drew | apply IsS60.set_1 | apply IsS60.set_2 | refine IsS60.far ?_ (Aside0.out z20_2_) _) | exact HI680.out))
   (case side2 => repeat (first | (with_reducible first | exact HB.out | apply lA_ | apply lN_ | apply lD_ | refine below_set ?_ (IsS60.ge HI680.out) | refine below_set ?_ GE679.out | refine below_set ?_ GE691.out) | exact HB.out))
   (case side3 => exact Kd.C_foot_own (IsS60.apart (show IsS60 w _ gb680 l0 t699 t700 from by repeat (first | (with_reducible first | exact HI680.out | apply IsS60.alloc | apply IsS60.drewN | apply IsS60.drew | apply IsS60.set_1 | apply IsS60.set_2 | refine IsS60.far ?_ (Aside0.out z20_2_) _) | exact HI680.out)) (rR_ HO_7) (by decide)) (fun _ h_ => h_.2))
   (case side4 => exact (Kd.R_reads' HO_7.out).2.1)
   rintro e w28 ⟨rfl, hi, hb, hk⟩
   refine ⟨_, rfl, ?_⟩
   replace HO_7 := aM_ (Kd.R_mono (Kd.R_keep (IsS60.apart (show IsS60 w _ gb680 l0 t699 t700 from by repeat (first | (with_reducible first | exact HI680.out | apply IsS60.alloc | apply IsS60.drewN | apply IsS60.drew | apply IsS60.set_1 | apply IsS60.set_2 | refine IsS60.far ?_ (Aside0.out z20_2_) _) | exact HI680.out)) (rR_ HO_7) (by decide)) hk (fun _ h => h.2)) (fun _ h => h.1))
   replace BK679 := aM_ (KeepBut.blk hk (g' := gb679) (o := .cells #[.string (⟨#[]⟩ : ByteArray), .int .i64 0, .int .i64 0] 40 (0, 0)) (kR_ BK679) NB679_680.out (by simp))
   replace BK691 := aM_ (KeepBut.blk hk (g' := gb691) (o := .cells #[.string t686, .int .i64 t687, .int .i64 t688] 40 (0, 0)) (kR_ BK691) NB691_680.out (by simp))
   replace HB := aM_ (hb)
   replace HI680 := aM_ (hi)
   (try clear hb)
   (try clear hb2)
   (try clear hk)
   (try clear hi)
   refine hK.out _ _ (cg3_ BK691) (fun hHeld => ?_)
   clear hK K
   refine nm_ 43 ?_
   refine pu_ 8 2 ?_
   refine one_ (i := 9) (N := none) (bz_ 12 0x3ff) rfl rfl (one_of HT_.out (by kernel_rfl)) (by decide) (fun K hK => ?_)
   have hs29 : w28.cell? ⟨gb679, 0, none⟩ = some (.string (⟨#[]⟩ : ByteArray)) := (blk_cell BK679.out 0).trans rfl
   have hfs29 := blk_frozen BK679.out 0
   have hns29_1 := NB691_679.out
   have hms29_1 := NB679_691.out
   have hs30 : w28.cell? ⟨gb679, 1, none⟩ = some (.int .i64 0) := (blk_cell BK679.out 1).trans rfl
   have hfs30 := blk_frozen BK679.out 1
   have hns30_1 := NB691_679.out
   have hms30_1 := NB679_691.out
   have hs31 : w28.cell? ⟨gb679, 2, none⟩ = some (.int .i64 0) := (blk_cell BK679.out 2).trans rfl
   have hfs31 := blk_frozen BK679.out 2
   have hns31_1 := NB691_679.out
   have hms31_1 := NB679_691.out
   refine skip_ (w1 := ?_) (by rfl) rfl ?_ ?_
   rotate_left
   ·go_simp
    rfl
   refine hK.out _ _ ⟨((cell_far (p := ⟨gb679, _, none⟩) NB691_679.out _).trans (((cell_far (p := ⟨gb679, _, none⟩) NB691_679.out _).trans (((cell_far (p := ⟨gb679, _, none⟩) NB691_679.out _).trans (hHeld.1)))))), ((cell_far (p := ⟨gb679, _, none⟩) NB691_679.out _).trans (((cell_far (p := ⟨gb679, _, none⟩) NB691_679.out _).trans (((cell_far (p := ⟨gb679, _, none⟩) NB691_679.out _).trans (hHeld.2.1)))))), ((cell_far (p := ⟨gb679, _, none⟩) NB691_679.out _).trans (((cell_far (p := ⟨gb679, _, none⟩) NB691_679.out _).trans (((cell_far (p := ⟨gb679, _, none⟩) NB691_679.out _).trans (hHeld.2.2))))))⟩ (fun hHeld => ?_)
   clear hK K
   refine pu_ 10 4 ?_
   refine pu_ 11 5 ?_
   refine dn_ ?_
   try go_wp2
   refine bodyPost_ret (results_list (rs := [.tmp 2, .cell 3 40, .tmp 4, .tmp 5]) rfl (by simp) (.tmp (.cell gb679 40 #[.string t686, .int .i64 t687, .int .i64 t688] (0, 0) _ rfl z20_5_ Tryz.underlying40 rfl (by kernel_rfl) (.tmp (.tmp .nil))))) rfl ?_
   exact ⟨_, rT_, by (with_reducible repeat (first | apply rA_ | apply rN_ | apply rD_)); exact Kd.R_mono (Kd.R_far (p := ⟨gb679, 2, none⟩) (Kd.R_far (p := ⟨gb679, 1, none⟩) (Kd.R_far (p := ⟨gb679, 0, none⟩) (Kd.R_types HO_7.out BK679.out (by decide)) (fun _ hk => hk.2) (.string t686)) (fun _ hk => hk.2) (.int .i64 t687)) (fun _ hk => hk.2) (.int .i64 t688)) (fun _ hk => trivial), z20_3_⟩

theorem Fa8.calls (k : Nat) (A0 : Option Addr) (c0 : Nat) (l0 : List S74) (a1_0 : ByteArray) (a1_1 a1_2 : Int) (a2 a3 : ByteArray) (r1 r2 : Bool) (w : World) (hr0 : Kd.C k74 w A0 l0.length l0) (hc0 : l0.length ≤ c0) (h : Fa8.f k l0 a1_0 a1_1 a1_2 a2 a3 = some (r1, r2)) :
 Calls Tryz.prog 17 #[.slice A0 l0.length c0, .agg #[.string a1_0, .int .i64 a1_1, .int .i64 a1_2], .string a2, .string a3] w fun e w' => e = .returned (.tuple #[.bool r1, .bool r2]) ∧ Below w.heap.size w w' := by
 have hu40 := Tryz.underlying40
 have HR0 := aM_ hr0
 have HC0 := aM_ hc0
 clear hr0 hc0
 have HB := aM_ (Below.refl w.heap.size w)
 have H : ((FaL.f k l0 (([a2, a3] : List ByteArray))).bind fun t708 => (if t708 = true then ((FaW.f k a1_0 a1_1 a1_2).bind fun t709 => (if t709 = true then ((Fax.f k a1_0 a1_1 a1_2 l0).bind fun bt710 => (if bt710.1.toList = a2.toList then (some ((bt710.2.toList == a3.toList), true)) else (some (false, true)))) else (some (false, false)))) else (some (false, false)))) = some (r1, r2) := h
 clear h
 obtain ⟨y705, hy705⟩ : ∃ y_ : List ByteArray, y_ = (([a2, a3] : List ByteArray)) := ⟨_, rfl⟩
 rw [← hy705] at H
 have Ny705 := aM_ hy705; clear hy705
 replace H := ob_ H; obtain ⟨t708, A5, H⟩ := H; try dsimp only at H
 by_cases c6 : t708 = true
 rotate_left
 ·replace c6 := Bool.eq_false_iff.mpr c6
  subst c6
  replace H := in_ H (show ¬ (false = true) by decide)
  simp only [Option.some.injEq, Prod.mk.injEq] at H
  obtain ⟨rfl, rfl⟩ := H
  go_enter Tryz.func17, Tryz.ntmps17
  go_wp2_with (first | ((with_reducible refine gD_ 5 ?_); refine bx_ 5 #[.string a1_0, .int .i64 a1_1, .int .i64 a1_2] 40 fun gb704 hg w23 hbox hb => ?_; have BK704 := aM_ (hbox); have GW704 := gW_ w hg; have GE704 := gW_ w hg; replace HB := bS_ hb; clear hb hbox hg; clear BK704) | ((with_reducible refine gD_ 15 ?_); refine rl_ Kd.string 9 15 ([a2, a3] : List ByteArray) [.string a2, .string a3] (Reps.one (show Kd.M Kd.string _ _ _ a2 [.string a2] from rfl) (Reps.one (show Kd.M Kd.string _ _ _ a3 [.string a3] from rfl) (Reps.none _ _))) ?_; intro v706 w24 ho25 hb hg_ hnew_; clear hg_ hnew_; (first | rw [← Ny705.out] at ho25 | (simp only [Int.reduceToNat] at ho25; rw [← Ny705.out] at ho25)); have HO707 := aM_ (Kd.R_lower ho25 (below_size hB_)); replace HB := bS_ hb; clear hb ho25; obtain ⟨Ao26, co26, eo26⟩ := rS_ HO707; subst eo26) | ((with_reducible refine gC_ 38 ?_); refine gM_ (some 16) Tryz.func38 #[.slice A0 l0.length c0, .slice Ao26 y705.length co26] ?_; (with_reducible refine (FaL.calls k _ _ l0 _ _ y705 false _ ?_ ?_ ?_ ?_ A5.out).mono ?_); exact z20_6_; exact HC0.out; exact cR_ HO707; exact (Kd.R_reads' HO707.out).2.1; rintro e w27 ⟨rfl, hb⟩; refine ⟨_, rfl, ?_⟩; replace HO707 := rB_ HO707 hb; replace HB := bS_ hb; (try clear hb); (try clear hk)))
  go_ret2
  exact ⟨rT_, hB_⟩
 subst c6
 replace H := ip_ H rfl
 replace H := ob_ H; obtain ⟨t709, A7, H⟩ := H; try dsimp only at H
 have HC8 := aM_ H
 clear H
 go_enter Tryz.func17, Tryz.ntmps17
 go_upto_if 22 with (first | ((with_reducible refine gD_ 5 ?_); refine bx_ 5 #[.string a1_0, .int .i64 a1_1, .int .i64 a1_2] 40 fun gb704 hg w9 hbox hb => ?_; have BK704 := aM_ (hbox); have GW704 := gW_ w hg; have GE704 := gW_ w hg; replace HB := bS_ hb; clear hb hbox hg) | ((with_reducible refine gD_ 15 ?_); refine rl_ Kd.string 9 15 ([a2, a3] : List ByteArray) [.string a2, .string a3] (Reps.one (show Kd.M Kd.string _ _ _ a2 [.string a2] from rfl) (Reps.one (show Kd.M Kd.string _ _ _ a3 [.string a3] from rfl) (Reps.none _ _))) ?_; intro v706 w10 ho11 hb hg_ hnew_; clear hg_ hnew_; (first | rw [← Ny705.out] at ho11 | (simp only [Int.reduceToNat] at ho11; rw [← Ny705.out] at ho11)); have HO707 := aM_ (Kd.R_lower ho11 (below_size hB_)); replace BK704 := kB_ BK704 hb; replace HB := bS_ hb; clear hb ho11; obtain ⟨Ao12, co12, eo12⟩ := rS_ HO707; subst eo12) | ((with_reducible refine gC_ 38 ?_); refine gM_ (some 16) Tryz.func38 #[.slice A0 l0.length c0, .slice Ao12 y705.length co12] ?_; (with_reducible refine (FaL.calls k _ _ l0 _ _ y705 true _ ?_ ?_ ?_ ?_ A5.out).mono ?_); exact z20_6_; exact HC0.out; exact cR_ HO707; exact (Kd.R_reads' HO707.out).2.1; rintro e w13 ⟨rfl, hb⟩; refine ⟨_, rfl, ?_⟩; replace HO707 := rB_ HO707 hb; replace BK704 := kB_ BK704 hb; replace HB := bS_ hb; (try clear hb); (try clear hk); have hz14 := cf3_ BK704.out) | (go_at_call 44; (with_reducible refine (FaW.calls k a1_0 a1_1 a1_2 t709 _ A7.out).mono ?_); rintro e w15 ⟨rfl, hb⟩; replace HO707 := rB_ HO707 hb; replace BK704 := kB_ BK704 hb; replace HB := bS_ hb; (try clear hb); (try clear hk)))
 (try simp only [Act.put, List.setIfInBounds_toArray, List.set_cons_zero, List.set_cons_succ])
 have H := HC8.out
 clear HC8
 by_cases c16 : t709 = true
 rotate_left
 ·replace c16 := Bool.eq_false_iff.mpr c16
  subst c16
  replace H := in_ H (show ¬ (false = true) by decide)
  simp only [Option.some.injEq, Prod.mk.injEq] at H
  obtain ⟨rfl, rfl⟩ := H
  go_wp2
  go_ret2
  exact ⟨rT_, hB_⟩
 subst c16
 replace H := ip_ H rfl
 replace H := ob_ H; obtain ⟨⟨t710, t711⟩, A17, H⟩ := H; try dsimp only at H
 by_cases c18 : t710.toList = a2.toList
 rotate_left
 ·rw [if_neg c18] at H
  have c18b0 : (t710.toList == a2.toList) = false := beq_eq_false_iff_ne.mpr c18
  have c18b1 : (t710.toList != a2.toList) = true := bne_iff_ne.mpr c18
  (first | rw [c18b0] | (simp only [i64_w, i32_w]; rw [c18b0]) | skip)
  simp only [Option.some.injEq, Prod.mk.injEq] at H
  obtain ⟨rfl, rfl⟩ := H
  have hz21 := cf3_ BK704.out
  clear BK704
  go_wp2_with (first | ((with_reducible refine gC_ 30 ?_); refine gM_ (some 26) Tryz.func30 #[.agg #[.string a1_0, .int .i64 a1_1, .int .i64 a1_2], .slice A0 l0.length c0] ?_; (with_reducible refine (Fax.calls k a1_0 a1_1 a1_2 _ _ l0 t710 t711 _ ?_ ?_ A17.out).mono ?_); exact z20_6_; exact HC0.out; rintro e w22 ⟨rfl, hb⟩; refine ⟨_, rfl, ?_⟩; replace HO707 := rB_ HO707 hb; replace HB := bS_ hb; (try clear hb)))
  go_ret2
  exact ⟨rT_, hB_⟩
 rw [if_pos c18] at H
 have c18b0 : (t710.toList == a2.toList) = true := beq_iff_eq.mpr c18
 have c18b1 : (t710.toList != a2.toList) = false := bne_eq_false_iff_eq.mpr c18
 clear c18
 (first | rw [c18b0] | (simp only [i64_w, i32_w]; rw [c18b0]) | skip)
 simp only [Option.some.injEq, Prod.mk.injEq] at H
 obtain ⟨rfl, rfl⟩ := H
 have hz19 := cf3_ BK704.out
 clear BK704
 go_wp2_with (first | ((with_reducible refine gC_ 30 ?_); refine gM_ (some 26) Tryz.func30 #[.agg #[.string a1_0, .int .i64 a1_1, .int .i64 a1_2], .slice A0 l0.length c0] ?_; (with_reducible refine (Fax.calls k a1_0 a1_1 a1_2 _ _ l0 t710 t711 _ ?_ ?_ A17.out).mono ?_); exact z20_6_; exact HC0.out; rintro e w20 ⟨rfl, hb⟩; refine ⟨_, rfl, ?_⟩; replace HO707 := rB_ HO707 hb; replace HB := bS_ hb; (try clear hb)))
 go_ret2
 exact ⟨rT_, hB_⟩

theorem Fa9.calls (k : Nat) (A0 : Option Addr) (c0 : Nat) (l0 : List S74) (a1_0 : ByteArray) (a1_1 a1_2 : Int) (a2 a3 : ByteArray) (r1 r2 : Bool) (w : World) (hr0 : Kd.C k74 w A0 l0.length l0) (hc0 : l0.length ≤ c0) (h : Fa9.f k l0 a1_0 a1_1 a1_2 a2 a3 = some (r1, r2)) :
 Calls Tryz.prog 18 #[.slice A0 l0.length c0, .agg #[.string a1_0, .int .i64 a1_1, .int .i64 a1_2], .string a2, .string a3] w fun e w' => e = .returned (.tuple #[.bool r1, .bool r2]) ∧ Below w.heap.size w w' := by
 have hu40 := Tryz.underlying40
 have HR0 := aM_ hr0
 have HC0 := aM_ hc0
 clear hr0 hc0
 have HB := aM_ (Below.refl w.heap.size w)
 have H : ((Faj.f k l0).bind fun t713 => (if t713 = true then ((FaQ.f k a1_0 a1_1 a1_2).bind fun t714 => (if t714 = true then ((Fau.f k l0 a2).bind fun t715 => (if t715 < 0 then (some (false, false)) else ((Fau.f k l0 a3).bind fun t716 => (if t716 < 0 then (some (false, false)) else ((FaV.f k l0 a1_0 a1_1 a1_2).bind fun bt717 => (if bt717.2.2 = true then (if bt717.1.toList = a2.toList then (some ((bt717.2.1.toList == a3.toList), true)) else (some (false, true))) else (some (false, true)))))))) else (some (false, false)))) else (some (false, false)))) = some (r1, r2) := h
 clear h
 replace H := ob_ H; obtain ⟨t713, A5, H⟩ := H; try dsimp only at H
 by_cases c6 : t713 = true
 rotate_left
 ·replace c6 := Bool.eq_false_iff.mpr c6
  subst c6
  replace H := in_ H (show ¬ (false = true) by decide)
  simp only [Option.some.injEq, Prod.mk.injEq] at H
  obtain ⟨rfl, rfl⟩ := H
  go_enter Tryz.func18, Tryz.ntmps18
  go_wp2_with (first | ((with_reducible refine gD_ 5 ?_); refine bx_ 5 #[.string a1_0, .int .i64 a1_1, .int .i64 a1_2] 40 fun gb712 hg w38 hbox hb => ?_; have BK712 := aM_ (hbox); have GW712 := gW_ w hg; have GE712 := gW_ w hg; replace HB := bS_ hb; clear hb hbox hg; clear BK712) | ((with_reducible refine gC_ 47 ?_); refine gM_ (some 14) Tryz.func47 #[.slice A0 l0.length c0] ?_; (with_reducible refine (Faj.calls k _ _ l0 false _ ?_ ?_ A5.out).mono ?_); exact z20_6_; exact HC0.out; rintro e w39 ⟨rfl, hb⟩; refine ⟨_, rfl, ?_⟩; replace HB := bS_ hb; (try clear hb)))
  go_ret2
  exact ⟨rT_, hB_⟩
 subst c6
 replace H := ip_ H rfl
 replace H := ob_ H; obtain ⟨t714, A7, H⟩ := H; try dsimp only at H
 by_cases c8 : t714 = true
 rotate_left
 ·replace c8 := Bool.eq_false_iff.mpr c8
  subst c8
  replace H := in_ H (show ¬ (false = true) by decide)
  simp only [Option.some.injEq, Prod.mk.injEq] at H
  obtain ⟨rfl, rfl⟩ := H
  go_enter Tryz.func18, Tryz.ntmps18
  go_wp2_with (first | ((with_reducible refine gD_ 5 ?_); refine bx_ 5 #[.string a1_0, .int .i64 a1_1, .int .i64 a1_2] 40 fun gb712 hg w34 hbox hb => ?_; have BK712 := aM_ (hbox); have GW712 := gW_ w hg; have GE712 := gW_ w hg; replace HB := bS_ hb; clear hb hbox hg) | ((with_reducible refine gC_ 47 ?_); refine gM_ (some 14) Tryz.func47 #[.slice A0 l0.length c0] ?_; (with_reducible refine (Faj.calls k _ _ l0 true _ ?_ ?_ A5.out).mono ?_); exact z20_6_; exact HC0.out; rintro e w35 ⟨rfl, hb⟩; refine ⟨_, rfl, ?_⟩; replace BK712 := kB_ BK712 hb; replace HB := bS_ hb; (try clear hb); have hz36 := cf3_ BK712.out; clear BK712) | (go_at_call 48; (with_reducible refine (FaQ.calls k a1_0 a1_1 a1_2 false _ A7.out).mono ?_); rintro e w37 ⟨rfl, hb⟩; replace HB := bS_ hb; (try clear hb)))
  go_ret2
  exact ⟨rT_, hB_⟩
 subst c8
 replace H := ip_ H rfl
 replace H := ob_ H; obtain ⟨t715, A9, H⟩ := H; try dsimp only at H
 replace H := iT_ H; obtain ⟨c10b0, H⟩ | ⟨c10b0, H⟩ := H
 ·simp only [Option.some.injEq, Prod.mk.injEq] at H
  obtain ⟨rfl, rfl⟩ := H
  go_enter Tryz.func18, Tryz.ntmps18
  go_wp2_with (first | ((with_reducible refine gD_ 5 ?_); refine bx_ 5 #[.string a1_0, .int .i64 a1_1, .int .i64 a1_2] 40 fun gb712 hg w11 hbox hb => ?_; have BK712 := aM_ (hbox); have GW712 := gW_ w hg; have GE712 := gW_ w hg; replace HB := bS_ hb; clear hb hbox hg) | ((with_reducible refine gC_ 47 ?_); refine gM_ (some 14) Tryz.func47 #[.slice A0 l0.length c0] ?_; (with_reducible refine (Faj.calls k _ _ l0 true _ ?_ ?_ A5.out).mono ?_); exact z20_6_; exact HC0.out; rintro e w12 ⟨rfl, hb⟩; refine ⟨_, rfl, ?_⟩; replace BK712 := kB_ BK712 hb; replace HB := bS_ hb; (try clear hb); have hz13 := cf3_ BK712.out; clear BK712) | (go_at_call 48; (with_reducible refine (FaQ.calls k a1_0 a1_1 a1_2 true _ A7.out).mono ?_); rintro e w14 ⟨rfl, hb⟩; replace HB := bS_ hb; (try clear hb)) | (go_at_call 46; (with_reducible refine (Fau.calls k _ _ l0 a2 t715 _ ?_ ?_ A9.out).mono ?_); exact z20_6_; exact HC0.out; rintro e w15 ⟨rfl, hb⟩; replace HB := bS_ hb; (try clear hb)))
  go_ret2
  exact ⟨rT_, hB_⟩
 replace H := ob_ H; obtain ⟨t716, A16, H⟩ := H; try dsimp only at H
 have HC17 := aM_ H
 clear H
 go_enter Tryz.func18, Tryz.ntmps18
 go_upto_if 32 with (first | ((with_reducible refine gD_ 5 ?_); refine bx_ 5 #[.string a1_0, .int .i64 a1_1, .int .i64 a1_2] 40 fun gb712 hg w18 hbox hb => ?_; have BK712 := aM_ (hbox); have GW712 := gW_ w hg; have GE712 := gW_ w hg; replace HB := bS_ hb; clear hb hbox hg) | ((with_reducible refine gC_ 47 ?_); refine gM_ (some 14) Tryz.func47 #[.slice A0 l0.length c0] ?_; (with_reducible refine (Faj.calls k _ _ l0 true _ ?_ ?_ A5.out).mono ?_); exact z20_6_; exact HC0.out; rintro e w19 ⟨rfl, hb⟩; refine ⟨_, rfl, ?_⟩; replace BK712 := kB_ BK712 hb; replace HB := bS_ hb; (try clear hb); have hz20 := cf3_ BK712.out) | (go_at_call 48; (with_reducible refine (FaQ.calls k a1_0 a1_1 a1_2 true _ A7.out).mono ?_); rintro e w21 ⟨rfl, hb⟩; replace BK712 := kB_ BK712 hb; replace HB := bS_ hb; (try clear hb)) | (go_at_call 46; (with_reducible refine (Fau.calls k _ _ l0 a2 t715 _ ?_ ?_ A9.out).mono ?_); exact z20_6_; exact HC0.out; rintro e w22 ⟨rfl, hb⟩; replace BK712 := kB_ BK712 hb; replace HB := bS_ hb; (try clear hb)) | (go_at_call 46; (with_reducible refine (Fau.calls k _ _ l0 a3 t716 _ ?_ ?_ A16.out).mono ?_); exact z20_6_; exact HC0.out; rintro e w23 ⟨rfl, hb⟩; replace BK712 := kB_ BK712 hb; replace HB := bS_ hb; (try clear hb)))
 (try simp only [Act.put, List.setIfInBounds_toArray, List.set_cons_zero, List.set_cons_succ])
 have H := HC17.out
 clear HC17
 replace H := iT_ H; obtain ⟨c24b0, H⟩ | ⟨c24b0, H⟩ := H
 ·(first | rw [c24b0] | (simp only [i64_w, i32_w]; rw [c24b0]) | skip)
  simp only [Option.some.injEq, Prod.mk.injEq] at H
  obtain ⟨rfl, rfl⟩ := H
  go_wp2
  go_ret2
  exact ⟨rT_, hB_⟩
 (first | rw [c24b0] | (simp only [i64_w, i32_w]; rw [c24b0]) | skip)
 replace H := ob_ H; obtain ⟨⟨t717, t718, t719⟩, A25, H⟩ := H; try dsimp only at H
 by_cases c26 : t719 = true
 rotate_left
 ·replace c26 := Bool.eq_false_iff.mpr c26
  subst c26
  replace H := in_ H (show ¬ (false = true) by decide)
  simp only [Option.some.injEq, Prod.mk.injEq] at H
  obtain ⟨rfl, rfl⟩ := H
  have hz32 := cf3_ BK712.out
  clear BK712
  go_wp2_with (first | ((with_reducible refine gC_ 32 ?_); refine gM_ (some 36) Tryz.func32 #[.slice A0 l0.length c0, .agg #[.string a1_0, .int .i64 a1_1, .int .i64 a1_2]] ?_; (with_reducible refine (FaV.calls k _ _ l0 a1_0 a1_1 a1_2 t717 t718 false _ ?_ ?_ A25.out).mono ?_); exact z20_6_; exact HC0.out; rintro e w33 ⟨rfl, hb⟩; refine ⟨_, rfl, ?_⟩; replace HB := bS_ hb; (try clear hb)))
  go_ret2
  exact ⟨rT_, hB_⟩
 subst c26
 replace H := ip_ H rfl
 by_cases c27 : t717.toList = a2.toList
 rotate_left
 ·rw [if_neg c27] at H
  have c27b0 : (t717.toList == a2.toList) = false := beq_eq_false_iff_ne.mpr c27
  have c27b1 : (t717.toList != a2.toList) = true := bne_iff_ne.mpr c27
  simp only [Option.some.injEq, Prod.mk.injEq] at H
  obtain ⟨rfl, rfl⟩ := H
  have hz30 := cf3_ BK712.out
  clear BK712
  go_wp2_with (first | ((with_reducible refine gC_ 32 ?_); refine gM_ (some 36) Tryz.func32 #[.slice A0 l0.length c0, .agg #[.string a1_0, .int .i64 a1_1, .int .i64 a1_2]] ?_; (with_reducible refine (FaV.calls k _ _ l0 a1_0 a1_1 a1_2 t717 t718 true _ ?_ ?_ A25.out).mono ?_); exact z20_6_; exact HC0.out; rintro e w31 ⟨rfl, hb⟩; refine ⟨_, rfl, ?_⟩; replace HB := bS_ hb; (try clear hb)))
  go_ret2
  exact ⟨rT_, hB_⟩
 rw [if_pos c27] at H
 have c27b0 : (t717.toList == a2.toList) = true := beq_iff_eq.mpr c27
 have c27b1 : (t717.toList != a2.toList) = false := bne_eq_false_iff_eq.mpr c27
 clear c27
 simp only [Option.some.injEq, Prod.mk.injEq] at H
 obtain ⟨rfl, rfl⟩ := H
 have hz28 := cf3_ BK712.out
 clear BK712
 go_wp2_with (first | ((with_reducible refine gC_ 32 ?_); refine gM_ (some 36) Tryz.func32 #[.slice A0 l0.length c0, .agg #[.string a1_0, .int .i64 a1_1, .int .i64 a1_2]] ?_; (with_reducible refine (FaV.calls k _ _ l0 a1_0 a1_1 a1_2 t717 t718 true _ ?_ ?_ A25.out).mono ?_); exact z20_6_; exact HC0.out; rintro e w29 ⟨rfl, hb⟩; refine ⟨_, rfl, ?_⟩; replace HB := bS_ hb; (try clear hb)))
 go_ret2
 exact ⟨rT_, hB_⟩

theorem Fat.calls (k : Nat) (A0 : Option Addr) (c0 : Nat) (l0 : List ByteArray) (A1 : Option Addr) (c1 : Nat) (l1 : List ByteArray) (r : Bool) (w : World) (hr0 : Kd.C Kd.string w A0 l0.length l0) (hc0 : l0.length ≤ c0) (hr1 : Kd.C Kd.string w A1 l1.length l1) (hc1 : l1.length ≤ c1) (h : Fat.f k l0 l1 = some r) :
 Calls Tryz.prog 19 #[.slice A0 l0.length c0, .slice A1 l1.length c1] w fun e w' => e = .returned (.bool r) ∧ Drawn0 w w' := by
 have HR0 := aM_ hr0
 have HC0 := aM_ hc0
 clear hr0 hc0
 have HR1 := aM_ hr1
 have HC1 := aM_ hc1
 clear hr1 hc1
 have H : (if (l0.length : Int) = (l1.length : Int) then (Fat.l0 k l0 l1 (l0.length : Int) 0) else (some false)) = some r := h
 clear h
 by_cases c3 : (l0.length : Int) = (l1.length : Int)
 rotate_left
 ·rw [if_neg c3] at H
  have c3b0 : ((l0.length : Int) == (l1.length : Int)) = false := beq_eq_false_iff_ne.mpr c3
  have c3b1 : ((l0.length : Int) != (l1.length : Int)) = true := bne_iff_ne.mpr c3
  have c3b2 : (l0.length == l1.length) = false := by first | simpa using c3 | (simp at c3 ⊢; omega)
  obtain rfl := Option.some.inj H
  go_enter Tryz.func19, Tryz.ntmps19
  go_wp2
  repeat (go_quiet (fail); try go_wp2)
  go_ret
  exact ⟨z20_4_, z20_7_⟩
 rw [if_pos c3] at H
 have c3b0 : ((l0.length : Int) == (l1.length : Int)) = true := beq_iff_eq.mpr c3
 have c3b1 : ((l0.length : Int) != (l1.length : Int)) = false := bne_eq_false_iff_eq.mpr c3
 have c3b2 : (l0.length == l1.length) = true := by first | simpa using c3 | (simp at c3 ⊢; omega)
 clear c3
 have H' := aM_ H
 clear H
 go_enter Tryz.func19, Tryz.ntmps19
 go_wp2
 repeat (go_quiet (fail); try go_wp2)
 go_loopg [13] k (fun kq v13 w' => ∃ (x13_1 : Int), v13 = .int .i64 x13_1 ∧ Aside0 (Fat.l0 kq l0 l1 (l0.length : Int) x13_1 = some r) ∧ Aside0 (kq ≤ k) ∧ Drawn0 w w')
 case atStart => exact ⟨(0), z20_4_, H', ⟨Nat.le_refl _⟩, z20_7_⟩
 case round =>
  clear H'
  (try clear c1);(try clear c3);(try clear c3b0);(try clear c3b1);(try clear c3b2)
  obtain ⟨x13_1, rfl, HA, HK1, ⟨m1, rfl⟩⟩ := hrel
  cases gk with
  | zero => exact absurd HA.out (by simp [Fat.l0])
  | succ k1 =>
   have H := HA.out
   clear HA
   simp only [Fat.l0] at H
   replace H := iF_ H; obtain ⟨c4b0, H⟩ | ⟨c4b0, H⟩ := H
   ·obtain rfl := Option.some.inj H
    go_wp2
    repeat (go_quiet (fail); try go_wp2)
    go_ret
    exact ⟨z20_4_, z20_7_⟩
   replace H := ig_ H; obtain ⟨c5b0, H⟩ := H
   replace H := ig_ H; obtain ⟨c6b0, H⟩ := H
   replace H := ig_ H; obtain ⟨c7b0, H⟩ := H
   by_cases c8 : (rdOf ByteArray.empty l0 x13_1).toList = (rdOf ByteArray.empty l1 x13_1).toList
   rotate_left
   ·rw [if_neg c8] at H
    have c8b0 : ((rdOf ByteArray.empty l0 x13_1).toList == (rdOf ByteArray.empty l1 x13_1).toList) = false := beq_eq_false_iff_ne.mpr c8
    have c8b1 : ((rdOf ByteArray.empty l0 x13_1).toList != (rdOf ByteArray.empty l1 x13_1).toList) = true := bne_iff_ne.mpr c8
    obtain rfl := Option.some.inj H
    obtain ⟨⟨ad720, e720, hx720_0⟩, p720, q720⟩ := at2_ (Kd.at_string HR0.out x13_1); cases e720
    obtain ⟨⟨ad721, e721, hx721_0⟩, p721, q721⟩ := at2_ (Kd.at_string HR1.out x13_1); cases e721
    go_wp2
    repeat (go_quiet (fail); try go_wp2)
    go_ret
    exact ⟨z20_4_, z20_7_⟩
   rw [if_pos c8] at H
   have c8b0 : ((rdOf ByteArray.empty l0 x13_1).toList == (rdOf ByteArray.empty l1 x13_1).toList) = true := beq_iff_eq.mpr c8
   have c8b1 : ((rdOf ByteArray.empty l0 x13_1).toList != (rdOf ByteArray.empty l1 x13_1).toList) = false := bne_eq_false_iff_eq.mpr c8
   clear c8
   have H' := aM_ H
   clear H
   obtain ⟨⟨ad720, e720, hx720_0⟩, p720, q720⟩ := at2_ (Kd.at_string HR0.out x13_1); cases e720
   obtain ⟨⟨ad721, e721, hx721_0⟩, p721, q721⟩ := at2_ (Kd.at_string HR1.out x13_1); cases e721
   go_wp2
   repeat (go_quiet (fail); try go_wp2)
   go_roundg k1
   case measure => have := HK1.out; omega
   case rel => exact ⟨(wrap64 (x13_1 + 1)), z20_4_, H', ⟨by have := HK1.out; omega⟩, z20_7_⟩

end Go.Proofs.YtbfkpgmdbafmhaaGreat.PFnVerbRuns
