/- Printed for this claim: functions of the program as Lean functions, and that the calls answer so. -/
import Derived.Test.YtbfkpgmdbafmhaaGreatPFnVerbRunsx0
import Derived.Test.YtbfkpgmdbafmhaaGreatPFnVerbRunsx6
import Derived.Test.YtbfkpgmdbafmhaaGreatPFnVerbRunsx8
import Derived.Test.YtbfkpgmdbafmhaaGreatPFnVerbRunsx10
import Derived.Test.YtbfkpgmdbafmhaaGreatPFnVerbRunsx15
import Derived.Test.YtbfkpgmdbafmhaaGreatPFnVerbRunsx17
import Derived.Test.YtbfkpgmdbafmhaaGreatPFnVerbRunsxD0
import Derived.Test.YtbfkpgmdbafmhaaGreatPFnVerbRunsxD1
namespace Go.Proofs.YtbfkpgmdbafmhaaGreat.PFnVerbRuns
open Go.RowKit Go.Proofs.YtbfkpgmdbafmhaaGreatW.PrintWords Go.Proofs.YtbfkpgmdbafmhaaGreatW.PrintLast Go.Proofs.YtbfkpgmdbafmhaaGreatW.PrintMore
theorem z18_0_ {p : Prop} (h : p := by first | rfl | (simp; done) | (simp [*]; done)) : p := h
theorem z18_1_ {p : Prop} (h : p := by repeat (first | exact (Kd.C_below HR0.out HB.out) | (with_reducible first | apply cA_ | apply cN_ | apply cD_))) : p := h
theorem z18_2_ {p : Prop} (h : p := by (with_reducible repeat (first | apply kN_ | apply kD_ | apply kA_)); refine blk_put (cs := #[.string (⟨#[]⟩ : ByteArray), .int .i64 0, .int .i64 0]) ?_ 2 _ rfl; (with_reducible repeat (first | apply kN_ | apply kD_ | apply kA_)); refine blk_put (cs := #[.string (⟨#[]⟩ : ByteArray), .int .i64 0, .int .i64 0]) ?_ 1 _ rfl; (with_reducible repeat (first | apply kN_ | apply kD_ | apply kA_)); refine blk_put (cs := #[.string (⟨#[]⟩ : ByteArray), .int .i64 0, .int .i64 0]) ?_ 0 _ rfl; (with_reducible repeat (first | apply kN_ | apply kD_ | apply kA_)); exact BK648.out) : p := h
theorem z18_3_ {p : Prop} (h : p := by simp only [putAll, Act.put, List.setIfInBounds_toArray, List.set_cons_zero, List.set_cons_succ]) : p := h
set_option maxHeartbeats 8000000
set_option maxRecDepth 100000
attribute [local go_sem] max2_int min2_int max_two min_two max_three min_three max_four min_four isSome_setCell   -- for this text's walks alone
set_option linter.unusedVariables false
set_option linter.unusedSimpArgs false

def Fay.T4 : Bool × List (List Nat × List Nat) := (true, [([], []), ([0], [0]), ([], []), ([2], [2]), ([], []), ([3, 4], [3, 4]), ([], []), ([6], [6]), ([], []), ([7, 8, 5], [7, 8]), ([1, 5, 9], [1, 5, 9]), ([], []), ([11, 10, 9, 0, 1, 2, 3, 4, 5, 6, 7, 8, 9, 10, 11], [10, 11])])
def Fay.B4 : List Nat := [0, 1, 0, 4, 0, 28, 0, 64, 0, 508, 1023, 0, 4095]
theorem Fay.tab4 : rtab .any (opsOf Tryz.f14 4) = Fay.T4 := by kernel_rfl
theorem Fay.bits4 : waitsOk Fay.T4.2 Fay.B4 = true := by kernel_rfl
theorem Fay.calls (k : Nat) (A0 : Option Addr) (c0 : Nat) (l0 : List S74) (a1_0 : ByteArray) (a1_1 a1_2 : Int) (a2 r1 : ByteArray) (r2 r3 : Int) (r4 : Bool) (w : World) (hr0 : Kd.C k74 w A0 l0.length l0) (hc0 : l0.length ≤ c0) (h : Fay.f k l0 a1_0 a1_1 a1_2 a2 = some (r1, r2, r3, r4)) :
 Calls Tryz.prog 14 #[.slice A0 l0.length c0, .agg #[.string a1_0, .int .i64 a1_1, .int .i64 a1_2], .string a2] w fun e w' => e = .returned (.tuple #[.agg #[.string r1, .int .i64 r2, .int .i64 r3], .bool r4]) ∧ Below w.heap.size w w' := by
 have hu40 := Tryz.underlying40
 have HR0 := aM_ hr0
 have HC0 := aM_ hc0
 clear hr0 hc0
 have HB := aM_ (Below.refl w.heap.size w)
 have H : ((FaW.f k a1_0 a1_1 a1_2).bind fun t649 => (if t649 = true then ((FaL.f k l0 (([a2] : List ByteArray))).bind fun t653 => (Fay.j0 k l0 a2 (!t653) a1_0 a1_1 a1_2)) else (Fay.j0 k l0 a2 true a1_0 a1_1 a1_2))) = some (r1, r2, r3, r4) := h
 clear h
 have HC4 := aM_ H
 clear H
 go_enter Tryz.func14, Tryz.ntmps14
 go_upto_region 1 with (first | ((with_reducible refine gD_ 4 ?_); (try (refine gate_guard (by rfl) ?_; dsimp only)); refine bx_ 4 #[.string a1_0, .int .i64 a1_1, .int .i64 a1_2] 40 fun gb647 hg w5 hbox hb => ?_; have BK647 := aM_ (hbox); have GW647 := gW_ w hg; have GE647 := gW_ w hg; replace HB := bS_ hb; clear hb hbox hg) | ((with_reducible refine gD_ 6 ?_); (try (refine gate_guard (by rfl) ?_; dsimp only)); refine bx_ 6 #[.string (⟨#[]⟩ : ByteArray), .int .i64 0, .int .i64 0] 40 fun gb648 hg w6 hbox hb => ?_; have BK648 := aM_ (hbox); have GW648 := gW_ w hg; have GE648 := gW_ w hg; have NB647_648 := aM_ (nR_ BK647 hg); have NB648_647 := aM_ (mR_ BK647 hg); replace BK647 := kB_ BK647 hb; replace HB := bS_ hb; clear hb hbox hg))
 (try simp only [Act.put, List.setIfInBounds_toArray, List.set_cons_zero, List.set_cons_succ])
 go_cut [19] (fun v19 wc => ∃ (kq : Nat) (x19_3 : Bool), v19 = .bool x19_3 ∧ Aside0 (Fay.j0 kq l0 a2 x19_3 a1_0 a1_1 a1_2 = some (r1, r2, r3, r4)) ∧ Aside0 (kq ≤ k) ∧ Aside0 (wc.heap[gb647]? = some (.cells #[.string a1_0, .int .i64 a1_1, .int .i64 a1_2] 40 (0, 0))) ∧ Aside0 (wc.heap[gb648]? = some (.cells #[.string (⟨#[]⟩ : ByteArray), .int .i64 0, .int .i64 0] 40 (0, 0))) ∧ Aside0 (Below w.heap.size w wc))
 case first =>
  have H := HC4.out
  clear HC4
  replace H := ob_ H; obtain ⟨t649, A7, H⟩ := H; try dsimp only at H
  by_cases c8 : t649 = true
  rotate_left
  ·replace c8 := Bool.eq_false_iff.mpr c8
   subst c8
   replace H := in_ H (show ¬ (false = true) by decide)
   have H' := aM_ H
   clear H
   have hnb17 := NB647_648.out
   have hnc17 := NB648_647.out
   have hz18 := cf3_ BK647.out
   go_wp2_with (first | ((with_reducible refine gC_ 44 ?_); refine gM_ (some 11) Tryz.func44 #[.agg #[.string a1_0, .int .i64 a1_1, .int .i64 a1_2]] ?_; (with_reducible refine (FaW.calls k a1_0 a1_1 a1_2 false _ A7.out).mono ?_); rintro e w19 ⟨rfl, hb⟩; refine ⟨_, rfl, ?_⟩; replace BK647 := kB_ BK647 hb; replace BK648 := kB_ BK648 hb; replace HB := bS_ hb; (try clear hb)))
   go_meet
   case rel => exact ⟨_, (true), z18_0_, H', ⟨oR_⟩, ⟨kP_⟩, ⟨kP_⟩, ⟨hB_⟩⟩
  subst c8
  replace H := ip_ H rfl
  obtain ⟨y650, hy650⟩ : ∃ y_ : List ByteArray, y_ = (([a2] : List ByteArray)) := ⟨_, rfl⟩
  rw [← hy650] at H
  have Ny650 := aM_ hy650; clear hy650
  replace H := ob_ H; obtain ⟨t653, A9, H⟩ := H; try dsimp only at H
  have H' := aM_ H
  clear H
  have hnb10 := NB647_648.out
  have hnc10 := NB648_647.out
  have hz11 := cf3_ BK647.out
  go_wp2_with (first | ((with_reducible refine gC_ 44 ?_); refine gM_ (some 11) Tryz.func44 #[.agg #[.string a1_0, .int .i64 a1_1, .int .i64 a1_2]] ?_; (with_reducible refine (FaW.calls k a1_0 a1_1 a1_2 true _ A7.out).mono ?_); rintro e w12 ⟨rfl, hb⟩; refine ⟨_, rfl, ?_⟩; replace BK647 := kB_ BK647 hb; replace BK648 := kB_ BK648 hb; replace HB := bS_ hb; (try clear hb); (try clear hk)) | ((with_reducible refine gD_ 16 ?_); (try (refine gate_guard (by rfl) ?_; dsimp only)); refine rl_ Kd.string 9 16 ([a2] : List ByteArray) [.string a2] (Reps.one (show Kd.M Kd.string _ _ _ a2 [.string a2] from rfl) (Reps.none _ _)) ?_; intro v651 w13 ho14 hb hg_ hnew_; clear hg_ hnew_; (first | rw [← Ny650.out] at ho14 | (simp only [Int.reduceToNat] at ho14; rw [← Ny650.out] at ho14)); have HO652 := aM_ (Kd.R_lower ho14 (below_size hB_)); replace BK647 := kB_ BK647 hb; replace BK648 := kB_ BK648 hb; replace HB := bS_ hb; clear hb ho14; obtain ⟨Ao15, co15, eo15⟩ := rS_ HO652; subst eo15) | (go_at_call 38; (with_reducible refine (FaL.calls k _ _ l0 _ _ y650 t653 _ ?_ ?_ ?_ ?_ A9.out).mono ?_); exact z18_1_; exact HC0.out; exact cR_ HO652; exact (Kd.R_reads' HO652.out).2.1; rintro e w16 ⟨rfl, hb⟩; replace HO652 := rB_ HO652 hb; replace BK647 := kB_ BK647 hb; replace BK648 := kB_ BK648 hb; replace HB := bS_ hb; (try clear hb); (try clear hk)))
  go_meet
  case rel => exact ⟨_, (!t653), z18_0_, H', ⟨oR_⟩, ⟨kP_⟩, ⟨kP_⟩, ⟨hB_⟩⟩
 case rest =>
  clear HC4
  obtain ⟨kq, x19_3, rfl, HA, HJ3, BK647, BK648, HB⟩ := hcut
  cases kq with
  | zero => exact absurd HA.out (by simp [Fay.j0])
  | succ kj3 =>
   have H := HA.out
   clear HA
   simp only [Fay.j0] at H
   by_cases c20 : x19_3 = true
   ·subst c20
    replace H := ip_ H rfl
    simp only [Option.some.injEq, Prod.mk.injEq] at H
    obtain ⟨rfl, rfl, rfl, rfl⟩ := H
    clear BK647
    have hz21 := cf3_ BK648.out
    go_wp2
    refine bodyPost_ret (results_ct rfl _ _ gb648 40 #[.string (⟨#[]⟩ : ByteArray), .int .i64 0, .int .i64 0] (0, 0) _ rfl z18_2_ Tryz.underlying40 rfl (by kernel_rfl)) rfl ?_
    exact ⟨rT_, hB_⟩
   replace c20 := Bool.eq_false_iff.mpr c20
   subst c20
   replace H := in_ H (show ¬ (false = true) by decide)
   replace H := ob_ H; obtain ⟨t654, A22, H⟩ := H; try dsimp only at H
   replace H := ig_ H; obtain ⟨c23b0, H⟩ := H
   replace H := ig_ H; obtain ⟨c24b0, H⟩ := H
   replace H := ob_ H; obtain ⟨t656, A25, H⟩ := H; try dsimp only at H
   replace H := ob_ H; obtain ⟨t657, A26, H⟩ := H; try dsimp only at H
   replace H := ob_ H; obtain ⟨t659, A27, H⟩ := H; try dsimp only at H
   have HC28 := aM_ H
   clear H
   try go_wp2_with (first | ((with_reducible refine gC_ 39 ?_); refine gM_ (some 24) Tryz.func39 #[.slice A0 l0.length c0, .string a2] ?_; (with_reducible refine (FaN.calls kj3 _ _ l0 a2 t654 _ ?_ ?_ A22.out).mono ?_); exact z18_1_; exact HC0.out; rintro e w29 ⟨rfl, hb⟩; refine ⟨_, rfl, ?_⟩; replace BK647 := kB_ BK647 hb; replace BK648 := kB_ BK648 hb; replace HB := bS_ hb; (try clear hb); have p655 : 0 ≤ (t654 : Int) := ode_; have q655 : t654 < (l0.length : Int) := ode_; obtain ⟨ad655, e655, hx655_0, hx655_1⟩ := at_T74 HR0.out t654 p655 q655; cases e655; replace hx655_0 := (HB.out.cell (World.block_lt_of_cell? w _ hx655_0)).trans hx655_0; replace hx655_1 := (HB.out.cell (World.block_lt_of_cell? w _ hx655_1)).trans hx655_1; replace p655 := eq_true p655; replace q655 := eq_true q655))
   replace BK647 := aM_ (blk_drew BK647.out)
   replace BK648 := aM_ (blk_drew BK648.out)
   replace HB := aM_ (below_drew1 HB.out)
   refine st_ 13 (fun w' => w'.cell? ⟨gb647, 0, none⟩ = some (.string a1_0) ∧ w'.cell? ⟨gb647, 1, none⟩ = some (.int .i64 a1_1) ∧ w'.cell? ⟨gb647, 2, none⟩ = some (.int .i64 a1_2)) [] Fay.tab4 Fay.bits4 (cg3_ BK647) fun hHeld HT_ HW_ => ?_
   generalize w29.drew = w30 at BK647 BK648 HB hHeld ⊢
   refine pu_ 0 28 ?_
   refine pu_ 2 30 ?_
   refine pu_ 4 32 ?_
   refine pu_ 6 34 ?_
   refine pu_ 8 36 ?_
   refine tk_ 1 29 ?_
   refine tk_ 3 31 ?_
   refine tk_ 7 35 ?_
   refine join_ (σ := Nat) 1 (bz_ 13 0xfff) (fun s_ => [(33, .int .i64 t656), (37, .int .i64 t657), (9, .pointer (some ⟨s_, 0, none⟩)), (38, .agg #[.string a1_0, .int .i64 t656, .int .i64 t657])]) (fun s_ w' => (w'.cell? ⟨gb647, 0, none⟩ = some (.string a1_0) ∧ w'.cell? ⟨gb647, 1, none⟩ = some (.int .i64 a1_1) ∧ w'.cell? ⟨gb647, 2, none⟩ = some (.int .i64 a1_2)) ∧ (w'.heap[gb647]? = some (.cells #[.string a1_0, .int .i64 a1_1, .int .i64 a1_2] 40 (0, 0))) ∧ (w'.heap[gb648]? = some (.cells #[.string (⟨#[]⟩ : ByteArray), .int .i64 0, .int .i64 0] 40 (0, 0))) ∧ (w'.heap[s_]? = some (.cells #[.string (⟨#[]⟩ : ByteArray), .int .i64 0, .int .i64 0] 40 (0, 0))) ∧ (w.heap.size ≤ s_) ∧ (w.heap.size ≤ s_) ∧ (gb647 ≠ s_) ∧ (s_ ≠ gb647) ∧ (gb648 ≠ s_) ∧ (s_ ≠ gb648) ∧ (Below w.heap.size w w')) ?_ ?_
   rotate_left
   ·intro hCont
    refine two_ (i := 5) (j := 11) (Ni := some 33) (Nj := some 9) (bz_ 13 0x1ff) (bz_ 13 0x9df) rfl rfl rfl rfl (two_of HT_.out (by kernel_rfl)) (by decide) (by decide) (fun K hK => ?_) (fun K hK => ?_)
    ·skip
     refine gS_ Tryz.func45 #[.int .i64 a1_1, .int .i64 ((rd_T74 l0 t654).f1)] ?_
     with_reducible refine (Fbm.calls a1_1 ((rd_T74 l0 t654).f1) t656 _ A25.out).mono ?_
     rintro e w31 ⟨rfl, hb⟩
     refine ⟨_, rfl, ?_⟩
     replace BK647 := kB_ BK647 hb
     replace BK648 := kB_ BK648 hb
     replace HB := bS_ hb
     (try clear hb)
     (try clear hb2)
     (try clear hk)
     (try clear hi)
     refine hK.out _ _ (cg3_ BK647) (fun hHeld => ?_)
     clear hK K
     refine nm_ 33 ?_
     refine two_ (i := 9) (j := 11) (Ni := some 37) (Nj := some 9) (bz_ 13 0x3ff) (bz_ 13 0x9ff) rfl rfl rfl rfl (two_of HT_.out (by kernel_rfl)) (by decide) (by decide) (fun K hK => ?_) (fun K hK => ?_)
     ·skip
      refine gS_ Tryz.func45 #[.int .i64 a1_2, .int .i64 ((rd_T74 l0 t654).f1)] ?_
      with_reducible refine (Fbm.calls a1_2 ((rd_T74 l0 t654).f1) t657 _ A26.out).mono ?_
      rintro e w32 ⟨rfl, hb⟩
      refine ⟨_, rfl, ?_⟩
      replace BK647 := kB_ BK647 hb
      replace BK648 := kB_ BK648 hb
      replace HB := bS_ hb
      (try clear hb)
      (try clear hb2)
      (try clear hk)
      (try clear hi)
      refine hK.out _ _ (cg3_ BK647) (fun hHeld => ?_)
      clear hK K
      refine nm_ 37 ?_
      refine pu_ 10 38 ?_
      refine on_ 11 9 fun K hK => ?_
      refine box_step ?hg (N := 9) ?hd (cs := #[.string (⟨#[]⟩ : ByteArray), .int .i64 0, .int .i64 0]) (t := 40) ?hr ?_; (case hd => rfl); (case hg => rfl); (case hr => first | (go_simp; done) | (go_simp; rfl))
      intro gb658 hg w33 hbox hb
      have BK658 := aM_ (hbox)
      have GW658 := gW_ w hg
      have GE658 := gW_ w hg
      have NB647_658 := nB_ gb647 hg
      have NB658_647 := nC_ gb647 hg
      have NB648_658 := nB_ gb648 hg
      have NB658_648 := nC_ gb648 hg
      replace BK647 := kB_ BK647 hb
      replace BK648 := kB_ BK648 hb
      replace HB := bS_ hb
      clear hb hbox hg
      refine hK.out _ _ (cg3_ BK647) (fun hHeld => ?_)
      clear hK K
      refine nm_ 9 ?_
      exact norm_ z18_3_ (hCont (gb658) _ ⟨hHeld, (kR_ BK647), (kR_ BK648), (kR_ BK658), GW658.out, GE658.out, NB647_658.out, NB658_647.out, NB648_658.out, NB658_648.out, hB_⟩)
     ·skip
      refine box_step ?hg (N := 9) ?hd (cs := #[.string (⟨#[]⟩ : ByteArray), .int .i64 0, .int .i64 0]) (t := 40) ?hr ?_; (case hd => rfl); (case hg => rfl); (case hr => first | (go_simp; done) | (go_simp; rfl))
      intro gb658 hg w32 hbox hb
      have BK658 := aM_ (hbox)
      have GW658 := gW_ w hg
      have GE658 := gW_ w hg
      have NB647_658 := nB_ gb647 hg
      have NB658_647 := nC_ gb647 hg
      have NB648_658 := nB_ gb648 hg
      have NB658_648 := nC_ gb648 hg
      replace BK647 := kB_ BK647 hb
      replace BK648 := kB_ BK648 hb
      replace HB := bS_ hb
      clear hb hbox hg
      refine hK.out _ _ (cg3_ BK647) (fun hHeld => ?_)
      clear hK K
      refine nm_ 9 ?_
      refine on_ 9 37 fun K hK => ?_
      refine gS_ Tryz.func45 #[.int .i64 a1_2, .int .i64 ((rd_T74 l0 t654).f1)] ?_
      with_reducible refine (Fbm.calls a1_2 ((rd_T74 l0 t654).f1) t657 _ A26.out).mono ?_
      rintro e w33 ⟨rfl, hb⟩
      refine ⟨_, rfl, ?_⟩
      replace BK647 := kB_ BK647 hb
      replace BK648 := kB_ BK648 hb
      replace BK658 := kB_ BK658 hb
      replace HB := bS_ hb
      (try clear hb)
      (try clear hb2)
      (try clear hk)
      (try clear hi)
      refine hK.out _ _ (cg3_ BK647) (fun hHeld => ?_)
      clear hK K
      refine nm_ 37 ?_
      refine pu_ 10 38 ?_
      exact norm_ z18_3_ (hCont (gb658) _ ⟨hHeld, (kR_ BK647), (kR_ BK648), (kR_ BK658), GW658.out, GE658.out, NB647_658.out, NB658_647.out, NB648_658.out, NB658_648.out, hB_⟩)
    ·skip
     refine box_step ?hg (N := 9) ?hd (cs := #[.string (⟨#[]⟩ : ByteArray), .int .i64 0, .int .i64 0]) (t := 40) ?hr ?_; (case hd => rfl); (case hg => rfl); (case hr => first | (go_simp; done) | (go_simp; rfl))
     intro gb658 hg w31 hbox hb
     have BK658 := aM_ (hbox)
     have GW658 := gW_ w hg
     have GE658 := gW_ w hg
     have NB647_658 := nB_ gb647 hg
     have NB658_647 := nC_ gb647 hg
     have NB648_658 := nB_ gb648 hg
     have NB658_648 := nC_ gb648 hg
     replace BK647 := kB_ BK647 hb
     replace BK648 := kB_ BK648 hb
     replace HB := bS_ hb
     clear hb hbox hg
     refine hK.out _ _ (cg3_ BK647) (fun hHeld => ?_)
     clear hK K
     refine nm_ 9 ?_
     refine on_ 5 33 fun K hK => ?_
     refine gS_ Tryz.func45 #[.int .i64 a1_1, .int .i64 ((rd_T74 l0 t654).f1)] ?_
     with_reducible refine (Fbm.calls a1_1 ((rd_T74 l0 t654).f1) t656 _ A25.out).mono ?_
     rintro e w32 ⟨rfl, hb⟩
     refine ⟨_, rfl, ?_⟩
     replace BK647 := kB_ BK647 hb
     replace BK648 := kB_ BK648 hb
     replace BK658 := kB_ BK658 hb
     replace HB := bS_ hb
     (try clear hb)
     (try clear hb2)
     (try clear hk)
     (try clear hi)
     refine hK.out _ _ (cg3_ BK647) (fun hHeld => ?_)
     clear hK K
     refine nm_ 33 ?_
     refine on_ 9 37 fun K hK => ?_
     refine gS_ Tryz.func45 #[.int .i64 a1_2, .int .i64 ((rd_T74 l0 t654).f1)] ?_
     with_reducible refine (Fbm.calls a1_2 ((rd_T74 l0 t654).f1) t657 _ A26.out).mono ?_
     rintro e w33 ⟨rfl, hb⟩
     refine ⟨_, rfl, ?_⟩
     replace BK647 := kB_ BK647 hb
     replace BK648 := kB_ BK648 hb
     replace BK658 := kB_ BK658 hb
     replace HB := bS_ hb
     (try clear hb)
     (try clear hb2)
     (try clear hk)
     (try clear hi)
     refine hK.out _ _ (cg3_ BK647) (fun hHeld => ?_)
     clear hK K
     refine nm_ 37 ?_
     refine pu_ 10 38 ?_
     exact norm_ z18_3_ (hCont (gb658) _ ⟨hHeld, (kR_ BK647), (kR_ BK648), (kR_ BK658), GW658.out, GE658.out, NB647_658.out, NB658_647.out, NB648_658.out, NB658_648.out, hB_⟩)
   rintro gb658 w34 ⟨hS_, h0_, h1_, h2_, h3_, h4_, h5_, h6_, h7_, h8_, h9_⟩
   try dsimp only at h0_ h1_ h2_ h3_ h4_ h5_ h6_ h7_ h8_ h9_
   have n0_ := aM_ h0_; have n1_ := aM_ h1_; have n2_ := aM_ h2_; have n3_ := aM_ h3_; have n4_ := aM_ h4_; have n5_ := aM_ h5_; have n6_ := aM_ h6_; have n7_ := aM_ h7_; have n8_ := aM_ h8_; have n9_ := aM_ h9_
   clear BK647
   clear BK648
   clear HB
   clear h0_ h1_ h2_ h3_ h4_ h5_ h6_ h7_ h8_ h9_
   have BK647 := n0_
   have BK648 := n1_
   have BK658 := n2_
   have GW658 := n3_
   have GE658 := n4_
   have NB647_658 := n5_
   have NB658_647 := n6_
   have NB648_658 := n7_
   have NB658_648 := n8_
   have HB := n9_
   clear n0_ n1_ n2_ n3_ n4_ n5_ n6_ n7_ n8_ n9_
   have hHeld : w34.cell? ⟨gb647, 0, none⟩ = some (.string a1_0) ∧ w34.cell? ⟨gb647, 1, none⟩ = some (.int .i64 a1_1) ∧ w34.cell? ⟨gb647, 2, none⟩ = some (.int .i64 a1_2) := hS_
   refine norm_ (a' := ?_) ?_ ?_
   rotate_left
   ·simp only [putAll, Act.put, List.setIfInBounds_toArray, List.set_cons_zero, List.set_cons_succ]
    rfl
   refine one_ (i := 12) (N := none) (bz_ 13 0x1fff) rfl rfl (one_of HT_.out (by kernel_rfl)) (by decide) (fun K hK => ?_)
   have hs35 : w34.cell? ⟨gb658, 0, none⟩ = some (.string (⟨#[]⟩ : ByteArray)) := (blk_cell BK658.out 0).trans rfl
   have hfs35 := blk_frozen BK658.out 0
   have hns35_0 := NB647_658.out
   have hns35_1 := NB648_658.out
   have hms35_0 := NB658_647.out
   have hms35_1 := NB658_648.out
   have hs36 : w34.cell? ⟨gb658, 1, none⟩ = some (.int .i64 0) := (blk_cell BK658.out 1).trans rfl
   have hfs36 := blk_frozen BK658.out 1
   have hns36_0 := NB647_658.out
   have hns36_1 := NB648_658.out
   have hms36_0 := NB658_647.out
   have hms36_1 := NB658_648.out
   have hs37 : w34.cell? ⟨gb658, 2, none⟩ = some (.int .i64 0) := (blk_cell BK658.out 2).trans rfl
   have hfs37 := blk_frozen BK658.out 2
   have hns37_0 := NB647_658.out
   have hns37_1 := NB648_658.out
   have hms37_0 := NB658_647.out
   have hms37_1 := NB658_648.out
   refine skip_ (w1 := ?_) (by rfl) rfl ?_ ?_
   rotate_left
   ·go_simp
    rfl
   refine hK.out _ _ ⟨((cell_far (p := ⟨gb658, _, none⟩) NB647_658.out _).trans (((cell_far (p := ⟨gb658, _, none⟩) NB647_658.out _).trans (((cell_far (p := ⟨gb658, _, none⟩) NB647_658.out _).trans (hHeld.1)))))), ((cell_far (p := ⟨gb658, _, none⟩) NB647_658.out _).trans (((cell_far (p := ⟨gb658, _, none⟩) NB647_658.out _).trans (((cell_far (p := ⟨gb658, _, none⟩) NB647_658.out _).trans (hHeld.2.1)))))), ((cell_far (p := ⟨gb658, _, none⟩) NB647_658.out _).trans (((cell_far (p := ⟨gb658, _, none⟩) NB647_658.out _).trans (((cell_far (p := ⟨gb658, _, none⟩) NB647_658.out _).trans (hHeld.2.2))))))⟩ (fun hHeld => ?_)
   clear hK K
   refine dn_ ?_
   clear BK647
   have hnb38 := NB658_648.out
   have hnc38 := NB648_658.out
   have hz39 := cf3_ BK658.out
   go_upto_if 41 with (first | ((with_reducible refine gC_ 44 ?_); refine gM_ (some 40) Tryz.func44 #[.agg #[.string a1_0, .int .i64 t656, .int .i64 t657]] ?_; (with_reducible refine (FaW.calls kj3 a1_0 t656 t657 t659 _ A27.out).mono ?_); rintro e w40 ⟨rfl, hb⟩; refine ⟨_, rfl, ?_⟩; replace BK648 := kB_ BK648 hb; replace BK658 := aM_ (blk_below (g := gb658) (o := .cells #[.string a1_0, .int .i64 t656, .int .i64 t657] 40 (0, 0)) (by (with_reducible repeat (first | apply kN_ | apply kD_ | apply kA_)); refine blk_put (cs := #[.string a1_0, .int .i64 t656, .int .i64 0]) ?_ 2 _ rfl; (with_reducible repeat (first | apply kN_ | apply kD_ | apply kA_)); refine blk_put (cs := #[.string a1_0, .int .i64 0, .int .i64 0]) ?_ 1 _ rfl; (with_reducible repeat (first | apply kN_ | apply kD_ | apply kA_)); refine blk_put (cs := #[.string (⟨#[]⟩ : ByteArray), .int .i64 0, .int .i64 0]) ?_ 0 _ rfl; (with_reducible repeat (first | apply kN_ | apply kD_ | apply kA_)); exact BK658.out) hb); replace HB := bS_ hb; (try clear hb)))
   (try simp only [Act.put, List.setIfInBounds_toArray, List.set_cons_zero, List.set_cons_succ])
   have H := HC28.out
   clear HC28
   by_cases c41 : t659 = true
   ·subst c41
    replace H := ip_ H rfl
    simp only [Option.some.injEq, Prod.mk.injEq] at H
    obtain ⟨rfl, rfl, rfl, rfl⟩ := H
    have hnb42 := NB658_648.out
    have hnc42 := NB648_658.out
    have hz43 := cf3_ BK658.out
    clear BK658
    have hz44 := cf3_ BK648.out
    go_wp2
    refine bodyPost_ret (results_ct rfl _ _ gb648 40 #[.string a1_0, .int .i64 t656, .int .i64 t657] (0, 0) _ rfl (by (with_reducible repeat (first | apply kN_ | apply kD_ | apply kA_)); refine blk_put (cs := #[.string a1_0, .int .i64 t656, .int .i64 0]) ?_ 2 _ rfl; (with_reducible repeat (first | apply kN_ | apply kD_ | apply kA_)); refine blk_put (cs := #[.string a1_0, .int .i64 0, .int .i64 0]) ?_ 1 _ rfl; (with_reducible repeat (first | apply kN_ | apply kD_ | apply kA_)); refine blk_put (cs := #[.string (⟨#[]⟩ : ByteArray), .int .i64 0, .int .i64 0]) ?_ 0 _ rfl; (with_reducible repeat (first | apply kN_ | apply kD_ | apply kA_)); exact BK648.out) Tryz.underlying40 rfl (by kernel_rfl)) rfl ?_
    exact ⟨rT_, hB_⟩
   replace c41 := Bool.eq_false_iff.mpr c41
   subst c41
   replace H := in_ H (show ¬ (false = true) by decide)
   simp only [Option.some.injEq, Prod.mk.injEq] at H
   obtain ⟨rfl, rfl, rfl, rfl⟩ := H
   clear BK658
   have hz45 := cf3_ BK648.out
   go_wp2
   refine bodyPost_ret (results_ct rfl _ _ gb648 40 #[.string (⟨#[]⟩ : ByteArray), .int .i64 0, .int .i64 0] (0, 0) _ rfl z18_2_ Tryz.underlying40 rfl (by kernel_rfl)) rfl ?_
   exact ⟨rT_, hB_⟩

theorem Fbq.calls (a0 a1 r : Int) (w : World) (h : Fbq.f a0 a1 = some r) :
 Calls Tryz.prog 49 #[.int .i64 a0, .int .i64 a1] w fun e w' => e = .returned (.int .i64 r) ∧ Drawn0 w w' := by
 have H : ((Fbk.f 90 (wrap64 (a0 - a1))).bind fun t660 => ((Fbh.f (-90) t660).bind fun t661 => (some t661))) = some r := h
 clear h
 replace H := ob_ H; obtain ⟨t660, A3, H⟩ := H; try dsimp only at H
 replace H := ob_ H; obtain ⟨t661, A4, H⟩ := H; try dsimp only at H
 obtain rfl := Option.some.inj H
 go_enter Tryz.func49, Tryz.ntmps49
 go_wp2_with (first | ((with_reducible refine gC_ 71 ?_); refine gM_ (some 8) Tryz.func71 #[.int .i64 90, .int .i64 (wrap64 (a0 - a1))] ?_; (with_reducible refine (Fbk.calls 90 (wrap64 (a0 - a1)) t660 _ A3.out).mono ?_); rintro e w' ⟨rfl, ⟨nd, rfl⟩⟩; refine ⟨_, rfl, ?_⟩) | ((with_reducible refine gC_ 69 ?_); refine gM_ (some 9) Tryz.func69 #[.int .i64 (-90), .int .i64 t660] ?_; (with_reducible refine (Fbh.calls (-90) t660 t661 _ A4.out).mono ?_); rintro e w' ⟨rfl, ⟨nd, rfl⟩⟩; refine ⟨_, rfl, ?_⟩))
 go_ret
 exact ⟨z18_0_, by repeat (first | exact Drawn0.refl _ | apply Drawn0.step)⟩

end Go.Proofs.YtbfkpgmdbafmhaaGreat.PFnVerbRuns
