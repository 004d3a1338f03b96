/- Printed for this claim: functions of the program as Lean functions, and that the calls answer so. -/
import Derived.Test.YtbfkpgmdbafmhaaGreatPFnVerbRunsx0
import Derived.Test.YtbfkpgmdbafmhaaGreatPFnVerbRunsx8
import Derived.Test.YtbfkpgmdbafmhaaGreatPFnVerbRunsx11
import Derived.Test.YtbfkpgmdbafmhaaGreatPFnVerbRunsx12
import Derived.Test.YtbfkpgmdbafmhaaGreatPFnVerbRunsxD0
import Derived.Test.YtbfkpgmdbafmhaaGreatPFnVerbRunsxD1
namespace Go.Proofs.YtbfkpgmdbafmhaaGreat.PFnVerbRuns
open Go.RowKit Go.Proofs.YtbfkpgmdbafmhaaGreatW.PrintWords Go.Proofs.YtbfkpgmdbafmhaaGreatW.PrintLast Go.Proofs.YtbfkpgmdbafmhaaGreatW.PrintMore
attribute [local go_sem] max2_int min2_int max_two min_two max_three min_three max_four min_four isSome_setCell   -- for this text's walks alone
attribute [local go_sem high] gtr_lt
set_option linter.unusedVariables false
set_option linter.unusedSimpArgs false

theorem z14_0_ {p : Prop} (h : p := by repeat (first | exact (Kd.C_below HR0.out HB.out) | (with_reducible first | apply cA_ | apply cN_ | apply cD_))) : p := h
theorem z14_1_ {p : Prop} (h : p := by repeat (first | exact (Kd.C_below HR1.out HB.out) | (with_reducible first | apply cA_ | apply cN_ | apply cD_))) : p := h
theorem z14_2_ {p : Prop} (h : p := by first | rfl | (simp; done) | (simp [*]; done)) : p := h
theorem z14_3_ {p : Prop} (h : p := by first | exact Kd.R_nil _ _ _ _ _ | exact Kd.N_nil _ _ _ _ _ | exact Kd.V_nil _ _ _ _ _ | exact Kd.Q_nil _ _ _ _ _ | exact Kd.S_nil _ _ _ _ _) : p := h
theorem z14_4_ {p : Prop} (h : p := by have := HJ3.out; have := HK2.out; have := HJ14.out; have := HK4.out; first | omega | exact Nat.le_refl _) : p := h
theorem z14_5_ {p : Prop} (h : p := by have := HJ3.out; have := HK2.out; have := HJ14.out; have := HK4.out; have := HJ21.out; first | omega | exact Nat.le_refl _) : p := h
theorem z14_6_ {p : Prop} (h : p := by have := HJ3.out; have := HK2.out; have := HJ14.out; have := HK4.out; have := HJ21.out; have := HJ27.out; omega) : p := h
theorem z14_7_ {p : Prop} (h : p := by simp only [putAll, Act.put, List.setIfInBounds_toArray, List.set_cons_zero, List.set_cons_succ]) : p := h
def Fad.T13 : Bool × List (List Nat × List Nat) := (true, [([], []), ([], []), ([], []), ([1, 2], [1, 2]), ([0, 3], [0, 3]), ([], []), ([5], [5]), ([4, 6, 4], [4, 6]), ([], []), ([], []), ([8, 9], [8, 9]), ([7, 10, 7], [7, 10]), ([11, 11, 0, 1, 2, 3, 4, 5, 6, 7, 8, 9, 10, 11], [1, 8, 11])])
def Fad.B13 : List Nat := [0, 0, 0, 6, 15, 0, 32, 127, 0, 0, 768, 2047, 4095]
theorem Fad.tab13 : rtab .any (opsOf Tryz.f9 13) = Fad.T13 := by kernel_rfl
theorem Fad.bits13 : waitsOk Fad.T13.2 Fad.B13 = true := by kernel_rfl
set_option maxHeartbeats 8000000 in
set_option maxRecDepth 100000 in
theorem Fad.calls (k : Nat) (A0 : Option Addr) (c0 : Nat) (l0 : List S74) (A1 : Option Addr) (c1 : Nat) (l1 : List S40) (a2 : ByteArray) (r1 : List ByteArray) (r2 : Bool) (w : World) (hr0 : Kd.C k74 w A0 l0.length l0) (hc0 : l0.length ≤ c0) (hr1 : Kd.C k40 w A1 l1.length l1) (hc1 : l1.length ≤ c1) (h : Fad.f k l0 l1 a2 = some (r1, r2)) :
 Calls Tryz.prog 9 #[.slice A0 l0.length c0, .slice A1 l1.length c1, .string a2] w fun e w' => ∃ v0_ : Value, e = .returned (.tuple #[v0_, .bool r2]) ∧ Kd.R Kd.string 9 w' w.heap.size (fun _ => True) v0_ r1 ∧ Below w.heap.size w w' := by
 have hu40 := Tryz.underlying40
 have HR0 := aM_ hr0
 have HC0 := aM_ hc0
 clear hr0 hc0
 have HR1 := aM_ hr1
 have HC1 := aM_ hc1
 clear hr1 hc1
 have HB := aM_ (Below.refl w.heap.size w)
 have H : ((FaE.f k l0 l1).bind fun t522 => (if t522 = true then ((FaC.f k a2).bind fun t523 => (Fad.j0 k l0 l1 a2 (!t523))) else (Fad.j0 k l0 l1 a2 true))) = some (r1, r2) := h
 clear h
 have HC4 := aM_ H
 clear H
 go_enter Tryz.func9, Tryz.ntmps9
 go_upto_region 1 with (fail)
 go_cut [23] (fun v23 wc => ∃ (kq : Nat) (x23_3 : Bool), v23 = .bool x23_3 ∧ Aside0 (Fad.j0 kq l0 l1 a2 x23_3 = some (r1, r2)) ∧ Aside0 (kq ≤ k) ∧ Aside0 (Below w.heap.size w wc))
 case first =>
  have H := HC4.out
  clear HC4
  replace H := ob_ H; obtain ⟨t522, A5, H⟩ := H; try dsimp only at H
  by_cases c6 : t522 = true
  rotate_left
  ·replace c6 := Bool.eq_false_iff.mpr c6
   subst c6
   replace H := in_ H (show ¬ (false = true) by decide)
   have H' := aM_ H
   clear H
   go_wp2_with (first | ((with_reducible refine gC_ 31 ?_); refine gM_ (some 17) Tryz.func31 #[.slice A0 l0.length c0, .slice A1 l1.length c1] ?_; (with_reducible refine (FaE.calls k _ _ l0 _ _ l1 false _ ?_ ?_ ?_ ?_ A5.out).mono ?_); exact z14_0_; exact HC0.out; exact z14_1_; exact HC1.out; rintro e w9 ⟨rfl, hb⟩; refine ⟨_, rfl, ?_⟩; replace HB := bS_ hb; (try clear hb)))
   go_meet
   case rel => exact ⟨_, (true), z14_2_, H', ⟨oR_⟩, ⟨hB_⟩⟩
  subst c6
  replace H := ip_ H rfl
  replace H := ob_ H; obtain ⟨t523, A7, H⟩ := H; try dsimp only at H
  have H' := aM_ H
  clear H
  go_wp2_with (first | ((with_reducible refine gC_ 31 ?_); refine gM_ (some 17) Tryz.func31 #[.slice A0 l0.length c0, .slice A1 l1.length c1] ?_; (with_reducible refine (FaE.calls k _ _ l0 _ _ l1 true _ ?_ ?_ ?_ ?_ A5.out).mono ?_); exact z14_0_; exact HC0.out; exact z14_1_; exact HC1.out; rintro e w8 ⟨rfl, hb⟩; refine ⟨_, rfl, ?_⟩; replace HB := bS_ hb; (try clear hb)) | (go_at_call 36; (with_reducible refine (FaC.calls k a2 t523 _ A7.out).mono ?_); rintro e w' ⟨rfl, ⟨nd, rfl⟩⟩))
  go_meet
  case rel => exact ⟨_, (!t523), z14_2_, H', ⟨oR_⟩, ⟨hB_⟩⟩
 case rest =>
  clear HC4
  (try clear c1)
  obtain ⟨kq, x23_3, rfl, HA, HJ3, HB⟩ := hcut
  cases kq with
  | zero => exact absurd HA.out (by simp [Fad.j0])
  | succ kj3 =>
   have H := HA.out
   clear HA
   simp only [Fad.j0] at H
   by_cases c10 : x23_3 = true
   ·subst c10
    replace H := ip_ H rfl
    simp only [Option.some.injEq, Prod.mk.injEq] at H
    obtain ⟨rfl, rfl⟩ := H
    go_wp2
    go_ret2
    exact ⟨_, rT_, z14_3_, hB_⟩
   replace c10 := Bool.eq_false_iff.mpr c10
   subst c10
   replace H := in_ H (show ¬ (false = true) by decide)
   have H' := aM_ H
   clear H
   go_wp2
   go_loopg [8, 26] kj3 (fun kq v8 v26 w' => ∃ (x8_2 : List ByteArray) (x26_2 : Int), v26 = .int .i64 x26_2 ∧ Aside0 (Fad.l0 kq l0 a2 x8_2 l1 (l1.length : Int) x26_2 = some (r1, r2)) ∧ Aside0 (kq ≤ kj3) ∧ Aside0 (Kd.R Kd.string 9 w' w.heap.size (fun _ => True) v8 x8_2) ∧ Aside0 (Below w.heap.size w w'))
   case atStart => exact ⟨(([] : List ByteArray)), (0), z14_2_, H', ⟨Nat.le_refl _⟩, ⟨z14_3_⟩, ⟨hB_⟩⟩
   case round =>
    clear H'
    (try clear c1);(try clear c10)
    obtain ⟨x8_2, x26_2, rfl, HA, HK2, HO_8, HB⟩ := hrel
    cases gk with
    | zero => exact absurd HA.out (by simp [Fad.l0])
    | succ k2 =>
     have H := HA.out
     clear HA
     simp only [Fad.l0] at H
     replace H := iF_ H; obtain ⟨c11b0, H⟩ | ⟨c11b0, H⟩ := H
     ·simp only [Option.some.injEq, Prod.mk.injEq] at H
      obtain ⟨rfl, rfl⟩ := H
      go_wp2
      go_ret2
      exact ⟨_, rT_, (rR_ HO_8), hB_⟩
     replace H := ig_ H; obtain ⟨c12b0, H⟩ := H
     replace H := ig_ H; obtain ⟨c13b0, H⟩ := H
     replace H := ob_ H; obtain ⟨⟨t526, t527, t528⟩, A14, H⟩ := H; try dsimp only at H
     have HC15 := aM_ H
     clear H
     obtain ⟨⟨ad524, e524, hx524_0, hx524_1, hx524_2⟩, p524, q524⟩ := at2_ (at_T40 HR1.out x26_2); cases e524
     try replace hx524_0 := hc_ HB hx524_0; try replace hx524_1 := hc_ HB hx524_1; try replace hx524_2 := hc_ HB hx524_2
     go_upto_region 8 with (first | ((with_reducible refine gD_ 10 ?_); refine bx_ 10 #[.string (⟨#[]⟩ : ByteArray), .int .i64 0, .int .i64 0] 40 fun gb525 hg w16 hbox hb => ?_; have BK525 := aM_ (hbox); have GW525 := gW_ w hg; have GE525 := gW_ w hg; replace HO_8 := rB_ HO_8 hb; replace HB := bS_ hb; clear hb hbox hg; have hz17 := cf3_ BK525.out) | ((with_reducible refine gC_ 32 ?_); refine gM_ (some 33) Tryz.func32 #[.slice A0 l0.length c0, .agg #[.string ((rd_T40 l1 x26_2).f0), .int .i64 ((rd_T40 l1 x26_2).f1), .int .i64 ((rd_T40 l1 x26_2).f2)]] ?_; (with_reducible refine (FaV.calls k2 _ _ l0 ((rd_T40 l1 x26_2).f0) ((rd_T40 l1 x26_2).f1) ((rd_T40 l1 x26_2).f2) t526 t527 t528 _ ?_ ?_ A14.out).mono ?_); exact Kd.C_below HR0.out hB_; exact HC0.out; rintro e w18 ⟨rfl, hb⟩; refine ⟨_, rfl, ?_⟩; replace HO_8 := aM_ (Kd.R_below (by (with_reducible repeat (first | apply rA_ | apply rN_ | apply rD_)); exact (Kd.R_mono (Kd.R_far (p := ⟨gb525, 2, none⟩) (Kd.R_far (p := ⟨gb525, 1, none⟩) (Kd.R_far (p := ⟨gb525, 0, none⟩) (Kd.R_types HO_8.out BK525.out (by decide)) (fun _ hk => hk.2) (.string ((rd_T40 l1 x26_2).f0))) (fun _ hk => hk.2) (.int .i64 ((rd_T40 l1 x26_2).f1))) (fun _ hk => hk.2) (.int .i64 ((rd_T40 l1 x26_2).f2))) (fun _ h_ => h_.1))) hb); replace BK525 := aM_ (blk_below (g := gb525) (o := .cells #[.string ((rd_T40 l1 x26_2).f0), .int .i64 ((rd_T40 l1 x26_2).f1), .int .i64 ((rd_T40 l1 x26_2).f2)] 40 (0, 0)) (by (with_reducible repeat (first | apply kN_ | apply kD_ | apply kA_)); refine blk_put (cs := #[.string ((rd_T40 l1 x26_2).f0), .int .i64 ((rd_T40 l1 x26_2).f1), .int .i64 0]) ?_ 2 _ rfl; (with_reducible repeat (first | apply kN_ | apply kD_ | apply kA_)); refine blk_put (cs := #[.string ((rd_T40 l1 x26_2).f0), .int .i64 0, .int .i64 0]) ?_ 1 _ rfl; (with_reducible repeat (first | apply kN_ | apply kD_ | apply kA_)); refine blk_put (cs := #[.string (⟨#[]⟩ : ByteArray), .int .i64 0, .int .i64 0]) ?_ 0 _ rfl; (with_reducible repeat (first | apply kN_ | apply kD_ | apply kA_)); exact BK525.out) hb); replace HB := bS_ hb; (try clear hb); (try clear hk)))
     (try simp only [Act.put, List.setIfInBounds_toArray, List.set_cons_zero, List.set_cons_succ])
     go_cut [44] (fun v44 wc => ∃ (kq : Nat) (x44_14 : Bool), v44 = .bool x44_14 ∧ Aside0 (Fad.j2 kq l0 a2 x8_2 t526 l1 (l1.length : Int) x26_2 x44_14 = some (r1, r2)) ∧ Aside0 (kq ≤ k2) ∧ Aside0 (Kd.R Kd.string 9 wc w.heap.size (fun _ => True) u8 x8_2) ∧ Aside0 (wc.heap[gb525]? = some (.cells #[.string ((rd_T40 l1 x26_2).f0), .int .i64 ((rd_T40 l1 x26_2).f1), .int .i64 ((rd_T40 l1 x26_2).f2)] 40 (0, 0))) ∧ Aside0 (Below w.heap.size w wc))
     case first =>
      have H := HC15.out
      clear HC15
      by_cases c19 : t528 = true
      ·subst c19
       replace H := ip_ H rfl
       have H' := aM_ H
       clear H
       have hz20 := cf3_ BK525.out
       go_wp2
       go_meet
       case rel => exact ⟨_, ((((rd_T40 l1 x26_2).f0).toList != a2.toList)), z14_2_, H', ⟨by have := HJ3.out; have := HK2.out; first | omega | exact Nat.le_refl _⟩, ⟨(rR_ HO_8)⟩, ⟨kP_⟩, ⟨hB_⟩⟩
      replace c19 := Bool.eq_false_iff.mpr c19
      subst c19
      replace H := in_ H (show ¬ (false = true) by decide)
      have H' := aM_ H
      clear H
      go_wp2
      go_meet
      case rel => exact ⟨_, (true), z14_2_, H', ⟨by have := HJ3.out; have := HK2.out; first | omega | exact Nat.le_refl _⟩, ⟨(rR_ HO_8)⟩, ⟨kP_⟩, ⟨hB_⟩⟩
     case rest =>
      clear HC15
      (try clear c1);(try clear c10);(try clear c11);(try clear c11b0);(try clear c12);(try clear c12b0);(try clear c13);(try clear c13b0);(try clear hcz17_0);(try clear hcz17_1);(try clear hcz17_2);(try clear hfz17_0);(try clear hfz17_1);(try clear hfz17_2);(try clear hx524_0);(try clear hx524_1);(try clear hx524_2);(try clear p524);(try clear q524)
      obtain ⟨kq, x44_14, rfl, HA, HJ14, HO_8, BK525, HB⟩ := hcut
      cases kq with
      | zero => exact absurd HA.out (by simp [Fad.j2])
      | succ kj14 =>
       have H := HA.out
       clear HA
       simp only [Fad.j2] at H
       by_cases c21 : x44_14 = true
       ·subst c21
        replace H := ip_ H rfl
        have H' := aM_ H
        clear H
        go_wp2
        go_roundg kj14
        case measure => have := HJ3.out; have := HK2.out; have := HJ14.out; omega
        case rel => exact ⟨(x8_2), (wrap64 (x26_2 + 1)), z14_2_, H', ⟨by have := HJ3.out; have := HK2.out; have := HJ14.out; omega⟩, ⟨(rR_ HO_8)⟩, ⟨hB_⟩⟩
       replace c21 := Bool.eq_false_iff.mpr c21
       subst c21
       replace H := in_ H (show ¬ (false = true) by decide)
       have H' := aM_ H
       clear H
       go_wp2
       go_loopg [14] kj14 (fun kq v14 w' => ∃ (x14_4 : Int), v14 = .int .i64 x14_4 ∧ Aside0 (Fad.l1 kq l0 a2 x8_2 t526 x14_4 l1 (l1.length : Int) x26_2 = some (r1, r2)) ∧ Aside0 (kq ≤ kj14) ∧ Aside0 (Kd.R Kd.string 9 w' w.heap.size (fun _ => True) u8 x8_2) ∧ Aside0 (w'.heap[gb525]? = some (.cells #[.string ((rd_T40 l1 x26_2).f0), .int .i64 ((rd_T40 l1 x26_2).f1), .int .i64 ((rd_T40 l1 x26_2).f2)] 40 (0, 0))) ∧ Aside0 (Below w.heap.size w w'))
       case atStart => exact ⟨(0), z14_2_, H', ⟨Nat.le_refl _⟩, ⟨(rR_ HO_8)⟩, ⟨kP_⟩, ⟨hB_⟩⟩
       case round =>
        clear H'
        (try clear c1);(try clear c10);(try clear c11);(try clear c11b0);(try clear c12);(try clear c12b0);(try clear c13);(try clear c13b0);(try clear c21);(try clear hcz17_0);(try clear hcz17_1);(try clear hcz17_2);(try clear hfz17_0);(try clear hfz17_1);(try clear hfz17_2);(try clear hx524_0);(try clear hx524_1);(try clear hx524_2);(try clear p524);(try clear q524)
        obtain ⟨x14_4, rfl, HA, HK4, HO_8, BK525, HB⟩ := hrel
        cases gk with
        | zero => exact absurd HA.out (by simp [Fad.l1])
        | succ k4 =>
         have H := HA.out
         clear HA
         simp only [Fad.l1] at H
         have HC22 := aM_ H
         clear H
         go_upto_region 10 with (fail)
         go_cut [56] (fun v56 wc => ∃ (kq : Nat) (x56_21 : Bool), v56 = .bool x56_21 ∧ Aside0 (Fad.j4 kq l0 a2 x8_2 t526 x14_4 l1 (l1.length : Int) x26_2 x56_21 = some (r1, r2)) ∧ Aside0 (kq ≤ k4) ∧ Aside0 (Kd.R Kd.string 9 wc w.heap.size (fun _ => True) u8 x8_2) ∧ Aside0 (wc.heap[gb525]? = some (.cells #[.string ((rd_T40 l1 x26_2).f0), .int .i64 ((rd_T40 l1 x26_2).f1), .int .i64 ((rd_T40 l1 x26_2).f2)] 40 (0, 0))) ∧ Aside0 (Below w.heap.size w wc))
         case first =>
          have H := HC22.out
          clear HC22
          replace H := iF_ H; obtain ⟨c23b0, H⟩ | ⟨c23b0, H⟩ := H
          ·(first | rw [c23b0] | (simp only [i64_w, i32_w]; rw [c23b0]) | skip)
           have H' := aM_ H
           clear H
           obtain ⟨Ao26, co26, eo26⟩ := rS_ HO_8
           subst eo26
           go_wp2
           go_meet
           case rel => exact ⟨_, (false), z14_2_, H', ⟨z14_4_⟩, ⟨(rR_ HO_8)⟩, ⟨kP_⟩, ⟨hB_⟩⟩
          (first | rw [c23b0] | (simp only [i64_w, i32_w]; rw [c23b0]) | skip)
          replace H := ig_ H; obtain ⟨c24b0, H⟩ := H
          have H' := aM_ H
          clear H
          obtain ⟨Ao25, co25, eo25⟩ := rS_ HO_8
          subst eo25
          obtain ⟨⟨ad529, e529, hx529_0⟩, p529, q529⟩ := at2_ (Kd.at_string (Kd.R_reads' HO_8.out).2.2 x14_4); cases e529
          go_wp2
          go_meet
          case rel => exact ⟨_, ((Op.bytesLess ((rdOf ByteArray.empty x8_2 x14_4).toList) t526.toList)), z14_2_, H', ⟨z14_4_⟩, ⟨(rR_ HO_8)⟩, ⟨kP_⟩, ⟨hB_⟩⟩
         case rest =>
          clear HC22
          (try clear c1);(try clear c10);(try clear c11);(try clear c11b0);(try clear c12);(try clear c12b0);(try clear c13);(try clear c13b0);(try clear c21);(try clear hcz17_0);(try clear hcz17_1);(try clear hcz17_2);(try clear hfz17_0);(try clear hfz17_1);(try clear hfz17_2);(try clear hx524_0);(try clear hx524_1);(try clear hx524_2);(try clear p524);(try clear q524)
          obtain ⟨kq, x56_21, rfl, HA, HJ21, HO_8, BK525, HB⟩ := hcut
          cases kq with
          | zero => exact absurd HA.out (by simp [Fad.j4])
          | succ kj21 =>
           have H := HA.out
           clear HA
           simp only [Fad.j4] at H
           by_cases c27 : x56_21 = true
           ·subst c27
            replace H := ip_ H rfl
            have H' := aM_ H
            clear H
            go_wp2
            go_roundg kj21
            case measure => have := HJ3.out; have := HK2.out; have := HJ14.out; have := HK4.out; have := HJ21.out; omega
            case rel => exact ⟨(wrap64 (x14_4 + 1)), z14_2_, H', ⟨by have := HJ3.out; have := HK2.out; have := HJ14.out; have := HK4.out; have := HJ21.out; omega⟩, ⟨(rR_ HO_8)⟩, ⟨kP_⟩, ⟨hB_⟩⟩
           replace c27 := Bool.eq_false_iff.mpr c27
           subst c27
           replace H := in_ H (show ¬ (false = true) by decide)
           have HC28 := aM_ H
           clear H
           go_upto_region 12 with (fail)
           go_cut [70] (fun v70 wc => ∃ (kq : Nat) (x70_27 : Bool), v70 = .bool x70_27 ∧ Aside0 (Fad.j5 kq l0 a2 x8_2 t526 x14_4 l1 (l1.length : Int) x26_2 x70_27 = some (r1, r2)) ∧ Aside0 (kq ≤ kj21) ∧ Aside0 (Kd.R Kd.string 9 wc w.heap.size (fun _ => True) u8 x8_2) ∧ Aside0 (wc.heap[gb525]? = some (.cells #[.string ((rd_T40 l1 x26_2).f0), .int .i64 ((rd_T40 l1 x26_2).f1), .int .i64 ((rd_T40 l1 x26_2).f2)] 40 (0, 0))) ∧ Aside0 (Below w.heap.size w wc))
           case first =>
            have H := HC28.out
            clear HC28
            by_cases c29 : x14_4 = (x8_2.length : Int)
            ·rw [if_pos c29] at H
             have c29b0 : (x14_4 == (x8_2.length : Int)) = true := beq_iff_eq.mpr c29
             have c29b1 : (x14_4 != (x8_2.length : Int)) = false := bne_eq_false_iff_eq.mpr c29
             clear c29
             (first | rw [c29b0] | (simp only [i64_w, i32_w]; rw [c29b0]) | skip)
             have H' := aM_ H
             clear H
             obtain ⟨Ao30, co30, eo30⟩ := rS_ HO_8
             subst eo30
             go_wp2
             go_meet
             case rel => exact ⟨_, (true), z14_2_, H', ⟨z14_5_⟩, ⟨(rR_ HO_8)⟩, ⟨kP_⟩, ⟨hB_⟩⟩
            rw [if_neg c29] at H
            have c29b0 : (x14_4 == (x8_2.length : Int)) = false := beq_eq_false_iff_ne.mpr c29
            have c29b1 : (x14_4 != (x8_2.length : Int)) = true := bne_iff_ne.mpr c29
            (first | rw [c29b0] | (simp only [i64_w, i32_w]; rw [c29b0]) | skip)
            replace H := ig_ H; obtain ⟨c31b0, H⟩ := H
            replace H := ig_ H; obtain ⟨c32b0, H⟩ := H
            have H' := aM_ H
            clear H
            obtain ⟨Ao33, co33, eo33⟩ := rS_ HO_8
            subst eo33
            obtain ⟨⟨ad530, e530, hx530_0⟩, p530, q530⟩ := at2_ (Kd.at_string (Kd.R_reads' HO_8.out).2.2 x14_4); cases e530
            go_wp2
            go_meet
            case rel => exact ⟨_, (((rdOf ByteArray.empty x8_2 x14_4).toList != t526.toList)), z14_2_, H', ⟨z14_5_⟩, ⟨(rR_ HO_8)⟩, ⟨kP_⟩, ⟨hB_⟩⟩
           case rest =>
            clear HC28
            (try clear c1);(try clear c10);(try clear c11);(try clear c11b0);(try clear c12);(try clear c12b0);(try clear c13);(try clear c13b0);(try clear c21);(try clear c27);(try clear hcz17_0);(try clear hcz17_1);(try clear hcz17_2);(try clear hfz17_0);(try clear hfz17_1);(try clear hfz17_2);(try clear hx524_0);(try clear hx524_1);(try clear hx524_2);(try clear p524);(try clear q524)
            obtain ⟨kq, x70_27, rfl, HA, HJ27, HO_8, BK525, HB⟩ := hcut
            cases kq with
            | zero => exact absurd HA.out (by simp [Fad.j5])
            | succ kj27 =>
             have H := HA.out
             clear HA
             simp only [Fad.j5] at H
             by_cases c34 : x70_27 = true
             rotate_left
             ·replace c34 := Bool.eq_false_iff.mpr c34
              subst c34
              replace H := in_ H (show ¬ (false = true) by decide)
              have H' := aM_ H
              clear H
              go_wp2
              go_roundg kj27
              case measure => have := HJ3.out; have := HK2.out; have := HJ14.out; have := HK4.out; have := HJ21.out; have := HJ27.out; omega
              case rel => exact ⟨(x8_2), (wrap64 (x26_2 + 1)), z14_2_, H', ⟨z14_6_⟩, ⟨(rR_ HO_8)⟩, ⟨hB_⟩⟩
             subst c34
             replace H := ip_ H rfl
             replace H := bs_ H; obtain ⟨y531, Ny531, H⟩ := H; try dsimp only at H
             replace H := it_ H; obtain ⟨c35b0, c35b1, H⟩ := H
             replace H := it_ H; obtain ⟨c36b0, c36b1, H⟩ := H
             replace H := bs_ H; obtain ⟨y534, Ny534, H⟩ := H; try dsimp only at H
             replace H := il_ H; obtain ⟨LMc37, H⟩ := H
             replace H := bs_ H; obtain ⟨y538, Ny538, H⟩ := H; try dsimp only at H
             replace H := bs_ H; obtain ⟨y541, Ny541, H⟩ := H; try dsimp only at H
             replace H := il_ H; obtain ⟨LMc38, H⟩ := H
             replace H := bs_ H; obtain ⟨y544, Ny544, H⟩ := H; try dsimp only at H
             have c39b0 := eq_true (ode_ : 0 ≤ x14_4)
             have c40b0 := eq_true (ode_ : x14_4 ≤ (x8_2.length : Int))
             replace H := bs_ H; obtain ⟨y547, Ny547, H⟩ := H; try dsimp only at H
             replace H := il_ H; obtain ⟨LMc41, H⟩ := H
             obtain ⟨y551, hy551⟩ : ∃ y_ : List ByteArray, y_ = (y544 ++ y547) := ⟨_, rfl⟩
             rw [← hy551] at H
             have Ny551 := aM_ hy551; clear hy551
             have H' := aM_ H
             clear H
             try go_wp2
             replace HO_8 := aM_ (Kd.R_drew HO_8.out)
             replace BK525 := aM_ (blk_drew BK525.out)
             replace HB := aM_ (below_drew1 HB.out)
             obtain ⟨Ao44, co44, eo44⟩ := rS_ HO_8
             (first | subst eo44 | (injection eo44 with f1_ f2_ f3_; have f4_ := f1_.symm; have f5_ := f3_.symm; clear f1_ f2_ f3_; subst f4_; subst f5_))
             have q43 : (x14_4 : Int) ≤ ((x8_2.length : Int) : Int) := ode_
             obtain ⟨i043, hi043, _, hsz43, _⟩ := info_parts info9
             have hroom43 : x8_2.length ≤ co44 := (Kd.R_reads' HO_8.out).2.1
             have hC43 : Kd.C Kd.string _ Ao44 x8_2.length x8_2 := (Kd.R_reads' HO_8.out).2.2
             have hcut43 := cut_to (P := Tryz.prog) 27 9 .i64 Tryz.underlying27 hi043 Ao44 x8_2.length co44 x14_4 ode_ q43 hroom43
             have hr43 := Kd.C_take (m := (x14_4 : Int).toNat) hC43 (by omega)
             have hy43 : y534.length = (x14_4 : Int).toNat := (by rw [Ny534.out, List.length_take]; omega)
             rw [← Ny534.out] at hr43
             rw [← hy43] at hcut43
             have HR537 := aM_ hr43
             have HC537 := aM_ (show y534.length ≤ co44 from by omega)
             clear hr43 hC43 hroom43 hi043 hsz43
             have KY43 := aM_ hy43
             clear hy43
             have KL43 := aM_ (show (x14_4 : Int).toNat ≤ x8_2.length from by omega)
             replace q43 := eq_true q43
             have q45 : (x14_4 : Int) ≤ ((x8_2.length : Int) : Int) := ode_
             obtain ⟨i045, hi045, _, hsz45, _⟩ := info_parts info9
             have hroom45 : x8_2.length ≤ co44 := (Kd.R_reads' HO_8.out).2.1
             have hC45 : Kd.C Kd.string _ Ao44 x8_2.length x8_2 := (Kd.R_reads' HO_8.out).2.2
             have q045 : (0 : Int) ≤ (x14_4 : Int) := ode_
             have hcut45 := cut_from (P := Tryz.prog) 27 9 .i64 Tryz.underlying27 hi045 1 hsz45 Ao44 x8_2.length co44 x14_4 q045 q45
             have hr45 := Kd.C_drop (m := (x14_4 : Int).toNat) (c := co44) hC45 (by omega) hroom45
             obtain ⟨A45, hA45⟩ : ∃ Ab_, Ab_ = (if co44 = (x14_4 : Int).toNat then Ao44 else (Ao44 : Option Addr).map (·.add ((x14_4 : Int).toNat * 1))) := ⟨_, rfl⟩
             obtain ⟨c45, hc45⟩ : ∃ cb_, cb_ = co44 - (x14_4 : Int).toNat := ⟨_, rfl⟩
             have hy45 : y547.length = x8_2.length - (x14_4 : Int).toNat := (by rw [Ny547.out, List.length_drop] <;> omega)
             rw [show (x8_2).drop (x14_4 : Int).toNat = y547 from Ny547.out.symm] at hr45
             replace hr45 : Kd.C Kd.string _ A45 y547.length y547 := (by rw [hA45]; exact hr45)
             rw [← hy45, ← hA45, ← hc45] at hcut45
             have HR550 := aM_ hr45
             have HC550 := aM_ (show y547.length ≤ c45 from by rw [hy45, hc45]; exact Nat.sub_le_sub_right hroom45 _)
             clear hr45 hC45 hroom45 hi045 hsz45 hc45
             have KY45 := aM_ hy45
             have KA45 := aM_ hA45
             clear hy45 hA45
             have KL45 := aM_ (show (x14_4 : Int).toNat ≤ x8_2.length from by omega)
             replace q45 := eq_true q45
             refine st_ 13 (fun w' => True) [] Fad.tab13 Fad.bits13 trivial fun hHeld HT_ HW_ => ?_
             generalize wc.drew = w42 at HO_8 BK525 HB HR537 HR550 hHeld ⊢
             refine pu_ 1 72 ?_
             refine pu_ 2 73 ?_
             refine pu_ 3 74 ?_
             refine pu_ 5 76 ?_
             refine pu_ 8 79 ?_
             refine pu_ 9 80 ?_
             refine pu_ 10 81 ?_
             refine join_ (σ := Value × Value × Value) 3 (bz_ 13 0x77f) (fun s_ => [(71, s_.1), (75, s_.2.1), (77, s_.2.2)]) (fun s_ w' => (Kd.R Kd.string 9 w' w.heap.size (fun k_ => some k_ ≠ (s_.2.2 : Value).ownBlock ∧ some k_ ≠ (.slice Ao44 x8_2.length co44 : Value).ownBlock) s_.2.1 y538) ∧ (Kd.R Kd.string 9 w' w.heap.size (fun k_ => some k_ ≠ (s_.2.1 : Value).ownBlock ∧ some k_ ≠ (.slice Ao44 x8_2.length co44 : Value).ownBlock) s_.2.2 y541) ∧ (Kd.R Kd.string 9 w' w.heap.size (fun k_ => some k_ ≠ (s_.2.1 : Value).ownBlock ∧ some k_ ≠ (s_.2.2 : Value).ownBlock) (.slice Ao44 x8_2.length co44) x8_2) ∧ (w'.heap[gb525]? = some (.cells #[.string ((rd_T40 l1 x26_2).f0), .int .i64 ((rd_T40 l1 x26_2).f1), .int .i64 ((rd_T40 l1 x26_2).f2)] 40 (0, 0))) ∧ (Below w.heap.size w w') ∧ (Kd.C Kd.string w' Ao44 y534.length y534) ∧ (Kd.C Kd.string w' A45 y547.length y547)) ?_ ?_
             rotate_left
             ·intro hCont
              refine two_ (i := 0) (j := 6) (Ni := some 71) (Nj := some 77) (bz_ 13 0x72f) (bz_ 13 0x76e) rfl rfl rfl rfl (two_of HT_.out (by kernel_rfl)) (by decide) (by decide) (fun K hK => ?_) (fun K hK => ?_)
              ·skip
               refine Kd.R_lit_step Kd.string _ 9 ?hg (N := 71) ?hd (xs := ([] : List ByteArray)) (inner := []) (ok := fun _ => True) (okp := fun _ => True) ?hr ?hp (fun _ hk => hk) trivial (Below.refl _ _) (Nat.le_refl _) (by simp) ?_; (case hd => rfl); (case hg => rfl); (case hr => first | (go_simp; done) | (go_simp; rfl)); (case hp => exact (Reps.none _ _))
               intro v532 w46 ho47 hb hg_ hnew_
               clear hg_ hnew_
               (first | rw [← Ny531.out] at ho47 | (simp only [Int.reduceToNat] at ho47; rw [← Ny531.out] at ho47))
               have HO533 := aM_ (Kd.R_lower (Kd.R_new' ho47 (Kd.R_lt (rR_ HO_8))) (below_size hB_))
               replace HO_8 := rE_ HO_8 ho47 hb
               replace BK525 := kB_ BK525 hb
               replace HR537 := cB_ HR537 hb
               replace HR550 := cB_ HR550 hb
               replace HB := bS_ hb
               clear hb ho47
               refine hK.out _ _ trivial (fun hHeld => ?_)
               clear hK K
               refine nm_ 71 ?_
               refine two_ (i := 4) (j := 6) (Ni := some 75) (Nj := some 77) (bz_ 13 0x73f) (bz_ 13 0x76f) rfl rfl rfl rfl (two_of HT_.out (by kernel_rfl)) (by decide) (by decide) (fun K hK => ?_) (fun K hK => ?_)
               ·skip
                refine Kd.R_append_rows_step Kd.string (w0 := w) w.heap.size (by rfl) (.tmp 71) (.tmp 74) 27 9 (.string ⟨#[]⟩) 16 rfl Tryz.underlying27 info9 rfl (by decide) (by omega) v532 y531 y534 _ _ _ (fun k_ => some k_ ≠ (.slice Ao44 x8_2.length co44 : Value).ownBlock) (fun _ => False) rfl rfl ?aO ?aR (fun _ _ h => h) (fun _ h => h.elim) ?aF ?aB ?aS ?aL ?_
                (case aR => exact cC_ HR537)
                (case aB => exact hB_)
                (case aF => exact (fun k_ hk => Kd.fresh' (Kd.R_lt (rR_ HO_8)) k_ hk))
                (case aO => exact (rM_ HO533 (fun _ hk => hk.2)))
                (case aS => exact (below_size hB_))
                (case aL => have := LMc37.out; omega)
                intro v539 w48 ho hb hg hat
                rw [← Ny538.out] at ho
                have HO540 := aM_ (ho)
                replace BK525 := aM_ (blk_grown (g := gb525) (kR_ BK525) hg (Kd.R_ne HO533.out BK525.out (by decide)))
                replace HB := aM_ (hb)
                replace HR537 := aM_ ((show Kd.C Kd.string w48 Ao44 y534.length y534 from by rw [Ny534.out]; exact Kd.C_take (m := (x14_4 : Int).toNat) ((Kd.R_reads' (Kd.R_after (ok := (fun _ => True)) (rR_ HO_8) hg hat)).2.2) KL43.out))
                replace HR550 := aM_ ((show Kd.C Kd.string w48 A45 y547.length y547 from by rw [Ny547.out, KA45.out]; exact Kd.C_drop (m := (x14_4 : Int).toNat) (c := co44) ((Kd.R_reads' (Kd.R_after (ok := (fun _ => True)) (rR_ HO_8) hg hat)).2.2) KL45.out ((Kd.R_reads' (Kd.R_after (ok := (fun _ => True)) (rR_ HO_8) hg hat)).2.1)))
                replace HO_8 := aM_ (Kd.R_after (ok := (fun _ => True)) (rR_ HO_8) hg hat)
                clear HO533
                clear ho hb hg hat
                refine hK.out _ _ trivial (fun hHeld => ?_)
                clear hK K
                refine nm_ 75 ?_
                refine on_ 6 77 fun K hK => ?_
                refine Kd.R_lit_step Kd.string _ 9 ?hg (N := 77) ?hd (xs := ([t526] : List ByteArray)) (inner := [.string t526]) (ok := fun _ => True) (okp := fun _ => True) ?hr ?hp (fun _ hk => hk) trivial (Below.refl _ _) (Nat.le_refl _) (by simp) ?_; (case hd => rfl); (case hg => rfl); (case hr => first | (go_simp; done) | (go_simp; rfl)); (case hp => exact (Reps.one (show Kd.M Kd.string _ _ _ t526 [.string t526] from rfl) (Reps.none _ _)))
                intro v542 w49 ho50 hb hg_ hnew_
                clear hg_ hnew_
                (first | rw [← Ny541.out] at ho50 | (simp only [Int.reduceToNat] at ho50; rw [← Ny541.out] at ho50))
                have HO543 := aM_ (Kd.R_lower (Kd.R_new' (Kd.R_new' ho50 (Kd.R_lt (rR_ HO_8))) (Kd.R_lt (rR_ HO540))) (below_size hB_))
                replace HO_8 := rE_ HO_8 ho50 hb
                replace HO540 := rE_ HO540 ho50 hb
                replace BK525 := kB_ BK525 hb
                replace HR537 := cB_ HR537 hb
                replace HR550 := cB_ HR550 hb
                replace HB := bS_ hb
                clear hb ho50
                refine hK.out _ _ trivial (fun hHeld => ?_)
                clear hK K
                refine nm_ 77 ?_
                exact norm_ z14_7_ (hCont (v532, v539, v542) _ ⟨(rM_ HO540 (fun _ hk => ⟨hk.2, hk.1⟩)), (rM_ HO543 (fun _ hk => ⟨hk.2, hk.1.2⟩)), (rM_ HO_8 (fun _ hk => ⟨hk.1.2, hk.2⟩)), (kR_ BK525), hB_, (cC_ HR537), (cC_ HR550)⟩)
               ·skip
                refine Kd.R_lit_step Kd.string _ 9 ?hg (N := 77) ?hd (xs := ([t526] : List ByteArray)) (inner := [.string t526]) (ok := fun _ => True) (okp := fun _ => True) ?hr ?hp (fun _ hk => hk) trivial (Below.refl _ _) (Nat.le_refl _) (by simp) ?_; (case hd => rfl); (case hg => rfl); (case hr => first | (go_simp; done) | (go_simp; rfl)); (case hp => exact (Reps.one (show Kd.M Kd.string _ _ _ t526 [.string t526] from rfl) (Reps.none _ _)))
                intro v542 w48 ho49 hb hg_ hnew_
                clear hg_ hnew_
                (first | rw [← Ny541.out] at ho49 | (simp only [Int.reduceToNat] at ho49; rw [← Ny541.out] at ho49))
                have HO543 := aM_ (Kd.R_lower (Kd.R_new' (Kd.R_new' ho49 (Kd.R_lt (rR_ HO_8))) (Kd.R_lt (rR_ HO533))) (below_size hB_))
                replace HO_8 := rE_ HO_8 ho49 hb
                replace HO533 := rE_ HO533 ho49 hb
                replace BK525 := kB_ BK525 hb
                replace HR537 := cB_ HR537 hb
                replace HR550 := cB_ HR550 hb
                replace HB := bS_ hb
                clear hb ho49
                refine hK.out _ _ trivial (fun hHeld => ?_)
                clear hK K
                refine nm_ 77 ?_
                refine on_ 4 75 fun K hK => ?_
                refine Kd.R_append_rows_step Kd.string (w0 := w) w.heap.size (by rfl) (.tmp 71) (.tmp 74) 27 9 (.string ⟨#[]⟩) 16 rfl Tryz.underlying27 info9 rfl (by decide) (by omega) v532 y531 y534 _ _ _ (fun k_ => some k_ ≠ (.slice Ao44 x8_2.length co44 : Value).ownBlock ∧ some k_ ≠ (v542 : Value).ownBlock) (fun _ => False) rfl rfl ?aO ?aR (fun _ _ h => h) (fun _ h => h.elim) ?aF ?aB ?aS ?aL ?_
                (case aR => exact cC_ HR537)
                (case aB => exact hB_)
                (case aF => exact (fun k_ hk => ⟨Kd.fresh' (Kd.R_lt (rR_ HO_8)) k_ hk, Kd.fresh' (Kd.R_lt (rR_ HO543)) k_ hk⟩))
                (case aO => exact (rM_ HO533 (fun _ hk => ⟨hk.1.2, hk.2⟩)))
                (case aS => exact (below_size hB_))
                (case aL => have := LMc37.out; omega)
                intro v539 w50 ho hb hg hat
                rw [← Ny538.out] at ho
                have HO540 := aM_ (ho)
                replace BK525 := aM_ (blk_grown (g := gb525) (kR_ BK525) hg (Kd.R_ne HO533.out BK525.out (by decide)))
                replace HO543 := aM_ (Kd.R_after (ok := (fun k_ => some k_ ≠ (.slice Ao44 x8_2.length co44 : Value).ownBlock)) (rM_ HO543 (fun _ hk => ⟨hk.1.2, hk.2⟩)) hg hat)
                replace HB := aM_ (hb)
                replace HR537 := aM_ ((show Kd.C Kd.string w50 Ao44 y534.length y534 from by rw [Ny534.out]; exact Kd.C_take (m := (x14_4 : Int).toNat) ((Kd.R_reads' (Kd.R_after (ok := (fun k_ => some k_ ≠ (v542 : Value).ownBlock)) (rM_ HO_8 (fun _ hk => ⟨hk.2, hk.1.2⟩)) hg hat)).2.2) KL43.out))
                replace HR550 := aM_ ((show Kd.C Kd.string w50 A45 y547.length y547 from by rw [Ny547.out, KA45.out]; exact Kd.C_drop (m := (x14_4 : Int).toNat) (c := co44) ((Kd.R_reads' (Kd.R_after (ok := (fun k_ => some k_ ≠ (v542 : Value).ownBlock)) (rM_ HO_8 (fun _ hk => ⟨hk.2, hk.1.2⟩)) hg hat)).2.2) KL45.out ((Kd.R_reads' (Kd.R_after (ok := (fun k_ => some k_ ≠ (v542 : Value).ownBlock)) (rM_ HO_8 (fun _ hk => ⟨hk.2, hk.1.2⟩)) hg hat)).2.1)))
                replace HO_8 := aM_ (Kd.R_after (ok := (fun k_ => some k_ ≠ (v542 : Value).ownBlock)) (rM_ HO_8 (fun _ hk => ⟨hk.2, hk.1.2⟩)) hg hat)
                clear HO533
                clear ho hb hg hat
                refine hK.out _ _ trivial (fun hHeld => ?_)
                clear hK K
                refine nm_ 75 ?_
                exact norm_ z14_7_ (hCont (v532, v539, v542) _ ⟨(rM_ HO540 (fun _ hk => ⟨hk.2, hk.1⟩)), (rM_ HO543 (fun _ hk => ⟨hk.2, hk.1⟩)), (rM_ HO_8 (fun _ hk => ⟨hk.2, hk.1⟩)), (kR_ BK525), hB_, (cC_ HR537), (cC_ HR550)⟩)
              ·skip
               refine Kd.R_lit_step Kd.string _ 9 ?hg (N := 77) ?hd (xs := ([t526] : List ByteArray)) (inner := [.string t526]) (ok := fun _ => True) (okp := fun _ => True) ?hr ?hp (fun _ hk => hk) trivial (Below.refl _ _) (Nat.le_refl _) (by simp) ?_; (case hd => rfl); (case hg => rfl); (case hr => first | (go_simp; done) | (go_simp; rfl)); (case hp => exact (Reps.one (show Kd.M Kd.string _ _ _ t526 [.string t526] from rfl) (Reps.none _ _)))
               intro v542 w46 ho47 hb hg_ hnew_
               clear hg_ hnew_
               (first | rw [← Ny541.out] at ho47 | (simp only [Int.reduceToNat] at ho47; rw [← Ny541.out] at ho47))
               have HO543 := aM_ (Kd.R_lower (Kd.R_new' ho47 (Kd.R_lt (rR_ HO_8))) (below_size hB_))
               replace HO_8 := rE_ HO_8 ho47 hb
               replace BK525 := kB_ BK525 hb
               replace HR537 := cB_ HR537 hb
               replace HR550 := cB_ HR550 hb
               replace HB := bS_ hb
               clear hb ho47
               refine hK.out _ _ trivial (fun hHeld => ?_)
               clear hK K
               refine nm_ 77 ?_
               refine on_ 0 71 fun K hK => ?_
               refine Kd.R_lit_step Kd.string _ 9 ?hg (N := 71) ?hd (xs := ([] : List ByteArray)) (inner := []) (ok := fun _ => True) (okp := fun _ => True) ?hr ?hp (fun _ hk => hk) trivial (Below.refl _ _) (Nat.le_refl _) (by simp) ?_; (case hd => rfl); (case hg => rfl); (case hr => first | (go_simp; done) | (go_simp; rfl)); (case hp => exact (Reps.none _ _))
               intro v532 w48 ho49 hb hg_ hnew_
               clear hg_ hnew_
               (first | rw [← Ny531.out] at ho49 | (simp only [Int.reduceToNat] at ho49; rw [← Ny531.out] at ho49))
               have HO533 := aM_ (Kd.R_lower (Kd.R_new' (Kd.R_new' ho49 (Kd.R_lt (rR_ HO_8))) (Kd.R_lt (rR_ HO543))) (below_size hB_))
               replace HO_8 := rE_ HO_8 ho49 hb
               replace HO543 := rE_ HO543 ho49 hb
               replace BK525 := kB_ BK525 hb
               replace HR537 := cB_ HR537 hb
               replace HR550 := cB_ HR550 hb
               replace HB := bS_ hb
               clear hb ho49
               refine hK.out _ _ trivial (fun hHeld => ?_)
               clear hK K
               refine nm_ 71 ?_
               refine on_ 4 75 fun K hK => ?_
               refine Kd.R_append_rows_step Kd.string (w0 := w) w.heap.size (by rfl) (.tmp 71) (.tmp 74) 27 9 (.string ⟨#[]⟩) 16 rfl Tryz.underlying27 info9 rfl (by decide) (by omega) v532 y531 y534 _ _ _ (fun k_ => some k_ ≠ (.slice Ao44 x8_2.length co44 : Value).ownBlock ∧ some k_ ≠ (v542 : Value).ownBlock) (fun _ => False) rfl rfl ?aO ?aR (fun _ _ h => h) (fun _ h => h.elim) ?aF ?aB ?aS ?aL ?_
               (case aR => exact cC_ HR537)
               (case aB => exact hB_)
               (case aF => exact (fun k_ hk => ⟨Kd.fresh' (Kd.R_lt (rR_ HO_8)) k_ hk, Kd.fresh' (Kd.R_lt (rR_ HO543)) k_ hk⟩))
               (case aO => exact (rM_ HO533 (fun _ hk => ⟨hk.1.2, hk.2⟩)))
               (case aS => exact (below_size hB_))
               (case aL => have := LMc37.out; omega)
               intro v539 w50 ho hb hg hat
               rw [← Ny538.out] at ho
               have HO540 := aM_ (ho)
               replace BK525 := aM_ (blk_grown (g := gb525) (kR_ BK525) hg (Kd.R_ne HO533.out BK525.out (by decide)))
               replace HO543 := aM_ (Kd.R_after (ok := (fun k_ => some k_ ≠ (.slice Ao44 x8_2.length co44 : Value).ownBlock)) (rM_ HO543 (fun _ hk => ⟨hk.1.2, hk.2⟩)) hg hat)
               replace HB := aM_ (hb)
               replace HR537 := aM_ ((show Kd.C Kd.string w50 Ao44 y534.length y534 from by rw [Ny534.out]; exact Kd.C_take (m := (x14_4 : Int).toNat) ((Kd.R_reads' (Kd.R_after (ok := (fun k_ => some k_ ≠ (v542 : Value).ownBlock)) (rM_ HO_8 (fun _ hk => ⟨hk.1.2, hk.2⟩)) hg hat)).2.2) KL43.out))
               replace HR550 := aM_ ((show Kd.C Kd.string w50 A45 y547.length y547 from by rw [Ny547.out, KA45.out]; exact Kd.C_drop (m := (x14_4 : Int).toNat) (c := co44) ((Kd.R_reads' (Kd.R_after (ok := (fun k_ => some k_ ≠ (v542 : Value).ownBlock)) (rM_ HO_8 (fun _ hk => ⟨hk.1.2, hk.2⟩)) hg hat)).2.2) KL45.out ((Kd.R_reads' (Kd.R_after (ok := (fun k_ => some k_ ≠ (v542 : Value).ownBlock)) (rM_ HO_8 (fun _ hk => ⟨hk.1.2, hk.2⟩)) hg hat)).2.1)))
               replace HO_8 := aM_ (Kd.R_after (ok := (fun k_ => some k_ ≠ (v542 : Value).ownBlock)) (rM_ HO_8 (fun _ hk => ⟨hk.1.2, hk.2⟩)) hg hat)
               clear HO533
               clear ho hb hg hat
               refine hK.out _ _ trivial (fun hHeld => ?_)
               clear hK K
               refine nm_ 75 ?_
               exact norm_ z14_7_ (hCont (v532, v539, v542) _ ⟨(rM_ HO540 (fun _ hk => ⟨hk.2, hk.1⟩)), (rM_ HO543 (fun _ hk => ⟨hk.2, hk.1⟩)), (rM_ HO_8 (fun _ hk => ⟨hk.2, hk.1⟩)), (kR_ BK525), hB_, (cC_ HR537), (cC_ HR550)⟩)
             rintro ⟨v532, v539, v542⟩ w51 ⟨h0_, h1_, h2_, h3_, h4_, h5_, h6_⟩
             try dsimp only at h0_ h1_ h2_ h3_ h4_ h5_ h6_
             have n0_ := aM_ h0_; have n1_ := aM_ h1_; have n2_ := aM_ h2_; have n3_ := aM_ h3_; have n4_ := aM_ h4_; have n5_ := aM_ h5_; have n6_ := aM_ h6_
             clear HO_8
             clear BK525
             clear HB
             clear h0_ h1_ h2_ h3_ h4_ h5_ h6_
             have HO540 := n0_
             have HO543 := n1_
             have HO_8 := n2_
             have BK525 := n3_
             have HB := n4_
             have HR537 := n5_
             have HR550 := n6_
             clear n0_ n1_ n2_ n3_ n4_ n5_ n6_
             have hHeld := trivial
             obtain ⟨Ao53, co53, eo53⟩ := rS_ HO543
             (first | subst eo53 | (injection eo53 with f1_ f2_ f3_; have f4_ := f1_.symm; have f5_ := f3_.symm; clear f1_ f2_ f3_; subst f4_; subst f5_))
             refine norm_ (a' := ?_) ?_ ?_
             rotate_left
             ·simp only [putAll, Act.put, List.setIfInBounds_toArray, List.set_cons_zero, List.set_cons_succ]
              rfl
             refine on_ 7 78 fun K hK => ?_
             refine Kd.R_append_rows_step Kd.string (w0 := w) w.heap.size (by rfl) (.tmp 75) (.tmp 77) 27 9 (.string ⟨#[]⟩) 16 rfl Tryz.underlying27 info9 rfl (by decide) (by omega) v539 y538 y541 _ _ _ (fun k_ => some k_ ≠ (.slice Ao44 x8_2.length co44 : Value).ownBlock ∧ some k_ ≠ (.slice Ao53 y541.length co53 : Value).ownBlock) (fun _ => False) rfl rfl ?aO ?aR (fun _ _ h => h) (fun _ h => h.elim) ?aF ?aB ?aS ?aL ?_
             (case aR => exact cR_ HO543)
             (case aB => exact hB_)
             (case aF => exact (fun k_ hk => ⟨Kd.fresh' (Kd.R_lt (rR_ HO_8)) k_ hk, Kd.fresh' (Kd.R_lt (rR_ HO543)) k_ hk⟩))
             (case aO => exact (rM_ HO540 (fun _ hk => ⟨hk.2, hk.1⟩)))
             (case aS => exact (below_size hB_))
             (case aL => have := LMc38.out; omega)
             intro v545 w52 ho hb hg hat
             rw [← Ny544.out] at ho
             have HO546 := aM_ (ho)
             replace BK525 := aM_ (blk_grown (g := gb525) (kR_ BK525) hg (Kd.R_ne HO540.out BK525.out (by decide)))
             replace HO543 := aM_ (Kd.R_after (ok := (fun k_ => some k_ ≠ (.slice Ao44 x8_2.length co44 : Value).ownBlock)) (rM_ HO543 (fun _ hk => ⟨hk.2, hk.1⟩)) hg hat)
             replace HB := aM_ (hb)
             replace HR537 := aM_ ((show Kd.C Kd.string w52 Ao44 y534.length y534 from by rw [Ny534.out]; exact Kd.C_take (m := (x14_4 : Int).toNat) ((Kd.R_reads' (Kd.R_after (ok := (fun k_ => some k_ ≠ (.slice Ao53 y541.length co53 : Value).ownBlock)) (rM_ HO_8 (fun _ hk => ⟨hk.2, hk.1⟩)) hg hat)).2.2) KL43.out))
             replace HR550 := aM_ ((show Kd.C Kd.string w52 A45 y547.length y547 from by rw [Ny547.out, KA45.out]; exact Kd.C_drop (m := (x14_4 : Int).toNat) (c := co44) ((Kd.R_reads' (Kd.R_after (ok := (fun k_ => some k_ ≠ (.slice Ao53 y541.length co53 : Value).ownBlock)) (rM_ HO_8 (fun _ hk => ⟨hk.2, hk.1⟩)) hg hat)).2.2) KL45.out ((Kd.R_reads' (Kd.R_after (ok := (fun k_ => some k_ ≠ (.slice Ao53 y541.length co53 : Value).ownBlock)) (rM_ HO_8 (fun _ hk => ⟨hk.2, hk.1⟩)) hg hat)).2.1)))
             replace HO_8 := aM_ (Kd.R_after (ok := (fun k_ => some k_ ≠ (.slice Ao53 y541.length co53 : Value).ownBlock)) (rM_ HO_8 (fun _ hk => ⟨hk.2, hk.1⟩)) hg hat)
             clear HO540
             clear ho hb hg hat
             refine hK.out _ _ trivial (fun hHeld => ?_)
             clear hK K
             refine nm_ 78 ?_
             refine on_ 11 82 fun K hK => ?_
             refine Kd.R_append_rows_step Kd.string (w0 := w) w.heap.size (by rfl) (.tmp 78) (.tmp 81) 27 9 (.string ⟨#[]⟩) 16 rfl Tryz.underlying27 info9 rfl (by decide) (by omega) v545 y544 y547 _ _ _ (fun k_ => some k_ ≠ (.slice Ao44 x8_2.length co44 : Value).ownBlock ∧ some k_ ≠ (.slice Ao53 y541.length co53 : Value).ownBlock) (fun _ => False) rfl rfl ?aO ?aR (fun _ _ h => h) (fun _ h => h.elim) ?aF ?aB ?aS ?aL ?_
             (case aR => exact cC_ HR550)
             (case aB => exact hB_)
             (case aF => exact (fun k_ hk => ⟨Kd.fresh' (Kd.R_lt (rR_ HO_8)) k_ hk, Kd.fresh' (Kd.R_lt (rR_ HO543)) k_ hk⟩))
             (case aO => exact (rR_ HO546))
             (case aS => exact (below_size hB_))
             (case aL => have := LMc41.out; omega)
             intro v552 w54 ho hb hg hat
             rw [← Ny551.out] at ho
             have HO553 := aM_ (ho)
             replace BK525 := aM_ (blk_grown (g := gb525) (kR_ BK525) hg (Kd.R_ne HO546.out BK525.out (by decide)))
             replace HO543 := aM_ (Kd.R_after (ok := (fun k_ => some k_ ≠ (.slice Ao44 x8_2.length co44 : Value).ownBlock)) (rR_ HO543) hg hat)
             replace HB := aM_ (hb)
             replace HR537 := aM_ ((show Kd.C Kd.string w54 Ao44 y534.length y534 from by rw [Ny534.out]; exact Kd.C_take (m := (x14_4 : Int).toNat) ((Kd.R_reads' (Kd.R_after (ok := (fun k_ => some k_ ≠ (.slice Ao53 y541.length co53 : Value).ownBlock)) (rR_ HO_8) hg hat)).2.2) KL43.out))
             replace HR550 := aM_ ((show Kd.C Kd.string w54 A45 y547.length y547 from by rw [Ny547.out, KA45.out]; exact Kd.C_drop (m := (x14_4 : Int).toNat) (c := co44) ((Kd.R_reads' (Kd.R_after (ok := (fun k_ => some k_ ≠ (.slice Ao53 y541.length co53 : Value).ownBlock)) (rR_ HO_8) hg hat)).2.2) KL45.out ((Kd.R_reads' (Kd.R_after (ok := (fun k_ => some k_ ≠ (.slice Ao53 y541.length co53 : Value).ownBlock)) (rR_ HO_8) hg hat)).2.1)))
             replace HO_8 := aM_ (Kd.R_after (ok := (fun k_ => some k_ ≠ (.slice Ao53 y541.length co53 : Value).ownBlock)) (rR_ HO_8) hg hat)
             clear HO546
             clear ho hb hg hat
             refine hK.out _ _ trivial (fun hHeld => ?_)
             clear hK K
             refine nm_ 82 ?_
             refine pu_ 12 8 ?_
             refine dn_ ?_
             try go_wp2
             go_roundg kj27
             case measure => have := HJ3.out; have := HK2.out; have := HJ14.out; have := HK4.out; have := HJ21.out; have := HJ27.out; omega
             case rel => exact ⟨(y551), (wrap64 (x26_2 + 1)), z14_2_, H', ⟨z14_6_⟩, ⟨rT1_ HO553⟩, ⟨hB_⟩⟩

end Go.Proofs.YtbfkpgmdbafmhaaGreat.PFnVerbRuns
