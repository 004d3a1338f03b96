/- Printed for this claim: functions of the program as Lean functions, and that the calls answer so. -/
import Derived.Test.YtbheajjagkdjmaaPFnLocix0
import Derived.Test.YtbheajjagkdjmaaPFnLocixD0
namespace Go.Proofs.Ytbheajjagkdjmaa.PFnLoci
open Go.RowKit Go.Proofs.YtbheajjagkdjmaaW.PrintWords Go.Proofs.YtbheajjagkdjmaaW.PrintLast Go.Proofs.YtbheajjagkdjmaaW.PrintMore
attribute [local go_sem] max2_int min2_int max_two min_two max_three min_three max_four min_four isSome_setCell   -- for this text's walks alone
theorem y5_0_ {p : Prop} (h : p := by (with_reducible repeat (first | apply rA_ | apply rN_ | apply rD_)); exact HO155.out) : p := h
theorem y5_1_ {p : Prop} (h : p := by simp only [putAll, Act.put, List.setIfInBounds_toArray, List.set_cons_zero, List.set_cons_succ]) : p := h
theorem y5_2_ {p : Prop} (h : p := by (with_reducible repeat (first | apply rA_ | apply rN_ | apply rD_)); exact Kd.R_mono HO158.out (fun _ hk => ⟨hk.1.2, hk.2⟩)) : p := h
theorem y5_3_ {p : Prop} (h : p := by (with_reducible repeat (first | apply kN_ | apply kD_ | apply kA_)); exact BK121.out) : p := h
theorem y5_4_ {p : Prop} (h : p := by (with_reducible repeat (first | apply rA_ | apply rN_ | apply rD_)); exact HO148.out) : p := h
theorem y5_5_ {p : Prop} (h : p := by (with_reducible repeat (first | apply rA_ | apply rN_ | apply rD_)); exact HO158.out) : p := h
theorem y5_6_ {p : Prop} (h : p := by (with_reducible repeat (first | apply rA_ | apply rN_ | apply rD_)); exact Kd.R_mono HO158.out (fun _ hk => ⟨hk.2, hk.1⟩)) : p := h
theorem y5_7_ {p : Prop} (h : p := by (with_reducible repeat (first | apply rA_ | apply rN_ | apply rD_)); exact HO132.out) : p := h
theorem y5_8_ {p : Prop} (h : p := by (with_reducible repeat (first | apply rA_ | apply rN_ | apply rD_)); exact Kd.R_mono HO135.out (fun _ hk => ⟨hk.1.2, hk.2⟩)) : p := h
theorem y5_9_ {p : Prop} (h : p := by (with_reducible repeat (first | apply rA_ | apply rN_ | apply rD_)); exact HO125.out) : p := h
theorem y5_10_ {p : Prop} (h : p := by (with_reducible repeat (first | apply rA_ | apply rN_ | apply rD_)); exact HO135.out) : p := h
theorem y5_11_ {p : Prop} (h : p := by (with_reducible repeat (first | apply rA_ | apply rN_ | apply rD_)); exact Kd.R_mono HO135.out (fun _ hk => ⟨hk.2, hk.1⟩)) : p := h
abbrev b5_13_0 : Array Bool := #[false, false, false, false, false, false, false, false, false, false, false, false, false]
abbrev b5_13_10e : Array Bool := #[false, true, true, true, false, false, false, false, true, false, false, false, false]
abbrev b5_13_1fff : Array Bool := #[true, true, true, true, true, true, true, true, true, true, true, true, true]
abbrev b5_13_2 : Array Bool := #[false, true, false, false, false, false, false, false, false, false, false, false, false]
abbrev b5_13_30e : Array Bool := #[false, true, true, true, false, false, false, false, true, true, false, false, false]
abbrev b5_13_6 : Array Bool := #[false, true, true, false, false, false, false, false, false, false, false, false, false]
abbrev b5_13_70e : Array Bool := #[false, true, true, true, false, false, false, false, true, true, true, false, false]
abbrev b5_13_72e : Array Bool := #[false, true, true, true, false, true, false, false, true, true, true, false, false]
abbrev b5_13_72f : Array Bool := #[true, true, true, true, false, true, false, false, true, true, true, false, false]
abbrev b5_13_73f : Array Bool := #[true, true, true, true, true, true, false, false, true, true, true, false, false]
abbrev b5_13_76e : Array Bool := #[false, true, true, true, false, true, true, false, true, true, true, false, false]
abbrev b5_13_76f : Array Bool := #[true, true, true, true, false, true, true, false, true, true, true, false, false]
abbrev b5_13_77f : Array Bool := #[true, true, true, true, true, true, true, false, true, true, true, false, false]
abbrev b5_13_7ff : Array Bool := #[true, true, true, true, true, true, true, true, true, true, true, false, false]
abbrev b5_13_e : Array Bool := #[false, true, true, true, false, false, false, false, false, false, false, false, false]
abbrev b5_13_fff : Array Bool := #[true, true, true, true, true, true, true, true, true, true, true, true, false]
abbrev b5_14_0 : Array Bool := #[false, false, false, false, false, false, false, false, false, false, false, false, false, false]
abbrev b5_14_1 : Array Bool := #[true, false, false, false, false, false, false, false, false, false, false, false, false, false]
abbrev b5_14_1f : Array Bool := #[true, true, true, true, true, false, false, false, false, false, false, false, false, false]
abbrev b5_14_1ff : Array Bool := #[true, true, true, true, true, true, true, true, true, false, false, false, false, false]
abbrev b5_14_1fff : Array Bool := #[true, true, true, true, true, true, true, true, true, true, true, true, true, false]
abbrev b5_14_3 : Array Bool := #[true, true, false, false, false, false, false, false, false, false, false, false, false, false]
abbrev b5_14_3f : Array Bool := #[true, true, true, true, true, true, false, false, false, false, false, false, false, false]
abbrev b5_14_3ff : Array Bool := #[true, true, true, true, true, true, true, true, true, true, false, false, false, false]
abbrev b5_14_3fff : Array Bool := #[true, true, true, true, true, true, true, true, true, true, true, true, true, true]
abbrev b5_14_5ff : Array Bool := #[true, true, true, true, true, true, true, true, true, false, true, false, false, false]
abbrev b5_14_7 : Array Bool := #[true, true, true, false, false, false, false, false, false, false, false, false, false, false]
abbrev b5_14_7f : Array Bool := #[true, true, true, true, true, true, true, false, false, false, false, false, false, false]
abbrev b5_14_7ff : Array Bool := #[true, true, true, true, true, true, true, true, true, true, true, false, false, false]
abbrev b5_14_f : Array Bool := #[true, true, true, true, false, false, false, false, false, false, false, false, false, false]
abbrev b5_14_ff : Array Bool := #[true, true, true, true, true, true, true, true, false, false, false, false, false, false]
abbrev b5_14_fff : Array Bool := #[true, true, true, true, true, true, true, true, true, true, true, true, false, false]
set_option linter.unusedVariables false
set_option linter.unusedSimpArgs false

/-! ### spec_loPut: function 43 -/
def spec_loPut.T2 : Bool × List (List Nat × List Nat) := (true, [([], []), ([], []), ([1], [1]), ([0, 2], [0, 2]), ([3], [3]), ([4], [4]), ([4], [4]), ([5, 6, 4], [4, 5, 6]), ([7, 4], [4, 7]), ([8, 4], [4, 8]), ([4], [4]), ([10, 4], [4, 10]), ([9, 11, 4], [4, 9, 11]), ([4, 12], [4, 12])])
def spec_loPut.B2 : List Nat := [0, 0, 2, 7, 15, 31, 31, 127, 255, 511, 31, 1055, 4095, 8191]
theorem spec_loPut.tab2 : rtab .any (opsOf Try.f43 2) = spec_loPut.T2 := by kernel_rfl
theorem spec_loPut.bits2 : waitsOk spec_loPut.T2.2 spec_loPut.B2 = true := by kernel_rfl
def spec_loPut.T4 : Bool × List (List Nat × List Nat) := (true, [([], []), ([], []), ([], []), ([1, 2], [1, 2]), ([0, 3], [0, 3]), ([], []), ([5], [5]), ([4, 6, 4], [4, 6]), ([], []), ([], []), ([8, 9], [8, 9]), ([7, 10, 7], [7, 10]), ([11, 11, 0, 1, 2, 3, 4, 5, 6, 7, 8, 9, 10, 11], [11])])
def spec_loPut.B4 : List Nat := [0, 0, 0, 6, 15, 0, 32, 127, 0, 0, 768, 2047, 4095]
theorem spec_loPut.tab4 : rtab .any (opsOf Try.f43 4) = spec_loPut.T4 := by kernel_rfl
theorem spec_loPut.bits4 : waitsOk spec_loPut.T4.2 spec_loPut.B4 = true := by kernel_rfl
set_option maxHeartbeats 8000000 in
set_option maxRecDepth 100000 in
theorem spec_loPut.calls (k : Nat) (A0 : Option Addr) (c0 : Nat) (l0 : List (S55)) (a1_0 : ByteArray) (a1_1 : Int) (r : List (S55)) (w : World) (hr0 : Kd.C k55 w A0 l0.length l0) (hc0 : l0.length ≤ c0) (h : spec_loPut.f k l0 a1_0 a1_1 = some r) :
 Calls Try.prog 43 #[.slice A0 l0.length c0, .agg #[.string a1_0, .int .i64 a1_1]] w fun e w' => ∃ v0_ : Value, e = .returned (v0_) ∧ Kd.R k55 55 w' w.heap.size (fun _ => True) v0_ r ∧ Below w.heap.size w w' := by
 have hu55 := Try.underlying55
 have HR0 := Aside0.mk hr0
 have HC0 := Aside0.mk hc0
 clear hr0 hc0
 have HB := Aside0.mk (Below.refl w.heap.size w)
 have H : (spec_loPut.l0 k l0 0 a1_0 a1_1) = some r := h
 clear h
 have H' := Aside0.mk H
 clear H
 go_enter Try.func43, Try.ntmps43
 go_wp2_with (first | ((with_reducible refine gate_dst (N := 3) rfl ?_); refine box_event ?hg (N := 3) ?hd (cs := #[.string a1_0, .int .i64 a1_1]) (t := 55) ?hr ?_; (case hd => rfl); (case hg => rfl); (case hr => first | (go_simp; done) | (go_simp; rfl)); intro gb121 hg w3 hbox hb; have BK121 := aM_ (hbox); have GW121 := aM_ (gw_ w hg); have GE121 := aM_ (gw_ w hg); replace HB := aM_ (below_step hB_ hb); clear hb hbox hg))
 try simp only [Act.put, List.setIfInBounds_toArray, List.set_cons_zero, List.set_cons_succ]
 go_loopg [5] k (fun kq v5 w' => ∃ (x5_1 : Int), v5 = .int .i64 x5_1 ∧ Aside0 (spec_loPut.l0 kq l0 x5_1 a1_0 a1_1 = some r) ∧ Aside0 (kq ≤ k) ∧ Aside0 (w'.heap[gb121]? = some (.cells #[.string a1_0, .int .i64 a1_1] 55 (0, 0))) ∧ Aside0 (Below w.heap.size w w'))
 case atStart => exact ⟨(0), (by first | rfl | (simp; done) | (simp [*]; done)), H', ⟨Nat.le_refl _⟩, ⟨kP_⟩, ⟨hB_⟩⟩
 case round =>
  clear H'
  obtain ⟨x5_1, rfl, HA, HK1, BK121, HB⟩ := hrel
  cases gk with
  | zero => exact absurd HA.out (by simp [spec_loPut.l0])
  | succ k1 =>
   have H := HA.out
   clear HA
   simp only [spec_loPut.l0] at H
   by_cases c4 : x5_1 < (l0.length : Int)
   rotate_left
   ·rw [if_neg c4] at H
    have c4b0 : decide (x5_1 < (l0.length : Int)) = false := decide_eq_false c4
    clear c4
    obtain ⟨y146, hy146⟩ : ∃ y_ : List (S55), y_ = (([] : List (S55))) := ⟨_, rfl⟩
    replace H : (if 0 ≤ x5_1 then (if x5_1 ≤ (l0.length : Int) then ((some (l0.take (x5_1 : Int).toNat : List (S55))).bind fun y149 => (if y146.length + y149.length < 5864062014805 then ((some (y146 ++ y149 : List (S55))).bind fun y153 => ((some (([(⟨a1_0, a1_1⟩ : S55)] : List (S55)) : List (S55))).bind fun y156 => (if y153.length + y156.length < 5864062014805 then ((some (y153 ++ y156 : List (S55))).bind fun y159 => ((some (l0.drop (x5_1 : Int).toNat : List (S55))).bind fun y162 => (if y159.length + y162.length < 5864062014805 then (some (y159 ++ y162)) else (none)))) else (none)))) else (none))) else (none)) else (none)) = some r := by first | (rw [hy146]; with_reducible exact H) | (have H2_ := (Option.bind_some _ _).symm.trans H; rw [hy146]; with_reducible exact H2_) | (have H2_ := (Option.bind_some _ _).symm.trans H; with_reducible exact H2_) | with_reducible exact H | (rw [hy146]; exact H) | exact H
    have Ny146 := Aside0.mk hy146
    clear hy146
    by_cases c28 : 0 ≤ x5_1
    rotate_left
    ·rw [if_neg c28] at H
     exact absurd H (by simp)
    rw [if_pos c28] at H
    have c28b0 := eq_true c28
    have c28b1 : decide (0 ≤ x5_1) = true := decide_eq_true c28
    clear c28
    by_cases c29 : x5_1 ≤ (l0.length : Int)
    rotate_left
    ·rw [if_neg c29] at H
     exact absurd H (by simp)
    rw [if_pos c29] at H
    have c29b0 := eq_true c29
    have c29b1 : decide (x5_1 ≤ (l0.length : Int)) = true := decide_eq_true c29
    clear c29
    obtain ⟨y149, hy149⟩ : ∃ y_ : List (S55), y_ = (l0.take (x5_1 : Int).toNat) := ⟨_, rfl⟩
    replace H : (if y146.length + y149.length < 5864062014805 then ((some (y146 ++ y149 : List (S55))).bind fun y153 => ((some (([(⟨a1_0, a1_1⟩ : S55)] : List (S55)) : List (S55))).bind fun y156 => (if y153.length + y156.length < 5864062014805 then ((some (y153 ++ y156 : List (S55))).bind fun y159 => ((some (l0.drop (x5_1 : Int).toNat : List (S55))).bind fun y162 => (if y159.length + y162.length < 5864062014805 then (some (y159 ++ y162)) else (none)))) else (none)))) else (none)) = some r := by first | (rw [hy149]; with_reducible exact H) | (have H2_ := (Option.bind_some _ _).symm.trans H; rw [hy149]; with_reducible exact H2_) | (have H2_ := (Option.bind_some _ _).symm.trans H; with_reducible exact H2_) | with_reducible exact H | (rw [hy149]; exact H) | exact H
    have Ny149 := Aside0.mk hy149
    clear hy149
    by_cases c30 : y146.length + y149.length < 5864062014805
    rotate_left
    ·rw [if_neg c30] at H
     exact absurd H (by simp)
    rw [if_pos c30] at H
    have LMc30 := Aside0.mk c30
    clear c30
    obtain ⟨y153, hy153⟩ : ∃ y_ : List (S55), y_ = (y146 ++ y149) := ⟨_, rfl⟩
    replace H : ((some (([(⟨a1_0, a1_1⟩ : S55)] : List (S55)) : List (S55))).bind fun y156 => (if y153.length + y156.length < 5864062014805 then ((some (y153 ++ y156 : List (S55))).bind fun y159 => ((some (l0.drop (x5_1 : Int).toNat : List (S55))).bind fun y162 => (if y159.length + y162.length < 5864062014805 then (some (y159 ++ y162)) else (none)))) else (none))) = some r := by first | (rw [hy153]; with_reducible exact H) | (have H2_ := (Option.bind_some _ _).symm.trans H; rw [hy153]; with_reducible exact H2_) | (have H2_ := (Option.bind_some _ _).symm.trans H; with_reducible exact H2_) | with_reducible exact H | (rw [hy153]; exact H) | exact H
    have Ny153 := Aside0.mk hy153
    clear hy153
    obtain ⟨y156, hy156⟩ : ∃ y_ : List (S55), y_ = (([(⟨a1_0, a1_1⟩ : S55)] : List (S55))) := ⟨_, rfl⟩
    replace H : (if y153.length + y156.length < 5864062014805 then ((some (y153 ++ y156 : List (S55))).bind fun y159 => ((some (l0.drop (x5_1 : Int).toNat : List (S55))).bind fun y162 => (if y159.length + y162.length < 5864062014805 then (some (y159 ++ y162)) else (none)))) else (none)) = some r := by first | (rw [hy156]; with_reducible exact H) | (have H2_ := (Option.bind_some _ _).symm.trans H; rw [hy156]; with_reducible exact H2_) | (have H2_ := (Option.bind_some _ _).symm.trans H; with_reducible exact H2_) | with_reducible exact H | (rw [hy156]; exact H) | exact H
    have Ny156 := Aside0.mk hy156
    clear hy156
    by_cases c31 : y153.length + y156.length < 5864062014805
    rotate_left
    ·rw [if_neg c31] at H
     exact absurd H (by simp)
    rw [if_pos c31] at H
    have LMc31 := Aside0.mk c31
    clear c31
    obtain ⟨y159, hy159⟩ : ∃ y_ : List (S55), y_ = (y153 ++ y156) := ⟨_, rfl⟩
    replace H : ((some (l0.drop (x5_1 : Int).toNat : List (S55))).bind fun y162 => (if y159.length + y162.length < 5864062014805 then (some (y159 ++ y162)) else (none))) = some r := by first | (rw [hy159]; with_reducible exact H) | (have H2_ := (Option.bind_some _ _).symm.trans H; rw [hy159]; with_reducible exact H2_) | (have H2_ := (Option.bind_some _ _).symm.trans H; with_reducible exact H2_) | with_reducible exact H | (rw [hy159]; exact H) | exact H
    have Ny159 := Aside0.mk hy159
    clear hy159
    have c32b0 := eq_true (ode_ : 0 ≤ x5_1)
    have c33b0 := eq_true (ode_ : x5_1 ≤ (l0.length : Int))
    obtain ⟨y162, hy162⟩ : ∃ y_ : List (S55), y_ = (l0.drop (x5_1 : Int).toNat) := ⟨_, rfl⟩
    replace H : (if y159.length + y162.length < 5864062014805 then (some (y159 ++ y162)) else (none)) = some r := by first | (rw [hy162]; with_reducible exact H) | (have H2_ := (Option.bind_some _ _).symm.trans H; rw [hy162]; with_reducible exact H2_) | (have H2_ := (Option.bind_some _ _).symm.trans H; with_reducible exact H2_) | with_reducible exact H | (rw [hy162]; exact H) | exact H
    have Ny162 := Aside0.mk hy162
    clear hy162
    by_cases c34 : y159.length + y162.length < 5864062014805
    rotate_left
    ·rw [if_neg c34] at H
     exact absurd H (by simp)
    rw [if_pos c34] at H
    have LMc34 := Aside0.mk c34
    clear c34
    obtain ⟨y166, hy166⟩ : ∃ y_ : List (S55), y_ = (y159 ++ y162) := ⟨_, rfl⟩
    replace H : (some y166) = some r := by first | (rw [hy166]; with_reducible exact H) | (have H2_ := (Option.bind_some _ _).symm.trans H; rw [hy166]; with_reducible exact H2_) | (have H2_ := (Option.bind_some _ _).symm.trans H; with_reducible exact H2_) | with_reducible exact H | (rw [hy166]; exact H) | exact H
    have Ny166 := Aside0.mk hy166
    clear hy166
    obtain rfl := Option.some.inj H
    try go_wp2
    replace BK121 := aM_ (blk_drew BK121.out)
    replace HB := aM_ (below_drew1 HB.out)
    refine start_ (n := 14) (S := fun w' => True) (ds := []) b5_14_0 (by kernel_rfl) rfl rfl trivial (fun hHeld => ?_); refine with_tabW spec_loPut.tab2 spec_loPut.bits2 (fun HT_ HW_ => ?_)
    generalize wr.drew = w35 at BK121 HB hHeld ⊢
    refine pure_ (i := 0) (N := some 6) (v := ?_) (a' := ?_) b5_14_1 rfl rfl (aT_ HT_ (by kernel_rfl)) (fun _ _ _ h => h) (Or.inl ⟨by rfl, ?_⟩) ?_ ?_; rotate_left; (focus intro w'; go_simp; with_reducible rfl); rotate_left; (focus simp only [aP_, aQ_, aS_, aZ_, aU_, i64_w, i32_w]; try rfl)
    refine pure_ (i := 1) (N := some 7) (v := ?_) (a' := ?_) b5_14_3 rfl rfl (aT_ HT_ (by kernel_rfl)) (fun _ _ _ h => h) (Or.inl ⟨by rfl, ?_⟩) ?_ ?_; rotate_left; (focus intro w'; go_simp; with_reducible rfl); rotate_left; (focus simp only [aP_, aQ_, aS_, aZ_, aU_, i64_w, i32_w]; try rfl)
    refine pure_ (i := 2) (N := some 8) (v := ?_) (a' := ?_) b5_14_7 rfl rfl (aT_ HT_ (by kernel_rfl)) (fun _ _ _ h => h) (Or.inl ⟨by rfl, ?_⟩) ?_ ?_; rotate_left; (focus intro w'; go_simp; with_reducible rfl); rotate_left; (focus simp only [aP_, aQ_, aS_, aZ_, aU_, i64_w, i32_w]; try rfl)
    refine pure_ (i := 3) (N := some 9) (v := ?_) (a' := ?_) b5_14_f rfl rfl (aT_ HT_ (by kernel_rfl)) (fun _ _ _ h => h) (Or.inl ⟨by rfl, ?_⟩) ?_ ?_; rotate_left; (focus intro w'; go_simp; with_reducible rfl); rotate_left; (focus simp only [aP_, aQ_, aS_, aZ_, aU_, i64_w, i32_w]; try rfl)
    refine pure_ (i := 4) (N := some 10) (v := ?_) (a' := ?_) b5_14_1f rfl rfl (aT_ HT_ (by kernel_rfl)) (fun _ _ _ h => h) (Or.inl ⟨by rfl, ?_⟩) ?_ ?_; rotate_left; (focus intro w'; go_simp; with_reducible rfl); rotate_left; (focus simp only [aP_, aQ_, aS_, aZ_, aU_, i64_w, i32_w]; try rfl)
    refine pure_ (i := 5) (N := some 11) (v := undef) (a' := ?_) b5_14_3f rfl rfl (aT_ HT_ (by kernel_rfl)) (fun _ _ _ h => h) (Or.inr ⟨by rfl, rfl⟩) ?_ ?_; rotate_left; (focus simp only [aP_, aQ_, aS_, aZ_, aU_, i64_w, i32_w]; try rfl)
    refine pure_ (i := 6) (N := some 12) (v := undef) (a' := ?_) b5_14_7f rfl rfl (aT_ HT_ (by kernel_rfl)) (fun _ _ _ h => h) (Or.inr ⟨by rfl, rfl⟩) ?_ ?_; rotate_left; (focus simp only [aP_, aQ_, aS_, aZ_, aU_, i64_w, i32_w]; try rfl)
    refine pure_ (i := 7) (N := some 13) (v := undef) (a' := ?_) b5_14_ff rfl rfl (aT_ HT_ (by kernel_rfl)) (fun _ _ _ h => h) (Or.inr ⟨by rfl, rfl⟩) ?_ ?_; rotate_left; (focus simp only [aP_, aQ_, aS_, aZ_, aU_, i64_w, i32_w]; try rfl)
    refine pure_ (i := 8) (N := some 14) (v := undef) (a' := ?_) b5_14_1ff rfl rfl (aT_ HT_ (by kernel_rfl)) (fun _ _ _ h => h) (Or.inr ⟨by rfl, rfl⟩) ?_ ?_; rotate_left; (focus simp only [aP_, aQ_, aS_, aZ_, aU_, i64_w, i32_w]; try rfl)
    refine pure_ (i := 9) (N := some 15) (v := undef) (a' := ?_) b5_14_3ff rfl rfl (aT_ HT_ (by kernel_rfl)) (fun _ _ _ h => h) (Or.inr ⟨by rfl, rfl⟩) ?_ ?_; rotate_left; (focus simp only [aP_, aQ_, aS_, aZ_, aU_, i64_w, i32_w]; try rfl)
    refine pure_ (i := 10) (N := some 16) (v := undef) (a' := ?_) b5_14_7ff rfl rfl (aT_ HT_ (by kernel_rfl)) (fun _ _ _ h => h) (Or.inr ⟨by rfl, rfl⟩) ?_ ?_; rotate_left; (focus simp only [aP_, aQ_, aS_, aZ_, aU_, i64_w, i32_w]; try rfl)
    refine pure_ (i := 11) (N := some 17) (v := undef) (a' := ?_) b5_14_fff rfl rfl (aT_ HT_ (by kernel_rfl)) (fun _ _ _ h => h) (Or.inr ⟨by rfl, rfl⟩) ?_ ?_; rotate_left; (focus simp only [aP_, aQ_, aS_, aZ_, aU_, i64_w, i32_w]; try rfl)
    refine pure_ (i := 12) (N := some 18) (v := undef) (a' := ?_) b5_14_1fff rfl rfl (aT_ HT_ (by kernel_rfl)) (fun _ _ _ h => h) (Or.inr ⟨by rfl, rfl⟩) ?_ ?_; rotate_left; (focus simp only [aP_, aQ_, aS_, aZ_, aU_, i64_w, i32_w]; try rfl)
    refine pure_ (i := 13) (N := some 19) (v := ?_) (a' := ?_) b5_14_3fff rfl rfl (aT_ HT_ (by kernel_rfl)) (fun _ _ _ h => h) (Or.inl ⟨by rfl, ?_⟩) ?_ ?_; rotate_left; (focus intro w'; go_simp; with_reducible rfl); rotate_left; (focus simp only [aP_, aQ_, aS_, aZ_, aU_, i64_w, i32_w]; try rfl)
    refine done_ (done_of HT_.out (by kernel_rfl)) ?_
    try go_wp2
    replace BK121 := aM_ (blk_drew BK121.out)
    replace HB := aM_ (below_drew1 HB.out)
    have q37 : (x5_1 : Int) ≤ ((l0.length : Int) : Int) := ode_
    obtain ⟨i037, hi037, _, hsz37, _⟩ := info_parts info55
    have hroom37 : l0.length ≤ c0 := HC0.out
    have hC37 : Kd.C k55 _ A0 l0.length l0 := HR0.out
    have hcut37 := cut_to (P := Try.prog) 24 55 .i64 Try.underlying24 hi037 A0 l0.length c0 x5_1 ode_ q37 hroom37
    have hr37 := Kd.C_take (m := (x5_1 : Int).toNat) hC37 (by omega)
    have hy37 : y149.length = (x5_1 : Int).toNat := (by rw [Ny149.out, List.length_take]; omega)
    rw [← Ny149.out] at hr37
    rw [← hy37] at hcut37
    have HR152 := Aside0.mk hr37
    have HC152 := Aside0.mk (show y149.length ≤ c0 from by omega)
    clear hr37 hC37 hroom37 hi037 hsz37
    have KY37 := Aside0.mk hy37
    clear hy37
    replace q37 := eq_true q37
    have q38 : (x5_1 : Int) ≤ ((l0.length : Int) : Int) := ode_
    obtain ⟨i038, hi038, _, hsz38, _⟩ := info_parts info55
    have hroom38 : l0.length ≤ c0 := HC0.out
    have hC38 : Kd.C k55 _ A0 l0.length l0 := HR0.out
    have q038 : (0 : Int) ≤ (x5_1 : Int) := ode_
    have hcut38 := cut_from (P := Try.prog) 24 55 .i64 Try.underlying24 hi038 2 hsz38 A0 l0.length c0 x5_1 q038 q38
    have hr38 := Kd.C_drop (m := (x5_1 : Int).toNat) (c := c0) hC38 (by omega) hroom38
    obtain ⟨A38, hA38⟩ : ∃ Ab_, Ab_ = (if c0 = (x5_1 : Int).toNat then A0 else (A0 : Option Addr).map (·.add ((x5_1 : Int).toNat * 2))) := ⟨_, rfl⟩
    obtain ⟨c38, hc38⟩ : ∃ cb_, cb_ = c0 - (x5_1 : Int).toNat := ⟨_, rfl⟩
    have hy38 : y162.length = l0.length - (x5_1 : Int).toNat := (by rw [Ny162.out, List.length_drop] <;> omega)
    rw [show (l0).drop (x5_1 : Int).toNat = y162 from Ny162.out.symm] at hr38
    replace hr38 : Kd.C k55 _ A38 y162.length y162 := (by rw [hA38]; exact hr38)
    rw [← hy38, ← hA38, ← hc38] at hcut38
    have HR165 := Aside0.mk hr38
    have HC165 := Aside0.mk (show y162.length ≤ c38 from by rw [hy38, hc38]; exact Nat.sub_le_sub_right hroom38 _)
    clear hr38 hC38 hroom38 hi038 hsz38 hc38
    have KY38 := Aside0.mk hy38
    have KA38 := Aside0.mk hA38
    clear hy38 hA38
    replace q38 := eq_true q38
    refine start_ (n := 13) (S := fun w' => w'.cell? ⟨gb121, 0, none⟩ = some (.string a1_0) ∧ w'.cell? ⟨gb121, 1, none⟩ = some (.int .i64 a1_1)) (ds := []) b5_13_0 (by kernel_rfl) rfl rfl ⟨(blk_cell BK121.out 0).trans rfl, (blk_cell BK121.out 1).trans rfl⟩ (fun hHeld => ?_); refine with_tabW spec_loPut.tab4 spec_loPut.bits4 (fun HT_ HW_ => ?_)
    generalize w35.drew = w36 at BK121 HB HR152 HR165 hHeld ⊢
    refine pure_ (i := 1) (N := some 23) (v := ?_) (a' := ?_) b5_13_2 rfl rfl (aT_ HT_ (by kernel_rfl)) (fun _ _ _ h => h) (Or.inl ⟨by rfl, ?_⟩) ?_ ?_; rotate_left; (focus intro w'; go_simp; with_reducible rfl); rotate_left; (focus simp only [aP_, aQ_, aS_, aZ_, aU_, i64_w, i32_w]; try rfl)
    refine pure_ (i := 2) (N := some 24) (v := ?_) (a' := ?_) b5_13_6 rfl rfl (aT_ HT_ (by kernel_rfl)) (fun _ _ _ h => h) (Or.inl ⟨by rfl, ?_⟩) ?_ ?_; rotate_left; (focus intro w'; go_simp; with_reducible rfl); rotate_left; (focus simp only [aP_, aQ_, aS_, aZ_, aU_, i64_w, i32_w]; try rfl)
    refine pure_ (i := 3) (N := some 25) (v := ?_) (a' := ?_) b5_13_e rfl rfl (aT_ HT_ (by kernel_rfl)) (fun _ _ _ h => h) (Or.inl ⟨by rfl, ?_⟩) ?_ ?_; rotate_left; (focus intro w'; go_simp; with_reducible rfl); rotate_left; (focus simp only [aP_, aQ_, aS_, aZ_, aU_, i64_w, i32_w]; try rfl)
    refine pure_ (i := 8) (N := some 30) (v := ?_) (a' := ?_) b5_13_10e rfl rfl (aT_ HT_ (by kernel_rfl)) (fun _ _ _ h => h) (Or.inl ⟨by rfl, ?_⟩) ?_ ?_; rotate_left; (focus intro w'; go_simp; with_reducible rfl); rotate_left; (focus simp only [aP_, aQ_, aS_, aZ_, aU_, i64_w, i32_w]; try rfl)
    refine pure_ (i := 9) (N := some 31) (v := ?_) (a' := ?_) b5_13_30e rfl rfl (aT_ HT_ (by kernel_rfl)) (fun _ _ _ h => h) (Or.inl ⟨by rfl, ?_⟩) ?_ ?_; rotate_left; (focus intro w'; go_simp; with_reducible rfl); rotate_left; (focus simp only [aP_, aQ_, aS_, aZ_, aU_, i64_w, i32_w]; try rfl)
    refine pure_ (i := 10) (N := some 32) (v := ?_) (a' := ?_) b5_13_70e rfl rfl (aT_ HT_ (by kernel_rfl)) (fun _ _ _ h => h) (Or.inl ⟨by rfl, ?_⟩) ?_ ?_; rotate_left; (focus intro w'; go_simp; with_reducible rfl); rotate_left; (focus simp only [aP_, aQ_, aS_, aZ_, aU_, i64_w, i32_w]; try rfl)
    refine take_ (i := 5) (N := some 27) (v := ?_) (a' := ?_) b5_13_72e rfl rfl (take_ofW HT_.out HW_.out (by kernel_rfl)) (fun _ _ _ h => h) (Or.inl ⟨by rfl, ?_⟩) hHeld ?_ ?_; rotate_left; (focus rintro w' ⟨s0, s1⟩; go_simp; with_reducible rfl); rotate_left; (focus simp only [aP_, aQ_, aS_, aZ_, aU_, i64_w, i32_w]; try rfl)
    refine join_ (σ := Value × Value × Value) 3 b5_13_77f (fun s_ => [(22, s_.1), (26, s_.2.1), (28, s_.2.2)]) (fun s_ w' => (w'.cell? ⟨gb121, 0, none⟩ = some (.string a1_0) ∧ w'.cell? ⟨gb121, 1, none⟩ = some (.int .i64 a1_1)) ∧ (Kd.R k55 55 w' w.heap.size (fun k_ => some k_ ≠ (s_.2.2 : Value).ownBlock ∧ k_ ≠ gb121) s_.2.1 y153) ∧ (Kd.R k55 55 w' w.heap.size (fun k_ => some k_ ≠ (s_.2.1 : Value).ownBlock ∧ k_ ≠ gb121) s_.2.2 y156) ∧ (w'.heap[gb121]? = some (.cells #[.string a1_0, .int .i64 a1_1] 55 (0, 0))) ∧ (Below w.heap.size w w')) ?_ ?_
    rotate_left
    ·intro hCont
     refine two_ (i := 0) (j := 6) (Ni := some 22) (Nj := some 28) b5_13_72f b5_13_76e rfl rfl rfl rfl (two_of HT_.out (by kernel_rfl)) (by decide) (by decide) (fun K hK => ?_) (fun K hK => ?_)
     ·skip
      refine Kd.R_lit_step k55 _ 55 ?hg (N := 22) ?hd (xs := ([] : List (S55))) (inner := []) (ok := fun _ => True) (okp := fun _ => True) ?hr ?hp (fun _ hk => hk) trivial (Below.refl _ _) (Nat.le_refl _) (by simp) ?_; (case hd => rfl); (case hg => rfl); (case hr => first | (go_simp; done) | (go_simp; rfl)); (case hp => exact (Reps.none _ _))
      intro v147 w39 ho40 hb hg_ hnew_
      clear hg_ hnew_
      (first | rw [← Ny146.out] at ho40 | (simp only [Int.reduceToNat] at ho40; rw [← Ny146.out] at ho40))
      have HO148 := aM_ (Kd.R_lower (Kd.R_newB ho40 (g := gb121) kP_) (below_size hB_))
      replace BK121 := aM_ (blk_below (g := gb121) kP_ hb)
      replace HB := aM_ (below_step hB_ hb)
      clear hb ho40
      refine hK.out _ _ ⟨(blk_cell BK121.out 0).trans rfl, (blk_cell BK121.out 1).trans rfl⟩ (fun hHeld => ?_)
      clear hK K
      refine norm_ (a' := ?_) ?_ ?_; rotate_left; (focus show Act.put _ (some 22) _ = _; simp only [aP_, aQ_, aS_, aZ_, aU_, i64_w, i32_w]; try rfl)
      refine two_ (i := 4) (j := 6) (Ni := some 26) (Nj := some 28) b5_13_73f b5_13_76f rfl rfl rfl rfl (two_of HT_.out (by kernel_rfl)) (by decide) (by decide) (fun K hK => ?_) (fun K hK => ?_)
      ·skip
       refine Kd.R_append_rows_step k55 (w0 := w) w.heap.size (by rfl) (.tmp 22) (.tmp 25) 24 55 (.agg #[(.string ⟨#[]⟩), (.int .i64 0)]) 24 rfl Try.underlying24 info55 rfl (by decide) (by omega) v147 y146 y149 _ _ _ (fun k_ => k_ ≠ gb121) (fun _ => False) rfl rfl ?aO ?aR (fun _ _ h => h) (fun _ h => h.elim) ?aF ?aB ?aS ?aL ?_
       (case aR => repeat (first | exact (Kd.C_below HR152.out HB.out) | (with_reducible first | apply cA_ | apply cN_ | apply cD_)))
       (case aB => exact hB_)
       (case aF => exact (fun k_ hk => Kd.freshB (g := gb121) kP_ k_ hk))
       (case aO => exact (by (with_reducible repeat (first | apply rA_ | apply rN_ | apply rD_)); exact Kd.R_mono HO148.out (fun _ hk => hk.2)))
       (case aS => exact (below_size hB_))
       (case aL => have := LMc30.out; omega)
       intro v154 w41 ho hb hg hat
       rw [← Ny153.out] at ho
       have HO155 := aM_ (ho)
       replace BK121 := aM_ (blk_grown (g := gb121) kP_ hg (Kd.R_away HO148.out (fun _ hk => hk.2)))
       replace HB := aM_ (hb)
       clear HO148
       clear ho hb hg hat
       refine hK.out _ _ ⟨(blk_cell BK121.out 0).trans rfl, (blk_cell BK121.out 1).trans rfl⟩ (fun hHeld => ?_)
       clear hK K
       refine norm_ (a' := ?_) ?_ ?_; rotate_left; (focus show Act.put _ (some 26) _ = _; simp only [aP_, aQ_, aS_, aZ_, aU_, i64_w, i32_w]; try rfl)
       refine one_ (i := 6) (N := some 28) b5_13_77f rfl rfl (one_of HT_.out (by kernel_rfl)) (by decide) (fun K hK => ?_)
       refine Kd.R_lit_step k55 _ 55 ?hg (N := 28) ?hd (xs := ([(⟨a1_0, a1_1⟩ : S55)] : List (S55))) (inner := [.string a1_0, .int .i64 a1_1]) (ok := fun _ => True) (okp := fun _ => True) ?hr ?hp (fun _ hk => hk) trivial (Below.refl _ _) (Nat.le_refl _) (by simp) ?_; (case hd => rfl); (case hg => rfl); (case hr => first | (go_simp; done) | (go_simp; rfl)); (case hp => exact (Reps.c2 (show Kd.M k55 _ _ _ (⟨a1_0, a1_1⟩ : S55) [.string a1_0, .int .i64 a1_1] from (k55_mkM _ _ _ (⟨a1_0, a1_1⟩ : S55) )) (Reps.none _ _)))
       intro v157 w42 ho43 hb hg_ hnew_
       clear hg_ hnew_
       (first | rw [← Ny156.out] at ho43 | (simp only [Int.reduceToNat] at ho43; rw [← Ny156.out] at ho43))
       have HO158 := aM_ (Kd.R_lower (Kd.R_newB (Kd.R_new' ho43 (Kd.R_lt y5_0_)) (g := gb121) kP_) (below_size hB_))
       replace HO155 := aM_ (Kd.R_elder' y5_0_ (Kd.R_base ho43) hb)
       replace BK121 := aM_ (blk_below (g := gb121) kP_ hb)
       replace HB := aM_ (below_step hB_ hb)
       clear hb ho43
       refine hK.out _ _ ⟨(blk_cell BK121.out 0).trans rfl, (blk_cell BK121.out 1).trans rfl⟩ (fun hHeld => ?_)
       clear hK K
       refine norm_ (a' := ?_) ?_ ?_; rotate_left; (focus show Act.put _ (some 28) _ = _; simp only [aP_, aQ_, aS_, aZ_, aU_, i64_w, i32_w]; try rfl)
       exact norm_ y5_1_ (hCont (v147, v154, v157) _ ⟨hHeld, (by (with_reducible repeat (first | apply rA_ | apply rN_ | apply rD_)); exact Kd.R_mono HO155.out (fun _ hk => ⟨hk.2, hk.1⟩)), y5_2_, y5_3_, hB_⟩)
      ·skip
       refine Kd.R_lit_step k55 _ 55 ?hg (N := 28) ?hd (xs := ([(⟨a1_0, a1_1⟩ : S55)] : List (S55))) (inner := [.string a1_0, .int .i64 a1_1]) (ok := fun _ => True) (okp := fun _ => True) ?hr ?hp (fun _ hk => hk) trivial (Below.refl _ _) (Nat.le_refl _) (by simp) ?_; (case hd => rfl); (case hg => rfl); (case hr => first | (go_simp; done) | (go_simp; rfl)); (case hp => exact (Reps.c2 (show Kd.M k55 _ _ _ (⟨a1_0, a1_1⟩ : S55) [.string a1_0, .int .i64 a1_1] from (k55_mkM _ _ _ (⟨a1_0, a1_1⟩ : S55) )) (Reps.none _ _)))
       intro v157 w41 ho42 hb hg_ hnew_
       clear hg_ hnew_
       (first | rw [← Ny156.out] at ho42 | (simp only [Int.reduceToNat] at ho42; rw [← Ny156.out] at ho42))
       have HO158 := aM_ (Kd.R_lower (Kd.R_newB (Kd.R_new' ho42 (Kd.R_lt y5_4_)) (g := gb121) kP_) (below_size hB_))
       replace HO148 := aM_ (Kd.R_elder' y5_4_ (Kd.R_base ho42) hb)
       replace BK121 := aM_ (blk_below (g := gb121) kP_ hb)
       replace HB := aM_ (below_step hB_ hb)
       clear hb ho42
       refine hK.out _ _ ⟨(blk_cell BK121.out 0).trans rfl, (blk_cell BK121.out 1).trans rfl⟩ (fun hHeld => ?_)
       clear hK K
       refine norm_ (a' := ?_) ?_ ?_; rotate_left; (focus show Act.put _ (some 28) _ = _; simp only [aP_, aQ_, aS_, aZ_, aU_, i64_w, i32_w]; try rfl)
       refine one_ (i := 4) (N := some 26) b5_13_77f rfl rfl (one_of HT_.out (by kernel_rfl)) (by decide) (fun K hK => ?_)
       refine Kd.R_append_rows_step k55 (w0 := w) w.heap.size (by rfl) (.tmp 22) (.tmp 25) 24 55 (.agg #[(.string ⟨#[]⟩), (.int .i64 0)]) 24 rfl Try.underlying24 info55 rfl (by decide) (by omega) v147 y146 y149 _ _ _ (fun k_ => some k_ ≠ (v157 : Value).ownBlock ∧ k_ ≠ gb121) (fun _ => False) rfl rfl ?aO ?aR (fun _ _ h => h) (fun _ h => h.elim) ?aF ?aB ?aS ?aL ?_
       (case aR => repeat (first | exact (Kd.C_below HR152.out HB.out) | (with_reducible first | apply cA_ | apply cN_ | apply cD_)))
       (case aB => exact hB_)
       (case aF => exact (fun k_ hk => ⟨Kd.fresh' (Kd.R_lt y5_5_) k_ hk, Kd.freshB (g := gb121) kP_ k_ hk⟩))
       (case aO => exact (by (with_reducible repeat (first | apply rA_ | apply rN_ | apply rD_)); exact Kd.R_mono HO148.out (fun _ hk => ⟨hk.2, hk.1.2⟩)))
       (case aS => exact (below_size hB_))
       (case aL => have := LMc30.out; omega)
       intro v154 w43 ho hb hg hat
       rw [← Ny153.out] at ho
       have HO155 := aM_ (ho)
       replace BK121 := aM_ (blk_grown (g := gb121) kP_ hg (Kd.R_away HO148.out (fun _ hk => hk.1.2)))
       replace HO158 := aM_ (Kd.R_after (ok := (fun k_ => k_ ≠ gb121)) (by (with_reducible repeat (first | apply rA_ | apply rN_ | apply rD_)); exact Kd.R_mono HO158.out (fun _ hk => ⟨hk.2, hk.1.2⟩)) hg hat)
       replace HB := aM_ (hb)
       clear HO148
       clear ho hb hg hat
       refine hK.out _ _ ⟨(blk_cell BK121.out 0).trans rfl, (blk_cell BK121.out 1).trans rfl⟩ (fun hHeld => ?_)
       clear hK K
       refine norm_ (a' := ?_) ?_ ?_; rotate_left; (focus show Act.put _ (some 26) _ = _; simp only [aP_, aQ_, aS_, aZ_, aU_, i64_w, i32_w]; try rfl)
       exact norm_ y5_1_ (hCont (v147, v154, v157) _ ⟨hHeld, y5_0_, y5_6_, y5_3_, hB_⟩)
     ·skip
      refine Kd.R_lit_step k55 _ 55 ?hg (N := 28) ?hd (xs := ([(⟨a1_0, a1_1⟩ : S55)] : List (S55))) (inner := [.string a1_0, .int .i64 a1_1]) (ok := fun _ => True) (okp := fun _ => True) ?hr ?hp (fun _ hk => hk) trivial (Below.refl _ _) (Nat.le_refl _) (by simp) ?_; (case hd => rfl); (case hg => rfl); (case hr => first | (go_simp; done) | (go_simp; rfl)); (case hp => exact (Reps.c2 (show Kd.M k55 _ _ _ (⟨a1_0, a1_1⟩ : S55) [.string a1_0, .int .i64 a1_1] from (k55_mkM _ _ _ (⟨a1_0, a1_1⟩ : S55) )) (Reps.none _ _)))
      intro v157 w39 ho40 hb hg_ hnew_
      clear hg_ hnew_
      (first | rw [← Ny156.out] at ho40 | (simp only [Int.reduceToNat] at ho40; rw [← Ny156.out] at ho40))
      have HO158 := aM_ (Kd.R_lower (Kd.R_newB ho40 (g := gb121) kP_) (below_size hB_))
      replace BK121 := aM_ (blk_below (g := gb121) kP_ hb)
      replace HB := aM_ (below_step hB_ hb)
      clear hb ho40
      refine hK.out _ _ ⟨(blk_cell BK121.out 0).trans rfl, (blk_cell BK121.out 1).trans rfl⟩ (fun hHeld => ?_)
      clear hK K
      refine norm_ (a' := ?_) ?_ ?_; rotate_left; (focus show Act.put _ (some 28) _ = _; simp only [aP_, aQ_, aS_, aZ_, aU_, i64_w, i32_w]; try rfl)
      refine one_ (i := 0) (N := some 22) b5_13_76f rfl rfl (one_of HT_.out (by kernel_rfl)) (by decide) (fun K hK => ?_)
      refine Kd.R_lit_step k55 _ 55 ?hg (N := 22) ?hd (xs := ([] : List (S55))) (inner := []) (ok := fun _ => True) (okp := fun _ => True) ?hr ?hp (fun _ hk => hk) trivial (Below.refl _ _) (Nat.le_refl _) (by simp) ?_; (case hd => rfl); (case hg => rfl); (case hr => first | (go_simp; done) | (go_simp; rfl)); (case hp => exact (Reps.none _ _))
      intro v147 w41 ho42 hb hg_ hnew_
      clear hg_ hnew_
      (first | rw [← Ny146.out] at ho42 | (simp only [Int.reduceToNat] at ho42; rw [← Ny146.out] at ho42))
      have HO148 := aM_ (Kd.R_lower (Kd.R_newB (Kd.R_new' ho42 (Kd.R_lt y5_5_)) (g := gb121) kP_) (below_size hB_))
      replace HO158 := aM_ (Kd.R_elder' y5_5_ (Kd.R_base ho42) hb)
      replace BK121 := aM_ (blk_below (g := gb121) kP_ hb)
      replace HB := aM_ (below_step hB_ hb)
      clear hb ho42
      refine hK.out _ _ ⟨(blk_cell BK121.out 0).trans rfl, (blk_cell BK121.out 1).trans rfl⟩ (fun hHeld => ?_)
      clear hK K
      refine norm_ (a' := ?_) ?_ ?_; rotate_left; (focus show Act.put _ (some 22) _ = _; simp only [aP_, aQ_, aS_, aZ_, aU_, i64_w, i32_w]; try rfl)
      refine one_ (i := 4) (N := some 26) b5_13_77f rfl rfl (one_of HT_.out (by kernel_rfl)) (by decide) (fun K hK => ?_)
      refine Kd.R_append_rows_step k55 (w0 := w) w.heap.size (by rfl) (.tmp 22) (.tmp 25) 24 55 (.agg #[(.string ⟨#[]⟩), (.int .i64 0)]) 24 rfl Try.underlying24 info55 rfl (by decide) (by omega) v147 y146 y149 _ _ _ (fun k_ => some k_ ≠ (v157 : Value).ownBlock ∧ k_ ≠ gb121) (fun _ => False) rfl rfl ?aO ?aR (fun _ _ h => h) (fun _ h => h.elim) ?aF ?aB ?aS ?aL ?_
      (case aR => repeat (first | exact (Kd.C_below HR152.out HB.out) | (with_reducible first | apply cA_ | apply cN_ | apply cD_)))
      (case aB => exact hB_)
      (case aF => exact (fun k_ hk => ⟨Kd.fresh' (Kd.R_lt y5_5_) k_ hk, Kd.freshB (g := gb121) kP_ k_ hk⟩))
      (case aO => exact (by (with_reducible repeat (first | apply rA_ | apply rN_ | apply rD_)); exact Kd.R_mono HO148.out (fun _ hk => ⟨hk.1.2, hk.2⟩)))
      (case aS => exact (below_size hB_))
      (case aL => have := LMc30.out; omega)
      intro v154 w43 ho hb hg hat
      rw [← Ny153.out] at ho
      have HO155 := aM_ (ho)
      replace BK121 := aM_ (blk_grown (g := gb121) kP_ hg (Kd.R_away HO148.out (fun _ hk => hk.2)))
      replace HO158 := aM_ (Kd.R_after (ok := (fun k_ => k_ ≠ gb121)) y5_2_ hg hat)
      replace HB := aM_ (hb)
      clear HO148
      clear ho hb hg hat
      refine hK.out _ _ ⟨(blk_cell BK121.out 0).trans rfl, (blk_cell BK121.out 1).trans rfl⟩ (fun hHeld => ?_)
      clear hK K
      refine norm_ (a' := ?_) ?_ ?_; rotate_left; (focus show Act.put _ (some 26) _ = _; simp only [aP_, aQ_, aS_, aZ_, aU_, i64_w, i32_w]; try rfl)
      exact norm_ y5_1_ (hCont (v147, v154, v157) _ ⟨hHeld, y5_0_, y5_6_, y5_3_, hB_⟩)
    rintro ⟨v147, v154, v157⟩ w44 ⟨hS_, h0_, h1_, h2_, h3_⟩
    have n0_ : Aside0 (Kd.R k55 55 w44 w.heap.size (fun k_ => some k_ ≠ (v157 : Value).ownBlock ∧ k_ ≠ gb121) v154 y153) := ⟨h0_⟩
    have n1_ : Aside0 (Kd.R k55 55 w44 w.heap.size (fun k_ => some k_ ≠ (v154 : Value).ownBlock ∧ k_ ≠ gb121) v157 y156) := ⟨h1_⟩
    have n2_ : Aside0 (w44.heap[gb121]? = some (.cells #[.string a1_0, .int .i64 a1_1] 55 (0, 0))) := ⟨h2_⟩
    have n3_ : Aside0 (Below w.heap.size w w44) := ⟨h3_⟩
    clear BK121
    clear HB
    clear h0_ h1_ h2_ h3_
    have HO155 := n0_
    have HO158 := n1_
    have BK121 := n2_
    have HB := n3_
    clear n0_ n1_ n2_ n3_
    have hHeld : w44.cell? ⟨gb121, 0, none⟩ = some (.string a1_0) ∧ w44.cell? ⟨gb121, 1, none⟩ = some (.int .i64 a1_1) := hS_
    obtain ⟨Ao46, co46, eo46⟩ := Kd.R_slice HO158.out
    (first | subst eo46 | (injection eo46 with f1_ f2_ f3_; have f4_ := f1_.symm; have f5_ := f3_.symm; clear f1_ f2_ f3_; subst f4_; subst f5_))
    refine norm_ (a' := ?_) ?_ ?_
    rotate_left
    ·simp only [putAll, Act.put, List.setIfInBounds_toArray, List.set_cons_zero, List.set_cons_succ]
     rfl
    refine one_ (i := 7) (N := some 29) b5_13_7ff rfl rfl (one_of HT_.out (by kernel_rfl)) (by decide) (fun K hK => ?_)
    refine Kd.R_append_rows_step k55 (w0 := w) w.heap.size (by rfl) (.tmp 26) (.tmp 28) 24 55 (.agg #[(.string ⟨#[]⟩), (.int .i64 0)]) 24 rfl Try.underlying24 info55 rfl (by decide) (by omega) v154 y153 y156 _ _ _ (fun k_ => some k_ ≠ (.slice Ao46 y156.length co46 : Value).ownBlock ∧ k_ ≠ gb121) (fun _ => False) rfl rfl ?aO ?aR (fun _ _ h => h) (fun _ h => h.elim) ?aF ?aB ?aS ?aL ?_
    (case aR => repeat (first | exact (Kd.R_reads' HO158.out).2.2 | (with_reducible first | apply cA_ | apply cN_ | apply cD_)))
    (case aB => exact hB_)
    (case aF => exact (fun k_ hk => ⟨Kd.fresh' (Kd.R_lt y5_5_) k_ hk, Kd.freshB (g := gb121) kP_ k_ hk⟩))
    (case aO => exact y5_0_)
    (case aS => exact (below_size hB_))
    (case aL => have := LMc31.out; omega)
    intro v160 w45 ho hb hg hat
    rw [← Ny159.out] at ho
    have HO161 := aM_ (ho)
    replace BK121 := aM_ (blk_grown (g := gb121) kP_ hg (Kd.R_away HO155.out (fun _ hk => hk.2)))
    replace HO158 := aM_ (Kd.R_after (ok := (fun k_ => k_ ≠ gb121)) y5_6_ hg hat)
    replace HB := aM_ (hb)
    clear HO155
    clear ho hb hg hat
    refine hK.out _ _ ⟨(blk_cell BK121.out 0).trans rfl, (blk_cell BK121.out 1).trans rfl⟩ (fun hHeld => ?_)
    clear hK K
    refine norm_ (a' := ?_) ?_ ?_; rotate_left; (focus show Act.put _ (some 29) _ = _; simp only [aP_, aQ_, aS_, aZ_, aU_, i64_w, i32_w]; try rfl)
    refine one_ (i := 11) (N := some 33) b5_13_fff rfl rfl (one_of HT_.out (by kernel_rfl)) (by decide) (fun K hK => ?_)
    refine Kd.R_append_rows_step k55 (w0 := w) w.heap.size (by rfl) (.tmp 29) (.tmp 32) 24 55 (.agg #[(.string ⟨#[]⟩), (.int .i64 0)]) 24 rfl Try.underlying24 info55 rfl (by decide) (by omega) v160 y159 y162 _ _ _ (fun k_ => some k_ ≠ (.slice Ao46 y156.length co46 : Value).ownBlock ∧ k_ ≠ gb121) (fun _ => False) rfl rfl ?aO ?aR (fun _ _ h => h) (fun _ h => h.elim) ?aF ?aB ?aS ?aL ?_
    (case aR => repeat (first | exact (Kd.C_below HR165.out HB.out) | (with_reducible first | apply cA_ | apply cN_ | apply cD_)))
    (case aB => exact hB_)
    (case aF => exact (fun k_ hk => ⟨Kd.fresh' (Kd.R_lt y5_5_) k_ hk, Kd.freshB (g := gb121) kP_ k_ hk⟩))
    (case aO => exact (by (with_reducible repeat (first | apply rA_ | apply rN_ | apply rD_)); exact HO161.out))
    (case aS => exact (below_size hB_))
    (case aL => have := LMc34.out; omega)
    intro v167 w47 ho hb hg hat
    rw [← Ny166.out] at ho
    have HO168 := aM_ (ho)
    replace BK121 := aM_ (blk_grown (g := gb121) kP_ hg (Kd.R_away HO161.out (fun _ hk => hk.2)))
    replace HO158 := aM_ (Kd.R_after (ok := (fun k_ => k_ ≠ gb121)) y5_5_ hg hat)
    replace HB := aM_ (hb)
    clear HO161
    clear ho hb hg hat
    refine hK.out _ _ ⟨(blk_cell BK121.out 0).trans rfl, (blk_cell BK121.out 1).trans rfl⟩ (fun hHeld => ?_)
    clear hK K
    refine norm_ (a' := ?_) ?_ ?_; rotate_left; (focus show Act.put _ (some 33) _ = _; simp only [aP_, aQ_, aS_, aZ_, aU_, i64_w, i32_w]; try rfl)
    refine pure_ (i := 12) (N := some 4) (v := ?_) (a' := ?_) b5_13_1fff rfl rfl (aT_ HT_ (by kernel_rfl)) (fun _ _ _ h => h) (Or.inl ⟨by rfl, ?_⟩) ?_ ?_; rotate_left; (focus intro w'; go_simp; with_reducible rfl); rotate_left; (focus simp only [aP_, aQ_, aS_, aZ_, aU_, i64_w, i32_w]; try rfl)
    refine done_ (done_of HT_.out (by kernel_rfl)) ?_
    try go_wp2
    go_ret
    exact ⟨_, rT_, by (with_reducible repeat (first | apply rA_ | apply rN_ | apply rD_)); exact Kd.R_mono HO168.out (fun _ hk => trivial), hB_⟩
   rw [if_pos c4] at H
   have c4b0 : decide (x5_1 < (l0.length : Int)) = true := decide_eq_true c4
   clear c4
   by_cases c5 : 0 ≤ x5_1
   rotate_left
   ·rw [if_neg c5] at H
    exact absurd H (by simp)
   rw [if_pos c5] at H
   have c5b0 : decide (0 ≤ x5_1) = true := decide_eq_true c5
   clear c5
   by_cases c6 : ((rd_T55 l0 x5_1).f1) < a1_1
   ·rw [if_pos c6] at H
    have c6b0 : decide (((rd_T55 l0 x5_1).f1) < a1_1) = true := decide_eq_true c6
    clear c6
    have H' := Aside0.mk H
    clear H
    try go_wp2
    replace BK121 := aM_ (blk_drew BK121.out)
    replace HB := aM_ (below_drew1 HB.out)
    have p122 : 0 ≤ (x5_1 : Int) := ode_
    have q122 : x5_1 < (l0.length : Int) := ode_
    obtain ⟨ad122, e122, hx122_0, hx122_1⟩ := at_T55 HR0.out x5_1 p122 q122
    have hw122_1 := hx122_1
    have hw122_0 := hx122_0
    cases e122
    replace hx122_0 := (HB.out.cell (World.block_lt_of_cell? w _ hx122_0)).trans hx122_0
    replace hx122_1 := (HB.out.cell (World.block_lt_of_cell? w _ hx122_1)).trans hx122_1
    replace p122 := eq_true p122
    replace q122 := eq_true q122
    refine start_ (n := 14) (S := fun w' => w'.cell? ⟨gb121, 0, none⟩ = some (.string a1_0) ∧ w'.cell? ⟨gb121, 1, none⟩ = some (.int .i64 a1_1) ∧ w'.cell? (ad122.add ((x5_1).toNat * 2)) = some (.string ((rd_T55 l0 x5_1).f0)) ∧ w'.cell? ⟨(ad122.add ((x5_1).toNat * 2)).block, (ad122.add ((x5_1).toNat * 2)).off + 1, none⟩ = some (.int .i64 ((rd_T55 l0 x5_1).f1))) (ds := []) b5_14_0 (by kernel_rfl) rfl rfl ⟨(blk_cell BK121.out 0).trans rfl, (blk_cell BK121.out 1).trans rfl, ((HB.out.cell (World.block_lt_of_cell? w _ hw122_0)).trans hw122_0), ((HB.out.cell (World.block_lt_of_cell? w _ hw122_1)).trans hw122_1)⟩ (fun hHeld => ?_); refine with_tabW spec_loPut.tab2 spec_loPut.bits2 (fun HT_ HW_ => ?_)
    generalize wr.drew = w7 at BK121 HB hx122_0 hx122_1 hHeld ⊢
    refine pure_ (i := 0) (N := some 6) (v := ?_) (a' := ?_) b5_14_1 rfl rfl (aT_ HT_ (by kernel_rfl)) (fun _ _ _ h => h) (Or.inl ⟨by rfl, ?_⟩) ?_ ?_; rotate_left; (focus intro w'; go_simp; with_reducible rfl); rotate_left; (focus simp only [aP_, aQ_, aS_, aZ_, aU_, i64_w, i32_w]; try rfl)
    refine pure_ (i := 1) (N := some 7) (v := ?_) (a' := ?_) b5_14_3 rfl rfl (aT_ HT_ (by kernel_rfl)) (fun _ _ _ h => h) (Or.inl ⟨by rfl, ?_⟩) ?_ ?_; rotate_left; (focus intro w'; go_simp; with_reducible rfl); rotate_left; (focus simp only [aP_, aQ_, aS_, aZ_, aU_, i64_w, i32_w]; try rfl)
    refine pure_ (i := 2) (N := some 8) (v := ?_) (a' := ?_) b5_14_7 rfl rfl (aT_ HT_ (by kernel_rfl)) (fun _ _ _ h => h) (Or.inl ⟨by rfl, ?_⟩) ?_ ?_; rotate_left; (focus intro w'; go_simp; with_reducible rfl); rotate_left; (focus simp only [aP_, aQ_, aS_, aZ_, aU_, i64_w, i32_w]; try rfl)
    refine pure_ (i := 3) (N := some 9) (v := ?_) (a' := ?_) b5_14_f rfl rfl (aT_ HT_ (by kernel_rfl)) (fun _ _ _ h => h) (Or.inl ⟨by rfl, ?_⟩) ?_ ?_; rotate_left; (focus intro w'; go_simp; with_reducible rfl); rotate_left; (focus simp only [aP_, aQ_, aS_, aZ_, aU_, i64_w, i32_w]; try rfl)
    refine pure_ (i := 4) (N := some 10) (v := ?_) (a' := ?_) b5_14_1f rfl rfl (aT_ HT_ (by kernel_rfl)) (fun _ _ _ h => h) (Or.inl ⟨by rfl, ?_⟩) ?_ ?_; rotate_left; (focus intro w'; go_simp; with_reducible rfl); rotate_left; (focus simp only [aP_, aQ_, aS_, aZ_, aU_, i64_w, i32_w]; try rfl)
    refine pure_ (i := 5) (N := some 11) (v := ?_) (a' := ?_) b5_14_3f rfl rfl (aT_ HT_ (by kernel_rfl)) (fun _ _ _ h => h) (Or.inl ⟨by rfl, ?_⟩) ?_ ?_; rotate_left; (focus intro w'; go_simp; with_reducible rfl); rotate_left; (focus simp only [aP_, aQ_, aS_, aZ_, aU_, i64_w, i32_w]; try rfl)
    refine pure_ (i := 6) (N := some 12) (v := ?_) (a' := ?_) b5_14_7f rfl rfl (aT_ HT_ (by kernel_rfl)) (fun _ _ _ h => h) (Or.inl ⟨by rfl, ?_⟩) ?_ ?_; rotate_left; (focus intro w'; go_simp; with_reducible rfl); rotate_left; (focus simp only [aP_, aQ_, aS_, aZ_, aU_, i64_w, i32_w]; try rfl)
    refine pure_ (i := 7) (N := some 13) (v := ?_) (a' := ?_) b5_14_ff rfl rfl (aT_ HT_ (by kernel_rfl)) (fun _ _ _ h => h) (Or.inl ⟨by rfl, ?_⟩) ?_ ?_; rotate_left; (focus intro w'; go_simp; with_reducible rfl); rotate_left; (focus simp only [aP_, aQ_, aS_, aZ_, aU_, i64_w, i32_w]; try rfl)
    refine pure_ (i := 8) (N := some 14) (v := ?_) (a' := ?_) b5_14_1ff rfl rfl (aT_ HT_ (by kernel_rfl)) (fun _ _ _ h => h) (Or.inl ⟨by rfl, ?_⟩) ?_ ?_; rotate_left; (focus intro w'; go_simp; with_reducible rfl); rotate_left; (focus simp only [aP_, aQ_, aS_, aZ_, aU_, i64_w, i32_w]; try rfl)
    refine pure_ (i := 10) (N := some 16) (v := ?_) (a' := ?_) b5_14_5ff rfl rfl (aT_ HT_ (by kernel_rfl)) (fun _ _ _ h => h) (Or.inl ⟨by rfl, ?_⟩) ?_ ?_; rotate_left; (focus intro w'; go_simp; with_reducible rfl); rotate_left; (focus simp only [aP_, aQ_, aS_, aZ_, aU_, i64_w, i32_w]; try rfl)
    refine take_ (i := 9) (N := some 15) (v := ?_) (a' := ?_) b5_14_7ff rfl rfl (take_ofW HT_.out HW_.out (by kernel_rfl)) (fun _ _ _ h => h) (Or.inl ⟨by rfl, ?_⟩) hHeld ?_ ?_; rotate_left; (focus rintro w' ⟨s0, s1, s2, s3⟩; go_simp; with_reducible rfl); rotate_left; (focus simp only [aP_, aQ_, aS_, aZ_, aU_, i64_w, i32_w]; try rfl)
    refine take_ (i := 11) (N := some 17) (v := ?_) (a' := ?_) b5_14_fff rfl rfl (take_ofW HT_.out HW_.out (by kernel_rfl)) (fun _ _ _ h => h) (Or.inl ⟨by rfl, ?_⟩) hHeld ?_ ?_; rotate_left; (focus rintro w' ⟨s0, s1, s2, s3⟩; go_simp; with_reducible rfl); rotate_left; (focus simp only [aP_, aQ_, aS_, aZ_, aU_, i64_w, i32_w]; try rfl)
    refine pure_ (i := 12) (N := some 18) (v := ?_) (a' := ?_) b5_14_1fff rfl rfl (aT_ HT_ (by kernel_rfl)) (fun _ _ _ h => h) (Or.inl ⟨by rfl, ?_⟩) ?_ ?_; rotate_left; (focus intro w'; go_simp; with_reducible rfl); rotate_left; (focus simp only [aP_, aQ_, aS_, aZ_, aU_, i64_w, i32_w]; try rfl)
    refine pure_ (i := 13) (N := some 19) (v := ?_) (a' := ?_) b5_14_3fff rfl rfl (aT_ HT_ (by kernel_rfl)) (fun _ _ _ h => h) (Or.inl ⟨by rfl, ?_⟩) ?_ ?_; rotate_left; (focus intro w'; go_simp; with_reducible rfl); rotate_left; (focus simp only [aP_, aQ_, aS_, aZ_, aU_, i64_w, i32_w]; try rfl)
    refine done_ (done_of HT_.out (by kernel_rfl)) ?_
    try go_wp2
    go_roundg k1
    case measure => have := HK1.out; omega
    case rel => exact ⟨(wrap64 (x5_1 + 1)), (by first | rfl | (simp; done) | (simp [*]; done)), H', ⟨by have := HK1.out; omega⟩, ⟨kP_⟩, ⟨hB_⟩⟩
   rw [if_neg c6] at H
   have c6b0 : decide (((rd_T55 l0 x5_1).f1) < a1_1) = false := decide_eq_false c6
   clear c6
   obtain ⟨y123, hy123⟩ : ∃ y_ : List (S55), y_ = (([] : List (S55))) := ⟨_, rfl⟩
   replace H : (if x5_1 ≤ (l0.length : Int) then ((some (l0.take (x5_1 : Int).toNat : List (S55))).bind fun y126 => (if y123.length + y126.length < 5864062014805 then ((some (y123 ++ y126 : List (S55))).bind fun y130 => ((some (([(⟨a1_0, a1_1⟩ : S55)] : List (S55)) : List (S55))).bind fun y133 => (if y130.length + y133.length < 5864062014805 then ((some (y130 ++ y133 : List (S55))).bind fun y136 => ((some (l0.drop (x5_1 : Int).toNat : List (S55))).bind fun y139 => (if y136.length + y139.length < 5864062014805 then (some (y136 ++ y139)) else (none)))) else (none)))) else (none))) else (none)) = some r := by first | (rw [hy123]; with_reducible exact H) | (have H2_ := (Option.bind_some _ _).symm.trans H; rw [hy123]; with_reducible exact H2_) | (have H2_ := (Option.bind_some _ _).symm.trans H; with_reducible exact H2_) | with_reducible exact H | (rw [hy123]; exact H) | exact H
   have Ny123 := Aside0.mk hy123
   clear hy123
   have c8b0 := eq_true (ode_ : 0 ≤ x5_1)
   by_cases c9 : x5_1 ≤ (l0.length : Int)
   rotate_left
   ·rw [if_neg c9] at H
    exact absurd H (by simp)
   rw [if_pos c9] at H
   have c9b0 := eq_true c9
   have c9b1 : decide (x5_1 ≤ (l0.length : Int)) = true := decide_eq_true c9
   clear c9
   obtain ⟨y126, hy126⟩ : ∃ y_ : List (S55), y_ = (l0.take (x5_1 : Int).toNat) := ⟨_, rfl⟩
   replace H : (if y123.length + y126.length < 5864062014805 then ((some (y123 ++ y126 : List (S55))).bind fun y130 => ((some (([(⟨a1_0, a1_1⟩ : S55)] : List (S55)) : List (S55))).bind fun y133 => (if y130.length + y133.length < 5864062014805 then ((some (y130 ++ y133 : List (S55))).bind fun y136 => ((some (l0.drop (x5_1 : Int).toNat : List (S55))).bind fun y139 => (if y136.length + y139.length < 5864062014805 then (some (y136 ++ y139)) else (none)))) else (none)))) else (none)) = some r := by first | (rw [hy126]; with_reducible exact H) | (have H2_ := (Option.bind_some _ _).symm.trans H; rw [hy126]; with_reducible exact H2_) | (have H2_ := (Option.bind_some _ _).symm.trans H; with_reducible exact H2_) | with_reducible exact H | (rw [hy126]; exact H) | exact H
   have Ny126 := Aside0.mk hy126
   clear hy126
   by_cases c10 : y123.length + y126.length < 5864062014805
   rotate_left
   ·rw [if_neg c10] at H
    exact absurd H (by simp)
   rw [if_pos c10] at H
   have LMc10 := Aside0.mk c10
   clear c10
   obtain ⟨y130, hy130⟩ : ∃ y_ : List (S55), y_ = (y123 ++ y126) := ⟨_, rfl⟩
   replace H : ((some (([(⟨a1_0, a1_1⟩ : S55)] : List (S55)) : List (S55))).bind fun y133 => (if y130.length + y133.length < 5864062014805 then ((some (y130 ++ y133 : List (S55))).bind fun y136 => ((some (l0.drop (x5_1 : Int).toNat : List (S55))).bind fun y139 => (if y136.length + y139.length < 5864062014805 then (some (y136 ++ y139)) else (none)))) else (none))) = some r := by first | (rw [hy130]; with_reducible exact H) | (have H2_ := (Option.bind_some _ _).symm.trans H; rw [hy130]; with_reducible exact H2_) | (have H2_ := (Option.bind_some _ _).symm.trans H; with_reducible exact H2_) | with_reducible exact H | (rw [hy130]; exact H) | exact H
   have Ny130 := Aside0.mk hy130
   clear hy130
   obtain ⟨y133, hy133⟩ : ∃ y_ : List (S55), y_ = (([(⟨a1_0, a1_1⟩ : S55)] : List (S55))) := ⟨_, rfl⟩
   replace H : (if y130.length + y133.length < 5864062014805 then ((some (y130 ++ y133 : List (S55))).bind fun y136 => ((some (l0.drop (x5_1 : Int).toNat : List (S55))).bind fun y139 => (if y136.length + y139.length < 5864062014805 then (some (y136 ++ y139)) else (none)))) else (none)) = some r := by first | (rw [hy133]; with_reducible exact H) | (have H2_ := (Option.bind_some _ _).symm.trans H; rw [hy133]; with_reducible exact H2_) | (have H2_ := (Option.bind_some _ _).symm.trans H; with_reducible exact H2_) | with_reducible exact H | (rw [hy133]; exact H) | exact H
   have Ny133 := Aside0.mk hy133
   clear hy133
   by_cases c11 : y130.length + y133.length < 5864062014805
   rotate_left
   ·rw [if_neg c11] at H
    exact absurd H (by simp)
   rw [if_pos c11] at H
   have LMc11 := Aside0.mk c11
   clear c11
   obtain ⟨y136, hy136⟩ : ∃ y_ : List (S55), y_ = (y130 ++ y133) := ⟨_, rfl⟩
   replace H : ((some (l0.drop (x5_1 : Int).toNat : List (S55))).bind fun y139 => (if y136.length + y139.length < 5864062014805 then (some (y136 ++ y139)) else (none))) = some r := by first | (rw [hy136]; with_reducible exact H) | (have H2_ := (Option.bind_some _ _).symm.trans H; rw [hy136]; with_reducible exact H2_) | (have H2_ := (Option.bind_some _ _).symm.trans H; with_reducible exact H2_) | with_reducible exact H | (rw [hy136]; exact H) | exact H
   have Ny136 := Aside0.mk hy136
   clear hy136
   have c12b0 := eq_true (ode_ : 0 ≤ x5_1)
   have c13b0 := eq_true (ode_ : x5_1 ≤ (l0.length : Int))
   obtain ⟨y139, hy139⟩ : ∃ y_ : List (S55), y_ = (l0.drop (x5_1 : Int).toNat) := ⟨_, rfl⟩
   replace H : (if y136.length + y139.length < 5864062014805 then (some (y136 ++ y139)) else (none)) = some r := by first | (rw [hy139]; with_reducible exact H) | (have H2_ := (Option.bind_some _ _).symm.trans H; rw [hy139]; with_reducible exact H2_) | (have H2_ := (Option.bind_some _ _).symm.trans H; with_reducible exact H2_) | with_reducible exact H | (rw [hy139]; exact H) | exact H
   have Ny139 := Aside0.mk hy139
   clear hy139
   by_cases c14 : y136.length + y139.length < 5864062014805
   rotate_left
   ·rw [if_neg c14] at H
    exact absurd H (by simp)
   rw [if_pos c14] at H
   have LMc14 := Aside0.mk c14
   clear c14
   obtain ⟨y143, hy143⟩ : ∃ y_ : List (S55), y_ = (y136 ++ y139) := ⟨_, rfl⟩
   replace H : (some y143) = some r := by first | (rw [hy143]; with_reducible exact H) | (have H2_ := (Option.bind_some _ _).symm.trans H; rw [hy143]; with_reducible exact H2_) | (have H2_ := (Option.bind_some _ _).symm.trans H; with_reducible exact H2_) | with_reducible exact H | (rw [hy143]; exact H) | exact H
   have Ny143 := Aside0.mk hy143
   clear hy143
   obtain rfl := Option.some.inj H
   try go_wp2
   replace BK121 := aM_ (blk_drew BK121.out)
   replace HB := aM_ (below_drew1 HB.out)
   have p122 : 0 ≤ (x5_1 : Int) := ode_
   have q122 : x5_1 < (l0.length : Int) := ode_
   obtain ⟨ad122, e122, hx122_0, hx122_1⟩ := at_T55 HR0.out x5_1 p122 q122
   have hw122_1 := hx122_1
   have hw122_0 := hx122_0
   cases e122
   replace hx122_0 := (HB.out.cell (World.block_lt_of_cell? w _ hx122_0)).trans hx122_0
   replace hx122_1 := (HB.out.cell (World.block_lt_of_cell? w _ hx122_1)).trans hx122_1
   replace p122 := eq_true p122
   replace q122 := eq_true q122
   refine start_ (n := 14) (S := fun w' => w'.cell? ⟨gb121, 0, none⟩ = some (.string a1_0) ∧ w'.cell? ⟨gb121, 1, none⟩ = some (.int .i64 a1_1) ∧ w'.cell? (ad122.add ((x5_1).toNat * 2)) = some (.string ((rd_T55 l0 x5_1).f0)) ∧ w'.cell? ⟨(ad122.add ((x5_1).toNat * 2)).block, (ad122.add ((x5_1).toNat * 2)).off + 1, none⟩ = some (.int .i64 ((rd_T55 l0 x5_1).f1))) (ds := []) b5_14_0 (by kernel_rfl) rfl rfl ⟨(blk_cell BK121.out 0).trans rfl, (blk_cell BK121.out 1).trans rfl, ((HB.out.cell (World.block_lt_of_cell? w _ hw122_0)).trans hw122_0), ((HB.out.cell (World.block_lt_of_cell? w _ hw122_1)).trans hw122_1)⟩ (fun hHeld => ?_); refine with_tabW spec_loPut.tab2 spec_loPut.bits2 (fun HT_ HW_ => ?_)
   generalize wr.drew = w15 at BK121 HB hx122_0 hx122_1 hHeld ⊢
   refine pure_ (i := 0) (N := some 6) (v := ?_) (a' := ?_) b5_14_1 rfl rfl (aT_ HT_ (by kernel_rfl)) (fun _ _ _ h => h) (Or.inl ⟨by rfl, ?_⟩) ?_ ?_; rotate_left; (focus intro w'; go_simp; with_reducible rfl); rotate_left; (focus simp only [aP_, aQ_, aS_, aZ_, aU_, i64_w, i32_w]; try rfl)
   refine pure_ (i := 1) (N := some 7) (v := ?_) (a' := ?_) b5_14_3 rfl rfl (aT_ HT_ (by kernel_rfl)) (fun _ _ _ h => h) (Or.inl ⟨by rfl, ?_⟩) ?_ ?_; rotate_left; (focus intro w'; go_simp; with_reducible rfl); rotate_left; (focus simp only [aP_, aQ_, aS_, aZ_, aU_, i64_w, i32_w]; try rfl)
   refine pure_ (i := 2) (N := some 8) (v := ?_) (a' := ?_) b5_14_7 rfl rfl (aT_ HT_ (by kernel_rfl)) (fun _ _ _ h => h) (Or.inl ⟨by rfl, ?_⟩) ?_ ?_; rotate_left; (focus intro w'; go_simp; with_reducible rfl); rotate_left; (focus simp only [aP_, aQ_, aS_, aZ_, aU_, i64_w, i32_w]; try rfl)
   refine pure_ (i := 3) (N := some 9) (v := ?_) (a' := ?_) b5_14_f rfl rfl (aT_ HT_ (by kernel_rfl)) (fun _ _ _ h => h) (Or.inl ⟨by rfl, ?_⟩) ?_ ?_; rotate_left; (focus intro w'; go_simp; with_reducible rfl); rotate_left; (focus simp only [aP_, aQ_, aS_, aZ_, aU_, i64_w, i32_w]; try rfl)
   refine pure_ (i := 4) (N := some 10) (v := ?_) (a' := ?_) b5_14_1f rfl rfl (aT_ HT_ (by kernel_rfl)) (fun _ _ _ h => h) (Or.inl ⟨by rfl, ?_⟩) ?_ ?_; rotate_left; (focus intro w'; go_simp; with_reducible rfl); rotate_left; (focus simp only [aP_, aQ_, aS_, aZ_, aU_, i64_w, i32_w]; try rfl)
   refine pure_ (i := 5) (N := some 11) (v := ?_) (a' := ?_) b5_14_3f rfl rfl (aT_ HT_ (by kernel_rfl)) (fun _ _ _ h => h) (Or.inl ⟨by rfl, ?_⟩) ?_ ?_; rotate_left; (focus intro w'; go_simp; with_reducible rfl); rotate_left; (focus simp only [aP_, aQ_, aS_, aZ_, aU_, i64_w, i32_w]; try rfl)
   refine pure_ (i := 6) (N := some 12) (v := ?_) (a' := ?_) b5_14_7f rfl rfl (aT_ HT_ (by kernel_rfl)) (fun _ _ _ h => h) (Or.inl ⟨by rfl, ?_⟩) ?_ ?_; rotate_left; (focus intro w'; go_simp; with_reducible rfl); rotate_left; (focus simp only [aP_, aQ_, aS_, aZ_, aU_, i64_w, i32_w]; try rfl)
   refine pure_ (i := 7) (N := some 13) (v := ?_) (a' := ?_) b5_14_ff rfl rfl (aT_ HT_ (by kernel_rfl)) (fun _ _ _ h => h) (Or.inl ⟨by rfl, ?_⟩) ?_ ?_; rotate_left; (focus intro w'; go_simp; with_reducible rfl); rotate_left; (focus simp only [aP_, aQ_, aS_, aZ_, aU_, i64_w, i32_w]; try rfl)
   refine pure_ (i := 8) (N := some 14) (v := ?_) (a' := ?_) b5_14_1ff rfl rfl (aT_ HT_ (by kernel_rfl)) (fun _ _ _ h => h) (Or.inl ⟨by rfl, ?_⟩) ?_ ?_; rotate_left; (focus intro w'; go_simp; with_reducible rfl); rotate_left; (focus simp only [aP_, aQ_, aS_, aZ_, aU_, i64_w, i32_w]; try rfl)
   refine pure_ (i := 10) (N := some 16) (v := ?_) (a' := ?_) b5_14_5ff rfl rfl (aT_ HT_ (by kernel_rfl)) (fun _ _ _ h => h) (Or.inl ⟨by rfl, ?_⟩) ?_ ?_; rotate_left; (focus intro w'; go_simp; with_reducible rfl); rotate_left; (focus simp only [aP_, aQ_, aS_, aZ_, aU_, i64_w, i32_w]; try rfl)
   refine take_ (i := 9) (N := some 15) (v := ?_) (a' := ?_) b5_14_7ff rfl rfl (take_ofW HT_.out HW_.out (by kernel_rfl)) (fun _ _ _ h => h) (Or.inl ⟨by rfl, ?_⟩) hHeld ?_ ?_; rotate_left; (focus rintro w' ⟨s0, s1, s2, s3⟩; go_simp; with_reducible rfl); rotate_left; (focus simp only [aP_, aQ_, aS_, aZ_, aU_, i64_w, i32_w]; try rfl)
   refine take_ (i := 11) (N := some 17) (v := ?_) (a' := ?_) b5_14_fff rfl rfl (take_ofW HT_.out HW_.out (by kernel_rfl)) (fun _ _ _ h => h) (Or.inl ⟨by rfl, ?_⟩) hHeld ?_ ?_; rotate_left; (focus rintro w' ⟨s0, s1, s2, s3⟩; go_simp; with_reducible rfl); rotate_left; (focus simp only [aP_, aQ_, aS_, aZ_, aU_, i64_w, i32_w]; try rfl)
   refine pure_ (i := 12) (N := some 18) (v := ?_) (a' := ?_) b5_14_1fff rfl rfl (aT_ HT_ (by kernel_rfl)) (fun _ _ _ h => h) (Or.inl ⟨by rfl, ?_⟩) ?_ ?_; rotate_left; (focus intro w'; go_simp; with_reducible rfl); rotate_left; (focus simp only [aP_, aQ_, aS_, aZ_, aU_, i64_w, i32_w]; try rfl)
   refine pure_ (i := 13) (N := some 19) (v := ?_) (a' := ?_) b5_14_3fff rfl rfl (aT_ HT_ (by kernel_rfl)) (fun _ _ _ h => h) (Or.inl ⟨by rfl, ?_⟩) ?_ ?_; rotate_left; (focus intro w'; go_simp; with_reducible rfl); rotate_left; (focus simp only [aP_, aQ_, aS_, aZ_, aU_, i64_w, i32_w]; try rfl)
   refine done_ (done_of HT_.out (by kernel_rfl)) ?_
   try go_wp2
   replace BK121 := aM_ (blk_drew BK121.out)
   replace HB := aM_ (below_drew1 HB.out)
   have q17 : (x5_1 : Int) ≤ ((l0.length : Int) : Int) := ode_
   obtain ⟨i017, hi017, _, hsz17, _⟩ := info_parts info55
   have hroom17 : l0.length ≤ c0 := HC0.out
   have hC17 : Kd.C k55 _ (some ad122) l0.length l0 := HR0.out
   have hcut17 := cut_to (P := Try.prog) 24 55 .i64 Try.underlying24 hi017 (some ad122) l0.length c0 x5_1 ode_ q17 hroom17
   have hr17 := Kd.C_take (m := (x5_1 : Int).toNat) hC17 (by omega)
   have hy17 : y126.length = (x5_1 : Int).toNat := (by rw [Ny126.out, List.length_take]; omega)
   rw [← Ny126.out] at hr17
   rw [← hy17] at hcut17
   have HR129 := Aside0.mk hr17
   have HC129 := Aside0.mk (show y126.length ≤ c0 from by omega)
   clear hr17 hC17 hroom17 hi017 hsz17
   have KY17 := Aside0.mk hy17
   clear hy17
   replace q17 := eq_true q17
   have q18 : (x5_1 : Int) ≤ ((l0.length : Int) : Int) := ode_
   obtain ⟨i018, hi018, _, hsz18, _⟩ := info_parts info55
   have hroom18 : l0.length ≤ c0 := HC0.out
   have hC18 : Kd.C k55 _ (some ad122) l0.length l0 := HR0.out
   have q018 : (0 : Int) ≤ (x5_1 : Int) := ode_
   have hcut18 := cut_from (P := Try.prog) 24 55 .i64 Try.underlying24 hi018 2 hsz18 (some ad122) l0.length c0 x5_1 q018 q18
   have hr18 := Kd.C_drop (m := (x5_1 : Int).toNat) (c := c0) hC18 (by omega) hroom18
   obtain ⟨A18, hA18⟩ : ∃ Ab_, Ab_ = (if c0 = (x5_1 : Int).toNat then (some ad122) else ((some ad122) : Option Addr).map (·.add ((x5_1 : Int).toNat * 2))) := ⟨_, rfl⟩
   obtain ⟨c18, hc18⟩ : ∃ cb_, cb_ = c0 - (x5_1 : Int).toNat := ⟨_, rfl⟩
   have hy18 : y139.length = l0.length - (x5_1 : Int).toNat := (by rw [Ny139.out, List.length_drop] <;> omega)
   rw [show (l0).drop (x5_1 : Int).toNat = y139 from Ny139.out.symm] at hr18
   replace hr18 : Kd.C k55 _ A18 y139.length y139 := (by rw [hA18]; exact hr18)
   rw [← hy18, ← hA18, ← hc18] at hcut18
   have HR142 := Aside0.mk hr18
   have HC142 := Aside0.mk (show y139.length ≤ c18 from by rw [hy18, hc18]; exact Nat.sub_le_sub_right hroom18 _)
   clear hr18 hC18 hroom18 hi018 hsz18 hc18
   have KY18 := Aside0.mk hy18
   have KA18 := Aside0.mk hA18
   clear hy18 hA18
   replace q18 := eq_true q18
   refine start_ (n := 13) (S := fun w' => w'.cell? ⟨gb121, 0, none⟩ = some (.string a1_0) ∧ w'.cell? ⟨gb121, 1, none⟩ = some (.int .i64 a1_1)) (ds := []) b5_13_0 (by kernel_rfl) rfl rfl ⟨(blk_cell BK121.out 0).trans rfl, (blk_cell BK121.out 1).trans rfl⟩ (fun hHeld => ?_); refine with_tabW spec_loPut.tab4 spec_loPut.bits4 (fun HT_ HW_ => ?_)
   generalize w15.drew = w16 at BK121 HB HR129 HR142 hHeld ⊢
   refine pure_ (i := 1) (N := some 23) (v := ?_) (a' := ?_) b5_13_2 rfl rfl (aT_ HT_ (by kernel_rfl)) (fun _ _ _ h => h) (Or.inl ⟨by rfl, ?_⟩) ?_ ?_; rotate_left; (focus intro w'; go_simp; with_reducible rfl); rotate_left; (focus simp only [aP_, aQ_, aS_, aZ_, aU_, i64_w, i32_w]; try rfl)
   refine pure_ (i := 2) (N := some 24) (v := ?_) (a' := ?_) b5_13_6 rfl rfl (aT_ HT_ (by kernel_rfl)) (fun _ _ _ h => h) (Or.inl ⟨by rfl, ?_⟩) ?_ ?_; rotate_left; (focus intro w'; go_simp; with_reducible rfl); rotate_left; (focus simp only [aP_, aQ_, aS_, aZ_, aU_, i64_w, i32_w]; try rfl)
   refine pure_ (i := 3) (N := some 25) (v := ?_) (a' := ?_) b5_13_e rfl rfl (aT_ HT_ (by kernel_rfl)) (fun _ _ _ h => h) (Or.inl ⟨by rfl, ?_⟩) ?_ ?_; rotate_left; (focus intro w'; go_simp; with_reducible rfl); rotate_left; (focus simp only [aP_, aQ_, aS_, aZ_, aU_, i64_w, i32_w]; try rfl)
   refine pure_ (i := 8) (N := some 30) (v := ?_) (a' := ?_) b5_13_10e rfl rfl (aT_ HT_ (by kernel_rfl)) (fun _ _ _ h => h) (Or.inl ⟨by rfl, ?_⟩) ?_ ?_; rotate_left; (focus intro w'; go_simp; with_reducible rfl); rotate_left; (focus simp only [aP_, aQ_, aS_, aZ_, aU_, i64_w, i32_w]; try rfl)
   refine pure_ (i := 9) (N := some 31) (v := ?_) (a' := ?_) b5_13_30e rfl rfl (aT_ HT_ (by kernel_rfl)) (fun _ _ _ h => h) (Or.inl ⟨by rfl, ?_⟩) ?_ ?_; rotate_left; (focus intro w'; go_simp; with_reducible rfl); rotate_left; (focus simp only [aP_, aQ_, aS_, aZ_, aU_, i64_w, i32_w]; try rfl)
   refine pure_ (i := 10) (N := some 32) (v := ?_) (a' := ?_) b5_13_70e rfl rfl (aT_ HT_ (by kernel_rfl)) (fun _ _ _ h => h) (Or.inl ⟨by rfl, ?_⟩) ?_ ?_; rotate_left; (focus intro w'; go_simp; with_reducible rfl); rotate_left; (focus simp only [aP_, aQ_, aS_, aZ_, aU_, i64_w, i32_w]; try rfl)
   refine take_ (i := 5) (N := some 27) (v := ?_) (a' := ?_) b5_13_72e rfl rfl (take_ofW HT_.out HW_.out (by kernel_rfl)) (fun _ _ _ h => h) (Or.inl ⟨by rfl, ?_⟩) hHeld ?_ ?_; rotate_left; (focus rintro w' ⟨s0, s1⟩; go_simp; with_reducible rfl); rotate_left; (focus simp only [aP_, aQ_, aS_, aZ_, aU_, i64_w, i32_w]; try rfl)
   refine join_ (σ := Value × Value × Value) 3 b5_13_77f (fun s_ => [(22, s_.1), (26, s_.2.1), (28, s_.2.2)]) (fun s_ w' => (w'.cell? ⟨gb121, 0, none⟩ = some (.string a1_0) ∧ w'.cell? ⟨gb121, 1, none⟩ = some (.int .i64 a1_1)) ∧ (Kd.R k55 55 w' w.heap.size (fun k_ => some k_ ≠ (s_.2.2 : Value).ownBlock ∧ k_ ≠ gb121) s_.2.1 y130) ∧ (Kd.R k55 55 w' w.heap.size (fun k_ => some k_ ≠ (s_.2.1 : Value).ownBlock ∧ k_ ≠ gb121) s_.2.2 y133) ∧ (w'.heap[gb121]? = some (.cells #[.string a1_0, .int .i64 a1_1] 55 (0, 0))) ∧ (Below w.heap.size w w')) ?_ ?_
   rotate_left
   ·intro hCont
    refine two_ (i := 0) (j := 6) (Ni := some 22) (Nj := some 28) b5_13_72f b5_13_76e rfl rfl rfl rfl (two_of HT_.out (by kernel_rfl)) (by decide) (by decide) (fun K hK => ?_) (fun K hK => ?_)
    ·skip
     refine Kd.R_lit_step k55 _ 55 ?hg (N := 22) ?hd (xs := ([] : List (S55))) (inner := []) (ok := fun _ => True) (okp := fun _ => True) ?hr ?hp (fun _ hk => hk) trivial (Below.refl _ _) (Nat.le_refl _) (by simp) ?_; (case hd => rfl); (case hg => rfl); (case hr => first | (go_simp; done) | (go_simp; rfl)); (case hp => exact (Reps.none _ _))
     intro v124 w19 ho20 hb hg_ hnew_
     clear hg_ hnew_
     (first | rw [← Ny123.out] at ho20 | (simp only [Int.reduceToNat] at ho20; rw [← Ny123.out] at ho20))
     have HO125 := aM_ (Kd.R_lower (Kd.R_newB ho20 (g := gb121) kP_) (below_size hB_))
     replace BK121 := aM_ (blk_below (g := gb121) kP_ hb)
     replace HB := aM_ (below_step hB_ hb)
     clear hb ho20
     refine hK.out _ _ ⟨(blk_cell BK121.out 0).trans rfl, (blk_cell BK121.out 1).trans rfl⟩ (fun hHeld => ?_)
     clear hK K
     refine norm_ (a' := ?_) ?_ ?_; rotate_left; (focus show Act.put _ (some 22) _ = _; simp only [aP_, aQ_, aS_, aZ_, aU_, i64_w, i32_w]; try rfl)
     refine two_ (i := 4) (j := 6) (Ni := some 26) (Nj := some 28) b5_13_73f b5_13_76f rfl rfl rfl rfl (two_of HT_.out (by kernel_rfl)) (by decide) (by decide) (fun K hK => ?_) (fun K hK => ?_)
     ·skip
      refine Kd.R_append_rows_step k55 (w0 := w) w.heap.size (by rfl) (.tmp 22) (.tmp 25) 24 55 (.agg #[(.string ⟨#[]⟩), (.int .i64 0)]) 24 rfl Try.underlying24 info55 rfl (by decide) (by omega) v124 y123 y126 _ _ _ (fun k_ => k_ ≠ gb121) (fun _ => False) rfl rfl ?aO ?aR (fun _ _ h => h) (fun _ h => h.elim) ?aF ?aB ?aS ?aL ?_
      (case aR => repeat (first | exact (Kd.C_below HR129.out HB.out) | (with_reducible first | apply cA_ | apply cN_ | apply cD_)))
      (case aB => exact hB_)
      (case aF => exact (fun k_ hk => Kd.freshB (g := gb121) kP_ k_ hk))
      (case aO => exact (by (with_reducible repeat (first | apply rA_ | apply rN_ | apply rD_)); exact Kd.R_mono HO125.out (fun _ hk => hk.2)))
      (case aS => exact (below_size hB_))
      (case aL => have := LMc10.out; omega)
      intro v131 w21 ho hb hg hat
      rw [← Ny130.out] at ho
      have HO132 := aM_ (ho)
      replace BK121 := aM_ (blk_grown (g := gb121) kP_ hg (Kd.R_away HO125.out (fun _ hk => hk.2)))
      replace HB := aM_ (hb)
      clear HO125
      clear ho hb hg hat
      refine hK.out _ _ ⟨(blk_cell BK121.out 0).trans rfl, (blk_cell BK121.out 1).trans rfl⟩ (fun hHeld => ?_)
      clear hK K
      refine norm_ (a' := ?_) ?_ ?_; rotate_left; (focus show Act.put _ (some 26) _ = _; simp only [aP_, aQ_, aS_, aZ_, aU_, i64_w, i32_w]; try rfl)
      refine one_ (i := 6) (N := some 28) b5_13_77f rfl rfl (one_of HT_.out (by kernel_rfl)) (by decide) (fun K hK => ?_)
      refine Kd.R_lit_step k55 _ 55 ?hg (N := 28) ?hd (xs := ([(⟨a1_0, a1_1⟩ : S55)] : List (S55))) (inner := [.string a1_0, .int .i64 a1_1]) (ok := fun _ => True) (okp := fun _ => True) ?hr ?hp (fun _ hk => hk) trivial (Below.refl _ _) (Nat.le_refl _) (by simp) ?_; (case hd => rfl); (case hg => rfl); (case hr => first | (go_simp; done) | (go_simp; rfl)); (case hp => exact (Reps.c2 (show Kd.M k55 _ _ _ (⟨a1_0, a1_1⟩ : S55) [.string a1_0, .int .i64 a1_1] from (k55_mkM _ _ _ (⟨a1_0, a1_1⟩ : S55) )) (Reps.none _ _)))
      intro v134 w22 ho23 hb hg_ hnew_
      clear hg_ hnew_
      (first | rw [← Ny133.out] at ho23 | (simp only [Int.reduceToNat] at ho23; rw [← Ny133.out] at ho23))
      have HO135 := aM_ (Kd.R_lower (Kd.R_newB (Kd.R_new' ho23 (Kd.R_lt y5_7_)) (g := gb121) kP_) (below_size hB_))
      replace HO132 := aM_ (Kd.R_elder' y5_7_ (Kd.R_base ho23) hb)
      replace BK121 := aM_ (blk_below (g := gb121) kP_ hb)
      replace HB := aM_ (below_step hB_ hb)
      clear hb ho23
      refine hK.out _ _ ⟨(blk_cell BK121.out 0).trans rfl, (blk_cell BK121.out 1).trans rfl⟩ (fun hHeld => ?_)
      clear hK K
      refine norm_ (a' := ?_) ?_ ?_; rotate_left; (focus show Act.put _ (some 28) _ = _; simp only [aP_, aQ_, aS_, aZ_, aU_, i64_w, i32_w]; try rfl)
      exact norm_ y5_1_ (hCont (v124, v131, v134) _ ⟨hHeld, (by (with_reducible repeat (first | apply rA_ | apply rN_ | apply rD_)); exact Kd.R_mono HO132.out (fun _ hk => ⟨hk.2, hk.1⟩)), y5_8_, y5_3_, hB_⟩)
     ·skip
      refine Kd.R_lit_step k55 _ 55 ?hg (N := 28) ?hd (xs := ([(⟨a1_0, a1_1⟩ : S55)] : List (S55))) (inner := [.string a1_0, .int .i64 a1_1]) (ok := fun _ => True) (okp := fun _ => True) ?hr ?hp (fun _ hk => hk) trivial (Below.refl _ _) (Nat.le_refl _) (by simp) ?_; (case hd => rfl); (case hg => rfl); (case hr => first | (go_simp; done) | (go_simp; rfl)); (case hp => exact (Reps.c2 (show Kd.M k55 _ _ _ (⟨a1_0, a1_1⟩ : S55) [.string a1_0, .int .i64 a1_1] from (k55_mkM _ _ _ (⟨a1_0, a1_1⟩ : S55) )) (Reps.none _ _)))
      intro v134 w21 ho22 hb hg_ hnew_
      clear hg_ hnew_
      (first | rw [← Ny133.out] at ho22 | (simp only [Int.reduceToNat] at ho22; rw [← Ny133.out] at ho22))
      have HO135 := aM_ (Kd.R_lower (Kd.R_newB (Kd.R_new' ho22 (Kd.R_lt y5_9_)) (g := gb121) kP_) (below_size hB_))
      replace HO125 := aM_ (Kd.R_elder' y5_9_ (Kd.R_base ho22) hb)
      replace BK121 := aM_ (blk_below (g := gb121) kP_ hb)
      replace HB := aM_ (below_step hB_ hb)
      clear hb ho22
      refine hK.out _ _ ⟨(blk_cell BK121.out 0).trans rfl, (blk_cell BK121.out 1).trans rfl⟩ (fun hHeld => ?_)
      clear hK K
      refine norm_ (a' := ?_) ?_ ?_; rotate_left; (focus show Act.put _ (some 28) _ = _; simp only [aP_, aQ_, aS_, aZ_, aU_, i64_w, i32_w]; try rfl)
      refine one_ (i := 4) (N := some 26) b5_13_77f rfl rfl (one_of HT_.out (by kernel_rfl)) (by decide) (fun K hK => ?_)
      refine Kd.R_append_rows_step k55 (w0 := w) w.heap.size (by rfl) (.tmp 22) (.tmp 25) 24 55 (.agg #[(.string ⟨#[]⟩), (.int .i64 0)]) 24 rfl Try.underlying24 info55 rfl (by decide) (by omega) v124 y123 y126 _ _ _ (fun k_ => some k_ ≠ (v134 : Value).ownBlock ∧ k_ ≠ gb121) (fun _ => False) rfl rfl ?aO ?aR (fun _ _ h => h) (fun _ h => h.elim) ?aF ?aB ?aS ?aL ?_
      (case aR => repeat (first | exact (Kd.C_below HR129.out HB.out) | (with_reducible first | apply cA_ | apply cN_ | apply cD_)))
      (case aB => exact hB_)
      (case aF => exact (fun k_ hk => ⟨Kd.fresh' (Kd.R_lt y5_10_) k_ hk, Kd.freshB (g := gb121) kP_ k_ hk⟩))
      (case aO => exact (by (with_reducible repeat (first | apply rA_ | apply rN_ | apply rD_)); exact Kd.R_mono HO125.out (fun _ hk => ⟨hk.2, hk.1.2⟩)))
      (case aS => exact (below_size hB_))
      (case aL => have := LMc10.out; omega)
      intro v131 w23 ho hb hg hat
      rw [← Ny130.out] at ho
      have HO132 := aM_ (ho)
      replace BK121 := aM_ (blk_grown (g := gb121) kP_ hg (Kd.R_away HO125.out (fun _ hk => hk.1.2)))
      replace HO135 := aM_ (Kd.R_after (ok := (fun k_ => k_ ≠ gb121)) (by (with_reducible repeat (first | apply rA_ | apply rN_ | apply rD_)); exact Kd.R_mono HO135.out (fun _ hk => ⟨hk.2, hk.1.2⟩)) hg hat)
      replace HB := aM_ (hb)
      clear HO125
      clear ho hb hg hat
      refine hK.out _ _ ⟨(blk_cell BK121.out 0).trans rfl, (blk_cell BK121.out 1).trans rfl⟩ (fun hHeld => ?_)
      clear hK K
      refine norm_ (a' := ?_) ?_ ?_; rotate_left; (focus show Act.put _ (some 26) _ = _; simp only [aP_, aQ_, aS_, aZ_, aU_, i64_w, i32_w]; try rfl)
      exact norm_ y5_1_ (hCont (v124, v131, v134) _ ⟨hHeld, y5_7_, y5_11_, y5_3_, hB_⟩)
    ·skip
     refine Kd.R_lit_step k55 _ 55 ?hg (N := 28) ?hd (xs := ([(⟨a1_0, a1_1⟩ : S55)] : List (S55))) (inner := [.string a1_0, .int .i64 a1_1]) (ok := fun _ => True) (okp := fun _ => True) ?hr ?hp (fun _ hk => hk) trivial (Below.refl _ _) (Nat.le_refl _) (by simp) ?_; (case hd => rfl); (case hg => rfl); (case hr => first | (go_simp; done) | (go_simp; rfl)); (case hp => exact (Reps.c2 (show Kd.M k55 _ _ _ (⟨a1_0, a1_1⟩ : S55) [.string a1_0, .int .i64 a1_1] from (k55_mkM _ _ _ (⟨a1_0, a1_1⟩ : S55) )) (Reps.none _ _)))
     intro v134 w19 ho20 hb hg_ hnew_
     clear hg_ hnew_
     (first | rw [← Ny133.out] at ho20 | (simp only [Int.reduceToNat] at ho20; rw [← Ny133.out] at ho20))
     have HO135 := aM_ (Kd.R_lower (Kd.R_newB ho20 (g := gb121) kP_) (below_size hB_))
     replace BK121 := aM_ (blk_below (g := gb121) kP_ hb)
     replace HB := aM_ (below_step hB_ hb)
     clear hb ho20
     refine hK.out _ _ ⟨(blk_cell BK121.out 0).trans rfl, (blk_cell BK121.out 1).trans rfl⟩ (fun hHeld => ?_)
     clear hK K
     refine norm_ (a' := ?_) ?_ ?_; rotate_left; (focus show Act.put _ (some 28) _ = _; simp only [aP_, aQ_, aS_, aZ_, aU_, i64_w, i32_w]; try rfl)
     refine one_ (i := 0) (N := some 22) b5_13_76f rfl rfl (one_of HT_.out (by kernel_rfl)) (by decide) (fun K hK => ?_)
     refine Kd.R_lit_step k55 _ 55 ?hg (N := 22) ?hd (xs := ([] : List (S55))) (inner := []) (ok := fun _ => True) (okp := fun _ => True) ?hr ?hp (fun _ hk => hk) trivial (Below.refl _ _) (Nat.le_refl _) (by simp) ?_; (case hd => rfl); (case hg => rfl); (case hr => first | (go_simp; done) | (go_simp; rfl)); (case hp => exact (Reps.none _ _))
     intro v124 w21 ho22 hb hg_ hnew_
     clear hg_ hnew_
     (first | rw [← Ny123.out] at ho22 | (simp only [Int.reduceToNat] at ho22; rw [← Ny123.out] at ho22))
     have HO125 := aM_ (Kd.R_lower (Kd.R_newB (Kd.R_new' ho22 (Kd.R_lt y5_10_)) (g := gb121) kP_) (below_size hB_))
     replace HO135 := aM_ (Kd.R_elder' y5_10_ (Kd.R_base ho22) hb)
     replace BK121 := aM_ (blk_below (g := gb121) kP_ hb)
     replace HB := aM_ (below_step hB_ hb)
     clear hb ho22
     refine hK.out _ _ ⟨(blk_cell BK121.out 0).trans rfl, (blk_cell BK121.out 1).trans rfl⟩ (fun hHeld => ?_)
     clear hK K
     refine norm_ (a' := ?_) ?_ ?_; rotate_left; (focus show Act.put _ (some 22) _ = _; simp only [aP_, aQ_, aS_, aZ_, aU_, i64_w, i32_w]; try rfl)
     refine one_ (i := 4) (N := some 26) b5_13_77f rfl rfl (one_of HT_.out (by kernel_rfl)) (by decide) (fun K hK => ?_)
     refine Kd.R_append_rows_step k55 (w0 := w) w.heap.size (by rfl) (.tmp 22) (.tmp 25) 24 55 (.agg #[(.string ⟨#[]⟩), (.int .i64 0)]) 24 rfl Try.underlying24 info55 rfl (by decide) (by omega) v124 y123 y126 _ _ _ (fun k_ => some k_ ≠ (v134 : Value).ownBlock ∧ k_ ≠ gb121) (fun _ => False) rfl rfl ?aO ?aR (fun _ _ h => h) (fun _ h => h.elim) ?aF ?aB ?aS ?aL ?_
     (case aR => repeat (first | exact (Kd.C_below HR129.out HB.out) | (with_reducible first | apply cA_ | apply cN_ | apply cD_)))
     (case aB => exact hB_)
     (case aF => exact (fun k_ hk => ⟨Kd.fresh' (Kd.R_lt y5_10_) k_ hk, Kd.freshB (g := gb121) kP_ k_ hk⟩))
     (case aO => exact (by (with_reducible repeat (first | apply rA_ | apply rN_ | apply rD_)); exact Kd.R_mono HO125.out (fun _ hk => ⟨hk.1.2, hk.2⟩)))
     (case aS => exact (below_size hB_))
     (case aL => have := LMc10.out; omega)
     intro v131 w23 ho hb hg hat
     rw [← Ny130.out] at ho
     have HO132 := aM_ (ho)
     replace BK121 := aM_ (blk_grown (g := gb121) kP_ hg (Kd.R_away HO125.out (fun _ hk => hk.2)))
     replace HO135 := aM_ (Kd.R_after (ok := (fun k_ => k_ ≠ gb121)) y5_8_ hg hat)
     replace HB := aM_ (hb)
     clear HO125
     clear ho hb hg hat
     refine hK.out _ _ ⟨(blk_cell BK121.out 0).trans rfl, (blk_cell BK121.out 1).trans rfl⟩ (fun hHeld => ?_)
     clear hK K
     refine norm_ (a' := ?_) ?_ ?_; rotate_left; (focus show Act.put _ (some 26) _ = _; simp only [aP_, aQ_, aS_, aZ_, aU_, i64_w, i32_w]; try rfl)
     exact norm_ y5_1_ (hCont (v124, v131, v134) _ ⟨hHeld, y5_7_, y5_11_, y5_3_, hB_⟩)
   rintro ⟨v124, v131, v134⟩ w24 ⟨hS_, h0_, h1_, h2_, h3_⟩
   have n0_ : Aside0 (Kd.R k55 55 w24 w.heap.size (fun k_ => some k_ ≠ (v134 : Value).ownBlock ∧ k_ ≠ gb121) v131 y130) := ⟨h0_⟩
   have n1_ : Aside0 (Kd.R k55 55 w24 w.heap.size (fun k_ => some k_ ≠ (v131 : Value).ownBlock ∧ k_ ≠ gb121) v134 y133) := ⟨h1_⟩
   have n2_ : Aside0 (w24.heap[gb121]? = some (.cells #[.string a1_0, .int .i64 a1_1] 55 (0, 0))) := ⟨h2_⟩
   have n3_ : Aside0 (Below w.heap.size w w24) := ⟨h3_⟩
   clear BK121
   clear HB
   clear h0_ h1_ h2_ h3_
   have HO132 := n0_
   have HO135 := n1_
   have BK121 := n2_
   have HB := n3_
   clear n0_ n1_ n2_ n3_
   have hHeld : w24.cell? ⟨gb121, 0, none⟩ = some (.string a1_0) ∧ w24.cell? ⟨gb121, 1, none⟩ = some (.int .i64 a1_1) := hS_
   obtain ⟨Ao26, co26, eo26⟩ := Kd.R_slice HO135.out
   (first | subst eo26 | (injection eo26 with f1_ f2_ f3_; have f4_ := f1_.symm; have f5_ := f3_.symm; clear f1_ f2_ f3_; subst f4_; subst f5_))
   refine norm_ (a' := ?_) ?_ ?_
   rotate_left
   ·simp only [putAll, Act.put, List.setIfInBounds_toArray, List.set_cons_zero, List.set_cons_succ]
    rfl
   refine one_ (i := 7) (N := some 29) b5_13_7ff rfl rfl (one_of HT_.out (by kernel_rfl)) (by decide) (fun K hK => ?_)
   refine Kd.R_append_rows_step k55 (w0 := w) w.heap.size (by rfl) (.tmp 26) (.tmp 28) 24 55 (.agg #[(.string ⟨#[]⟩), (.int .i64 0)]) 24 rfl Try.underlying24 info55 rfl (by decide) (by omega) v131 y130 y133 _ _ _ (fun k_ => some k_ ≠ (.slice Ao26 y133.length co26 : Value).ownBlock ∧ k_ ≠ gb121) (fun _ => False) rfl rfl ?aO ?aR (fun _ _ h => h) (fun _ h => h.elim) ?aF ?aB ?aS ?aL ?_
   (case aR => repeat (first | exact (Kd.R_reads' HO135.out).2.2 | (with_reducible first | apply cA_ | apply cN_ | apply cD_)))
   (case aB => exact hB_)
   (case aF => exact (fun k_ hk => ⟨Kd.fresh' (Kd.R_lt y5_10_) k_ hk, Kd.freshB (g := gb121) kP_ k_ hk⟩))
   (case aO => exact y5_7_)
   (case aS => exact (below_size hB_))
   (case aL => have := LMc11.out; omega)
   intro v137 w25 ho hb hg hat
   rw [← Ny136.out] at ho
   have HO138 := aM_ (ho)
   replace BK121 := aM_ (blk_grown (g := gb121) kP_ hg (Kd.R_away HO132.out (fun _ hk => hk.2)))
   replace HO135 := aM_ (Kd.R_after (ok := (fun k_ => k_ ≠ gb121)) y5_11_ hg hat)
   replace HB := aM_ (hb)
   clear HO132
   clear ho hb hg hat
   refine hK.out _ _ ⟨(blk_cell BK121.out 0).trans rfl, (blk_cell BK121.out 1).trans rfl⟩ (fun hHeld => ?_)
   clear hK K
   refine norm_ (a' := ?_) ?_ ?_; rotate_left; (focus show Act.put _ (some 29) _ = _; simp only [aP_, aQ_, aS_, aZ_, aU_, i64_w, i32_w]; try rfl)
   refine one_ (i := 11) (N := some 33) b5_13_fff rfl rfl (one_of HT_.out (by kernel_rfl)) (by decide) (fun K hK => ?_)
   refine Kd.R_append_rows_step k55 (w0 := w) w.heap.size (by rfl) (.tmp 29) (.tmp 32) 24 55 (.agg #[(.string ⟨#[]⟩), (.int .i64 0)]) 24 rfl Try.underlying24 info55 rfl (by decide) (by omega) v137 y136 y139 _ _ _ (fun k_ => some k_ ≠ (.slice Ao26 y133.length co26 : Value).ownBlock ∧ k_ ≠ gb121) (fun _ => False) rfl rfl ?aO ?aR (fun _ _ h => h) (fun _ h => h.elim) ?aF ?aB ?aS ?aL ?_
   (case aR => repeat (first | exact (Kd.C_below HR142.out HB.out) | (with_reducible first | apply cA_ | apply cN_ | apply cD_)))
   (case aB => exact hB_)
   (case aF => exact (fun k_ hk => ⟨Kd.fresh' (Kd.R_lt y5_10_) k_ hk, Kd.freshB (g := gb121) kP_ k_ hk⟩))
   (case aO => exact (by (with_reducible repeat (first | apply rA_ | apply rN_ | apply rD_)); exact HO138.out))
   (case aS => exact (below_size hB_))
   (case aL => have := LMc14.out; omega)
   intro v144 w27 ho hb hg hat
   rw [← Ny143.out] at ho
   have HO145 := aM_ (ho)
   replace BK121 := aM_ (blk_grown (g := gb121) kP_ hg (Kd.R_away HO138.out (fun _ hk => hk.2)))
   replace HO135 := aM_ (Kd.R_after (ok := (fun k_ => k_ ≠ gb121)) y5_10_ hg hat)
   replace HB := aM_ (hb)
   clear HO138
   clear ho hb hg hat
   refine hK.out _ _ ⟨(blk_cell BK121.out 0).trans rfl, (blk_cell BK121.out 1).trans rfl⟩ (fun hHeld => ?_)
   clear hK K
   refine norm_ (a' := ?_) ?_ ?_; rotate_left; (focus show Act.put _ (some 33) _ = _; simp only [aP_, aQ_, aS_, aZ_, aU_, i64_w, i32_w]; try rfl)
   refine pure_ (i := 12) (N := some 4) (v := ?_) (a' := ?_) b5_13_1fff rfl rfl (aT_ HT_ (by kernel_rfl)) (fun _ _ _ h => h) (Or.inl ⟨by rfl, ?_⟩) ?_ ?_; rotate_left; (focus intro w'; go_simp; with_reducible rfl); rotate_left; (focus simp only [aP_, aQ_, aS_, aZ_, aU_, i64_w, i32_w]; try rfl)
   refine done_ (done_of HT_.out (by kernel_rfl)) ?_
   try go_wp2
   go_ret
   exact ⟨_, rT_, by (with_reducible repeat (first | apply rA_ | apply rN_ | apply rD_)); exact Kd.R_mono HO145.out (fun _ hk => trivial), hB_⟩

end Go.Proofs.Ytbheajjagkdjmaa.PFnLoci
