/- Printed for this claim: functions of the program as Lean functions, and that the calls answer so. -/
import Derived.Test.YtfkdlfbjkdkffaaGreatDoorPFnPointsx0
import Derived.Test.YtfkdlfbjkdkffaaGreatDoorPFnPointsxD0
namespace Go.Proofs.YtfkdlfbjkdkffaaGreatDoor.PFnPoints
open Go.RowKit Go.Proofs.YtfkdlfbjkdkffaaGreatDoorW.PrintWords Go.Proofs.YtfkdlfbjkdkffaaGreatDoorW.PrintLast Go.Proofs.YtfkdlfbjkdkffaaGreatDoorW.PrintMore
attribute [local go_sem] max2_int min2_int max_two min_two max_three min_three max_four min_four isSome_setCell   -- for this text's walks alone
set_option linter.unusedVariables false
set_option linter.unusedSimpArgs false

theorem z5_0_ {p : Prop} (h : p := by simp only [putAll, Act.put, List.setIfInBounds_toArray, List.set_cons_zero, List.set_cons_succ]) : p := h
/-! ### spec_loPut: function 108 -/
def spec_loPut.T2 : Bool × List (List Nat × List Nat) := (true, [([], []), ([], []), ([1], [1]), ([0, 2], [0, 2]), ([3], [3]), ([4], [4]), ([4], [4]), ([5, 6, 4], [4, 5, 6]), ([7, 4], [4, 7]), ([8, 4], [4, 8]), ([4], [4]), ([10, 4], [4, 10]), ([9, 11, 4], [4, 9, 11]), ([4, 12], [4, 12])])
def spec_loPut.B2 : List Nat := [0, 0, 2, 7, 15, 31, 31, 127, 255, 511, 31, 1055, 4095, 8191]
theorem spec_loPut.tab2 : rtab .any (opsOf Tryz.f108 2) = spec_loPut.T2 := by kernel_rfl
theorem spec_loPut.bits2 : waitsOk spec_loPut.T2.2 spec_loPut.B2 = true := by kernel_rfl
def spec_loPut.T4 : Bool × List (List Nat × List Nat) := (true, [([], []), ([], []), ([], []), ([1, 2], [1, 2]), ([0, 3], [0, 3]), ([], []), ([5], [5]), ([4, 6, 4], [4, 6]), ([], []), ([], []), ([8, 9], [8, 9]), ([7, 10, 7], [7, 10]), ([11, 11, 0, 1, 2, 3, 4, 5, 6, 7, 8, 9, 10, 11], [11])])
def spec_loPut.B4 : List Nat := [0, 0, 0, 6, 15, 0, 32, 127, 0, 0, 768, 2047, 4095]
theorem spec_loPut.tab4 : rtab .any (opsOf Tryz.f108 4) = spec_loPut.T4 := by kernel_rfl
theorem spec_loPut.bits4 : waitsOk spec_loPut.T4.2 spec_loPut.B4 = true := by kernel_rfl
set_option maxHeartbeats 8000000 in
set_option maxRecDepth 100000 in
theorem spec_loPut.calls (k : Nat) (A0 : Option Addr) (c0 : Nat) (l0 : List (S58)) (a1_0 : ByteArray) (a1_1 : Int) (r : List (S58)) (w : World) (hr0 : Kd.C k58 w A0 l0.length l0) (hc0 : l0.length ≤ c0) (h : spec_loPut.f k l0 a1_0 a1_1 = some r) :
 Calls Tryz.prog 108 #[.slice A0 l0.length c0, .agg #[.string a1_0, .int .i64 a1_1]] w fun e w' => ∃ v0_ : Value, e = .returned (v0_) ∧ Kd.R k58 58 w' w.heap.size (fun _ => True) v0_ r ∧ Below w.heap.size w w' := by
 have hu58 := Tryz.underlying58
 have HR0 := Aside0.mk hr0
 have HC0 := Aside0.mk hc0
 clear hr0 hc0
 have HB := Aside0.mk (Below.refl w.heap.size w)
 have H : (spec_loPut.l0 k l0 0 a1_0 a1_1) = some r := h
 clear h
 have H' := Aside0.mk H
 clear H
 go_enter Tryz.func108, Tryz.ntmps108
 go_wp2_with (first | ((with_reducible refine gate_dst (N := 3) rfl ?_); refine bx_ 3 #[.string a1_0, .int .i64 a1_1] 58 fun gb128 hg w3 hbox hb => ?_; have BK128 := aM_ (hbox); have GW128 := aM_ (gw_ w hg); have GE128 := aM_ (gw_ w hg); replace HB := aM_ (below_step hB_ hb); clear hb hbox hg))
 try simp only [Act.put, List.setIfInBounds_toArray, List.set_cons_zero, List.set_cons_succ]
 go_loopg [5] k (fun kq v5 w' => ∃ (x5_1 : Int), v5 = .int .i64 x5_1 ∧ Aside0 (spec_loPut.l0 kq l0 x5_1 a1_0 a1_1 = some r) ∧ Aside0 (kq ≤ k) ∧ Aside0 (w'.heap[gb128]? = some (.cells #[.string a1_0, .int .i64 a1_1] 58 (0, 0))) ∧ Aside0 (Below w.heap.size w w'))
 case atStart => exact ⟨(0), (by first | rfl | (simp; done) | (simp [*]; done)), H', ⟨Nat.le_refl _⟩, ⟨kP_⟩, ⟨hB_⟩⟩
 case round =>
  clear H'
  obtain ⟨x5_1, rfl, HA, HK1, BK128, HB⟩ := hrel
  cases gk with
  | zero => exact absurd HA.out (by simp [spec_loPut.l0])
  | succ k1 =>
   have H := HA.out
   clear HA
   simp only [spec_loPut.l0] at H
   replace H := iF_ H; obtain ⟨c4b0, H⟩ | ⟨c4b0, H⟩ := H
   ·replace H := bs_ H; obtain ⟨y153, Ny153, H⟩ := H; try dsimp only at H
    replace H := it_ H; obtain ⟨c28b0, c28b1, H⟩ := H
    replace H := it_ H; obtain ⟨c29b0, c29b1, H⟩ := H
    replace H := bs_ H; obtain ⟨y156, Ny156, H⟩ := H; try dsimp only at H
    replace H := il_ H; obtain ⟨LMc30, H⟩ := H
    replace H := bs_ H; obtain ⟨y160, Ny160, H⟩ := H; try dsimp only at H
    replace H := bs_ H; obtain ⟨y163, Ny163, H⟩ := H; try dsimp only at H
    replace H := il_ H; obtain ⟨LMc31, H⟩ := H
    replace H := bs_ H; obtain ⟨y166, Ny166, H⟩ := H; try dsimp only at H
    have c32b0 := eq_true (ode_ : 0 ≤ x5_1)
    have c33b0 := eq_true (ode_ : x5_1 ≤ (l0.length : Int))
    replace H := bs_ H; obtain ⟨y169, Ny169, H⟩ := H; try dsimp only at H
    replace H := il_ H; obtain ⟨LMc34, H⟩ := H
    obtain ⟨y173, hy173⟩ : ∃ y_ : List (S58), y_ = (y166 ++ y169) := ⟨_, rfl⟩
    rw [← hy173] at H
    have Ny173 := Aside0.mk hy173; clear hy173
    obtain rfl := Option.some.inj H
    try go_wp2
    replace BK128 := aM_ (blk_drew BK128.out)
    replace HB := aM_ (below_drew1 HB.out)
    refine st_ 14 (fun w' => True) [] spec_loPut.tab2 spec_loPut.bits2 trivial fun hHeld HT_ HW_ => ?_
    generalize wr.drew = w35 at BK128 HB hHeld ⊢
    refine pu_ 0 6 ?_
    refine pu_ 1 7 ?_
    refine pu_ 2 8 ?_
    refine pu_ 3 9 ?_
    refine pu_ 4 10 ?_
    refine pv_ 5 11 ?_
    refine pv_ 6 12 ?_
    refine pv_ 7 13 ?_
    refine pv_ 8 14 ?_
    refine pv_ 9 15 ?_
    refine pv_ 10 16 ?_
    refine pv_ 11 17 ?_
    refine pv_ 12 18 ?_
    refine pu_ 13 19 ?_
    refine dn_ ?_
    try go_wp2
    replace BK128 := aM_ (blk_drew BK128.out)
    replace HB := aM_ (below_drew1 HB.out)
    have q37 : (x5_1 : Int) ≤ ((l0.length : Int) : Int) := ode_
    obtain ⟨i037, hi037, _, hsz37, _⟩ := info_parts info58
    have hroom37 : l0.length ≤ c0 := HC0.out
    have hC37 : Kd.C k58 _ A0 l0.length l0 := HR0.out
    have hcut37 := cut_to (P := Tryz.prog) 23 58 .i64 Tryz.underlying23 hi037 A0 l0.length c0 x5_1 ode_ q37 hroom37
    have hr37 := Kd.C_take (m := (x5_1 : Int).toNat) hC37 (by omega)
    have hy37 : y156.length = (x5_1 : Int).toNat := (by rw [Ny156.out, List.length_take]; omega)
    rw [← Ny156.out] at hr37
    rw [← hy37] at hcut37
    have HR159 := Aside0.mk hr37
    have HC159 := Aside0.mk (show y156.length ≤ c0 from by omega)
    clear hr37 hC37 hroom37 hi037 hsz37
    have KY37 := Aside0.mk hy37
    clear hy37
    replace q37 := eq_true q37
    have q38 : (x5_1 : Int) ≤ ((l0.length : Int) : Int) := ode_
    obtain ⟨i038, hi038, _, hsz38, _⟩ := info_parts info58
    have hroom38 : l0.length ≤ c0 := HC0.out
    have hC38 : Kd.C k58 _ A0 l0.length l0 := HR0.out
    have q038 : (0 : Int) ≤ (x5_1 : Int) := ode_
    have hcut38 := cut_from (P := Tryz.prog) 23 58 .i64 Tryz.underlying23 hi038 2 hsz38 A0 l0.length c0 x5_1 q038 q38
    have hr38 := Kd.C_drop (m := (x5_1 : Int).toNat) (c := c0) hC38 (by omega) hroom38
    obtain ⟨A38, hA38⟩ : ∃ Ab_, Ab_ = (if c0 = (x5_1 : Int).toNat then A0 else (A0 : Option Addr).map (·.add ((x5_1 : Int).toNat * 2))) := ⟨_, rfl⟩
    obtain ⟨c38, hc38⟩ : ∃ cb_, cb_ = c0 - (x5_1 : Int).toNat := ⟨_, rfl⟩
    have hy38 : y169.length = l0.length - (x5_1 : Int).toNat := (by rw [Ny169.out, List.length_drop] <;> omega)
    rw [show (l0).drop (x5_1 : Int).toNat = y169 from Ny169.out.symm] at hr38
    replace hr38 : Kd.C k58 _ A38 y169.length y169 := (by rw [hA38]; exact hr38)
    rw [← hy38, ← hA38, ← hc38] at hcut38
    have HR172 := Aside0.mk hr38
    have HC172 := Aside0.mk (show y169.length ≤ c38 from by rw [hy38, hc38]; exact Nat.sub_le_sub_right hroom38 _)
    clear hr38 hC38 hroom38 hi038 hsz38 hc38
    have KY38 := Aside0.mk hy38
    have KA38 := Aside0.mk hA38
    clear hy38 hA38
    replace q38 := eq_true q38
    refine st_ 13 (fun w' => w'.cell? ⟨gb128, 0, none⟩ = some (.string a1_0) ∧ w'.cell? ⟨gb128, 1, none⟩ = some (.int .i64 a1_1)) [] spec_loPut.tab4 spec_loPut.bits4 ⟨(blk_cell BK128.out 0).trans rfl, (blk_cell BK128.out 1).trans rfl⟩ fun hHeld HT_ HW_ => ?_
    generalize w35.drew = w36 at BK128 HB HR159 HR172 hHeld ⊢
    refine pu_ 1 23 ?_
    refine pu_ 2 24 ?_
    refine pu_ 3 25 ?_
    refine pu_ 8 30 ?_
    refine pu_ 9 31 ?_
    refine pu_ 10 32 ?_
    refine tk_ 5 27 ?_
    refine join_ (σ := Value × Value × Value) 3 (bz_ 13 0x77f) (fun s_ => [(22, s_.1), (26, s_.2.1), (28, s_.2.2)]) (fun s_ w' => (w'.cell? ⟨gb128, 0, none⟩ = some (.string a1_0) ∧ w'.cell? ⟨gb128, 1, none⟩ = some (.int .i64 a1_1)) ∧ (Kd.R k58 58 w' w.heap.size (fun k_ => some k_ ≠ (s_.2.2 : Value).ownBlock ∧ k_ ≠ gb128) s_.2.1 y160) ∧ (Kd.R k58 58 w' w.heap.size (fun k_ => some k_ ≠ (s_.2.1 : Value).ownBlock ∧ k_ ≠ gb128) s_.2.2 y163) ∧ (w'.heap[gb128]? = some (.cells #[.string a1_0, .int .i64 a1_1] 58 (0, 0))) ∧ (Below w.heap.size w w')) ?_ ?_
    rotate_left
    ·intro hCont
     refine two_ (i := 0) (j := 6) (Ni := some 22) (Nj := some 28) (bz_ 13 0x72f) (bz_ 13 0x76e) rfl rfl rfl rfl (two_of HT_.out (by kernel_rfl)) (by decide) (by decide) (fun K hK => ?_) (fun K hK => ?_)
     ·skip
      refine Kd.R_lit_step k58 _ 58 ?hg (N := 22) ?hd (xs := ([] : List (S58))) (inner := []) (ok := fun _ => True) (okp := fun _ => True) ?hr ?hp (fun _ hk => hk) trivial (Below.refl _ _) (Nat.le_refl _) (by simp) ?_; (case hd => rfl); (case hg => rfl); (case hr => first | (go_simp; done) | (go_simp; rfl)); (case hp => exact (Reps.none _ _))
      intro v154 w39 ho40 hb hg_ hnew_
      clear hg_ hnew_
      (first | rw [← Ny153.out] at ho40 | (simp only [Int.reduceToNat] at ho40; rw [← Ny153.out] at ho40))
      have HO155 := aM_ (Kd.R_lower (Kd.R_newB ho40 (g := gb128) kP_) (below_size hB_))
      replace BK128 := aM_ (blk_below (g := gb128) (kR_ BK128) hb)
      replace HB := aM_ (below_step hB_ hb)
      clear hb ho40
      refine hK.out _ _ ⟨(blk_cell BK128.out 0).trans rfl, (blk_cell BK128.out 1).trans rfl⟩ (fun hHeld => ?_)
      clear hK K
      refine nm_ 22 ?_
      refine two_ (i := 4) (j := 6) (Ni := some 26) (Nj := some 28) (bz_ 13 0x73f) (bz_ 13 0x76f) rfl rfl rfl rfl (two_of HT_.out (by kernel_rfl)) (by decide) (by decide) (fun K hK => ?_) (fun K hK => ?_)
      ·skip
       refine Kd.R_append_rows_step k58 (w0 := w) w.heap.size (by rfl) (.tmp 22) (.tmp 25) 23 58 (.agg #[(.string ⟨#[]⟩), (.int .i64 0)]) 24 rfl Tryz.underlying23 info58 rfl (by decide) (by omega) v154 y153 y156 _ _ _ (fun k_ => k_ ≠ gb128) (fun _ => False) rfl rfl ?aO ?aR (fun _ _ h => h) (fun _ h => h.elim) ?aF ?aB ?aS ?aL ?_
       (case aR => repeat (first | exact (Kd.C_below HR159.out HB.out) | (with_reducible first | apply cA_ | apply cN_ | apply cD_)))
       (case aB => exact hB_)
       (case aF => exact (fun k_ hk => Kd.freshB (g := gb128) kP_ k_ hk))
       (case aO => exact (rM_ HO155 (fun _ hk => hk.2)))
       (case aS => exact (below_size hB_))
       (case aL => have := LMc30.out; omega)
       intro v161 w41 ho hb hg hat
       rw [← Ny160.out] at ho
       have HO162 := aM_ (ho)
       replace BK128 := aM_ (blk_grown (g := gb128) (kR_ BK128) hg (Kd.R_away HO155.out (fun _ hk => hk.2)))
       replace HB := aM_ (hb)
       clear HO155
       clear ho hb hg hat
       refine hK.out _ _ ⟨(blk_cell BK128.out 0).trans rfl, (blk_cell BK128.out 1).trans rfl⟩ (fun hHeld => ?_)
       clear hK K
       refine nm_ 26 ?_
       refine on_ 6 28 fun K hK => ?_
       refine Kd.R_lit_step k58 _ 58 ?hg (N := 28) ?hd (xs := ([(⟨a1_0, a1_1⟩ : S58)] : List (S58))) (inner := [.string a1_0, .int .i64 a1_1]) (ok := fun _ => True) (okp := fun _ => True) ?hr ?hp (fun _ hk => hk) trivial (Below.refl _ _) (Nat.le_refl _) (by simp) ?_; (case hd => rfl); (case hg => rfl); (case hr => first | (go_simp; done) | (go_simp; rfl)); (case hp => exact (Reps.c2 (show Kd.M k58 _ _ _ (⟨a1_0, a1_1⟩ : S58) [.string a1_0, .int .i64 a1_1] from (k58_mkM _ _ _ (⟨a1_0, a1_1⟩ : S58) )) (Reps.none _ _)))
       intro v164 w42 ho43 hb hg_ hnew_
       clear hg_ hnew_
       (first | rw [← Ny163.out] at ho43 | (simp only [Int.reduceToNat] at ho43; rw [← Ny163.out] at ho43))
       have HO165 := aM_ (Kd.R_lower (Kd.R_newB (Kd.R_new' ho43 (Kd.R_lt (rR_ HO162))) (g := gb128) kP_) (below_size hB_))
       replace HO162 := aM_ (Kd.R_elder' (rR_ HO162) (Kd.R_base ho43) hb)
       replace BK128 := aM_ (blk_below (g := gb128) (kR_ BK128) hb)
       replace HB := aM_ (below_step hB_ hb)
       clear hb ho43
       refine hK.out _ _ ⟨(blk_cell BK128.out 0).trans rfl, (blk_cell BK128.out 1).trans rfl⟩ (fun hHeld => ?_)
       clear hK K
       refine nm_ 28 ?_
       exact norm_ z5_0_ (hCont (v154, v161, v164) _ ⟨hHeld, (rM_ HO162 (fun _ hk => ⟨hk.2, hk.1⟩)), (rM_ HO165 (fun _ hk => ⟨hk.1.2, hk.2⟩)), (kR_ BK128), hB_⟩)
      ·skip
       refine Kd.R_lit_step k58 _ 58 ?hg (N := 28) ?hd (xs := ([(⟨a1_0, a1_1⟩ : S58)] : List (S58))) (inner := [.string a1_0, .int .i64 a1_1]) (ok := fun _ => True) (okp := fun _ => True) ?hr ?hp (fun _ hk => hk) trivial (Below.refl _ _) (Nat.le_refl _) (by simp) ?_; (case hd => rfl); (case hg => rfl); (case hr => first | (go_simp; done) | (go_simp; rfl)); (case hp => exact (Reps.c2 (show Kd.M k58 _ _ _ (⟨a1_0, a1_1⟩ : S58) [.string a1_0, .int .i64 a1_1] from (k58_mkM _ _ _ (⟨a1_0, a1_1⟩ : S58) )) (Reps.none _ _)))
       intro v164 w41 ho42 hb hg_ hnew_
       clear hg_ hnew_
       (first | rw [← Ny163.out] at ho42 | (simp only [Int.reduceToNat] at ho42; rw [← Ny163.out] at ho42))
       have HO165 := aM_ (Kd.R_lower (Kd.R_newB (Kd.R_new' ho42 (Kd.R_lt (rR_ HO155))) (g := gb128) kP_) (below_size hB_))
       replace HO155 := aM_ (Kd.R_elder' (rR_ HO155) (Kd.R_base ho42) hb)
       replace BK128 := aM_ (blk_below (g := gb128) (kR_ BK128) hb)
       replace HB := aM_ (below_step hB_ hb)
       clear hb ho42
       refine hK.out _ _ ⟨(blk_cell BK128.out 0).trans rfl, (blk_cell BK128.out 1).trans rfl⟩ (fun hHeld => ?_)
       clear hK K
       refine nm_ 28 ?_
       refine on_ 4 26 fun K hK => ?_
       refine Kd.R_append_rows_step k58 (w0 := w) w.heap.size (by rfl) (.tmp 22) (.tmp 25) 23 58 (.agg #[(.string ⟨#[]⟩), (.int .i64 0)]) 24 rfl Tryz.underlying23 info58 rfl (by decide) (by omega) v154 y153 y156 _ _ _ (fun k_ => some k_ ≠ (v164 : Value).ownBlock ∧ k_ ≠ gb128) (fun _ => False) rfl rfl ?aO ?aR (fun _ _ h => h) (fun _ h => h.elim) ?aF ?aB ?aS ?aL ?_
       (case aR => repeat (first | exact (Kd.C_below HR159.out HB.out) | (with_reducible first | apply cA_ | apply cN_ | apply cD_)))
       (case aB => exact hB_)
       (case aF => exact (fun k_ hk => ⟨Kd.fresh' (Kd.R_lt (rR_ HO165)) k_ hk, Kd.freshB (g := gb128) kP_ k_ hk⟩))
       (case aO => exact (rM_ HO155 (fun _ hk => ⟨hk.2, hk.1.2⟩)))
       (case aS => exact (below_size hB_))
       (case aL => have := LMc30.out; omega)
       intro v161 w43 ho hb hg hat
       rw [← Ny160.out] at ho
       have HO162 := aM_ (ho)
       replace BK128 := aM_ (blk_grown (g := gb128) (kR_ BK128) hg (Kd.R_away HO155.out (fun _ hk => hk.1.2)))
       replace HO165 := aM_ (Kd.R_after (ok := (fun k_ => k_ ≠ gb128)) (rM_ HO165 (fun _ hk => ⟨hk.2, hk.1.2⟩)) hg hat)
       replace HB := aM_ (hb)
       clear HO155
       clear ho hb hg hat
       refine hK.out _ _ ⟨(blk_cell BK128.out 0).trans rfl, (blk_cell BK128.out 1).trans rfl⟩ (fun hHeld => ?_)
       clear hK K
       refine nm_ 26 ?_
       exact norm_ z5_0_ (hCont (v154, v161, v164) _ ⟨hHeld, (rR_ HO162), (rM_ HO165 (fun _ hk => ⟨hk.2, hk.1⟩)), (kR_ BK128), hB_⟩)
     ·skip
      refine Kd.R_lit_step k58 _ 58 ?hg (N := 28) ?hd (xs := ([(⟨a1_0, a1_1⟩ : S58)] : List (S58))) (inner := [.string a1_0, .int .i64 a1_1]) (ok := fun _ => True) (okp := fun _ => True) ?hr ?hp (fun _ hk => hk) trivial (Below.refl _ _) (Nat.le_refl _) (by simp) ?_; (case hd => rfl); (case hg => rfl); (case hr => first | (go_simp; done) | (go_simp; rfl)); (case hp => exact (Reps.c2 (show Kd.M k58 _ _ _ (⟨a1_0, a1_1⟩ : S58) [.string a1_0, .int .i64 a1_1] from (k58_mkM _ _ _ (⟨a1_0, a1_1⟩ : S58) )) (Reps.none _ _)))
      intro v164 w39 ho40 hb hg_ hnew_
      clear hg_ hnew_
      (first | rw [← Ny163.out] at ho40 | (simp only [Int.reduceToNat] at ho40; rw [← Ny163.out] at ho40))
      have HO165 := aM_ (Kd.R_lower (Kd.R_newB ho40 (g := gb128) kP_) (below_size hB_))
      replace BK128 := aM_ (blk_below (g := gb128) (kR_ BK128) hb)
      replace HB := aM_ (below_step hB_ hb)
      clear hb ho40
      refine hK.out _ _ ⟨(blk_cell BK128.out 0).trans rfl, (blk_cell BK128.out 1).trans rfl⟩ (fun hHeld => ?_)
      clear hK K
      refine nm_ 28 ?_
      refine on_ 0 22 fun K hK => ?_
      refine Kd.R_lit_step k58 _ 58 ?hg (N := 22) ?hd (xs := ([] : List (S58))) (inner := []) (ok := fun _ => True) (okp := fun _ => True) ?hr ?hp (fun _ hk => hk) trivial (Below.refl _ _) (Nat.le_refl _) (by simp) ?_; (case hd => rfl); (case hg => rfl); (case hr => first | (go_simp; done) | (go_simp; rfl)); (case hp => exact (Reps.none _ _))
      intro v154 w41 ho42 hb hg_ hnew_
      clear hg_ hnew_
      (first | rw [← Ny153.out] at ho42 | (simp only [Int.reduceToNat] at ho42; rw [← Ny153.out] at ho42))
      have HO155 := aM_ (Kd.R_lower (Kd.R_newB (Kd.R_new' ho42 (Kd.R_lt (rR_ HO165))) (g := gb128) kP_) (below_size hB_))
      replace HO165 := aM_ (Kd.R_elder' (rR_ HO165) (Kd.R_base ho42) hb)
      replace BK128 := aM_ (blk_below (g := gb128) (kR_ BK128) hb)
      replace HB := aM_ (below_step hB_ hb)
      clear hb ho42
      refine hK.out _ _ ⟨(blk_cell BK128.out 0).trans rfl, (blk_cell BK128.out 1).trans rfl⟩ (fun hHeld => ?_)
      clear hK K
      refine nm_ 22 ?_
      refine on_ 4 26 fun K hK => ?_
      refine Kd.R_append_rows_step k58 (w0 := w) w.heap.size (by rfl) (.tmp 22) (.tmp 25) 23 58 (.agg #[(.string ⟨#[]⟩), (.int .i64 0)]) 24 rfl Tryz.underlying23 info58 rfl (by decide) (by omega) v154 y153 y156 _ _ _ (fun k_ => some k_ ≠ (v164 : Value).ownBlock ∧ k_ ≠ gb128) (fun _ => False) rfl rfl ?aO ?aR (fun _ _ h => h) (fun _ h => h.elim) ?aF ?aB ?aS ?aL ?_
      (case aR => repeat (first | exact (Kd.C_below HR159.out HB.out) | (with_reducible first | apply cA_ | apply cN_ | apply cD_)))
      (case aB => exact hB_)
      (case aF => exact (fun k_ hk => ⟨Kd.fresh' (Kd.R_lt (rR_ HO165)) k_ hk, Kd.freshB (g := gb128) kP_ k_ hk⟩))
      (case aO => exact (rM_ HO155 (fun _ hk => ⟨hk.1.2, hk.2⟩)))
      (case aS => exact (below_size hB_))
      (case aL => have := LMc30.out; omega)
      intro v161 w43 ho hb hg hat
      rw [← Ny160.out] at ho
      have HO162 := aM_ (ho)
      replace BK128 := aM_ (blk_grown (g := gb128) (kR_ BK128) hg (Kd.R_away HO155.out (fun _ hk => hk.2)))
      replace HO165 := aM_ (Kd.R_after (ok := (fun k_ => k_ ≠ gb128)) (rM_ HO165 (fun _ hk => ⟨hk.1.2, hk.2⟩)) hg hat)
      replace HB := aM_ (hb)
      clear HO155
      clear ho hb hg hat
      refine hK.out _ _ ⟨(blk_cell BK128.out 0).trans rfl, (blk_cell BK128.out 1).trans rfl⟩ (fun hHeld => ?_)
      clear hK K
      refine nm_ 26 ?_
      exact norm_ z5_0_ (hCont (v154, v161, v164) _ ⟨hHeld, (rR_ HO162), (rM_ HO165 (fun _ hk => ⟨hk.2, hk.1⟩)), (kR_ BK128), hB_⟩)
    rintro ⟨v154, v161, v164⟩ w44 ⟨hS_, h0_, h1_, h2_, h3_⟩
    have n0_ : Aside0 (Kd.R k58 58 w44 w.heap.size (fun k_ => some k_ ≠ (v164 : Value).ownBlock ∧ k_ ≠ gb128) v161 y160) := ⟨h0_⟩
    have n1_ : Aside0 (Kd.R k58 58 w44 w.heap.size (fun k_ => some k_ ≠ (v161 : Value).ownBlock ∧ k_ ≠ gb128) v164 y163) := ⟨h1_⟩
    have n2_ : Aside0 (w44.heap[gb128]? = some (.cells #[.string a1_0, .int .i64 a1_1] 58 (0, 0))) := ⟨h2_⟩
    have n3_ : Aside0 (Below w.heap.size w w44) := ⟨h3_⟩
    clear BK128
    clear HB
    clear h0_ h1_ h2_ h3_
    have HO162 := n0_
    have HO165 := n1_
    have BK128 := n2_
    have HB := n3_
    clear n0_ n1_ n2_ n3_
    have hHeld : w44.cell? ⟨gb128, 0, none⟩ = some (.string a1_0) ∧ w44.cell? ⟨gb128, 1, none⟩ = some (.int .i64 a1_1) := hS_
    obtain ⟨Ao46, co46, eo46⟩ := Kd.R_slice HO165.out
    (first | subst eo46 | (injection eo46 with f1_ f2_ f3_; have f4_ := f1_.symm; have f5_ := f3_.symm; clear f1_ f2_ f3_; subst f4_; subst f5_))
    refine norm_ (a' := ?_) ?_ ?_
    rotate_left
    ·simp only [putAll, Act.put, List.setIfInBounds_toArray, List.set_cons_zero, List.set_cons_succ]
     rfl
    refine on_ 7 29 fun K hK => ?_
    refine Kd.R_append_rows_step k58 (w0 := w) w.heap.size (by rfl) (.tmp 26) (.tmp 28) 23 58 (.agg #[(.string ⟨#[]⟩), (.int .i64 0)]) 24 rfl Tryz.underlying23 info58 rfl (by decide) (by omega) v161 y160 y163 _ _ _ (fun k_ => some k_ ≠ (.slice Ao46 y163.length co46 : Value).ownBlock ∧ k_ ≠ gb128) (fun _ => False) rfl rfl ?aO ?aR (fun _ _ h => h) (fun _ h => h.elim) ?aF ?aB ?aS ?aL ?_
    (case aR => exact cR_ HO165)
    (case aB => exact hB_)
    (case aF => exact (fun k_ hk => ⟨Kd.fresh' (Kd.R_lt (rR_ HO165)) k_ hk, Kd.freshB (g := gb128) kP_ k_ hk⟩))
    (case aO => exact (rR_ HO162))
    (case aS => exact (below_size hB_))
    (case aL => have := LMc31.out; omega)
    intro v167 w45 ho hb hg hat
    rw [← Ny166.out] at ho
    have HO168 := aM_ (ho)
    replace BK128 := aM_ (blk_grown (g := gb128) (kR_ BK128) hg (Kd.R_away HO162.out (fun _ hk => hk.2)))
    replace HO165 := aM_ (Kd.R_after (ok := (fun k_ => k_ ≠ gb128)) (rM_ HO165 (fun _ hk => ⟨hk.2, hk.1⟩)) hg hat)
    replace HB := aM_ (hb)
    clear HO162
    clear ho hb hg hat
    refine hK.out _ _ ⟨(blk_cell BK128.out 0).trans rfl, (blk_cell BK128.out 1).trans rfl⟩ (fun hHeld => ?_)
    clear hK K
    refine nm_ 29 ?_
    refine on_ 11 33 fun K hK => ?_
    refine Kd.R_append_rows_step k58 (w0 := w) w.heap.size (by rfl) (.tmp 29) (.tmp 32) 23 58 (.agg #[(.string ⟨#[]⟩), (.int .i64 0)]) 24 rfl Tryz.underlying23 info58 rfl (by decide) (by omega) v167 y166 y169 _ _ _ (fun k_ => some k_ ≠ (.slice Ao46 y163.length co46 : Value).ownBlock ∧ k_ ≠ gb128) (fun _ => False) rfl rfl ?aO ?aR (fun _ _ h => h) (fun _ h => h.elim) ?aF ?aB ?aS ?aL ?_
    (case aR => repeat (first | exact (Kd.C_below HR172.out HB.out) | (with_reducible first | apply cA_ | apply cN_ | apply cD_)))
    (case aB => exact hB_)
    (case aF => exact (fun k_ hk => ⟨Kd.fresh' (Kd.R_lt (rR_ HO165)) k_ hk, Kd.freshB (g := gb128) kP_ k_ hk⟩))
    (case aO => exact (rR_ HO168))
    (case aS => exact (below_size hB_))
    (case aL => have := LMc34.out; omega)
    intro v174 w47 ho hb hg hat
    rw [← Ny173.out] at ho
    have HO175 := aM_ (ho)
    replace BK128 := aM_ (blk_grown (g := gb128) (kR_ BK128) hg (Kd.R_away HO168.out (fun _ hk => hk.2)))
    replace HO165 := aM_ (Kd.R_after (ok := (fun k_ => k_ ≠ gb128)) (rR_ HO165) hg hat)
    replace HB := aM_ (hb)
    clear HO168
    clear ho hb hg hat
    refine hK.out _ _ ⟨(blk_cell BK128.out 0).trans rfl, (blk_cell BK128.out 1).trans rfl⟩ (fun hHeld => ?_)
    clear hK K
    refine nm_ 33 ?_
    refine pu_ 12 4 ?_
    refine dn_ ?_
    try go_wp2
    go_ret
    exact ⟨_, rT_, by (with_reducible repeat (first | apply rA_ | apply rN_ | apply rD_)); exact Kd.R_mono HO175.out (fun _ hk => trivial), hB_⟩
   replace H := ig_ H; obtain ⟨c5b0, H⟩ := H
   replace H := iT_ H; obtain ⟨c6b0, H⟩ | ⟨c6b0, H⟩ := H
   ·have H' := Aside0.mk H
    clear H
    try go_wp2
    replace BK128 := aM_ (blk_drew BK128.out)
    replace HB := aM_ (below_drew1 HB.out)
    have p129 : 0 ≤ (x5_1 : Int) := ode_
    have q129 : x5_1 < (l0.length : Int) := ode_
    obtain ⟨ad129, e129, hx129_0, hx129_1⟩ := at_T58 HR0.out x5_1 p129 q129
    have hw129_1 := hx129_1
    have hw129_0 := hx129_0
    cases e129
    try replace hx129_0 := hc_ HB hx129_0
    try replace hx129_1 := hc_ HB hx129_1
    replace p129 := eq_true p129
    replace q129 := eq_true q129
    refine st_ 14 (fun w' => w'.cell? ⟨gb128, 0, none⟩ = some (.string a1_0) ∧ w'.cell? ⟨gb128, 1, none⟩ = some (.int .i64 a1_1) ∧ w'.cell? (ad129.add ((x5_1).toNat * 2)) = some (.string ((rd_T58 l0 x5_1).f0)) ∧ w'.cell? ⟨(ad129.add ((x5_1).toNat * 2)).block, (ad129.add ((x5_1).toNat * 2)).off + 1, none⟩ = some (.int .i64 ((rd_T58 l0 x5_1).f1))) [] spec_loPut.tab2 spec_loPut.bits2 ⟨(blk_cell BK128.out 0).trans rfl, (blk_cell BK128.out 1).trans rfl, ((HB.out.cell (World.block_lt_of_cell? w _ hw129_0)).trans hw129_0), ((HB.out.cell (World.block_lt_of_cell? w _ hw129_1)).trans hw129_1)⟩ fun hHeld HT_ HW_ => ?_
    generalize wr.drew = w7 at BK128 HB hx129_0 hx129_1 hHeld ⊢
    refine pu_ 0 6 ?_
    refine pu_ 1 7 ?_
    refine pu_ 2 8 ?_
    refine pu_ 3 9 ?_
    refine pu_ 4 10 ?_
    refine pu_ 5 11 ?_
    refine pu_ 6 12 ?_
    refine pu_ 7 13 ?_
    refine pu_ 8 14 ?_
    refine pu_ 10 16 ?_
    refine tk_ 9 15 ?_
    refine tk_ 11 17 ?_
    refine pu_ 12 18 ?_
    refine pu_ 13 19 ?_
    refine dn_ ?_
    try go_wp2
    go_roundg k1
    case measure => have := HK1.out; omega
    case rel => exact ⟨(wrap64 (x5_1 + 1)), (by first | rfl | (simp; done) | (simp [*]; done)), H', ⟨by have := HK1.out; omega⟩, ⟨kP_⟩, ⟨hB_⟩⟩
   replace H := bs_ H; obtain ⟨y130, Ny130, H⟩ := H; try dsimp only at H
   have c8b0 := eq_true (ode_ : 0 ≤ x5_1)
   replace H := it_ H; obtain ⟨c9b0, c9b1, H⟩ := H
   replace H := bs_ H; obtain ⟨y133, Ny133, H⟩ := H; try dsimp only at H
   replace H := il_ H; obtain ⟨LMc10, H⟩ := H
   replace H := bs_ H; obtain ⟨y137, Ny137, H⟩ := H; try dsimp only at H
   replace H := bs_ H; obtain ⟨y140, Ny140, H⟩ := H; try dsimp only at H
   replace H := il_ H; obtain ⟨LMc11, H⟩ := H
   replace H := bs_ H; obtain ⟨y143, Ny143, H⟩ := H; try dsimp only at H
   have c12b0 := eq_true (ode_ : 0 ≤ x5_1)
   have c13b0 := eq_true (ode_ : x5_1 ≤ (l0.length : Int))
   replace H := bs_ H; obtain ⟨y146, Ny146, H⟩ := H; try dsimp only at H
   replace H := il_ H; obtain ⟨LMc14, H⟩ := H
   obtain ⟨y150, hy150⟩ : ∃ y_ : List (S58), y_ = (y143 ++ y146) := ⟨_, rfl⟩
   rw [← hy150] at H
   have Ny150 := Aside0.mk hy150; clear hy150
   obtain rfl := Option.some.inj H
   try go_wp2
   replace BK128 := aM_ (blk_drew BK128.out)
   replace HB := aM_ (below_drew1 HB.out)
   have p129 : 0 ≤ (x5_1 : Int) := ode_
   have q129 : x5_1 < (l0.length : Int) := ode_
   obtain ⟨ad129, e129, hx129_0, hx129_1⟩ := at_T58 HR0.out x5_1 p129 q129
   have hw129_1 := hx129_1
   have hw129_0 := hx129_0
   cases e129
   try replace hx129_0 := hc_ HB hx129_0
   try replace hx129_1 := hc_ HB hx129_1
   replace p129 := eq_true p129
   replace q129 := eq_true q129
   refine st_ 14 (fun w' => w'.cell? ⟨gb128, 0, none⟩ = some (.string a1_0) ∧ w'.cell? ⟨gb128, 1, none⟩ = some (.int .i64 a1_1) ∧ w'.cell? (ad129.add ((x5_1).toNat * 2)) = some (.string ((rd_T58 l0 x5_1).f0)) ∧ w'.cell? ⟨(ad129.add ((x5_1).toNat * 2)).block, (ad129.add ((x5_1).toNat * 2)).off + 1, none⟩ = some (.int .i64 ((rd_T58 l0 x5_1).f1))) [] spec_loPut.tab2 spec_loPut.bits2 ⟨(blk_cell BK128.out 0).trans rfl, (blk_cell BK128.out 1).trans rfl, ((HB.out.cell (World.block_lt_of_cell? w _ hw129_0)).trans hw129_0), ((HB.out.cell (World.block_lt_of_cell? w _ hw129_1)).trans hw129_1)⟩ fun hHeld HT_ HW_ => ?_
   generalize wr.drew = w15 at BK128 HB hx129_0 hx129_1 hHeld ⊢
   refine pu_ 0 6 ?_
   refine pu_ 1 7 ?_
   refine pu_ 2 8 ?_
   refine pu_ 3 9 ?_
   refine pu_ 4 10 ?_
   refine pu_ 5 11 ?_
   refine pu_ 6 12 ?_
   refine pu_ 7 13 ?_
   refine pu_ 8 14 ?_
   refine pu_ 10 16 ?_
   refine tk_ 9 15 ?_
   refine tk_ 11 17 ?_
   refine pu_ 12 18 ?_
   refine pu_ 13 19 ?_
   refine dn_ ?_
   try go_wp2
   replace BK128 := aM_ (blk_drew BK128.out)
   replace HB := aM_ (below_drew1 HB.out)
   have q17 : (x5_1 : Int) ≤ ((l0.length : Int) : Int) := ode_
   obtain ⟨i017, hi017, _, hsz17, _⟩ := info_parts info58
   have hroom17 : l0.length ≤ c0 := HC0.out
   have hC17 : Kd.C k58 _ (some ad129) l0.length l0 := HR0.out
   have hcut17 := cut_to (P := Tryz.prog) 23 58 .i64 Tryz.underlying23 hi017 (some ad129) l0.length c0 x5_1 ode_ q17 hroom17
   have hr17 := Kd.C_take (m := (x5_1 : Int).toNat) hC17 (by omega)
   have hy17 : y133.length = (x5_1 : Int).toNat := (by rw [Ny133.out, List.length_take]; omega)
   rw [← Ny133.out] at hr17
   rw [← hy17] at hcut17
   have HR136 := Aside0.mk hr17
   have HC136 := Aside0.mk (show y133.length ≤ c0 from by omega)
   clear hr17 hC17 hroom17 hi017 hsz17
   have KY17 := Aside0.mk hy17
   clear hy17
   replace q17 := eq_true q17
   have q18 : (x5_1 : Int) ≤ ((l0.length : Int) : Int) := ode_
   obtain ⟨i018, hi018, _, hsz18, _⟩ := info_parts info58
   have hroom18 : l0.length ≤ c0 := HC0.out
   have hC18 : Kd.C k58 _ (some ad129) l0.length l0 := HR0.out
   have q018 : (0 : Int) ≤ (x5_1 : Int) := ode_
   have hcut18 := cut_from (P := Tryz.prog) 23 58 .i64 Tryz.underlying23 hi018 2 hsz18 (some ad129) l0.length c0 x5_1 q018 q18
   have hr18 := Kd.C_drop (m := (x5_1 : Int).toNat) (c := c0) hC18 (by omega) hroom18
   obtain ⟨A18, hA18⟩ : ∃ Ab_, Ab_ = (if c0 = (x5_1 : Int).toNat then (some ad129) else ((some ad129) : Option Addr).map (·.add ((x5_1 : Int).toNat * 2))) := ⟨_, rfl⟩
   obtain ⟨c18, hc18⟩ : ∃ cb_, cb_ = c0 - (x5_1 : Int).toNat := ⟨_, rfl⟩
   have hy18 : y146.length = l0.length - (x5_1 : Int).toNat := (by rw [Ny146.out, List.length_drop] <;> omega)
   rw [show (l0).drop (x5_1 : Int).toNat = y146 from Ny146.out.symm] at hr18
   replace hr18 : Kd.C k58 _ A18 y146.length y146 := (by rw [hA18]; exact hr18)
   rw [← hy18, ← hA18, ← hc18] at hcut18
   have HR149 := Aside0.mk hr18
   have HC149 := Aside0.mk (show y146.length ≤ c18 from by rw [hy18, hc18]; exact Nat.sub_le_sub_right hroom18 _)
   clear hr18 hC18 hroom18 hi018 hsz18 hc18
   have KY18 := Aside0.mk hy18
   have KA18 := Aside0.mk hA18
   clear hy18 hA18
   replace q18 := eq_true q18
   refine st_ 13 (fun w' => w'.cell? ⟨gb128, 0, none⟩ = some (.string a1_0) ∧ w'.cell? ⟨gb128, 1, none⟩ = some (.int .i64 a1_1)) [] spec_loPut.tab4 spec_loPut.bits4 ⟨(blk_cell BK128.out 0).trans rfl, (blk_cell BK128.out 1).trans rfl⟩ fun hHeld HT_ HW_ => ?_
   generalize w15.drew = w16 at BK128 HB HR136 HR149 hHeld ⊢
   refine pu_ 1 23 ?_
   refine pu_ 2 24 ?_
   refine pu_ 3 25 ?_
   refine pu_ 8 30 ?_
   refine pu_ 9 31 ?_
   refine pu_ 10 32 ?_
   refine tk_ 5 27 ?_
   refine join_ (σ := Value × Value × Value) 3 (bz_ 13 0x77f) (fun s_ => [(22, s_.1), (26, s_.2.1), (28, s_.2.2)]) (fun s_ w' => (w'.cell? ⟨gb128, 0, none⟩ = some (.string a1_0) ∧ w'.cell? ⟨gb128, 1, none⟩ = some (.int .i64 a1_1)) ∧ (Kd.R k58 58 w' w.heap.size (fun k_ => some k_ ≠ (s_.2.2 : Value).ownBlock ∧ k_ ≠ gb128) s_.2.1 y137) ∧ (Kd.R k58 58 w' w.heap.size (fun k_ => some k_ ≠ (s_.2.1 : Value).ownBlock ∧ k_ ≠ gb128) s_.2.2 y140) ∧ (w'.heap[gb128]? = some (.cells #[.string a1_0, .int .i64 a1_1] 58 (0, 0))) ∧ (Below w.heap.size w w')) ?_ ?_
   rotate_left
   ·intro hCont
    refine two_ (i := 0) (j := 6) (Ni := some 22) (Nj := some 28) (bz_ 13 0x72f) (bz_ 13 0x76e) rfl rfl rfl rfl (two_of HT_.out (by kernel_rfl)) (by decide) (by decide) (fun K hK => ?_) (fun K hK => ?_)
    ·skip
     refine Kd.R_lit_step k58 _ 58 ?hg (N := 22) ?hd (xs := ([] : List (S58))) (inner := []) (ok := fun _ => True) (okp := fun _ => True) ?hr ?hp (fun _ hk => hk) trivial (Below.refl _ _) (Nat.le_refl _) (by simp) ?_; (case hd => rfl); (case hg => rfl); (case hr => first | (go_simp; done) | (go_simp; rfl)); (case hp => exact (Reps.none _ _))
     intro v131 w19 ho20 hb hg_ hnew_
     clear hg_ hnew_
     (first | rw [← Ny130.out] at ho20 | (simp only [Int.reduceToNat] at ho20; rw [← Ny130.out] at ho20))
     have HO132 := aM_ (Kd.R_lower (Kd.R_newB ho20 (g := gb128) kP_) (below_size hB_))
     replace BK128 := aM_ (blk_below (g := gb128) (kR_ BK128) hb)
     replace HB := aM_ (below_step hB_ hb)
     clear hb ho20
     refine hK.out _ _ ⟨(blk_cell BK128.out 0).trans rfl, (blk_cell BK128.out 1).trans rfl⟩ (fun hHeld => ?_)
     clear hK K
     refine nm_ 22 ?_
     refine two_ (i := 4) (j := 6) (Ni := some 26) (Nj := some 28) (bz_ 13 0x73f) (bz_ 13 0x76f) rfl rfl rfl rfl (two_of HT_.out (by kernel_rfl)) (by decide) (by decide) (fun K hK => ?_) (fun K hK => ?_)
     ·skip
      refine Kd.R_append_rows_step k58 (w0 := w) w.heap.size (by rfl) (.tmp 22) (.tmp 25) 23 58 (.agg #[(.string ⟨#[]⟩), (.int .i64 0)]) 24 rfl Tryz.underlying23 info58 rfl (by decide) (by omega) v131 y130 y133 _ _ _ (fun k_ => k_ ≠ gb128) (fun _ => False) rfl rfl ?aO ?aR (fun _ _ h => h) (fun _ h => h.elim) ?aF ?aB ?aS ?aL ?_
      (case aR => repeat (first | exact (Kd.C_below HR136.out HB.out) | (with_reducible first | apply cA_ | apply cN_ | apply cD_)))
      (case aB => exact hB_)
      (case aF => exact (fun k_ hk => Kd.freshB (g := gb128) kP_ k_ hk))
      (case aO => exact (rM_ HO132 (fun _ hk => hk.2)))
      (case aS => exact (below_size hB_))
      (case aL => have := LMc10.out; omega)
      intro v138 w21 ho hb hg hat
      rw [← Ny137.out] at ho
      have HO139 := aM_ (ho)
      replace BK128 := aM_ (blk_grown (g := gb128) (kR_ BK128) hg (Kd.R_away HO132.out (fun _ hk => hk.2)))
      replace HB := aM_ (hb)
      clear HO132
      clear ho hb hg hat
      refine hK.out _ _ ⟨(blk_cell BK128.out 0).trans rfl, (blk_cell BK128.out 1).trans rfl⟩ (fun hHeld => ?_)
      clear hK K
      refine nm_ 26 ?_
      refine on_ 6 28 fun K hK => ?_
      refine Kd.R_lit_step k58 _ 58 ?hg (N := 28) ?hd (xs := ([(⟨a1_0, a1_1⟩ : S58)] : List (S58))) (inner := [.string a1_0, .int .i64 a1_1]) (ok := fun _ => True) (okp := fun _ => True) ?hr ?hp (fun _ hk => hk) trivial (Below.refl _ _) (Nat.le_refl _) (by simp) ?_; (case hd => rfl); (case hg => rfl); (case hr => first | (go_simp; done) | (go_simp; rfl)); (case hp => exact (Reps.c2 (show Kd.M k58 _ _ _ (⟨a1_0, a1_1⟩ : S58) [.string a1_0, .int .i64 a1_1] from (k58_mkM _ _ _ (⟨a1_0, a1_1⟩ : S58) )) (Reps.none _ _)))
      intro v141 w22 ho23 hb hg_ hnew_
      clear hg_ hnew_
      (first | rw [← Ny140.out] at ho23 | (simp only [Int.reduceToNat] at ho23; rw [← Ny140.out] at ho23))
      have HO142 := aM_ (Kd.R_lower (Kd.R_newB (Kd.R_new' ho23 (Kd.R_lt (rR_ HO139))) (g := gb128) kP_) (below_size hB_))
      replace HO139 := aM_ (Kd.R_elder' (rR_ HO139) (Kd.R_base ho23) hb)
      replace BK128 := aM_ (blk_below (g := gb128) (kR_ BK128) hb)
      replace HB := aM_ (below_step hB_ hb)
      clear hb ho23
      refine hK.out _ _ ⟨(blk_cell BK128.out 0).trans rfl, (blk_cell BK128.out 1).trans rfl⟩ (fun hHeld => ?_)
      clear hK K
      refine nm_ 28 ?_
      exact norm_ z5_0_ (hCont (v131, v138, v141) _ ⟨hHeld, (rM_ HO139 (fun _ hk => ⟨hk.2, hk.1⟩)), (rM_ HO142 (fun _ hk => ⟨hk.1.2, hk.2⟩)), (kR_ BK128), hB_⟩)
     ·skip
      refine Kd.R_lit_step k58 _ 58 ?hg (N := 28) ?hd (xs := ([(⟨a1_0, a1_1⟩ : S58)] : List (S58))) (inner := [.string a1_0, .int .i64 a1_1]) (ok := fun _ => True) (okp := fun _ => True) ?hr ?hp (fun _ hk => hk) trivial (Below.refl _ _) (Nat.le_refl _) (by simp) ?_; (case hd => rfl); (case hg => rfl); (case hr => first | (go_simp; done) | (go_simp; rfl)); (case hp => exact (Reps.c2 (show Kd.M k58 _ _ _ (⟨a1_0, a1_1⟩ : S58) [.string a1_0, .int .i64 a1_1] from (k58_mkM _ _ _ (⟨a1_0, a1_1⟩ : S58) )) (Reps.none _ _)))
      intro v141 w21 ho22 hb hg_ hnew_
      clear hg_ hnew_
      (first | rw [← Ny140.out] at ho22 | (simp only [Int.reduceToNat] at ho22; rw [← Ny140.out] at ho22))
      have HO142 := aM_ (Kd.R_lower (Kd.R_newB (Kd.R_new' ho22 (Kd.R_lt (rR_ HO132))) (g := gb128) kP_) (below_size hB_))
      replace HO132 := aM_ (Kd.R_elder' (rR_ HO132) (Kd.R_base ho22) hb)
      replace BK128 := aM_ (blk_below (g := gb128) (kR_ BK128) hb)
      replace HB := aM_ (below_step hB_ hb)
      clear hb ho22
      refine hK.out _ _ ⟨(blk_cell BK128.out 0).trans rfl, (blk_cell BK128.out 1).trans rfl⟩ (fun hHeld => ?_)
      clear hK K
      refine nm_ 28 ?_
      refine on_ 4 26 fun K hK => ?_
      refine Kd.R_append_rows_step k58 (w0 := w) w.heap.size (by rfl) (.tmp 22) (.tmp 25) 23 58 (.agg #[(.string ⟨#[]⟩), (.int .i64 0)]) 24 rfl Tryz.underlying23 info58 rfl (by decide) (by omega) v131 y130 y133 _ _ _ (fun k_ => some k_ ≠ (v141 : Value).ownBlock ∧ k_ ≠ gb128) (fun _ => False) rfl rfl ?aO ?aR (fun _ _ h => h) (fun _ h => h.elim) ?aF ?aB ?aS ?aL ?_
      (case aR => repeat (first | exact (Kd.C_below HR136.out HB.out) | (with_reducible first | apply cA_ | apply cN_ | apply cD_)))
      (case aB => exact hB_)
      (case aF => exact (fun k_ hk => ⟨Kd.fresh' (Kd.R_lt (rR_ HO142)) k_ hk, Kd.freshB (g := gb128) kP_ k_ hk⟩))
      (case aO => exact (rM_ HO132 (fun _ hk => ⟨hk.2, hk.1.2⟩)))
      (case aS => exact (below_size hB_))
      (case aL => have := LMc10.out; omega)
      intro v138 w23 ho hb hg hat
      rw [← Ny137.out] at ho
      have HO139 := aM_ (ho)
      replace BK128 := aM_ (blk_grown (g := gb128) (kR_ BK128) hg (Kd.R_away HO132.out (fun _ hk => hk.1.2)))
      replace HO142 := aM_ (Kd.R_after (ok := (fun k_ => k_ ≠ gb128)) (rM_ HO142 (fun _ hk => ⟨hk.2, hk.1.2⟩)) hg hat)
      replace HB := aM_ (hb)
      clear HO132
      clear ho hb hg hat
      refine hK.out _ _ ⟨(blk_cell BK128.out 0).trans rfl, (blk_cell BK128.out 1).trans rfl⟩ (fun hHeld => ?_)
      clear hK K
      refine nm_ 26 ?_
      exact norm_ z5_0_ (hCont (v131, v138, v141) _ ⟨hHeld, (rR_ HO139), (rM_ HO142 (fun _ hk => ⟨hk.2, hk.1⟩)), (kR_ BK128), hB_⟩)
    ·skip
     refine Kd.R_lit_step k58 _ 58 ?hg (N := 28) ?hd (xs := ([(⟨a1_0, a1_1⟩ : S58)] : List (S58))) (inner := [.string a1_0, .int .i64 a1_1]) (ok := fun _ => True) (okp := fun _ => True) ?hr ?hp (fun _ hk => hk) trivial (Below.refl _ _) (Nat.le_refl _) (by simp) ?_; (case hd => rfl); (case hg => rfl); (case hr => first | (go_simp; done) | (go_simp; rfl)); (case hp => exact (Reps.c2 (show Kd.M k58 _ _ _ (⟨a1_0, a1_1⟩ : S58) [.string a1_0, .int .i64 a1_1] from (k58_mkM _ _ _ (⟨a1_0, a1_1⟩ : S58) )) (Reps.none _ _)))
     intro v141 w19 ho20 hb hg_ hnew_
     clear hg_ hnew_
     (first | rw [← Ny140.out] at ho20 | (simp only [Int.reduceToNat] at ho20; rw [← Ny140.out] at ho20))
     have HO142 := aM_ (Kd.R_lower (Kd.R_newB ho20 (g := gb128) kP_) (below_size hB_))
     replace BK128 := aM_ (blk_below (g := gb128) (kR_ BK128) hb)
     replace HB := aM_ (below_step hB_ hb)
     clear hb ho20
     refine hK.out _ _ ⟨(blk_cell BK128.out 0).trans rfl, (blk_cell BK128.out 1).trans rfl⟩ (fun hHeld => ?_)
     clear hK K
     refine nm_ 28 ?_
     refine on_ 0 22 fun K hK => ?_
     refine Kd.R_lit_step k58 _ 58 ?hg (N := 22) ?hd (xs := ([] : List (S58))) (inner := []) (ok := fun _ => True) (okp := fun _ => True) ?hr ?hp (fun _ hk => hk) trivial (Below.refl _ _) (Nat.le_refl _) (by simp) ?_; (case hd => rfl); (case hg => rfl); (case hr => first | (go_simp; done) | (go_simp; rfl)); (case hp => exact (Reps.none _ _))
     intro v131 w21 ho22 hb hg_ hnew_
     clear hg_ hnew_
     (first | rw [← Ny130.out] at ho22 | (simp only [Int.reduceToNat] at ho22; rw [← Ny130.out] at ho22))
     have HO132 := aM_ (Kd.R_lower (Kd.R_newB (Kd.R_new' ho22 (Kd.R_lt (rR_ HO142))) (g := gb128) kP_) (below_size hB_))
     replace HO142 := aM_ (Kd.R_elder' (rR_ HO142) (Kd.R_base ho22) hb)
     replace BK128 := aM_ (blk_below (g := gb128) (kR_ BK128) hb)
     replace HB := aM_ (below_step hB_ hb)
     clear hb ho22
     refine hK.out _ _ ⟨(blk_cell BK128.out 0).trans rfl, (blk_cell BK128.out 1).trans rfl⟩ (fun hHeld => ?_)
     clear hK K
     refine nm_ 22 ?_
     refine on_ 4 26 fun K hK => ?_
     refine Kd.R_append_rows_step k58 (w0 := w) w.heap.size (by rfl) (.tmp 22) (.tmp 25) 23 58 (.agg #[(.string ⟨#[]⟩), (.int .i64 0)]) 24 rfl Tryz.underlying23 info58 rfl (by decide) (by omega) v131 y130 y133 _ _ _ (fun k_ => some k_ ≠ (v141 : Value).ownBlock ∧ k_ ≠ gb128) (fun _ => False) rfl rfl ?aO ?aR (fun _ _ h => h) (fun _ h => h.elim) ?aF ?aB ?aS ?aL ?_
     (case aR => repeat (first | exact (Kd.C_below HR136.out HB.out) | (with_reducible first | apply cA_ | apply cN_ | apply cD_)))
     (case aB => exact hB_)
     (case aF => exact (fun k_ hk => ⟨Kd.fresh' (Kd.R_lt (rR_ HO142)) k_ hk, Kd.freshB (g := gb128) kP_ k_ hk⟩))
     (case aO => exact (rM_ HO132 (fun _ hk => ⟨hk.1.2, hk.2⟩)))
     (case aS => exact (below_size hB_))
     (case aL => have := LMc10.out; omega)
     intro v138 w23 ho hb hg hat
     rw [← Ny137.out] at ho
     have HO139 := aM_ (ho)
     replace BK128 := aM_ (blk_grown (g := gb128) (kR_ BK128) hg (Kd.R_away HO132.out (fun _ hk => hk.2)))
     replace HO142 := aM_ (Kd.R_after (ok := (fun k_ => k_ ≠ gb128)) (rM_ HO142 (fun _ hk => ⟨hk.1.2, hk.2⟩)) hg hat)
     replace HB := aM_ (hb)
     clear HO132
     clear ho hb hg hat
     refine hK.out _ _ ⟨(blk_cell BK128.out 0).trans rfl, (blk_cell BK128.out 1).trans rfl⟩ (fun hHeld => ?_)
     clear hK K
     refine nm_ 26 ?_
     exact norm_ z5_0_ (hCont (v131, v138, v141) _ ⟨hHeld, (rR_ HO139), (rM_ HO142 (fun _ hk => ⟨hk.2, hk.1⟩)), (kR_ BK128), hB_⟩)
   rintro ⟨v131, v138, v141⟩ w24 ⟨hS_, h0_, h1_, h2_, h3_⟩
   have n0_ : Aside0 (Kd.R k58 58 w24 w.heap.size (fun k_ => some k_ ≠ (v141 : Value).ownBlock ∧ k_ ≠ gb128) v138 y137) := ⟨h0_⟩
   have n1_ : Aside0 (Kd.R k58 58 w24 w.heap.size (fun k_ => some k_ ≠ (v138 : Value).ownBlock ∧ k_ ≠ gb128) v141 y140) := ⟨h1_⟩
   have n2_ : Aside0 (w24.heap[gb128]? = some (.cells #[.string a1_0, .int .i64 a1_1] 58 (0, 0))) := ⟨h2_⟩
   have n3_ : Aside0 (Below w.heap.size w w24) := ⟨h3_⟩
   clear BK128
   clear HB
   clear h0_ h1_ h2_ h3_
   have HO139 := n0_
   have HO142 := n1_
   have BK128 := n2_
   have HB := n3_
   clear n0_ n1_ n2_ n3_
   have hHeld : w24.cell? ⟨gb128, 0, none⟩ = some (.string a1_0) ∧ w24.cell? ⟨gb128, 1, none⟩ = some (.int .i64 a1_1) := hS_
   obtain ⟨Ao26, co26, eo26⟩ := Kd.R_slice HO142.out
   (first | subst eo26 | (injection eo26 with f1_ f2_ f3_; have f4_ := f1_.symm; have f5_ := f3_.symm; clear f1_ f2_ f3_; subst f4_; subst f5_))
   refine norm_ (a' := ?_) ?_ ?_
   rotate_left
   ·simp only [putAll, Act.put, List.setIfInBounds_toArray, List.set_cons_zero, List.set_cons_succ]
    rfl
   refine on_ 7 29 fun K hK => ?_
   refine Kd.R_append_rows_step k58 (w0 := w) w.heap.size (by rfl) (.tmp 26) (.tmp 28) 23 58 (.agg #[(.string ⟨#[]⟩), (.int .i64 0)]) 24 rfl Tryz.underlying23 info58 rfl (by decide) (by omega) v138 y137 y140 _ _ _ (fun k_ => some k_ ≠ (.slice Ao26 y140.length co26 : Value).ownBlock ∧ k_ ≠ gb128) (fun _ => False) rfl rfl ?aO ?aR (fun _ _ h => h) (fun _ h => h.elim) ?aF ?aB ?aS ?aL ?_
   (case aR => exact cR_ HO142)
   (case aB => exact hB_)
   (case aF => exact (fun k_ hk => ⟨Kd.fresh' (Kd.R_lt (rR_ HO142)) k_ hk, Kd.freshB (g := gb128) kP_ k_ hk⟩))
   (case aO => exact (rR_ HO139))
   (case aS => exact (below_size hB_))
   (case aL => have := LMc11.out; omega)
   intro v144 w25 ho hb hg hat
   rw [← Ny143.out] at ho
   have HO145 := aM_ (ho)
   replace BK128 := aM_ (blk_grown (g := gb128) (kR_ BK128) hg (Kd.R_away HO139.out (fun _ hk => hk.2)))
   replace HO142 := aM_ (Kd.R_after (ok := (fun k_ => k_ ≠ gb128)) (rM_ HO142 (fun _ hk => ⟨hk.2, hk.1⟩)) hg hat)
   replace HB := aM_ (hb)
   clear HO139
   clear ho hb hg hat
   refine hK.out _ _ ⟨(blk_cell BK128.out 0).trans rfl, (blk_cell BK128.out 1).trans rfl⟩ (fun hHeld => ?_)
   clear hK K
   refine nm_ 29 ?_
   refine on_ 11 33 fun K hK => ?_
   refine Kd.R_append_rows_step k58 (w0 := w) w.heap.size (by rfl) (.tmp 29) (.tmp 32) 23 58 (.agg #[(.string ⟨#[]⟩), (.int .i64 0)]) 24 rfl Tryz.underlying23 info58 rfl (by decide) (by omega) v144 y143 y146 _ _ _ (fun k_ => some k_ ≠ (.slice Ao26 y140.length co26 : Value).ownBlock ∧ k_ ≠ gb128) (fun _ => False) rfl rfl ?aO ?aR (fun _ _ h => h) (fun _ h => h.elim) ?aF ?aB ?aS ?aL ?_
   (case aR => repeat (first | exact (Kd.C_below HR149.out HB.out) | (with_reducible first | apply cA_ | apply cN_ | apply cD_)))
   (case aB => exact hB_)
   (case aF => exact (fun k_ hk => ⟨Kd.fresh' (Kd.R_lt (rR_ HO142)) k_ hk, Kd.freshB (g := gb128) kP_ k_ hk⟩))
   (case aO => exact (rR_ HO145))
   (case aS => exact (below_size hB_))
   (case aL => have := LMc14.out; omega)
   intro v151 w27 ho hb hg hat
   rw [← Ny150.out] at ho
   have HO152 := aM_ (ho)
   replace BK128 := aM_ (blk_grown (g := gb128) (kR_ BK128) hg (Kd.R_away HO145.out (fun _ hk => hk.2)))
   replace HO142 := aM_ (Kd.R_after (ok := (fun k_ => k_ ≠ gb128)) (rR_ HO142) hg hat)
   replace HB := aM_ (hb)
   clear HO145
   clear ho hb hg hat
   refine hK.out _ _ ⟨(blk_cell BK128.out 0).trans rfl, (blk_cell BK128.out 1).trans rfl⟩ (fun hHeld => ?_)
   clear hK K
   refine nm_ 33 ?_
   refine pu_ 12 4 ?_
   refine dn_ ?_
   try go_wp2
   go_ret
   exact ⟨_, rT_, by (with_reducible repeat (first | apply rA_ | apply rN_ | apply rD_)); exact Kd.R_mono HO152.out (fun _ hk => trivial), hB_⟩

end Go.Proofs.YtfkdlfbjkdkffaaGreatDoor.PFnPoints
