/- Written by a program of this claim's author, out of the loaded program as Lean prints it: the functions as Lean functions, and that the calls answer so. -/
import Derived.Test.YtmongpocangocaaPFnExactTeachOrderx0
import Derived.Test.YtmongpocangocaaPFnExactTeachOrderx8
import Derived.Test.YtmongpocangocaaPFnExactTeachOrderxD0
namespace Go.Proofs.Ytmongpocangocaa.PFnExactTeachOrder
open Go.RowKit Go.Proofs.YtmongpocangocaaW.PrintWords Go.Proofs.YtmongpocangocaaW.PrintLast Go.Proofs.YtmongpocangocaaW.PrintMore
attribute [local go_sem] max2_int min2_int max_two min_two max_three min_three max_four min_four isSome_setCell   -- for this text's walks alone
theorem yactTeachOrderx9_0_ {p : Prop} (h : p := by first | rfl | (simp; done) | (simp [*]; done)) : p := h
theorem yactTeachOrderx9_1_ {p : Prop} (h : p := by first | (with_reducible assumption) | assumption) : p := h
theorem yactTeachOrderx9_2_ {p : Prop} (h : p := by (with_reducible repeat (first | apply kN_ | apply kD_ | apply kA_)); refine blk_far ?_ NB38_241.out _; (with_reducible repeat (first | apply kN_ | apply kD_ | apply kA_)); refine blk_far ?_ NB38_241.out _; (with_reducible repeat (first | apply kN_ | apply kD_ | apply kA_)); refine blk_far ?_ NB38_241.out _; (with_reducible repeat (first | apply kN_ | apply kD_ | apply kA_)); exact BK38.out) : p := h
theorem yactTeachOrderx9_3_ {p : Prop} (h : p := by (with_reducible repeat (first | apply kN_ | apply kD_ | apply kA_)); refine blk_far ?_ NB39_241.out _; (with_reducible repeat (first | apply kN_ | apply kD_ | apply kA_)); refine blk_far ?_ NB39_241.out _; (with_reducible repeat (first | apply kN_ | apply kD_ | apply kA_)); refine blk_far ?_ NB39_241.out _; (with_reducible repeat (first | apply kN_ | apply kD_ | apply kA_)); exact BK39.out) : p := h
theorem yactTeachOrderx9_4_ {p : Prop} (h : p := by (with_reducible repeat (first | apply kN_ | apply kD_ | apply kA_)); refine blk_put (cs := #[.string ((rd_T43 l0 x10_1).f0), .slice A240_1 ((rd_T43 l0 x10_1).f1).length c240_1, .int .i64 0]) ?_ 2 _ rfl; (with_reducible repeat (first | apply kN_ | apply kD_ | apply kA_)); refine blk_put (cs := #[.string ((rd_T43 l0 x10_1).f0), .slice none 0 0, .int .i64 0]) ?_ 1 _ rfl; (with_reducible repeat (first | apply kN_ | apply kD_ | apply kA_)); refine blk_put (cs := #[.string (⟨#[]⟩ : ByteArray), .slice none 0 0, .int .i64 0]) ?_ 0 _ rfl; (with_reducible repeat (first | apply kN_ | apply kD_ | apply kA_)); exact BK241.out) : p := h
abbrev bactTeachOrderx9_17_0 : Array Bool := #[false, false, false, false, false, false, false, false, false, false, false, false, false, false, false, false, false]
abbrev bactTeachOrderx9_17_1 : Array Bool := #[true, false, false, false, false, false, false, false, false, false, false, false, false, false, false, false, false]
abbrev bactTeachOrderx9_17_1eff : Array Bool := #[true, true, true, true, true, true, true, true, false, true, true, true, true, false, false, false, false]
abbrev bactTeachOrderx9_17_1f : Array Bool := #[true, true, true, true, true, false, false, false, false, false, false, false, false, false, false, false, false]
abbrev bactTeachOrderx9_17_1ff : Array Bool := #[true, true, true, true, true, true, true, true, true, false, false, false, false, false, false, false, false]
abbrev bactTeachOrderx9_17_1fff : Array Bool := #[true, true, true, true, true, true, true, true, true, true, true, true, true, false, false, false, false]
abbrev bactTeachOrderx9_17_1ffff : Array Bool := #[true, true, true, true, true, true, true, true, true, true, true, true, true, true, true, true, true]
abbrev bactTeachOrderx9_17_2ff : Array Bool := #[true, true, true, true, true, true, true, true, false, true, false, false, false, false, false, false, false]
abbrev bactTeachOrderx9_17_3 : Array Bool := #[true, true, false, false, false, false, false, false, false, false, false, false, false, false, false, false, false]
abbrev bactTeachOrderx9_17_3f : Array Bool := #[true, true, true, true, true, true, false, false, false, false, false, false, false, false, false, false, false]
abbrev bactTeachOrderx9_17_3ff : Array Bool := #[true, true, true, true, true, true, true, true, true, true, false, false, false, false, false, false, false]
abbrev bactTeachOrderx9_17_3fff : Array Bool := #[true, true, true, true, true, true, true, true, true, true, true, true, true, true, false, false, false]
abbrev bactTeachOrderx9_17_6ff : Array Bool := #[true, true, true, true, true, true, true, true, false, true, true, false, false, false, false, false, false]
abbrev bactTeachOrderx9_17_7 : Array Bool := #[true, true, true, false, false, false, false, false, false, false, false, false, false, false, false, false, false]
abbrev bactTeachOrderx9_17_7f : Array Bool := #[true, true, true, true, true, true, true, false, false, false, false, false, false, false, false, false, false]
abbrev bactTeachOrderx9_17_7ff : Array Bool := #[true, true, true, true, true, true, true, true, true, true, true, false, false, false, false, false, false]
abbrev bactTeachOrderx9_17_7fff : Array Bool := #[true, true, true, true, true, true, true, true, true, true, true, true, true, true, true, false, false]
abbrev bactTeachOrderx9_17_eff : Array Bool := #[true, true, true, true, true, true, true, true, false, true, true, true, false, false, false, false, false]
abbrev bactTeachOrderx9_17_f : Array Bool := #[true, true, true, true, false, false, false, false, false, false, false, false, false, false, false, false, false]
abbrev bactTeachOrderx9_17_ff : Array Bool := #[true, true, true, true, true, true, true, true, false, false, false, false, false, false, false, false, false]
abbrev bactTeachOrderx9_17_fff : Array Bool := #[true, true, true, true, true, true, true, true, true, true, true, true, false, false, false, false, false]
abbrev bactTeachOrderx9_17_ffff : Array Bool := #[true, true, true, true, true, true, true, true, true, true, true, true, true, true, true, true, false]
set_option linter.unusedVariables false
set_option linter.unusedSimpArgs false

/-! ### impl_mostUsed_impl_TeachOrder_1: function 109 -/
def impl_mostUsed_impl_TeachOrder_1.T5 : Bool × List (List Nat × List Nat) := (true, [([], []), ([], []), ([0, 1], [0, 1]), ([2, 2], [2]), ([3], [3]), ([4, 3], [3, 4]), ([5, 3, 3], [3, 5]), ([6], [6]), ([7, 6], [6, 7]), ([6], [6]), ([6], [6]), ([9, 10, 6], [6, 9, 10]), ([11, 6], [6, 11]), ([12, 6], [6, 12]), ([8, 13, 6], [6, 8, 13]), ([6, 14, 3], [3, 6, 14]), ([3, 15], [3, 15])])
def impl_mostUsed_impl_TeachOrder_1.B5 : List Nat := [0, 0, 3, 7, 15, 31, 63, 127, 255, 127, 127, 1663, 3711, 7807, 16383, 32767, 65535]
theorem impl_mostUsed_impl_TeachOrder_1.tab5 : rtab .any (opsOf Try.f29 5) = impl_mostUsed_impl_TeachOrder_1.T5 := by kernel_rfl
theorem impl_mostUsed_impl_TeachOrder_1.bits5 : waitsOk impl_mostUsed_impl_TeachOrder_1.T5.2 impl_mostUsed_impl_TeachOrder_1.B5 = true := by kernel_rfl
set_option maxHeartbeats 8000000 in
set_option maxRecDepth 100000 in
theorem impl_mostUsed_impl_TeachOrder_1.calls (k : Nat) (A0 : Option Addr) (c0 : Nat) (l0 : List (S43)) (g1_0 : Nat) (g1_1 : Nat) (A1_0 : Option Addr) (c1_0 : Nat) (l1_0 : List Int) (A1_1 : Option Addr) (c1_1 : Nat) (l1_1 : List (S43)) (r : Int) (w : World) (hr0 : Kd.C k43 w A0 l0.length l0) (hc0 : l0.length ≤ c0) (hr1_0 : Kd.C (Kd.int .i64) w A1_0 l1_0.length l1_0) (hc1_0 : l1_0.length ≤ c1_0) (hr1_1 : Kd.C k43 w A1_1 l1_1.length l1_1) (hc1_1 : l1_1.length ≤ c1_1) (hb1_0 : w.heap[g1_0]? = some (.cells #[.slice A1_0 l1_0.length c1_0] 24 (0, 0))) (hb1_1 : w.heap[g1_1]? = some (.cells #[.slice A1_1 l1_1.length c1_1] 27 (0, 0))) (h : impl_mostUsed_impl_TeachOrder_1.f k l0 l1_0 l1_1 = some r) :
 Calls Try.prog 29 #[.slice A0 l0.length c0, .func (.func 30) #[] #[.pointer (some ⟨g1_0, 0, none⟩), .pointer (some ⟨g1_1, 0, none⟩)]] w fun e w' => e = .returned (.int .i64 r) ∧ Below w.heap.size w w' := by
 have hu43 := Try.underlying43
 have HR0 := Aside0.mk hr0
 have HC0 := Aside0.mk hc0
 clear hr0 hc0
 have HR1_0 := Aside0.mk hr1_0
 have HC1_0 := Aside0.mk hc1_0
 clear hr1_0 hc1_0
 have HR1_1 := Aside0.mk hr1_1
 have HC1_1 := Aside0.mk hc1_1
 clear hr1_1 hc1_1
 have BK38 := Aside0.mk hb1_0
 clear hb1_0
 have BK39 := Aside0.mk hb1_1
 clear hb1_1
 have HB := Aside0.mk (Below.refl w.heap.size w)
 have H : (impl_mostUsed_impl_TeachOrder_1.l0 k l0 (-1) l0 (l0.length : Int) 0 l1_0 l1_1) = some r := h
 clear h
 have H' := Aside0.mk H
 clear H
 go_enter Try.func29, Try.ntmps29
 go_wp2
 go_loopg [5, 10] k (fun kq v5 v10 w' => ∃ (x5_1 : Int) (x10_1 : Int), v5 = .int .i64 x5_1 ∧ v10 = .int .i64 x10_1 ∧ Aside0 (impl_mostUsed_impl_TeachOrder_1.l0 kq l0 x5_1 l0 (l0.length : Int) x10_1 l1_0 l1_1 = some r) ∧ Aside0 (kq ≤ k) ∧ Aside0 (w'.heap[g1_0]? = some (.cells #[(.slice A1_0 l1_0.length c1_0)] 24 (0, 0))) ∧ Aside0 (w'.heap[g1_1]? = some (.cells #[(.slice A1_1 l1_1.length c1_1)] 27 (0, 0))) ∧ Aside0 (Below w.heap.size w w'))
 case atStart => exact ⟨((-1)), (0), yactTeachOrderx9_0_, yactTeachOrderx9_0_, H', ⟨Nat.le_refl _⟩, ⟨kP_⟩, ⟨kP_⟩, ⟨hB_⟩⟩
 case round =>
  clear H'
  obtain ⟨x5_1, x10_1, rfl, rfl, HA, HK1, BK38, BK39, HB⟩ := hrel
  cases gk with
  | zero => exact absurd HA.out (by simp [impl_mostUsed_impl_TeachOrder_1.l0])
  | succ k1 =>
   have H := HA.out
   clear HA
   simp only [impl_mostUsed_impl_TeachOrder_1.l0] at H
   by_cases c3 : x10_1 < (l0.length : Int)
   ·rw [if_pos c3] at H
    have c3b0 : decide (x10_1 < (l0.length : Int)) = true := decide_eq_true c3
    clear c3
    by_cases c4 : 0 ≤ x10_1
    ·rw [if_pos c4] at H
     have c4b0 : decide (0 ≤ x10_1) = true := decide_eq_true c4
     clear c4
     by_cases c5 : x10_1 < (l0.length : Int)
     ·rw [if_pos c5] at H
      have c5b0 : decide (x10_1 < (l0.length : Int)) = true := decide_eq_true c5
      clear c5
      replace H := Option.bind_eq_some_iff.mp H
      obtain ⟨t242, A60, H⟩ := H
      try dsimp only at H
      have A6 := Aside0.mk A60
      clear A60
      by_cases c7 : t242 = true
      ·subst c7
       replace H := ip_ H rfl
       by_cases c8 : x5_1 < 0
       ·rw [if_pos c8] at H
        have c8b0 : decide (x5_1 < 0) = true := decide_eq_true c8
        clear c8
        have H' := Aside0.mk H
        clear H
        have p240 : 0 ≤ (x10_1 : Int) := of_decide_eq_true yactTeachOrderx9_1_
        have q240 : x10_1 < (l0.length : Int) := of_decide_eq_true yactTeachOrderx9_1_
        obtain ⟨ad240, A240_1, c240_1, e240, hx240_0, hx240_1, hx240_2, hl240_1, hi240_1⟩ := at_T43 HR0.out x10_1 p240 q240
        cases e240
        replace hx240_0 := (HB.out.cell (World.block_lt_of_cell? w _ hx240_0)).trans hx240_0
        replace hx240_1 := (HB.out.cell (World.block_lt_of_cell? w _ hx240_1)).trans hx240_1
        replace hx240_2 := (HB.out.cell (World.block_lt_of_cell? w _ hx240_2)).trans hx240_2
        have HR240_1 := Aside0.mk hi240_1
        have HC240_1 := Aside0.mk hl240_1
        clear hi240_1 hl240_1
        replace p240 := eq_true p240
        replace q240 := eq_true q240
        try go_wp2_with (first | ((with_reducible refine gate_dst (N := 7) rfl ?_); refine box_event ?hg (N := 7) ?hd (cs := #[.string (⟨#[]⟩ : ByteArray), .slice none 0 0, .int .i64 0]) (t := 43) ?hr ?_; (case hd => rfl); (case hg => rfl); (case hr => first | (go_simp; done) | (go_simp; rfl)); intro gb241 hg w9 hbox hb; have BK241 := aM_ (hbox); have GW241 := aM_ (gw_ w hg); have GE241 := aM_ (gw_ w hg); have NB38_241 := aM_ (nb_ g1_0 hg); have NB241_38 := aM_ (nc_ g1_0 hg); have NB39_241 := aM_ (nb_ g1_1 hg); have NB241_39 := aM_ (nc_ g1_1 hg); replace BK38 := aM_ (blk_below (g := g1_0) (kR_ BK38) hb); replace BK39 := aM_ (blk_below (g := g1_1) (kR_ BK39) hb); replace HB := aM_ (below_step hB_ hb); clear hb hbox hg; have hnb10 := NB241_38.out; have hnc10 := NB38_241.out; have hnb11 := NB241_39.out; have hnc11 := NB39_241.out; have hz12 := cf3_ BK241.out))
        have n0_ : Aside0 ((((w9.setCell ⟨gb241, 0, none⟩ (.string ((rd_T43 l0 x10_1).f0))).setCell ⟨gb241, 1, none⟩ (.slice A240_1 ((rd_T43 l0 x10_1).f1).length c240_1)).setCell ⟨gb241, 2, none⟩ (.int .i64 ((rd_T43 l0 x10_1).f2))).heap[g1_0]? = some (.cells #[.slice A1_0 l1_0.length c1_0] 24 (0, 0))) := ⟨yactTeachOrderx9_2_⟩
        have n1_ : Aside0 ((((w9.setCell ⟨gb241, 0, none⟩ (.string ((rd_T43 l0 x10_1).f0))).setCell ⟨gb241, 1, none⟩ (.slice A240_1 ((rd_T43 l0 x10_1).f1).length c240_1)).setCell ⟨gb241, 2, none⟩ (.int .i64 ((rd_T43 l0 x10_1).f2))).heap[g1_1]? = some (.cells #[.slice A1_1 l1_1.length c1_1] 27 (0, 0))) := ⟨yactTeachOrderx9_3_⟩
        have n2_ : Aside0 ((((w9.setCell ⟨gb241, 0, none⟩ (.string ((rd_T43 l0 x10_1).f0))).setCell ⟨gb241, 1, none⟩ (.slice A240_1 ((rd_T43 l0 x10_1).f1).length c240_1)).setCell ⟨gb241, 2, none⟩ (.int .i64 ((rd_T43 l0 x10_1).f2))).heap[gb241]? = some (.cells #[.string ((rd_T43 l0 x10_1).f0), .slice A240_1 ((rd_T43 l0 x10_1).f1).length c240_1, .int .i64 ((rd_T43 l0 x10_1).f2)] 43 (0, 0))) := ⟨yactTeachOrderx9_4_⟩
        have n3_ : Aside0 (Below w.heap.size w (((w9.setCell ⟨gb241, 0, none⟩ (.string ((rd_T43 l0 x10_1).f0))).setCell ⟨gb241, 1, none⟩ (.slice A240_1 ((rd_T43 l0 x10_1).f1).length c240_1)).setCell ⟨gb241, 2, none⟩ (.int .i64 ((rd_T43 l0 x10_1).f2)))) := ⟨hB_⟩
        (try clear BK38)
        (try clear BK39)
        (try clear BK241)
        (try clear HB)
        generalize (((w9.setCell ⟨gb241, 0, none⟩ (.string ((rd_T43 l0 x10_1).f0))).setCell ⟨gb241, 1, none⟩ (.slice A240_1 ((rd_T43 l0 x10_1).f1).length c240_1)).setCell ⟨gb241, 2, none⟩ (.int .i64 ((rd_T43 l0 x10_1).f2))) = w13 at n0_ n1_ n2_ n3_ ⊢
        have BK38 := n0_
        have BK39 := n1_
        have BK241 := n2_
        have HB := n3_
        clear n0_ n1_ n2_ n3_
        replace BK38 := aM_ (blk_drew BK38.out)
        replace BK39 := aM_ (blk_drew BK39.out)
        replace BK241 := aM_ (blk_drew BK241.out)
        replace HB := aM_ (below_drew1 HB.out)
        refine start_ (n := 17) (S := fun w' => True) (ds := []) bactTeachOrderx9_17_0 (by kernel_rfl) rfl rfl trivial (fun hHeld => ?_); refine with_tabW impl_mostUsed_impl_TeachOrder_1.tab5 impl_mostUsed_impl_TeachOrder_1.bits5 (fun HT_ HW_ => ?_)
        generalize w13.drew = w14 at BK38 BK39 BK241 HB hHeld ⊢
        refine pure_ (i := 0) (N := some 15) (v := ?_) (a' := ?_) bactTeachOrderx9_17_1 rfl rfl (any_of HT_.out (by kernel_rfl)) (fun _ _ _ h => h) (Or.inl ⟨by rfl, ?_⟩) ?_ ?_
        rotate_left
        ·intro w'
         go_simp
         with_reducible rfl
        rotate_left
        ·simp only [Act.put, List.setIfInBounds_toArray, List.set_cons_zero, List.set_cons_succ, i64_w, i32_w]
         rfl
        refine pure_ (i := 1) (N := some 16) (v := ?_) (a' := ?_) bactTeachOrderx9_17_3 rfl rfl (any_of HT_.out (by kernel_rfl)) (fun _ _ _ h => h) (Or.inl ⟨by rfl, ?_⟩) ?_ ?_
        rotate_left
        ·intro w'
         go_simp
         with_reducible rfl
        rotate_left
        ·simp only [Act.put, List.setIfInBounds_toArray, List.set_cons_zero, List.set_cons_succ, i64_w, i32_w]
         rfl
        refine one_ (i := 2) (N := some 17) bactTeachOrderx9_17_7 rfl rfl (one_of HT_.out (by kernel_rfl)) (by decide) (fun K hK => ?_)
        refine goesW_ Try.func30 (by kernel_rfl) rfl #[.int .i64 x10_1, .pointer (some ⟨g1_0, 0, none⟩), .pointer (some ⟨g1_1, 0, none⟩)] (by rfl) rfl rfl rfl aR_ ?_
        with_reducible refine (impl_TeachOrder_1.calls k1 x10_1 g1_0 A1_0 c1_0 l1_0 g1_1 A1_1 c1_1 l1_1 true _ ?side1 ?side2 ?side3 ?side4 ?side5 ?side6 A6.out).mono ?_
        (case side1 => repeat (first | exact (Kd.C_below HR1_0.out HB.out) | (with_reducible refine Kd.C_alloc ?_ _) | (with_reducible refine Kd.C_drewN ?_ _) | (with_reducible refine Kd.C_drew ?_)))
        (case side2 => exact HC1_0.out)
        (case side3 => repeat (first | exact (Kd.C_below HR1_1.out HB.out) | (with_reducible refine Kd.C_alloc ?_ _) | (with_reducible refine Kd.C_drewN ?_ _) | (with_reducible refine Kd.C_drew ?_)))
        (case side4 => exact HC1_1.out)
        (case side5 => (with_reducible repeat (first | apply kN_ | apply kD_ | apply kA_)); exact BK38.out)
        (case side6 => (with_reducible repeat (first | apply kN_ | apply kD_ | apply kA_)); exact BK39.out)
        rintro e w15 ⟨rfl, hb⟩
        refine ⟨_, rfl, ?_⟩
        replace BK38 := aM_ (blk_below (g := g1_0) (kR_ BK38) hb)
        replace BK39 := aM_ (blk_below (g := g1_1) (kR_ BK39) hb)
        replace BK241 := aM_ (blk_below (g := gb241) (kR_ BK241) hb)
        replace HB := aM_ (below_step hB_ hb)
        (try clear hb)
        (try clear hb2)
        (try clear hk)
        (try clear hi)
        refine hK.out _ _ trivial (fun hHeld => ?_)
        clear hK K
        refine norm_ (a' := ?_) ?_ ?_
        rotate_left
        ·show Act.put _ (some 17) _ = _
         simp only [Act.put, List.setIfInBounds_toArray, List.set_cons_zero, List.set_cons_succ, i64_w, i32_w]
         rfl
        refine pure_ (i := 3) (N := some 18) (v := ?_) (a' := ?_) bactTeachOrderx9_17_f rfl rfl (any_of HT_.out (by kernel_rfl)) (fun _ _ _ h => h) (Or.inl ⟨by rfl, ?_⟩) ?_ ?_
        rotate_left
        ·intro w'
         go_simp
         with_reducible rfl
        rotate_left
        ·simp only [Act.put, List.setIfInBounds_toArray, List.set_cons_zero, List.set_cons_succ, i64_w, i32_w]
         rfl
        refine pure_ (i := 4) (N := some 19) (v := ?_) (a' := ?_) bactTeachOrderx9_17_1f rfl rfl (any_of HT_.out (by kernel_rfl)) (fun _ _ _ h => h) (Or.inl ⟨by rfl, ?_⟩) ?_ ?_
        rotate_left
        ·intro w'
         go_simp
         with_reducible rfl
        rotate_left
        ·simp only [Act.put, List.setIfInBounds_toArray, List.set_cons_zero, List.set_cons_succ, i64_w, i32_w]
         rfl
        refine pure_ (i := 5) (N := some 20) (v := ?_) (a' := ?_) bactTeachOrderx9_17_3f rfl rfl (any_of HT_.out (by kernel_rfl)) (fun _ _ _ h => h) (Or.inl ⟨by rfl, ?_⟩) ?_ ?_
        rotate_left
        ·intro w'
         go_simp
         with_reducible rfl
        rotate_left
        ·simp only [Act.put, List.setIfInBounds_toArray, List.set_cons_zero, List.set_cons_succ, i64_w, i32_w]
         rfl
        refine pure_ (i := 6) (N := some 21) (v := ?_) (a' := ?_) bactTeachOrderx9_17_7f rfl rfl (any_of HT_.out (by kernel_rfl)) (fun _ _ _ h => h) (Or.inl ⟨by rfl, ?_⟩) ?_ ?_
        rotate_left
        ·intro w'
         go_simp
         with_reducible rfl
        rotate_left
        ·simp only [Act.put, List.setIfInBounds_toArray, List.set_cons_zero, List.set_cons_succ, i64_w, i32_w]
         rfl
        refine pure_ (i := 7) (N := some 22) (v := undef) (a' := ?_) bactTeachOrderx9_17_ff rfl rfl (any_of HT_.out (by kernel_rfl)) (fun _ _ _ h => h) (Or.inr ⟨by rfl, rfl⟩) ?_ ?_
        rotate_left
        ·simp only [Act.put, List.setIfInBounds_toArray, List.set_cons_zero, List.set_cons_succ, i64_w, i32_w]
         rfl
        refine pure_ (i := 8) (N := some 23) (v := undef) (a' := ?_) bactTeachOrderx9_17_1ff rfl rfl (any_of HT_.out (by kernel_rfl)) (fun _ _ _ h => h) (Or.inr ⟨by rfl, rfl⟩) ?_ ?_
        rotate_left
        ·simp only [Act.put, List.setIfInBounds_toArray, List.set_cons_zero, List.set_cons_succ, i64_w, i32_w]
         rfl
        refine pure_ (i := 9) (N := some 24) (v := undef) (a' := ?_) bactTeachOrderx9_17_3ff rfl rfl (any_of HT_.out (by kernel_rfl)) (fun _ _ _ h => h) (Or.inr ⟨by rfl, rfl⟩) ?_ ?_
        rotate_left
        ·simp only [Act.put, List.setIfInBounds_toArray, List.set_cons_zero, List.set_cons_succ, i64_w, i32_w]
         rfl
        refine pure_ (i := 10) (N := some 25) (v := undef) (a' := ?_) bactTeachOrderx9_17_7ff rfl rfl (any_of HT_.out (by kernel_rfl)) (fun _ _ _ h => h) (Or.inr ⟨by rfl, rfl⟩) ?_ ?_
        rotate_left
        ·simp only [Act.put, List.setIfInBounds_toArray, List.set_cons_zero, List.set_cons_succ, i64_w, i32_w]
         rfl
        refine pure_ (i := 11) (N := some 26) (v := undef) (a' := ?_) bactTeachOrderx9_17_fff rfl rfl (any_of HT_.out (by kernel_rfl)) (fun _ _ _ h => h) (Or.inr ⟨by rfl, rfl⟩) ?_ ?_
        rotate_left
        ·simp only [Act.put, List.setIfInBounds_toArray, List.set_cons_zero, List.set_cons_succ, i64_w, i32_w]
         rfl
        refine pure_ (i := 12) (N := some 27) (v := undef) (a' := ?_) bactTeachOrderx9_17_1fff rfl rfl (any_of HT_.out (by kernel_rfl)) (fun _ _ _ h => h) (Or.inr ⟨by rfl, rfl⟩) ?_ ?_
        rotate_left
        ·simp only [Act.put, List.setIfInBounds_toArray, List.set_cons_zero, List.set_cons_succ, i64_w, i32_w]
         rfl
        refine pure_ (i := 13) (N := some 28) (v := undef) (a' := ?_) bactTeachOrderx9_17_3fff rfl rfl (any_of HT_.out (by kernel_rfl)) (fun _ _ _ h => h) (Or.inr ⟨by rfl, rfl⟩) ?_ ?_
        rotate_left
        ·simp only [Act.put, List.setIfInBounds_toArray, List.set_cons_zero, List.set_cons_succ, i64_w, i32_w]
         rfl
        refine pure_ (i := 14) (N := some 29) (v := undef) (a' := ?_) bactTeachOrderx9_17_7fff rfl rfl (any_of HT_.out (by kernel_rfl)) (fun _ _ _ h => h) (Or.inr ⟨by rfl, rfl⟩) ?_ ?_
        rotate_left
        ·simp only [Act.put, List.setIfInBounds_toArray, List.set_cons_zero, List.set_cons_succ, i64_w, i32_w]
         rfl
        refine pure_ (i := 15) (N := some 30) (v := ?_) (a' := ?_) bactTeachOrderx9_17_ffff rfl rfl (any_of HT_.out (by kernel_rfl)) (fun _ _ _ h => h) (Or.inl ⟨by rfl, ?_⟩) ?_ ?_
        rotate_left
        ·intro w'
         go_simp
         with_reducible rfl
        rotate_left
        ·simp only [Act.put, List.setIfInBounds_toArray, List.set_cons_zero, List.set_cons_succ, i64_w, i32_w]
         rfl
        refine pure_ (i := 16) (N := some 31) (v := ?_) (a' := ?_) bactTeachOrderx9_17_1ffff rfl rfl (any_of HT_.out (by kernel_rfl)) (fun _ _ _ h => h) (Or.inl ⟨by rfl, ?_⟩) ?_ ?_
        rotate_left
        ·intro w'
         go_simp
         with_reducible rfl
        rotate_left
        ·simp only [Act.put, List.setIfInBounds_toArray, List.set_cons_zero, List.set_cons_succ, i64_w, i32_w]
         rfl
        refine done_ (done_of HT_.out (by kernel_rfl)) ?_
        try go_wp2
        go_roundg k1
        case measure => have := HK1.out; omega
        case rel => exact ⟨(x10_1), (wrap64 (x10_1 + 1)), yactTeachOrderx9_0_, yactTeachOrderx9_0_, H', ⟨by have := HK1.out; omega⟩, ⟨kP_⟩, ⟨kP_⟩, ⟨hB_⟩⟩
       ·rw [if_neg c8] at H
        have c8b0 : decide (x5_1 < 0) = false := decide_eq_false c8
        clear c8
        by_cases c16 : 0 ≤ x5_1
        ·rw [if_pos c16] at H
         have c16b0 : decide (0 ≤ x5_1) = true := decide_eq_true c16
         clear c16
         by_cases c17 : x5_1 < (l0.length : Int)
         ·rw [if_pos c17] at H
          have c17b0 : decide (x5_1 < (l0.length : Int)) = true := decide_eq_true c17
          clear c17
          by_cases c18 : ((rd_T43 l0 x10_1).f2) > ((rd_T43 l0 x5_1).f2)
          ·rw [if_pos c18] at H
           have c18b0 : decide (((rd_T43 l0 x5_1).f2) < ((rd_T43 l0 x10_1).f2)) = true := decide_eq_true c18
           clear c18
           have H' := Aside0.mk H
           clear H
           have p240 : 0 ≤ (x10_1 : Int) := of_decide_eq_true yactTeachOrderx9_1_
           have q240 : x10_1 < (l0.length : Int) := of_decide_eq_true yactTeachOrderx9_1_
           obtain ⟨ad240, A240_1, c240_1, e240, hx240_0, hx240_1, hx240_2, hl240_1, hi240_1⟩ := at_T43 HR0.out x10_1 p240 q240
           cases e240
           replace hx240_0 := (HB.out.cell (World.block_lt_of_cell? w _ hx240_0)).trans hx240_0
           replace hx240_1 := (HB.out.cell (World.block_lt_of_cell? w _ hx240_1)).trans hx240_1
           replace hx240_2 := (HB.out.cell (World.block_lt_of_cell? w _ hx240_2)).trans hx240_2
           have HR240_1 := Aside0.mk hi240_1
           have HC240_1 := Aside0.mk hl240_1
           clear hi240_1 hl240_1
           replace p240 := eq_true p240
           replace q240 := eq_true q240
           try go_wp2_with (first | ((with_reducible refine gate_dst (N := 7) rfl ?_); refine box_event ?hg (N := 7) ?hd (cs := #[.string (⟨#[]⟩ : ByteArray), .slice none 0 0, .int .i64 0]) (t := 43) ?hr ?_; (case hd => rfl); (case hg => rfl); (case hr => first | (go_simp; done) | (go_simp; rfl)); intro gb241 hg w19 hbox hb; have BK241 := aM_ (hbox); have GW241 := aM_ (gw_ w hg); have GE241 := aM_ (gw_ w hg); have NB38_241 := aM_ (nb_ g1_0 hg); have NB241_38 := aM_ (nc_ g1_0 hg); have NB39_241 := aM_ (nb_ g1_1 hg); have NB241_39 := aM_ (nc_ g1_1 hg); replace BK38 := aM_ (blk_below (g := g1_0) (kR_ BK38) hb); replace BK39 := aM_ (blk_below (g := g1_1) (kR_ BK39) hb); replace HB := aM_ (below_step hB_ hb); clear hb hbox hg; have hnb20 := NB241_38.out; have hnc20 := NB38_241.out; have hnb21 := NB241_39.out; have hnc21 := NB39_241.out; have hz22 := cf3_ BK241.out))
           have n0_ : Aside0 ((((w19.setCell ⟨gb241, 0, none⟩ (.string ((rd_T43 l0 x10_1).f0))).setCell ⟨gb241, 1, none⟩ (.slice A240_1 ((rd_T43 l0 x10_1).f1).length c240_1)).setCell ⟨gb241, 2, none⟩ (.int .i64 ((rd_T43 l0 x10_1).f2))).heap[g1_0]? = some (.cells #[.slice A1_0 l1_0.length c1_0] 24 (0, 0))) := ⟨yactTeachOrderx9_2_⟩
           have n1_ : Aside0 ((((w19.setCell ⟨gb241, 0, none⟩ (.string ((rd_T43 l0 x10_1).f0))).setCell ⟨gb241, 1, none⟩ (.slice A240_1 ((rd_T43 l0 x10_1).f1).length c240_1)).setCell ⟨gb241, 2, none⟩ (.int .i64 ((rd_T43 l0 x10_1).f2))).heap[g1_1]? = some (.cells #[.slice A1_1 l1_1.length c1_1] 27 (0, 0))) := ⟨yactTeachOrderx9_3_⟩
           have n2_ : Aside0 ((((w19.setCell ⟨gb241, 0, none⟩ (.string ((rd_T43 l0 x10_1).f0))).setCell ⟨gb241, 1, none⟩ (.slice A240_1 ((rd_T43 l0 x10_1).f1).length c240_1)).setCell ⟨gb241, 2, none⟩ (.int .i64 ((rd_T43 l0 x10_1).f2))).heap[gb241]? = some (.cells #[.string ((rd_T43 l0 x10_1).f0), .slice A240_1 ((rd_T43 l0 x10_1).f1).length c240_1, .int .i64 ((rd_T43 l0 x10_1).f2)] 43 (0, 0))) := ⟨yactTeachOrderx9_4_⟩
           have n3_ : Aside0 (Below w.heap.size w (((w19.setCell ⟨gb241, 0, none⟩ (.string ((rd_T43 l0 x10_1).f0))).setCell ⟨gb241, 1, none⟩ (.slice A240_1 ((rd_T43 l0 x10_1).f1).length c240_1)).setCell ⟨gb241, 2, none⟩ (.int .i64 ((rd_T43 l0 x10_1).f2)))) := ⟨hB_⟩
           (try clear BK38)
           (try clear BK39)
           (try clear BK241)
           (try clear HB)
           generalize (((w19.setCell ⟨gb241, 0, none⟩ (.string ((rd_T43 l0 x10_1).f0))).setCell ⟨gb241, 1, none⟩ (.slice A240_1 ((rd_T43 l0 x10_1).f1).length c240_1)).setCell ⟨gb241, 2, none⟩ (.int .i64 ((rd_T43 l0 x10_1).f2))) = w23 at n0_ n1_ n2_ n3_ ⊢
           have BK38 := n0_
           have BK39 := n1_
           have BK241 := n2_
           have HB := n3_
           clear n0_ n1_ n2_ n3_
           replace BK38 := aM_ (blk_drew BK38.out)
           replace BK39 := aM_ (blk_drew BK39.out)
           replace BK241 := aM_ (blk_drew BK241.out)
           replace HB := aM_ (below_drew1 HB.out)
           have p243 : 0 ≤ (x5_1 : Int) := of_decide_eq_true yactTeachOrderx9_1_
           have q243 : x5_1 < (l0.length : Int) := of_decide_eq_true yactTeachOrderx9_1_
           obtain ⟨ad243, A243_1, c243_1, e243, hx243_0, hx243_1, hx243_2, hl243_1, hi243_1⟩ := at_T43 HR0.out x5_1 p243 q243
           have hw243_2 := hx243_2
           have hw243_1 := hx243_1
           have hw243_0 := hx243_0
           obtain rfl : ad240 = ad243 := (by injection e243)
           replace hx243_0 := (HB.out.cell (World.block_lt_of_cell? w _ hx243_0)).trans hx243_0
           replace hx243_1 := (HB.out.cell (World.block_lt_of_cell? w _ hx243_1)).trans hx243_1
           replace hx243_2 := (HB.out.cell (World.block_lt_of_cell? w _ hx243_2)).trans hx243_2
           have HR243_1 := Aside0.mk hi243_1
           have HC243_1 := Aside0.mk hl243_1
           clear hi243_1 hl243_1
           replace p243 := eq_true p243
           replace q243 := eq_true q243
           refine start_ (n := 17) (S := fun w' => w'.cell? ⟨gb241, 0, none⟩ = some (.string ((rd_T43 l0 x10_1).f0)) ∧ w'.cell? ⟨gb241, 1, none⟩ = some (.slice A240_1 ((rd_T43 l0 x10_1).f1).length c240_1) ∧ w'.cell? ⟨gb241, 2, none⟩ = some (.int .i64 ((rd_T43 l0 x10_1).f2)) ∧ w'.cell? (ad240.add ((x5_1).toNat * 3)) = some (.string ((rd_T43 l0 x5_1).f0)) ∧ w'.cell? ⟨(ad240.add ((x5_1).toNat * 3)).block, (ad240.add ((x5_1).toNat * 3)).off + 1, none⟩ = some (.slice A243_1 ((rd_T43 l0 x5_1).f1).length c243_1) ∧ w'.cell? ⟨(ad240.add ((x5_1).toNat * 3)).block, (ad240.add ((x5_1).toNat * 3)).off + 2, none⟩ = some (.int .i64 ((rd_T43 l0 x5_1).f2))) (ds := []) bactTeachOrderx9_17_0 (by kernel_rfl) rfl rfl ⟨(blk_cell BK241.out 0).trans rfl, (blk_cell BK241.out 1).trans rfl, (blk_cell BK241.out 2).trans rfl, ((HB.out.cell (World.block_lt_of_cell? w _ hw243_0)).trans hw243_0), ((HB.out.cell (World.block_lt_of_cell? w _ hw243_1)).trans hw243_1), ((HB.out.cell (World.block_lt_of_cell? w _ hw243_2)).trans hw243_2)⟩ (fun hHeld => ?_); refine with_tabW impl_mostUsed_impl_TeachOrder_1.tab5 impl_mostUsed_impl_TeachOrder_1.bits5 (fun HT_ HW_ => ?_)
           generalize w23.drew = w24 at BK38 BK39 BK241 HB HR243_1 hx243_0 hx243_1 hx243_2 hHeld ⊢
           refine pure_ (i := 0) (N := some 15) (v := ?_) (a' := ?_) bactTeachOrderx9_17_1 rfl rfl (any_of HT_.out (by kernel_rfl)) (fun _ _ _ h => h) (Or.inl ⟨by rfl, ?_⟩) ?_ ?_
           rotate_left
           ·intro w'
            go_simp
            with_reducible rfl
           rotate_left
           ·simp only [Act.put, List.setIfInBounds_toArray, List.set_cons_zero, List.set_cons_succ, i64_w, i32_w]
            rfl
           refine pure_ (i := 1) (N := some 16) (v := ?_) (a' := ?_) bactTeachOrderx9_17_3 rfl rfl (any_of HT_.out (by kernel_rfl)) (fun _ _ _ h => h) (Or.inl ⟨by rfl, ?_⟩) ?_ ?_
           rotate_left
           ·intro w'
            go_simp
            with_reducible rfl
           rotate_left
           ·simp only [Act.put, List.setIfInBounds_toArray, List.set_cons_zero, List.set_cons_succ, i64_w, i32_w]
            rfl
           refine one_ (i := 2) (N := some 17) bactTeachOrderx9_17_7 rfl rfl (one_of HT_.out (by kernel_rfl)) (by decide) (fun K hK => ?_)
           refine goesW_ Try.func30 (by kernel_rfl) rfl #[.int .i64 x10_1, .pointer (some ⟨g1_0, 0, none⟩), .pointer (some ⟨g1_1, 0, none⟩)] (by rfl) rfl rfl rfl aR_ ?_
           with_reducible refine (impl_TeachOrder_1.calls k1 x10_1 g1_0 A1_0 c1_0 l1_0 g1_1 A1_1 c1_1 l1_1 true _ ?side1 ?side2 ?side3 ?side4 ?side5 ?side6 A6.out).mono ?_
           (case side1 => repeat (first | exact (Kd.C_below HR1_0.out HB.out) | (with_reducible refine Kd.C_alloc ?_ _) | (with_reducible refine Kd.C_drewN ?_ _) | (with_reducible refine Kd.C_drew ?_)))
           (case side2 => exact HC1_0.out)
           (case side3 => repeat (first | exact (Kd.C_below HR1_1.out HB.out) | (with_reducible refine Kd.C_alloc ?_ _) | (with_reducible refine Kd.C_drewN ?_ _) | (with_reducible refine Kd.C_drew ?_)))
           (case side4 => exact HC1_1.out)
           (case side5 => (with_reducible repeat (first | apply kN_ | apply kD_ | apply kA_)); exact BK38.out)
           (case side6 => (with_reducible repeat (first | apply kN_ | apply kD_ | apply kA_)); exact BK39.out)
           rintro e w25 ⟨rfl, hb⟩
           refine ⟨_, rfl, ?_⟩
           replace BK38 := aM_ (blk_below (g := g1_0) (kR_ BK38) hb)
           replace BK39 := aM_ (blk_below (g := g1_1) (kR_ BK39) hb)
           replace BK241 := aM_ (blk_below (g := gb241) (kR_ BK241) hb)
           replace HB := aM_ (below_step hB_ hb)
           (try clear hb)
           (try clear hb2)
           (try clear hk)
           (try clear hi)
           refine hK.out _ _ ⟨(blk_cell BK241.out 0).trans rfl, (blk_cell BK241.out 1).trans rfl, (blk_cell BK241.out 2).trans rfl, ((HB.out.cell (World.block_lt_of_cell? w _ hw243_0)).trans hw243_0), ((HB.out.cell (World.block_lt_of_cell? w _ hw243_1)).trans hw243_1), ((HB.out.cell (World.block_lt_of_cell? w _ hw243_2)).trans hw243_2)⟩ (fun hHeld => ?_)
           clear hK K
           refine norm_ (a' := ?_) ?_ ?_
           rotate_left
           ·show Act.put _ (some 17) _ = _
            simp only [Act.put, List.setIfInBounds_toArray, List.set_cons_zero, List.set_cons_succ, i64_w, i32_w]
            rfl
           refine pure_ (i := 3) (N := some 18) (v := ?_) (a' := ?_) bactTeachOrderx9_17_f rfl rfl (any_of HT_.out (by kernel_rfl)) (fun _ _ _ h => h) (Or.inl ⟨by rfl, ?_⟩) ?_ ?_
           rotate_left
           ·intro w'
            go_simp
            with_reducible rfl
           rotate_left
           ·simp only [Act.put, List.setIfInBounds_toArray, List.set_cons_zero, List.set_cons_succ, i64_w, i32_w]
            rfl
           refine pure_ (i := 4) (N := some 19) (v := ?_) (a' := ?_) bactTeachOrderx9_17_1f rfl rfl (any_of HT_.out (by kernel_rfl)) (fun _ _ _ h => h) (Or.inl ⟨by rfl, ?_⟩) ?_ ?_
           rotate_left
           ·intro w'
            go_simp
            with_reducible rfl
           rotate_left
           ·simp only [Act.put, List.setIfInBounds_toArray, List.set_cons_zero, List.set_cons_succ, i64_w, i32_w]
            rfl
           refine pure_ (i := 5) (N := some 20) (v := ?_) (a' := ?_) bactTeachOrderx9_17_3f rfl rfl (any_of HT_.out (by kernel_rfl)) (fun _ _ _ h => h) (Or.inl ⟨by rfl, ?_⟩) ?_ ?_
           rotate_left
           ·intro w'
            go_simp
            with_reducible rfl
           rotate_left
           ·simp only [Act.put, List.setIfInBounds_toArray, List.set_cons_zero, List.set_cons_succ, i64_w, i32_w]
            rfl
           refine pure_ (i := 6) (N := some 21) (v := ?_) (a' := ?_) bactTeachOrderx9_17_7f rfl rfl (any_of HT_.out (by kernel_rfl)) (fun _ _ _ h => h) (Or.inl ⟨by rfl, ?_⟩) ?_ ?_
           rotate_left
           ·intro w'
            go_simp
            with_reducible rfl
           rotate_left
           ·simp only [Act.put, List.setIfInBounds_toArray, List.set_cons_zero, List.set_cons_succ, i64_w, i32_w]
            rfl
           refine pure_ (i := 7) (N := some 22) (v := ?_) (a' := ?_) bactTeachOrderx9_17_ff rfl rfl (any_of HT_.out (by kernel_rfl)) (fun _ _ _ h => h) (Or.inl ⟨by rfl, ?_⟩) ?_ ?_
           rotate_left
           ·intro w'
            go_simp
            with_reducible rfl
           rotate_left
           ·simp only [Act.put, List.setIfInBounds_toArray, List.set_cons_zero, List.set_cons_succ, i64_w, i32_w]
            rfl
           refine pure_ (i := 9) (N := some 24) (v := ?_) (a' := ?_) bactTeachOrderx9_17_2ff rfl rfl (any_of HT_.out (by kernel_rfl)) (fun _ _ _ h => h) (Or.inl ⟨by rfl, ?_⟩) ?_ ?_
           rotate_left
           ·intro w'
            go_simp
            with_reducible rfl
           rotate_left
           ·simp only [Act.put, List.setIfInBounds_toArray, List.set_cons_zero, List.set_cons_succ, i64_w, i32_w]
            rfl
           refine pure_ (i := 10) (N := some 25) (v := ?_) (a' := ?_) bactTeachOrderx9_17_6ff rfl rfl (any_of HT_.out (by kernel_rfl)) (fun _ _ _ h => h) (Or.inl ⟨by rfl, ?_⟩) ?_ ?_
           rotate_left
           ·intro w'
            go_simp
            with_reducible rfl
           rotate_left
           ·simp only [Act.put, List.setIfInBounds_toArray, List.set_cons_zero, List.set_cons_succ, i64_w, i32_w]
            rfl
           refine pure_ (i := 11) (N := some 26) (v := ?_) (a' := ?_) bactTeachOrderx9_17_eff rfl rfl (any_of HT_.out (by kernel_rfl)) (fun _ _ _ h => h) (Or.inl ⟨by rfl, ?_⟩) ?_ ?_
           rotate_left
           ·intro w'
            go_simp
            with_reducible rfl
           rotate_left
           ·simp only [Act.put, List.setIfInBounds_toArray, List.set_cons_zero, List.set_cons_succ, i64_w, i32_w]
            rfl
           refine pure_ (i := 12) (N := some 27) (v := ?_) (a' := ?_) bactTeachOrderx9_17_1eff rfl rfl (any_of HT_.out (by kernel_rfl)) (fun _ _ _ h => h) (Or.inl ⟨by rfl, ?_⟩) ?_ ?_
           rotate_left
           ·intro w'
            go_simp
            with_reducible rfl
           rotate_left
           ·simp only [Act.put, List.setIfInBounds_toArray, List.set_cons_zero, List.set_cons_succ, i64_w, i32_w]
            rfl
           refine take_ (i := 8) (N := some 23) (v := ?_) (a' := ?_) bactTeachOrderx9_17_1fff rfl rfl (take_ofW HT_.out HW_.out (by kernel_rfl)) (fun _ _ _ h => h) (Or.inl ⟨by rfl, ?_⟩) hHeld ?_ ?_
           rotate_left
           ·rintro w' ⟨s0, s1, s2, s3, s4, s5⟩
            go_simp
            with_reducible rfl
           rotate_left
           ·simp only [Act.put, List.setIfInBounds_toArray, List.set_cons_zero, List.set_cons_succ, i64_w, i32_w]
            rfl
           refine take_ (i := 13) (N := some 28) (v := ?_) (a' := ?_) bactTeachOrderx9_17_3fff rfl rfl (take_ofW HT_.out HW_.out (by kernel_rfl)) (fun _ _ _ h => h) (Or.inl ⟨by rfl, ?_⟩) hHeld ?_ ?_
           rotate_left
           ·rintro w' ⟨s0, s1, s2, s3, s4, s5⟩
            go_simp
            with_reducible rfl
           rotate_left
           ·simp only [Act.put, List.setIfInBounds_toArray, List.set_cons_zero, List.set_cons_succ, i64_w, i32_w]
            rfl
           refine pure_ (i := 14) (N := some 29) (v := ?_) (a' := ?_) bactTeachOrderx9_17_7fff rfl rfl (any_of HT_.out (by kernel_rfl)) (fun _ _ _ h => h) (Or.inl ⟨by rfl, ?_⟩) ?_ ?_
           rotate_left
           ·intro w'
            go_simp
            with_reducible rfl
           rotate_left
           ·simp only [Act.put, List.setIfInBounds_toArray, List.set_cons_zero, List.set_cons_succ, i64_w, i32_w]
            rfl
           refine pure_ (i := 15) (N := some 30) (v := ?_) (a' := ?_) bactTeachOrderx9_17_ffff rfl rfl (any_of HT_.out (by kernel_rfl)) (fun _ _ _ h => h) (Or.inl ⟨by rfl, ?_⟩) ?_ ?_
           rotate_left
           ·intro w'
            go_simp
            with_reducible rfl
           rotate_left
           ·simp only [Act.put, List.setIfInBounds_toArray, List.set_cons_zero, List.set_cons_succ, i64_w, i32_w]
            rfl
           refine pure_ (i := 16) (N := some 31) (v := ?_) (a' := ?_) bactTeachOrderx9_17_1ffff rfl rfl (any_of HT_.out (by kernel_rfl)) (fun _ _ _ h => h) (Or.inl ⟨by rfl, ?_⟩) ?_ ?_
           rotate_left
           ·intro w'
            go_simp
            with_reducible rfl
           rotate_left
           ·simp only [Act.put, List.setIfInBounds_toArray, List.set_cons_zero, List.set_cons_succ, i64_w, i32_w]
            rfl
           refine done_ (done_of HT_.out (by kernel_rfl)) ?_
           try go_wp2
           go_roundg k1
           case measure => have := HK1.out; omega
           case rel => exact ⟨(x10_1), (wrap64 (x10_1 + 1)), yactTeachOrderx9_0_, yactTeachOrderx9_0_, H', ⟨by have := HK1.out; omega⟩, ⟨kP_⟩, ⟨kP_⟩, ⟨hB_⟩⟩
          ·rw [if_neg c18] at H
           have c18b0 : decide (((rd_T43 l0 x5_1).f2) < ((rd_T43 l0 x10_1).f2)) = false := decide_eq_false c18
           clear c18
           have H' := Aside0.mk H
           clear H
           have p240 : 0 ≤ (x10_1 : Int) := of_decide_eq_true yactTeachOrderx9_1_
           have q240 : x10_1 < (l0.length : Int) := of_decide_eq_true yactTeachOrderx9_1_
           obtain ⟨ad240, A240_1, c240_1, e240, hx240_0, hx240_1, hx240_2, hl240_1, hi240_1⟩ := at_T43 HR0.out x10_1 p240 q240
           cases e240
           replace hx240_0 := (HB.out.cell (World.block_lt_of_cell? w _ hx240_0)).trans hx240_0
           replace hx240_1 := (HB.out.cell (World.block_lt_of_cell? w _ hx240_1)).trans hx240_1
           replace hx240_2 := (HB.out.cell (World.block_lt_of_cell? w _ hx240_2)).trans hx240_2
           have HR240_1 := Aside0.mk hi240_1
           have HC240_1 := Aside0.mk hl240_1
           clear hi240_1 hl240_1
           replace p240 := eq_true p240
           replace q240 := eq_true q240
           try go_wp2_with (first | ((with_reducible refine gate_dst (N := 7) rfl ?_); refine box_event ?hg (N := 7) ?hd (cs := #[.string (⟨#[]⟩ : ByteArray), .slice none 0 0, .int .i64 0]) (t := 43) ?hr ?_; (case hd => rfl); (case hg => rfl); (case hr => first | (go_simp; done) | (go_simp; rfl)); intro gb241 hg w26 hbox hb; have BK241 := aM_ (hbox); have GW241 := aM_ (gw_ w hg); have GE241 := aM_ (gw_ w hg); have NB38_241 := aM_ (nb_ g1_0 hg); have NB241_38 := aM_ (nc_ g1_0 hg); have NB39_241 := aM_ (nb_ g1_1 hg); have NB241_39 := aM_ (nc_ g1_1 hg); replace BK38 := aM_ (blk_below (g := g1_0) (kR_ BK38) hb); replace BK39 := aM_ (blk_below (g := g1_1) (kR_ BK39) hb); replace HB := aM_ (below_step hB_ hb); clear hb hbox hg; have hnb27 := NB241_38.out; have hnc27 := NB38_241.out; have hnb28 := NB241_39.out; have hnc28 := NB39_241.out; have hz29 := cf3_ BK241.out))
           have n0_ : Aside0 ((((w26.setCell ⟨gb241, 0, none⟩ (.string ((rd_T43 l0 x10_1).f0))).setCell ⟨gb241, 1, none⟩ (.slice A240_1 ((rd_T43 l0 x10_1).f1).length c240_1)).setCell ⟨gb241, 2, none⟩ (.int .i64 ((rd_T43 l0 x10_1).f2))).heap[g1_0]? = some (.cells #[.slice A1_0 l1_0.length c1_0] 24 (0, 0))) := ⟨yactTeachOrderx9_2_⟩
           have n1_ : Aside0 ((((w26.setCell ⟨gb241, 0, none⟩ (.string ((rd_T43 l0 x10_1).f0))).setCell ⟨gb241, 1, none⟩ (.slice A240_1 ((rd_T43 l0 x10_1).f1).length c240_1)).setCell ⟨gb241, 2, none⟩ (.int .i64 ((rd_T43 l0 x10_1).f2))).heap[g1_1]? = some (.cells #[.slice A1_1 l1_1.length c1_1] 27 (0, 0))) := ⟨yactTeachOrderx9_3_⟩
           have n2_ : Aside0 ((((w26.setCell ⟨gb241, 0, none⟩ (.string ((rd_T43 l0 x10_1).f0))).setCell ⟨gb241, 1, none⟩ (.slice A240_1 ((rd_T43 l0 x10_1).f1).length c240_1)).setCell ⟨gb241, 2, none⟩ (.int .i64 ((rd_T43 l0 x10_1).f2))).heap[gb241]? = some (.cells #[.string ((rd_T43 l0 x10_1).f0), .slice A240_1 ((rd_T43 l0 x10_1).f1).length c240_1, .int .i64 ((rd_T43 l0 x10_1).f2)] 43 (0, 0))) := ⟨yactTeachOrderx9_4_⟩
           have n3_ : Aside0 (Below w.heap.size w (((w26.setCell ⟨gb241, 0, none⟩ (.string ((rd_T43 l0 x10_1).f0))).setCell ⟨gb241, 1, none⟩ (.slice A240_1 ((rd_T43 l0 x10_1).f1).length c240_1)).setCell ⟨gb241, 2, none⟩ (.int .i64 ((rd_T43 l0 x10_1).f2)))) := ⟨hB_⟩
           (try clear BK38)
           (try clear BK39)
           (try clear BK241)
           (try clear HB)
           generalize (((w26.setCell ⟨gb241, 0, none⟩ (.string ((rd_T43 l0 x10_1).f0))).setCell ⟨gb241, 1, none⟩ (.slice A240_1 ((rd_T43 l0 x10_1).f1).length c240_1)).setCell ⟨gb241, 2, none⟩ (.int .i64 ((rd_T43 l0 x10_1).f2))) = w30 at n0_ n1_ n2_ n3_ ⊢
           have BK38 := n0_
           have BK39 := n1_
           have BK241 := n2_
           have HB := n3_
           clear n0_ n1_ n2_ n3_
           replace BK38 := aM_ (blk_drew BK38.out)
           replace BK39 := aM_ (blk_drew BK39.out)
           replace BK241 := aM_ (blk_drew BK241.out)
           replace HB := aM_ (below_drew1 HB.out)
           have p243 : 0 ≤ (x5_1 : Int) := of_decide_eq_true yactTeachOrderx9_1_
           have q243 : x5_1 < (l0.length : Int) := of_decide_eq_true yactTeachOrderx9_1_
           obtain ⟨ad243, A243_1, c243_1, e243, hx243_0, hx243_1, hx243_2, hl243_1, hi243_1⟩ := at_T43 HR0.out x5_1 p243 q243
           have hw243_2 := hx243_2
           have hw243_1 := hx243_1
           have hw243_0 := hx243_0
           obtain rfl : ad240 = ad243 := (by injection e243)
           replace hx243_0 := (HB.out.cell (World.block_lt_of_cell? w _ hx243_0)).trans hx243_0
           replace hx243_1 := (HB.out.cell (World.block_lt_of_cell? w _ hx243_1)).trans hx243_1
           replace hx243_2 := (HB.out.cell (World.block_lt_of_cell? w _ hx243_2)).trans hx243_2
           have HR243_1 := Aside0.mk hi243_1
           have HC243_1 := Aside0.mk hl243_1
           clear hi243_1 hl243_1
           replace p243 := eq_true p243
           replace q243 := eq_true q243
           refine start_ (n := 17) (S := fun w' => w'.cell? ⟨gb241, 0, none⟩ = some (.string ((rd_T43 l0 x10_1).f0)) ∧ w'.cell? ⟨gb241, 1, none⟩ = some (.slice A240_1 ((rd_T43 l0 x10_1).f1).length c240_1) ∧ w'.cell? ⟨gb241, 2, none⟩ = some (.int .i64 ((rd_T43 l0 x10_1).f2)) ∧ w'.cell? (ad240.add ((x5_1).toNat * 3)) = some (.string ((rd_T43 l0 x5_1).f0)) ∧ w'.cell? ⟨(ad240.add ((x5_1).toNat * 3)).block, (ad240.add ((x5_1).toNat * 3)).off + 1, none⟩ = some (.slice A243_1 ((rd_T43 l0 x5_1).f1).length c243_1) ∧ w'.cell? ⟨(ad240.add ((x5_1).toNat * 3)).block, (ad240.add ((x5_1).toNat * 3)).off + 2, none⟩ = some (.int .i64 ((rd_T43 l0 x5_1).f2))) (ds := []) bactTeachOrderx9_17_0 (by kernel_rfl) rfl rfl ⟨(blk_cell BK241.out 0).trans rfl, (blk_cell BK241.out 1).trans rfl, (blk_cell BK241.out 2).trans rfl, ((HB.out.cell (World.block_lt_of_cell? w _ hw243_0)).trans hw243_0), ((HB.out.cell (World.block_lt_of_cell? w _ hw243_1)).trans hw243_1), ((HB.out.cell (World.block_lt_of_cell? w _ hw243_2)).trans hw243_2)⟩ (fun hHeld => ?_); refine with_tabW impl_mostUsed_impl_TeachOrder_1.tab5 impl_mostUsed_impl_TeachOrder_1.bits5 (fun HT_ HW_ => ?_)
           generalize w30.drew = w31 at BK38 BK39 BK241 HB HR243_1 hx243_0 hx243_1 hx243_2 hHeld ⊢
           refine pure_ (i := 0) (N := some 15) (v := ?_) (a' := ?_) bactTeachOrderx9_17_1 rfl rfl (any_of HT_.out (by kernel_rfl)) (fun _ _ _ h => h) (Or.inl ⟨by rfl, ?_⟩) ?_ ?_
           rotate_left
           ·intro w'
            go_simp
            with_reducible rfl
           rotate_left
           ·simp only [Act.put, List.setIfInBounds_toArray, List.set_cons_zero, List.set_cons_succ, i64_w, i32_w]
            rfl
           refine pure_ (i := 1) (N := some 16) (v := ?_) (a' := ?_) bactTeachOrderx9_17_3 rfl rfl (any_of HT_.out (by kernel_rfl)) (fun _ _ _ h => h) (Or.inl ⟨by rfl, ?_⟩) ?_ ?_
           rotate_left
           ·intro w'
            go_simp
            with_reducible rfl
           rotate_left
           ·simp only [Act.put, List.setIfInBounds_toArray, List.set_cons_zero, List.set_cons_succ, i64_w, i32_w]
            rfl
           refine one_ (i := 2) (N := some 17) bactTeachOrderx9_17_7 rfl rfl (one_of HT_.out (by kernel_rfl)) (by decide) (fun K hK => ?_)
           refine goesW_ Try.func30 (by kernel_rfl) rfl #[.int .i64 x10_1, .pointer (some ⟨g1_0, 0, none⟩), .pointer (some ⟨g1_1, 0, none⟩)] (by rfl) rfl rfl rfl aR_ ?_
           with_reducible refine (impl_TeachOrder_1.calls k1 x10_1 g1_0 A1_0 c1_0 l1_0 g1_1 A1_1 c1_1 l1_1 true _ ?side1 ?side2 ?side3 ?side4 ?side5 ?side6 A6.out).mono ?_
           (case side1 => repeat (first | exact (Kd.C_below HR1_0.out HB.out) | (with_reducible refine Kd.C_alloc ?_ _) | (with_reducible refine Kd.C_drewN ?_ _) | (with_reducible refine Kd.C_drew ?_)))
           (case side2 => exact HC1_0.out)
           (case side3 => repeat (first | exact (Kd.C_below HR1_1.out HB.out) | (with_reducible refine Kd.C_alloc ?_ _) | (with_reducible refine Kd.C_drewN ?_ _) | (with_reducible refine Kd.C_drew ?_)))
           (case side4 => exact HC1_1.out)
           (case side5 => (with_reducible repeat (first | apply kN_ | apply kD_ | apply kA_)); exact BK38.out)
           (case side6 => (with_reducible repeat (first | apply kN_ | apply kD_ | apply kA_)); exact BK39.out)
           rintro e w32 ⟨rfl, hb⟩
           refine ⟨_, rfl, ?_⟩
           replace BK38 := aM_ (blk_below (g := g1_0) (kR_ BK38) hb)
           replace BK39 := aM_ (blk_below (g := g1_1) (kR_ BK39) hb)
           replace BK241 := aM_ (blk_below (g := gb241) (kR_ BK241) hb)
           replace HB := aM_ (below_step hB_ hb)
           (try clear hb)
           (try clear hb2)
           (try clear hk)
           (try clear hi)
           refine hK.out _ _ ⟨(blk_cell BK241.out 0).trans rfl, (blk_cell BK241.out 1).trans rfl, (blk_cell BK241.out 2).trans rfl, ((HB.out.cell (World.block_lt_of_cell? w _ hw243_0)).trans hw243_0), ((HB.out.cell (World.block_lt_of_cell? w _ hw243_1)).trans hw243_1), ((HB.out.cell (World.block_lt_of_cell? w _ hw243_2)).trans hw243_2)⟩ (fun hHeld => ?_)
           clear hK K
           refine norm_ (a' := ?_) ?_ ?_
           rotate_left
           ·show Act.put _ (some 17) _ = _
            simp only [Act.put, List.setIfInBounds_toArray, List.set_cons_zero, List.set_cons_succ, i64_w, i32_w]
            rfl
           refine pure_ (i := 3) (N := some 18) (v := ?_) (a' := ?_) bactTeachOrderx9_17_f rfl rfl (any_of HT_.out (by kernel_rfl)) (fun _ _ _ h => h) (Or.inl ⟨by rfl, ?_⟩) ?_ ?_
           rotate_left
           ·intro w'
            go_simp
            with_reducible rfl
           rotate_left
           ·simp only [Act.put, List.setIfInBounds_toArray, List.set_cons_zero, List.set_cons_succ, i64_w, i32_w]
            rfl
           refine pure_ (i := 4) (N := some 19) (v := ?_) (a' := ?_) bactTeachOrderx9_17_1f rfl rfl (any_of HT_.out (by kernel_rfl)) (fun _ _ _ h => h) (Or.inl ⟨by rfl, ?_⟩) ?_ ?_
           rotate_left
           ·intro w'
            go_simp
            with_reducible rfl
           rotate_left
           ·simp only [Act.put, List.setIfInBounds_toArray, List.set_cons_zero, List.set_cons_succ, i64_w, i32_w]
            rfl
           refine pure_ (i := 5) (N := some 20) (v := ?_) (a' := ?_) bactTeachOrderx9_17_3f rfl rfl (any_of HT_.out (by kernel_rfl)) (fun _ _ _ h => h) (Or.inl ⟨by rfl, ?_⟩) ?_ ?_
           rotate_left
           ·intro w'
            go_simp
            with_reducible rfl
           rotate_left
           ·simp only [Act.put, List.setIfInBounds_toArray, List.set_cons_zero, List.set_cons_succ, i64_w, i32_w]
            rfl
           refine pure_ (i := 6) (N := some 21) (v := ?_) (a' := ?_) bactTeachOrderx9_17_7f rfl rfl (any_of HT_.out (by kernel_rfl)) (fun _ _ _ h => h) (Or.inl ⟨by rfl, ?_⟩) ?_ ?_
           rotate_left
           ·intro w'
            go_simp
            with_reducible rfl
           rotate_left
           ·simp only [Act.put, List.setIfInBounds_toArray, List.set_cons_zero, List.set_cons_succ, i64_w, i32_w]
            rfl
           refine pure_ (i := 7) (N := some 22) (v := ?_) (a' := ?_) bactTeachOrderx9_17_ff rfl rfl (any_of HT_.out (by kernel_rfl)) (fun _ _ _ h => h) (Or.inl ⟨by rfl, ?_⟩) ?_ ?_
           rotate_left
           ·intro w'
            go_simp
            with_reducible rfl
           rotate_left
           ·simp only [Act.put, List.setIfInBounds_toArray, List.set_cons_zero, List.set_cons_succ, i64_w, i32_w]
            rfl
           refine pure_ (i := 9) (N := some 24) (v := ?_) (a' := ?_) bactTeachOrderx9_17_2ff rfl rfl (any_of HT_.out (by kernel_rfl)) (fun _ _ _ h => h) (Or.inl ⟨by rfl, ?_⟩) ?_ ?_
           rotate_left
           ·intro w'
            go_simp
            with_reducible rfl
           rotate_left
           ·simp only [Act.put, List.setIfInBounds_toArray, List.set_cons_zero, List.set_cons_succ, i64_w, i32_w]
            rfl
           refine pure_ (i := 10) (N := some 25) (v := ?_) (a' := ?_) bactTeachOrderx9_17_6ff rfl rfl (any_of HT_.out (by kernel_rfl)) (fun _ _ _ h => h) (Or.inl ⟨by rfl, ?_⟩) ?_ ?_
           rotate_left
           ·intro w'
            go_simp
            with_reducible rfl
           rotate_left
           ·simp only [Act.put, List.setIfInBounds_toArray, List.set_cons_zero, List.set_cons_succ, i64_w, i32_w]
            rfl
           refine pure_ (i := 11) (N := some 26) (v := ?_) (a' := ?_) bactTeachOrderx9_17_eff rfl rfl (any_of HT_.out (by kernel_rfl)) (fun _ _ _ h => h) (Or.inl ⟨by rfl, ?_⟩) ?_ ?_
           rotate_left
           ·intro w'
            go_simp
            with_reducible rfl
           rotate_left
           ·simp only [Act.put, List.setIfInBounds_toArray, List.set_cons_zero, List.set_cons_succ, i64_w, i32_w]
            rfl
           refine pure_ (i := 12) (N := some 27) (v := ?_) (a' := ?_) bactTeachOrderx9_17_1eff rfl rfl (any_of HT_.out (by kernel_rfl)) (fun _ _ _ h => h) (Or.inl ⟨by rfl, ?_⟩) ?_ ?_
           rotate_left
           ·intro w'
            go_simp
            with_reducible rfl
           rotate_left
           ·simp only [Act.put, List.setIfInBounds_toArray, List.set_cons_zero, List.set_cons_succ, i64_w, i32_w]
            rfl
           refine take_ (i := 8) (N := some 23) (v := ?_) (a' := ?_) bactTeachOrderx9_17_1fff rfl rfl (take_ofW HT_.out HW_.out (by kernel_rfl)) (fun _ _ _ h => h) (Or.inl ⟨by rfl, ?_⟩) hHeld ?_ ?_
           rotate_left
           ·rintro w' ⟨s0, s1, s2, s3, s4, s5⟩
            go_simp
            with_reducible rfl
           rotate_left
           ·simp only [Act.put, List.setIfInBounds_toArray, List.set_cons_zero, List.set_cons_succ, i64_w, i32_w]
            rfl
           refine take_ (i := 13) (N := some 28) (v := ?_) (a' := ?_) bactTeachOrderx9_17_3fff rfl rfl (take_ofW HT_.out HW_.out (by kernel_rfl)) (fun _ _ _ h => h) (Or.inl ⟨by rfl, ?_⟩) hHeld ?_ ?_
           rotate_left
           ·rintro w' ⟨s0, s1, s2, s3, s4, s5⟩
            go_simp
            with_reducible rfl
           rotate_left
           ·simp only [Act.put, List.setIfInBounds_toArray, List.set_cons_zero, List.set_cons_succ, i64_w, i32_w]
            rfl
           refine pure_ (i := 14) (N := some 29) (v := ?_) (a' := ?_) bactTeachOrderx9_17_7fff rfl rfl (any_of HT_.out (by kernel_rfl)) (fun _ _ _ h => h) (Or.inl ⟨by rfl, ?_⟩) ?_ ?_
           rotate_left
           ·intro w'
            go_simp
            with_reducible rfl
           rotate_left
           ·simp only [Act.put, List.setIfInBounds_toArray, List.set_cons_zero, List.set_cons_succ, i64_w, i32_w]
            rfl
           refine pure_ (i := 15) (N := some 30) (v := ?_) (a' := ?_) bactTeachOrderx9_17_ffff rfl rfl (any_of HT_.out (by kernel_rfl)) (fun _ _ _ h => h) (Or.inl ⟨by rfl, ?_⟩) ?_ ?_
           rotate_left
           ·intro w'
            go_simp
            with_reducible rfl
           rotate_left
           ·simp only [Act.put, List.setIfInBounds_toArray, List.set_cons_zero, List.set_cons_succ, i64_w, i32_w]
            rfl
           refine pure_ (i := 16) (N := some 31) (v := ?_) (a' := ?_) bactTeachOrderx9_17_1ffff rfl rfl (any_of HT_.out (by kernel_rfl)) (fun _ _ _ h => h) (Or.inl ⟨by rfl, ?_⟩) ?_ ?_
           rotate_left
           ·intro w'
            go_simp
            with_reducible rfl
           rotate_left
           ·simp only [Act.put, List.setIfInBounds_toArray, List.set_cons_zero, List.set_cons_succ, i64_w, i32_w]
            rfl
           refine done_ (done_of HT_.out (by kernel_rfl)) ?_
           try go_wp2
           go_roundg k1
           case measure => have := HK1.out; omega
           case rel => exact ⟨(x5_1), (wrap64 (x10_1 + 1)), yactTeachOrderx9_0_, yactTeachOrderx9_0_, H', ⟨by have := HK1.out; omega⟩, ⟨kP_⟩, ⟨kP_⟩, ⟨hB_⟩⟩
         ·rw [if_neg c17] at H
          exact absurd H (by simp)
        ·rw [if_neg c16] at H
         exact absurd H (by simp)
      ·replace c7 := Bool.eq_false_iff.mpr c7
       subst c7
       replace H := in_ H (show ¬ (false = true) by decide)
       have H' := Aside0.mk H
       clear H
       have p240 : 0 ≤ (x10_1 : Int) := of_decide_eq_true yactTeachOrderx9_1_
       have q240 : x10_1 < (l0.length : Int) := of_decide_eq_true yactTeachOrderx9_1_
       obtain ⟨ad240, A240_1, c240_1, e240, hx240_0, hx240_1, hx240_2, hl240_1, hi240_1⟩ := at_T43 HR0.out x10_1 p240 q240
       cases e240
       replace hx240_0 := (HB.out.cell (World.block_lt_of_cell? w _ hx240_0)).trans hx240_0
       replace hx240_1 := (HB.out.cell (World.block_lt_of_cell? w _ hx240_1)).trans hx240_1
       replace hx240_2 := (HB.out.cell (World.block_lt_of_cell? w _ hx240_2)).trans hx240_2
       have HR240_1 := Aside0.mk hi240_1
       have HC240_1 := Aside0.mk hl240_1
       clear hi240_1 hl240_1
       replace p240 := eq_true p240
       replace q240 := eq_true q240
       try go_wp2_with (first | ((with_reducible refine gate_dst (N := 7) rfl ?_); refine box_event ?hg (N := 7) ?hd (cs := #[.string (⟨#[]⟩ : ByteArray), .slice none 0 0, .int .i64 0]) (t := 43) ?hr ?_; (case hd => rfl); (case hg => rfl); (case hr => first | (go_simp; done) | (go_simp; rfl)); intro gb241 hg w33 hbox hb; have BK241 := aM_ (hbox); have GW241 := aM_ (gw_ w hg); have GE241 := aM_ (gw_ w hg); have NB38_241 := aM_ (nb_ g1_0 hg); have NB241_38 := aM_ (nc_ g1_0 hg); have NB39_241 := aM_ (nb_ g1_1 hg); have NB241_39 := aM_ (nc_ g1_1 hg); replace BK38 := aM_ (blk_below (g := g1_0) (kR_ BK38) hb); replace BK39 := aM_ (blk_below (g := g1_1) (kR_ BK39) hb); replace HB := aM_ (below_step hB_ hb); clear hb hbox hg; have hnb34 := NB241_38.out; have hnc34 := NB38_241.out; have hnb35 := NB241_39.out; have hnc35 := NB39_241.out; have hz36 := cf3_ BK241.out))
       have n0_ : Aside0 ((((w33.setCell ⟨gb241, 0, none⟩ (.string ((rd_T43 l0 x10_1).f0))).setCell ⟨gb241, 1, none⟩ (.slice A240_1 ((rd_T43 l0 x10_1).f1).length c240_1)).setCell ⟨gb241, 2, none⟩ (.int .i64 ((rd_T43 l0 x10_1).f2))).heap[g1_0]? = some (.cells #[.slice A1_0 l1_0.length c1_0] 24 (0, 0))) := ⟨yactTeachOrderx9_2_⟩
       have n1_ : Aside0 ((((w33.setCell ⟨gb241, 0, none⟩ (.string ((rd_T43 l0 x10_1).f0))).setCell ⟨gb241, 1, none⟩ (.slice A240_1 ((rd_T43 l0 x10_1).f1).length c240_1)).setCell ⟨gb241, 2, none⟩ (.int .i64 ((rd_T43 l0 x10_1).f2))).heap[g1_1]? = some (.cells #[.slice A1_1 l1_1.length c1_1] 27 (0, 0))) := ⟨yactTeachOrderx9_3_⟩
       have n2_ : Aside0 ((((w33.setCell ⟨gb241, 0, none⟩ (.string ((rd_T43 l0 x10_1).f0))).setCell ⟨gb241, 1, none⟩ (.slice A240_1 ((rd_T43 l0 x10_1).f1).length c240_1)).setCell ⟨gb241, 2, none⟩ (.int .i64 ((rd_T43 l0 x10_1).f2))).heap[gb241]? = some (.cells #[.string ((rd_T43 l0 x10_1).f0), .slice A240_1 ((rd_T43 l0 x10_1).f1).length c240_1, .int .i64 ((rd_T43 l0 x10_1).f2)] 43 (0, 0))) := ⟨yactTeachOrderx9_4_⟩
       have n3_ : Aside0 (Below w.heap.size w (((w33.setCell ⟨gb241, 0, none⟩ (.string ((rd_T43 l0 x10_1).f0))).setCell ⟨gb241, 1, none⟩ (.slice A240_1 ((rd_T43 l0 x10_1).f1).length c240_1)).setCell ⟨gb241, 2, none⟩ (.int .i64 ((rd_T43 l0 x10_1).f2)))) := ⟨hB_⟩
       (try clear BK38)
       (try clear BK39)
       (try clear BK241)
       (try clear HB)
       generalize (((w33.setCell ⟨gb241, 0, none⟩ (.string ((rd_T43 l0 x10_1).f0))).setCell ⟨gb241, 1, none⟩ (.slice A240_1 ((rd_T43 l0 x10_1).f1).length c240_1)).setCell ⟨gb241, 2, none⟩ (.int .i64 ((rd_T43 l0 x10_1).f2))) = w37 at n0_ n1_ n2_ n3_ ⊢
       have BK38 := n0_
       have BK39 := n1_
       have BK241 := n2_
       have HB := n3_
       clear n0_ n1_ n2_ n3_
       replace BK38 := aM_ (blk_drew BK38.out)
       replace BK39 := aM_ (blk_drew BK39.out)
       replace BK241 := aM_ (blk_drew BK241.out)
       replace HB := aM_ (below_drew1 HB.out)
       refine start_ (n := 17) (S := fun w' => True) (ds := []) bactTeachOrderx9_17_0 (by kernel_rfl) rfl rfl trivial (fun hHeld => ?_); refine with_tabW impl_mostUsed_impl_TeachOrder_1.tab5 impl_mostUsed_impl_TeachOrder_1.bits5 (fun HT_ HW_ => ?_)
       generalize w37.drew = w38 at BK38 BK39 BK241 HB hHeld ⊢
       refine pure_ (i := 0) (N := some 15) (v := ?_) (a' := ?_) bactTeachOrderx9_17_1 rfl rfl (any_of HT_.out (by kernel_rfl)) (fun _ _ _ h => h) (Or.inl ⟨by rfl, ?_⟩) ?_ ?_
       rotate_left
       ·intro w'
        go_simp
        with_reducible rfl
       rotate_left
       ·simp only [Act.put, List.setIfInBounds_toArray, List.set_cons_zero, List.set_cons_succ, i64_w, i32_w]
        rfl
       refine pure_ (i := 1) (N := some 16) (v := ?_) (a' := ?_) bactTeachOrderx9_17_3 rfl rfl (any_of HT_.out (by kernel_rfl)) (fun _ _ _ h => h) (Or.inl ⟨by rfl, ?_⟩) ?_ ?_
       rotate_left
       ·intro w'
        go_simp
        with_reducible rfl
       rotate_left
       ·simp only [Act.put, List.setIfInBounds_toArray, List.set_cons_zero, List.set_cons_succ, i64_w, i32_w]
        rfl
       refine one_ (i := 2) (N := some 17) bactTeachOrderx9_17_7 rfl rfl (one_of HT_.out (by kernel_rfl)) (by decide) (fun K hK => ?_)
       refine goesW_ Try.func30 (by kernel_rfl) rfl #[.int .i64 x10_1, .pointer (some ⟨g1_0, 0, none⟩), .pointer (some ⟨g1_1, 0, none⟩)] (by rfl) rfl rfl rfl aR_ ?_
       with_reducible refine (impl_TeachOrder_1.calls k1 x10_1 g1_0 A1_0 c1_0 l1_0 g1_1 A1_1 c1_1 l1_1 false _ ?side1 ?side2 ?side3 ?side4 ?side5 ?side6 A6.out).mono ?_
       (case side1 => repeat (first | exact (Kd.C_below HR1_0.out HB.out) | (with_reducible refine Kd.C_alloc ?_ _) | (with_reducible refine Kd.C_drewN ?_ _) | (with_reducible refine Kd.C_drew ?_)))
       (case side2 => exact HC1_0.out)
       (case side3 => repeat (first | exact (Kd.C_below HR1_1.out HB.out) | (with_reducible refine Kd.C_alloc ?_ _) | (with_reducible refine Kd.C_drewN ?_ _) | (with_reducible refine Kd.C_drew ?_)))
       (case side4 => exact HC1_1.out)
       (case side5 => (with_reducible repeat (first | apply kN_ | apply kD_ | apply kA_)); exact BK38.out)
       (case side6 => (with_reducible repeat (first | apply kN_ | apply kD_ | apply kA_)); exact BK39.out)
       rintro e w39 ⟨rfl, hb⟩
       refine ⟨_, rfl, ?_⟩
       replace BK38 := aM_ (blk_below (g := g1_0) (kR_ BK38) hb)
       replace BK39 := aM_ (blk_below (g := g1_1) (kR_ BK39) hb)
       replace BK241 := aM_ (blk_below (g := gb241) (kR_ BK241) hb)
       replace HB := aM_ (below_step hB_ hb)
       (try clear hb)
       (try clear hb2)
       (try clear hk)
       (try clear hi)
       refine hK.out _ _ trivial (fun hHeld => ?_)
       clear hK K
       refine norm_ (a' := ?_) ?_ ?_
       rotate_left
       ·show Act.put _ (some 17) _ = _
        simp only [Act.put, List.setIfInBounds_toArray, List.set_cons_zero, List.set_cons_succ, i64_w, i32_w]
        rfl
       refine pure_ (i := 3) (N := some 18) (v := ?_) (a' := ?_) bactTeachOrderx9_17_f rfl rfl (any_of HT_.out (by kernel_rfl)) (fun _ _ _ h => h) (Or.inl ⟨by rfl, ?_⟩) ?_ ?_
       rotate_left
       ·intro w'
        go_simp
        with_reducible rfl
       rotate_left
       ·simp only [Act.put, List.setIfInBounds_toArray, List.set_cons_zero, List.set_cons_succ, i64_w, i32_w]
        rfl
       refine pure_ (i := 4) (N := some 19) (v := undef) (a' := ?_) bactTeachOrderx9_17_1f rfl rfl (any_of HT_.out (by kernel_rfl)) (fun _ _ _ h => h) (Or.inr ⟨by rfl, rfl⟩) ?_ ?_
       rotate_left
       ·simp only [Act.put, List.setIfInBounds_toArray, List.set_cons_zero, List.set_cons_succ, i64_w, i32_w]
        rfl
       refine pure_ (i := 5) (N := some 20) (v := undef) (a' := ?_) bactTeachOrderx9_17_3f rfl rfl (any_of HT_.out (by kernel_rfl)) (fun _ _ _ h => h) (Or.inr ⟨by rfl, rfl⟩) ?_ ?_
       rotate_left
       ·simp only [Act.put, List.setIfInBounds_toArray, List.set_cons_zero, List.set_cons_succ, i64_w, i32_w]
        rfl
       refine pure_ (i := 6) (N := some 21) (v := undef) (a' := ?_) bactTeachOrderx9_17_7f rfl rfl (any_of HT_.out (by kernel_rfl)) (fun _ _ _ h => h) (Or.inr ⟨by rfl, rfl⟩) ?_ ?_
       rotate_left
       ·simp only [Act.put, List.setIfInBounds_toArray, List.set_cons_zero, List.set_cons_succ, i64_w, i32_w]
        rfl
       refine pure_ (i := 7) (N := some 22) (v := undef) (a' := ?_) bactTeachOrderx9_17_ff rfl rfl (any_of HT_.out (by kernel_rfl)) (fun _ _ _ h => h) (Or.inr ⟨by rfl, rfl⟩) ?_ ?_
       rotate_left
       ·simp only [Act.put, List.setIfInBounds_toArray, List.set_cons_zero, List.set_cons_succ, i64_w, i32_w]
        rfl
       refine pure_ (i := 8) (N := some 23) (v := undef) (a' := ?_) bactTeachOrderx9_17_1ff rfl rfl (any_of HT_.out (by kernel_rfl)) (fun _ _ _ h => h) (Or.inr ⟨by rfl, rfl⟩) ?_ ?_
       rotate_left
       ·simp only [Act.put, List.setIfInBounds_toArray, List.set_cons_zero, List.set_cons_succ, i64_w, i32_w]
        rfl
       refine pure_ (i := 9) (N := some 24) (v := undef) (a' := ?_) bactTeachOrderx9_17_3ff rfl rfl (any_of HT_.out (by kernel_rfl)) (fun _ _ _ h => h) (Or.inr ⟨by rfl, rfl⟩) ?_ ?_
       rotate_left
       ·simp only [Act.put, List.setIfInBounds_toArray, List.set_cons_zero, List.set_cons_succ, i64_w, i32_w]
        rfl
       refine pure_ (i := 10) (N := some 25) (v := undef) (a' := ?_) bactTeachOrderx9_17_7ff rfl rfl (any_of HT_.out (by kernel_rfl)) (fun _ _ _ h => h) (Or.inr ⟨by rfl, rfl⟩) ?_ ?_
       rotate_left
       ·simp only [Act.put, List.setIfInBounds_toArray, List.set_cons_zero, List.set_cons_succ, i64_w, i32_w]
        rfl
       refine pure_ (i := 11) (N := some 26) (v := undef) (a' := ?_) bactTeachOrderx9_17_fff rfl rfl (any_of HT_.out (by kernel_rfl)) (fun _ _ _ h => h) (Or.inr ⟨by rfl, rfl⟩) ?_ ?_
       rotate_left
       ·simp only [Act.put, List.setIfInBounds_toArray, List.set_cons_zero, List.set_cons_succ, i64_w, i32_w]
        rfl
       refine pure_ (i := 12) (N := some 27) (v := undef) (a' := ?_) bactTeachOrderx9_17_1fff rfl rfl (any_of HT_.out (by kernel_rfl)) (fun _ _ _ h => h) (Or.inr ⟨by rfl, rfl⟩) ?_ ?_
       rotate_left
       ·simp only [Act.put, List.setIfInBounds_toArray, List.set_cons_zero, List.set_cons_succ, i64_w, i32_w]
        rfl
       refine pure_ (i := 13) (N := some 28) (v := undef) (a' := ?_) bactTeachOrderx9_17_3fff rfl rfl (any_of HT_.out (by kernel_rfl)) (fun _ _ _ h => h) (Or.inr ⟨by rfl, rfl⟩) ?_ ?_
       rotate_left
       ·simp only [Act.put, List.setIfInBounds_toArray, List.set_cons_zero, List.set_cons_succ, i64_w, i32_w]
        rfl
       refine pure_ (i := 14) (N := some 29) (v := undef) (a' := ?_) bactTeachOrderx9_17_7fff rfl rfl (any_of HT_.out (by kernel_rfl)) (fun _ _ _ h => h) (Or.inr ⟨by rfl, rfl⟩) ?_ ?_
       rotate_left
       ·simp only [Act.put, List.setIfInBounds_toArray, List.set_cons_zero, List.set_cons_succ, i64_w, i32_w]
        rfl
       refine pure_ (i := 15) (N := some 30) (v := undef) (a' := ?_) bactTeachOrderx9_17_ffff rfl rfl (any_of HT_.out (by kernel_rfl)) (fun _ _ _ h => h) (Or.inr ⟨by rfl, rfl⟩) ?_ ?_
       rotate_left
       ·simp only [Act.put, List.setIfInBounds_toArray, List.set_cons_zero, List.set_cons_succ, i64_w, i32_w]
        rfl
       refine pure_ (i := 16) (N := some 31) (v := ?_) (a' := ?_) bactTeachOrderx9_17_1ffff rfl rfl (any_of HT_.out (by kernel_rfl)) (fun _ _ _ h => h) (Or.inl ⟨by rfl, ?_⟩) ?_ ?_
       rotate_left
       ·intro w'
        go_simp
        with_reducible rfl
       rotate_left
       ·simp only [Act.put, List.setIfInBounds_toArray, List.set_cons_zero, List.set_cons_succ, i64_w, i32_w]
        rfl
       refine done_ (done_of HT_.out (by kernel_rfl)) ?_
       try go_wp2
       go_roundg k1
       case measure => have := HK1.out; omega
       case rel => exact ⟨(x5_1), (wrap64 (x10_1 + 1)), yactTeachOrderx9_0_, yactTeachOrderx9_0_, H', ⟨by have := HK1.out; omega⟩, ⟨kP_⟩, ⟨kP_⟩, ⟨hB_⟩⟩
     ·rw [if_neg c5] at H
      exact absurd H (by simp)
    ·rw [if_neg c4] at H
     exact absurd H (by simp)
   ·rw [if_neg c3] at H
    have c3b0 : decide (x10_1 < (l0.length : Int)) = false := decide_eq_false c3
    clear c3
    obtain rfl := Option.some.inj H
    go_wp2
    go_ret
    exact ⟨rT_, hB_⟩

end Go.Proofs.Ytmongpocangocaa.PFnExactTeachOrder
