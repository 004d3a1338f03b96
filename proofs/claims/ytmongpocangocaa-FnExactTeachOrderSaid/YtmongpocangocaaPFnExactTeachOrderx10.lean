/- Written by a program of this claim's author, out of the loaded program as Lean prints it: the functions as Lean functions, and that the calls answer so. -/
import Derived.Test.YtmongpocangocaaPFnExactTeachOrderx0
import Derived.Test.YtmongpocangocaaPFnExactTeachOrderx1
import Derived.Test.YtmongpocangocaaPFnExactTeachOrderx2
import Derived.Test.YtmongpocangocaaPFnExactTeachOrderx5
import Derived.Test.YtmongpocangocaaPFnExactTeachOrderx7
import Derived.Test.YtmongpocangocaaPFnExactTeachOrderx9
import Derived.Test.YtmongpocangocaaPFnExactTeachOrderxD0
namespace Go.Proofs.Ytmongpocangocaa.PFnExactTeachOrder
open Go.RowKit Go.Proofs.YtmongpocangocaaW.PrintWords Go.Proofs.YtmongpocangocaaW.PrintLast Go.Proofs.YtmongpocangocaaW.PrintMore
attribute [local go_sem] max2_int min2_int max_two min_two max_three min_three max_four min_four isSome_setCell   -- for this text's walks alone
set_option linter.unusedVariables false
set_option linter.unusedSimpArgs false

theorem yactTeachOrderx10_0_ {p : Prop} (h : p := by first | exact Kd.R_nil _ _ _ _ _ | exact Kd.N_nil _ _ _ _ _ | exact Kd.V_nil _ _ _ _ _ | exact Kd.Q_nil _ _ _ _ _ | exact Kd.S_nil _ _ _ _ _) : p := h
theorem yactTeachOrderx10_1_ {p : Prop} (h : p := by (with_reducible repeat (first | apply Kd.R_alloc | apply Kd.R_drewN | apply Kd.R_drew)); exact HO_240000.out) : p := h
theorem yactTeachOrderx10_2_ {p : Prop} (h : p := by first | exact (below_size hB_) | omega) : p := h
theorem yactTeachOrderx10_3_ {p : Prop} (h : p := by (with_reducible repeat (first | apply Kd.S_alloc | apply Kd.S_drewN | apply Kd.S_drew)); exact HO247.out) : p := h
theorem yactTeachOrderx10_4_ {p : Prop} (h : p := by (with_reducible repeat (first | apply Kd.R_alloc | apply Kd.R_drewN | apply Kd.R_drew)); exact HO251.out) : p := h
theorem yactTeachOrderx10_5_ {p : Prop} (h : p := by first | rfl | (simp; done) | (simp [*]; done)) : p := h
theorem yactTeachOrderx10_6_ {p : Prop} (h : p := by (with_reducible repeat (first | apply Kd.R_alloc | apply Kd.R_drewN | apply Kd.R_drew)); exact Kd.R_mono HO251.out (fun _ hk => ⟨hk.1.2, ⟨hk.1.1.1.2, ⟨hk.1.1.2, hk.2⟩⟩⟩)) : p := h
theorem yactTeachOrderx10_7_ {p : Prop} (h : p := by (with_reducible repeat (first | apply Kd.S_alloc | apply Kd.S_drewN | apply Kd.S_drew)); exact Kd.S_mono HO254.out (fun _ hk => ⟨hk.1.1.2, ⟨hk.1.2, ⟨hk.1.1.1.1.2, hk.2⟩⟩⟩)) : p := h
theorem yactTeachOrderx10_8_ {p : Prop} (h : p := by (with_reducible repeat (first | apply Kd.R_alloc | apply Kd.R_drewN | apply Kd.R_drew)); exact Kd.R_mono HO258.out (fun _ hk => ⟨hk.2, hk.1.2⟩)) : p := h
theorem yactTeachOrderx10_9_ {p : Prop} (h : p := by (with_reducible repeat (first | apply Kd.R_alloc | apply Kd.R_drewN | apply Kd.R_drew)); exact HO_4.out) : p := h
theorem yactTeachOrderx10_10_ {p : Prop} (h : p := by (with_reducible repeat (first | apply Kd.S_alloc | apply Kd.S_drewN | apply Kd.S_drew)); exact HO_6.out) : p := h
theorem yactTeachOrderx10_11_ {p : Prop} (h : p := by (with_reducible repeat (first | apply Kd.R_alloc | apply Kd.R_drewN | apply Kd.R_drew)); exact HO_7.out) : p := h
theorem yactTeachOrderx10_12_ {p : Prop} (h : p := by (with_reducible repeat (first | apply Kd.S_alloc | apply Kd.S_drewN | apply Kd.S_drew)); exact HO262.out) : p := h
theorem yactTeachOrderx10_13_ {p : Prop} (h : p := by have := HJ8.out; first | omega | exact Nat.le_refl _) : p := h
theorem yactTeachOrderx10_14_ {p : Prop} (h : p := by (try simp only [List.map_toArray, List.map_cons, List.map_nil]); first | done | (rw [show t268.length = t255.length from (Kd.R_reads' HO_7.out).1.symm] <;> rfl) | rfl | (simp only [List.length_drop, List.length_take]; rfl)) : p := h
theorem yactTeachOrderx10_15_ {p : Prop} (h : p := by (with_reducible repeat (first | apply Kd.R_alloc | apply Kd.R_drewN | apply Kd.R_drew)); exact Kd.R_mono HO_7.out (fun _ hk => ⟨hk.1.1.1.2.1, ⟨hk.1.1.1.2.2, ⟨hk.1.1.2, hk.2⟩⟩⟩)) : p := h
/-! ### impl_TeachOrder: function 15 -/
set_option maxHeartbeats 8000000 in
set_option maxRecDepth 100000 in
theorem impl_TeachOrder.calls (k : Nat) (A0 : Option Addr) (c0 : Nat) (l0 : List (S43)) (r1 : List Int) (r2 : Bool) (w : World) (hr0 : Kd.C k43 w A0 l0.length l0) (hc0 : l0.length ≤ c0) (h : impl_TeachOrder.f k l0 = some (r1, r2)) :
 Calls Try.prog 15 #[.slice A0 l0.length c0] w fun e w' => ∃ v0_ : Value, e = .returned (.tuple #[v0_, .bool r2]) ∧ Kd.R (Kd.int .i64) 3 w' w.heap.size (fun _ => True) v0_ r1 ∧ Below w.heap.size w w' := by
 have hu27 := Try.underlying27
 have hu24 := Try.underlying24
 have HR0 := Aside0.mk hr0
 have HC0 := Aside0.mk hc0
 clear hr0 hc0
 have HB := Aside0.mk (Below.refl w.heap.size w)
 have H : ((impl_AreWords.f k l0).bind fun t238 => (if t238 = true then (impl_TeachOrder.l0 k l0 ([] : List Int)) else (some (([] : List Int), false)))) = some (r1, r2) := h
 clear h
 replace H := Option.bind_eq_some_iff.mp H
 obtain ⟨t238, A20, H⟩ := H
 try dsimp only at H
 have A2 := Aside0.mk A20
 clear A20
 by_cases c3 : t238 = true
 ·subst c3
  replace H := ip_ H rfl
  have H' := Aside0.mk H
  clear H
  go_enter Try.func15, Try.ntmps15
  go_wp2_with (first | ((with_reducible refine gate_dst (N := 1) rfl ?_); refine box_event ?hg (N := 1) ?hd (cs := #[.slice A0 l0.length c0]) (t := 27) ?hr ?_; (case hd => rfl); (case hg => rfl); (case hr => first | (go_simp; done) | (go_simp; rfl)); intro gb237 hg w4 hbox hb; have BK237 := aM_ (hbox); have GW237 := aM_ (gw_ w hg); have GE237 := aM_ (gw_ w hg); replace HB := aM_ (below_step hB_ hb); clear hb hbox hg; have hz5 := cf1_ BK237.out) | ((with_reducible refine gate_callee (f := 22) rfl ?_); refine goesM_ (some 7) Try.func22 #[.slice A0 l0.length c0] ?_; (with_reducible refine (impl_AreWords.calls k _ _ l0 true _ ?side1 ?side2 A2.out).mono ?_); (case side1 => repeat (first | exact (Kd.C_below HR0.out HB.out) | (with_reducible refine Kd.C_alloc ?_ _) | (with_reducible refine Kd.C_drewN ?_ _) | (with_reducible refine Kd.C_drew ?_))); (case side2 => exact HC0.out); rintro e w6 ⟨rfl, hb⟩; refine ⟨_, rfl, ?_⟩; replace BK237 := aM_ (blk_below (g := gb237) (kR_ BK237) hb); replace HB := aM_ (below_step hB_ hb); (try clear hb); (try clear hb2); (try clear hk); (try clear hi)) | ((with_reducible refine gate_dst (N := 4) rfl ?_); refine box_event ?hg (N := 4) ?hd (cs := #[.slice none 0 0]) (t := 24) ?hr ?_; (case hd => rfl); (case hg => rfl); (case hr => first | (go_simp; done) | (go_simp; rfl)); intro gb239 hg w7 hbox hb; have BK239 := aM_ (hbox); have GW239 := aM_ (gw_ w hg); have GE239 := aM_ (gw_ w hg); have NB237_239 := aM_ (nR_ BK237 hg); have NB239_237 := aM_ (mR_ BK237 hg); replace BK237 := aM_ (blk_below (g := gb237) (kR_ BK237) hb); replace HB := aM_ (below_step hB_ hb); clear hb hbox hg))
  try simp only [Act.put, List.setIfInBounds_toArray, List.set_cons_zero, List.set_cons_succ]
  go_loopg [] k (fun kq w' => ∃ (x240000_1 : List Int) (u240000 : Value), Aside0 (impl_TeachOrder.l0 kq l0 x240000_1 = some (r1, r2)) ∧ Aside0 (kq ≤ k) ∧ Aside0 (Kd.R (Kd.int .i64) 3 w' w.heap.size (fun _ => True) u240000 x240000_1) ∧ Aside0 (w'.heap[gb237]? = some (.cells #[(.slice A0 l0.length c0)] 27 (0, 0))) ∧ Aside0 (w'.heap[gb239]? = some (.cells #[u240000] 24 (0, 0))) ∧ Aside0 (Below w.heap.size w w'))
  case atStart => exact ⟨(([] : List Int)), (.slice none 0 0), H', ⟨Nat.le_refl _⟩, ⟨yactTeachOrderx10_0_⟩, ⟨kP_⟩, ⟨kP_⟩, ⟨hB_⟩⟩
  case round =>
   clear H'
   (try clear c3);(try clear hcz5_0);(try clear hfz5_0)
   obtain ⟨x240000_1, u240000, HA, HK1, HO_240000, BK237, BK239, HB⟩ := hrel
   cases gk with
   | zero => exact absurd HA.out (by simp [impl_TeachOrder.l0])
   | succ k1 =>
    have H := HA.out
    clear HA
    simp only [impl_TeachOrder.l0] at H
    by_cases c8 : (x240000_1.length : Int) < (l0.length : Int)
    ·rw [if_pos c8] at H
     have c8b0 : decide ((x240000_1.length : Int) < (l0.length : Int)) = true := decide_eq_true c8
     have c8b1 : decide (x240000_1.length < l0.length) = true := decide_eq_true (Int.ofNat_lt.mp c8)
     clear c8
     replace H := Option.bind_eq_some_iff.mp H
     obtain ⟨t240, A90, H⟩ := H
     try dsimp only at H
     have A9 := Aside0.mk A90
     clear A90
     by_cases c10 : t240 < 0
     ·rw [if_pos c10] at H
      have c10b0 : decide (t240 < 0) = true := decide_eq_true c10
      clear c10
      simp only [Option.some.injEq, Prod.mk.injEq] at H
      obtain ⟨rfl, rfl⟩ := H
      have hnb11 := NB239_237.out
      have hnc11 := NB237_239.out
      have hz12 := cf1_ BK239.out
      obtain ⟨Ao13, co13, eo13⟩ := Kd.R_slice HO_240000.out
      subst eo13
      have hz14 := cf1_ BK237.out
      go_wp2_with (first | ((with_reducible refine gate_callee (f := 29) rfl ?_); refine goesM_ (some 16) Try.func29 #[.slice A0 l0.length c0, .func (.func 30) #[] #[.pointer (some ⟨gb239, 0, none⟩), .pointer (some ⟨gb237, 0, none⟩)]] ?_; (with_reducible refine (impl_mostUsed_impl_TeachOrder_1.calls k1 _ _ l0 gb239 gb237 Ao13 co13 x240000_1 A0 c0 l0 t240 _ ?side1 ?side2 ?side3 ?side4 ?side5 ?side6 ?side7 ?side8 A9.out).mono ?_); (case side1 => repeat (first | exact (Kd.C_below HR0.out HB.out) | (with_reducible refine Kd.C_alloc ?_ _) | (with_reducible refine Kd.C_drewN ?_ _) | (with_reducible refine Kd.C_drew ?_))); (case side2 => exact HC0.out); (case side3 => repeat (first | exact (Kd.R_reads' HO_240000.out).2.2 | (with_reducible refine Kd.C_alloc ?_ _) | (with_reducible refine Kd.C_drewN ?_ _) | (with_reducible refine Kd.C_drew ?_))); (case side4 => exact (Kd.R_reads' HO_240000.out).2.1); (case side5 => repeat (first | exact (Kd.C_below HR0.out HB.out) | (with_reducible refine Kd.C_alloc ?_ _) | (with_reducible refine Kd.C_drewN ?_ _) | (with_reducible refine Kd.C_drew ?_))); (case side6 => exact HC0.out); (case side7 => (with_reducible repeat (first | apply kN_ | apply kD_ | apply kA_)); exact BK239.out); (case side8 => (with_reducible repeat (first | apply kN_ | apply kD_ | apply kA_)); exact BK237.out); rintro e w15 ⟨rfl, hb⟩; refine ⟨_, rfl, ?_⟩; replace HO_240000 := aM_ (Kd.R_below yactTeachOrderx10_1_ hb); replace BK237 := aM_ (blk_below (g := gb237) (kR_ BK237) hb); replace BK239 := aM_ (blk_below (g := gb239) (kR_ BK239) hb); replace HB := aM_ (below_step hB_ hb); (try clear hb); (try clear hb2); (try clear hk); (try clear hi)))
      go_ret2
      exact ⟨_, rT_, yactTeachOrderx10_0_, hB_⟩
     ·rw [if_neg c10] at H
      have c10b0 : decide (t240 < 0) = false := decide_eq_false c10
      clear c10
      by_cases c16 : x240000_1.length < 17592186044416
      ·rw [if_pos c16] at H
       have LMc16 := Aside0.mk c16
       clear c16
       obtain ⟨y241, hy241⟩ : ∃ y_ : List Int, y_ = (x240000_1 ++ [t240]) := ⟨_, rfl⟩
       replace H : (impl_TeachOrder.l0 k1 l0 y241) = some (r1, r2) := by first | (rw [hy241]; with_reducible exact H) | (have H2_ := (Option.bind_some _ _).symm.trans H; rw [hy241]; with_reducible exact H2_) | (have H2_ := (Option.bind_some _ _).symm.trans H; with_reducible exact H2_) | with_reducible exact H | (rw [hy241]; exact H) | exact H
       have Ny241 := Aside0.mk hy241
       clear hy241
       have H' := Aside0.mk H
       clear H
       have hnb17 := NB239_237.out
       have hnc17 := NB237_239.out
       have hz18 := cf1_ BK239.out
       obtain ⟨Ao19, co19, eo19⟩ := Kd.R_slice HO_240000.out
       subst eo19
       have hz20 := cf1_ BK237.out
       go_wp2_with (first | ((with_reducible refine gate_callee (f := 29) rfl ?_); refine goesM_ (some 16) Try.func29 #[.slice A0 l0.length c0, .func (.func 30) #[] #[.pointer (some ⟨gb239, 0, none⟩), .pointer (some ⟨gb237, 0, none⟩)]] ?_; (with_reducible refine (impl_mostUsed_impl_TeachOrder_1.calls k1 _ _ l0 gb239 gb237 Ao19 co19 x240000_1 A0 c0 l0 t240 _ ?side1 ?side2 ?side3 ?side4 ?side5 ?side6 ?side7 ?side8 A9.out).mono ?_); (case side1 => repeat (first | exact (Kd.C_below HR0.out HB.out) | (with_reducible refine Kd.C_alloc ?_ _) | (with_reducible refine Kd.C_drewN ?_ _) | (with_reducible refine Kd.C_drew ?_))); (case side2 => exact HC0.out); (case side3 => repeat (first | exact (Kd.R_reads' HO_240000.out).2.2 | (with_reducible refine Kd.C_alloc ?_ _) | (with_reducible refine Kd.C_drewN ?_ _) | (with_reducible refine Kd.C_drew ?_))); (case side4 => exact (Kd.R_reads' HO_240000.out).2.1); (case side5 => repeat (first | exact (Kd.C_below HR0.out HB.out) | (with_reducible refine Kd.C_alloc ?_ _) | (with_reducible refine Kd.C_drewN ?_ _) | (with_reducible refine Kd.C_drew ?_))); (case side6 => exact HC0.out); (case side7 => (with_reducible repeat (first | apply kN_ | apply kD_ | apply kA_)); exact BK239.out); (case side8 => (with_reducible repeat (first | apply kN_ | apply kD_ | apply kA_)); exact BK237.out); rintro e w21 ⟨rfl, hb⟩; refine ⟨_, rfl, ?_⟩; replace HO_240000 := aM_ (Kd.R_below yactTeachOrderx10_1_ hb); replace BK237 := aM_ (blk_below (g := gb237) (kR_ BK237) hb); replace BK239 := aM_ (blk_below (g := gb239) (kR_ BK239) hb); replace HB := aM_ (below_step hB_ hb); (try clear hb); (try clear hb2); (try clear hk); (try clear hi); have hz22 := cf1_ BK239.out) | ((with_reducible refine gate_builtin (b := .append) (xs := #[.tmp 19, .tmp 21]) rfl ?_); at_builtin; refine Kd.R_append (Kd.int .i64) (w0 := w) w.heap.size rfl (.tmp 19) (.tmp 21) 24 3 (.int .i64 0) 8 rfl Try.underlying24 info3 rfl (by decide) (by omega) (.slice Ao19 x240000_1.length co19) x240000_1 t240 [.int .i64 t240] (fun _ => True) (fun _ => False) rfl rfl ?aP (fun _ hk => hk.elim) ?aF ?aO ?aB ?aS ?aL ?_; (case aP => exact rfl); (case aB => exact hB_); (case aF => exact (fun _ _ => trivial)); (case aO => exact yactTeachOrderx10_1_); (case aS => exact (below_size hB_)); (case aL => have := LMc16.out; omega); intro v242 w23 ho hb hg hat; rw [← Ny241.out] at ho; have HO243 := aM_ (ho); replace BK237 := aM_ (blk_grown (g := gb237) (kR_ BK237) hg (Kd.R_ne HO_240000.out BK237.out (by decide))); replace BK239 := aM_ (blk_grown (g := gb239) (kR_ BK239) hg (Kd.R_ne HO_240000.out BK239.out (by decide))); replace HB := aM_ (hb); clear HO_240000; clear ho hb hg hat; obtain ⟨Ao24, co24, eo24⟩ := Kd.R_slice HO243.out; subst eo24; have hz25 := cf1_ BK239.out))
       go_roundg k1
       case measure => have := HK1.out; omega
       case rel => exact ⟨(y241), (.slice Ao24 y241.length co24), H', ⟨by have := HK1.out; omega⟩, ⟨by (with_reducible repeat (first | apply Kd.R_alloc | apply Kd.R_drewN | apply Kd.R_drew)); exact Kd.R_mono (Kd.R_far (p := ⟨gb239, 0, none⟩) (Kd.R_types HO243.out BK239.out (by decide)) (fun _ hk => hk.2) (.slice Ao24 y241.length co24)) (fun _ hk => trivial)⟩, ⟨by (with_reducible repeat (first | apply kN_ | apply kD_ | apply kA_)); refine blk_far ?_ NB237_239.out _; (with_reducible repeat (first | apply kN_ | apply kD_ | apply kA_)); exact BK237.out⟩, ⟨by (with_reducible repeat (first | apply kN_ | apply kD_ | apply kA_)); refine blk_put (cs := #[.slice Ao19 x240000_1.length co19]) ?_ 0 _ rfl; (with_reducible repeat (first | apply kN_ | apply kD_ | apply kA_)); exact BK239.out⟩, ⟨hB_⟩⟩
      ·rw [if_neg c16] at H
       exact absurd H (by simp)
    ·rw [if_neg c8] at H
     have c8b0 : decide ((x240000_1.length : Int) < (l0.length : Int)) = false := decide_eq_false c8
     have c8b1 : decide (x240000_1.length < l0.length) = false := decide_eq_false (fun h => c8 (Int.ofNat_lt.mpr h))
     clear c8
     simp only [Option.some.injEq, Prod.mk.injEq] at H
     obtain ⟨rfl, rfl⟩ := H
     have hnb26 := NB239_237.out
     have hnc26 := NB237_239.out
     have hz27 := cf1_ BK239.out
     obtain ⟨Ao28, co28, eo28⟩ := Kd.R_slice HO_240000.out
     subst eo28
     have hz29 := cf1_ BK237.out
     clear BK237
     go_wp2
     go_ret2
     exact ⟨_, rT_, yactTeachOrderx10_1_, hB_⟩
 ·replace c3 := Bool.eq_false_iff.mpr c3
  subst c3
  replace H := in_ H (show ¬ (false = true) by decide)
  simp only [Option.some.injEq, Prod.mk.injEq] at H
  obtain ⟨rfl, rfl⟩ := H
  go_enter Try.func15, Try.ntmps15
  go_wp2_with (first | ((with_reducible refine gate_dst (N := 1) rfl ?_); refine box_event ?hg (N := 1) ?hd (cs := #[.slice A0 l0.length c0]) (t := 27) ?hr ?_; (case hd => rfl); (case hg => rfl); (case hr => first | (go_simp; done) | (go_simp; rfl)); intro gb237 hg w30 hbox hb; have BK237 := aM_ (hbox); have GW237 := aM_ (gw_ w hg); have GE237 := aM_ (gw_ w hg); replace HB := aM_ (below_step hB_ hb); clear hb hbox hg; have hz31 := cf1_ BK237.out; clear BK237) | ((with_reducible refine gate_callee (f := 22) rfl ?_); refine goesM_ (some 7) Try.func22 #[.slice A0 l0.length c0] ?_; (with_reducible refine (impl_AreWords.calls k _ _ l0 false _ ?side1 ?side2 A2.out).mono ?_); (case side1 => repeat (first | exact (Kd.C_below HR0.out HB.out) | (with_reducible refine Kd.C_alloc ?_ _) | (with_reducible refine Kd.C_drewN ?_ _) | (with_reducible refine Kd.C_drew ?_))); (case side2 => exact HC0.out); rintro e w32 ⟨rfl, hb⟩; refine ⟨_, rfl, ?_⟩; replace HB := aM_ (below_step hB_ hb); (try clear hb); (try clear hb2); (try clear hk); (try clear hi)))
  go_ret2
  exact ⟨_, rT_, yactTeachOrderx10_0_, hB_⟩

/-! ### laws_FnExactTeachOrder: function 4 -/
set_option maxHeartbeats 8000000 in
set_option maxRecDepth 100000 in
theorem laws_FnExactTeachOrder.calls (k : Nat) (A0 : Option Addr) (c0 : Nat) (l0 : List (S38)) (r : Bool) (w : World) (hr0 : Kd.C k38 w A0 l0.length l0) (hc0 : l0.length ≤ c0) (h : laws_FnExactTeachOrder.f k l0 = some r) :
 Calls Try.prog 4 #[.slice A0 l0.length c0] w fun e w' => e = .returned (.bool r) ∧ Below w.heap.size w w' := by
 have HR0 := Aside0.mk hr0
 have HC0 := Aside0.mk hc0
 clear hr0 hc0
 have HB := Aside0.mk (Below.refl w.heap.size w)
 have H : ((laws_szWordS.f k l0 1048576).bind fun t244 => (if t244 < 0 then (some true) else ((laws_toWordS.f k l0).bind fun t245 => ((spec_TeachOrder.f k t245).bind fun bt248 => ((laws_toWordS.f k l0).bind fun t252 => ((impl_TeachOrder.f k t252).bind fun bt255 => ((laws_eqIntS.f k bt255.1 bt248.1).bind fun t259 => (if t259 = true then (laws_FnExactTeachOrder.j0 k l0 bt248.1 bt248.2 t252 bt255.1 bt255.2 (bt255.2 != bt248.2)) else (laws_FnExactTeachOrder.j0 k l0 bt248.1 bt248.2 t252 bt255.1 bt255.2 true))))))))) = some r := h
 clear h
 replace H := Option.bind_eq_some_iff.mp H
 obtain ⟨t244, A20, H⟩ := H
 try dsimp only at H
 have A2 := Aside0.mk A20
 clear A20
 by_cases c3 : t244 < 0
 ·rw [if_pos c3] at H
  have c3b0 : decide (t244 < 0) = true := decide_eq_true c3
  clear c3
  obtain rfl := Option.some.inj H
  go_enter Try.func4, Try.ntmps4
  go_wp2_with (first | ((with_reducible refine gate_callee (f := 5) rfl ?_); refine goesM_ (some 16) Try.func5 #[.slice A0 l0.length c0, .int .i64 1048576] ?_; (with_reducible refine (laws_szWordS.calls k _ _ l0 1048576 t244 _ ?side1 ?side2 A2.out).mono ?_); (case side1 => repeat (first | exact HR0.out | (with_reducible refine Kd.C_alloc ?_ _) | (with_reducible refine Kd.C_drewN ?_ _) | (with_reducible refine Kd.C_drew ?_))); (case side2 => exact HC0.out); rintro e w4 ⟨rfl, hb⟩; refine ⟨_, rfl, ?_⟩; replace HB := aM_ (below_step hB_ hb); (try clear hb); (try clear hb2); (try clear hk); (try clear hi)))
  go_ret
  exact ⟨rT_, hB_⟩
 ·rw [if_neg c3] at H
  have c3b0 : decide (t244 < 0) = false := decide_eq_false c3
  clear c3
  replace H := Option.bind_eq_some_iff.mp H
  obtain ⟨t245, A50, H⟩ := H
  try dsimp only at H
  have A5 := Aside0.mk A50
  clear A50
  replace H := Option.bind_eq_some_iff.mp H
  obtain ⟨⟨t248, t249⟩, A60, H⟩ := H
  try dsimp only at H
  have A6 := Aside0.mk A60
  clear A60
  replace H := Option.bind_eq_some_iff.mp H
  obtain ⟨t252, A70, H⟩ := H
  try dsimp only at H
  have A7 := Aside0.mk A70
  clear A70
  replace H := Option.bind_eq_some_iff.mp H
  obtain ⟨⟨t255, t256⟩, A80, H⟩ := H
  try dsimp only at H
  have A8 := Aside0.mk A80
  clear A80
  have HC9 := Aside0.mk H
  clear H
  go_enter Try.func4, Try.ntmps4
  go_upto_region 8 with (first | ((with_reducible refine gate_callee (f := 5) rfl ?_); refine goesM_ (some 16) Try.func5 #[.slice A0 l0.length c0, .int .i64 1048576] ?_; (with_reducible refine (laws_szWordS.calls k _ _ l0 1048576 t244 _ ?side1 ?side2 A2.out).mono ?_); (case side1 => repeat (first | exact HR0.out | (with_reducible refine Kd.C_alloc ?_ _) | (with_reducible refine Kd.C_drewN ?_ _) | (with_reducible refine Kd.C_drew ?_))); (case side2 => exact HC0.out); rintro e w10 ⟨rfl, hb⟩; refine ⟨_, rfl, ?_⟩; replace HB := aM_ (below_step hB_ hb); (try clear hb); (try clear hb2); (try clear hk); (try clear hi)) | ((with_reducible refine gate_callee (f := 7) rfl ?_); refine goesM_ (some 21) Try.func7 #[.slice A0 l0.length c0] ?_; (with_reducible refine (laws_toWordS.calls k _ _ l0 t245 _ ?side1 ?side2 A5.out).mono ?_); (case side1 => repeat (first | exact (Kd.C_below HR0.out HB.out) | (with_reducible refine Kd.C_alloc ?_ _) | (with_reducible refine Kd.C_drewN ?_ _) | (with_reducible refine Kd.C_drew ?_))); (case side2 => exact HC0.out); rintro e w11 ⟨v246, rfl, ho0, hb⟩; refine ⟨_, rfl, ?_⟩; obtain ⟨lq12, hL_, q3_⟩ := Kd.letter_ (w := w) hb yactTeachOrderx10_2_; have Hlq12 := Aside0.mk q3_; have HO247 := aM_ (Kd.S_lower (Kd.S_geL hL_ ho0) (below_size hB_)); replace HB := aM_ (below_step hB_ hb); (try clear hL_ q3_); (try clear hb); (try clear hb2); (try clear hk); (try clear hi); (try clear ho0); obtain ⟨Ao13, co13, eo13⟩ := Kd.S_slice HO247.out; subst eo13) | ((with_reducible refine gate_callee (f := 14) rfl ?_); refine goesM_ (some 22) Try.func14 #[.slice Ao13 t245.length co13] ?_; (with_reducible refine (spec_TeachOrder.calls k _ _ t245 t248 t249 _ ?side1 ?side2 A6.out).mono ?_); (case side1 => repeat (first | exact (Kd.S_reads' HO247.out).2.2 | (with_reducible refine Kd.C_alloc ?_ _) | (with_reducible refine Kd.C_drewN ?_ _) | (with_reducible refine Kd.C_drew ?_))); (case side2 => exact (Kd.S_reads' HO247.out).2.1); rintro e w14 ⟨v250, rfl, ho0, hb⟩; refine ⟨_, rfl, ?_⟩; obtain ⟨lq15, hL_, q3_⟩ := Kd.letter_ (w := w) hb yactTeachOrderx10_2_; have Hlq15 := Aside0.mk q3_; have HO251 := aM_ (Kd.R_lower (Kd.R_geL hL_ ho0) (below_size hB_)); replace HO247 := aM_ (Kd.S_ltL hL_ (Kd.S_told (Kd.S_old yactTeachOrderx10_3_ hb) (Kd.R_base ho0))); replace HB := aM_ (below_step hB_ hb); (try clear hL_ q3_); (try clear hb); (try clear hb2); (try clear hk); (try clear hi); (try clear ho0)) | ((with_reducible refine gate_callee (f := 7) rfl ?_); refine goesM_ (some 26) Try.func7 #[.slice A0 l0.length c0] ?_; (with_reducible refine (laws_toWordS.calls k _ _ l0 t252 _ ?side1 ?side2 A7.out).mono ?_); (case side1 => repeat (first | exact (Kd.C_below HR0.out HB.out) | (with_reducible refine Kd.C_alloc ?_ _) | (with_reducible refine Kd.C_drewN ?_ _) | (with_reducible refine Kd.C_drew ?_))); (case side2 => exact HC0.out); rintro e w16 ⟨v253, rfl, ho0, hb⟩; refine ⟨_, rfl, ?_⟩; obtain ⟨lq17, hL_, q3_⟩ := Kd.letter_ (w := w) hb yactTeachOrderx10_2_; have Hlq17 := Aside0.mk q3_; have HO254 := aM_ (Kd.S_lower (Kd.S_new' (Kd.S_new' (Kd.S_geL hL_ ho0) (Kd.S_lt yactTeachOrderx10_3_)) (Kd.R_lt yactTeachOrderx10_4_)) (below_size hB_)); replace HO247 := aM_ (Kd.S_ltL hL_ (Kd.S_told (Kd.S_old yactTeachOrderx10_3_ hb) (Kd.S_base ho0))); replace HO251 := aM_ (Kd.R_ltL hL_ (Kd.R_old yactTeachOrderx10_4_ hb)); replace HB := aM_ (below_step hB_ hb); (try clear hL_ q3_); (try clear hb); (try clear hb2); (try clear hk); (try clear hi); (try clear ho0); obtain ⟨Ao18, co18, eo18⟩ := Kd.S_slice HO254.out; subst eo18) | ((with_reducible refine gate_callee (f := 15) rfl ?_); refine goesM_ (some 29) Try.func15 #[.slice Ao18 t252.length co18] ?_; (with_reducible refine (impl_TeachOrder.calls k _ _ t252 t255 t256 _ ?side1 ?side2 A8.out).mono ?_); (case side1 => repeat (first | exact (Kd.S_reads' HO254.out).2.2 | (with_reducible refine Kd.C_alloc ?_ _) | (with_reducible refine Kd.C_drewN ?_ _) | (with_reducible refine Kd.C_drew ?_))); (case side2 => exact (Kd.S_reads' HO254.out).2.1); rintro e w19 ⟨v257, rfl, ho0, hb⟩; refine ⟨_, rfl, ?_⟩; obtain ⟨lq20, hL_, q3_⟩ := Kd.letter_ (w := w) hb yactTeachOrderx10_2_; have Hlq20 := Aside0.mk q3_; have HO258 := aM_ (Kd.R_lower (Kd.R_new' (Kd.R_geL hL_ ho0) (Kd.R_lt yactTeachOrderx10_4_)) (below_size hB_)); replace HO247 := aM_ (Kd.S_ltL hL_ (Kd.S_told (Kd.S_old yactTeachOrderx10_3_ hb) (Kd.R_base ho0))); replace HO251 := aM_ (Kd.R_ltL hL_ (Kd.R_told (Kd.R_old yactTeachOrderx10_4_ hb) (Kd.R_base ho0))); replace HO254 := aM_ (Kd.S_ltL hL_ (Kd.S_told (Kd.S_old (by (with_reducible repeat (first | apply Kd.S_alloc | apply Kd.S_drewN | apply Kd.S_drew)); exact HO254.out) hb) (Kd.R_base ho0))); replace HB := aM_ (below_step hB_ hb); (try clear hL_ q3_); (try clear hb); (try clear hb2); (try clear hk); (try clear hi); (try clear ho0)))
  (try simp only [Act.put, List.setIfInBounds_toArray, List.set_cons_zero, List.set_cons_succ])
  go_cut [40] (fun v40 wc => ∃ (kq : Nat) (x40_8 : Bool), v40 = .bool x40_8 ∧ Aside0 (laws_FnExactTeachOrder.j0 kq l0 t248 t249 t252 t255 t256 x40_8 = some r) ∧ Aside0 (kq ≤ k) ∧ Aside0 (Kd.R (Kd.int .i64) 3 wc w.heap.size (fun k_ => some k_ ≠ (v257 : Value).ownBlock ∧ lq15 ≤ k_ ∧ k_ < lq17 ∧ k_ < lq20) v250 t248) ∧ Aside0 (Kd.S k43 43 wc w.heap.size (fun k_ => some k_ ≠ (v250 : Value).ownBlock ∧ some k_ ≠ (v257 : Value).ownBlock ∧ lq17 ≤ k_ ∧ k_ < lq20) (.slice Ao18 t252.length co18) t252) ∧ Aside0 (Kd.R (Kd.int .i64) 3 wc w.heap.size (fun k_ => some k_ ≠ (v250 : Value).ownBlock ∧ lq20 ≤ k_) v257 t255) ∧ Aside0 (Below w.heap.size w wc))
  case first =>
   have H := HC9.out
   clear HC9
   replace H := Option.bind_eq_some_iff.mp H
   obtain ⟨t259, A210, H⟩ := H
   try dsimp only at H
   have A21 := Aside0.mk A210
   clear A210
   by_cases c22 : t259 = true
   ·subst c22
    replace H := ip_ H rfl
    have H' := Aside0.mk H
    clear H
    obtain ⟨Ao23, co23, eo23⟩ := Kd.R_slice HO258.out
    subst eo23
    obtain ⟨Ao24, co24, eo24⟩ := Kd.R_slice HO251.out
    subst eo24
    go_wp2_with (first | ((with_reducible refine gate_callee (f := 9) rfl ?_); refine goesM_ (some 34) Try.func9 #[.slice Ao23 t255.length co23, .slice Ao24 t248.length co24] ?_; (with_reducible refine (laws_eqIntS.calls k _ _ t255 _ _ t248 true _ ?side1 ?side2 ?side3 ?side4 A21.out).mono ?_); (case side1 => repeat (first | exact (Kd.R_reads' HO258.out).2.2 | (with_reducible refine Kd.C_alloc ?_ _) | (with_reducible refine Kd.C_drewN ?_ _) | (with_reducible refine Kd.C_drew ?_))); (case side2 => exact (Kd.R_reads' HO258.out).2.1); (case side3 => repeat (first | exact (Kd.R_reads' HO251.out).2.2 | (with_reducible refine Kd.C_alloc ?_ _) | (with_reducible refine Kd.C_drewN ?_ _) | (with_reducible refine Kd.C_drew ?_))); (case side4 => exact (Kd.R_reads' HO251.out).2.1); rintro e w' ⟨rfl, ⟨nd, rfl⟩⟩; refine ⟨_, rfl, ?_⟩))
    go_meet
    case rel => exact ⟨_, ((t256 != t249)), yactTeachOrderx10_5_, H', ⟨oR_⟩, ⟨yactTeachOrderx10_6_⟩, ⟨yactTeachOrderx10_7_⟩, ⟨yactTeachOrderx10_8_⟩, ⟨hB_⟩⟩
   ·replace c22 := Bool.eq_false_iff.mpr c22
    subst c22
    replace H := in_ H (show ¬ (false = true) by decide)
    have H' := Aside0.mk H
    clear H
    obtain ⟨Ao25, co25, eo25⟩ := Kd.R_slice HO258.out
    subst eo25
    obtain ⟨Ao26, co26, eo26⟩ := Kd.R_slice HO251.out
    subst eo26
    go_wp2_with (first | ((with_reducible refine gate_callee (f := 9) rfl ?_); refine goesM_ (some 34) Try.func9 #[.slice Ao25 t255.length co25, .slice Ao26 t248.length co26] ?_; (with_reducible refine (laws_eqIntS.calls k _ _ t255 _ _ t248 false _ ?side1 ?side2 ?side3 ?side4 A21.out).mono ?_); (case side1 => repeat (first | exact (Kd.R_reads' HO258.out).2.2 | (with_reducible refine Kd.C_alloc ?_ _) | (with_reducible refine Kd.C_drewN ?_ _) | (with_reducible refine Kd.C_drew ?_))); (case side2 => exact (Kd.R_reads' HO258.out).2.1); (case side3 => repeat (first | exact (Kd.R_reads' HO251.out).2.2 | (with_reducible refine Kd.C_alloc ?_ _) | (with_reducible refine Kd.C_drewN ?_ _) | (with_reducible refine Kd.C_drew ?_))); (case side4 => exact (Kd.R_reads' HO251.out).2.1); rintro e w' ⟨rfl, ⟨nd, rfl⟩⟩; refine ⟨_, rfl, ?_⟩))
    go_meet
    case rel => exact ⟨_, (true), yactTeachOrderx10_5_, H', ⟨oR_⟩, ⟨yactTeachOrderx10_6_⟩, ⟨yactTeachOrderx10_7_⟩, ⟨yactTeachOrderx10_8_⟩, ⟨hB_⟩⟩
  case rest =>
   clear HC9
   (try clear c3);(try clear c3b0);(try clear HB)
   obtain ⟨kq, x40_8, rfl, HA, HJ8, HO_4, HO_6, HO_7, HB⟩ := hcut
   cases kq with
   | zero => exact absurd HA.out (by simp [laws_FnExactTeachOrder.j0])
   | succ kj8 =>
    have H := HA.out
    clear HA
    simp only [laws_FnExactTeachOrder.j0] at H
    by_cases c27 : x40_8 = true
    ·subst c27
     replace H := ip_ H rfl
     obtain rfl := Option.some.inj H
     go_wp2
     go_ret
     exact ⟨rT_, hB_⟩
    ·replace c27 := Bool.eq_false_iff.mpr c27
     subst c27
     replace H := in_ H (show ¬ (false = true) by decide)
     replace H := Option.bind_eq_some_iff.mp H
     obtain ⟨t260, A280, H⟩ := H
     try dsimp only at H
     have A28 := Aside0.mk A280
     clear A280
     replace H := Option.bind_eq_some_iff.mp H
     obtain ⟨t263, A290, H⟩ := H
     try dsimp only at H
     have A29 := Aside0.mk A290
     clear A290
     by_cases c30 : t263 = true
     ·subst c30
      replace H := ip_ H rfl
      replace H := Option.bind_eq_some_iff.mp H
      obtain ⟨⟨t264, t265⟩, A310, H⟩ := H
      try dsimp only at H
      have A31 := Aside0.mk A310
      clear A310
      have HC32 := Aside0.mk H
      clear H
      go_upto_region 14 with (first | ((with_reducible refine gate_callee (f := 7) rfl ?_); refine goesM_ (some 43) Try.func7 #[.slice A0 l0.length c0] ?_; (with_reducible refine (laws_toWordS.calls kj8 _ _ l0 t260 _ ?side1 ?side2 A28.out).mono ?_); (case side1 => repeat (first | exact (Kd.C_below HR0.out HB.out) | (with_reducible refine Kd.C_alloc ?_ _) | (with_reducible refine Kd.C_drewN ?_ _) | (with_reducible refine Kd.C_drew ?_))); (case side2 => exact HC0.out); rintro e w33 ⟨v261, rfl, ho0, hb⟩; refine ⟨_, rfl, ?_⟩; obtain ⟨lq34, hL_, q3_⟩ := Kd.letter_ (w := w) hb yactTeachOrderx10_2_; have Hlq34 := Aside0.mk q3_; have HO262 := aM_ (Kd.S_lower (Kd.S_new' (Kd.S_new' (Kd.S_new' (Kd.S_geL hL_ ho0) (Kd.R_lt yactTeachOrderx10_9_)) (Kd.S_lt yactTeachOrderx10_10_)) (Kd.R_lt yactTeachOrderx10_11_)) (below_size hB_)); replace HO_4 := aM_ (Kd.R_ltL hL_ (Kd.R_old yactTeachOrderx10_9_ hb)); replace HO_6 := aM_ (Kd.S_ltL hL_ (Kd.S_told (Kd.S_old yactTeachOrderx10_10_ hb) (Kd.S_base ho0))); replace HO_7 := aM_ (Kd.R_ltL hL_ (Kd.R_old yactTeachOrderx10_11_ hb)); replace HB := aM_ (below_step hB_ hb); (try clear hL_ q3_); (try clear hb); (try clear hb2); (try clear hk); (try clear hi); (try clear ho0); obtain ⟨Ao35, co35, eo35⟩ := Kd.S_slice HO262.out; subst eo35) | ((with_reducible refine gate_callee (f := 10) rfl ?_); refine goesM_ (some 44) Try.func10 #[.slice Ao18 t252.length co18, .slice Ao35 t260.length co35] ?_; (with_reducible refine (laws_eqWordS.calls kj8 _ _ t252 _ _ t260 true _ ?side1 ?side2 ?side3 ?side4 A29.out).mono ?_); (case side1 => repeat (first | exact (Kd.S_reads' HO_6.out).2.2 | (with_reducible refine Kd.C_alloc ?_ _) | (with_reducible refine Kd.C_drewN ?_ _) | (with_reducible refine Kd.C_drew ?_))); (case side2 => exact (Kd.S_reads' HO_6.out).2.1); (case side3 => repeat (first | exact (Kd.S_reads' HO262.out).2.2 | (with_reducible refine Kd.C_alloc ?_ _) | (with_reducible refine Kd.C_drewN ?_ _) | (with_reducible refine Kd.C_drew ?_))); (case side4 => exact (Kd.S_reads' HO262.out).2.1); rintro e w36 ⟨rfl, hb⟩; refine ⟨_, rfl, ?_⟩; replace HO_4 := aM_ (Kd.R_below yactTeachOrderx10_9_ hb); replace HO_6 := aM_ (Kd.S_below yactTeachOrderx10_10_ hb); replace HO_7 := aM_ (Kd.R_below yactTeachOrderx10_11_ hb); replace HO262 := aM_ (Kd.S_below yactTeachOrderx10_12_ hb); replace HB := aM_ (below_step hB_ hb); (try clear hb); (try clear hb2); (try clear hk); (try clear hi)) | ((with_reducible refine gate_callee (f := 11) rfl ?_); refine goesM_ (some 48) Try.func11 #[.slice Ao18 t252.length co18, .int .i64 1] ?_; (with_reducible refine (laws_markWordS.calls (fun k_ => lq17 ≤ k_ ∧ k_ < lq20 ∧ k_ < lq34) (.slice Ao18 t252.length co18) t252 1 t264 t265 w _ ?side1 ?side2 A31.out).mono ?_); (case side1 => repeat (first | (with_reducible first | exact HB.out | apply lA_ | apply lN_ | apply lD_) | exact HB.out)); (case side2 => exact Kd.S_mono (HO_6.out) (fun k_ hk_ => ⟨hk_.1.1.2.2.1, hk_.1.1.2.2.2, hk_.2⟩)); rintro e w37 ⟨rfl, hy0, hb, hkp⟩; refine ⟨_, rfl, ?_⟩; replace HO_4 := aM_ (Kd.R_mono (ok' := fun k_ => some k_ ≠ (v257 : Value).ownBlock ∧ lq15 ≤ k_ ∧ k_ < lq17 ∧ k_ < lq20 ∧ k_ < lq34) (Kd.R_keptB (HO_4.out) hkp (fun k_ hk_ hs_ => (fun e_ => Nat.not_le.2 hk_.1.2.2.1 (e_.1)) hs_)) (fun k_ hk_ => ⟨hk_.1.1.1, hk_.1.1.2.1, hk_.1.1.2.2.1, hk_.1.1.2.2.2, hk_.1.2⟩)); replace HO_6 := aM_ (Kd.S_mono (ok' := fun k_ => True) hy0 (fun _ _ => trivial)); replace HO_7 := aM_ (Kd.R_mono (ok' := fun k_ => some k_ ≠ (v250 : Value).ownBlock ∧ lq20 ≤ k_ ∧ k_ < lq34) (Kd.R_keptB (HO_7.out) hkp (fun k_ hk_ hs_ => (fun e_ => Nat.not_le.2 (e_.2.1) hk_.1.2) hs_)) (fun k_ hk_ => ⟨hk_.1.1.1, hk_.1.1.2, hk_.1.2⟩)); replace HO262 := aM_ (Kd.S_mono (ok' := fun k_ => some k_ ≠ (v250 : Value).ownBlock ∧ some k_ ≠ (.slice Ao18 t252.length co18 : Value).ownBlock ∧ some k_ ≠ (v257 : Value).ownBlock ∧ lq34 ≤ k_) (Kd.S_keptB (HO262.out) hkp (fun k_ hk_ hs_ => (fun e_ => Nat.not_le.2 (e_.2.2) hk_.1.1.1.2) hs_)) (fun k_ hk_ => ⟨hk_.1.1.1.2, hk_.1.1.2, hk_.1.2, hk_.1.1.1.1.2⟩)); replace HB := aM_ (hb); (try clear hb); (try clear hkp); (try clear hy0)))
      (try simp only [Act.put, List.setIfInBounds_toArray, List.set_cons_zero, List.set_cons_succ])
      go_cut [61] (fun v61 wc => ∃ (kq : Nat) (x61_31 : Bool), v61 = .bool x61_31 ∧ Aside0 (laws_FnExactTeachOrder.j1 kq l0 t248 t249 t255 x61_31 = some r) ∧ Aside0 (kq ≤ kj8) ∧ Aside0 (Kd.R (Kd.int .i64) 3 wc w.heap.size (fun k_ => some k_ ≠ (v257 : Value).ownBlock ∧ lq15 ≤ k_ ∧ k_ < lq17 ∧ k_ < lq20 ∧ k_ < lq34) v250 t248) ∧ Aside0 (Kd.R (Kd.int .i64) 3 wc w.heap.size (fun k_ => some k_ ≠ (v250 : Value).ownBlock ∧ lq20 ≤ k_ ∧ k_ < lq34) v257 t255) ∧ Aside0 (Below w.heap.size w wc))
      case first =>
       have H := HC32.out
       clear HC32
       by_cases c38 : t264 < 0
       ·rw [if_pos c38] at H
        have c38b0 : decide (t264 < 0) = true := decide_eq_true c38
        clear c38
        (first | rw [c38b0] | (simp only [i64_w, i32_w]; rw [c38b0]) | skip)
        have H' := Aside0.mk H
        clear H
        go_wp2
        go_meet
        case rel => exact ⟨_, (true), yactTeachOrderx10_5_, H', ⟨yactTeachOrderx10_13_⟩, ⟨yactTeachOrderx10_9_⟩, ⟨yactTeachOrderx10_11_⟩, ⟨hB_⟩⟩
       ·rw [if_neg c38] at H
        have c38b0 : decide (t264 < 0) = false := decide_eq_false c38
        clear c38
        (first | rw [c38b0] | (simp only [i64_w, i32_w]; rw [c38b0]) | skip)
        replace H := Option.bind_eq_some_iff.mp H
        obtain ⟨t266, A390, H⟩ := H
        try dsimp only at H
        have A39 := Aside0.mk A390
        clear A390
        by_cases c40 : t266 = true
        ·subst c40
         replace H := ip_ H rfl
         have H' := Aside0.mk H
         clear H
         obtain ⟨Ao41, co41, eo41⟩ := Kd.R_slice HO_7.out
         subst eo41
         obtain ⟨Ao42, co42, eo42⟩ := Kd.R_slice HO_4.out
         subst eo42
         go_wp2_with (first | (go_at_call 9; (with_reducible refine (laws_eqIntS.calls kj8 _ _ t255 _ _ t248 true _ ?side1 ?side2 ?side3 ?side4 A39.out).mono ?_); (case side1 => repeat (first | exact (Kd.R_reads' HO_7.out).2.2 | (with_reducible refine Kd.C_alloc ?_ _) | (with_reducible refine Kd.C_drewN ?_ _) | (with_reducible refine Kd.C_drew ?_))); (case side2 => exact (Kd.R_reads' HO_7.out).2.1); (case side3 => repeat (first | exact (Kd.R_reads' HO_4.out).2.2 | (with_reducible refine Kd.C_alloc ?_ _) | (with_reducible refine Kd.C_drewN ?_ _) | (with_reducible refine Kd.C_drew ?_))); (case side4 => exact (Kd.R_reads' HO_4.out).2.1); rintro e w' ⟨rfl, ⟨nd, rfl⟩⟩))
         go_meet
         case rel => exact ⟨_, ((t256 != t249)), yactTeachOrderx10_5_, H', ⟨yactTeachOrderx10_13_⟩, ⟨yactTeachOrderx10_9_⟩, ⟨yactTeachOrderx10_11_⟩, ⟨hB_⟩⟩
        ·replace c40 := Bool.eq_false_iff.mpr c40
         subst c40
         replace H := in_ H (show ¬ (false = true) by decide)
         have H' := Aside0.mk H
         clear H
         obtain ⟨Ao43, co43, eo43⟩ := Kd.R_slice HO_7.out
         subst eo43
         obtain ⟨Ao44, co44, eo44⟩ := Kd.R_slice HO_4.out
         subst eo44
         go_wp2_with (first | (go_at_call 9; (with_reducible refine (laws_eqIntS.calls kj8 _ _ t255 _ _ t248 false _ ?side1 ?side2 ?side3 ?side4 A39.out).mono ?_); (case side1 => repeat (first | exact (Kd.R_reads' HO_7.out).2.2 | (with_reducible refine Kd.C_alloc ?_ _) | (with_reducible refine Kd.C_drewN ?_ _) | (with_reducible refine Kd.C_drew ?_))); (case side2 => exact (Kd.R_reads' HO_7.out).2.1); (case side3 => repeat (first | exact (Kd.R_reads' HO_4.out).2.2 | (with_reducible refine Kd.C_alloc ?_ _) | (with_reducible refine Kd.C_drewN ?_ _) | (with_reducible refine Kd.C_drew ?_))); (case side4 => exact (Kd.R_reads' HO_4.out).2.1); rintro e w' ⟨rfl, ⟨nd, rfl⟩⟩))
         go_meet
         case rel => exact ⟨_, (true), yactTeachOrderx10_5_, H', ⟨yactTeachOrderx10_13_⟩, ⟨yactTeachOrderx10_9_⟩, ⟨yactTeachOrderx10_11_⟩, ⟨hB_⟩⟩
      case rest =>
       clear HC32
       (try clear c3);(try clear c3b0);(try clear c27);(try clear c30);(try clear HO_4);(try clear HO_7);(try clear HB)
       obtain ⟨kq, x61_31, rfl, HA, HJ31, HO_4, HO_7, HB⟩ := hcut
       cases kq with
       | zero => exact absurd HA.out (by simp [laws_FnExactTeachOrder.j1])
       | succ kj31 =>
        have H := HA.out
        clear HA
        simp only [laws_FnExactTeachOrder.j1] at H
        by_cases c45 : x61_31 = true
        ·subst c45
         replace H := ip_ H rfl
         obtain rfl := Option.some.inj H
         go_wp2
         go_ret
         exact ⟨rT_, hB_⟩
        ·replace c45 := Bool.eq_false_iff.mpr c45
         subst c45
         replace H := in_ H (show ¬ (false = true) by decide)
         replace H := Option.bind_eq_some_iff.mp H
         obtain ⟨⟨t267, t268⟩, A460, H⟩ := H
         try dsimp only at H
         have A46 := Aside0.mk A460
         clear A460
         replace H := Option.bind_eq_some_iff.mp H
         obtain ⟨t269, A470, H⟩ := H
         try dsimp only at H
         have A47 := Aside0.mk A470
         clear A470
         by_cases c48 : t269 < 0
         ·rw [if_pos c48] at H
          have c48b0 : decide (t269 < 0) = true := decide_eq_true c48
          clear c48
          obtain rfl := Option.some.inj H
          obtain ⟨Ao49, co49, eo49⟩ := Kd.R_slice HO_7.out
          subst eo49
          go_wp2_with (first | ((with_reducible refine gate_callee (f := 12) rfl ?_); refine goesM_ (some 64) Try.func12 #[.slice Ao49 t255.length co49, .int .i64 1] ?_; (with_reducible refine (laws_markIntS.calls kj31 (fun k_ => some k_ = (.slice Ao49 t255.length co49 : Value).ownBlock) (.slice Ao49 t255.length co49) t255 1 t267 t268 w _ ?side1 ?side2 A46.out).mono ?_); (case side1 => repeat (first | (with_reducible first | exact HB.out | apply lA_ | apply lN_ | apply lD_) | exact HB.out)); (case side2 => exact Kd.R_tight rfl HO_7.out); rintro e w50 ⟨rfl, hy0, hb, hkp⟩; refine ⟨_, rfl, ?_⟩; replace HO_4 := aM_ (Kd.R_mono (ok' := fun k_ => some k_ ≠ (.slice Ao49 t255.length co49 : Value).ownBlock ∧ lq15 ≤ k_ ∧ k_ < lq17 ∧ k_ < lq20 ∧ k_ < lq34) (Kd.R_keptB (HO_4.out) hkp (fun k_ hk_ hs_ => (hk_.1) hs_)) (fun k_ hk_ => ⟨hk_.1.1, hk_.1.2.1, hk_.1.2.2.1, hk_.1.2.2.2.1, hk_.1.2.2.2.2⟩)); replace HO_7 := aM_ (Kd.R_reok rfl hy0 (fun k_ e_ => HO_7.out.1 k_ e_)); replace HB := aM_ (hb); (try clear hb); (try clear hkp); (try clear hy0)) | ((with_reducible refine gate_callee (f := 13) rfl ?_); refine goesL_ (some 67) rfl rfl Try.func13 (by kernel_rfl) rfl #[.slice Ao49 t268.length co49, .int .i64 1] rfl yactTeachOrderx10_14_ ?_; (with_reducible refine (laws_heldIntS.calls kj31 _ _ t268 1 t269 _ ?side1 ?side2 A47.out).mono ?_); (case side1 => repeat (first | exact (Kd.R_reads' HO_7.out).2.2 | (with_reducible refine Kd.C_alloc ?_ _) | (with_reducible refine Kd.C_drewN ?_ _) | (with_reducible refine Kd.C_drew ?_))); (case side2 => rw [show t268.length = t255.length from (Kd.R_reads' HO_7.out).1.symm]; exact (Kd.R_reads' HO_7.out).2.1); rintro e w' ⟨rfl, ⟨nd, rfl⟩⟩; refine ⟨_, rfl, ?_⟩))
          go_ret
          exact ⟨rT_, hB_⟩
         ·rw [if_neg c48] at H
          have c48b0 : decide (t269 < 0) = false := decide_eq_false c48
          clear c48
          by_cases c51 : t269 = t267
          ·rw [if_pos c51] at H
           have c51b0 : (t269 == t267) = true := beq_iff_eq.mpr c51
           have c51b1 : (t269 != t267) = false := bne_eq_false_iff_eq.mpr c51
           clear c51
           replace H := Option.bind_eq_some_iff.mp H
           obtain ⟨t270, A520, H⟩ := H
           try dsimp only at H
           have A52 := Aside0.mk A520
           clear A520
           replace H := Option.bind_eq_some_iff.mp H
           obtain ⟨⟨t273, t274⟩, A530, H⟩ := H
           try dsimp only at H
           have A53 := Aside0.mk A530
           clear A530
           have HC54 := Aside0.mk H
           clear H
           obtain ⟨Ao55, co55, eo55⟩ := Kd.R_slice HO_7.out
           subst eo55
           go_upto_region 25 with (first | ((with_reducible refine gate_callee (f := 12) rfl ?_); refine goesM_ (some 64) Try.func12 #[.slice Ao55 t255.length co55, .int .i64 1] ?_; (with_reducible refine (laws_markIntS.calls kj31 (fun k_ => some k_ = (.slice Ao55 t255.length co55 : Value).ownBlock) (.slice Ao55 t255.length co55) t255 1 t267 t268 w _ ?side1 ?side2 A46.out).mono ?_); (case side1 => repeat (first | (with_reducible first | exact HB.out | apply lA_ | apply lN_ | apply lD_) | exact HB.out)); (case side2 => exact Kd.R_tight rfl HO_7.out); rintro e w56 ⟨rfl, hy0, hb, hkp⟩; refine ⟨_, rfl, ?_⟩; replace HO_4 := aM_ (Kd.R_mono (ok' := fun k_ => some k_ ≠ (.slice Ao55 t255.length co55 : Value).ownBlock ∧ lq15 ≤ k_ ∧ k_ < lq17 ∧ k_ < lq20 ∧ k_ < lq34) (Kd.R_keptB (HO_4.out) hkp (fun k_ hk_ hs_ => (hk_.1) hs_)) (fun k_ hk_ => ⟨hk_.1.1, hk_.1.2.1, hk_.1.2.2.1, hk_.1.2.2.2.1, hk_.1.2.2.2.2⟩)); replace HO_7 := aM_ (Kd.R_reok rfl hy0 (fun k_ e_ => HO_7.out.1 k_ e_)); replace HB := aM_ (hb); (try clear hb); (try clear hkp); (try clear hy0)) | ((with_reducible refine gate_callee (f := 13) rfl ?_); refine goesL_ (some 67) rfl rfl Try.func13 (by kernel_rfl) rfl #[.slice Ao55 t268.length co55, .int .i64 1] rfl yactTeachOrderx10_14_ ?_; (with_reducible refine (laws_heldIntS.calls kj31 _ _ t268 1 t269 _ ?side1 ?side2 A47.out).mono ?_); (case side1 => repeat (first | exact (Kd.R_reads' HO_7.out).2.2 | (with_reducible refine Kd.C_alloc ?_ _) | (with_reducible refine Kd.C_drewN ?_ _) | (with_reducible refine Kd.C_drew ?_))); (case side2 => rw [show t268.length = t255.length from (Kd.R_reads' HO_7.out).1.symm]; exact (Kd.R_reads' HO_7.out).2.1); rintro e w' ⟨rfl, ⟨nd, rfl⟩⟩; refine ⟨_, rfl, ?_⟩) | ((with_reducible refine gate_callee (f := 7) rfl ?_); refine goesM_ (some 75) Try.func7 #[.slice A0 l0.length c0] ?_; (with_reducible refine (laws_toWordS.calls kj31 _ _ l0 t270 _ ?side1 ?side2 A52.out).mono ?_); (case side1 => repeat (first | exact (Kd.C_below HR0.out hB_) | (with_reducible refine Kd.C_alloc ?_ _) | (with_reducible refine Kd.C_drewN ?_ _) | (with_reducible refine Kd.C_drew ?_))); (case side2 => exact HC0.out); rintro e w57 ⟨v271, rfl, ho0, hb⟩; refine ⟨_, rfl, ?_⟩; obtain ⟨lq58, hL_, q3_⟩ := Kd.letter_ (w := w) hb yactTeachOrderx10_2_; have Hlq58 := Aside0.mk q3_; have HO272 := aM_ (Kd.S_lower (Kd.S_new' (Kd.S_new' (Kd.S_geL hL_ ho0) (Kd.R_lt yactTeachOrderx10_9_)) (Kd.R_lt yactTeachOrderx10_11_)) (below_size hB_)); replace HO_4 := aM_ (Kd.R_ltL hL_ (Kd.R_old yactTeachOrderx10_9_ hb)); replace HO_7 := aM_ (Kd.R_ltL hL_ (Kd.R_old yactTeachOrderx10_11_ hb)); replace HB := aM_ (below_step hB_ hb); (try clear hL_ q3_); (try clear hb); (try clear hb2); (try clear hk); (try clear hi); (try clear ho0); obtain ⟨Ao59, co59, eo59⟩ := Kd.S_slice HO272.out; subst eo59) | ((with_reducible refine gate_callee (f := 15) rfl ?_); refine goesM_ (some 76) Try.func15 #[.slice Ao59 t270.length co59] ?_; (with_reducible refine (impl_TeachOrder.calls kj31 _ _ t270 t273 t274 _ ?side1 ?side2 A53.out).mono ?_); (case side1 => repeat (first | exact (Kd.S_reads' HO272.out).2.2 | (with_reducible refine Kd.C_alloc ?_ _) | (with_reducible refine Kd.C_drewN ?_ _) | (with_reducible refine Kd.C_drew ?_))); (case side2 => exact (Kd.S_reads' HO272.out).2.1); rintro e w60 ⟨v275, rfl, ho0, hb⟩; refine ⟨_, rfl, ?_⟩; obtain ⟨lq61, hL_, q3_⟩ := Kd.letter_ (w := w) hb yactTeachOrderx10_2_; have Hlq61 := Aside0.mk q3_; have HO276 := aM_ (Kd.R_lower (Kd.R_new' (Kd.R_new' (Kd.R_geL hL_ ho0) (Kd.R_lt yactTeachOrderx10_9_)) (Kd.R_lt yactTeachOrderx10_11_)) (below_size hB_)); replace HO_4 := aM_ (Kd.R_ltL hL_ (Kd.R_told (Kd.R_old yactTeachOrderx10_9_ hb) (Kd.R_base ho0))); replace HO_7 := aM_ (Kd.R_ltL hL_ (Kd.R_told (Kd.R_old yactTeachOrderx10_11_ hb) (Kd.R_base ho0))); replace HO272 := aM_ (Kd.S_ltL hL_ (Kd.S_told (Kd.S_old (by (with_reducible repeat (first | apply Kd.S_alloc | apply Kd.S_drewN | apply Kd.S_drew)); exact HO272.out) hb) (Kd.R_base ho0))); replace HB := aM_ (below_step hB_ hb); (try clear hL_ q3_); (try clear hb); (try clear hb2); (try clear hk); (try clear hi); (try clear ho0)))
           (try simp only [Act.put, List.setIfInBounds_toArray, List.set_cons_zero, List.set_cons_succ])
           go_cut [87] (fun v87 wc => ∃ (kq : Nat) (x87_53 : Bool), v87 = .bool x87_53 ∧ Aside0 (laws_FnExactTeachOrder.j2 kq t268 t267 x87_53 = some r) ∧ Aside0 (kq ≤ kj31) ∧ Aside0 (Kd.R (Kd.int .i64) 3 wc w.heap.size (fun k_ => lq20 ≤ k_ ∧ k_ < lq34 ∧ k_ < lq58 ∧ k_ < lq61) (.slice Ao55 t255.length co55) t268) ∧ Aside0 (Below w.heap.size w wc))
           case first =>
            have H := HC54.out
            clear HC54
            replace H := Option.bind_eq_some_iff.mp H
            obtain ⟨t277, A620, H⟩ := H
            try dsimp only at H
            have A62 := Aside0.mk A620
            clear A620
            by_cases c63 : t277 = true
            ·subst c63
             replace H := ip_ H rfl
             have H' := Aside0.mk H
             clear H
             obtain ⟨Ao64, co64, eo64⟩ := Kd.R_slice HO276.out
             subst eo64
             obtain ⟨Ao65, co65, eo65⟩ := Kd.R_slice HO_4.out
             subst eo65
             go_wp2_with (first | ((with_reducible refine gate_callee (f := 9) rfl ?_); refine goesM_ (some 81) Try.func9 #[.slice Ao64 t273.length co64, .slice Ao65 t248.length co65] ?_; (with_reducible refine (laws_eqIntS.calls kj31 _ _ t273 _ _ t248 true _ ?side1 ?side2 ?side3 ?side4 A62.out).mono ?_); (case side1 => repeat (first | exact (Kd.R_reads' HO276.out).2.2 | (with_reducible refine Kd.C_alloc ?_ _) | (with_reducible refine Kd.C_drewN ?_ _) | (with_reducible refine Kd.C_drew ?_))); (case side2 => exact (Kd.R_reads' HO276.out).2.1); (case side3 => repeat (first | exact (Kd.R_reads' HO_4.out).2.2 | (with_reducible refine Kd.C_alloc ?_ _) | (with_reducible refine Kd.C_drewN ?_ _) | (with_reducible refine Kd.C_drew ?_))); (case side4 => exact (Kd.R_reads' HO_4.out).2.1); rintro e w' ⟨rfl, ⟨nd, rfl⟩⟩; refine ⟨_, rfl, ?_⟩))
             go_meet
             case rel => exact ⟨_, ((t274 != t249)), yactTeachOrderx10_5_, H', ⟨by have := HJ8.out; have := HJ31.out; first | omega | exact Nat.le_refl _⟩, ⟨yactTeachOrderx10_15_⟩, ⟨hB_⟩⟩
            ·replace c63 := Bool.eq_false_iff.mpr c63
             subst c63
             replace H := in_ H (show ¬ (false = true) by decide)
             have H' := Aside0.mk H
             clear H
             obtain ⟨Ao66, co66, eo66⟩ := Kd.R_slice HO276.out
             subst eo66
             obtain ⟨Ao67, co67, eo67⟩ := Kd.R_slice HO_4.out
             subst eo67
             go_wp2_with (first | ((with_reducible refine gate_callee (f := 9) rfl ?_); refine goesM_ (some 81) Try.func9 #[.slice Ao66 t273.length co66, .slice Ao67 t248.length co67] ?_; (with_reducible refine (laws_eqIntS.calls kj31 _ _ t273 _ _ t248 false _ ?side1 ?side2 ?side3 ?side4 A62.out).mono ?_); (case side1 => repeat (first | exact (Kd.R_reads' HO276.out).2.2 | (with_reducible refine Kd.C_alloc ?_ _) | (with_reducible refine Kd.C_drewN ?_ _) | (with_reducible refine Kd.C_drew ?_))); (case side2 => exact (Kd.R_reads' HO276.out).2.1); (case side3 => repeat (first | exact (Kd.R_reads' HO_4.out).2.2 | (with_reducible refine Kd.C_alloc ?_ _) | (with_reducible refine Kd.C_drewN ?_ _) | (with_reducible refine Kd.C_drew ?_))); (case side4 => exact (Kd.R_reads' HO_4.out).2.1); rintro e w' ⟨rfl, ⟨nd, rfl⟩⟩; refine ⟨_, rfl, ?_⟩))
             go_meet
             case rel => exact ⟨_, (true), yactTeachOrderx10_5_, H', ⟨by have := HJ8.out; have := HJ31.out; first | omega | exact Nat.le_refl _⟩, ⟨yactTeachOrderx10_15_⟩, ⟨hB_⟩⟩
           case rest =>
            clear HC54
            (try clear c3);(try clear c3b0);(try clear c27);(try clear c30);(try clear c45);(try clear c48);(try clear c48b0);(try clear c51);(try clear c51b0);(try clear c51b1);(try clear HO_7);(try clear HB)
            obtain ⟨kq, x87_53, rfl, HA, HJ53, HO_7, HB⟩ := hcut
            have hl7_53 := (Kd.R_reads' HO_7.out).1
            rw [hl7_53] at HO_7
            (try simp only [hl7_53])
            cases kq with
            | zero => exact absurd HA.out (by simp [laws_FnExactTeachOrder.j2])
            | succ kj53 =>
             have H := HA.out
             clear HA
             simp only [laws_FnExactTeachOrder.j2] at H
             by_cases c68 : x87_53 = true
             ·subst c68
              replace H := ip_ H rfl
              obtain rfl := Option.some.inj H
              go_wp2
              go_ret
              exact ⟨rT_, hB_⟩
             ·replace c68 := Bool.eq_false_iff.mpr c68
              subst c68
              replace H := in_ H (show ¬ (false = true) by decide)
              replace H := Option.bind_eq_some_iff.mp H
              obtain ⟨t278, A690, H⟩ := H
              try dsimp only at H
              have A69 := Aside0.mk A690
              clear A690
              by_cases c70 : t278 < 0
              ·rw [if_pos c70] at H
               have c70b0 : decide (t278 < 0) = true := decide_eq_true c70
               clear c70
               obtain rfl := Option.some.inj H
               go_wp2_with (first | ((with_reducible refine gate_callee (f := 13) rfl ?_); refine goesM_ (some 90) Try.func13 #[.slice Ao55 t268.length co55, .int .i64 1] ?_; (with_reducible refine (laws_heldIntS.calls kj53 _ _ t268 1 t278 _ ?side1 ?side2 A69.out).mono ?_); (case side1 => repeat (first | exact (Kd.R_reads' HO_7.out).2.2 | (with_reducible refine Kd.C_alloc ?_ _) | (with_reducible refine Kd.C_drewN ?_ _) | (with_reducible refine Kd.C_drew ?_))); (case side2 => exact (Kd.R_reads' HO_7.out).2.1); rintro e w' ⟨rfl, ⟨nd, rfl⟩⟩; refine ⟨_, rfl, ?_⟩))
               go_ret
               exact ⟨rT_, hB_⟩
              ·rw [if_neg c70] at H
               have c70b0 : decide (t278 < 0) = false := decide_eq_false c70
               clear c70
               by_cases c71 : t278 = t267
               ·rw [if_pos c71] at H
                have c71b0 : (t278 == t267) = true := beq_iff_eq.mpr c71
                have c71b1 : (t278 != t267) = false := bne_eq_false_iff_eq.mpr c71
                clear c71
                obtain rfl := Option.some.inj H
                go_wp2_with (first | ((with_reducible refine gate_callee (f := 13) rfl ?_); refine goesM_ (some 90) Try.func13 #[.slice Ao55 t268.length co55, .int .i64 1] ?_; (with_reducible refine (laws_heldIntS.calls kj53 _ _ t268 1 t278 _ ?side1 ?side2 A69.out).mono ?_); (case side1 => repeat (first | exact (Kd.R_reads' HO_7.out).2.2 | (with_reducible refine Kd.C_alloc ?_ _) | (with_reducible refine Kd.C_drewN ?_ _) | (with_reducible refine Kd.C_drew ?_))); (case side2 => exact (Kd.R_reads' HO_7.out).2.1); rintro e w' ⟨rfl, ⟨nd, rfl⟩⟩; refine ⟨_, rfl, ?_⟩))
                go_ret
                exact ⟨rT_, hB_⟩
               ·rw [if_neg c71] at H
                have c71b0 : (t278 == t267) = false := beq_eq_false_iff_ne.mpr c71
                have c71b1 : (t278 != t267) = true := bne_iff_ne.mpr c71
                obtain rfl := Option.some.inj H
                go_wp2_with (first | ((with_reducible refine gate_callee (f := 13) rfl ?_); refine goesM_ (some 90) Try.func13 #[.slice Ao55 t268.length co55, .int .i64 1] ?_; (with_reducible refine (laws_heldIntS.calls kj53 _ _ t268 1 t278 _ ?side1 ?side2 A69.out).mono ?_); (case side1 => repeat (first | exact (Kd.R_reads' HO_7.out).2.2 | (with_reducible refine Kd.C_alloc ?_ _) | (with_reducible refine Kd.C_drewN ?_ _) | (with_reducible refine Kd.C_drew ?_))); (case side2 => exact (Kd.R_reads' HO_7.out).2.1); rintro e w' ⟨rfl, ⟨nd, rfl⟩⟩; refine ⟨_, rfl, ?_⟩))
                go_ret
                exact ⟨rT_, hB_⟩
          ·rw [if_neg c51] at H
           have c51b0 : (t269 == t267) = false := beq_eq_false_iff_ne.mpr c51
           have c51b1 : (t269 != t267) = true := bne_iff_ne.mpr c51
           obtain rfl := Option.some.inj H
           obtain ⟨Ao72, co72, eo72⟩ := Kd.R_slice HO_7.out
           subst eo72
           go_wp2_with (first | ((with_reducible refine gate_callee (f := 12) rfl ?_); refine goesM_ (some 64) Try.func12 #[.slice Ao72 t255.length co72, .int .i64 1] ?_; (with_reducible refine (laws_markIntS.calls kj31 (fun k_ => some k_ = (.slice Ao72 t255.length co72 : Value).ownBlock) (.slice Ao72 t255.length co72) t255 1 t267 t268 w _ ?side1 ?side2 A46.out).mono ?_); (case side1 => repeat (first | (with_reducible first | exact HB.out | apply lA_ | apply lN_ | apply lD_) | exact HB.out)); (case side2 => exact Kd.R_tight rfl HO_7.out); rintro e w73 ⟨rfl, hy0, hb, hkp⟩; refine ⟨_, rfl, ?_⟩; replace HO_4 := aM_ (Kd.R_mono (ok' := fun k_ => some k_ ≠ (.slice Ao72 t255.length co72 : Value).ownBlock ∧ lq15 ≤ k_ ∧ k_ < lq17 ∧ k_ < lq20 ∧ k_ < lq34) (Kd.R_keptB (HO_4.out) hkp (fun k_ hk_ hs_ => (hk_.1) hs_)) (fun k_ hk_ => ⟨hk_.1.1, hk_.1.2.1, hk_.1.2.2.1, hk_.1.2.2.2.1, hk_.1.2.2.2.2⟩)); replace HO_7 := aM_ (Kd.R_reok rfl hy0 (fun k_ e_ => HO_7.out.1 k_ e_)); replace HB := aM_ (hb); (try clear hb); (try clear hkp); (try clear hy0)) | ((with_reducible refine gate_callee (f := 13) rfl ?_); refine goesL_ (some 67) rfl rfl Try.func13 (by kernel_rfl) rfl #[.slice Ao72 t268.length co72, .int .i64 1] rfl yactTeachOrderx10_14_ ?_; (with_reducible refine (laws_heldIntS.calls kj31 _ _ t268 1 t269 _ ?side1 ?side2 A47.out).mono ?_); (case side1 => repeat (first | exact (Kd.R_reads' HO_7.out).2.2 | (with_reducible refine Kd.C_alloc ?_ _) | (with_reducible refine Kd.C_drewN ?_ _) | (with_reducible refine Kd.C_drew ?_))); (case side2 => rw [show t268.length = t255.length from (Kd.R_reads' HO_7.out).1.symm]; exact (Kd.R_reads' HO_7.out).2.1); rintro e w' ⟨rfl, ⟨nd, rfl⟩⟩; refine ⟨_, rfl, ?_⟩))
           go_ret
           exact ⟨rT_, hB_⟩
     ·replace c30 := Bool.eq_false_iff.mpr c30
      subst c30
      replace H := in_ H (show ¬ (false = true) by decide)
      obtain rfl := Option.some.inj H
      go_wp2_with (first | ((with_reducible refine gate_callee (f := 7) rfl ?_); refine goesM_ (some 43) Try.func7 #[.slice A0 l0.length c0] ?_; (with_reducible refine (laws_toWordS.calls kj8 _ _ l0 t260 _ ?side1 ?side2 A28.out).mono ?_); (case side1 => repeat (first | exact (Kd.C_below HR0.out HB.out) | (with_reducible refine Kd.C_alloc ?_ _) | (with_reducible refine Kd.C_drewN ?_ _) | (with_reducible refine Kd.C_drew ?_))); (case side2 => exact HC0.out); rintro e w74 ⟨v261, rfl, ho0, hb⟩; refine ⟨_, rfl, ?_⟩; obtain ⟨lq75, hL_, q3_⟩ := Kd.letter_ (w := w) hb yactTeachOrderx10_2_; have Hlq75 := Aside0.mk q3_; have HO262 := aM_ (Kd.S_lower (Kd.S_new' (Kd.S_new' (Kd.S_new' (Kd.S_geL hL_ ho0) (Kd.R_lt yactTeachOrderx10_9_)) (Kd.S_lt yactTeachOrderx10_10_)) (Kd.R_lt yactTeachOrderx10_11_)) (below_size hB_)); replace HO_4 := aM_ (Kd.R_ltL hL_ (Kd.R_old yactTeachOrderx10_9_ hb)); replace HO_6 := aM_ (Kd.S_ltL hL_ (Kd.S_told (Kd.S_old yactTeachOrderx10_10_ hb) (Kd.S_base ho0))); replace HO_7 := aM_ (Kd.R_ltL hL_ (Kd.R_old yactTeachOrderx10_11_ hb)); replace HB := aM_ (below_step hB_ hb); (try clear hL_ q3_); (try clear hb); (try clear hb2); (try clear hk); (try clear hi); (try clear ho0); obtain ⟨Ao76, co76, eo76⟩ := Kd.S_slice HO262.out; subst eo76) | ((with_reducible refine gate_callee (f := 10) rfl ?_); refine goesM_ (some 44) Try.func10 #[.slice Ao18 t252.length co18, .slice Ao76 t260.length co76] ?_; (with_reducible refine (laws_eqWordS.calls kj8 _ _ t252 _ _ t260 false _ ?side1 ?side2 ?side3 ?side4 A29.out).mono ?_); (case side1 => repeat (first | exact (Kd.S_reads' HO_6.out).2.2 | (with_reducible refine Kd.C_alloc ?_ _) | (with_reducible refine Kd.C_drewN ?_ _) | (with_reducible refine Kd.C_drew ?_))); (case side2 => exact (Kd.S_reads' HO_6.out).2.1); (case side3 => repeat (first | exact (Kd.S_reads' HO262.out).2.2 | (with_reducible refine Kd.C_alloc ?_ _) | (with_reducible refine Kd.C_drewN ?_ _) | (with_reducible refine Kd.C_drew ?_))); (case side4 => exact (Kd.S_reads' HO262.out).2.1); rintro e w77 ⟨rfl, hb⟩; refine ⟨_, rfl, ?_⟩; replace HO_4 := aM_ (Kd.R_below yactTeachOrderx10_9_ hb); replace HO_6 := aM_ (Kd.S_below yactTeachOrderx10_10_ hb); replace HO_7 := aM_ (Kd.R_below yactTeachOrderx10_11_ hb); replace HO262 := aM_ (Kd.S_below yactTeachOrderx10_12_ hb); replace HB := aM_ (below_step hB_ hb); (try clear hb); (try clear hb2); (try clear hk); (try clear hi)))
      go_ret
      exact ⟨rT_, hB_⟩
theorem laws_FnExactTeachOrder.walk : True := trivial

end Go.Proofs.Ytmongpocangocaa.PFnExactTeachOrder
