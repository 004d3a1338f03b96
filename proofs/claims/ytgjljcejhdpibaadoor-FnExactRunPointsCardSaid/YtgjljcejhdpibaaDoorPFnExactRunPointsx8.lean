/- Written by a program of this claim's author, out of the loaded program as Lean prints it: the functions as Lean functions, and that the calls answer so. -/
import Derived.Test.YtgjljcejhdpibaaDoorPFnExactRunPointsx0
import Derived.Test.YtgjljcejhdpibaaDoorPFnExactRunPointsx1
import Derived.Test.YtgjljcejhdpibaaDoorPFnExactRunPointsx4
import Derived.Test.YtgjljcejhdpibaaDoorPFnExactRunPointsx7
import Derived.Test.YtgjljcejhdpibaaDoorPFnExactRunPointsxD0
namespace Go.Proofs.YtgjljcejhdpibaaDoor.PFnExactRunPoints
open Go.RowKit Go.Proofs.YtgjljcejhdpibaaDoorW.PrintWords Go.Proofs.YtgjljcejhdpibaaDoorW.PrintLast Go.Proofs.YtgjljcejhdpibaaDoorW.PrintMore
attribute [local go_sem] max2_int min2_int max_two min_two max_three min_three max_four min_four isSome_setCell   -- for this text's walks alone
set_option linter.unusedVariables false
set_option linter.unusedSimpArgs false

theorem yactRunPointsx8_0_ {p : Prop} (h : p := by first | rfl | (simp; done) | (simp [*]; done)) : p := h
theorem yactRunPointsx8_1_ {p : Prop} (h : p := by first | (with_reducible assumption) | assumption) : p := h
theorem yactRunPointsx8_2_ {p : Prop} (h : p := by (with_reducible repeat (first | apply Kd.R_alloc | apply Kd.R_drewN | apply Kd.R_drew)); exact HO237.out) : p := h
theorem yactRunPointsx8_3_ {p : Prop} (h : p := by (with_reducible repeat (first | apply Kd.R_alloc | apply Kd.R_drewN | apply Kd.R_drew)); exact HO241.out) : p := h
theorem yactRunPointsx8_4_ {p : Prop} (h : p := by (with_reducible repeat (first | apply Kd.R_alloc | apply Kd.R_drewN | apply Kd.R_drew)); exact Kd.R_mono HO241.out (fun _ hk => hk.2)) : p := h
theorem yactRunPointsx8_5_ {p : Prop} (h : p := by (with_reducible repeat (first | apply Kd.R_alloc | apply Kd.R_drewN | apply Kd.R_drew)); exact Kd.R_mono HO244.out (fun _ hk => trivial)) : p := h
theorem yactRunPointsx8_6_ {p : Prop} (h : p := by (with_reducible repeat (first | apply Kd.R_alloc | apply Kd.R_drewN | apply Kd.R_drew)); exact Kd.R_mono HO248.out (fun _ hk => hk.2)) : p := h
theorem yactRunPointsx8_7_ {p : Prop} (h : p := by (with_reducible repeat (first | apply Kd.R_alloc | apply Kd.R_drewN | apply Kd.R_drew)); exact HO_8.out) : p := h
theorem yactRunPointsx8_8_ {p : Prop} (h : p := by (with_reducible repeat (first | apply Kd.R_alloc | apply Kd.R_drewN | apply Kd.R_drew)); exact HO_6.out) : p := h
theorem yactRunPointsx8_9_ {p : Prop} (h : p := by (with_reducible repeat (first | apply Kd.R_alloc | apply Kd.R_drewN | apply Kd.R_drew)); exact HO_9.out) : p := h
theorem yactRunPointsx8_10_ {p : Prop} (h : p := by (with_reducible repeat (first | apply Kd.R_alloc | apply Kd.R_drewN | apply Kd.R_drew)); exact HO252.out) : p := h
theorem yactRunPointsx8_11_ {p : Prop} (h : p := by have := HJ10.out; first | omega | exact Nat.le_refl _) : p := h
theorem yactRunPointsx8_12_ {p : Prop} (h : p := by (try simp only [List.map_toArray, List.map_cons, List.map_nil]); first | done | (rw [show t258.length = t245.length from (Kd.R_reads' HO_9.out).1.symm] <;> rfl) | rfl | (simp only [List.length_drop, List.length_take]; rfl)) : p := h
theorem yactRunPointsx8_13_ {p : Prop} (h : p := by (with_reducible repeat (first | apply Kd.R_alloc | apply Kd.R_drewN | apply Kd.R_drew)); exact Kd.R_mono HO_9.out (fun _ hk => trivial)) : p := h
/-! ### laws_heldStringS: function 16 -/
set_option maxHeartbeats 8000000 in
set_option maxRecDepth 100000 in
theorem laws_heldStringS.calls (k : Nat) (A0 : Option Addr) (c0 : Nat) (l0 : List ByteArray) (a1 : Int) (r : Int) (w : World) (hr0 : Kd.C Kd.string w A0 l0.length l0) (hc0 : l0.length ≤ c0) (h : laws_heldStringS.f k l0 a1 = some r) :
 Calls Tryd.prog 16 #[.slice A0 l0.length c0, .int .i64 a1] w fun e w' => e = .returned (.int .i64 r) ∧ Below w.heap.size w w' := by
 have HR0 := Aside0.mk hr0
 have HC0 := Aside0.mk hc0
 clear hr0 hc0
 have HB := Aside0.mk (Below.refl w.heap.size w)
 have H : (laws_heldStringS.l0 k l0 a1 0) = some r := h
 clear h
 have H' := Aside0.mk H
 clear H
 go_enter Tryd.func16, Tryd.ntmps16
 go_wp2
 go_loopg [1, 5] k (fun kq v1 v5 w' => ∃ (x1_1 : Int) (x5_1 : Int), v1 = .int .i64 x1_1 ∧ v5 = .int .i64 x5_1 ∧ Aside0 (laws_heldStringS.l0 kq l0 x1_1 x5_1 = some r) ∧ Aside0 (kq ≤ k) ∧ Aside0 (Below w.heap.size w w'))
 case atStart => exact ⟨(a1), (0), yactRunPointsx8_0_, yactRunPointsx8_0_, H', ⟨Nat.le_refl _⟩, ⟨hB_⟩⟩
 case round =>
  clear H'
  obtain ⟨x1_1, x5_1, rfl, rfl, HA, HK1, HB⟩ := hrel
  cases gk with
  | zero => exact absurd HA.out (by simp [laws_heldStringS.l0])
  | succ k1 =>
   have H := HA.out
   clear HA
   simp only [laws_heldStringS.l0] at H
   by_cases c3 : x5_1 < (l0.length : Int)
   ·rw [if_pos c3] at H
    have c3b0 : decide (x5_1 < (l0.length : Int)) = true := decide_eq_true c3
    clear c3
    by_cases c4 : 0 ≤ x5_1
    ·rw [if_pos c4] at H
     have c4b0 : decide (0 ≤ x5_1) = true := decide_eq_true c4
     clear c4
     replace H := Option.bind_eq_some_iff.mp H
     obtain ⟨t233, A50, H⟩ := H
     try dsimp only at H
     have A5 := Aside0.mk A50
     clear A50
     by_cases c6 : (rdOf ByteArray.empty l0 x5_1).toList = t233.toList
     ·rw [if_pos c6] at H
      have c6b0 : ((rdOf ByteArray.empty l0 x5_1).toList == t233.toList) = true := beq_iff_eq.mpr c6
      have c6b1 : ((rdOf ByteArray.empty l0 x5_1).toList != t233.toList) = false := bne_eq_false_iff_eq.mpr c6
      clear c6
      have H' := Aside0.mk H
      clear H
      try go_wp2
      replace HB := aM_ (below_drew1 HB.out)
      have p232 : 0 ≤ (x5_1 : Int) := of_decide_eq_true yactRunPointsx8_1_
      have q232 : x5_1 < (l0.length : Int) := of_decide_eq_true yactRunPointsx8_1_
      obtain ⟨ad232, e232, hx232_0⟩ := Kd.at_string HR0.out x5_1 p232 q232
      have hw232_0 := hx232_0
      cases e232
      replace hx232_0 := (HB.out.cell (World.block_lt_of_cell? w _ hx232_0)).trans hx232_0
      replace p232 := eq_true p232
      replace q232 := eq_true q232
      refine start_ (n := 7) (S := fun w' => w'.cell? (ad232.add (x5_1).toNat) = some (.string (rdOf ByteArray.empty l0 x5_1))) (ds := []) #[false, false, false, false, false, false, false] (by kernel_rfl) rfl rfl (((HB.out.cell (World.block_lt_of_cell? w _ hw232_0)).trans hw232_0)) (fun hHeld => ?_)
      generalize wr.drew = w7 at HB hx232_0 hHeld ⊢
      refine pure_ (i := 0) (N := some 12) (v := ?_) (a' := ?_) #[true, false, false, false, false, false, false] rfl rfl (by kernel_rfl) (fun _ _ _ h => h) (Or.inl ⟨by rfl, ?_⟩) ?_ ?_
      rotate_left
      ·intro w'
       go_simp
       with_reducible rfl
      rotate_left
      ·simp only [Act.put, List.setIfInBounds_toArray, List.set_cons_zero, List.set_cons_succ, i64_w, i32_w]
       rfl
      refine pure_ (i := 1) (N := some 13) (v := ?_) (a' := ?_) #[true, true, false, false, false, false, false] rfl rfl (by kernel_rfl) (fun _ _ _ h => h) (Or.inl ⟨by rfl, ?_⟩) ?_ ?_
      rotate_left
      ·intro w'
       go_simp
       with_reducible rfl
      rotate_left
      ·simp only [Act.put, List.setIfInBounds_toArray, List.set_cons_zero, List.set_cons_succ, i64_w, i32_w]
       rfl
      refine pure_ (i := 2) (N := some 14) (v := ?_) (a' := ?_) #[true, true, true, false, false, false, false] rfl rfl (by kernel_rfl) (fun _ _ _ h => h) (Or.inl ⟨by rfl, ?_⟩) ?_ ?_
      rotate_left
      ·intro w'
       go_simp
       with_reducible rfl
      rotate_left
      ·simp only [Act.put, List.setIfInBounds_toArray, List.set_cons_zero, List.set_cons_succ, i64_w, i32_w]
       rfl
      refine pure_ (i := 4) (N := some 16) (v := ?_) (a' := ?_) #[true, true, true, false, true, false, false] rfl rfl (by kernel_rfl) (fun _ _ _ h => h) (Or.inl ⟨by rfl, ?_⟩) ?_ ?_
      rotate_left
      ·intro w'
       go_simp
       with_reducible rfl
      rotate_left
      ·simp only [Act.put, List.setIfInBounds_toArray, List.set_cons_zero, List.set_cons_succ, i64_w, i32_w]
       rfl
      refine take_ (i := 3) (N := some 15) (v := ?_) (a' := ?_) #[true, true, true, true, true, false, false] rfl rfl (by kernel_rfl) (fun _ _ _ h => h) (Or.inl ⟨by rfl, ?_⟩) hHeld ?_ ?_
      rotate_left
      ·intro w' s0
       go_simp
       with_reducible rfl
      rotate_left
      ·simp only [Act.put, List.setIfInBounds_toArray, List.set_cons_zero, List.set_cons_succ, i64_w, i32_w]
       rfl
      refine one_ (i := 5) (N := some 17) #[true, true, true, true, true, true, false] rfl rfl (by kernel_rfl) (by decide) (fun K hK => ?_)
      refine goes_ Tryd.func28 (by kernel_rfl) rfl #[.int .i64 x1_1] (by rfl) rfl rfl aR_ ?_
      with_reducible refine (laws_markText.calls k1 x1_1 t233 _ A5.out).mono ?_
      rintro e w8 ⟨rfl, hb⟩
      refine ⟨_, rfl, ?_⟩
      replace HB := aM_ (below_step hB_ hb)
      (try clear hb)
      (try clear hb2)
      (try clear hk)
      (try clear hi)
      refine hK.out _ _ (((HB.out.cell (World.block_lt_of_cell? w _ hw232_0)).trans hw232_0)) (fun hHeld => ?_)
      clear hK K
      refine norm_ (a' := ?_) ?_ ?_
      rotate_left
      ·show Act.put _ (some 17) _ = _
       simp only [Act.put, List.setIfInBounds_toArray, List.set_cons_zero, List.set_cons_succ, i64_w, i32_w]
       rfl
      refine pure_ (i := 6) (N := some 18) (v := ?_) (a' := ?_) #[true, true, true, true, true, true, true] rfl rfl (by kernel_rfl) (fun _ _ _ h => h) (Or.inl ⟨by rfl, ?_⟩) ?_ ?_
      rotate_left
      ·intro w'
       go_simp
       with_reducible rfl
      rotate_left
      ·simp only [Act.put, List.setIfInBounds_toArray, List.set_cons_zero, List.set_cons_succ, i64_w, i32_w]
       rfl
      refine done_ (by kernel_rfl) ?_
      try go_wp2
      go_roundg k1
      case measure => have := HK1.out; omega
      case rel => exact ⟨(wrap64 (x1_1 + 1)), (wrap64 (x5_1 + 1)), yactRunPointsx8_0_, yactRunPointsx8_0_, H', ⟨by have := HK1.out; omega⟩, ⟨hB_⟩⟩
     ·rw [if_neg c6] at H
      have c6b0 : ((rdOf ByteArray.empty l0 x5_1).toList == t233.toList) = false := beq_eq_false_iff_ne.mpr c6
      have c6b1 : ((rdOf ByteArray.empty l0 x5_1).toList != t233.toList) = true := bne_iff_ne.mpr c6
      obtain rfl := Option.some.inj H
      try go_wp2
      replace HB := aM_ (below_drew1 HB.out)
      have p232 : 0 ≤ (x5_1 : Int) := of_decide_eq_true yactRunPointsx8_1_
      have q232 : x5_1 < (l0.length : Int) := of_decide_eq_true yactRunPointsx8_1_
      obtain ⟨ad232, e232, hx232_0⟩ := Kd.at_string HR0.out x5_1 p232 q232
      have hw232_0 := hx232_0
      cases e232
      replace hx232_0 := (HB.out.cell (World.block_lt_of_cell? w _ hx232_0)).trans hx232_0
      replace p232 := eq_true p232
      replace q232 := eq_true q232
      refine start_ (n := 7) (S := fun w' => w'.cell? (ad232.add (x5_1).toNat) = some (.string (rdOf ByteArray.empty l0 x5_1))) (ds := []) #[false, false, false, false, false, false, false] (by kernel_rfl) rfl rfl (((HB.out.cell (World.block_lt_of_cell? w _ hw232_0)).trans hw232_0)) (fun hHeld => ?_)
      generalize wr.drew = w9 at HB hx232_0 hHeld ⊢
      refine pure_ (i := 0) (N := some 12) (v := ?_) (a' := ?_) #[true, false, false, false, false, false, false] rfl rfl (by kernel_rfl) (fun _ _ _ h => h) (Or.inl ⟨by rfl, ?_⟩) ?_ ?_
      rotate_left
      ·intro w'
       go_simp
       with_reducible rfl
      rotate_left
      ·simp only [Act.put, List.setIfInBounds_toArray, List.set_cons_zero, List.set_cons_succ, i64_w, i32_w]
       rfl
      refine pure_ (i := 1) (N := some 13) (v := ?_) (a' := ?_) #[true, true, false, false, false, false, false] rfl rfl (by kernel_rfl) (fun _ _ _ h => h) (Or.inl ⟨by rfl, ?_⟩) ?_ ?_
      rotate_left
      ·intro w'
       go_simp
       with_reducible rfl
      rotate_left
      ·simp only [Act.put, List.setIfInBounds_toArray, List.set_cons_zero, List.set_cons_succ, i64_w, i32_w]
       rfl
      refine pure_ (i := 2) (N := some 14) (v := ?_) (a' := ?_) #[true, true, true, false, false, false, false] rfl rfl (by kernel_rfl) (fun _ _ _ h => h) (Or.inl ⟨by rfl, ?_⟩) ?_ ?_
      rotate_left
      ·intro w'
       go_simp
       with_reducible rfl
      rotate_left
      ·simp only [Act.put, List.setIfInBounds_toArray, List.set_cons_zero, List.set_cons_succ, i64_w, i32_w]
       rfl
      refine pure_ (i := 4) (N := some 16) (v := ?_) (a' := ?_) #[true, true, true, false, true, false, false] rfl rfl (by kernel_rfl) (fun _ _ _ h => h) (Or.inl ⟨by rfl, ?_⟩) ?_ ?_
      rotate_left
      ·intro w'
       go_simp
       with_reducible rfl
      rotate_left
      ·simp only [Act.put, List.setIfInBounds_toArray, List.set_cons_zero, List.set_cons_succ, i64_w, i32_w]
       rfl
      refine take_ (i := 3) (N := some 15) (v := ?_) (a' := ?_) #[true, true, true, true, true, false, false] rfl rfl (by kernel_rfl) (fun _ _ _ h => h) (Or.inl ⟨by rfl, ?_⟩) hHeld ?_ ?_
      rotate_left
      ·intro w' s0
       go_simp
       with_reducible rfl
      rotate_left
      ·simp only [Act.put, List.setIfInBounds_toArray, List.set_cons_zero, List.set_cons_succ, i64_w, i32_w]
       rfl
      refine one_ (i := 5) (N := some 17) #[true, true, true, true, true, true, false] rfl rfl (by kernel_rfl) (by decide) (fun K hK => ?_)
      refine goes_ Tryd.func28 (by kernel_rfl) rfl #[.int .i64 x1_1] (by rfl) rfl rfl aR_ ?_
      with_reducible refine (laws_markText.calls k1 x1_1 t233 _ A5.out).mono ?_
      rintro e w10 ⟨rfl, hb⟩
      refine ⟨_, rfl, ?_⟩
      replace HB := aM_ (below_step hB_ hb)
      (try clear hb)
      (try clear hb2)
      (try clear hk)
      (try clear hi)
      refine hK.out _ _ (((HB.out.cell (World.block_lt_of_cell? w _ hw232_0)).trans hw232_0)) (fun hHeld => ?_)
      clear hK K
      refine norm_ (a' := ?_) ?_ ?_
      rotate_left
      ·show Act.put _ (some 17) _ = _
       simp only [Act.put, List.setIfInBounds_toArray, List.set_cons_zero, List.set_cons_succ, i64_w, i32_w]
       rfl
      refine pure_ (i := 6) (N := some 18) (v := ?_) (a' := ?_) #[true, true, true, true, true, true, true] rfl rfl (by kernel_rfl) (fun _ _ _ h => h) (Or.inl ⟨by rfl, ?_⟩) ?_ ?_
      rotate_left
      ·intro w'
       go_simp
       with_reducible rfl
      rotate_left
      ·simp only [Act.put, List.setIfInBounds_toArray, List.set_cons_zero, List.set_cons_succ, i64_w, i32_w]
       rfl
      refine done_ (by kernel_rfl) ?_
      try go_wp2
      go_ret
      exact ⟨rT_, hB_⟩
    ·rw [if_neg c4] at H
     exact absurd H (by simp)
   ·rw [if_neg c3] at H
    have c3b0 : decide (x5_1 < (l0.length : Int)) = false := decide_eq_false c3
    clear c3
    obtain rfl := Option.some.inj H
    go_wp2
    go_ret
    exact ⟨rT_, hB_⟩

/-! ### laws_FnExactRunPoints: function 4 -/
set_option maxHeartbeats 8000000 in
set_option maxRecDepth 100000 in
theorem laws_FnExactRunPoints.calls (k : Nat) (A0 : Option Addr) (c0 : Nat) (l0 : List (S54)) (a1 : ByteArray) (r : Bool) (w : World) (hT_ : TabW Tryd.prog 1 w) (hr0 : Kd.C k54 w A0 l0.length l0) (hc0 : l0.length ≤ c0) (h : laws_FnExactRunPoints.f k l0 a1 = some r) :
 Calls Tryd.prog 4 #[.slice A0 l0.length c0, .string a1] w fun e w' => e = .returned (.bool r) ∧ Below w.heap.size w w' := by
 have HR0 := Aside0.mk hr0
 have HC0 := Aside0.mk hc0
 clear hr0 hc0
 have HT := Aside0.mk hT_
 clear hT_
 have HB := Aside0.mk (Below.refl w.heap.size w)
 have H : (if (a1.size : Int) > 1048576 then (some true) else ((laws_szLocusS.f k l0 1048576).bind fun t234 => (if t234 < 0 then (some true) else ((laws_toLocusS.f k l0).bind fun t235 => ((spec_RunPoints.f k t235 a1).bind fun bt238 => ((laws_toLocusS.f k l0).bind fun t242 => ((impl_RunPoints.f k t242 a1).bind fun bt245 => ((laws_eqStringS.f k bt245.1 bt238.1).bind fun t249 => (if t249 = true then (laws_FnExactRunPoints.j0 k l0 a1 bt238.1 bt238.2 t242 bt245.1 bt245.2 (bt245.2 != bt238.2)) else (laws_FnExactRunPoints.j0 k l0 a1 bt238.1 bt238.2 t242 bt245.1 bt245.2 true)))))))))) = some r := h
 clear h
 by_cases c3 : (a1.size : Int) > 1048576
 ·rw [if_pos c3] at H
  have c3b0 : decide (1048576 < (a1.size : Int)) = true := decide_eq_true c3
  have c3b1 : decide (1048576 < a1.size) = true := decide_eq_true (by omega)
  clear c3
  obtain rfl := Option.some.inj H
  go_enter Tryd.func4, Tryd.ntmps4
  go_wp2
  go_ret
  exact ⟨rT_, hB_⟩
 ·rw [if_neg c3] at H
  have c3b0 : decide (1048576 < (a1.size : Int)) = false := decide_eq_false c3
  have c3b1 : decide (1048576 < a1.size) = false := decide_eq_false (by omega)
  clear c3
  replace H := Option.bind_eq_some_iff.mp H
  obtain ⟨t234, A40, H⟩ := H
  try dsimp only at H
  have A4 := Aside0.mk A40
  clear A40
  by_cases c5 : t234 < 0
  ·rw [if_pos c5] at H
   have c5b0 : decide (t234 < 0) = true := decide_eq_true c5
   clear c5
   obtain rfl := Option.some.inj H
   go_enter Tryd.func4, Tryd.ntmps4
   go_wp2_with (first | ((with_reducible refine gate_callee (f := 10) rfl ?_); refine goesM_ (some 21) Tryd.func10 #[.slice A0 l0.length c0, .int .i64 1048576] ?_; (with_reducible refine (laws_szLocusS.calls k _ _ l0 1048576 t234 _ ?side1 ?side2 A4.out).mono ?_); (case side1 => repeat (first | exact HR0.out | (with_reducible refine Kd.C_alloc ?_ _) | (with_reducible refine Kd.C_drewN ?_ _) | (with_reducible refine Kd.C_drew ?_))); (case side2 => exact HC0.out); rintro e w6 ⟨rfl, hb⟩; refine ⟨_, rfl, ?_⟩; replace HB := aM_ (below_step hB_ hb); (try clear hb); (try clear hb2); (try clear hk); (try clear hi)))
   go_ret
   exact ⟨rT_, hB_⟩
  ·rw [if_neg c5] at H
   have c5b0 : decide (t234 < 0) = false := decide_eq_false c5
   clear c5
   replace H := Option.bind_eq_some_iff.mp H
   obtain ⟨t235, A70, H⟩ := H
   try dsimp only at H
   have A7 := Aside0.mk A70
   clear A70
   replace H := Option.bind_eq_some_iff.mp H
   obtain ⟨⟨t238, t239⟩, A80, H⟩ := H
   try dsimp only at H
   have A8 := Aside0.mk A80
   clear A80
   replace H := Option.bind_eq_some_iff.mp H
   obtain ⟨t242, A90, H⟩ := H
   try dsimp only at H
   have A9 := Aside0.mk A90
   clear A90
   replace H := Option.bind_eq_some_iff.mp H
   obtain ⟨⟨t245, t246⟩, A100, H⟩ := H
   try dsimp only at H
   have A10 := Aside0.mk A100
   clear A100
   have HC11 := Aside0.mk H
   clear H
   go_enter Tryd.func4, Tryd.ntmps4
   go_upto_region 10 with (first | ((with_reducible refine gate_callee (f := 10) rfl ?_); refine goesM_ (some 21) Tryd.func10 #[.slice A0 l0.length c0, .int .i64 1048576] ?_; (with_reducible refine (laws_szLocusS.calls k _ _ l0 1048576 t234 _ ?side1 ?side2 A4.out).mono ?_); (case side1 => repeat (first | exact HR0.out | (with_reducible refine Kd.C_alloc ?_ _) | (with_reducible refine Kd.C_drewN ?_ _) | (with_reducible refine Kd.C_drew ?_))); (case side2 => exact HC0.out); rintro e w12 ⟨rfl, hb⟩; refine ⟨_, rfl, ?_⟩; replace HB := aM_ (below_step hB_ hb); (try clear hb); (try clear hb2); (try clear hk); (try clear hi)) | ((with_reducible refine gate_callee (f := 12) rfl ?_); refine goesM_ (some 26) Tryd.func12 #[.slice A0 l0.length c0] ?_; (with_reducible refine (laws_toLocusS.calls k _ _ l0 t235 _ ?side1 ?side2 A7.out).mono ?_); (case side1 => repeat (first | exact (Kd.C_below HR0.out HB.out) | (with_reducible refine Kd.C_alloc ?_ _) | (with_reducible refine Kd.C_drewN ?_ _) | (with_reducible refine Kd.C_drew ?_))); (case side2 => exact HC0.out); rintro e w13 ⟨v236, rfl, ho0, hb⟩; refine ⟨_, rfl, ?_⟩; have HO237 := aM_ (Kd.R_lower ho0 (below_size hB_)); replace HB := aM_ (below_step hB_ hb); (try clear hb); (try clear hb2); (try clear hk); (try clear hi); (try clear ho0); obtain ⟨Ao14, co14, eo14⟩ := Kd.R_slice HO237.out; subst eo14) | ((with_reducible refine gate_callee (f := 11) rfl ?_); refine goesM_ (some 28) Tryd.func11 #[.slice Ao14 t235.length co14, .string a1] ?_; (with_reducible refine (spec_RunPoints.calls k _ _ t235 a1 t238 t239 _ ?side1 ?side2 A8.out).mono ?_); (case side1 => repeat (first | exact (Kd.R_reads' HO237.out).2.2 | (with_reducible refine Kd.C_alloc ?_ _) | (with_reducible refine Kd.C_drewN ?_ _) | (with_reducible refine Kd.C_drew ?_))); (case side2 => exact (Kd.R_reads' HO237.out).2.1); rintro e w15 ⟨v240, rfl, ho0, hb⟩; refine ⟨_, rfl, ?_⟩; have HO241 := aM_ (Kd.R_lower ho0 (below_size hB_)); replace HO237 := aM_ (Kd.R_below yactRunPointsx8_2_ hb); replace HB := aM_ (below_step hB_ hb); (try clear hb); (try clear hb2); (try clear hk); (try clear hi); (try clear ho0)) | ((with_reducible refine gate_callee (f := 12) rfl ?_); refine goesM_ (some 32) Tryd.func12 #[.slice A0 l0.length c0] ?_; (with_reducible refine (laws_toLocusS.calls k _ _ l0 t242 _ ?side1 ?side2 A9.out).mono ?_); (case side1 => repeat (first | exact (Kd.C_below HR0.out HB.out) | (with_reducible refine Kd.C_alloc ?_ _) | (with_reducible refine Kd.C_drewN ?_ _) | (with_reducible refine Kd.C_drew ?_))); (case side2 => exact HC0.out); rintro e w16 ⟨v243, rfl, ho0, hb⟩; refine ⟨_, rfl, ?_⟩; have HO244 := aM_ (Kd.R_lower (Kd.R_new' ho0 (Kd.R_lt yactRunPointsx8_2_)) (below_size hB_)); replace HO237 := aM_ (Kd.R_elder' yactRunPointsx8_2_ (Kd.R_base ho0) hb); replace HO241 := aM_ (Kd.R_below yactRunPointsx8_3_ hb); replace HB := aM_ (below_step hB_ hb); (try clear hb); (try clear hb2); (try clear hk); (try clear hi); (try clear ho0); obtain ⟨Ao17, co17, eo17⟩ := Kd.R_slice HO244.out; subst eo17) | ((with_reducible refine gate_callee (f := 13) rfl ?_); refine goesM_ (some 36) Tryd.func13 #[.slice Ao17 t242.length co17, .string a1] ?_; (with_reducible refine (impl_RunPoints.calls k _ _ t242 a1 t245 t246 _ ?side3 ?side1 ?side2 A10.out).mono ?_); (case side1 => repeat (first | exact (Kd.R_reads' HO244.out).2.2 | (with_reducible refine Kd.C_alloc ?_ _) | (with_reducible refine Kd.C_drewN ?_ _) | (with_reducible refine Kd.C_drew ?_))); (case side2 => exact (Kd.R_reads' HO244.out).2.1); (case side3 => exact TabW.below HT.out hB_); rintro e w18 ⟨v247, rfl, ho0, hb⟩; refine ⟨_, rfl, ?_⟩; have HO248 := aM_ (Kd.R_lower (Kd.R_new' ho0 (Kd.R_lt yactRunPointsx8_3_)) (below_size hB_)); replace HO237 := aM_ (Kd.R_below yactRunPointsx8_2_ hb); replace HO241 := aM_ (Kd.R_elder' yactRunPointsx8_3_ (Kd.R_base ho0) hb); replace HO244 := aM_ (Kd.R_below (by (with_reducible repeat (first | apply Kd.R_alloc | apply Kd.R_drewN | apply Kd.R_drew)); exact HO244.out) hb); replace HB := aM_ (below_step hB_ hb); (try clear hb); (try clear hb2); (try clear hk); (try clear hi); (try clear ho0)))
   (try simp only [Act.put, List.setIfInBounds_toArray, List.set_cons_zero, List.set_cons_succ])
   go_cut [47] (fun v47 wc => ∃ (kq : Nat) (x47_10 : Bool), v47 = .bool x47_10 ∧ Aside0 (laws_FnExactRunPoints.j0 kq l0 a1 t238 t239 t242 t245 t246 x47_10 = some r) ∧ Aside0 (kq ≤ k) ∧ Aside0 (Kd.R Kd.string 9 wc w.heap.size (fun k_ => some k_ ≠ (v247 : Value).ownBlock) v240 t238) ∧ Aside0 (Kd.R k40 40 wc w.heap.size (fun _ => True) (.slice Ao17 t242.length co17) t242) ∧ Aside0 (Kd.R Kd.string 9 wc w.heap.size (fun k_ => some k_ ≠ (v240 : Value).ownBlock) v247 t245) ∧ Aside0 (Below w.heap.size w wc))
   case first =>
    have H := HC11.out
    clear HC11
    replace H := Option.bind_eq_some_iff.mp H
    obtain ⟨t249, A190, H⟩ := H
    try dsimp only at H
    have A19 := Aside0.mk A190
    clear A190
    by_cases c20 : t249 = true
    ·subst c20
     replace H := ip_ H rfl
     have H' := Aside0.mk H
     clear H
     obtain ⟨Ao21, co21, eo21⟩ := Kd.R_slice HO248.out
     subst eo21
     obtain ⟨Ao22, co22, eo22⟩ := Kd.R_slice HO241.out
     subst eo22
     go_wp2_with (first | ((with_reducible refine gate_callee (f := 14) rfl ?_); refine goesM_ (some 41) Tryd.func14 #[.slice Ao21 t245.length co21, .slice Ao22 t238.length co22] ?_; (with_reducible refine (laws_eqStringS.calls k _ _ t245 _ _ t238 true _ ?side1 ?side2 ?side3 ?side4 A19.out).mono ?_); (case side1 => repeat (first | exact (Kd.R_reads' HO248.out).2.2 | (with_reducible refine Kd.C_alloc ?_ _) | (with_reducible refine Kd.C_drewN ?_ _) | (with_reducible refine Kd.C_drew ?_))); (case side2 => exact (Kd.R_reads' HO248.out).2.1); (case side3 => repeat (first | exact (Kd.R_reads' HO241.out).2.2 | (with_reducible refine Kd.C_alloc ?_ _) | (with_reducible refine Kd.C_drewN ?_ _) | (with_reducible refine Kd.C_drew ?_))); (case side4 => exact (Kd.R_reads' HO241.out).2.1); rintro e w' ⟨rfl, ⟨nd, rfl⟩⟩; refine ⟨_, rfl, ?_⟩))
     go_meet
     case rel => exact ⟨_, ((t246 != t239)), yactRunPointsx8_0_, H', ⟨oR_⟩, ⟨yactRunPointsx8_4_⟩, ⟨yactRunPointsx8_5_⟩, ⟨yactRunPointsx8_6_⟩, ⟨hB_⟩⟩
    ·replace c20 := Bool.eq_false_iff.mpr c20
     subst c20
     replace H := in_ H (show ¬ (false = true) by decide)
     have H' := Aside0.mk H
     clear H
     obtain ⟨Ao23, co23, eo23⟩ := Kd.R_slice HO248.out
     subst eo23
     obtain ⟨Ao24, co24, eo24⟩ := Kd.R_slice HO241.out
     subst eo24
     go_wp2_with (first | ((with_reducible refine gate_callee (f := 14) rfl ?_); refine goesM_ (some 41) Tryd.func14 #[.slice Ao23 t245.length co23, .slice Ao24 t238.length co24] ?_; (with_reducible refine (laws_eqStringS.calls k _ _ t245 _ _ t238 false _ ?side1 ?side2 ?side3 ?side4 A19.out).mono ?_); (case side1 => repeat (first | exact (Kd.R_reads' HO248.out).2.2 | (with_reducible refine Kd.C_alloc ?_ _) | (with_reducible refine Kd.C_drewN ?_ _) | (with_reducible refine Kd.C_drew ?_))); (case side2 => exact (Kd.R_reads' HO248.out).2.1); (case side3 => repeat (first | exact (Kd.R_reads' HO241.out).2.2 | (with_reducible refine Kd.C_alloc ?_ _) | (with_reducible refine Kd.C_drewN ?_ _) | (with_reducible refine Kd.C_drew ?_))); (case side4 => exact (Kd.R_reads' HO241.out).2.1); rintro e w' ⟨rfl, ⟨nd, rfl⟩⟩; refine ⟨_, rfl, ?_⟩))
     go_meet
     case rel => exact ⟨_, (true), yactRunPointsx8_0_, H', ⟨oR_⟩, ⟨yactRunPointsx8_4_⟩, ⟨yactRunPointsx8_5_⟩, ⟨yactRunPointsx8_6_⟩, ⟨hB_⟩⟩
   case rest =>
    clear HC11
    (try clear c3);(try clear c3b0);(try clear c3b1);(try clear c5);(try clear c5b0)
    obtain ⟨kq, x47_10, rfl, HA, HJ10, HO_6, HO_8, HO_9, HB⟩ := hcut
    cases kq with
    | zero => exact absurd HA.out (by simp [laws_FnExactRunPoints.j0])
    | succ kj10 =>
     have H := HA.out
     clear HA
     simp only [laws_FnExactRunPoints.j0] at H
     by_cases c25 : x47_10 = true
     ·subst c25
      replace H := ip_ H rfl
      obtain rfl := Option.some.inj H
      go_wp2
      go_ret
      exact ⟨rT_, hB_⟩
     ·replace c25 := Bool.eq_false_iff.mpr c25
      subst c25
      replace H := in_ H (show ¬ (false = true) by decide)
      replace H := Option.bind_eq_some_iff.mp H
      obtain ⟨t250, A260, H⟩ := H
      try dsimp only at H
      have A26 := Aside0.mk A260
      clear A260
      replace H := Option.bind_eq_some_iff.mp H
      obtain ⟨t253, A270, H⟩ := H
      try dsimp only at H
      have A27 := Aside0.mk A270
      clear A270
      by_cases c28 : t253 = true
      ·subst c28
       replace H := ip_ H rfl
       replace H := Option.bind_eq_some_iff.mp H
       obtain ⟨⟨t254, t255⟩, A290, H⟩ := H
       try dsimp only at H
       have A29 := Aside0.mk A290
       clear A290
       have HC30 := Aside0.mk H
       clear H
       go_upto_region 16 with (first | ((with_reducible refine gate_callee (f := 12) rfl ?_); refine goesM_ (some 50) Tryd.func12 #[.slice A0 l0.length c0] ?_; (with_reducible refine (laws_toLocusS.calls kj10 _ _ l0 t250 _ ?side1 ?side2 A26.out).mono ?_); (case side1 => repeat (first | exact (Kd.C_below HR0.out HB.out) | (with_reducible refine Kd.C_alloc ?_ _) | (with_reducible refine Kd.C_drewN ?_ _) | (with_reducible refine Kd.C_drew ?_))); (case side2 => exact HC0.out); rintro e w31 ⟨v251, rfl, ho0, hb⟩; refine ⟨_, rfl, ?_⟩; have HO252 := aM_ (Kd.R_lower (Kd.R_new' ho0 (Kd.R_lt yactRunPointsx8_7_)) (below_size hB_)); replace HO_6 := aM_ (Kd.R_below yactRunPointsx8_8_ hb); replace HO_8 := aM_ (Kd.R_elder' yactRunPointsx8_7_ (Kd.R_base ho0) hb); replace HO_9 := aM_ (Kd.R_below yactRunPointsx8_9_ hb); replace HB := aM_ (below_step hB_ hb); (try clear hb); (try clear hb2); (try clear hk); (try clear hi); (try clear ho0); obtain ⟨Ao32, co32, eo32⟩ := Kd.R_slice HO252.out; subst eo32) | ((with_reducible refine gate_callee (f := 7) rfl ?_); refine goesM_ (some 51) Tryd.func7 #[.slice Ao17 t242.length co17, .slice Ao32 t250.length co32] ?_; (with_reducible refine (laws_eqLocusS.calls kj10 _ _ t242 _ _ t250 true _ ?side1 ?side2 ?side3 ?side4 A27.out).mono ?_); (case side1 => repeat (first | exact (Kd.R_reads' HO_8.out).2.2 | (with_reducible refine Kd.C_alloc ?_ _) | (with_reducible refine Kd.C_drewN ?_ _) | (with_reducible refine Kd.C_drew ?_))); (case side2 => exact (Kd.R_reads' HO_8.out).2.1); (case side3 => repeat (first | exact (Kd.R_reads' HO252.out).2.2 | (with_reducible refine Kd.C_alloc ?_ _) | (with_reducible refine Kd.C_drewN ?_ _) | (with_reducible refine Kd.C_drew ?_))); (case side4 => exact (Kd.R_reads' HO252.out).2.1); rintro e w33 ⟨rfl, hb⟩; refine ⟨_, rfl, ?_⟩; replace HO_6 := aM_ (Kd.R_below yactRunPointsx8_8_ hb); replace HO_8 := aM_ (Kd.R_below yactRunPointsx8_7_ hb); replace HO_9 := aM_ (Kd.R_below yactRunPointsx8_9_ hb); replace HO252 := aM_ (Kd.R_below yactRunPointsx8_10_ hb); replace HB := aM_ (below_step hB_ hb); (try clear hb); (try clear hb2); (try clear hk); (try clear hi)) | ((with_reducible refine gate_callee (f := 8) rfl ?_); refine goesM_ (some 55) Tryd.func8 #[.slice Ao17 t242.length co17, .int .i64 1] ?_; (with_reducible refine (laws_markLocusS.calls kj10 (fun k_ => some k_ = (.slice Ao17 t242.length co17 : Value).ownBlock) (.slice Ao17 t242.length co17) t242 1 t254 t255 w _ ?side1 ?side2 A29.out).mono ?_); (case side1 => repeat (first | (with_reducible first | exact HB.out | apply lA_ | apply lN_ | apply lD_) | exact HB.out)); (case side2 => exact Kd.R_tight rfl HO_8.out); rintro e w34 ⟨rfl, hy0, hb, hkp⟩; refine ⟨_, rfl, ?_⟩; replace HO_6 := aM_ (Kd.R_mono (ok' := fun k_ => some k_ ≠ (v247 : Value).ownBlock) (Kd.R_keptB ((Kd.R_apart' HO_6.out (Kd.R_typed HO_8.out) (by decide))) hkp (fun k_ hk_ hs_ => (hk_.2) hs_)) (fun k_ hk_ => hk_.1.1)); replace HO_9 := aM_ (Kd.R_mono (ok' := fun k_ => some k_ ≠ (v240 : Value).ownBlock) (Kd.R_keptB ((Kd.R_apart' HO_9.out (Kd.R_typed HO_8.out) (by decide))) hkp (fun k_ hk_ hs_ => (hk_.2) hs_)) (fun k_ hk_ => hk_.1.1)); replace HO_8 := aM_ (Kd.R_reok rfl hy0 (fun k_ e_ => HO_8.out.1 k_ e_)); replace HO252 := aM_ (Kd.R_mono (ok' := fun k_ => some k_ ≠ (.slice Ao17 t242.length co17 : Value).ownBlock) (Kd.R_keptB (HO252.out) hkp (fun k_ hk_ hs_ => (hk_.2) hs_)) (fun k_ hk_ => hk_.1.2)); replace HB := aM_ (hb); (try clear hb); (try clear hkp); (try clear hy0)))
       (try simp only [Act.put, List.setIfInBounds_toArray, List.set_cons_zero, List.set_cons_succ])
       go_cut [68] (fun v68 wc => ∃ (kq : Nat) (x68_29 : Bool), v68 = .bool x68_29 ∧ Aside0 (laws_FnExactRunPoints.j1 kq l0 a1 t238 t239 t245 x68_29 = some r) ∧ Aside0 (kq ≤ kj10) ∧ Aside0 (Kd.R Kd.string 9 wc w.heap.size (fun k_ => some k_ ≠ (v247 : Value).ownBlock) v240 t238) ∧ Aside0 (Kd.R Kd.string 9 wc w.heap.size (fun k_ => some k_ ≠ (v240 : Value).ownBlock) v247 t245) ∧ Aside0 (Below w.heap.size w wc))
       case first =>
        have H := HC30.out
        clear HC30
        by_cases c35 : t254 < 0
        ·rw [if_pos c35] at H
         have c35b0 : decide (t254 < 0) = true := decide_eq_true c35
         clear c35
         (first | rw [c35b0] | (simp only [i64_w, i32_w]; rw [c35b0]) | skip)
         have H' := Aside0.mk H
         clear H
         go_wp2
         go_meet
         case rel => exact ⟨_, (true), yactRunPointsx8_0_, H', ⟨yactRunPointsx8_11_⟩, ⟨yactRunPointsx8_8_⟩, ⟨yactRunPointsx8_9_⟩, ⟨hB_⟩⟩
        ·rw [if_neg c35] at H
         have c35b0 : decide (t254 < 0) = false := decide_eq_false c35
         clear c35
         (first | rw [c35b0] | (simp only [i64_w, i32_w]; rw [c35b0]) | skip)
         replace H := Option.bind_eq_some_iff.mp H
         obtain ⟨t256, A360, H⟩ := H
         try dsimp only at H
         have A36 := Aside0.mk A360
         clear A360
         by_cases c37 : t256 = true
         ·subst c37
          replace H := ip_ H rfl
          have H' := Aside0.mk H
          clear H
          obtain ⟨Ao38, co38, eo38⟩ := Kd.R_slice HO_9.out
          subst eo38
          obtain ⟨Ao39, co39, eo39⟩ := Kd.R_slice HO_6.out
          subst eo39
          go_wp2_with (first | (go_at_call 14; (with_reducible refine (laws_eqStringS.calls kj10 _ _ t245 _ _ t238 true _ ?side1 ?side2 ?side3 ?side4 A36.out).mono ?_); (case side1 => repeat (first | exact (Kd.R_reads' HO_9.out).2.2 | (with_reducible refine Kd.C_alloc ?_ _) | (with_reducible refine Kd.C_drewN ?_ _) | (with_reducible refine Kd.C_drew ?_))); (case side2 => exact (Kd.R_reads' HO_9.out).2.1); (case side3 => repeat (first | exact (Kd.R_reads' HO_6.out).2.2 | (with_reducible refine Kd.C_alloc ?_ _) | (with_reducible refine Kd.C_drewN ?_ _) | (with_reducible refine Kd.C_drew ?_))); (case side4 => exact (Kd.R_reads' HO_6.out).2.1); rintro e w' ⟨rfl, ⟨nd, rfl⟩⟩))
          go_meet
          case rel => exact ⟨_, ((t246 != t239)), yactRunPointsx8_0_, H', ⟨yactRunPointsx8_11_⟩, ⟨yactRunPointsx8_8_⟩, ⟨yactRunPointsx8_9_⟩, ⟨hB_⟩⟩
         ·replace c37 := Bool.eq_false_iff.mpr c37
          subst c37
          replace H := in_ H (show ¬ (false = true) by decide)
          have H' := Aside0.mk H
          clear H
          obtain ⟨Ao40, co40, eo40⟩ := Kd.R_slice HO_9.out
          subst eo40
          obtain ⟨Ao41, co41, eo41⟩ := Kd.R_slice HO_6.out
          subst eo41
          go_wp2_with (first | (go_at_call 14; (with_reducible refine (laws_eqStringS.calls kj10 _ _ t245 _ _ t238 false _ ?side1 ?side2 ?side3 ?side4 A36.out).mono ?_); (case side1 => repeat (first | exact (Kd.R_reads' HO_9.out).2.2 | (with_reducible refine Kd.C_alloc ?_ _) | (with_reducible refine Kd.C_drewN ?_ _) | (with_reducible refine Kd.C_drew ?_))); (case side2 => exact (Kd.R_reads' HO_9.out).2.1); (case side3 => repeat (first | exact (Kd.R_reads' HO_6.out).2.2 | (with_reducible refine Kd.C_alloc ?_ _) | (with_reducible refine Kd.C_drewN ?_ _) | (with_reducible refine Kd.C_drew ?_))); (case side4 => exact (Kd.R_reads' HO_6.out).2.1); rintro e w' ⟨rfl, ⟨nd, rfl⟩⟩))
          go_meet
          case rel => exact ⟨_, (true), yactRunPointsx8_0_, H', ⟨yactRunPointsx8_11_⟩, ⟨yactRunPointsx8_8_⟩, ⟨yactRunPointsx8_9_⟩, ⟨hB_⟩⟩
       case rest =>
        clear HC30
        (try clear c3);(try clear c3b0);(try clear c3b1);(try clear c5);(try clear c5b0);(try clear c25);(try clear c28)
        obtain ⟨kq, x68_29, rfl, HA, HJ29, HO_6, HO_9, HB⟩ := hcut
        cases kq with
        | zero => exact absurd HA.out (by simp [laws_FnExactRunPoints.j1])
        | succ kj29 =>
         have H := HA.out
         clear HA
         simp only [laws_FnExactRunPoints.j1] at H
         by_cases c42 : x68_29 = true
         ·subst c42
          replace H := ip_ H rfl
          obtain rfl := Option.some.inj H
          go_wp2
          go_ret
          exact ⟨rT_, hB_⟩
         ·replace c42 := Bool.eq_false_iff.mpr c42
          subst c42
          replace H := in_ H (show ¬ (false = true) by decide)
          replace H := Option.bind_eq_some_iff.mp H
          obtain ⟨⟨t257, t258⟩, A430, H⟩ := H
          try dsimp only at H
          have A43 := Aside0.mk A430
          clear A430
          replace H := Option.bind_eq_some_iff.mp H
          obtain ⟨t259, A440, H⟩ := H
          try dsimp only at H
          have A44 := Aside0.mk A440
          clear A440
          by_cases c45 : t259 < 0
          ·rw [if_pos c45] at H
           have c45b0 : decide (t259 < 0) = true := decide_eq_true c45
           clear c45
           obtain rfl := Option.some.inj H
           obtain ⟨Ao46, co46, eo46⟩ := Kd.R_slice HO_9.out
           subst eo46
           go_wp2_with (first | ((with_reducible refine gate_callee (f := 15) rfl ?_); refine goesM_ (some 71) Tryd.func15 #[.slice Ao46 t245.length co46, .int .i64 1] ?_; (with_reducible refine (laws_markStringS.calls kj29 (fun k_ => some k_ = (.slice Ao46 t245.length co46 : Value).ownBlock) (.slice Ao46 t245.length co46) t245 1 t257 t258 w _ ?side1 ?side2 A43.out).mono ?_); (case side1 => repeat (first | (with_reducible first | exact HB.out | apply lA_ | apply lN_ | apply lD_) | exact HB.out)); (case side2 => exact Kd.R_tight rfl HO_9.out); rintro e w47 ⟨rfl, hy0, hb, hkp⟩; refine ⟨_, rfl, ?_⟩; replace HO_6 := aM_ (Kd.R_mono (ok' := fun k_ => some k_ ≠ (.slice Ao46 t245.length co46 : Value).ownBlock) (Kd.R_keptB (HO_6.out) hkp (fun k_ hk_ hs_ => (hk_) hs_)) (fun k_ hk_ => hk_.1)); replace HO_9 := aM_ (Kd.R_reok rfl hy0 (fun k_ e_ => HO_9.out.1 k_ e_)); replace HB := aM_ (hb); (try clear hb); (try clear hkp); (try clear hy0)) | ((with_reducible refine gate_callee (f := 16) rfl ?_); refine goesL_ (some 74) rfl rfl Tryd.func16 (by kernel_rfl) rfl #[.slice Ao46 t258.length co46, .int .i64 1] rfl yactRunPointsx8_12_ ?_; (with_reducible refine (laws_heldStringS.calls kj29 _ _ t258 1 t259 _ ?side1 ?side2 A44.out).mono ?_); (case side1 => repeat (first | exact (Kd.R_reads' HO_9.out).2.2 | (with_reducible refine Kd.C_alloc ?_ _) | (with_reducible refine Kd.C_drewN ?_ _) | (with_reducible refine Kd.C_drew ?_))); (case side2 => rw [show t258.length = t245.length from (Kd.R_reads' HO_9.out).1.symm]; exact (Kd.R_reads' HO_9.out).2.1); rintro e w48 ⟨rfl, hb⟩; refine ⟨_, rfl, ?_⟩; replace HO_6 := aM_ (Kd.R_below yactRunPointsx8_8_ hb); replace HO_9 := aM_ (Kd.R_below yactRunPointsx8_9_ hb); replace HB := aM_ (below_step hB_ hb); (try clear hb); (try clear hb2); (try clear hk); (try clear hi)))
           go_ret
           exact ⟨rT_, hB_⟩
          ·rw [if_neg c45] at H
           have c45b0 : decide (t259 < 0) = false := decide_eq_false c45
           clear c45
           by_cases c49 : t259 = t257
           ·rw [if_pos c49] at H
            have c49b0 : (t259 == t257) = true := beq_iff_eq.mpr c49
            have c49b1 : (t259 != t257) = false := bne_eq_false_iff_eq.mpr c49
            clear c49
            replace H := Option.bind_eq_some_iff.mp H
            obtain ⟨t260, A500, H⟩ := H
            try dsimp only at H
            have A50 := Aside0.mk A500
            clear A500
            replace H := Option.bind_eq_some_iff.mp H
            obtain ⟨⟨t263, t264⟩, A510, H⟩ := H
            try dsimp only at H
            have A51 := Aside0.mk A510
            clear A510
            have HC52 := Aside0.mk H
            clear H
            obtain ⟨Ao53, co53, eo53⟩ := Kd.R_slice HO_9.out
            subst eo53
            go_upto_region 27 with (first | ((with_reducible refine gate_callee (f := 15) rfl ?_); refine goesM_ (some 71) Tryd.func15 #[.slice Ao53 t245.length co53, .int .i64 1] ?_; (with_reducible refine (laws_markStringS.calls kj29 (fun k_ => some k_ = (.slice Ao53 t245.length co53 : Value).ownBlock) (.slice Ao53 t245.length co53) t245 1 t257 t258 w _ ?side1 ?side2 A43.out).mono ?_); (case side1 => repeat (first | (with_reducible first | exact HB.out | apply lA_ | apply lN_ | apply lD_) | exact HB.out)); (case side2 => exact Kd.R_tight rfl HO_9.out); rintro e w54 ⟨rfl, hy0, hb, hkp⟩; refine ⟨_, rfl, ?_⟩; replace HO_6 := aM_ (Kd.R_mono (ok' := fun k_ => some k_ ≠ (.slice Ao53 t245.length co53 : Value).ownBlock) (Kd.R_keptB (HO_6.out) hkp (fun k_ hk_ hs_ => (hk_) hs_)) (fun k_ hk_ => hk_.1)); replace HO_9 := aM_ (Kd.R_reok rfl hy0 (fun k_ e_ => HO_9.out.1 k_ e_)); replace HB := aM_ (hb); (try clear hb); (try clear hkp); (try clear hy0)) | ((with_reducible refine gate_callee (f := 16) rfl ?_); refine goesL_ (some 74) rfl rfl Tryd.func16 (by kernel_rfl) rfl #[.slice Ao53 t258.length co53, .int .i64 1] rfl yactRunPointsx8_12_ ?_; (with_reducible refine (laws_heldStringS.calls kj29 _ _ t258 1 t259 _ ?side1 ?side2 A44.out).mono ?_); (case side1 => repeat (first | exact (Kd.R_reads' HO_9.out).2.2 | (with_reducible refine Kd.C_alloc ?_ _) | (with_reducible refine Kd.C_drewN ?_ _) | (with_reducible refine Kd.C_drew ?_))); (case side2 => rw [show t258.length = t245.length from (Kd.R_reads' HO_9.out).1.symm]; exact (Kd.R_reads' HO_9.out).2.1); rintro e w55 ⟨rfl, hb⟩; refine ⟨_, rfl, ?_⟩; replace HO_6 := aM_ (Kd.R_below yactRunPointsx8_8_ hb); replace HO_9 := aM_ (Kd.R_below yactRunPointsx8_9_ hb); replace HB := aM_ (below_step hB_ hb); (try clear hb); (try clear hb2); (try clear hk); (try clear hi)) | ((with_reducible refine gate_callee (f := 12) rfl ?_); refine goesM_ (some 82) Tryd.func12 #[.slice A0 l0.length c0] ?_; (with_reducible refine (laws_toLocusS.calls kj29 _ _ l0 t260 _ ?side1 ?side2 A50.out).mono ?_); (case side1 => repeat (first | exact (Kd.C_below HR0.out HB.out) | (with_reducible refine Kd.C_alloc ?_ _) | (with_reducible refine Kd.C_drewN ?_ _) | (with_reducible refine Kd.C_drew ?_))); (case side2 => exact HC0.out); rintro e w56 ⟨v261, rfl, ho0, hb⟩; refine ⟨_, rfl, ?_⟩; have HO262 := aM_ (Kd.R_lower ho0 (below_size hB_)); replace HO_6 := aM_ (Kd.R_below yactRunPointsx8_8_ hb); replace HO_9 := aM_ (Kd.R_below yactRunPointsx8_9_ hb); replace HB := aM_ (below_step hB_ hb); (try clear hb); (try clear hb2); (try clear hk); (try clear hi); (try clear ho0); obtain ⟨Ao57, co57, eo57⟩ := Kd.R_slice HO262.out; subst eo57) | ((with_reducible refine gate_callee (f := 13) rfl ?_); refine goesM_ (some 84) Tryd.func13 #[.slice Ao57 t260.length co57, .string a1] ?_; (with_reducible refine (impl_RunPoints.calls kj29 _ _ t260 a1 t263 t264 _ ?side3 ?side1 ?side2 A51.out).mono ?_); (case side1 => repeat (first | exact (Kd.R_reads' HO262.out).2.2 | (with_reducible refine Kd.C_alloc ?_ _) | (with_reducible refine Kd.C_drewN ?_ _) | (with_reducible refine Kd.C_drew ?_))); (case side2 => exact (Kd.R_reads' HO262.out).2.1); (case side3 => exact TabW.below HT.out hB_); rintro e w58 ⟨v265, rfl, ho0, hb⟩; refine ⟨_, rfl, ?_⟩; have HO266 := aM_ (Kd.R_lower (Kd.R_new' (Kd.R_new' ho0 (Kd.R_lt yactRunPointsx8_8_)) (Kd.R_lt yactRunPointsx8_9_)) (below_size hB_)); replace HO_6 := aM_ (Kd.R_elder' yactRunPointsx8_8_ (Kd.R_base ho0) hb); replace HO_9 := aM_ (Kd.R_elder' yactRunPointsx8_9_ (Kd.R_base ho0) hb); replace HO262 := aM_ (Kd.R_below (by (with_reducible repeat (first | apply Kd.R_alloc | apply Kd.R_drewN | apply Kd.R_drew)); exact HO262.out) hb); replace HB := aM_ (below_step hB_ hb); (try clear hb); (try clear hb2); (try clear hk); (try clear hi); (try clear ho0)))
            (try simp only [Act.put, List.setIfInBounds_toArray, List.set_cons_zero, List.set_cons_succ])
            go_cut [95] (fun v95 wc => ∃ (kq : Nat) (x95_51 : Bool), v95 = .bool x95_51 ∧ Aside0 (laws_FnExactRunPoints.j2 kq t258 t257 x95_51 = some r) ∧ Aside0 (kq ≤ kj29) ∧ Aside0 (Kd.R Kd.string 9 wc w.heap.size (fun _ => True) (.slice Ao53 t245.length co53) t258) ∧ Aside0 (Below w.heap.size w wc))
            case first =>
             have H := HC52.out
             clear HC52
             replace H := Option.bind_eq_some_iff.mp H
             obtain ⟨t267, A590, H⟩ := H
             try dsimp only at H
             have A59 := Aside0.mk A590
             clear A590
             by_cases c60 : t267 = true
             ·subst c60
              replace H := ip_ H rfl
              have H' := Aside0.mk H
              clear H
              obtain ⟨Ao61, co61, eo61⟩ := Kd.R_slice HO266.out
              subst eo61
              obtain ⟨Ao62, co62, eo62⟩ := Kd.R_slice HO_6.out
              subst eo62
              go_wp2_with (first | ((with_reducible refine gate_callee (f := 14) rfl ?_); refine goesM_ (some 89) Tryd.func14 #[.slice Ao61 t263.length co61, .slice Ao62 t238.length co62] ?_; (with_reducible refine (laws_eqStringS.calls kj29 _ _ t263 _ _ t238 true _ ?side1 ?side2 ?side3 ?side4 A59.out).mono ?_); (case side1 => repeat (first | exact (Kd.R_reads' HO266.out).2.2 | (with_reducible refine Kd.C_alloc ?_ _) | (with_reducible refine Kd.C_drewN ?_ _) | (with_reducible refine Kd.C_drew ?_))); (case side2 => exact (Kd.R_reads' HO266.out).2.1); (case side3 => repeat (first | exact (Kd.R_reads' HO_6.out).2.2 | (with_reducible refine Kd.C_alloc ?_ _) | (with_reducible refine Kd.C_drewN ?_ _) | (with_reducible refine Kd.C_drew ?_))); (case side4 => exact (Kd.R_reads' HO_6.out).2.1); rintro e w' ⟨rfl, ⟨nd, rfl⟩⟩; refine ⟨_, rfl, ?_⟩))
              go_meet
              case rel => exact ⟨_, ((t264 != t239)), yactRunPointsx8_0_, H', ⟨by have := HJ10.out; have := HJ29.out; first | omega | exact Nat.le_refl _⟩, ⟨yactRunPointsx8_13_⟩, ⟨hB_⟩⟩
             ·replace c60 := Bool.eq_false_iff.mpr c60
              subst c60
              replace H := in_ H (show ¬ (false = true) by decide)
              have H' := Aside0.mk H
              clear H
              obtain ⟨Ao63, co63, eo63⟩ := Kd.R_slice HO266.out
              subst eo63
              obtain ⟨Ao64, co64, eo64⟩ := Kd.R_slice HO_6.out
              subst eo64
              go_wp2_with (first | ((with_reducible refine gate_callee (f := 14) rfl ?_); refine goesM_ (some 89) Tryd.func14 #[.slice Ao63 t263.length co63, .slice Ao64 t238.length co64] ?_; (with_reducible refine (laws_eqStringS.calls kj29 _ _ t263 _ _ t238 false _ ?side1 ?side2 ?side3 ?side4 A59.out).mono ?_); (case side1 => repeat (first | exact (Kd.R_reads' HO266.out).2.2 | (with_reducible refine Kd.C_alloc ?_ _) | (with_reducible refine Kd.C_drewN ?_ _) | (with_reducible refine Kd.C_drew ?_))); (case side2 => exact (Kd.R_reads' HO266.out).2.1); (case side3 => repeat (first | exact (Kd.R_reads' HO_6.out).2.2 | (with_reducible refine Kd.C_alloc ?_ _) | (with_reducible refine Kd.C_drewN ?_ _) | (with_reducible refine Kd.C_drew ?_))); (case side4 => exact (Kd.R_reads' HO_6.out).2.1); rintro e w' ⟨rfl, ⟨nd, rfl⟩⟩; refine ⟨_, rfl, ?_⟩))
              go_meet
              case rel => exact ⟨_, (true), yactRunPointsx8_0_, H', ⟨by have := HJ10.out; have := HJ29.out; first | omega | exact Nat.le_refl _⟩, ⟨yactRunPointsx8_13_⟩, ⟨hB_⟩⟩
            case rest =>
             clear HC52
             (try clear c3);(try clear c3b0);(try clear c3b1);(try clear c5);(try clear c5b0);(try clear c25);(try clear c28);(try clear c42);(try clear c45);(try clear c45b0);(try clear c49);(try clear c49b0);(try clear c49b1)
             obtain ⟨kq, x95_51, rfl, HA, HJ51, HO_9, HB⟩ := hcut
             have hl9_51 := (Kd.R_reads' HO_9.out).1
             rw [hl9_51] at HO_9
             (try simp only [hl9_51])
             cases kq with
             | zero => exact absurd HA.out (by simp [laws_FnExactRunPoints.j2])
             | succ kj51 =>
              have H := HA.out
              clear HA
              simp only [laws_FnExactRunPoints.j2] at H
              by_cases c65 : x95_51 = true
              ·subst c65
               replace H := ip_ H rfl
               obtain rfl := Option.some.inj H
               go_wp2
               go_ret
               exact ⟨rT_, hB_⟩
              ·replace c65 := Bool.eq_false_iff.mpr c65
               subst c65
               replace H := in_ H (show ¬ (false = true) by decide)
               replace H := Option.bind_eq_some_iff.mp H
               obtain ⟨t268, A660, H⟩ := H
               try dsimp only at H
               have A66 := Aside0.mk A660
               clear A660
               by_cases c67 : t268 < 0
               ·rw [if_pos c67] at H
                have c67b0 : decide (t268 < 0) = true := decide_eq_true c67
                clear c67
                obtain rfl := Option.some.inj H
                go_wp2_with (first | ((with_reducible refine gate_callee (f := 16) rfl ?_); refine goesM_ (some 98) Tryd.func16 #[.slice Ao53 t258.length co53, .int .i64 1] ?_; (with_reducible refine (laws_heldStringS.calls kj51 _ _ t258 1 t268 _ ?side1 ?side2 A66.out).mono ?_); (case side1 => repeat (first | exact (Kd.R_reads' HO_9.out).2.2 | (with_reducible refine Kd.C_alloc ?_ _) | (with_reducible refine Kd.C_drewN ?_ _) | (with_reducible refine Kd.C_drew ?_))); (case side2 => exact (Kd.R_reads' HO_9.out).2.1); rintro e w68 ⟨rfl, hb⟩; refine ⟨_, rfl, ?_⟩; replace HO_9 := aM_ (Kd.R_below yactRunPointsx8_9_ hb); replace HB := aM_ (below_step hB_ hb); (try clear hb); (try clear hb2); (try clear hk); (try clear hi)))
                go_ret
                exact ⟨rT_, hB_⟩
               ·rw [if_neg c67] at H
                have c67b0 : decide (t268 < 0) = false := decide_eq_false c67
                clear c67
                by_cases c69 : t268 = t257
                ·rw [if_pos c69] at H
                 have c69b0 : (t268 == t257) = true := beq_iff_eq.mpr c69
                 have c69b1 : (t268 != t257) = false := bne_eq_false_iff_eq.mpr c69
                 clear c69
                 obtain rfl := Option.some.inj H
                 go_wp2_with (first | ((with_reducible refine gate_callee (f := 16) rfl ?_); refine goesM_ (some 98) Tryd.func16 #[.slice Ao53 t258.length co53, .int .i64 1] ?_; (with_reducible refine (laws_heldStringS.calls kj51 _ _ t258 1 t268 _ ?side1 ?side2 A66.out).mono ?_); (case side1 => repeat (first | exact (Kd.R_reads' HO_9.out).2.2 | (with_reducible refine Kd.C_alloc ?_ _) | (with_reducible refine Kd.C_drewN ?_ _) | (with_reducible refine Kd.C_drew ?_))); (case side2 => exact (Kd.R_reads' HO_9.out).2.1); rintro e w70 ⟨rfl, hb⟩; refine ⟨_, rfl, ?_⟩; replace HO_9 := aM_ (Kd.R_below yactRunPointsx8_9_ hb); replace HB := aM_ (below_step hB_ hb); (try clear hb); (try clear hb2); (try clear hk); (try clear hi)))
                 go_ret
                 exact ⟨rT_, hB_⟩
                ·rw [if_neg c69] at H
                 have c69b0 : (t268 == t257) = false := beq_eq_false_iff_ne.mpr c69
                 have c69b1 : (t268 != t257) = true := bne_iff_ne.mpr c69
                 obtain rfl := Option.some.inj H
                 go_wp2_with (first | ((with_reducible refine gate_callee (f := 16) rfl ?_); refine goesM_ (some 98) Tryd.func16 #[.slice Ao53 t258.length co53, .int .i64 1] ?_; (with_reducible refine (laws_heldStringS.calls kj51 _ _ t258 1 t268 _ ?side1 ?side2 A66.out).mono ?_); (case side1 => repeat (first | exact (Kd.R_reads' HO_9.out).2.2 | (with_reducible refine Kd.C_alloc ?_ _) | (with_reducible refine Kd.C_drewN ?_ _) | (with_reducible refine Kd.C_drew ?_))); (case side2 => exact (Kd.R_reads' HO_9.out).2.1); rintro e w71 ⟨rfl, hb⟩; refine ⟨_, rfl, ?_⟩; replace HO_9 := aM_ (Kd.R_below yactRunPointsx8_9_ hb); replace HB := aM_ (below_step hB_ hb); (try clear hb); (try clear hb2); (try clear hk); (try clear hi)))
                 go_ret
                 exact ⟨rT_, hB_⟩
           ·rw [if_neg c49] at H
            have c49b0 : (t259 == t257) = false := beq_eq_false_iff_ne.mpr c49
            have c49b1 : (t259 != t257) = true := bne_iff_ne.mpr c49
            obtain rfl := Option.some.inj H
            obtain ⟨Ao72, co72, eo72⟩ := Kd.R_slice HO_9.out
            subst eo72
            go_wp2_with (first | ((with_reducible refine gate_callee (f := 15) rfl ?_); refine goesM_ (some 71) Tryd.func15 #[.slice Ao72 t245.length co72, .int .i64 1] ?_; (with_reducible refine (laws_markStringS.calls kj29 (fun k_ => some k_ = (.slice Ao72 t245.length co72 : Value).ownBlock) (.slice Ao72 t245.length co72) t245 1 t257 t258 w _ ?side1 ?side2 A43.out).mono ?_); (case side1 => repeat (first | (with_reducible first | exact HB.out | apply lA_ | apply lN_ | apply lD_) | exact HB.out)); (case side2 => exact Kd.R_tight rfl HO_9.out); rintro e w73 ⟨rfl, hy0, hb, hkp⟩; refine ⟨_, rfl, ?_⟩; replace HO_6 := aM_ (Kd.R_mono (ok' := fun k_ => some k_ ≠ (.slice Ao72 t245.length co72 : Value).ownBlock) (Kd.R_keptB (HO_6.out) hkp (fun k_ hk_ hs_ => (hk_) hs_)) (fun k_ hk_ => hk_.1)); replace HO_9 := aM_ (Kd.R_reok rfl hy0 (fun k_ e_ => HO_9.out.1 k_ e_)); replace HB := aM_ (hb); (try clear hb); (try clear hkp); (try clear hy0)) | ((with_reducible refine gate_callee (f := 16) rfl ?_); refine goesL_ (some 74) rfl rfl Tryd.func16 (by kernel_rfl) rfl #[.slice Ao72 t258.length co72, .int .i64 1] rfl yactRunPointsx8_12_ ?_; (with_reducible refine (laws_heldStringS.calls kj29 _ _ t258 1 t259 _ ?side1 ?side2 A44.out).mono ?_); (case side1 => repeat (first | exact (Kd.R_reads' HO_9.out).2.2 | (with_reducible refine Kd.C_alloc ?_ _) | (with_reducible refine Kd.C_drewN ?_ _) | (with_reducible refine Kd.C_drew ?_))); (case side2 => rw [show t258.length = t245.length from (Kd.R_reads' HO_9.out).1.symm]; exact (Kd.R_reads' HO_9.out).2.1); rintro e w74 ⟨rfl, hb⟩; refine ⟨_, rfl, ?_⟩; replace HO_6 := aM_ (Kd.R_below yactRunPointsx8_8_ hb); replace HO_9 := aM_ (Kd.R_below yactRunPointsx8_9_ hb); replace HB := aM_ (below_step hB_ hb); (try clear hb); (try clear hb2); (try clear hk); (try clear hi)))
            go_ret
            exact ⟨rT_, hB_⟩
      ·replace c28 := Bool.eq_false_iff.mpr c28
       subst c28
       replace H := in_ H (show ¬ (false = true) by decide)
       obtain rfl := Option.some.inj H
       go_wp2_with (first | ((with_reducible refine gate_callee (f := 12) rfl ?_); refine goesM_ (some 50) Tryd.func12 #[.slice A0 l0.length c0] ?_; (with_reducible refine (laws_toLocusS.calls kj10 _ _ l0 t250 _ ?side1 ?side2 A26.out).mono ?_); (case side1 => repeat (first | exact (Kd.C_below HR0.out HB.out) | (with_reducible refine Kd.C_alloc ?_ _) | (with_reducible refine Kd.C_drewN ?_ _) | (with_reducible refine Kd.C_drew ?_))); (case side2 => exact HC0.out); rintro e w75 ⟨v251, rfl, ho0, hb⟩; refine ⟨_, rfl, ?_⟩; have HO252 := aM_ (Kd.R_lower (Kd.R_new' ho0 (Kd.R_lt yactRunPointsx8_7_)) (below_size hB_)); replace HO_6 := aM_ (Kd.R_below yactRunPointsx8_8_ hb); replace HO_8 := aM_ (Kd.R_elder' yactRunPointsx8_7_ (Kd.R_base ho0) hb); replace HO_9 := aM_ (Kd.R_below yactRunPointsx8_9_ hb); replace HB := aM_ (below_step hB_ hb); (try clear hb); (try clear hb2); (try clear hk); (try clear hi); (try clear ho0); obtain ⟨Ao76, co76, eo76⟩ := Kd.R_slice HO252.out; subst eo76) | ((with_reducible refine gate_callee (f := 7) rfl ?_); refine goesM_ (some 51) Tryd.func7 #[.slice Ao17 t242.length co17, .slice Ao76 t250.length co76] ?_; (with_reducible refine (laws_eqLocusS.calls kj10 _ _ t242 _ _ t250 false _ ?side1 ?side2 ?side3 ?side4 A27.out).mono ?_); (case side1 => repeat (first | exact (Kd.R_reads' HO_8.out).2.2 | (with_reducible refine Kd.C_alloc ?_ _) | (with_reducible refine Kd.C_drewN ?_ _) | (with_reducible refine Kd.C_drew ?_))); (case side2 => exact (Kd.R_reads' HO_8.out).2.1); (case side3 => repeat (first | exact (Kd.R_reads' HO252.out).2.2 | (with_reducible refine Kd.C_alloc ?_ _) | (with_reducible refine Kd.C_drewN ?_ _) | (with_reducible refine Kd.C_drew ?_))); (case side4 => exact (Kd.R_reads' HO252.out).2.1); rintro e w77 ⟨rfl, hb⟩; refine ⟨_, rfl, ?_⟩; replace HO_6 := aM_ (Kd.R_below yactRunPointsx8_8_ hb); replace HO_8 := aM_ (Kd.R_below yactRunPointsx8_7_ hb); replace HO_9 := aM_ (Kd.R_below yactRunPointsx8_9_ hb); replace HO252 := aM_ (Kd.R_below yactRunPointsx8_10_ hb); replace HB := aM_ (below_step hB_ hb); (try clear hb); (try clear hb2); (try clear hk); (try clear hi)))
       go_ret
       exact ⟨rT_, hB_⟩
theorem laws_FnExactRunPoints.walk : True := trivial

end Go.Proofs.YtgjljcejhdpibaaDoor.PFnExactRunPoints
