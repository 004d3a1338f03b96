/- Printed for this claim: functions of the program as Lean functions, and that the calls answer so. -/
import Derived.Test.YtbfkpgmdbafmhaaPFnTierCountsx0
import Derived.Test.YtbfkpgmdbafmhaaPFnTierCountsx1
import Derived.Test.YtbfkpgmdbafmhaaPFnTierCountsx3
import Derived.Test.YtbfkpgmdbafmhaaPFnTierCountsx5
import Derived.Test.YtbfkpgmdbafmhaaPFnTierCountsx12
import Derived.Test.YtbfkpgmdbafmhaaPFnTierCountsxD0
import Derived.Test.YtbfkpgmdbafmhaaPFnTierCountsxD1
namespace Go.Proofs.Ytbfkpgmdbafmhaa.PFnTierCounts
open Go.RowKit Go.Proofs.YtbfkpgmdbafmhaaW.PrintWords Go.Proofs.YtbfkpgmdbafmhaaW.PrintLast Go.Proofs.YtbfkpgmdbafmhaaW.PrintMore
theorem z13_0_ {p : Prop} (h : p := by repeat (first | (with_reducible first | exact HI508.out | apply IsS62.alloc | apply IsS62.drewN | apply IsS62.drew | apply IsS62.set_1 | apply IsS62.set_2) | exact HI508.out)) : p := h
theorem z13_1_ {p : Prop} (h : p := by repeat (first | (with_reducible first | exact HB.out | apply lA_ | apply lN_ | apply lD_ | refine below_set ?_ (IsS62.ge HI508.out)) | exact HB.out)) : p := h
theorem z13_2_ {p : Prop} (h : p := by first | rfl | (simp; done) | (simp [*]; done)) : p := h
theorem z13_3_ {p : Prop} (h : p := by repeat (first | exact (Kd.C_below HR0.out HB.out) | (with_reducible first | apply cA_ | apply cN_ | apply cD_))) : p := h
theorem z13_4_ {p : Prop} (h : p := by repeat (first | exact (Kd.C_below HR1.out HB.out) | (with_reducible first | apply cA_ | apply cN_ | apply cD_))) : p := h
theorem z13_5_ {p : Prop} (h : p := by first | exact Kd.S_nil _ _ _ _ _ | exact Kd.N_nil _ _ _ _ _ | exact Kd.V_nil _ _ _ _ _ | exact Kd.Q_nil _ _ _ _ _ | exact Kd.R_nil _ _ _ _ _) : p := h
theorem z13_6_ {p : Prop} (h : p := by have := HJ2.out; have := HK2.out; have := HK3.out; omega) : p := h
theorem z13_7_ {p : Prop} (h : p := by (with_reducible repeat (first | apply kN_ | apply kD_ | apply kA_)); refine blk_far ?_ NB537_539.out _; (with_reducible repeat (first | apply kN_ | apply kD_ | apply kA_)); refine blk_far ?_ NB537_539.out _; (with_reducible repeat (first | apply kN_ | apply kD_ | apply kA_)); refine blk_far ?_ NB537_539.out _; (with_reducible repeat (first | apply kN_ | apply kD_ | apply kA_)); exact BK537.out) : p := h
theorem z13_8_ {p : Prop} (h : p := by (with_reducible repeat (first | apply Kd.S_alloc | apply Kd.S_drewN | apply Kd.S_drew)); exact Kd.S_mono HO_6.out (fun k_ hk => ⟨trivial, fun e_ => hk.2 e_⟩)) : p := h
theorem z13_9_ {p : Prop} (h : p := by have := HK1.out; have := HK2.out; omega) : p := h
theorem z13_10_ {p : Prop} (h : p := by (with_reducible repeat (first | apply kN_ | apply kD_ | apply kA_)); refine blk_far ?_ NB550_552.out _; (with_reducible repeat (first | apply kN_ | apply kD_ | apply kA_)); refine blk_far ?_ NB550_552.out _; (with_reducible repeat (first | apply kN_ | apply kD_ | apply kA_)); refine blk_far ?_ NB550_552.out _; (with_reducible repeat (first | apply kN_ | apply kD_ | apply kA_)); exact BK550.out) : p := h
theorem z13_11_ {p : Prop} (h : p := by repeat (first | (with_reducible first | exact HI559.out | apply IsS62.alloc | apply IsS62.drewN | apply IsS62.drew | apply IsS62.set_1 | apply IsS62.set_2) | exact HI559.out)) : p := h
theorem z13_12_ {p : Prop} (h : p := by repeat (first | (with_reducible first | exact HB.out | apply lA_ | apply lN_ | apply lD_ | refine below_set ?_ (IsS62.ge HI559.out)) | exact HB.out)) : p := h
set_option maxHeartbeats 8000000
set_option maxRecDepth 100000
attribute [local go_sem] max2_int min2_int max_two min_two max_three min_three max_four min_four isSome_setCell   -- for this text's walks alone
set_option linter.unusedVariables false
set_option linter.unusedSimpArgs false

/-! ### spec_DrawCommonNotes: function 45 -/
theorem spec_DrawCommonNotes.calls (k : Nat) (A0 : Option Addr) (c0 : Nat) (l0 : List Int) (r1 : List (S50)) (r2 : List (S50)) (w : World) (hr0 : Kd.C (Kd.int .u8) w A0 l0.length l0) (hc0 : l0.length ≤ c0) (h : spec_DrawCommonNotes.f k l0 = some (r1, r2)) :
 Calls Try.prog 45 #[.slice A0 l0.length c0] w fun e w' => ∃ v0_ v1_ : Value, e = .returned (.tuple #[v0_, v1_]) ∧ Kd.R k50 50 w' w.heap.size (fun k_ => some k_ ≠ (v1_ : Value).ownBlock) v0_ r1 ∧ Kd.R k50 50 w' w.heap.size (fun k_ => some k_ ≠ (v0_ : Value).ownBlock) v1_ r2 ∧ Below w.heap.size w w' := by
 have hu62 := Try.underlying62
 have HR0 := Aside0.mk hr0
 have HC0 := Aside0.mk hc0
 clear hr0 hc0
 have HB := Aside0.mk (Below.refl w.heap.size w)
 have H : ((spec_l1Cur_tier.f k l0 0 0).bind fun bt509 => ((spec_tiGood.f k bt509.1).bind fun t514 => (if t514 = true then ((spec_l1Cur_one.f l0 bt509.2.1 bt509.2.2 6).bind fun bt515 => (spec_DrawCommonNotes.j0 k bt509.1 (!bt515.1) l0 bt515.2.1 bt515.2.2)) else (spec_DrawCommonNotes.j0 k bt509.1 false l0 bt509.2.1 bt509.2.2)))) = some (r1, r2) := h
 clear h
 replace H := ob_ H; obtain ⟨⟨t509, t512, t513⟩, A2, H⟩ := H; try dsimp only at H
 have HC3 := Aside0.mk H
 clear H
 go_enter Try.func45, Try.ntmps45
 go_upto_region 3 with (first | ((with_reducible refine gate_dst (N := 8) rfl ?_); refine bx_ 8 #[.slice A0 l0.length c0, .int .i64 0, .int .u64 0] 62 fun gb508 hg w4 hbox hb => ?_; have HI508 := aM_ ((show IsS62 w w4 gb508 l0 0 0 from ⟨A0, c0, hbox, (by rw [hg]; exact (below_size hB_) : w.heap.size ≤ gb508), HR0.out⟩)); replace HB := aM_ (below_step hB_ hb); clear hb hbox hg) | (refine gM_ (some 10) Try.func33 #[.pointer (some ⟨gb508, 0, none⟩)] ?_; (with_reducible refine (spec_l1Cur_tier.calls k gb508 l0 0 0 t509 t512 t513 w _ ?side1 ?side2 A2.out).mono ?_); (case side1 => exact z13_0_); (case side2 => exact z13_1_); rintro e w5 ⟨v510, rfl, ho0, hi, hb, hk⟩; refine ⟨_, rfl, ?_⟩; have HO511 := aM_ (Kd.R_lower ho0 (below_size z13_1_)); replace HB := aM_ (hb); replace HI508 := aM_ (hi); (try clear hb); (try clear hk); (try clear hi); (try clear ho0)))
 (try simp only [Act.put, List.setIfInBounds_toArray, List.set_cons_zero, List.set_cons_succ])
 go_cut [17] (fun v17 wc => ∃ (kq : Nat) (x17_2 : Bool) (x509001_2 : Int) (x509002_2 : Int), v17 = .bool x17_2 ∧ Aside0 (spec_DrawCommonNotes.j0 kq t509 x17_2 l0 x509001_2 x509002_2 = some (r1, r2)) ∧ Aside0 (kq ≤ k) ∧ Aside0 (Kd.R k50 50 wc w.heap.size (fun _ => True) v510 t509) ∧ Aside0 (IsS62 w wc gb508 l0 x509001_2 x509002_2) ∧ Aside0 (Below w.heap.size w wc))
 case first =>
  have H := HC3.out
  clear HC3
  replace H := ob_ H; obtain ⟨t514, A6, H⟩ := H; try dsimp only at H
  by_cases c7 : t514 = true
  rotate_left
  ·replace c7 := Bool.eq_false_iff.mpr c7
   subst c7
   replace H := in_ H (show ¬ (false = true) by decide)
   have H' := Aside0.mk H
   clear H
   obtain ⟨Ao12, co12, eo12⟩ := Kd.R_slice HO511.out
   subst eo12
   go_wp2_with (first | (refine gM_ (some 12) Try.func31 #[.slice Ao12 t509.length co12] ?_; (with_reducible refine (spec_tiGood.calls k _ _ t509 false _ ?side1 ?side2 A6.out).mono ?_); (case side1 => exact cR_ HO511); (case side2 => exact (Kd.R_reads' HO511.out).2.1); rintro e w13 ⟨rfl, hb⟩; refine ⟨_, rfl, ?_⟩; replace HO511 := aM_ (Kd.R_below (rR_ HO511) hb); replace HB := aM_ (below_step z13_1_ hb); replace HI508 := aM_ (IsS62.below z13_0_ hb); (try clear hb)))
   go_meet
   case rel => exact ⟨_, (false), (t512), (t513), z13_2_, H', ⟨oR_⟩, ⟨(rR_ HO511)⟩, ⟨z13_0_⟩, ⟨z13_1_⟩⟩
  subst c7
  replace H := ip_ H rfl
  replace H := ob_ H; obtain ⟨⟨t515, t516, t517⟩, A8, H⟩ := H; try dsimp only at H
  have H' := Aside0.mk H
  clear H
  obtain ⟨Ao9, co9, eo9⟩ := Kd.R_slice HO511.out
  subst eo9
  go_wp2_with (first | (refine gM_ (some 12) Try.func31 #[.slice Ao9 t509.length co9] ?_; (with_reducible refine (spec_tiGood.calls k _ _ t509 true _ ?side1 ?side2 A6.out).mono ?_); (case side1 => exact cR_ HO511); (case side2 => exact (Kd.R_reads' HO511.out).2.1); rintro e w10 ⟨rfl, hb⟩; refine ⟨_, rfl, ?_⟩; replace HO511 := aM_ (Kd.R_below (rR_ HO511) hb); replace HB := aM_ (below_step z13_1_ hb); replace HI508 := aM_ (IsS62.below z13_0_ hb); (try clear hb); (try clear hk); (try clear hi)) | (go_at_call 59; (with_reducible refine (spec_l1Cur_one.calls gb508 l0 t512 t513 6 t515 t516 t517 w _ ?side1 ?side2 A8.out).mono ?_); (case side1 => exact z13_0_); (case side2 => exact z13_1_); rintro e w11 ⟨rfl, hi, hb, hk⟩; replace HO511 := aM_ (Kd.R_mono (Kd.R_keep (IsS62.apart (show IsS62 w _ gb508 l0 t512 t513 from by repeat (first | (with_reducible first | exact HI508.out | apply IsS62.alloc | apply IsS62.drewN | apply IsS62.drew | apply IsS62.set_1 | apply IsS62.set_2) | exact HI508.out)) (rR_ HO511) (by decide)) hk (fun _ h => h.2)) (fun _ h => h.1)); replace HB := aM_ (hb); replace HI508 := aM_ (hi); (try clear hb); (try clear hk); (try clear hi)))
  go_meet
  case rel => exact ⟨_, (!t515), (t516), (t517), z13_2_, H', ⟨oR_⟩, ⟨(rR_ HO511)⟩, ⟨z13_0_⟩, ⟨z13_1_⟩⟩
 case rest =>
  clear HC3
  obtain ⟨kq, x17_2, x509001_2, x509002_2, rfl, HA, HJ2, HO_5, HI508, HB⟩ := hcut
  cases kq with
  | zero => exact absurd HA.out (by simp [spec_DrawCommonNotes.j0])
  | succ kj2 =>
   have H := HA.out
   clear HA
   simp only [spec_DrawCommonNotes.j0] at H
   by_cases c14 : x17_2 = true
   rotate_left
   ·replace c14 := Bool.eq_false_iff.mpr c14
    subst c14
    replace H := in_ H (show ¬ (false = true) by decide)
    replace H := ob_ H; obtain ⟨⟨t523, t526, t527⟩, A18, H⟩ := H; try dsimp only at H
    simp only [Option.some.injEq, Prod.mk.injEq] at H
    obtain ⟨rfl, rfl⟩ := H
    go_wp2_with (first | (refine gM_ (some 24) Try.func33 #[.pointer (some ⟨gb508, 0, none⟩)] ?_; (with_reducible refine (spec_l1Cur_tier.calls kj2 gb508 l0 x509001_2 x509002_2 t523 t526 t527 w _ ?side1 ?side2 A18.out).mono ?_); (case side1 => exact z13_0_); (case side2 => exact z13_1_); rintro e w19 ⟨v524, rfl, ho0, hi, hb, hk⟩; refine ⟨_, rfl, ?_⟩; have HO525 := aM_ (Kd.R_lower (Kd.R_new' ho0 (Kd.R_lt (rR_ HO_5))) (below_size z13_1_)); replace HO_5 := aM_ (Kd.R_mono (Kd.R_told (Kd.R_oldK (IsS62.apart (show IsS62 w _ gb508 l0 x509001_2 x509002_2 from by repeat (first | (with_reducible first | exact HI508.out | apply IsS62.alloc | apply IsS62.drewN | apply IsS62.drew | apply IsS62.set_1 | apply IsS62.set_2) | exact HI508.out)) (rR_ HO_5) (by decide)) hk) (Kd.R_base ho0)) (fun _ h_ => h_.1)); replace HB := aM_ (hb); replace HI508 := aM_ (hi); (try clear hb); (try clear hk); (try clear hi); (try clear ho0)))
    go_ret2
    exact ⟨_, _, rT_, (rM_ HO_5 (fun _ hk => hk.2)), by (with_reducible repeat (first | apply rA_ | apply rN_ | apply rD_)); exact Kd.R_mono HO525.out (fun _ hk => hk.2), z13_1_⟩
   subst c14
   replace H := ip_ H rfl
   replace H := ob_ H; obtain ⟨⟨t518, t521, t522⟩, A15, H⟩ := H; try dsimp only at H
   simp only [Option.some.injEq, Prod.mk.injEq] at H
   obtain ⟨rfl, rfl⟩ := H
   obtain ⟨Ao16, co16, eo16⟩ := Kd.R_slice HO_5.out
   subst eo16
   go_wp2_with (first | (refine gM_ (some 21) Try.func67 #[.pointer (some ⟨gb508, 0, none⟩), .slice Ao16 t509.length co16] ?_; (with_reducible refine (spec_l1Cur_changed.calls kj2 gb508 l0 x509001_2 x509002_2 _ _ t509 t518 t521 t522 w _ ?side1 ?side2 ?side3 ?side4 A15.out).mono ?_); (case side1 => exact z13_0_); (case side2 => exact z13_1_); (case side3 => exact Kd.C_foot_own (IsS62.apart (show IsS62 w _ gb508 l0 x509001_2 x509002_2 from by repeat (first | (with_reducible first | exact HI508.out | apply IsS62.alloc | apply IsS62.drewN | apply IsS62.drew | apply IsS62.set_1 | apply IsS62.set_2) | exact HI508.out)) (rR_ HO_5) (by decide)) (fun _ h_ => h_.2)); (case side4 => exact (Kd.R_reads' HO_5.out).2.1); rintro e w17 ⟨v519, rfl, ho0, hi, hb, hk⟩; refine ⟨_, rfl, ?_⟩; have HO520 := aM_ (Kd.R_lower (Kd.R_new' ho0 (Kd.R_lt (rR_ HO_5))) (below_size z13_1_)); replace HO_5 := aM_ (Kd.R_mono (Kd.R_told (Kd.R_oldK (IsS62.apart (show IsS62 w _ gb508 l0 x509001_2 x509002_2 from by repeat (first | (with_reducible first | exact HI508.out | apply IsS62.alloc | apply IsS62.drewN | apply IsS62.drew | apply IsS62.set_1 | apply IsS62.set_2) | exact HI508.out)) (rR_ HO_5) (by decide)) hk) (Kd.R_base ho0)) (fun _ h_ => h_.1)); replace HB := aM_ (hb); replace HI508 := aM_ (hi); (try clear hb); (try clear hk); (try clear hi); (try clear ho0)))
   go_ret2
   exact ⟨_, _, rT_, (rM_ HO_5 (fun _ hk => hk.2)), by (with_reducible repeat (first | apply rA_ | apply rN_ | apply rD_)); exact Kd.R_mono HO520.out (fun _ hk => hk.2), z13_1_⟩

/-! ### spec_DrawNotesInside: function 10 -/
theorem spec_DrawNotesInside.calls (k : Nat) (A0 : Option Addr) (c0 : Nat) (l0 : List Int) (r1 : List (S50)) (r2 : List (S50)) (w : World) (hr0 : Kd.C (Kd.int .u8) w A0 l0.length l0) (hc0 : l0.length ≤ c0) (h : spec_DrawNotesInside.f k l0 = some (r1, r2)) :
 Calls Try.prog 10 #[.slice A0 l0.length c0] w fun e w' => ∃ v0_ v1_ : Value, e = .returned (.tuple #[v0_, v1_]) ∧ Kd.R k50 50 w' w.heap.size (fun k_ => some k_ ≠ (v1_ : Value).ownBlock) v0_ r1 ∧ Kd.R k50 50 w' w.heap.size (fun k_ => some k_ ≠ (v0_ : Value).ownBlock) v1_ r2 ∧ Below w.heap.size w w' := by
 have HR0 := Aside0.mk hr0
 have HC0 := Aside0.mk hc0
 clear hr0 hc0
 have HB := Aside0.mk (Below.refl w.heap.size w)
 have H : ((spec_DrawCommonNotes.f k l0).bind fun bt528 => (some (bt528.1, bt528.2))) = some (r1, r2) := h
 clear h
 replace H := ob_ H; obtain ⟨⟨t528, t529⟩, A2, H⟩ := H; try dsimp only at H
 simp only [Option.some.injEq, Prod.mk.injEq] at H
 obtain ⟨rfl, rfl⟩ := H
 go_enter Try.func10, Try.ntmps10
 go_wp2_with (first | (refine gM_ (some 5) Try.func45 #[.slice A0 l0.length c0] ?_; (with_reducible refine (spec_DrawCommonNotes.calls k _ _ l0 t528 t529 _ ?side1 ?side2 A2.out).mono ?_); (case side1 => exact cC_ HR0); (case side2 => exact HC0.out); rintro e w3 ⟨v530, v532, rfl, ho0, ho1, hb⟩; refine ⟨_, rfl, ?_⟩; have HO531 := aM_ (Kd.R_lower ho0 (below_size hB_)); have HO533 := aM_ (Kd.R_lower ho1 (below_size hB_)); replace HB := aM_ (below_step hB_ hb); (try clear hb); (try clear ho0); (try clear ho1)))
 go_ret2
 exact ⟨_, _, rT_, by (with_reducible repeat (first | apply rA_ | apply rN_ | apply rD_)); exact HO531.out, by (with_reducible repeat (first | apply rA_ | apply rN_ | apply rD_)); exact HO533.out, hB_⟩

/-! ### impl_NotesInside: function 11 -/
theorem impl_NotesInside.calls (k : Nat) (A0 : Option Addr) (c0 : Nat) (l0 : List (S50)) (A1 : Option Addr) (c1 : Nat) (l1 : List (S50)) (r1 : List (List Int)) (r2 : Bool) (w : World) (hr0 : Kd.C k50 w A0 l0.length l0) (hc0 : l0.length ≤ c0) (hr1 : Kd.C k50 w A1 l1.length l1) (hc1 : l1.length ≤ c1) (h : impl_NotesInside.f k l0 l1 = some (r1, r2)) :
 Calls Try.prog 11 #[.slice A0 l0.length c0, .slice A1 l1.length c1] w fun e w' => ∃ v0_ : Value, e = .returned (.tuple #[v0_, .bool r2]) ∧ Kd.S (Kd.slice 3 (Kd.int .i64)) 26 w' w.heap.size (fun _ => True) v0_ r1 ∧ Below w.heap.size w w' := by
 have hu50 := Try.underlying50
 have HR0 := Aside0.mk hr0
 have HC0 := Aside0.mk hc0
 clear hr0 hc0
 have HR1 := Aside0.mk hr1
 have HC1 := Aside0.mk hc1
 clear hr1 hc1
 have HB := Aside0.mk (Below.refl w.heap.size w)
 have H : ((impl_IsTier.f k l0).bind fun t534 => (if t534 = true then ((impl_IsTier.f k l1).bind fun t535 => (impl_NotesInside.j0 k l0 l1 (!t535))) else (impl_NotesInside.j0 k l0 l1 true))) = some (r1, r2) := h
 clear h
 have HC3 := Aside0.mk H
 clear H
 go_enter Try.func11, Try.ntmps11
 go_upto_region 1 with (fail)
 go_cut [18] (fun v18 wc => ∃ (kq : Nat) (x18_2 : Bool), v18 = .bool x18_2 ∧ Aside0 (impl_NotesInside.j0 kq l0 l1 x18_2 = some (r1, r2)) ∧ Aside0 (kq ≤ k) ∧ Aside0 (Below w.heap.size w wc))
 case first =>
  have H := HC3.out
  clear HC3
  replace H := ob_ H; obtain ⟨t534, A4, H⟩ := H; try dsimp only at H
  by_cases c5 : t534 = true
  rotate_left
  ·replace c5 := Bool.eq_false_iff.mpr c5
   subst c5
   replace H := in_ H (show ¬ (false = true) by decide)
   have H' := Aside0.mk H
   clear H
   go_wp2_with (first | (refine gM_ (some 12) Try.func27 #[.slice A0 l0.length c0] ?_; (with_reducible refine (impl_IsTier.calls k _ _ l0 false _ ?side1 ?side2 A4.out).mono ?_); (case side1 => exact z13_3_); (case side2 => exact HC0.out); rintro e w9 ⟨rfl, hb⟩; refine ⟨_, rfl, ?_⟩; replace HB := aM_ (below_step hB_ hb); (try clear hb)))
   go_meet
   case rel => exact ⟨_, (true), z13_2_, H', ⟨oR_⟩, ⟨hB_⟩⟩
  subst c5
  replace H := ip_ H rfl
  replace H := ob_ H; obtain ⟨t535, A6, H⟩ := H; try dsimp only at H
  have H' := Aside0.mk H
  clear H
  go_wp2_with (first | (refine gM_ (some 12) Try.func27 #[.slice A0 l0.length c0] ?_; (with_reducible refine (impl_IsTier.calls k _ _ l0 true _ ?side1 ?side2 A4.out).mono ?_); (case side1 => exact z13_3_); (case side2 => exact HC0.out); rintro e w7 ⟨rfl, hb⟩; refine ⟨_, rfl, ?_⟩; replace HB := aM_ (below_step hB_ hb); (try clear hb)) | (go_at_call 27; (with_reducible refine (impl_IsTier.calls k _ _ l1 t535 _ ?side1 ?side2 A6.out).mono ?_); (case side1 => exact z13_4_); (case side2 => exact HC1.out); rintro e w8 ⟨rfl, hb⟩; replace HB := aM_ (below_step hB_ hb); (try clear hb)))
  go_meet
  case rel => exact ⟨_, (!t535), z13_2_, H', ⟨oR_⟩, ⟨hB_⟩⟩
 case rest =>
  clear HC3
  (try clear c1)
  obtain ⟨kq, x18_2, rfl, HA, HJ2, HB⟩ := hcut
  cases kq with
  | zero => exact absurd HA.out (by simp [impl_NotesInside.j0])
  | succ kj2 =>
   have H := HA.out
   clear HA
   simp only [impl_NotesInside.j0] at H
   by_cases c10 : x18_2 = true
   ·subst c10
    replace H := ip_ H rfl
    simp only [Option.some.injEq, Prod.mk.injEq] at H
    obtain ⟨rfl, rfl⟩ := H
    go_wp2
    go_ret2
    exact ⟨_, rT_, z13_5_, hB_⟩
   replace c10 := Bool.eq_false_iff.mpr c10
   subst c10
   replace H := in_ H (show ¬ (false = true) by decide)
   have H' := Aside0.mk H
   clear H
   go_wp2
   go_loopg [6, 21] kj2 (fun kq v6 v21 w' => ∃ (x6_2 : List (List Int)) (x21_2 : Int), v21 = .int .i64 x21_2 ∧ Aside0 (impl_NotesInside.l0 kq l1 x6_2 l0 (l0.length : Int) x21_2 = some (r1, r2)) ∧ Aside0 (kq ≤ kj2) ∧ Aside0 (Kd.S (Kd.slice 3 (Kd.int .i64)) 26 w' w.heap.size (fun _ => True) v6 x6_2) ∧ Aside0 (Below w.heap.size w w'))
   case atStart => exact ⟨(([] : List (List Int))), (0), z13_2_, H', ⟨Nat.le_refl _⟩, ⟨z13_5_⟩, ⟨hB_⟩⟩
   case round =>
    clear H'
    (try clear c1);(try clear c10)
    obtain ⟨x6_2, x21_2, rfl, HA, HK2, HO_6, HB⟩ := hrel
    cases gk with
    | zero => exact absurd HA.out (by simp [impl_NotesInside.l0])
    | succ k2 =>
     have H := HA.out
     clear HA
     simp only [impl_NotesInside.l0] at H
     replace H := iF_ H; obtain ⟨c11b0, H⟩ | ⟨c11b0, H⟩ := H
     ·simp only [Option.some.injEq, Prod.mk.injEq] at H
      obtain ⟨rfl, rfl⟩ := H
      go_wp2
      go_ret2
      exact ⟨_, rT_, (sR_ HO_6), hB_⟩
     replace H := ig_ H; obtain ⟨c12b0, H⟩ := H
     replace H := ig_ H; obtain ⟨c13b0, H⟩ := H
     have H' := Aside0.mk H
     clear H
     have p536 : 0 ≤ (x21_2 : Int) := ode_
     have q536 : x21_2 < (l0.length : Int) := ode_
     obtain ⟨ad536, e536, hx536_0, hx536_1, hx536_2⟩ := at_T50 HR0.out x21_2 p536 q536
     cases e536
     replace hx536_0 := hc_ HB hx536_0
     replace hx536_1 := hc_ HB hx536_1
     replace hx536_2 := hc_ HB hx536_2
     replace p536 := eq_true p536
     replace q536 := eq_true q536
     go_wp2_with (first | ((with_reducible refine gate_dst (N := 8) rfl ?_); refine bx_ 8 #[.int .i64 0, .int .i64 0, .string (⟨#[]⟩ : ByteArray)] 50 fun gb537 hg w14 hbox hb => ?_; have BK537 := aM_ (hbox); have GW537 := aM_ (gw_ w hg); have GE537 := aM_ (gw_ w hg); replace HO_6 := aM_ (Kd.S_below (sR_ HO_6) hb); replace HB := aM_ (below_step hB_ hb); clear hb hbox hg; have hz15 := cf3_ BK537.out))
     try simp only [Act.put, List.setIfInBounds_toArray, List.set_cons_zero, List.set_cons_succ]
     go_loopg [6, 28] k2 (fun kq v6 v28 w' => ∃ (x6_3 : List (List Int)) (x28_3 : Int), v28 = .int .i64 x28_3 ∧ Aside0 (impl_NotesInside.l1 kq l1 x6_3 x21_2 l0 (l0.length : Int) x21_2 l1 (l1.length : Int) x28_3 ((rd_T50 l0 x21_2).f0) ((rd_T50 l0 x21_2).f1) ((rd_T50 l0 x21_2).f2) = some (r1, r2)) ∧ Aside0 (kq ≤ k2) ∧ Aside0 (Kd.S (Kd.slice 3 (Kd.int .i64)) 26 w' w.heap.size (fun _ => True) v6 x6_3) ∧ Aside0 (w'.heap[gb537]? = some (.cells #[.int .i64 ((rd_T50 l0 x21_2).f0), .int .i64 ((rd_T50 l0 x21_2).f1), .string ((rd_T50 l0 x21_2).f2)] 50 (0, 0))) ∧ Aside0 (Below w.heap.size w w'))
     case atStart => exact ⟨(x6_2), (0), z13_2_, H', ⟨Nat.le_refl _⟩, ⟨by (with_reducible repeat (first | apply Kd.S_alloc | apply Kd.S_drewN | apply Kd.S_drew)); exact Kd.S_mono (Kd.S_far (p := ⟨gb537, 2, none⟩) (Kd.S_far (p := ⟨gb537, 1, none⟩) (Kd.S_far (p := ⟨gb537, 0, none⟩) (Kd.S_types HO_6.out BK537.out (by decide)) (fun _ hk => hk.2) (.int .i64 ((rd_T50 l0 x21_2).f0))) (fun _ hk => hk.2) (.int .i64 ((rd_T50 l0 x21_2).f1))) (fun _ hk => hk.2) (.string ((rd_T50 l0 x21_2).f2))) (fun _ hk => trivial)⟩, ⟨by (with_reducible repeat (first | apply kN_ | apply kD_ | apply kA_)); refine blk_put (cs := #[.int .i64 ((rd_T50 l0 x21_2).f0), .int .i64 ((rd_T50 l0 x21_2).f1), .string (⟨#[]⟩ : ByteArray)]) ?_ 2 _ rfl; (with_reducible repeat (first | apply kN_ | apply kD_ | apply kA_)); refine blk_put (cs := #[.int .i64 ((rd_T50 l0 x21_2).f0), .int .i64 0, .string (⟨#[]⟩ : ByteArray)]) ?_ 1 _ rfl; (with_reducible repeat (first | apply kN_ | apply kD_ | apply kA_)); refine blk_put (cs := #[.int .i64 0, .int .i64 0, .string (⟨#[]⟩ : ByteArray)]) ?_ 0 _ rfl; (with_reducible repeat (first | apply kN_ | apply kD_ | apply kA_)); exact BK537.out⟩, ⟨hB_⟩⟩
     case round =>
      clear H'
      (try clear c1);(try clear c10);(try clear c11);(try clear c11b0);(try clear c12);(try clear c12b0);(try clear c13);(try clear c13b0);(try clear hcz15_0);(try clear hcz15_1);(try clear hcz15_2);(try clear hfz15_0);(try clear hfz15_1);(try clear hfz15_2);(try clear hx536_0);(try clear hx536_1);(try clear hx536_2);(try clear p536);(try clear q536)
      obtain ⟨x6_3, x28_3, rfl, HA, HK3, HO_6, BK537, HB⟩ := hrel
      cases gk with
      | zero => exact absurd HA.out (by simp [impl_NotesInside.l1])
      | succ k3 =>
       have H := HA.out
       clear HA
       simp only [impl_NotesInside.l1] at H
       replace H := iF_ H; obtain ⟨c16b0, H⟩ | ⟨c16b0, H⟩ := H
       ·have H' := Aside0.mk H
        clear H
        go_wp2
        go_roundg k3
        case measure => have := HJ2.out; have := HK2.out; have := HK3.out; omega
        case rel => exact ⟨(x6_3), (wrap64 (x21_2 + 1)), z13_2_, H', ⟨z13_6_⟩, ⟨(sR_ HO_6)⟩, ⟨hB_⟩⟩
       replace H := ig_ H; obtain ⟨c17b0, H⟩ := H
       replace H := ig_ H; obtain ⟨c18b0, H⟩ := H
       replace H := iF_ H; obtain ⟨c19b0, H⟩ | ⟨c19b0, H⟩ := H
       ·have H' := Aside0.mk H
        clear H
        have p538 : 0 ≤ (x28_3 : Int) := ode_
        have q538 : x28_3 < (l1.length : Int) := ode_
        obtain ⟨ad538, e538, hx538_0, hx538_1, hx538_2⟩ := at_T50 HR1.out x28_3 p538 q538
        cases e538
        replace hx538_0 := hc_ HB hx538_0
        replace hx538_1 := hc_ HB hx538_1
        replace hx538_2 := hc_ HB hx538_2
        replace p538 := eq_true p538
        replace q538 := eq_true q538
        go_wp2_with (first | ((with_reducible refine gate_dst (N := 10) rfl ?_); refine bx_ 10 #[.int .i64 0, .int .i64 0, .string (⟨#[]⟩ : ByteArray)] 50 fun gb539 hg w31 hbox hb => ?_; have BK539 := aM_ (hbox); have GW539 := aM_ (gw_ w hg); have GE539 := aM_ (gw_ w hg); have NB537_539 := aM_ (nR_ BK537 hg); have NB539_537 := aM_ (mR_ BK537 hg); replace HO_6 := aM_ (Kd.S_below (sR_ HO_6) hb); replace BK537 := aM_ (blk_below (g := gb537) (kR_ BK537) hb); replace HB := aM_ (below_step hB_ hb); clear hb hbox hg; have hnb32 := NB539_537.out; have hnc32 := NB537_539.out; have hz33 := cf3_ BK539.out; have hz34 := cf3_ BK537.out))
        go_roundg k3
        case measure => have := HJ2.out; have := HK2.out; have := HK3.out; omega
        case rel => exact ⟨(x6_3), (wrap64 (x28_3 + 1)), z13_2_, H', ⟨z13_6_⟩, ⟨by (with_reducible repeat (first | apply Kd.S_alloc | apply Kd.S_drewN | apply Kd.S_drew)); exact Kd.S_mono (Kd.S_far (p := ⟨gb539, 2, none⟩) (Kd.S_far (p := ⟨gb539, 1, none⟩) (Kd.S_far (p := ⟨gb539, 0, none⟩) (Kd.S_types HO_6.out BK539.out (by decide)) (fun _ hk => hk.2) (.int .i64 ((rd_T50 l1 x28_3).f0))) (fun _ hk => hk.2) (.int .i64 ((rd_T50 l1 x28_3).f1))) (fun _ hk => hk.2) (.string ((rd_T50 l1 x28_3).f2))) (fun _ hk => trivial)⟩, ⟨z13_7_⟩, ⟨hB_⟩⟩
       have HC20 := Aside0.mk H
       clear H
       have p538 : 0 ≤ (x28_3 : Int) := ode_
       have q538 : x28_3 < (l1.length : Int) := ode_
       obtain ⟨ad538, e538, hx538_0, hx538_1, hx538_2⟩ := at_T50 HR1.out x28_3 p538 q538
       cases e538
       replace hx538_0 := hc_ HB hx538_0
       replace hx538_1 := hc_ HB hx538_1
       replace hx538_2 := hc_ HB hx538_2
       replace p538 := eq_true p538
       replace q538 := eq_true q538
       go_upto_if 44 with (first | ((with_reducible refine gate_dst (N := 10) rfl ?_); refine bx_ 10 #[.int .i64 0, .int .i64 0, .string (⟨#[]⟩ : ByteArray)] 50 fun gb539 hg w21 hbox hb => ?_; have BK539 := aM_ (hbox); have GW539 := aM_ (gw_ w hg); have GE539 := aM_ (gw_ w hg); have NB537_539 := aM_ (nR_ BK537 hg); have NB539_537 := aM_ (mR_ BK537 hg); replace HO_6 := aM_ (Kd.S_below (sR_ HO_6) hb); replace BK537 := aM_ (blk_below (g := gb537) (kR_ BK537) hb); replace HB := aM_ (below_step hB_ hb); clear hb hbox hg; have hnb22 := NB539_537.out; have hnc22 := NB537_539.out; have hz23 := cf3_ BK539.out; have hz24 := cf3_ BK537.out))
       (try simp only [Act.put, List.setIfInBounds_toArray, List.set_cons_zero, List.set_cons_succ])
       have H := HC20.out
       clear HC20
       replace H := iF_ H; obtain ⟨c25b0, H⟩ | ⟨c25b0, H⟩ := H
       ·(first | rw [c25b0] | (simp only [i64_w, i32_w]; rw [c25b0]) | skip)
        have H' := Aside0.mk H
        clear H
        go_wp2
        go_roundg k3
        case measure => have := HJ2.out; have := HK2.out; have := HK3.out; omega
        case rel => exact ⟨(x6_3), (wrap64 (x28_3 + 1)), z13_2_, H', ⟨z13_6_⟩, ⟨by (with_reducible repeat (first | apply Kd.S_alloc | apply Kd.S_drewN | apply Kd.S_drew)); exact Kd.S_mono (Kd.S_far (p := ⟨gb539, 2, none⟩) (Kd.S_far (p := ⟨gb539, 1, none⟩) (Kd.S_far (p := ⟨gb539, 0, none⟩) (Kd.S_types HO_6.out BK539.out (by decide)) (fun _ hk => hk.2) (.int .i64 ((rd_T50 l1 x28_3).f0))) (fun _ hk => hk.2) (.int .i64 ((rd_T50 l1 x28_3).f1))) (fun _ hk => hk.2) (.string ((rd_T50 l1 x28_3).f2))) (fun _ hk => trivial)⟩, ⟨z13_7_⟩, ⟨hB_⟩⟩
       (first | rw [c25b0] | (simp only [i64_w, i32_w]; rw [c25b0]) | skip)
       obtain ⟨y540, hy540⟩ : ∃ y_ : List Int, y_ = (([x21_2, x28_3] : List Int)) := ⟨_, rfl⟩
       rw [← hy540] at H
       have Ny540 := Aside0.mk hy540; clear hy540
       replace H := il_ H; obtain ⟨LMc26, H⟩ := H
       obtain ⟨y543, hy543⟩ : ∃ y_ : List (List Int), y_ = (x6_3 ++ [y540]) := ⟨_, rfl⟩
       rw [← hy543] at H
       have Ny543 := Aside0.mk hy543; clear hy543
       have H' := Aside0.mk H
       clear H
       go_wp2_with (first | ((with_reducible refine gate_dst (N := 48) rfl ?_); refine rl_ (Kd.int .i64) 3 48 ([x21_2, x28_3] : List Int) [.int .i64 x21_2, .int .i64 x28_3] (Reps.one (show Kd.M (Kd.int .i64) _ _ _ x21_2 [.int .i64 x21_2] from rfl) (Reps.one (show Kd.M (Kd.int .i64) _ _ _ x28_3 [.int .i64 x28_3] from rfl) (Reps.none _ _))) ?_; intro v541 w27 ho28 hb hg_ hnew_; clear hg_ hnew_; (first | rw [← Ny540.out] at ho28 | (simp only [Int.reduceToNat] at ho28; rw [← Ny540.out] at ho28)); have HO542 := aM_ (Kd.R_lower ho28 (below_size hB_)); replace HO_6 := aM_ (Kd.S_elder' (by (with_reducible repeat (first | apply Kd.S_alloc | apply Kd.S_drewN | apply Kd.S_drew)); exact (Kd.S_mono (Kd.S_far (p := ⟨gb539, 2, none⟩) (Kd.S_far (p := ⟨gb539, 1, none⟩) (Kd.S_far (p := ⟨gb539, 0, none⟩) (Kd.S_types HO_6.out BK539.out (by decide)) (fun _ hk => hk.2) (.int .i64 ((rd_T50 l1 x28_3).f0))) (fun _ hk => hk.2) (.int .i64 ((rd_T50 l1 x28_3).f1))) (fun _ hk => hk.2) (.string ((rd_T50 l1 x28_3).f2))) (fun _ h_ => h_.1))) (Kd.R_base ho28) hb); replace BK537 := aM_ (blk_below (g := gb537) (kR_ BK537) hb); replace BK539 := aM_ (blk_below (g := gb539) (o := .cells #[.int .i64 ((rd_T50 l1 x28_3).f0), .int .i64 ((rd_T50 l1 x28_3).f1), .string ((rd_T50 l1 x28_3).f2)] 50 (0, 0)) (by (with_reducible repeat (first | apply kN_ | apply kD_ | apply kA_)); refine blk_put (cs := #[.int .i64 ((rd_T50 l1 x28_3).f0), .int .i64 ((rd_T50 l1 x28_3).f1), .string (⟨#[]⟩ : ByteArray)]) ?_ 2 _ rfl; (with_reducible repeat (first | apply kN_ | apply kD_ | apply kA_)); refine blk_put (cs := #[.int .i64 ((rd_T50 l1 x28_3).f0), .int .i64 0, .string (⟨#[]⟩ : ByteArray)]) ?_ 1 _ rfl; (with_reducible repeat (first | apply kN_ | apply kD_ | apply kA_)); refine blk_put (cs := #[.int .i64 0, .int .i64 0, .string (⟨#[]⟩ : ByteArray)]) ?_ 0 _ rfl; (with_reducible repeat (first | apply kN_ | apply kD_ | apply kA_)); exact BK539.out) hb); replace HB := aM_ (below_step hB_ hb); clear hb ho28; obtain ⟨Ao30, co30, eo30⟩ := Kd.R_slice HO542.out; subst eo30) | ((with_reducible refine gate_builtin (b := .append) (xs := #[.tmp 45, .tmp 49]) rfl ?_); at_builtin; refine Kd.S_append (Kd.slice 3 (Kd.int .i64)) (w0 := w) w.heap.size rfl (.tmp 45) (.tmp 49) 35 26 (.slice none 0 0) 24 rfl Try.underlying35 info26 rfl (by decide) (by omega) u6 x6_3 y540 [.slice Ao30 y540.length co30] (fun _ => True) (fun k_ => some k_ = (.slice Ao30 y540.length co30 : Value).ownBlock) rfl rfl ?aP (fun k_ hk_ => ((Kd.R_mono (ok' := fun k_ => ((fun _ => True)) k_ ∧ some k_ ≠ (u6 : Value).ownBlock) (Kd.R_apart' (HO542.out) (Kd.S_typed HO_6.out) (by decide)) (fun k_ hk => ⟨trivial, hk.2⟩))).1 k_ hk_.symm) ?aF ?aO ?aB ?aS ?aL ?_; (case aP => exact Kd.M_row (Kd.R_mono (Kd.R_tight rfl (Kd.R_mono (ok' := fun k_ => ((fun _ => True)) k_ ∧ some k_ ≠ (u6 : Value).ownBlock) (Kd.R_apart' (HO542.out) (Kd.S_typed HO_6.out) (by decide)) (fun k_ hk => ⟨trivial, hk.2⟩))) (fun _ h_ => h_))); (case aB => exact hB_); (case aF => exact (fun _ _ => trivial)); (case aO => exact z13_8_); (case aS => exact (below_size hB_)); (case aL => have := LMc26.out; omega); intro v544 w29 ho hb hg hat; rw [← Ny543.out] at ho; have HO545 := aM_ (ho); replace BK537 := aM_ (blk_grown (g := gb537) (kR_ BK537) hg (Kd.S_ne HO_6.out BK537.out (by decide))); replace BK539 := aM_ (blk_grown (g := gb539) (kR_ BK539) hg (Kd.S_ne HO_6.out BK539.out (by decide))); replace HB := aM_ (hb); clear HO_6 HO542; clear ho hb hg hat))
       go_roundg k3
       case measure => have := HJ2.out; have := HK2.out; have := HK3.out; omega
       case rel => exact ⟨(y543), (wrap64 (x28_3 + 1)), z13_2_, H', ⟨z13_6_⟩, ⟨sR_ HO545⟩, ⟨kP_⟩, ⟨hB_⟩⟩

/-! ### spec_meBoth: function 46 -/
theorem spec_meBoth.calls (k : Nat) (A0 : Option Addr) (c0 : Nat) (l0 : List (S50)) (A1 : Option Addr) (c1 : Nat) (l1 : List (S50)) (r : Bool) (w : World) (hr0 : Kd.C k50 w A0 l0.length l0) (hc0 : l0.length ≤ c0) (hr1 : Kd.C k50 w A1 l1.length l1) (hc1 : l1.length ≤ c1) (h : spec_meBoth.f k l0 l1 = some r) :
 Calls Try.prog 46 #[.slice A0 l0.length c0, .slice A1 l1.length c1] w fun e w' => e = .returned (.bool r) ∧ Below w.heap.size w w' := by
 have HR0 := Aside0.mk hr0
 have HC0 := Aside0.mk hc0
 clear hr0 hc0
 have HR1 := Aside0.mk hr1
 have HC1 := Aside0.mk hc1
 clear hr1 hc1
 have HB := Aside0.mk (Below.refl w.heap.size w)
 have H : ((spec_tiGood.f k l0).bind fun t546 => (if t546 = true then ((spec_tiGood.f k l1).bind fun t547 => (some t547)) else (some false))) = some r := h
 clear h
 replace H := ob_ H; obtain ⟨t546, A3, H⟩ := H; try dsimp only at H
 by_cases c4 : t546 = true
 rotate_left
 ·replace c4 := Bool.eq_false_iff.mpr c4
  subst c4
  replace H := in_ H (show ¬ (false = true) by decide)
  obtain rfl := Option.some.inj H
  go_enter Try.func46, Try.ntmps46
  go_wp2_with (first | (refine gM_ (some 6) Try.func31 #[.slice A0 l0.length c0] ?_; (with_reducible refine (spec_tiGood.calls k _ _ l0 false _ ?side1 ?side2 A3.out).mono ?_); (case side1 => exact cC_ HR0); (case side2 => exact HC0.out); rintro e w8 ⟨rfl, hb⟩; refine ⟨_, rfl, ?_⟩; replace HB := aM_ (below_step hB_ hb); (try clear hb)))
  go_ret
  exact ⟨rT_, hB_⟩
 subst c4
 replace H := ip_ H rfl
 replace H := ob_ H; obtain ⟨t547, A5, H⟩ := H; try dsimp only at H
 obtain rfl := Option.some.inj H
 go_enter Try.func46, Try.ntmps46
 go_wp2_with (first | (refine gM_ (some 6) Try.func31 #[.slice A0 l0.length c0] ?_; (with_reducible refine (spec_tiGood.calls k _ _ l0 true _ ?side1 ?side2 A3.out).mono ?_); (case side1 => exact cC_ HR0); (case side2 => exact HC0.out); rintro e w6 ⟨rfl, hb⟩; refine ⟨_, rfl, ?_⟩; replace HB := aM_ (below_step hB_ hb); (try clear hb)) | (go_at_call 31; (with_reducible refine (spec_tiGood.calls k _ _ l1 t547 _ ?side1 ?side2 A5.out).mono ?_); (case side1 => exact z13_4_); (case side2 => exact HC1.out); rintro e w7 ⟨rfl, hb⟩; replace HB := aM_ (below_step hB_ hb); (try clear hb)))
 go_ret
 exact ⟨rT_, hB_⟩

/-! ### spec_NotesInside: function 12 -/
theorem spec_NotesInside.calls (k : Nat) (A0 : Option Addr) (c0 : Nat) (l0 : List (S50)) (A1 : Option Addr) (c1 : Nat) (l1 : List (S50)) (r1 : List (List Int)) (r2 : Bool) (w : World) (hr0 : Kd.C k50 w A0 l0.length l0) (hc0 : l0.length ≤ c0) (hr1 : Kd.C k50 w A1 l1.length l1) (hc1 : l1.length ≤ c1) (h : spec_NotesInside.f k l0 l1 = some (r1, r2)) :
 Calls Try.prog 12 #[.slice A0 l0.length c0, .slice A1 l1.length c1] w fun e w' => ∃ v0_ : Value, e = .returned (.tuple #[v0_, .bool r2]) ∧ Kd.S (Kd.slice 3 (Kd.int .i64)) 26 w' w.heap.size (fun _ => True) v0_ r1 ∧ Below w.heap.size w w' := by
 have hu50 := Try.underlying50
 have HR0 := Aside0.mk hr0
 have HC0 := Aside0.mk hc0
 clear hr0 hc0
 have HR1 := Aside0.mk hr1
 have HC1 := Aside0.mk hc1
 clear hr1 hc1
 have HB := Aside0.mk (Below.refl w.heap.size w)
 have H : ((spec_meBoth.f k l0 l1).bind fun t548 => (if t548 = true then (spec_NotesInside.l0 k l1 ([] : List (List Int)) l0 (l0.length : Int) 0) else (some (([] : List (List Int)), false)))) = some (r1, r2) := h
 clear h
 replace H := ob_ H; obtain ⟨t548, A3, H⟩ := H; try dsimp only at H
 have HC4 := Aside0.mk H
 clear H
 go_enter Try.func12, Try.ntmps12
 go_upto_if 14 with (first | (refine gM_ (some 13) Try.func46 #[.slice A0 l0.length c0, .slice A1 l1.length c1] ?_; (with_reducible refine (spec_meBoth.calls k _ _ l0 _ _ l1 t548 _ ?side1 ?side2 ?side3 ?side4 A3.out).mono ?_); (case side1 => exact cC_ HR0); (case side2 => exact HC0.out); (case side3 => exact cC_ HR1); (case side4 => exact HC1.out); rintro e w5 ⟨rfl, hb⟩; refine ⟨_, rfl, ?_⟩; replace HB := aM_ (below_step hB_ hb); (try clear hb)))
 (try simp only [Act.put, List.setIfInBounds_toArray, List.set_cons_zero, List.set_cons_succ])
 have H := HC4.out
 clear HC4
 by_cases c6 : t548 = true
 rotate_left
 ·replace c6 := Bool.eq_false_iff.mpr c6
  subst c6
  replace H := in_ H (show ¬ (false = true) by decide)
  simp only [Option.some.injEq, Prod.mk.injEq] at H
  obtain ⟨rfl, rfl⟩ := H
  go_wp2
  go_ret2
  exact ⟨_, rT_, z13_5_, hB_⟩
 subst c6
 replace H := ip_ H rfl
 have H' := Aside0.mk H
 clear H
 go_wp2
 go_loopg [6, 17] k (fun kq v6 v17 w' => ∃ (x6_1 : List (List Int)) (x17_1 : Int), v17 = .int .i64 x17_1 ∧ Aside0 (spec_NotesInside.l0 kq l1 x6_1 l0 (l0.length : Int) x17_1 = some (r1, r2)) ∧ Aside0 (kq ≤ k) ∧ Aside0 (Kd.S (Kd.slice 3 (Kd.int .i64)) 26 w' w.heap.size (fun _ => True) v6 x6_1) ∧ Aside0 (Below w.heap.size w w'))
 case atStart => exact ⟨(([] : List (List Int))), (0), z13_2_, H', ⟨Nat.le_refl _⟩, ⟨z13_5_⟩, ⟨hB_⟩⟩
 case round =>
  clear H'
  (try clear c1);(try clear c6)
  obtain ⟨x6_1, x17_1, rfl, HA, HK1, HO_6, HB⟩ := hrel
  cases gk with
  | zero => exact absurd HA.out (by simp [spec_NotesInside.l0])
  | succ k1 =>
   have H := HA.out
   clear HA
   simp only [spec_NotesInside.l0] at H
   replace H := iF_ H; obtain ⟨c7b0, H⟩ | ⟨c7b0, H⟩ := H
   ·(first | rw [c7b0] | (simp only [i64_w, i32_w]; rw [c7b0]) | skip)
    simp only [Option.some.injEq, Prod.mk.injEq] at H
    obtain ⟨rfl, rfl⟩ := H
    go_wp2
    go_ret2
    exact ⟨_, rT_, (sR_ HO_6), hB_⟩
   (first | rw [c7b0] | (simp only [i64_w, i32_w]; rw [c7b0]) | skip)
   replace H := ig_ H; obtain ⟨c8b0, H⟩ := H
   replace H := ig_ H; obtain ⟨c9b0, H⟩ := H
   have H' := Aside0.mk H
   clear H
   have p549 : 0 ≤ (x17_1 : Int) := ode_
   have q549 : x17_1 < (l0.length : Int) := ode_
   obtain ⟨ad549, e549, hx549_0, hx549_1, hx549_2⟩ := at_T50 HR0.out x17_1 p549 q549
   cases e549
   replace hx549_0 := hc_ HB hx549_0
   replace hx549_1 := hc_ HB hx549_1
   replace hx549_2 := hc_ HB hx549_2
   replace p549 := eq_true p549
   replace q549 := eq_true q549
   go_wp2_with (first | ((with_reducible refine gate_dst (N := 8) rfl ?_); refine bx_ 8 #[.int .i64 0, .int .i64 0, .string (⟨#[]⟩ : ByteArray)] 50 fun gb550 hg w10 hbox hb => ?_; have BK550 := aM_ (hbox); have GW550 := aM_ (gw_ w hg); have GE550 := aM_ (gw_ w hg); replace HO_6 := aM_ (Kd.S_below (sR_ HO_6) hb); replace HB := aM_ (below_step hB_ hb); clear hb hbox hg; have hz11 := cf3_ BK550.out))
   try simp only [Act.put, List.setIfInBounds_toArray, List.set_cons_zero, List.set_cons_succ]
   go_loopg [6, 24] k1 (fun kq v6 v24 w' => ∃ (x6_2 : List (List Int)) (x24_2 : Int), v24 = .int .i64 x24_2 ∧ Aside0 (spec_NotesInside.l1 kq l1 x6_2 x17_1 l0 (l0.length : Int) x17_1 l1 (l1.length : Int) x24_2 ((rd_T50 l0 x17_1).f0) ((rd_T50 l0 x17_1).f1) ((rd_T50 l0 x17_1).f2) = some (r1, r2)) ∧ Aside0 (kq ≤ k1) ∧ Aside0 (Kd.S (Kd.slice 3 (Kd.int .i64)) 26 w' w.heap.size (fun _ => True) v6 x6_2) ∧ Aside0 (w'.heap[gb550]? = some (.cells #[.int .i64 ((rd_T50 l0 x17_1).f0), .int .i64 ((rd_T50 l0 x17_1).f1), .string ((rd_T50 l0 x17_1).f2)] 50 (0, 0))) ∧ Aside0 (Below w.heap.size w w'))
   case atStart => exact ⟨(x6_1), (0), z13_2_, H', ⟨Nat.le_refl _⟩, ⟨by (with_reducible repeat (first | apply Kd.S_alloc | apply Kd.S_drewN | apply Kd.S_drew)); exact Kd.S_mono (Kd.S_far (p := ⟨gb550, 2, none⟩) (Kd.S_far (p := ⟨gb550, 1, none⟩) (Kd.S_far (p := ⟨gb550, 0, none⟩) (Kd.S_types HO_6.out BK550.out (by decide)) (fun _ hk => hk.2) (.int .i64 ((rd_T50 l0 x17_1).f0))) (fun _ hk => hk.2) (.int .i64 ((rd_T50 l0 x17_1).f1))) (fun _ hk => hk.2) (.string ((rd_T50 l0 x17_1).f2))) (fun _ hk => trivial)⟩, ⟨by (with_reducible repeat (first | apply kN_ | apply kD_ | apply kA_)); refine blk_put (cs := #[.int .i64 ((rd_T50 l0 x17_1).f0), .int .i64 ((rd_T50 l0 x17_1).f1), .string (⟨#[]⟩ : ByteArray)]) ?_ 2 _ rfl; (with_reducible repeat (first | apply kN_ | apply kD_ | apply kA_)); refine blk_put (cs := #[.int .i64 ((rd_T50 l0 x17_1).f0), .int .i64 0, .string (⟨#[]⟩ : ByteArray)]) ?_ 1 _ rfl; (with_reducible repeat (first | apply kN_ | apply kD_ | apply kA_)); refine blk_put (cs := #[.int .i64 0, .int .i64 0, .string (⟨#[]⟩ : ByteArray)]) ?_ 0 _ rfl; (with_reducible repeat (first | apply kN_ | apply kD_ | apply kA_)); exact BK550.out⟩, ⟨hB_⟩⟩
   case round =>
    clear H'
    (try clear c1);(try clear c6);(try clear c7);(try clear c7b0);(try clear c8);(try clear c8b0);(try clear c9);(try clear c9b0);(try clear hcz11_0);(try clear hcz11_1);(try clear hcz11_2);(try clear hfz11_0);(try clear hfz11_1);(try clear hfz11_2);(try clear hx549_0);(try clear hx549_1);(try clear hx549_2);(try clear p549);(try clear q549)
    obtain ⟨x6_2, x24_2, rfl, HA, HK2, HO_6, BK550, HB⟩ := hrel
    cases gk with
    | zero => exact absurd HA.out (by simp [spec_NotesInside.l1])
    | succ k2 =>
     have H := HA.out
     clear HA
     simp only [spec_NotesInside.l1] at H
     replace H := iF_ H; obtain ⟨c12b0, H⟩ | ⟨c12b0, H⟩ := H
     ·have H' := Aside0.mk H
      clear H
      go_wp2
      go_roundg k2
      case measure => have := HK1.out; have := HK2.out; omega
      case rel => exact ⟨(x6_2), (wrap64 (x17_1 + 1)), z13_2_, H', ⟨z13_9_⟩, ⟨(sR_ HO_6)⟩, ⟨hB_⟩⟩
     replace H := ig_ H; obtain ⟨c13b0, H⟩ := H
     replace H := ig_ H; obtain ⟨c14b0, H⟩ := H
     by_cases c15 : ((rd_T50 l0 x17_1).f0) ≥ ((rd_T50 l1 x24_2).f0)
     rotate_left
     ·rw [if_neg c15] at H
      have c15b0 : decide (((rd_T50 l1 x24_2).f0) ≤ ((rd_T50 l0 x17_1).f0)) = false := decide_eq_false c15
      clear c15
      have H' := Aside0.mk H
      clear H
      have p551 : 0 ≤ (x24_2 : Int) := ode_
      have q551 : x24_2 < (l1.length : Int) := ode_
      obtain ⟨ad551, e551, hx551_0, hx551_1, hx551_2⟩ := at_T50 HR1.out x24_2 p551 q551
      cases e551
      replace hx551_0 := hc_ HB hx551_0
      replace hx551_1 := hc_ HB hx551_1
      replace hx551_2 := hc_ HB hx551_2
      replace p551 := eq_true p551
      replace q551 := eq_true q551
      go_wp2_with (first | ((with_reducible refine gate_dst (N := 10) rfl ?_); refine bx_ 10 #[.int .i64 0, .int .i64 0, .string (⟨#[]⟩ : ByteArray)] 50 fun gb552 hg w27 hbox hb => ?_; have BK552 := aM_ (hbox); have GW552 := aM_ (gw_ w hg); have GE552 := aM_ (gw_ w hg); have NB550_552 := aM_ (nR_ BK550 hg); have NB552_550 := aM_ (mR_ BK550 hg); replace HO_6 := aM_ (Kd.S_below (sR_ HO_6) hb); replace BK550 := aM_ (blk_below (g := gb550) (kR_ BK550) hb); replace HB := aM_ (below_step hB_ hb); clear hb hbox hg; have hnb28 := NB552_550.out; have hnc28 := NB550_552.out; have hz29 := cf3_ BK552.out; have hz30 := cf3_ BK550.out))
      go_roundg k2
      case measure => have := HK1.out; have := HK2.out; omega
      case rel => exact ⟨(x6_2), (wrap64 (x24_2 + 1)), z13_2_, H', ⟨z13_9_⟩, ⟨by (with_reducible repeat (first | apply Kd.S_alloc | apply Kd.S_drewN | apply Kd.S_drew)); exact Kd.S_mono (Kd.S_far (p := ⟨gb552, 2, none⟩) (Kd.S_far (p := ⟨gb552, 1, none⟩) (Kd.S_far (p := ⟨gb552, 0, none⟩) (Kd.S_types HO_6.out BK552.out (by decide)) (fun _ hk => hk.2) (.int .i64 ((rd_T50 l1 x24_2).f0))) (fun _ hk => hk.2) (.int .i64 ((rd_T50 l1 x24_2).f1))) (fun _ hk => hk.2) (.string ((rd_T50 l1 x24_2).f2))) (fun _ hk => trivial)⟩, ⟨z13_10_⟩, ⟨hB_⟩⟩
     rw [if_pos c15] at H
     have c15b0 : decide (((rd_T50 l1 x24_2).f0) ≤ ((rd_T50 l0 x17_1).f0)) = true := decide_eq_true c15
     clear c15
     have HC16 := Aside0.mk H
     clear H
     have p551 : 0 ≤ (x24_2 : Int) := ode_
     have q551 : x24_2 < (l1.length : Int) := ode_
     obtain ⟨ad551, e551, hx551_0, hx551_1, hx551_2⟩ := at_T50 HR1.out x24_2 p551 q551
     cases e551
     replace hx551_0 := hc_ HB hx551_0
     replace hx551_1 := hc_ HB hx551_1
     replace hx551_2 := hc_ HB hx551_2
     replace p551 := eq_true p551
     replace q551 := eq_true q551
     go_upto_if 40 with (first | ((with_reducible refine gate_dst (N := 10) rfl ?_); refine bx_ 10 #[.int .i64 0, .int .i64 0, .string (⟨#[]⟩ : ByteArray)] 50 fun gb552 hg w17 hbox hb => ?_; have BK552 := aM_ (hbox); have GW552 := aM_ (gw_ w hg); have GE552 := aM_ (gw_ w hg); have NB550_552 := aM_ (nR_ BK550 hg); have NB552_550 := aM_ (mR_ BK550 hg); replace HO_6 := aM_ (Kd.S_below (sR_ HO_6) hb); replace BK550 := aM_ (blk_below (g := gb550) (kR_ BK550) hb); replace HB := aM_ (below_step hB_ hb); clear hb hbox hg; have hnb18 := NB552_550.out; have hnc18 := NB550_552.out; have hz19 := cf3_ BK552.out; have hz20 := cf3_ BK550.out))
     (try simp only [Act.put, List.setIfInBounds_toArray, List.set_cons_zero, List.set_cons_succ])
     have H := HC16.out
     clear HC16
     replace H := iF_ H; obtain ⟨c21b0, H⟩ | ⟨c21b0, H⟩ := H
     ·(first | rw [c21b0] | (simp only [i64_w, i32_w]; rw [c21b0]) | skip)
      have H' := Aside0.mk H
      clear H
      go_wp2
      go_roundg k2
      case measure => have := HK1.out; have := HK2.out; omega
      case rel => exact ⟨(x6_2), (wrap64 (x24_2 + 1)), z13_2_, H', ⟨z13_9_⟩, ⟨by (with_reducible repeat (first | apply Kd.S_alloc | apply Kd.S_drewN | apply Kd.S_drew)); exact Kd.S_mono (Kd.S_far (p := ⟨gb552, 2, none⟩) (Kd.S_far (p := ⟨gb552, 1, none⟩) (Kd.S_far (p := ⟨gb552, 0, none⟩) (Kd.S_types HO_6.out BK552.out (by decide)) (fun _ hk => hk.2) (.int .i64 ((rd_T50 l1 x24_2).f0))) (fun _ hk => hk.2) (.int .i64 ((rd_T50 l1 x24_2).f1))) (fun _ hk => hk.2) (.string ((rd_T50 l1 x24_2).f2))) (fun _ hk => trivial)⟩, ⟨z13_10_⟩, ⟨hB_⟩⟩
     (first | rw [c21b0] | (simp only [i64_w, i32_w]; rw [c21b0]) | skip)
     obtain ⟨y553, hy553⟩ : ∃ y_ : List Int, y_ = (([x17_1, x24_2] : List Int)) := ⟨_, rfl⟩
     rw [← hy553] at H
     have Ny553 := Aside0.mk hy553; clear hy553
     replace H := il_ H; obtain ⟨LMc22, H⟩ := H
     obtain ⟨y556, hy556⟩ : ∃ y_ : List (List Int), y_ = (x6_2 ++ [y553]) := ⟨_, rfl⟩
     rw [← hy556] at H
     have Ny556 := Aside0.mk hy556; clear hy556
     have H' := Aside0.mk H
     clear H
     go_wp2_with (first | ((with_reducible refine gate_dst (N := 44) rfl ?_); refine rl_ (Kd.int .i64) 3 44 ([x17_1, x24_2] : List Int) [.int .i64 x17_1, .int .i64 x24_2] (Reps.one (show Kd.M (Kd.int .i64) _ _ _ x17_1 [.int .i64 x17_1] from rfl) (Reps.one (show Kd.M (Kd.int .i64) _ _ _ x24_2 [.int .i64 x24_2] from rfl) (Reps.none _ _))) ?_; intro v554 w23 ho24 hb hg_ hnew_; clear hg_ hnew_; (first | rw [← Ny553.out] at ho24 | (simp only [Int.reduceToNat] at ho24; rw [← Ny553.out] at ho24)); have HO555 := aM_ (Kd.R_lower ho24 (below_size hB_)); replace HO_6 := aM_ (Kd.S_elder' (by (with_reducible repeat (first | apply Kd.S_alloc | apply Kd.S_drewN | apply Kd.S_drew)); exact (Kd.S_mono (Kd.S_far (p := ⟨gb552, 2, none⟩) (Kd.S_far (p := ⟨gb552, 1, none⟩) (Kd.S_far (p := ⟨gb552, 0, none⟩) (Kd.S_types HO_6.out BK552.out (by decide)) (fun _ hk => hk.2) (.int .i64 ((rd_T50 l1 x24_2).f0))) (fun _ hk => hk.2) (.int .i64 ((rd_T50 l1 x24_2).f1))) (fun _ hk => hk.2) (.string ((rd_T50 l1 x24_2).f2))) (fun _ h_ => h_.1))) (Kd.R_base ho24) hb); replace BK550 := aM_ (blk_below (g := gb550) (kR_ BK550) hb); replace BK552 := aM_ (blk_below (g := gb552) (o := .cells #[.int .i64 ((rd_T50 l1 x24_2).f0), .int .i64 ((rd_T50 l1 x24_2).f1), .string ((rd_T50 l1 x24_2).f2)] 50 (0, 0)) (by (with_reducible repeat (first | apply kN_ | apply kD_ | apply kA_)); refine blk_put (cs := #[.int .i64 ((rd_T50 l1 x24_2).f0), .int .i64 ((rd_T50 l1 x24_2).f1), .string (⟨#[]⟩ : ByteArray)]) ?_ 2 _ rfl; (with_reducible repeat (first | apply kN_ | apply kD_ | apply kA_)); refine blk_put (cs := #[.int .i64 ((rd_T50 l1 x24_2).f0), .int .i64 0, .string (⟨#[]⟩ : ByteArray)]) ?_ 1 _ rfl; (with_reducible repeat (first | apply kN_ | apply kD_ | apply kA_)); refine blk_put (cs := #[.int .i64 0, .int .i64 0, .string (⟨#[]⟩ : ByteArray)]) ?_ 0 _ rfl; (with_reducible repeat (first | apply kN_ | apply kD_ | apply kA_)); exact BK552.out) hb); replace HB := aM_ (below_step hB_ hb); clear hb ho24; obtain ⟨Ao26, co26, eo26⟩ := Kd.R_slice HO555.out; subst eo26) | ((with_reducible refine gate_builtin (b := .append) (xs := #[.tmp 41, .tmp 45]) rfl ?_); at_builtin; refine Kd.S_append (Kd.slice 3 (Kd.int .i64)) (w0 := w) w.heap.size rfl (.tmp 41) (.tmp 45) 35 26 (.slice none 0 0) 24 rfl Try.underlying35 info26 rfl (by decide) (by omega) u6 x6_2 y553 [.slice Ao26 y553.length co26] (fun _ => True) (fun k_ => some k_ = (.slice Ao26 y553.length co26 : Value).ownBlock) rfl rfl ?aP (fun k_ hk_ => ((Kd.R_mono (ok' := fun k_ => ((fun _ => True)) k_ ∧ some k_ ≠ (u6 : Value).ownBlock) (Kd.R_apart' (HO555.out) (Kd.S_typed HO_6.out) (by decide)) (fun k_ hk => ⟨trivial, hk.2⟩))).1 k_ hk_.symm) ?aF ?aO ?aB ?aS ?aL ?_; (case aP => exact Kd.M_row (Kd.R_mono (Kd.R_tight rfl (Kd.R_mono (ok' := fun k_ => ((fun _ => True)) k_ ∧ some k_ ≠ (u6 : Value).ownBlock) (Kd.R_apart' (HO555.out) (Kd.S_typed HO_6.out) (by decide)) (fun k_ hk => ⟨trivial, hk.2⟩))) (fun _ h_ => h_))); (case aB => exact hB_); (case aF => exact (fun _ _ => trivial)); (case aO => exact z13_8_); (case aS => exact (below_size hB_)); (case aL => have := LMc22.out; omega); intro v557 w25 ho hb hg hat; rw [← Ny556.out] at ho; have HO558 := aM_ (ho); replace BK550 := aM_ (blk_grown (g := gb550) (kR_ BK550) hg (Kd.S_ne HO_6.out BK550.out (by decide))); replace BK552 := aM_ (blk_grown (g := gb552) (kR_ BK552) hg (Kd.S_ne HO_6.out BK552.out (by decide))); replace HB := aM_ (hb); clear HO_6 HO555; clear ho hb hg hat))
     go_roundg k2
     case measure => have := HK1.out; have := HK2.out; omega
     case rel => exact ⟨(y556), (wrap64 (x24_2 + 1)), z13_2_, H', ⟨z13_9_⟩, ⟨sR_ HO558⟩, ⟨kP_⟩, ⟨hB_⟩⟩

/-! ### spec_DrawLongNotes: function 13 -/
theorem spec_DrawLongNotes.calls (k : Nat) (A0 : Option Addr) (c0 : Nat) (l0 : List Int) (r1 : List (S50)) (r2 : Int) (w : World) (hr0 : Kd.C (Kd.int .u8) w A0 l0.length l0) (hc0 : l0.length ≤ c0) (h : spec_DrawLongNotes.f k l0 = some (r1, r2)) :
 Calls Try.prog 13 #[.slice A0 l0.length c0] w fun e w' => ∃ v0_ : Value, e = .returned (.tuple #[v0_, .int .i64 r2]) ∧ Kd.R k50 50 w' w.heap.size (fun _ => True) v0_ r1 ∧ Below w.heap.size w w' := by
 have hu62 := Try.underlying62
 have HR0 := Aside0.mk hr0
 have HC0 := Aside0.mk hc0
 clear hr0 hc0
 have HB := Aside0.mk (Below.refl w.heap.size w)
 have H : ((spec_l1Cur_tier.f k l0 0 0).bind fun bt560 => ((spec_l1Cur_among.f l0 bt560.2.1 bt560.2.2 (([8, (-1), 100000] : List Int))).bind fun bt568 => ((spec_l1Cur_among.f l0 bt568.2.1 bt568.2.2 (([0, 1, 5, 6, 20, 99999, bt568.1] : List Int))).bind fun bt574 => (some (bt560.1, bt574.1))))) = some (r1, r2) := h
 clear h
 replace H := ob_ H; obtain ⟨⟨t560, t563, t564⟩, A2, H⟩ := H; try dsimp only at H
 obtain ⟨y565, hy565⟩ : ∃ y_ : List Int, y_ = (([8, (-1), 100000] : List Int)) := ⟨_, rfl⟩
 rw [← hy565] at H
 have Ny565 := Aside0.mk hy565; clear hy565
 replace H := ob_ H; obtain ⟨⟨t568, t569, t570⟩, A3, H⟩ := H; try dsimp only at H
 obtain ⟨y571, hy571⟩ : ∃ y_ : List Int, y_ = (([0, 1, 5, 6, 20, 99999, t568] : List Int)) := ⟨_, rfl⟩
 rw [← hy571] at H
 have Ny571 := Aside0.mk hy571; clear hy571
 replace H := ob_ H; obtain ⟨⟨t574, t575, t576⟩, A4, H⟩ := H; try dsimp only at H
 simp only [Option.some.injEq, Prod.mk.injEq] at H
 obtain ⟨rfl, rfl⟩ := H
 go_enter Try.func13, Try.ntmps13
 go_wp2_with (first | ((with_reducible refine gate_dst (N := 7) rfl ?_); refine bx_ 7 #[.slice A0 l0.length c0, .int .i64 0, .int .u64 0] 62 fun gb559 hg w5 hbox hb => ?_; have HI559 := aM_ ((show IsS62 w w5 gb559 l0 0 0 from ⟨A0, c0, hbox, (by rw [hg]; exact (below_size hB_) : w.heap.size ≤ gb559), HR0.out⟩)); replace HB := aM_ (below_step hB_ hb); clear hb hbox hg) | (refine gM_ (some 9) Try.func33 #[.pointer (some ⟨gb559, 0, none⟩)] ?_; (with_reducible refine (spec_l1Cur_tier.calls k gb559 l0 0 0 t560 t563 t564 w _ ?side1 ?side2 A2.out).mono ?_); (case side1 => exact z13_11_); (case side2 => exact z13_12_); rintro e w6 ⟨v561, rfl, ho0, hi, hb, hk⟩; refine ⟨_, rfl, ?_⟩; have HO562 := aM_ (Kd.R_lower ho0 (below_size z13_12_)); replace HB := aM_ (hb); replace HI559 := aM_ (hi); (try clear hb); (try clear hk); (try clear hi); (try clear ho0)) | ((with_reducible refine gate_dst (N := 12) rfl ?_); refine rl_ (Kd.int .i64) 3 12 ([8, (-1), 100000] : List Int) [.int .i64 8, .int .i64 (-1), .int .i64 100000] (Reps.one (show Kd.M (Kd.int .i64) _ _ _ 8 [.int .i64 8] from rfl) (Reps.one (show Kd.M (Kd.int .i64) _ _ _ (-1) [.int .i64 (-1)] from rfl) (Reps.one (show Kd.M (Kd.int .i64) _ _ _ 100000 [.int .i64 100000] from rfl) (Reps.none _ _)))) ?_; intro v566 w7 ho8 hb hg_ hnew_; clear hg_ hnew_; (first | rw [← Ny565.out] at ho8 | (simp only [Int.reduceToNat] at ho8; rw [← Ny565.out] at ho8)); have HO567 := aM_ (Kd.R_lower ho8 (below_size z13_12_)); replace HO562 := aM_ (Kd.R_below (rR_ HO562) hb); replace HB := aM_ (below_step z13_12_ hb); replace HI559 := aM_ (IsS62.below z13_11_ hb); clear hb ho8; obtain ⟨Ao9, co9, eo9⟩ := Kd.R_slice HO567.out; subst eo9) | (refine gM_ (some 13) Try.func47 #[.pointer (some ⟨gb559, 0, none⟩), .slice Ao9 y565.length co9] ?_; (with_reducible refine (spec_l1Cur_among.calls gb559 l0 t563 t564 _ _ y565 t568 t569 t570 w _ ?side1 ?side2 ?side3 ?side4 ?side5 A3.out).mono ?_); (case side1 => exact z13_11_); (case side2 => exact z13_12_); (case side3 => exact cR_ HO567); (case side4 => exact (Kd.R_reads' HO567.out).2.1); (case side5 => exact far_slice (IsS62.own_ne HI559.out HO567.out (by decide))); rintro e w10 ⟨rfl, hi, hb, hk⟩; refine ⟨_, rfl, ?_⟩; replace HO562 := aM_ (Kd.R_mono (Kd.R_keep (IsS62.apart (show IsS62 w _ gb559 l0 t563 t564 from by repeat (first | (with_reducible first | exact HI559.out | apply IsS62.alloc | apply IsS62.drewN | apply IsS62.drew | apply IsS62.set_1 | apply IsS62.set_2) | exact HI559.out)) (rR_ HO562) (by decide)) hk (fun _ h => h.2)) (fun _ h => h.1)); replace HO567 := aM_ (Kd.R_mono (Kd.R_keep (IsS62.apart (show IsS62 w _ gb559 l0 t563 t564 from by repeat (first | (with_reducible first | exact HI559.out | apply IsS62.alloc | apply IsS62.drewN | apply IsS62.drew | apply IsS62.set_1 | apply IsS62.set_2) | exact HI559.out)) (rR_ HO567) (by decide)) hk (fun _ h => h.2)) (fun _ h => h.1)); replace HB := aM_ (hb); replace HI559 := aM_ (hi); (try clear hb); (try clear hk); (try clear hi)) | ((with_reducible refine gate_dst (N := 14) rfl ?_); refine rl_ (Kd.int .i64) 3 14 ([0, 1, 5, 6, 20, 99999, t568] : List Int) [.int .i64 0, .int .i64 1, .int .i64 5, .int .i64 6, .int .i64 20, .int .i64 99999, .int .i64 t568] (Reps.one (show Kd.M (Kd.int .i64) _ _ _ 0 [.int .i64 0] from rfl) (Reps.one (show Kd.M (Kd.int .i64) _ _ _ 1 [.int .i64 1] from rfl) (Reps.one (show Kd.M (Kd.int .i64) _ _ _ 5 [.int .i64 5] from rfl) (Reps.one (show Kd.M (Kd.int .i64) _ _ _ 6 [.int .i64 6] from rfl) (Reps.one (show Kd.M (Kd.int .i64) _ _ _ 20 [.int .i64 20] from rfl) (Reps.one (show Kd.M (Kd.int .i64) _ _ _ 99999 [.int .i64 99999] from rfl) (Reps.one (show Kd.M (Kd.int .i64) _ _ _ t568 [.int .i64 t568] from rfl) (Reps.none _ _)))))))) ?_; intro v572 w11 ho12 hb hg_ hnew_; clear hg_ hnew_; (first | rw [← Ny571.out] at ho12 | (simp only [Int.reduceToNat] at ho12; rw [← Ny571.out] at ho12)); have HO573 := aM_ (Kd.R_lower (Kd.R_new' ho12 (Kd.R_lt (rR_ HO567))) (below_size z13_12_)); replace HO562 := aM_ (Kd.R_below (rR_ HO562) hb); replace HO567 := aM_ (Kd.R_elder' (rR_ HO567) (Kd.R_base ho12) hb); replace HB := aM_ (below_step z13_12_ hb); replace HI559 := aM_ (IsS62.below z13_11_ hb); clear hb ho12; obtain ⟨Ao13, co13, eo13⟩ := Kd.R_slice HO573.out; subst eo13) | (refine gM_ (some 15) Try.func47 #[.pointer (some ⟨gb559, 0, none⟩), .slice Ao13 y571.length co13] ?_; (with_reducible refine (spec_l1Cur_among.calls gb559 l0 t569 t570 _ _ y571 t574 t575 t576 w _ ?side1 ?side2 ?side3 ?side4 ?side5 A4.out).mono ?_); (case side1 => exact z13_11_); (case side2 => exact z13_12_); (case side3 => exact cR_ HO573); (case side4 => exact (Kd.R_reads' HO573.out).2.1); (case side5 => exact far_slice (IsS62.own_ne HI559.out HO573.out (by decide))); rintro e w14 ⟨rfl, hi, hb, hk⟩; refine ⟨_, rfl, ?_⟩; replace HO562 := aM_ (Kd.R_mono (Kd.R_keep (IsS62.apart (show IsS62 w _ gb559 l0 t569 t570 from by repeat (first | (with_reducible first | exact HI559.out | apply IsS62.alloc | apply IsS62.drewN | apply IsS62.drew | apply IsS62.set_1 | apply IsS62.set_2) | exact HI559.out)) (rR_ HO562) (by decide)) hk (fun _ h => h.2)) (fun _ h => h.1)); replace HO567 := aM_ (Kd.R_mono (Kd.R_keep (IsS62.apart (show IsS62 w _ gb559 l0 t569 t570 from by repeat (first | (with_reducible first | exact HI559.out | apply IsS62.alloc | apply IsS62.drewN | apply IsS62.drew | apply IsS62.set_1 | apply IsS62.set_2) | exact HI559.out)) (rR_ HO567) (by decide)) hk (fun _ h => h.2)) (fun _ h => h.1)); replace HO573 := aM_ (Kd.R_mono (Kd.R_keep (IsS62.apart (show IsS62 w _ gb559 l0 t569 t570 from by repeat (first | (with_reducible first | exact HI559.out | apply IsS62.alloc | apply IsS62.drewN | apply IsS62.drew | apply IsS62.set_1 | apply IsS62.set_2) | exact HI559.out)) (rR_ HO573) (by decide)) hk (fun _ h => h.2)) (fun _ h => h.1)); replace HB := aM_ (hb); replace HI559 := aM_ (hi); (try clear hb); (try clear hk); (try clear hi)))
 go_ret2
 exact ⟨_, rT_, (rR_ HO562), z13_12_⟩

/-! ### impl_LongNotes_1: function 115 -/
theorem impl_LongNotes_1.calls (a0_0 : Int) (a0_1 : Int) (a0_2 : ByteArray) (g1_0 : Nat) (a1_0 : Int) (r : Bool) (w : World) (hb1_0 : w.heap[g1_0]? = some (.cells #[.int .i64 a1_0] 3 (0, 0))) (h : impl_LongNotes_1.f a0_0 a0_1 a0_2 a1_0 = some r) :
 Calls Try.prog 48 #[.agg #[.int .i64 a0_0, .int .i64 a0_1, .string a0_2], .pointer (some ⟨g1_0, 0, none⟩)] w fun e w' => e = .returned (.bool r) ∧ Below w.heap.size w w' := by
 have hu50 := Try.underlying50
 have BK38 := Aside0.mk hb1_0
 clear hb1_0
 have HB := Aside0.mk (Below.refl w.heap.size w)
 have H : (some (decide ((wrap64 (a0_1 - a0_0)) ≥ a1_0))) = some r := h
 clear h
 obtain rfl := Option.some.inj H
 go_enter Try.func48, Try.ntmps48
 go_wp2_with (first | ((with_reducible refine gate_dst (N := 2) rfl ?_); refine bx_ 2 #[.int .i64 a0_0, .int .i64 a0_1, .string a0_2] 50 fun gb577 hg w3 hbox hb => ?_; have BK577 := aM_ (hbox); have GW577 := aM_ (gw_ w hg); have GE577 := aM_ (gw_ w hg); have NB38_577 := aM_ (nb_ g1_0 hg); have NB577_38 := aM_ (nc_ g1_0 hg); replace BK38 := aM_ (blk_below (g := g1_0) (kR_ BK38) hb); replace HB := aM_ (below_step hB_ hb); clear hb hbox hg; have hnb4 := NB577_38.out; have hnc4 := NB38_577.out; have hz5 := cf3_ BK577.out; clear BK577; have hz6 := cf1_ BK38.out))
 go_ret
 exact ⟨rT_, hB_⟩

/-! ### impl_those_Note_impl_LongNotes_1: function 114 -/
theorem impl_those_Note_impl_LongNotes_1.calls (k : Nat) (A0 : Option Addr) (c0 : Nat) (l0 : List (S50)) (g1_0 : Nat) (a1_0 : Int) (r : List Int) (w : World) (hr0 : Kd.C k50 w A0 l0.length l0) (hc0 : l0.length ≤ c0) (hb1_0 : w.heap[g1_0]? = some (.cells #[.int .i64 a1_0] 3 (0, 0))) (h : impl_those_Note_impl_LongNotes_1.f k l0 a1_0 = some r) :
 Calls Try.prog 38 #[.slice A0 l0.length c0, .func (.func 48) #[] #[.pointer (some ⟨g1_0, 0, none⟩)]] w fun e w' => ∃ v0_ : Value, e = .returned (v0_) ∧ Kd.R (Kd.int .i64) 3 w' w.heap.size (fun _ => True) v0_ r ∧ Below w.heap.size w w' := by
 have hu50 := Try.underlying50
 have HR0 := Aside0.mk hr0
 have HC0 := Aside0.mk hc0
 clear hr0 hc0
 have BK38 := Aside0.mk hb1_0
 clear hb1_0
 have HB := Aside0.mk (Below.refl w.heap.size w)
 have H : (impl_those_Note_impl_LongNotes_1.l0 k ([] : List Int) l0 (l0.length : Int) 0 a1_0) = some r := h
 clear h
 have H' := Aside0.mk H
 clear H
 go_enter Try.func38, Try.ntmps38
 go_wp2
 go_loopg [5, 10] k (fun kq v5 v10 w' => ∃ (x5_1 : List Int) (x10_1 : Int), v10 = .int .i64 x10_1 ∧ Aside0 (impl_those_Note_impl_LongNotes_1.l0 kq x5_1 l0 (l0.length : Int) x10_1 a1_0 = some r) ∧ Aside0 (kq ≤ k) ∧ Aside0 (Kd.R (Kd.int .i64) 3 w' w.heap.size (fun k_ => k_ ≠ g1_0) v5 x5_1) ∧ Aside0 (w'.heap[g1_0]? = some (.cells #[.int .i64 a1_0] 3 (0, 0))) ∧ Aside0 (Below w.heap.size w w'))
 case atStart => exact ⟨(([] : List Int)), (0), z13_2_, H', ⟨Nat.le_refl _⟩, ⟨by first | exact Kd.R_nil _ _ _ _ _ | exact Kd.N_nil _ _ _ _ _ | exact Kd.V_nil _ _ _ _ _ | exact Kd.Q_nil _ _ _ _ _ | exact Kd.S_nil _ _ _ _ _⟩, ⟨kP_⟩, ⟨hB_⟩⟩
 case round =>
  clear H'
  obtain ⟨x5_1, x10_1, rfl, HA, HK1, HO_5, BK38, HB⟩ := hrel
  cases gk with
  | zero => exact absurd HA.out (by simp [impl_those_Note_impl_LongNotes_1.l0])
  | succ k1 =>
   have H := HA.out
   clear HA
   simp only [impl_those_Note_impl_LongNotes_1.l0] at H
   replace H := iF_ H; obtain ⟨c3b0, H⟩ | ⟨c3b0, H⟩ := H
   ·obtain rfl := Option.some.inj H
    go_wp2
    go_ret
    exact ⟨_, rT_, by (with_reducible repeat (first | apply rA_ | apply rN_ | apply rD_)); exact Kd.R_mono HO_5.out (fun _ hk => trivial), hB_⟩
   replace H := ig_ H; obtain ⟨c4b0, H⟩ := H
   replace H := ig_ H; obtain ⟨c5b0, H⟩ := H
   replace H := ob_ H; obtain ⟨t580, A6, H⟩ := H; try dsimp only at H
   have HC7 := Aside0.mk H
   clear H
   have p578 : 0 ≤ (x10_1 : Int) := ode_
   have q578 : x10_1 < (l0.length : Int) := ode_
   obtain ⟨ad578, e578, hx578_0, hx578_1, hx578_2⟩ := at_T50 HR0.out x10_1 p578 q578
   cases e578
   replace hx578_0 := hc_ HB hx578_0
   replace hx578_1 := hc_ HB hx578_1
   replace hx578_2 := hc_ HB hx578_2
   replace p578 := eq_true p578
   replace q578 := eq_true q578
   go_upto_if 17 with (first | ((with_reducible refine gate_dst (N := 7) rfl ?_); refine bx_ 7 #[.int .i64 0, .int .i64 0, .string (⟨#[]⟩ : ByteArray)] 50 fun gb579 hg w8 hbox hb => ?_; have BK579 := aM_ (hbox); have GW579 := aM_ (gw_ w hg); have GE579 := aM_ (gw_ w hg); have NB38_579 := aM_ (nb_ g1_0 hg); have NB579_38 := aM_ (nc_ g1_0 hg); replace HO_5 := aM_ (Kd.R_below (rR_ HO_5) hb); replace BK38 := aM_ (blk_below (g := g1_0) (kR_ BK38) hb); replace HB := aM_ (below_step hB_ hb); clear hb hbox hg; have hnb9 := NB579_38.out; have hnc9 := NB38_579.out; have hz10 := cf3_ BK579.out) | ((with_reducible refine gate_via (t := 15) rfl ?_); refine goesV_ (some 17) rfl rfl Try.func48 (by kernel_rfl) rfl #[.agg #[.int .i64 ((rd_T50 l0 x10_1).f0), .int .i64 ((rd_T50 l0 x10_1).f1), .string ((rd_T50 l0 x10_1).f2)], .pointer (some ⟨g1_0, 0, none⟩)] rfl rfl (by (try simp only [List.map_toArray, List.map_cons, List.map_nil]); first | done | rfl | simp | (simp; rfl)) ?_; (with_reducible refine (impl_LongNotes_1.calls ((rd_T50 l0 x10_1).f0) ((rd_T50 l0 x10_1).f1) ((rd_T50 l0 x10_1).f2) g1_0 a1_0 t580 _ ?side1 A6.out).mono ?_); (case side1 => (with_reducible repeat (first | apply kN_ | apply kD_ | apply kA_)); refine blk_far ?_ NB38_579.out _; (with_reducible repeat (first | apply kN_ | apply kD_ | apply kA_)); refine blk_far ?_ NB38_579.out _; (with_reducible repeat (first | apply kN_ | apply kD_ | apply kA_)); refine blk_far ?_ NB38_579.out _; (with_reducible repeat (first | apply kN_ | apply kD_ | apply kA_)); exact BK38.out); rintro e w11 ⟨rfl, hb⟩; refine ⟨_, rfl, ?_⟩; replace HO_5 := aM_ (Kd.R_below (by (with_reducible repeat (first | apply rA_ | apply rN_ | apply rD_)); exact (Kd.R_mono (Kd.R_far (p := ⟨gb579, 2, none⟩) (Kd.R_far (p := ⟨gb579, 1, none⟩) (Kd.R_far (p := ⟨gb579, 0, none⟩) (Kd.R_types HO_5.out BK579.out (by decide)) (fun _ hk => hk.2) (.int .i64 ((rd_T50 l0 x10_1).f0))) (fun _ hk => hk.2) (.int .i64 ((rd_T50 l0 x10_1).f1))) (fun _ hk => hk.2) (.string ((rd_T50 l0 x10_1).f2))) (fun _ h_ => h_.1))) hb); replace BK38 := aM_ (blk_below (g := g1_0) (kR_ BK38) hb); replace BK579 := aM_ (blk_below (g := gb579) (o := .cells #[.int .i64 ((rd_T50 l0 x10_1).f0), .int .i64 ((rd_T50 l0 x10_1).f1), .string ((rd_T50 l0 x10_1).f2)] 50 (0, 0)) (by (with_reducible repeat (first | apply kN_ | apply kD_ | apply kA_)); refine blk_put (cs := #[.int .i64 ((rd_T50 l0 x10_1).f0), .int .i64 ((rd_T50 l0 x10_1).f1), .string (⟨#[]⟩ : ByteArray)]) ?_ 2 _ rfl; (with_reducible repeat (first | apply kN_ | apply kD_ | apply kA_)); refine blk_put (cs := #[.int .i64 ((rd_T50 l0 x10_1).f0), .int .i64 0, .string (⟨#[]⟩ : ByteArray)]) ?_ 1 _ rfl; (with_reducible repeat (first | apply kN_ | apply kD_ | apply kA_)); refine blk_put (cs := #[.int .i64 0, .int .i64 0, .string (⟨#[]⟩ : ByteArray)]) ?_ 0 _ rfl; (with_reducible repeat (first | apply kN_ | apply kD_ | apply kA_)); exact BK579.out) hb); replace HB := aM_ (below_step hB_ hb); (try clear hb); (try clear hk)))
   (try simp only [Act.put, List.setIfInBounds_toArray, List.set_cons_zero, List.set_cons_succ])
   have H := HC7.out
   clear HC7
   by_cases c12 : t580 = true
   rotate_left
   ·replace c12 := Bool.eq_false_iff.mpr c12
    subst c12
    replace H := in_ H (show ¬ (false = true) by decide)
    have H' := Aside0.mk H
    clear H
    go_wp2
    go_roundg k1
    case measure => have := HK1.out; omega
    case rel => exact ⟨(x5_1), (wrap64 (x10_1 + 1)), z13_2_, H', ⟨by have := HK1.out; omega⟩, ⟨(rR_ HO_5)⟩, ⟨kP_⟩, ⟨hB_⟩⟩
   subst c12
   replace H := ip_ H rfl
   replace H := il_ H; obtain ⟨LMc13, H⟩ := H
   obtain ⟨y581, hy581⟩ : ∃ y_ : List Int, y_ = (x5_1 ++ [x10_1]) := ⟨_, rfl⟩
   rw [← hy581] at H
   have Ny581 := Aside0.mk hy581; clear hy581
   have H' := Aside0.mk H
   clear H
   go_wp2_with (first | ((with_reducible refine gate_builtin (b := .append) (xs := #[.tmp 18, .tmp 20]) rfl ?_); at_builtin; refine Kd.R_append (Kd.int .i64) (w0 := w) w.heap.size rfl (.tmp 18) (.tmp 20) 26 3 (.int .i64 0) 8 rfl Try.underlying26 info3 rfl (by decide) (by omega) u5 x5_1 x10_1 [.int .i64 x10_1] (fun k_ => k_ ≠ g1_0) (fun _ => False) rfl rfl ?aP (fun _ hk => hk.elim) ?aF ?aO ?aB ?aS ?aL ?_; (case aP => exact rfl); (case aB => exact hB_); (case aF => exact (fun k_ hk => Kd.freshB (g := g1_0) kP_ k_ hk)); (case aO => exact (rR_ HO_5)); (case aS => exact (below_size hB_)); (case aL => have := LMc13.out; omega); intro v582 w14 ho hb hg hat; rw [← Ny581.out] at ho; have HO583 := aM_ (ho); replace BK38 := aM_ (blk_grown (g := g1_0) (kR_ BK38) hg (Kd.R_away HO_5.out (fun _ hk => hk))); replace BK579 := aM_ (blk_grown (g := gb579) (kR_ BK579) hg (Kd.R_ne HO_5.out BK579.out (by decide))); replace HB := aM_ (hb); clear HO_5; clear ho hb hg hat))
   go_roundg k1
   case measure => have := HK1.out; omega
   case rel => exact ⟨(y581), (wrap64 (x10_1 + 1)), z13_2_, H', ⟨by have := HK1.out; omega⟩, ⟨rR_ HO583⟩, ⟨kP_⟩, ⟨hB_⟩⟩

end Go.Proofs.Ytbfkpgmdbafmhaa.PFnTierCounts
