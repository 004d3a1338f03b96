/- Printed for this claim: functions of the program as Lean functions, and that the calls answer so. -/
import Derived.Test.YtbheajjagkdjmaaPFnLocix0
import Derived.Test.YtbheajjagkdjmaaPFnLocix6
import Derived.Test.YtbheajjagkdjmaaPFnLocix7
import Derived.Test.YtbheajjagkdjmaaPFnLocixD0
namespace Go.Proofs.Ytbheajjagkdjmaa.PFnLoci
open Go.RowKit Go.Proofs.YtbheajjagkdjmaaW.PrintWords Go.Proofs.YtbheajjagkdjmaaW.PrintLast Go.Proofs.YtbheajjagkdjmaaW.PrintMore
attribute [local go_sem] max2_int min2_int max_two min_two max_three min_three max_four min_four isSome_setCell   -- for this text's walks alone
set_option linter.unusedVariables false
set_option linter.unusedSimpArgs false

theorem y8_0_ {p : Prop} (h : p := by repeat (first | (with_reducible first | exact HK.out | apply Kept.alloc | apply Kept.drewN | apply Kept.drew) | exact HK.out)) : p := h
theorem y8_1_ {p : Prop} (h : p := by (with_reducible repeat (first | apply rA_ | apply rN_ | apply rD_)); exact HO0.out) : p := h
theorem y8_2_ {p : Prop} (h : p := by first | exact Kd.R_nil _ _ _ _ _ | exact Kd.N_nil _ _ _ _ _ | exact Kd.V_nil _ _ _ _ _ | exact Kd.Q_nil _ _ _ _ _ | exact Kd.S_nil _ _ _ _ _) : p := h
theorem y8_3_ {p : Prop} (h : p := by first | rfl | (simp; done) | (simp [*]; done)) : p := h
theorem y8_4_ {p : Prop} (h : p := by (try simp only [List.map_toArray, List.map_cons, List.map_nil]); first | done | rfl | simp | (simp; rfl)) : p := h
theorem y8_5_ {p : Prop} (h : p := by repeat (first | (with_reducible first | exact HK.out | apply Kept.alloc | apply Kept.drewN | apply Kept.drew | refine Kept.setCell ?_ (.inr GW38.out) _) | exact HK.out)) : p := h
theorem y8_6_ {p : Prop} (h : p := by (with_reducible repeat (first | apply rA_ | apply rN_ | apply rD_)); exact HO_0.out) : p := h
theorem y8_7_ {p : Prop} (h : p := by repeat (first | (with_reducible first | exact HK.out | apply Kept.alloc | apply Kept.drewN | apply Kept.drew | refine Kept.setCell ?_ (.inr GW38.out) _ | refine Kept.setCell ?_ (.inr GW224.out) _) | exact HK.out)) : p := h
theorem y8_8_ {p : Prop} (h : p := by (try simp only [hl0_1]); (with_reducible repeat (first | apply rA_ | apply rN_ | apply rD_)); exact Kd.R_mono HO_0.out (fun _ hk => hk.1)) : p := h
theorem y8_9_ {p : Prop} (h : p := by (try simp only [hl0_1]); (with_reducible repeat (first | apply kN_ | apply kD_ | apply kA_)); exact BK38.out) : p := h
theorem y8_10_ {p : Prop} (h : p := by have h_ : (x5_1 : Int) < ((x0_1.length : Int) : Int) := ode_; first | exact h_ | (have e_ := (Kd.R_reads' HO_0.out).1; omega) | simpa using h_) : p := h
theorem y8_11_ {p : Prop} (h : p := by repeat (first | exact Drawn0.refl _ | apply Drawn0.step)) : p := h
/-! ### impl_sortedLoci_1: function 82 -/
set_option maxHeartbeats 8000000 in
set_option maxRecDepth 100000 in
theorem impl_sortedLoci_1.calls (a0_0 : ByteArray) (a0_1 : Int) (a1_0 : ByteArray) (a1_1 : Int) (r : Int) (w : World) (h : impl_sortedLoci_1.f a0_0 a0_1 a1_0 a1_1 = some r) :
 Calls Try.prog 82 #[.agg #[.string a0_0, .int .i64 a0_1], .agg #[.string a1_0, .int .i64 a1_1]] w fun e w' => e = .returned (.int .i64 r) ∧ Below w.heap.size w w' := by
 have hu55 := Try.underlying55
 have HB := Aside0.mk (Below.refl w.heap.size w)
 have H : (some (wrap64 (a0_1 - a1_1))) = some r := h
 clear h
 obtain rfl := Option.some.inj H
 go_enter Try.func82, Try.ntmps82
 go_wp2_with (first | ((with_reducible refine gate_dst (N := 2) rfl ?_); refine box_event ?hg (N := 2) ?hd (cs := #[.string a0_0, .int .i64 a0_1]) (t := 55) ?hr ?_; (case hd => rfl); (case hg => rfl); (case hr => first | (go_simp; done) | (go_simp; rfl)); intro gb212 hg w3 hbox hb; have BK212 := aM_ (hbox); have GW212 := aM_ (gw_ w hg); have GE212 := aM_ (gw_ w hg); replace HB := aM_ (below_step hB_ hb); clear hb hbox hg) | ((with_reducible refine gate_dst (N := 3) rfl ?_); refine box_event ?hg (N := 3) ?hd (cs := #[.string a1_0, .int .i64 a1_1]) (t := 55) ?hr ?_; (case hd => rfl); (case hg => rfl); (case hr => first | (go_simp; done) | (go_simp; rfl)); intro gb213 hg w4 hbox hb; have BK213 := aM_ (hbox); have GW213 := aM_ (gw_ w hg); have GE213 := aM_ (gw_ w hg); have NB212_213 := aM_ (nb_ gb212 hg); have NB213_212 := aM_ (nc_ gb212 hg); replace BK212 := aM_ (blk_below (g := gb212) kP_ hb); replace HB := aM_ (below_step hB_ hb); clear hb hbox hg; have hnb5 := NB212_213.out; have hnc5 := NB213_212.out; have hz6 := cf2_ BK212.out; clear BK212; have hz7 := cf2_ BK213.out))
 go_ret
 exact ⟨rT_, hB_⟩

/-! ### slices_SortFunc_Locus_impl_sortedLoci_1: function 157, by hand -/
open Go.Shelf Go.RowKit Go.Sort Go.Lib in
def laid_laysF6_81_ren : Go.Shelf.Ren := ⟨fun | 6 => 81 | 15 => 101 | 14 => 100 | 28 => 114 | 29 => 115 | 20 => 106 | 21 => 107 | 22 => 108 | 23 => 109 | 24 => 110 | 25 => 111 | 26 => 112 | 27 => 113 | 46 => 127 | 47 => 128 | 48 => 129 | 49 => 130 | 50 => 131 | 57 => 136 | n => n, fun | 22 => 24 | 24 => 55 | 25 => 101 | 3 => 3 | 39 => 115 | 0 => 0 | 53 => 126 | 55 => 88 | 4 => 4 | 46 => 119 | 45 => 118 | 50 => 123 | 5 => 5 | 9 => 9 | 66 => 134 | 70 => 138 | 76 => 142 | 77 => 110 | n => n, fun | n => n⟩
open Go.Shelf Go.RowKit Go.Sort Go.Lib in
theorem laid_laysF6_81 : Go.Proofs.SlLaysF0.n6 Try.prog laid_laysF6_81_ren := {
 mixed := by kernel_rfl
 f6 := ⟨Try.f81.name, by decide, Try.func81.trans (congrArg some (by kernel_rfl))⟩
 f14 := ⟨Try.f100.name, by decide, Try.func100.trans (congrArg some (by kernel_rfl))⟩
 f15 := Try.func101.trans (congrArg some (by kernel_rfl))
 f20 := ⟨Try.f106.name, by decide, Try.func106.trans (congrArg some (by kernel_rfl))⟩
 f21 := ⟨Try.f107.name, by decide, Try.func107.trans (congrArg some (by kernel_rfl))⟩
 f22 := ⟨Try.f108.name, by decide, Try.func108.trans (congrArg some (by kernel_rfl))⟩
 f23 := ⟨Try.f109.name, by decide, Try.func109.trans (congrArg some (by kernel_rfl))⟩
 f24 := ⟨Try.f110.name, by decide, Try.func110.trans (congrArg some (by kernel_rfl))⟩
 f25 := ⟨Try.f111.name, by decide, Try.func111.trans (congrArg some (by kernel_rfl))⟩
 f26 := ⟨Try.f112.name, by decide, Try.func112.trans (congrArg some (by kernel_rfl))⟩
 f27 := ⟨Try.f113.name, by decide, Try.func113.trans (congrArg some (by kernel_rfl))⟩
 f28 := Try.func114.trans (congrArg some (by kernel_rfl))
 f29 := Try.func115.trans (congrArg some (by kernel_rfl))
 f46 := ⟨Try.f127.name, by decide, Try.func127.trans (congrArg some (by kernel_rfl))⟩
 f47 := Try.func128.trans (congrArg some (by kernel_rfl))
 f48 := Try.func129.trans (congrArg some (by kernel_rfl))
 f49 := ⟨Try.f130.name, by decide, Try.func130.trans (congrArg some (by kernel_rfl))⟩
 f50 := ⟨Try.f131.name, by decide, Try.func131.trans (congrArg some (by kernel_rfl))⟩
 f57 := ⟨Try.f136.name, by decide, Try.func136.trans (congrArg some (by kernel_rfl))⟩
 t0 := Try.underlying0
 a0 := Try.isAgg0
 z0 := Try.sizeOf0
 v0 := Try.zeroValue0
 t3 := Try.underlying3
 a3 := Try.isAgg3
 z3 := Try.sizeOf3
 v3 := Try.zeroValue3
 t4 := Try.underlying4
 a4 := Try.isAgg4
 z4 := Try.sizeOf4
 v4 := Try.zeroValue4
 t5 := Try.underlying5
 a5 := Try.isAgg5
 z5 := Try.sizeOf5
 v5 := Try.zeroValue5
 t9 := Try.underlying9
 a9 := Try.isAgg9
 z9 := Try.sizeOf9
 v9 := Try.zeroValue9
 t22 := Try.underlying24
 a22 := Try.isAgg24
 z22 := Try.sizeOf24
 v22 := Try.zeroValue24
 t25 := Try.underlying101
 a25 := Try.isAgg101
 z25 := Try.sizeOf101
 v25 := Try.zeroValue101
 t39 := Try.underlying115
 a39 := Try.isAgg115
 z39 := Try.sizeOf115
 v39 := Try.zeroValue115
 t45 := Try.underlying118
 a45 := Try.isAgg118
 z45 := Try.sizeOf118
 v45 := Try.zeroValue118
 t46 := Try.underlying119
 a46 := Try.isAgg119
 z46 := Try.sizeOf119
 v46 := Try.zeroValue119
 t50 := Try.underlying123
 a50 := Try.isAgg123
 z50 := Try.sizeOf123
 v50 := Try.zeroValue123
 t53 := Try.underlying126
 a53 := Try.isAgg126
 z53 := Try.sizeOf126
 v53 := Try.zeroValue126
 t55 := Try.underlying88
 a55 := Try.isAgg88
 z55 := Try.sizeOf88
 v55 := Try.zeroValue88
 t66 := Try.underlying134
 a66 := Try.isAgg134
 z66 := Try.sizeOf134
 v66 := Try.zeroValue134
 t70 := Try.underlying138
 a70 := Try.isAgg138
 z70 := Try.sizeOf138
 v70 := Try.zeroValue138
 t76 := Try.underlying142
 a76 := Try.isAgg142
 z76 := Try.sizeOf142
 v76 := Try.zeroValue142
 t77 := Try.underlying110
 a77 := Try.isAgg110
 z77 := Try.sizeOf110
 v77 := Try.zeroValue110 }
open Go.Shelf Go.RowKit Go.Sort Go.Lib in
def laid_lays125_ren : Go.Shelf.Ren := ⟨fun | 125 => 101 | 128 => 114 | 129 => 115 | n => n, fun | 46 => 115 | 3 => 3 | 51 => 126 | 53 => 88 | 4 => 4 | 5 => 5 | 9 => 9 | n => n, fun | n => n⟩
open Go.Shelf Go.RowKit Go.Sort Go.Lib in
theorem laid_lays125 : Go.Proofs.Lays.n125 Try.prog laid_lays125_ren := {
 mixed := by kernel_rfl
 f125 := Try.func101.trans (congrArg some (by kernel_rfl))
 f128 := Try.func114.trans (congrArg some (by kernel_rfl))
 f129 := Try.func115.trans (congrArg some (by kernel_rfl))
 t3 := Try.underlying3
 a3 := Try.isAgg3
 z3 := Try.sizeOf3
 v3 := Try.zeroValue3
 t4 := Try.underlying4
 a4 := Try.isAgg4
 z4 := Try.sizeOf4
 v4 := Try.zeroValue4
 t5 := Try.underlying5
 a5 := Try.isAgg5
 z5 := Try.sizeOf5
 v5 := Try.zeroValue5
 t9 := Try.underlying9
 a9 := Try.isAgg9
 z9 := Try.sizeOf9
 v9 := Try.zeroValue9
 t46 := Try.underlying115
 a46 := Try.isAgg115
 z46 := Try.sizeOf115
 v46 := Try.zeroValue115
 t51 := Try.underlying126
 a51 := Try.isAgg126
 z51 := Try.sizeOf126
 v51 := Try.zeroValue126
 t53 := Try.underlying88
 a53 := Try.isAgg88
 z53 := Try.sizeOf88
 v53 := Try.zeroValue88 }
set_option maxHeartbeats 1000000 in
theorem slices_SortFunc_Locus_impl_sortedLoci_1.by_ (x y : Keyed slices_SortFunc_Locus_impl_sortedLoci_1.key) (W : World) : Calls Try.prog 82 #[.agg #[.string x.1.f0, .int .i64 x.1.f1], .agg #[.string y.1.f0, .int .i64 y.1.f1]] W fun e w' => e = .returned (.int .i64 (slices_SortFunc_Locus_impl_sortedLoci_1.key x.1 - slices_SortFunc_Locus_impl_sortedLoci_1.key y.1)) ∧ ∃ q os', w' = Sort.grow (W.drewN q) os' := by
 obtain ⟨⟨a, b⟩, hx⟩ := x
 obtain ⟨⟨a', b'⟩, hy⟩ := y
 have hw : wrap64 (b - b') = b - b' := by
  simp only [InKey, slices_SortFunc_Locus_impl_sortedLoci_1.key] at hx hy
  exact wrap64_in (by omega) (by omega)
 show Calls Try.prog 82 #[.agg #[.string a, .int .i64 b], .agg #[.string a', .int .i64 b']] W fun e w' => e = .returned (.int .i64 (b - b')) ∧ ∃ q os', w' = Sort.grow (W.drewN q) os'
 clear hx hy
 go_enter Try.func82, Try.ntmps82
 go_wp2
 go_ret
 exact ⟨by first | rfl | (rw [hw]; done) | (simp [hw]; done), 0, _, by first | (rw [Sort.alloc_eq_grow, Sort.alloc_eq_grow, Sort.grow_grow]; rfl) | (simp only [Sort.alloc_eq_grow, Sort.grow_grow]; rfl)⟩
set_option maxHeartbeats 1000000 in
theorem slices_SortFunc_Locus_impl_sortedLoci_1.calls (P0_ : Nat → Prop) (u9000_ : Value) (l0 : List S55) (r : List S55) (w0 w : World) (hB : Below w0.heap.size w0 w) (ho0 : Kd.R k55 55 w w0.heap.size P0_ u9000_ l0) (h : slices_SortFunc_Locus_impl_sortedLoci_1.f l0 = some r) :
 Calls Try.prog 81 #[u9000_, .func (.func 82) #[] #[]] w fun e w' => e = .returned (.tuple #[]) ∧ Kd.R k55 55 w' w0.heap.size (fun k_ => (P0_ k_ ∨ w.heap.size ≤ k_)) u9000_ r ∧ Below w0.heap.size w0 w' ∧ Kept w w' (fun k_ => P0_ k_) := by
 unfold slices_SortFunc_Locus_impl_sortedLoci_1.f at h
 split at h
 case isFalse => cases h
 case isTrue hl =>
  obtain ⟨h0, h12, hk⟩ := hl
  obtain rfl := Option.some.inj h
  refine sortedkey_row (enc := fun x : S55 => [.string x.f0, .int .i64 x.f1]) (.func (.func 82) #[] #[]) slices_SortFunc_Locus_impl_sortedLoci_1.key (fun _ => rfl) (fun h => k55_openM h) (fun {w base ok x} => k55_mkM w base ok x) (fun blk off cap d' w hH hb hz => ?_) h0 hB ho0 h12 hk
  have eg : ∀ args w, (callFunc 82 args).run Try.prog w = .ok (.enter 82 args) w := enters_of Try.func82 (by kernel_rfl) rfl
  have hlen : ∀ (n : Nat) (W : World), n ≤ 12 → Calls Try.prog 101 #[.int .u64 n] W fun e w' => (∃ l : Int, e = .returned (.int .i64 l)) ∧ w' = W := fun n W h => (Any.bits_Len laid_lays125 n W (by omega) (by omega)).mono fun _ _ ⟨he, hw⟩ => ⟨⟨_, he⟩, hw⟩
  exact AnyQ.slices_SortFunc_small laid_laysF6_81 2 (fun w_ => by kernel_rfl) (fun w_ => by kernel_rfl) (fun x : Keyed slices_SortFunc_Locus_impl_sortedLoci_1.key => [.string x.1.f0, .int .i64 x.1.f1]) (fun _ => rfl) (fun x v hv => by simp at hv; rcases hv with rfl | rfl <;> rfl) (fun x y => slices_SortFunc_Locus_impl_sortedLoci_1.key x.1 - slices_SortFunc_Locus_impl_sortedLoci_1.key y.1) 82 #[] blk off cap d' w eg (fun _ _ _ _ x y => slices_SortFunc_Locus_impl_sortedLoci_1.by_ x y _) hH hb hz hlen

/-! ### impl_sortedLoci: function 48 -/
set_option maxHeartbeats 8000000 in
set_option maxRecDepth 100000 in
theorem impl_sortedLoci.calls (k : Nat) (P0_ : Nat → Prop) (u9000_ : Value) (l0 : List (S55)) (r1 : List (S55)) (r2 : Bool) (w0 w : World) (hB : Below w0.heap.size w0 w) (ho0 : Kd.R k55 55 w w0.heap.size P0_ u9000_ l0) (h : impl_sortedLoci.f k l0 = some (r1, r2)) :
 Calls Try.prog 48 #[u9000_] w fun e w' => ∃ v0_ : Value, e = .returned (.tuple #[v0_, .bool r2]) ∧ Kd.R k55 55 w' w0.heap.size (fun k_ => (P0_ k_ ∨ w.heap.size ≤ k_)) v0_ r1 ∧ Below w0.heap.size w0 w' ∧ Kept w w' (fun k_ => P0_ k_) := by
 have HO0 := Aside0.mk (show Kd.R k55 55 w w0.heap.size (fun k_ => (P0_ k_ ∨ w.heap.size ≤ k_)) u9000_ l0 from Kd.R_mono ho0 (fun k_ hk => (.inl hk)))
 have HK := Aside0.mk (Kept.refl w (fun k_ => P0_ k_))
 have HW0 := Aside0.mk hB.size
 have HB := Aside0.mk hB
 clear hB
 have H : ((slices_SortFunc_Locus_impl_sortedLoci_1.f l0).bind fun t214 => ((impl_AreLoci.f k t214).bind fun t215 => (if t215 = true then (some (t214, true)) else (some (([] : List (S55)), false))))) = some (r1, r2) := h
 clear h
 replace H := Option.bind_eq_some_iff.mp H
 obtain ⟨t214, A20, H⟩ := H
 try dsimp only at H
 have A2 := Aside0.mk A20
 clear A20
 replace H := Option.bind_eq_some_iff.mp H
 obtain ⟨t215, A30, H⟩ := H
 try dsimp only at H
 have A3 := Aside0.mk A30
 clear A30
 have HC4 := Aside0.mk H
 clear H
 obtain ⟨Ao5, co5, eo5⟩ := Kd.R_slice HO0.out
 subst eo5
 go_enter Try.func48, Try.ntmps48
 go_upto_if 8 with (first | ((with_reducible refine gate_callee (f := 81) rfl ?_); refine goesM_ (some 5) Try.func81 #[.slice Ao5 l0.length co5, .func (.func 82) #[] #[]] ?_; (with_reducible refine (slices_SortFunc_Locus_impl_sortedLoci_1.calls (fun k_ => some k_ = (.slice Ao5 l0.length co5 : Value).ownBlock) (.slice Ao5 l0.length co5) l0  t214 w0 _ ?side1 ?side2 A2.out).mono ?_); (case side1 => repeat (first | (with_reducible first | exact HB.out | apply lA_ | apply lN_ | apply lD_) | exact HB.out)); (case side2 => exact Kd.R_tight rfl HO0.out); rintro e w6 ⟨rfl, hy0, hb, hkp⟩; refine ⟨_, rfl, ?_⟩; replace HK := aM_ (Kept.then_ (S := (fun k_ => P0_ k_)) y8_0_ hkp (fun k_ hs_ => (fun e_ => (HO0.out.1 k_ e_.symm)) hs_)); replace HO0 := aM_ (Kd.R_reok rfl hy0 (fun k_ e_ => HO0.out.1 k_ e_)); replace HB := aM_ (hb); (try clear hb); (try clear hkp); (try clear hy0)) | ((with_reducible refine gate_callee (f := 31) rfl ?_); refine goesL_ (some 7) rfl rfl Try.func31 (by kernel_rfl) rfl #[.slice Ao5 t214.length co5] rfl (by (try simp only [List.map_toArray, List.map_cons, List.map_nil]); first | done | (rw [show t214.length = l0.length from (Kd.R_reads' HO0.out).1.symm] <;> rfl) | rfl) ?_; (with_reducible refine (impl_AreLoci.calls k _ _ t214 t215 _ ?side1 ?side2 A3.out).mono ?_); (case side1 => repeat (first | exact (Kd.R_reads' HO0.out).2.2 | (with_reducible first | apply cA_ | apply cN_ | apply cD_))); (case side2 => rw [show t214.length = l0.length from (Kd.R_reads' HO0.out).1.symm]; exact (Kd.R_reads' HO0.out).2.1); rintro e w7 ⟨rfl, hb⟩; refine ⟨_, rfl, ?_⟩; replace HO0 := aM_ (Kd.R_below y8_1_ hb); replace HK := aM_ (Kept.below (S := (fun k_ => P0_ k_)) y8_0_ hb); replace HB := aM_ (below_step hB_ hb); (try clear hb)))
 (try simp only [Act.put, List.setIfInBounds_toArray, List.set_cons_zero, List.set_cons_succ])
 have H := HC4.out
 clear HC4
 by_cases c8 : t215 = true
 ·subst c8
  replace H := ip_ H rfl
  simp only [Option.some.injEq, Prod.mk.injEq] at H
  obtain ⟨rfl, rfl⟩ := H
  go_wp2
  go_ret2
  exact ⟨_, rT_, y8_1_, hB_, y8_0_⟩
 replace c8 := Bool.eq_false_iff.mpr c8
 subst c8
 replace H := in_ H (show ¬ (false = true) by decide)
 simp only [Option.some.injEq, Prod.mk.injEq] at H
 obtain ⟨rfl, rfl⟩ := H
 go_wp2
 go_ret2
 exact ⟨_, rT_, y8_2_, hB_, y8_0_⟩

/-! ### slices_Clone_Locus: function 84 -/
set_option maxHeartbeats 8000000 in
set_option maxRecDepth 100000 in
theorem slices_Clone_Locus.calls (A0 : Option Addr) (c0 : Nat) (l0 : List (S55)) (r : List (S55)) (w : World) (hr0 : Kd.C k55 w A0 l0.length l0) (hc0 : l0.length ≤ c0) (h : slices_Clone_Locus.f l0 = some r) :
 Calls Try.prog 84 #[.slice A0 l0.length c0] w fun e w' => ∃ v0_ : Value, e = .returned (v0_) ∧ Kd.R k55 55 w' w.heap.size (fun _ => True) v0_ r ∧ Below w.heap.size w w' := by
 rcases A0 with _ | A0v
 ·obtain rfl : l0 = [] := List.eq_nil_of_length_eq_zero (Nat.eq_zero_of_not_pos fun hp_ => by obtain ⟨ad_, e_, _⟩ := hr0.2.2 hp_; cases e_)
  obtain rfl : r = [] := by simpa [slices_Clone_Locus.f, eq_comm] using h
  have hq_ : ∀ w_ : World, (binOp .eql 24 (.slice none 0 c0) (.slice none 0 0)).run Try.prog w_ = .ok (.bool true) w_ := fun w_ => eqNil Try.underlying24 none 0 c0 w_
  go_enter Try.func84, Try.ntmps84
  go_wp2
  go_ret
  exact ⟨_, rfl, Kd.R_nil _ _ _ _ _, Below.refl _ _⟩
 have hq_ : ∀ w_ : World, (binOp .eql 24 (.slice (some A0v) l0.length c0) (.slice none 0 0)).run Try.prog w_ = .ok (.bool false) w_ := fun w_ => eqNil Try.underlying24 (some A0v) l0.length c0 w_
 have HR0 := Aside0.mk hr0
 have HC0 := Aside0.mk hc0
 clear hr0 hc0
 have HB := Aside0.mk (Below.refl w.heap.size w)
 have H : ((some (([] : List (S55)) : List (S55))).bind fun y216 => (if y216.length + l0.length < 5864062014805 then (some (y216 ++ l0)) else (none))) = some r := h
 clear h
 obtain ⟨y216, hy216⟩ : ∃ y_ : List (S55), y_ = (([] : List (S55))) := ⟨_, rfl⟩
 replace H : (if y216.length + l0.length < 5864062014805 then (some (y216 ++ l0)) else (none)) = some r := by first | (rw [hy216]; with_reducible exact H) | (have H2_ := (Option.bind_some _ _).symm.trans H; rw [hy216]; with_reducible exact H2_) | (have H2_ := (Option.bind_some _ _).symm.trans H; with_reducible exact H2_) | with_reducible exact H | (rw [hy216]; exact H) | exact H
 have Ny216 := Aside0.mk hy216
 clear hy216
 by_cases c2 : y216.length + l0.length < 5864062014805
 rotate_left
 ·rw [if_neg c2] at H
  exact absurd H (by simp)
 rw [if_pos c2] at H
 have LMc2 := Aside0.mk c2
 clear c2
 obtain ⟨y219, hy219⟩ : ∃ y_ : List (S55), y_ = (y216 ++ l0) := ⟨_, rfl⟩
 replace H : (some y219) = some r := by first | (rw [hy219]; with_reducible exact H) | (have H2_ := (Option.bind_some _ _).symm.trans H; rw [hy219]; with_reducible exact H2_) | (have H2_ := (Option.bind_some _ _).symm.trans H; with_reducible exact H2_) | with_reducible exact H | (rw [hy219]; exact H) | exact H
 have Ny219 := Aside0.mk hy219
 clear hy219
 obtain rfl := Option.some.inj H
 go_enter Try.func84, Try.ntmps84
 go_wp2_with (first | ((with_reducible refine gate_dst (N := 5) rfl ?_); refine Kd.R_lit k55 _ 55 ?hg (N := 5) ?hd (xs := ([] : List (S55))) (inner := []) (ok := fun _ => True) (okp := fun _ => True) ?hr ?hp (fun _ hk => hk) trivial (Below.refl _ _) (Nat.le_refl _) (by simp) ?_; (case hd => rfl); (case hg => rfl); (case hr => first | (go_simp; done) | (go_simp; rfl)); (case hp => exact (Reps.none _ _)); intro v217 w3 ho4 hb hg_ hnew_; clear hg_ hnew_; (first | rw [← Ny216.out] at ho4 | (simp only [Int.reduceToNat] at ho4; rw [← Ny216.out] at ho4)); have HO218 := aM_ (Kd.R_lower ho4 (below_size hB_)); replace HB := aM_ (below_step hB_ hb); clear hb ho4) | ((with_reducible refine gate_builtin (b := .append) (xs := #[.tmp 5, .tmp 6]) rfl ?_); at_builtin; refine Kd.R_append_rows k55 (w0 := w) w.heap.size rfl (.tmp 5) (.tmp 6) 24 55 (.agg #[(.string ⟨#[]⟩), (.int .i64 0)]) 24 rfl Try.underlying24 info55 rfl (by decide) (by omega) v217 y216 l0 _ _ _ (fun _ => True) (fun _ => False) rfl rfl ?aO ?aR (fun _ _ h => h) (fun _ h => h.elim) ?aF ?aB ?aS ?aL ?_; (case aR => repeat (first | exact (Kd.C_below HR0.out HB.out) | (with_reducible first | apply cA_ | apply cN_ | apply cD_))); (case aB => exact hB_); (case aF => exact (fun _ _ => trivial)); (case aO => exact (by (with_reducible repeat (first | apply rA_ | apply rN_ | apply rD_)); exact HO218.out)); (case aS => exact (below_size hB_)); (case aL => have := LMc2.out; omega); intro v220 w5 ho hb hg hat; rw [← Ny219.out] at ho; have HO221 := aM_ (ho); replace HB := aM_ (hb); clear HO218; clear ho hb hg hat))
 go_ret
 exact ⟨_, rT_, by (with_reducible repeat (first | apply rA_ | apply rN_ | apply rD_)); exact HO221.out, hB_⟩

/-! ### impl_without_1: function 160 -/
set_option maxHeartbeats 8000000 in
set_option maxRecDepth 100000 in
theorem impl_without_1.calls (a0_0 : ByteArray) (a0_1 : Int) (g1_0 : Nat) (a1_0 : ByteArray) (r : Bool) (w : World) (hb1_0 : w.heap[g1_0]? = some (.cells #[.string a1_0] 9 (0, 0))) (h : impl_without_1.f a0_0 a0_1 a1_0 = some r) :
 Calls Try.prog 85 #[.agg #[.string a0_0, .int .i64 a0_1], .pointer (some ⟨g1_0, 0, none⟩)] w fun e w' => e = .returned (.bool r) ∧ Below w.heap.size w w' := by
 have hu55 := Try.underlying55
 have BK38 := Aside0.mk hb1_0
 clear hb1_0
 have HB := Aside0.mk (Below.refl w.heap.size w)
 have H : (some (a0_0.toList == a1_0.toList)) = some r := h
 clear h
 obtain rfl := Option.some.inj H
 go_enter Try.func85, Try.ntmps85
 go_wp2_with (first | ((with_reducible refine gate_dst (N := 2) rfl ?_); refine box_event ?hg (N := 2) ?hd (cs := #[.string a0_0, .int .i64 a0_1]) (t := 55) ?hr ?_; (case hd => rfl); (case hg => rfl); (case hr => first | (go_simp; done) | (go_simp; rfl)); intro gb222 hg w3 hbox hb; have BK222 := aM_ (hbox); have GW222 := aM_ (gw_ w hg); have GE222 := aM_ (gw_ w hg); have NB38_222 := aM_ ((by rw [hg]; exact Nat.ne_of_lt (blk_lt (g := g1_0) kP_) : g1_0 ≠ gb222)); have NB222_38 := aM_ ((by rw [hg]; exact Nat.ne_of_gt (blk_lt (g := g1_0) kP_) : gb222 ≠ g1_0)); replace BK38 := aM_ (blk_below (g := g1_0) kP_ hb); replace HB := aM_ (below_step hB_ hb); clear hb hbox hg; have hnb4 := NB222_38.out; have hnc4 := NB38_222.out; have hz5 := cf2_ BK222.out; clear BK222; have hz6 := cf1_ BK38.out))
 go_ret
 exact ⟨rT_, hB_⟩

/-! ### slices_IndexFunc_Locus_impl_without_1: function 159 -/
set_option maxHeartbeats 8000000 in
set_option maxRecDepth 100000 in
theorem slices_IndexFunc_Locus_impl_without_1.calls (k : Nat) (A0 : Option Addr) (c0 : Nat) (l0 : List (S55)) (g1_0 : Nat) (a1_0 : ByteArray) (r : Int) (w : World) (hr0 : Kd.C k55 w A0 l0.length l0) (hc0 : l0.length ≤ c0) (hb1_0 : w.heap[g1_0]? = some (.cells #[.string a1_0] 9 (0, 0))) (h : slices_IndexFunc_Locus_impl_without_1.f k l0 a1_0 = some r) :
 Calls Try.prog 86 #[.slice A0 l0.length c0, .func (.func 85) #[] #[.pointer (some ⟨g1_0, 0, none⟩)]] w fun e w' => e = .returned (.int .i64 r) ∧ Below w.heap.size w w' := by
 have hu55 := Try.underlying55
 have HR0 := Aside0.mk hr0
 have HC0 := Aside0.mk hc0
 clear hr0 hc0
 have BK38 := Aside0.mk hb1_0
 clear hb1_0
 have HB := Aside0.mk (Below.refl w.heap.size w)
 have H : (slices_IndexFunc_Locus_impl_without_1.l0 k l0 (l0.length : Int) 0 a1_0) = some r := h
 clear h
 have H' := Aside0.mk H
 clear H
 go_enter Try.func86, Try.ntmps86
 go_wp2
 go_loopg [8] k (fun kq v8 w' => ∃ (x8_1 : Int), v8 = .int .i64 x8_1 ∧ Aside0 (slices_IndexFunc_Locus_impl_without_1.l0 kq l0 (l0.length : Int) x8_1 a1_0 = some r) ∧ Aside0 (kq ≤ k) ∧ Aside0 (w'.heap[g1_0]? = some (.cells #[.string a1_0] 9 (0, 0))) ∧ Aside0 (Below w.heap.size w w'))
 case atStart => exact ⟨(0), y8_3_, H', ⟨Nat.le_refl _⟩, ⟨kP_⟩, ⟨hB_⟩⟩
 case round =>
  clear H'
  obtain ⟨x8_1, rfl, HA, HK1, BK38, HB⟩ := hrel
  cases gk with
  | zero => exact absurd HA.out (by simp [slices_IndexFunc_Locus_impl_without_1.l0])
  | succ k1 =>
   have H := HA.out
   clear HA
   simp only [slices_IndexFunc_Locus_impl_without_1.l0] at H
   by_cases c3 : x8_1 < (l0.length : Int)
   rotate_left
   ·rw [if_neg c3] at H
    have c3b0 : decide (x8_1 < (l0.length : Int)) = false := decide_eq_false c3
    clear c3
    obtain rfl := Option.some.inj H
    go_wp2
    go_ret
    exact ⟨rT_, hB_⟩
   rw [if_pos c3] at H
   have c3b0 : decide (x8_1 < (l0.length : Int)) = true := decide_eq_true c3
   clear c3
   by_cases c4 : 0 ≤ x8_1
   rotate_left
   ·rw [if_neg c4] at H
    exact absurd H (by simp)
   rw [if_pos c4] at H
   have c4b0 : decide (0 ≤ x8_1) = true := decide_eq_true c4
   clear c4
   by_cases c5 : x8_1 < (l0.length : Int)
   rotate_left
   ·rw [if_neg c5] at H
    exact absurd H (by simp)
   rw [if_pos c5] at H
   have c5b0 : decide (x8_1 < (l0.length : Int)) = true := decide_eq_true c5
   clear c5
   replace H := Option.bind_eq_some_iff.mp H
   obtain ⟨t224, A60, H⟩ := H
   try dsimp only at H
   have A6 := Aside0.mk A60
   clear A60
   have HC7 := Aside0.mk H
   clear H
   have p223 : 0 ≤ (x8_1 : Int) := ode_
   have q223 : x8_1 < (l0.length : Int) := ode_
   obtain ⟨ad223, e223, hx223_0, hx223_1⟩ := at_T55 HR0.out x8_1 p223 q223
   cases e223
   replace hx223_0 := (HB.out.cell (World.block_lt_of_cell? w _ hx223_0)).trans hx223_0
   replace hx223_1 := (HB.out.cell (World.block_lt_of_cell? w _ hx223_1)).trans hx223_1
   replace p223 := eq_true p223
   replace q223 := eq_true q223
   go_upto_if 16 with (first | ((with_reducible refine gate_via (t := 11) rfl ?_); refine goesV_ (some 16) rfl rfl Try.func85 (by kernel_rfl) rfl #[.agg #[.string ((rd_T55 l0 x8_1).f0), .int .i64 ((rd_T55 l0 x8_1).f1)], .pointer (some ⟨g1_0, 0, none⟩)] rfl rfl y8_4_ ?_; (with_reducible refine (impl_without_1.calls ((rd_T55 l0 x8_1).f0) ((rd_T55 l0 x8_1).f1) g1_0 a1_0 t224 _ ?side1 A6.out).mono ?_); (case side1 => (with_reducible repeat (first | apply kN_ | apply kD_ | apply kA_)); exact BK38.out); rintro e w8 ⟨rfl, hb⟩; refine ⟨_, rfl, ?_⟩; replace BK38 := aM_ (blk_below (g := g1_0) kP_ hb); replace HB := aM_ (below_step hB_ hb); (try clear hb)))
   (try simp only [Act.put, List.setIfInBounds_toArray, List.set_cons_zero, List.set_cons_succ])
   have H := HC7.out
   clear HC7
   by_cases c9 : t224 = true
   ·subst c9
    replace H := ip_ H rfl
    obtain rfl := Option.some.inj H
    go_wp2
    go_ret
    exact ⟨rT_, hB_⟩
   replace c9 := Bool.eq_false_iff.mpr c9
   subst c9
   replace H := in_ H (show ¬ (false = true) by decide)
   have H' := Aside0.mk H
   clear H
   go_wp2
   go_roundg k1
   case measure => have := HK1.out; omega
   case rel => exact ⟨(wrap64 (x8_1 + 1)), y8_3_, H', ⟨by have := HK1.out; omega⟩, ⟨kP_⟩, ⟨hB_⟩⟩

/-! ### slices_DeleteFunc_Locus_impl_without_1: function 158 -/
set_option maxHeartbeats 8000000 in
set_option maxRecDepth 100000 in
theorem slices_DeleteFunc_Locus_impl_without_1.calls (k : Nat) (P0_ : Nat → Prop) (u9000_ : Value) (l0 : List (S55)) (g1_0 : Nat) (a1_0 : ByteArray) (r : List (S55)) (w0 w : World) (hB : Below w0.heap.size w0 w) (ho0 : Kd.R k55 55 w w0.heap.size P0_ u9000_ l0) (hb1_0 : w.heap[g1_0]? = some (.cells #[.string a1_0] 9 (0, 0))) (h : slices_DeleteFunc_Locus_impl_without_1.f k l0 a1_0 = some r) :
 Calls Try.prog 83 #[u9000_, .func (.func 85) #[] #[.pointer (some ⟨g1_0, 0, none⟩)]] w fun e w' => ∃ v0_ : Value, e = .returned (v0_) ∧ Kd.R k55 55 w' w0.heap.size (fun k_ => (P0_ k_ ∨ w.heap.size ≤ k_)) v0_ r ∧ Below w0.heap.size w0 w' ∧ Kept w w' (fun k_ => P0_ k_) := by
 have hu55 := Try.underlying55
 have HO0 := Aside0.mk (show Kd.R k55 55 w w0.heap.size (fun k_ => (P0_ k_ ∨ w.heap.size ≤ k_)) u9000_ l0 from Kd.R_mono ho0 (fun k_ hk => (.inl hk)))
 have HK := Aside0.mk (Kept.refl w (fun k_ => P0_ k_))
 have BK38 := Aside0.mk hb1_0
 clear hb1_0
 have HW0 := Aside0.mk hB.size
 have HB := Aside0.mk hB
 clear hB
 have H : ((slices_IndexFunc_Locus_impl_without_1.f k l0 a1_0).bind fun t222 => (if t222 = (-1) then (some l0) else (slices_DeleteFunc_Locus_impl_without_1.l0 k l0 t222 (wrap64 (t222 + 1)) a1_0))) = some r := h
 clear h
 replace H := Option.bind_eq_some_iff.mp H
 obtain ⟨t222, A30, H⟩ := H
 try dsimp only at H
 have A3 := Aside0.mk A30
 clear A30
 have HC4 := Aside0.mk H
 clear H
 obtain ⟨Ao5, co5, eo5⟩ := Kd.R_slice HO0.out
 subst eo5
 go_enter Try.func83, Try.ntmps83
 go_upto_if 12 with (first | ((with_reducible refine gate_callee (f := 86) rfl ?_); refine goesM_ (some 10) Try.func86 #[.slice Ao5 l0.length co5, .func (.func 85) #[] #[.pointer (some ⟨g1_0, 0, none⟩)]] ?_; (with_reducible refine (slices_IndexFunc_Locus_impl_without_1.calls k _ _ l0 g1_0 a1_0 t222 _ ?side1 ?side2 ?side3 A3.out).mono ?_); (case side1 => repeat (first | exact (Kd.R_reads' HO0.out).2.2 | (with_reducible first | apply cA_ | apply cN_ | apply cD_))); (case side2 => exact (Kd.R_reads' HO0.out).2.1); (case side3 => (with_reducible repeat (first | apply kN_ | apply kD_ | apply kA_)); exact BK38.out); rintro e w6 ⟨rfl, hb⟩; refine ⟨_, rfl, ?_⟩; replace HO0 := aM_ (Kd.R_below y8_1_ hb); replace BK38 := aM_ (blk_below (g := g1_0) kP_ hb); replace HK := aM_ (Kept.below (S := (fun k_ => P0_ k_)) y8_5_ hb); replace HB := aM_ (below_step hB_ hb); (try clear hb)))
 (try simp only [Act.put, List.setIfInBounds_toArray, List.set_cons_zero, List.set_cons_succ])
 have H := HC4.out
 clear HC4
 by_cases c7 : t222 = (-1)
 ·rw [if_pos c7] at H
  have c7b0 : (t222 == (-1)) = true := beq_iff_eq.mpr c7
  have c7b1 : (t222 != (-1)) = false := bne_eq_false_iff_eq.mpr c7
  clear c7
  (first | rw [c7b0] | (simp only [i64_w, i32_w]; rw [c7b0]) | skip)
  obtain rfl := Option.some.inj H
  go_wp2
  go_ret
  exact ⟨_, rT_, y8_1_, hB_, y8_5_⟩
 rw [if_neg c7] at H
 have c7b0 : (t222 == (-1)) = false := beq_eq_false_iff_ne.mpr c7
 have c7b1 : (t222 != (-1)) = true := bne_iff_ne.mpr c7
 (first | rw [c7b0] | (simp only [i64_w, i32_w]; rw [c7b0]) | skip)
 have H' := Aside0.mk H
 clear H
 go_wp2
 go_loopg [5, 6] k (fun kq v5 v6 w' => ∃ (x0_1 : List (S55)) (x5_1 : Int) (x6_1 : Int), v5 = .int .i64 x5_1 ∧ v6 = .int .i64 x6_1 ∧ Aside0 (slices_DeleteFunc_Locus_impl_without_1.l0 kq x0_1 x5_1 x6_1 a1_0 = some r) ∧ Aside0 (kq ≤ k) ∧ Aside0 (Kd.R k55 55 w' w0.heap.size (fun k_ => (P0_ k_ ∨ w.heap.size ≤ k_)) (.slice Ao5 l0.length co5) x0_1) ∧ Aside0 (w'.heap[g1_0]? = some (.cells #[.string a1_0] 9 (0, 0))) ∧ Aside0 (Kept w w' (fun k_ => P0_ k_)) ∧ Aside0 (Below w0.heap.size w0 w'))
 case atStart => exact ⟨(l0), (t222), (wrap64 (t222 + 1)), y8_3_, y8_3_, H', ⟨Nat.le_refl _⟩, ⟨y8_1_⟩, ⟨kP_⟩, ⟨y8_5_⟩, ⟨hB_⟩⟩
 case round =>
  clear H'
  (try clear c7);(try clear c7b0);(try clear c7b1)
  obtain ⟨x0_1, x5_1, x6_1, rfl, rfl, HA, HK1, HO_0, BK38, HK, HB⟩ := hrel
  have hl0_1 := (Kd.R_reads' HO_0.out).1
  rw [hl0_1] at HO_0
  (try simp only [hl0_1])
  (try simp only [hl0_1] at BK38)
  cases gk with
  | zero => exact absurd HA.out (by simp [slices_DeleteFunc_Locus_impl_without_1.l0])
  | succ k1 =>
   have H := HA.out
   clear HA
   simp only [slices_DeleteFunc_Locus_impl_without_1.l0] at H
   by_cases c8 : x6_1 < (x0_1.length : Int)
   rotate_left
   ·rw [if_neg c8] at H
    have c8b0 : decide (x6_1 < (x0_1.length : Int)) = false := decide_eq_false c8
    clear c8
    by_cases c24 : 0 ≤ x5_1
    rotate_left
    ·rw [if_neg c24] at H
     exact absurd H (by simp)
    rw [if_pos c24] at H
    have c24b0 := eq_true c24
    have c24b1 : decide (0 ≤ x5_1) = true := decide_eq_true c24
    clear c24
    by_cases c25 : x5_1 ≤ (x0_1.length : Int)
    rotate_left
    ·rw [if_neg c25] at H
     exact absurd H (by simp)
    rw [if_pos c25] at H
    have c25b0 := eq_true c25
    have c25b1 : decide (x5_1 ≤ (x0_1.length : Int)) = true := decide_eq_true c25
    clear c25
    obtain ⟨y227, hy227⟩ : ∃ y_ : List (S55), y_ = (x0_1.take (x5_1 : Int).toNat ++ List.replicate (x0_1.length - (x5_1 : Int).toNat) z55) := ⟨_, rfl⟩
    replace H : (some (y227.take (x5_1 : Int).toNat)) = some r := by first | (rw [hy227]; with_reducible exact H) | (have H2_ := (Option.bind_some _ _).symm.trans H; rw [hy227]; with_reducible exact H2_) | (have H2_ := (Option.bind_some _ _).symm.trans H; with_reducible exact H2_) | with_reducible exact H | (rw [hy227]; exact H) | exact H
    have Ny227 := Aside0.mk hy227
    clear hy227
    have c26b0 := eq_true (ode_ : x5_1 ≤ (x0_1.length : Int))
    obtain ⟨y228, hy228⟩ : ∃ y_ : List (S55), y_ = (y227.take (x5_1 : Int).toNat) := ⟨_, rfl⟩
    replace H : (some y228) = some r := by first | (rw [hy228]; with_reducible exact H) | (have H2_ := (Option.bind_some _ _).symm.trans H; rw [hy228]; with_reducible exact H2_) | (have H2_ := (Option.bind_some _ _).symm.trans H; with_reducible exact H2_) | with_reducible exact H | (rw [hy228]; exact H) | exact H
    have Ny228 := Aside0.mk hy228
    clear hy228
    obtain rfl := Option.some.inj H
    clear BK38
    have q27 : (x5_1 : Int) ≤ ((x0_1.length : Int) : Int) := ode_
    obtain ⟨i027, hi027, _, hsz27, _⟩ := info_parts info55
    have hcut27 := cut_from (P := Try.prog) 24 55 .i64 Try.underlying24 hi027 2 hsz27 Ao5 x0_1.length co5 x5_1 ode_ q27
    obtain ⟨A27, hA27⟩ : ∃ Ab_, Ab_ = (if co5 = (x5_1 : Int).toNat then Ao5 else (Ao5 : Option Addr).map (·.add ((x5_1 : Int).toNat * 2))) := ⟨_, rfl⟩
    obtain ⟨c27, hc27⟩ : ∃ cb_, cb_ = co5 - (x5_1 : Int).toNat := ⟨_, rfl⟩
    rw [← hA27, ← hc27] at hcut27
    replace hA27 := Aside0.mk hA27
    replace hc27 := Aside0.mk hc27
    go_wp2_with (first | ((with_reducible refine gate_builtin (b := .clear) (xs := #[.tmp 38]) rfl ?_); refine R_clearA k55 (w0 := w0) w0.heap.size rfl (.tmp 38) 24 55 ((.agg #[(.string ⟨#[]⟩), (.int .i64 0)])) rfl Try.underlying24 (fun w_ => by kernel_rfl) (z55) rfl (by decide) (i := (x5_1 : Int).toNat) x0_1 ((fun k_ => (P0_ k_ ∨ w.heap.size ≤ k_))) (fun _ => False) ?aX (by omega) HO_0.out (fun W_ => k55_mkM W_ _ _ (z55)) (fun _ hk => hk) hB_ ?aS ?_; (case aX => refine Eq.trans (b := .slice A27 (x0_1.length - (x5_1 : Int).toNat) c27) ?_ (by rw [hA27.out, hc27.out]; rfl); first | rfl | (go_simp; done) | (go_simp; rfl)); (case aS => exact below_size hB_); intro w28 hp_ hb_ hg; rw [← Ny227.out] at hp_; have hLy227 : y227.length = x0_1.length := (by rw [Ny227.out]; simp; omega); replace HB := aM_ (hb_); replace HK := aM_ (Kept.of_grown (S := (fun k_ => P0_ k_)) hg y8_0_ (fun k_ e_ => (HO_0.out.1 k_ e_))); replace HO_0 := aM_ (hp_); clear hg hp_ hb_; have q29 : (x5_1 : Int) ≤ ((x0_1.length : Int) : Int) := ode_; obtain ⟨i029, hi029, _, hsz29, _⟩ := info_parts info55; have hcut29 := cut_to (P := Try.prog) 24 55 .i64 Try.underlying24 hi029 Ao5 x0_1.length co5 x5_1 ode_ q29 (Kd.R_reads' HO_0.out).2.1; have hr29 := Kd.R_take (m := (x5_1 : Int).toNat) HO_0.out (by omega); have hy29 : y228.length = (x5_1 : Int).toNat := (by rw [Ny228.out, List.length_take]; omega); rw [← Ny228.out] at hr29; rw [← hy29] at hr29 hcut29; clear hy29 hi029 hsz29 HO_0; have HO230 := Aside0.mk hr29; clear hr29; replace q29 := eq_true q29))
    go_ret
    exact ⟨_, rT_, by (with_reducible repeat (first | apply rA_ | apply rN_ | apply rD_)); exact HO230.out, hB_, y8_0_⟩
   rw [if_pos c8] at H
   have c8b0 : decide (x6_1 < (x0_1.length : Int)) = true := decide_eq_true c8
   clear c8
   by_cases c9 : 0 ≤ x6_1
   rotate_left
   ·rw [if_neg c9] at H
    exact absurd H (by simp)
   rw [if_pos c9] at H
   have c9b0 : decide (0 ≤ x6_1) = true := decide_eq_true c9
   clear c9
   replace H := Option.bind_eq_some_iff.mp H
   obtain ⟨t225, A100, H⟩ := H
   try dsimp only at H
   have A10 := Aside0.mk A100
   clear A100
   have HC11 := Aside0.mk H
   clear H
   have p223 : 0 ≤ (x6_1 : Int) := ode_
   have q223 : x6_1 < (x0_1.length : Int) := ode_
   obtain ⟨ad223, e223, hx223_0, hx223_1⟩ := at_T55 (Kd.R_reads' HO_0.out).2.2 x6_1 p223 q223
   cases e223
   replace p223 := eq_true p223
   replace q223 := eq_true q223
   go_upto_if 29 with (first | ((with_reducible refine gate_dst (N := 7) rfl ?_); refine box_event ?hg (N := 7) ?hd (cs := #[.string (⟨#[]⟩ : ByteArray), .int .i64 0]) (t := 55) ?hr ?_; (case hd => rfl); (case hg => rfl); (case hr => first | (go_simp; done) | (go_simp; rfl)); intro gb224 hg w12 hbox hb; have BK224 := aM_ (hbox); have GW224 := aM_ ((by rw [hg]; exact (by first | exact HK.out.1 | exact (show Kept w _ (fun k_ => P0_ k_) from by repeat (first | (with_reducible first | exact HK.out | apply Kept.alloc | apply Kept.drewN | apply Kept.drew | refine Kept.setCell ?_ (.inr GW38.out) _) | exact HK.out)).1) : w.heap.size ≤ gb224)); have GE224 := aM_ (gw_ w0 hg); have NB38_224 := aM_ ((by rw [hg]; exact Nat.ne_of_lt (blk_lt (g := g1_0) kP_) : g1_0 ≠ gb224)); have NB224_38 := aM_ ((by rw [hg]; exact Nat.ne_of_gt (blk_lt (g := g1_0) kP_) : gb224 ≠ g1_0)); replace HO_0 := aM_ (Kd.R_below (Kd.R_elderB y8_6_ gb224 (Nat.le_of_eq hg.symm)) hb); replace BK38 := aM_ (blk_below (g := g1_0) kP_ hb); replace HK := aM_ (Kept.below (S := (fun k_ => P0_ k_)) y8_5_ hb); replace HB := aM_ (below_step hB_ hb); clear hb hbox hg; have hnb13 := NB224_38.out; have hnc13 := NB38_224.out; have hz14 := cf2_ BK224.out) | ((with_reducible refine gate_via (t := 26) rfl ?_); refine goesV_ (some 28) rfl rfl Try.func85 (by kernel_rfl) rfl #[.agg #[.string ((rd_T55 x0_1 x6_1).f0), .int .i64 ((rd_T55 x0_1 x6_1).f1)], .pointer (some ⟨g1_0, 0, none⟩)] rfl rfl y8_4_ ?_; (with_reducible refine (impl_without_1.calls ((rd_T55 x0_1 x6_1).f0) ((rd_T55 x0_1 x6_1).f1) g1_0 a1_0 t225 _ ?side1 A10.out).mono ?_); (case side1 => (with_reducible repeat (first | apply kN_ | apply kD_ | apply kA_)); refine blk_far ?_ NB38_224.out _; (with_reducible repeat (first | apply kN_ | apply kD_ | apply kA_)); refine blk_far ?_ NB38_224.out _; (with_reducible repeat (first | apply kN_ | apply kD_ | apply kA_)); exact BK38.out); rintro e w15 ⟨rfl, hb⟩; refine ⟨_, rfl, ?_⟩; replace HO_0 := aM_ (Kd.R_below (by (with_reducible repeat (first | apply rA_ | apply rN_ | apply rD_)); exact (Kd.R_mono (Kd.R_far (p := ⟨gb224, 1, none⟩) (Kd.R_far (p := ⟨gb224, 0, none⟩) (Kd.R_mono HO_0.out (fun k_ hk => (⟨hk, hk.2⟩ : _ ∧ k_ ≠ gb224))) (fun _ hk => hk.2) (.string ((rd_T55 x0_1 x6_1).f0))) (fun _ hk => hk.2) (.int .i64 ((rd_T55 x0_1 x6_1).f1))) (fun _ h_ => h_.1))) hb); replace BK38 := aM_ (blk_below (g := g1_0) kP_ hb); replace BK224 := aM_ (blk_below (g := gb224) (o := .cells #[.string ((rd_T55 x0_1 x6_1).f0), .int .i64 ((rd_T55 x0_1 x6_1).f1)] 55 (0, 0)) (by (with_reducible repeat (first | apply kN_ | apply kD_ | apply kA_)); refine blk_put (cs := #[.string ((rd_T55 x0_1 x6_1).f0), .int .i64 0]) ?_ 1 _ rfl; (with_reducible repeat (first | apply kN_ | apply kD_ | apply kA_)); refine blk_put (cs := #[.string (⟨#[]⟩ : ByteArray), .int .i64 0]) ?_ 0 _ rfl; (with_reducible repeat (first | apply kN_ | apply kD_ | apply kA_)); exact BK224.out) hb); replace HK := aM_ (Kept.below (S := (fun k_ => P0_ k_)) y8_7_ hb); replace HB := aM_ (below_step hB_ hb); (try clear hb); (try clear hk)))
   (try simp only [Act.put, List.setIfInBounds_toArray, List.set_cons_zero, List.set_cons_succ])
   have H := HC11.out
   clear HC11
   by_cases c16 : t225 = true
   ·subst c16
    replace H := ip_ H rfl
    have H' := Aside0.mk H
    clear H
    go_wp2
    (try simp only [← hl0_1])
    go_roundg k1
    case measure => have := HK1.out; omega
    case rel => exact ⟨(x0_1), (x5_1), (wrap64 (x6_1 + 1)), y8_3_, y8_3_, H', ⟨by have := HK1.out; omega⟩, ⟨y8_8_⟩, ⟨y8_9_⟩, ⟨y8_7_⟩, ⟨hB_⟩⟩
   replace c16 := Bool.eq_false_iff.mpr c16
   subst c16
   replace H := in_ H (show ¬ (false = true) by decide)
   by_cases c17 : 0 ≤ x5_1
   rotate_left
   ·rw [if_neg c17] at H
    exact absurd H (by simp)
   rw [if_pos c17] at H
   have c17b0 : decide (0 ≤ x5_1) = true := decide_eq_true c17
   clear c17
   (first | rw [c17b0] | (simp only [i64_w, i32_w]; rw [c17b0]) | skip)
   by_cases c18 : x5_1 < (x0_1.length : Int)
   rotate_left
   ·rw [if_neg c18] at H
    exact absurd H (by simp)
   rw [if_pos c18] at H
   have c18b0 : decide (x5_1 < (x0_1.length : Int)) = true := decide_eq_true c18
   clear c18
   obtain ⟨y226, hy226⟩ : ∃ y_ : List (S55), y_ = (x0_1.set (x5_1 : Int).toNat (⟨(rd_T55 x0_1 x6_1).f0, (rd_T55 x0_1 x6_1).f1⟩ : S55)) := ⟨_, rfl⟩
   replace H : (slices_DeleteFunc_Locus_impl_without_1.l0 k1 y226 (wrap64 (x5_1 + 1)) (wrap64 (x6_1 + 1)) a1_0) = some r := by first | (rw [hy226]; with_reducible exact H) | (have H2_ := (Option.bind_some _ _).symm.trans H; rw [hy226]; with_reducible exact H2_) | (have H2_ := (Option.bind_some _ _).symm.trans H; with_reducible exact H2_) | with_reducible exact H | (rw [hy226]; exact H) | exact H
   have Ny226 := Aside0.mk hy226
   clear hy226
   have H' := Aside0.mk H
   clear H
   have hnb20 := NB224_38.out
   have hnc20 := NB38_224.out
   have hz21 := cf2_ BK224.out
   have p19 : 0 ≤ (x5_1 : Int) := ode_
   have q19 : (x5_1 : Int) < ((x0_1.length : Int) : Int) := ode_
   obtain ⟨go19, co19, eo19, gb19, gl19, cl19, HG19⟩ := Kd.R_form HO_0.out (by omega)
   (first | cases eo19 | (injection eo19 with ea_ en_ ec_; (first | subst ea_ | (injection ea_ with ea_; subst ea_)); subst ec_; clear en_))
   have GB19 := Aside0.mk gb19
   have GG19 := Aside0.mk HG19
   clear gb19 gl19 HG19
   have HMgo19 := Aside0.mk (show (P0_ go19 ∨ w.heap.size ≤ go19) from (HO_0.out.1 _ rfl).1)
   (first | simp only [add_plain] at hx223_0 | skip)
   (first | simp only [add_plain] at hx223_1 | skip)
   obtain ⟨ce19, hcl19, hM19, hcc19, hfr19⟩ := Kd.R_elem HO_0.out z55 (x5_1 : Int) p19 q19
   obtain rfl := k55_openM hM19
   have hx19_0 : w15.cell? ⟨go19, (x5_1 : Int).toNat * 2, none⟩ = some (.string ((rd_T55 x0_1 x5_1).f0)) := hcc19 0 _ rfl
   have hx19_1 : w15.cell? ⟨go19, (x5_1 : Int).toNat * 2 + 1, none⟩ = some (.int .i64 ((rd_T55 x0_1 x5_1).f1)) := hcc19 1 _ rfl
   have hf19_0 : w15.frozen? ⟨go19, (x5_1 : Int).toNat * 2, none⟩ = false := hfr19 0
   have hf19_1 : w15.frozen? ⟨go19, (x5_1 : Int).toNat * 2 + 1, none⟩ = false := hfr19 1
   clear hcl19 hcc19 hfr19 hM19
   replace p19 := eq_true p19
   replace q19 := eq_true q19
   have HX22 := Aside0.mk (show Kd.R k55 55 w15 w0.heap.size (fun k_ => (P0_ k_ ∨ w.heap.size ≤ k_) ∧ k_ ≠ gb224) (.slice (some ⟨go19, 0, none⟩) x0_1.length co5) x0_1 from y8_6_)
   obtain ⟨ce22, hcl22, hM22, hcc22, hfr22⟩ := Kd.R_elem HX22.out z55 (x5_1 : Int) ode_ y8_10_
   obtain rfl := k55_openM hM22
   have HP22 := Kd.R_seg HX22.out (x5_1 : Int) ode_ y8_10_ (seg := [.string ((rd_T55 x0_1 x6_1).f0), .int .i64 ((rd_T55 x0_1 x6_1).f1)]) (j := 0) hcl22 hcc22 (show 2 ≤ 2 from by decide) (x' := (⟨(rd_T55 x0_1 x6_1).f0, (rd_T55 x0_1 x6_1).f1⟩ : S55)) (k55_mkM _ _ _ (⟨(rd_T55 x0_1 x6_1).f0, (rd_T55 x0_1 x6_1).f1⟩ : S55) ) (fun _ hk => hk)
   have hx22_0 := hcc22 0 _ rfl
   (try simp only [show (k55).sz = 2 from rfl, Nat.mul_one, Nat.add_zero] at hx22_0)
   have hf22_0 := hfr22 0
   (try simp only [show (k55).sz = 2 from rfl, Nat.mul_one, Nat.add_zero] at hf22_0)
   have hx22_1 := hcc22 1 _ rfl
   (try simp only [show (k55).sz = 2 from rfl, Nat.mul_one, Nat.add_zero] at hx22_1)
   have hf22_1 := hfr22 1
   (try simp only [show (k55).sz = 2 from rfl, Nat.mul_one, Nat.add_zero] at hf22_1)
   clear hcl22 hcc22 hfr22 hM22
   go_wp2_with (first | ((with_reducible refine gate_store (t := 55) (p := 33) rfl ?_); refine store_event (t := 55) (p := 33) (v := ?vo_w23) (w1 := ((w15.setCell ⟨go19, (x5_1 : Int).toNat * 2, none⟩ (.string ((rd_T55 x0_1 x6_1).f0))).setCell ⟨go19, (x5_1 : Int).toNat * 2 + 1, none⟩ (.int .i64 ((rd_T55 x0_1 x6_1).f1)))) ?hg ?ho ?hn ?hr ?_; (case ho => rfl); (case hg => rfl); (case hn => rfl); (case hr => first | (go_simp; done) | (go_simp; rfl)); intro w23 hw; have hg : w15.grownBy w23 (some go19) := (by rw [hw]; exact HP22.2); have hp_ : Kd.R k55 55 w23 w0.heap.size (fun k_ => (P0_ k_ ∨ w.heap.size ≤ k_) ∧ k_ ≠ gb224) (.slice (some ⟨go19, 0, none⟩) x0_1.length co5) y226 := (by rw [hw, Ny226.out]; exact HP22.1); clear HP22; replace BK38 := aM_ (blk_grown (g := g1_0) kP_ hg (Kd.R_ne HO_0.out BK38.out (by decide))); replace BK224 := aM_ (blk_grown (g := gb224) kP_ hg (Kd.R_away HO_0.out (fun _ hk => hk.2))); replace HB := aM_ ((by rw [hw]; exact below_set (below_set (HB.out) GB19.out) GB19.out : Below w0.heap.size w0 w23)); replace HK := aM_ (Kept.of_grown (S := (fun k_ => P0_ k_)) hg y8_7_ (fun k_ e_ => (HO_0.out.1 k_ e_).1)); replace HO_0 := aM_ (hp_); clear hg hw hp_))
   (try simp only [← hl0_1])
   go_roundg k1
   case measure => have := HK1.out; omega
   case rel => exact ⟨(y226), (wrap64 (x5_1 + 1)), (wrap64 (x6_1 + 1)), y8_3_, y8_3_, H', ⟨by have := HK1.out; omega⟩, ⟨y8_8_⟩, ⟨y8_9_⟩, ⟨y8_7_⟩, ⟨hB_⟩⟩

/-! ### impl_without: function 49 -/
set_option maxHeartbeats 8000000 in
set_option maxRecDepth 100000 in
theorem impl_without.calls (k : Nat) (A0 : Option Addr) (c0 : Nat) (l0 : List (S55)) (a1 : ByteArray) (r : List (S55)) (w : World) (hr0 : Kd.C k55 w A0 l0.length l0) (hc0 : l0.length ≤ c0) (h : impl_without.f k l0 a1 = some r) :
 Calls Try.prog 49 #[.slice A0 l0.length c0, .string a1] w fun e w' => ∃ v0_ : Value, e = .returned (v0_) ∧ Kd.R k55 55 w' w.heap.size (fun _ => True) v0_ r ∧ Below w.heap.size w w' := by
 have hu9 := Try.underlying9
 have HR0 := Aside0.mk hr0
 have HC0 := Aside0.mk hc0
 clear hr0 hc0
 have HB := Aside0.mk (Below.refl w.heap.size w)
 have H : ((slices_Clone_Locus.f l0).bind fun t232 => ((slices_DeleteFunc_Locus_impl_without_1.f k t232 a1).bind fun t235 => (some t235))) = some r := h
 clear h
 replace H := Option.bind_eq_some_iff.mp H
 obtain ⟨t232, A30, H⟩ := H
 try dsimp only at H
 have A3 := Aside0.mk A30
 clear A30
 replace H := Option.bind_eq_some_iff.mp H
 obtain ⟨t235, A40, H⟩ := H
 try dsimp only at H
 have A4 := Aside0.mk A40
 clear A40
 obtain rfl := Option.some.inj H
 go_enter Try.func49, Try.ntmps49
 go_wp2_with (first | ((with_reducible refine gate_dst (N := 3) rfl ?_); refine box_event ?hg (N := 3) ?hd (cs := #[.string a1]) (t := 9) ?hr ?_; (case hd => rfl); (case hg => rfl); (case hr => first | (go_simp; done) | (go_simp; rfl)); intro gb231 hg w5 hbox hb; have BK231 := aM_ (hbox); have GW231 := aM_ (gw_ w hg); have GE231 := aM_ (gw_ w hg); replace HB := aM_ (below_step hB_ hb); clear hb hbox hg) | ((with_reducible refine gate_callee (f := 84) rfl ?_); refine goesM_ (some 6) Try.func84 #[.slice A0 l0.length c0] ?_; (with_reducible refine (slices_Clone_Locus.calls _ _ l0 t232 _ ?side1 ?side2 A3.out).mono ?_); (case side1 => repeat (first | exact (Kd.C_below HR0.out HB.out) | (with_reducible first | apply cA_ | apply cN_ | apply cD_))); (case side2 => exact HC0.out); rintro e w6 ⟨v233, rfl, ho0, hb⟩; refine ⟨_, rfl, ?_⟩; have HO234 := aM_ (Kd.R_lower ho0 (below_size hB_)); replace BK231 := aM_ (blk_below (g := gb231) kP_ hb); replace HB := aM_ (below_step hB_ hb); (try clear hb); (try clear ho0); obtain ⟨Ao7, co7, eo7⟩ := Kd.R_slice HO234.out; subst eo7) | ((with_reducible refine gate_callee (f := 83) rfl ?_); refine goesM_ (some 8) Try.func83 #[.slice Ao7 t232.length co7, .func (.func 85) #[] #[.pointer (some ⟨gb231, 0, none⟩)]] ?_; (with_reducible refine (slices_DeleteFunc_Locus_impl_without_1.calls k (fun k_ => some k_ = (.slice Ao7 t232.length co7 : Value).ownBlock) (.slice Ao7 t232.length co7) t232 gb231 a1 t235 w _ ?side1 ?side2 ?side3 A4.out).mono ?_); (case side1 => repeat (first | (with_reducible first | exact HB.out | apply lA_ | apply lN_ | apply lD_ | refine below_set ?_ GE231.out) | exact HB.out)); (case side2 => exact Kd.R_tight rfl HO234.out); (case side3 => (with_reducible repeat (first | apply kN_ | apply kD_ | apply kA_)); exact BK231.out); rintro e w8 ⟨v236, rfl, ho0, hb, hkp⟩; refine ⟨_, rfl, ?_⟩; have HO237 := aM_ (Kd.R_mono (ok' := fun k_ => True) ho0 (fun k_ hk_ => trivial)); replace BK231 := aM_ (blk_kept (by (with_reducible repeat (first | apply kN_ | apply kD_ | apply kA_)); exact BK231.out) hkp (fun hs_ => (fun e_ => (Kd.R_ne HO234.out BK231.out (by decide)) e_) hs_)); replace HB := aM_ (hb); clear HO234; (try clear hb); (try clear hkp); (try clear ho0)))
 go_ret
 exact ⟨_, rT_, by (with_reducible repeat (first | apply rA_ | apply rN_ | apply rD_)); exact HO237.out, hB_⟩

/-! ### impl_PutReferent: function 10 -/
set_option maxHeartbeats 8000000 in
set_option maxRecDepth 100000 in
theorem impl_PutReferent.calls (k : Nat) (A0 : Option Addr) (c0 : Nat) (l0 : List (S55)) (a1 : ByteArray) (a2 : Int) (r1 : List (S55)) (r2 : Bool) (w : World) (hr0 : Kd.C k55 w A0 l0.length l0) (hc0 : l0.length ≤ c0) (h : impl_PutReferent.f k l0 a1 a2 = some (r1, r2)) :
 Calls Try.prog 10 #[.slice A0 l0.length c0, .string a1, .int .i64 a2] w fun e w' => ∃ v0_ : Value, e = .returned (.tuple #[v0_, .bool r2]) ∧ Kd.R k55 55 w' w.heap.size (fun _ => True) v0_ r1 ∧ Below w.heap.size w w' := by
 have hu55 := Try.underlying55
 have HR0 := Aside0.mk hr0
 have HC0 := Aside0.mk hc0
 clear hr0 hc0
 have HB := Aside0.mk (Below.refl w.heap.size w)
 have H : ((impl_AreLoci.f k l0).bind fun t238 => (if t238 = true then ((impl_isWordOf.f k a1 (⟨#[97, 98, 99, 100, 101, 102, 103, 104, 105, 106, 107, 108, 109, 110, 111, 112, 113, 114, 115, 116, 117, 118, 119, 120, 121, 122]⟩ : ByteArray)).bind fun t239 => (if t239 = true then ((impl_isAngle.f a2).bind fun t240 => (impl_PutReferent.j0 k l0 a1 a2 (!t240))) else (impl_PutReferent.j0 k l0 a1 a2 true))) else (impl_PutReferent.j0 k l0 a1 a2 true))) = some (r1, r2) := h
 clear h
 have HC4 := Aside0.mk H
 clear H
 go_enter Try.func10, Try.ntmps10
 go_upto_region 1 with (fail)
 go_cut [20] (fun v20 wc => ∃ (kq : Nat) (x20_3 : Bool), v20 = .bool x20_3 ∧ Aside0 (impl_PutReferent.j0 kq l0 a1 a2 x20_3 = some (r1, r2)) ∧ Aside0 (kq ≤ k) ∧ Aside0 (Below w.heap.size w wc))
 case first =>
  have H := HC4.out
  clear HC4
  replace H := Option.bind_eq_some_iff.mp H
  obtain ⟨t238, A50, H⟩ := H
  try dsimp only at H
  have A5 := Aside0.mk A50
  clear A50
  by_cases c6 : t238 = true
  rotate_left
  ·replace c6 := Bool.eq_false_iff.mpr c6
   subst c6
   replace H := in_ H (show ¬ (false = true) by decide)
   have H' := Aside0.mk H
   clear H
   go_wp2_with (first | ((with_reducible refine gate_callee (f := 31) rfl ?_); refine goesM_ (some 9) Try.func31 #[.slice A0 l0.length c0] ?_; (with_reducible refine (impl_AreLoci.calls k _ _ l0 false _ ?side1 ?side2 A5.out).mono ?_); (case side1 => repeat (first | exact (Kd.C_below HR0.out HB.out) | (with_reducible first | apply cA_ | apply cN_ | apply cD_))); (case side2 => exact HC0.out); rintro e w12 ⟨rfl, hb⟩; refine ⟨_, rfl, ?_⟩; replace HB := aM_ (below_step hB_ hb); (try clear hb)))
   go_meet
   case rel => exact ⟨_, (true), y8_3_, H', ⟨oR_⟩, ⟨hB_⟩⟩
  subst c6
  replace H := ip_ H rfl
  replace H := Option.bind_eq_some_iff.mp H
  obtain ⟨t239, A70, H⟩ := H
  try dsimp only at H
  have A7 := Aside0.mk A70
  clear A70
  by_cases c8 : t239 = true
  rotate_left
  ·replace c8 := Bool.eq_false_iff.mpr c8
   subst c8
   replace H := in_ H (show ¬ (false = true) by decide)
   have H' := Aside0.mk H
   clear H
   go_wp2_with (first | ((with_reducible refine gate_callee (f := 31) rfl ?_); refine goesM_ (some 9) Try.func31 #[.slice A0 l0.length c0] ?_; (with_reducible refine (impl_AreLoci.calls k _ _ l0 true _ ?side1 ?side2 A5.out).mono ?_); (case side1 => repeat (first | exact (Kd.C_below HR0.out HB.out) | (with_reducible first | apply cA_ | apply cN_ | apply cD_))); (case side2 => exact HC0.out); rintro e w11 ⟨rfl, hb⟩; refine ⟨_, rfl, ?_⟩; replace HB := aM_ (below_step hB_ hb); (try clear hb)) | (go_at_call 46; (with_reducible refine (impl_isWordOf.calls k a1 (⟨#[97, 98, 99, 100, 101, 102, 103, 104, 105, 106, 107, 108, 109, 110, 111, 112, 113, 114, 115, 116, 117, 118, 119, 120, 121, 122]⟩ : ByteArray) false _ A7.out).mono ?_); rintro e w' ⟨rfl, ⟨nd, rfl⟩⟩))
   go_meet
   case rel => exact ⟨_, (true), y8_3_, H', ⟨oR_⟩, ⟨hB_⟩⟩
  subst c8
  replace H := ip_ H rfl
  replace H := Option.bind_eq_some_iff.mp H
  obtain ⟨t240, A90, H⟩ := H
  try dsimp only at H
  have A9 := Aside0.mk A90
  clear A90
  have H' := Aside0.mk H
  clear H
  go_wp2_with (first | ((with_reducible refine gate_callee (f := 31) rfl ?_); refine goesM_ (some 9) Try.func31 #[.slice A0 l0.length c0] ?_; (with_reducible refine (impl_AreLoci.calls k _ _ l0 true _ ?side1 ?side2 A5.out).mono ?_); (case side1 => repeat (first | exact (Kd.C_below HR0.out HB.out) | (with_reducible first | apply cA_ | apply cN_ | apply cD_))); (case side2 => exact HC0.out); rintro e w10 ⟨rfl, hb⟩; refine ⟨_, rfl, ?_⟩; replace HB := aM_ (below_step hB_ hb); (try clear hb)) | (go_at_call 46; (with_reducible refine (impl_isWordOf.calls k a1 (⟨#[97, 98, 99, 100, 101, 102, 103, 104, 105, 106, 107, 108, 109, 110, 111, 112, 113, 114, 115, 116, 117, 118, 119, 120, 121, 122]⟩ : ByteArray) true _ A7.out).mono ?_); rintro e w' ⟨rfl, ⟨nd, rfl⟩⟩) | (go_at_call 47; (with_reducible refine (impl_isAngle.calls a2 t240 _ A9.out).mono ?_); rintro e w' ⟨rfl, ⟨nd, rfl⟩⟩))
  go_meet
  case rel => exact ⟨_, (!t240), y8_3_, H', ⟨oR_⟩, ⟨hB_⟩⟩
 case rest =>
  clear HC4
  obtain ⟨kq, x20_3, rfl, HA, HJ3, HB⟩ := hcut
  cases kq with
  | zero => exact absurd HA.out (by simp [impl_PutReferent.j0])
  | succ kj3 =>
   have H := HA.out
   clear HA
   simp only [impl_PutReferent.j0] at H
   by_cases c13 : x20_3 = true
   ·subst c13
    replace H := ip_ H rfl
    simp only [Option.some.injEq, Prod.mk.injEq] at H
    obtain ⟨rfl, rfl⟩ := H
    go_wp2
    go_ret2
    exact ⟨_, rT_, y8_2_, hB_⟩
   replace c13 := Bool.eq_false_iff.mpr c13
   subst c13
   replace H := in_ H (show ¬ (false = true) by decide)
   replace H := Option.bind_eq_some_iff.mp H
   obtain ⟨t241, A140, H⟩ := H
   try dsimp only at H
   have A14 := Aside0.mk A140
   clear A140
   by_cases c15 : t241.length < 5864062014805
   rotate_left
   ·rw [if_neg c15] at H
    exact absurd H (by simp)
   rw [if_pos c15] at H
   have LMc15 := Aside0.mk c15
   clear c15
   obtain ⟨y244, hy244⟩ : ∃ y_ : List (S55), y_ = (t241 ++ [(⟨a1, a2⟩ : S55)]) := ⟨_, rfl⟩
   replace H : ((impl_sortedLoci.f kj3 y244).bind fun bt247 => (some (bt247.1, bt247.2))) = some (r1, r2) := by first | (rw [hy244]; with_reducible exact H) | (have H2_ := (Option.bind_some _ _).symm.trans H; rw [hy244]; with_reducible exact H2_) | (have H2_ := (Option.bind_some _ _).symm.trans H; with_reducible exact H2_) | with_reducible exact H | (rw [hy244]; exact H) | exact H
   have Ny244 := Aside0.mk hy244
   clear hy244
   replace H := Option.bind_eq_some_iff.mp H
   obtain ⟨⟨t247, t250⟩, A160, H⟩ := H
   try dsimp only at H
   have A16 := Aside0.mk A160
   clear A160
   simp only [Option.some.injEq, Prod.mk.injEq] at H
   obtain ⟨rfl, rfl⟩ := H
   go_wp2_with (first | ((with_reducible refine gate_callee (f := 49) rfl ?_); refine goesM_ (some 23) Try.func49 #[.slice A0 l0.length c0, .string a1] ?_; (with_reducible refine (impl_without.calls kj3 _ _ l0 a1 t241 _ ?side1 ?side2 A14.out).mono ?_); (case side1 => repeat (first | exact (Kd.C_below HR0.out HB.out) | (with_reducible first | apply cA_ | apply cN_ | apply cD_))); (case side2 => exact HC0.out); rintro e w17 ⟨v242, rfl, ho0, hb⟩; refine ⟨_, rfl, ?_⟩; have HO243 := aM_ (Kd.R_lower ho0 (below_size hB_)); replace HB := aM_ (below_step hB_ hb); (try clear hb); (try clear hk); (try clear ho0)) | ((with_reducible refine gate_builtin (b := .append) (xs := #[.tmp 23, .tmp 27]) rfl ?_); at_builtin; refine Kd.R_append k55 (w0 := w) w.heap.size rfl (.tmp 23) (.tmp 27) 24 55 (.agg #[(.string ⟨#[]⟩), (.int .i64 0)]) 24 rfl Try.underlying24 info55 rfl (by decide) (by omega) v242 t241 (⟨a1, a2⟩ : S55) [.string a1, .int .i64 a2] (fun _ => True) (fun _ => False) rfl rfl ?aP (fun _ hk => hk.elim) ?aF ?aO ?aB ?aS ?aL ?_; (case aP => exact k55_mkM _ _ _ (⟨a1, a2⟩ : S55)); (case aB => exact hB_); (case aF => exact (fun _ _ => trivial)); (case aO => exact (by (with_reducible repeat (first | apply rA_ | apply rN_ | apply rD_)); exact HO243.out)); (case aS => exact (below_size hB_)); (case aL => have := LMc15.out; omega); intro v245 w18 ho hb hg hat; rw [← Ny244.out] at ho; have HO246 := aM_ (ho); replace HB := aM_ (hb); clear HO243; clear ho hb hg hat; obtain ⟨Ao19, co19, eo19⟩ := Kd.R_slice HO246.out; subst eo19) | ((with_reducible refine gate_callee (f := 48) rfl ?_); refine goesM_ (some 29) Try.func48 #[.slice Ao19 y244.length co19] ?_; (with_reducible refine (impl_sortedLoci.calls kj3 (fun k_ => some k_ = (.slice Ao19 y244.length co19 : Value).ownBlock) (.slice Ao19 y244.length co19) y244 t247 t250 w _ ?side1 ?side2 A16.out).mono ?_); (case side1 => repeat (first | (with_reducible first | exact HB.out | apply lA_ | apply lN_ | apply lD_) | exact HB.out)); (case side2 => exact Kd.R_tight rfl HO246.out); rintro e w20 ⟨v248, rfl, ho0, hb, hkp⟩; refine ⟨_, rfl, ?_⟩; have HO249 := aM_ (Kd.R_mono (ok' := fun k_ => True) ho0 (fun k_ hk_ => trivial)); replace HB := aM_ (hb); clear HO246; (try clear hb); (try clear hkp); (try clear ho0)))
   go_ret2
   exact ⟨_, rT_, by (with_reducible repeat (first | apply rA_ | apply rN_ | apply rD_)); exact HO249.out, hB_⟩

/-! ### spec_l1Most: function 53 -/
set_option maxHeartbeats 8000000 in
set_option maxRecDepth 100000 in
theorem spec_l1Most.calls (a0 : Int) (a1 : Int) (r : Int) (w : World) (h : spec_l1Most.f a0 a1 = some r) :
 Calls Try.prog 53 #[.int .i64 a0, .int .i64 a1] w fun e w' => e = .returned (.int .i64 r) ∧ Drawn0 w w' := by
 have H : (if a0 > a1 then (some a0) else (some a1)) = some r := h
 clear h
 by_cases c3 : a0 > a1
 ·rw [if_pos c3] at H
  have c3b0 : decide (a1 < a0) = true := decide_eq_true c3
  clear c3
  obtain rfl := Option.some.inj H
  go_enter Try.func53, Try.ntmps53
  go_wp2
  go_ret
  exact ⟨y8_3_, y8_11_⟩
 rw [if_neg c3] at H
 have c3b0 : decide (a1 < a0) = false := decide_eq_false c3
 clear c3
 obtain rfl := Option.some.inj H
 go_enter Try.func53, Try.ntmps53
 go_wp2
 go_ret
 exact ⟨y8_3_, y8_11_⟩

/-! ### spec_l1Least: function 54 -/
set_option maxHeartbeats 8000000 in
set_option maxRecDepth 100000 in
theorem spec_l1Least.calls (a0 : Int) (a1 : Int) (r : Int) (w : World) (h : spec_l1Least.f a0 a1 = some r) :
 Calls Try.prog 54 #[.int .i64 a0, .int .i64 a1] w fun e w' => e = .returned (.int .i64 r) ∧ Drawn0 w w' := by
 have H : (if a0 < a1 then (some a0) else (some a1)) = some r := h
 clear h
 by_cases c3 : a0 < a1
 ·rw [if_pos c3] at H
  have c3b0 : decide (a0 < a1) = true := decide_eq_true c3
  clear c3
  obtain rfl := Option.some.inj H
  go_enter Try.func54, Try.ntmps54
  go_wp2
  go_ret
  exact ⟨y8_3_, y8_11_⟩
 rw [if_neg c3] at H
 have c3b0 : decide (a0 < a1) = false := decide_eq_false c3
 clear c3
 obtain rfl := Option.some.inj H
 go_enter Try.func54, Try.ntmps54
 go_wp2
 go_ret
 exact ⟨y8_3_, y8_11_⟩

end Go.Proofs.Ytbheajjagkdjmaa.PFnLoci
