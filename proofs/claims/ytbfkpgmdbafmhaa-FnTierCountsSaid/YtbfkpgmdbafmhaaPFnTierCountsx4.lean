/- Printed for this claim: functions of the program as Lean functions, and that the calls answer so. -/
import Derived.Test.YtbfkpgmdbafmhaaPFnTierCountsx0
import Derived.Test.YtbfkpgmdbafmhaaPFnTierCountsx3
import Derived.Test.YtbfkpgmdbafmhaaPFnTierCountsxD0
import Derived.Test.YtbfkpgmdbafmhaaPFnTierCountsxD1
namespace Go.Proofs.Ytbfkpgmdbafmhaa.PFnTierCounts
open Go.RowKit Go.Proofs.YtbfkpgmdbafmhaaW.PrintWords Go.Proofs.YtbfkpgmdbafmhaaW.PrintLast Go.Proofs.YtbfkpgmdbafmhaaW.PrintMore
theorem z4_0_ {p : Prop} (h : p := by repeat (first | (with_reducible first | exact HB.out | apply lA_ | apply lN_ | apply lD_) | exact HB.out)) : p := h
theorem z4_1_ {p : Prop} (h : p := by first | rfl | (simp; done) | (simp [*]; done)) : p := h
theorem z4_2_ {p : Prop} (h : p := by first | exact Kd.R_nil _ _ _ _ _ | exact Kd.N_nil _ _ _ _ _ | exact Kd.V_nil _ _ _ _ _ | exact Kd.Q_nil _ _ _ _ _ | exact Kd.S_nil _ _ _ _ _) : p := h
theorem z4_3_ {p : Prop} (h : p := by (with_reducible repeat (first | apply rA_ | apply rN_ | apply rD_)); exact (Kd.R_mono (Kd.R_far (p := ⟨gb248, 0, none⟩) (Kd.R_mono HO_5.out (fun k_ hk => (⟨hk, hk.2⟩ : _ ∧ k_ ≠ gb248))) (fun _ hk => hk.2) (.string (rdOf ByteArray.empty t244 x31_2))) (fun _ h_ => h_.1))) : p := h
theorem z4_4_ {p : Prop} (h : p := by repeat (first | exact Drawn0.refl _ | apply Drawn0.step)) : p := h
set_option maxHeartbeats 8000000
set_option maxRecDepth 100000
attribute [local go_sem] max2_int min2_int max_two min_two max_three min_three max_four min_four isSome_setCell   -- for this text's walks alone
set_option linter.unusedVariables false
set_option linter.unusedSimpArgs false

/-! ### slices_Sort_string: function 55, by hand -/
open Go.Shelf Go.RowKit Go.Sort Go.Lib in
def laid_lays190_ren : Go.Shelf.Ren := ⟨fun | 190 => 55 | 125 => 69 | 258 => 68 | 128 => 81 | 129 => 82 | 302 => 72 | 303 => 73 | 304 => 74 | 305 => 75 | 306 => 76 | 307 => 77 | 308 => 78 | 309 => 79 | 310 => 80 | 333 => 84 | 329 => 85 | 330 => 86 | 334 => 87 | 335 => 88 | 336 => 89 | 344 => 91 | n => n, fun | 31 => 25 | 9 => 9 | 3 => 3 | 46 => 84 | 0 => 0 | 51 => 93 | 53 => 60 | 4 => 4 | 183 => 87 | 182 => 86 | 131 => 31 | 5 => 5 | 218 => 96 | 222 => 100 | 228 => 102 | 229 => 103 | n => n, fun | n => n⟩
open Go.Shelf Go.RowKit Go.Sort Go.Lib in
theorem laid_lays190 : Go.Proofs.Lays.n190 Try.prog laid_lays190_ren := {
 mixed := by kernel_rfl
 f125 := Try.func69.trans (congrArg some (by kernel_rfl))
 f128 := Try.func81.trans (congrArg some (by kernel_rfl))
 f129 := Try.func82.trans (congrArg some (by kernel_rfl))
 f190 := Try.func55.trans (congrArg some (by kernel_rfl))
 f258 := Try.func68.trans (congrArg some (by kernel_rfl))
 f302 := Try.func72.trans (congrArg some (by kernel_rfl))
 f303 := Try.func73.trans (congrArg some (by kernel_rfl))
 f304 := Try.func74.trans (congrArg some (by kernel_rfl))
 f305 := Try.func75.trans (congrArg some (by kernel_rfl))
 f306 := Try.func76.trans (congrArg some (by kernel_rfl))
 f307 := Try.func77.trans (congrArg some (by kernel_rfl))
 f308 := Try.func78.trans (congrArg some (by kernel_rfl))
 f309 := Try.func79.trans (congrArg some (by kernel_rfl))
 f310 := Try.func80.trans (congrArg some (by kernel_rfl))
 f329 := Try.func85.trans (congrArg some (by kernel_rfl))
 f330 := Try.func86.trans (congrArg some (by kernel_rfl))
 f333 := Try.func84.trans (congrArg some (by kernel_rfl))
 f334 := Try.func87.trans (congrArg some (by kernel_rfl))
 f335 := Try.func88.trans (congrArg some (by kernel_rfl))
 f336 := Try.func89.trans (congrArg some (by kernel_rfl))
 f344 := Try.func91.trans (congrArg some (by kernel_rfl))
 t0 := Try.underlying0
 a0 := Try.isAgg0
 z0 := Try.sizeOf0
 v0 := Try.zeroValue0
 t3 := Try.underlying3
 a3 := Try.isAgg3
 z3 := Try.sizeOf3
 v3 := Try.zeroValue3
 t4 := Try.underlying4
 a4 := Try.isAgg4
 z4 := Try.sizeOf4
 v4 := Try.zeroValue4
 t5 := Try.underlying5
 a5 := Try.isAgg5
 z5 := Try.sizeOf5
 v5 := Try.zeroValue5
 t9 := Try.underlying9
 a9 := Try.isAgg9
 z9 := Try.sizeOf9
 v9 := Try.zeroValue9
 t31 := Try.underlying25
 a31 := Try.isAgg25
 z31 := Try.sizeOf25
 v31 := Try.zeroValue25
 t46 := Try.underlying84
 a46 := Try.isAgg84
 z46 := Try.sizeOf84
 v46 := Try.zeroValue84
 t51 := Try.underlying93
 a51 := Try.isAgg93
 z51 := Try.sizeOf93
 v51 := Try.zeroValue93
 t53 := Try.underlying60
 a53 := Try.isAgg60
 z53 := Try.sizeOf60
 v53 := Try.zeroValue60
 t131 := Try.underlying31
 a131 := Try.isAgg31
 z131 := Try.sizeOf31
 v131 := Try.zeroValue31
 t182 := Try.underlying86
 a182 := Try.isAgg86
 z182 := Try.sizeOf86
 v182 := Try.zeroValue86
 t183 := Try.underlying87
 a183 := Try.isAgg87
 z183 := Try.sizeOf87
 v183 := Try.zeroValue87
 t218 := Try.underlying96
 a218 := Try.isAgg96
 z218 := Try.sizeOf96
 v218 := Try.zeroValue96
 t222 := Try.underlying100
 a222 := Try.isAgg100
 z222 := Try.sizeOf100
 v222 := Try.zeroValue100
 t228 := Try.underlying102
 a228 := Try.isAgg102
 z228 := Try.sizeOf102
 v228 := Try.zeroValue102
 t229 := Try.underlying103
 a229 := Try.isAgg103
 z229 := Try.sizeOf103
 v229 := Try.zeroValue103 }
theorem slices_Sort_string.calls (P0_ : Nat → Prop) (u9000_ : Value) (l0 : List ByteArray) (r : List ByteArray) (w0 w : World) (hB : Below w0.heap.size w0 w) (ho0 : Kd.R Kd.string 9 w w0.heap.size P0_ u9000_ l0) (h : slices_Sort_string.f l0 = some r) :
 Calls Try.prog 55 #[u9000_] w fun e w' => e = .returned (.tuple #[]) ∧ Kd.R Kd.string 9 w' w0.heap.size (fun k_ => (P0_ k_ ∨ w.heap.size ≤ k_)) u9000_ r ∧ Below w0.heap.size w0 w' ∧ Kept w w' (fun k_ => P0_ k_) := by
 unfold slices_Sort_string.f at h
 split at h
 case isFalse => cases h
 case isTrue hl =>
  obtain rfl := Option.some.inj h
  exact sorted_row sortTexts sortTexts_length (sort_texts (fun blk off cap ss w hH hb hz => Any.slices_Sort_string laid_lays190 blk off cap ss w hH hb hz)) (fun p cap w => Any.slices_Sort_string_none laid_lays190 p cap w) hB ho0 hl

/-! ### slices_Compact_string: function 56, by hand -/
open Go.Shelf Go.RowKit Go.Sort Go.Lib in
def laid_lays194_ren : Go.Shelf.Ren := ⟨fun | 194 => 56 | n => n, fun | 31 => 25 | 9 => 9 | 3 => 3 | 4 => 4 | 0 => 0 | n => n, fun | n => n⟩
open Go.Shelf Go.RowKit Go.Sort Go.Lib in
theorem laid_lays194 : Go.Proofs.Lays.n194 Try.prog laid_lays194_ren := {
 mixed := by kernel_rfl
 f194 := Try.func56.trans (congrArg some (by kernel_rfl))
 t0 := Try.underlying0
 a0 := Try.isAgg0
 z0 := Try.sizeOf0
 v0 := Try.zeroValue0
 t3 := Try.underlying3
 a3 := Try.isAgg3
 z3 := Try.sizeOf3
 v3 := Try.zeroValue3
 t4 := Try.underlying4
 a4 := Try.isAgg4
 z4 := Try.sizeOf4
 v4 := Try.zeroValue4
 t9 := Try.underlying9
 a9 := Try.isAgg9
 z9 := Try.sizeOf9
 v9 := Try.zeroValue9
 t31 := Try.underlying25
 a31 := Try.isAgg25
 z31 := Try.sizeOf25
 v31 := Try.zeroValue25 }
theorem slices_Compact_string.calls (P0_ : Nat → Prop) (u9000_ : Value) (l0 : List ByteArray) (r : List ByteArray) (w0 w : World) (hB : Below w0.heap.size w0 w) (ho0 : Kd.R Kd.string 9 w w0.heap.size P0_ u9000_ l0) (h : slices_Compact_string.f l0 = some r) :
 Calls Try.prog 56 #[u9000_] w fun e w' => ∃ v0_ : Value, e = .returned (v0_) ∧ Kd.R Kd.string 9 w' w0.heap.size (fun k_ => (P0_ k_ ∨ w.heap.size ≤ k_)) v0_ r ∧ Below w0.heap.size w0 w' ∧ Kept w w' (fun k_ => P0_ k_) := by
 unfold slices_Compact_string.f at h
 split at h
 case isFalse => cases h
 case isTrue hl =>
  obtain rfl := Option.some.inj h
  exact compacted_row onceTexts (⟨#[]⟩ : ByteArray) onceTexts_length (once_texts (fun blk off cap ss w hH hz hc => Any.slices_Compact_string laid_lays194 blk off cap ss w hH hz hc)) (fun p cap w => Any.slices_Compact_string_empty laid_lays194 p cap w) hB ho0 hl

/-! ### impl_distinct_string: function 28 -/
theorem impl_distinct_string.calls (A0 : Option Addr) (c0 : Nat) (l0 : List ByteArray) (r : List ByteArray) (w : World) (hr0 : Kd.C Kd.string w A0 l0.length l0) (hc0 : l0.length ≤ c0) (h : impl_distinct_string.f l0 = some r) :
 Calls Try.prog 28 #[.slice A0 l0.length c0] w fun e w' => ∃ v0_ : Value, e = .returned (v0_) ∧ Kd.R Kd.string 9 w' w.heap.size (fun _ => True) v0_ r ∧ Below w.heap.size w w' := by
 have HR0 := Aside0.mk hr0
 have HC0 := Aside0.mk hc0
 clear hr0 hc0
 have HB := Aside0.mk (Below.refl w.heap.size w)
 have H : ((slices_Clone_string.f l0).bind fun t226 => ((slices_Sort_string.f t226).bind fun t229 => ((slices_Compact_string.f t229).bind fun t230 => (some t230)))) = some r := h
 clear h
 replace H := ob_ H; obtain ⟨t226, A2, H⟩ := H; try dsimp only at H
 replace H := ob_ H; obtain ⟨t229, A3, H⟩ := H; try dsimp only at H
 replace H := ob_ H; obtain ⟨t230, A4, H⟩ := H; try dsimp only at H
 obtain rfl := Option.some.inj H
 go_enter Try.func28, Try.ntmps28
 go_wp2_with (first | (refine gM_ (some 5) Try.func54 #[.slice A0 l0.length c0] ?_; (with_reducible refine (slices_Clone_string.calls _ _ l0 t226 _ ?side1 ?side2 A2.out).mono ?_); (case side1 => exact cC_ HR0); (case side2 => exact HC0.out); rintro e w5 ⟨v227, rfl, ho0, hb⟩; refine ⟨_, rfl, ?_⟩; have HO228 := aM_ (Kd.R_lower ho0 (below_size hB_)); replace HB := aM_ (below_step hB_ hb); (try clear hb); (try clear ho0); obtain ⟨Ao6, co6, eo6⟩ := Kd.R_slice HO228.out; subst eo6) | (refine gM_ (some 7) Try.func55 #[.slice Ao6 t226.length co6] ?_; (with_reducible refine (slices_Sort_string.calls (fun k_ => some k_ = (.slice Ao6 t226.length co6 : Value).ownBlock) (.slice Ao6 t226.length co6) t226 t229 w _ ?side1 ?side2 A3.out).mono ?_); (case side1 => exact z4_0_); (case side2 => exact Kd.R_tight rfl HO228.out); rintro e w7 ⟨rfl, hy0, hb, hkp⟩; refine ⟨_, rfl, ?_⟩; replace HO228 := aM_ (Kd.R_reok rfl hy0 (fun k_ e_ => HO228.out.1 k_ e_)); replace HB := aM_ (hb); (try clear hb); (try clear hkp); (try clear hy0)) | (refine gM_ (some 9) Try.func56 #[.slice Ao6 t226.length co6] ?_; (with_reducible refine (slices_Compact_string.calls (fun k_ => some k_ = (.slice Ao6 t226.length co6 : Value).ownBlock) (.slice Ao6 t226.length co6) t229 t230 w _ ?side1 ?side2 A4.out).mono ?_); (case side1 => exact z4_0_); (case side2 => exact Kd.R_tight rfl HO228.out); rintro e w8 ⟨v231, rfl, ho0, hb, hkp⟩; refine ⟨_, rfl, ?_⟩; have HO232 := aM_ (Kd.R_mono (ok' := fun k_ => True) ho0 (fun k_ hk_ => trivial)); replace HB := aM_ (hb); clear HO228; (try clear hb); (try clear hkp); (try clear ho0)))
 go_ret
 exact ⟨_, rT_, by (with_reducible repeat (first | apply rA_ | apply rN_ | apply rD_)); exact HO232.out, hB_⟩

/-! ### impl_CountGlosses_1: function 111 -/
theorem impl_CountGlosses_1.calls (a0 : ByteArray) (g1_0 : Nat) (a1_0 : ByteArray) (r : Bool) (w : World) (hb1_0 : w.heap[g1_0]? = some (.cells #[.string a1_0] 9 (0, 0))) (h : impl_CountGlosses_1.f a0 a1_0 = some r) :
 Calls Try.prog 30 #[.string a0, .pointer (some ⟨g1_0, 0, none⟩)] w fun e w' => e = .returned (.bool r) ∧ Below w.heap.size w w' := by
 have BK38 := Aside0.mk hb1_0
 clear hb1_0
 have HB := Aside0.mk (Below.refl w.heap.size w)
 have H : (some (a0.toList == a1_0.toList)) = some r := h
 clear h
 obtain rfl := Option.some.inj H
 have hz3 := cf1_ BK38.out
 go_enter Try.func30, Try.ntmps30
 go_wp2
 go_ret
 exact ⟨rT_, hB_⟩

/-! ### impl_those_string_impl_CountGlosses_1: function 110 -/
theorem impl_those_string_impl_CountGlosses_1.calls (k : Nat) (A0 : Option Addr) (c0 : Nat) (l0 : List ByteArray) (g1_0 : Nat) (a1_0 : ByteArray) (r : List Int) (w : World) (hr0 : Kd.C Kd.string w A0 l0.length l0) (hc0 : l0.length ≤ c0) (hb1_0 : w.heap[g1_0]? = some (.cells #[.string a1_0] 9 (0, 0))) (h : impl_those_string_impl_CountGlosses_1.f k l0 a1_0 = some r) :
 Calls Try.prog 29 #[.slice A0 l0.length c0, .func (.func 30) #[] #[.pointer (some ⟨g1_0, 0, none⟩)]] w fun e w' => ∃ v0_ : Value, e = .returned (v0_) ∧ Kd.R (Kd.int .i64) 3 w' w.heap.size (fun _ => True) v0_ r ∧ Below w.heap.size w w' := by
 have HR0 := Aside0.mk hr0
 have HC0 := Aside0.mk hc0
 clear hr0 hc0
 have BK38 := Aside0.mk hb1_0
 clear hb1_0
 have HB := Aside0.mk (Below.refl w.heap.size w)
 have H : (impl_those_string_impl_CountGlosses_1.l0 k ([] : List Int) l0 (l0.length : Int) 0 a1_0) = some r := h
 clear h
 have H' := Aside0.mk H
 clear H
 go_enter Try.func29, Try.ntmps29
 go_wp2
 go_loopg [5, 10] k (fun kq v5 v10 w' => ∃ (x5_1 : List Int) (x10_1 : Int), v10 = .int .i64 x10_1 ∧ Aside0 (impl_those_string_impl_CountGlosses_1.l0 kq x5_1 l0 (l0.length : Int) x10_1 a1_0 = some r) ∧ Aside0 (kq ≤ k) ∧ Aside0 (Kd.R (Kd.int .i64) 3 w' w.heap.size (fun _ => True) v5 x5_1) ∧ Aside0 (w'.heap[g1_0]? = some (.cells #[.string a1_0] 9 (0, 0))) ∧ Aside0 (Below w.heap.size w w'))
 case atStart => exact ⟨(([] : List Int)), (0), z4_1_, H', ⟨Nat.le_refl _⟩, ⟨z4_2_⟩, ⟨kP_⟩, ⟨hB_⟩⟩
 case round =>
  clear H'
  obtain ⟨x5_1, x10_1, rfl, HA, HK1, HO_5, BK38, HB⟩ := hrel
  cases gk with
  | zero => exact absurd HA.out (by simp [impl_those_string_impl_CountGlosses_1.l0])
  | succ k1 =>
   have H := HA.out
   clear HA
   simp only [impl_those_string_impl_CountGlosses_1.l0] at H
   replace H := iF_ H; obtain ⟨c3b0, H⟩ | ⟨c3b0, H⟩ := H
   ·obtain rfl := Option.some.inj H
    go_wp2
    go_ret
    exact ⟨_, rT_, (rR_ HO_5), hB_⟩
   replace H := ig_ H; obtain ⟨c4b0, H⟩ := H
   replace H := ig_ H; obtain ⟨c5b0, H⟩ := H
   replace H := ob_ H; obtain ⟨t234, A6, H⟩ := H; try dsimp only at H
   have HC7 := Aside0.mk H
   clear H
   have p233 : 0 ≤ (x10_1 : Int) := ode_
   have q233 : x10_1 < (l0.length : Int) := ode_
   obtain ⟨ad233, e233, hx233_0⟩ := Kd.at_string HR0.out x10_1 p233 q233
   cases e233
   replace hx233_0 := hc_ HB hx233_0
   replace p233 := eq_true p233
   replace q233 := eq_true q233
   go_upto_if 17 with (first | ((with_reducible refine gate_via (t := 15) rfl ?_); refine goesV_ (some 17) rfl rfl Try.func30 (by kernel_rfl) rfl #[.string (rdOf ByteArray.empty l0 x10_1), .pointer (some ⟨g1_0, 0, none⟩)] rfl rfl (by (try simp only [List.map_toArray, List.map_cons, List.map_nil]); first | done | rfl | simp | (simp; rfl)) ?_; (with_reducible refine (impl_CountGlosses_1.calls (rdOf ByteArray.empty l0 x10_1) g1_0 a1_0 t234 _ ?side1 A6.out).mono ?_); (case side1 => (with_reducible repeat (first | apply kN_ | apply kD_ | apply kA_)); exact BK38.out); rintro e w8 ⟨rfl, hb⟩; refine ⟨_, rfl, ?_⟩; replace HO_5 := aM_ (Kd.R_below (rR_ HO_5) hb); replace BK38 := aM_ (blk_below (g := g1_0) (kR_ BK38) hb); replace HB := aM_ (below_step hB_ hb); (try clear hb)))
   (try simp only [Act.put, List.setIfInBounds_toArray, List.set_cons_zero, List.set_cons_succ])
   have H := HC7.out
   clear HC7
   by_cases c9 : t234 = true
   rotate_left
   ·replace c9 := Bool.eq_false_iff.mpr c9
    subst c9
    replace H := in_ H (show ¬ (false = true) by decide)
    have H' := Aside0.mk H
    clear H
    go_wp2
    go_roundg k1
    case measure => have := HK1.out; omega
    case rel => exact ⟨(x5_1), (wrap64 (x10_1 + 1)), z4_1_, H', ⟨by have := HK1.out; omega⟩, ⟨(rR_ HO_5)⟩, ⟨kP_⟩, ⟨hB_⟩⟩
   subst c9
   replace H := ip_ H rfl
   replace H := il_ H; obtain ⟨LMc10, H⟩ := H
   obtain ⟨y235, hy235⟩ : ∃ y_ : List Int, y_ = (x5_1 ++ [x10_1]) := ⟨_, rfl⟩
   rw [← hy235] at H
   have Ny235 := Aside0.mk hy235; clear hy235
   have H' := Aside0.mk H
   clear H
   go_wp2_with (first | ((with_reducible refine gate_builtin (b := .append) (xs := #[.tmp 18, .tmp 20]) rfl ?_); at_builtin; refine Kd.R_append (Kd.int .i64) (w0 := w) w.heap.size rfl (.tmp 18) (.tmp 20) 26 3 (.int .i64 0) 8 rfl Try.underlying26 info3 rfl (by decide) (by omega) u5 x5_1 x10_1 [.int .i64 x10_1] (fun _ => True) (fun _ => False) rfl rfl ?aP (fun _ hk => hk.elim) ?aF ?aO ?aB ?aS ?aL ?_; (case aP => exact rfl); (case aB => exact hB_); (case aF => exact (fun _ _ => trivial)); (case aO => exact (rR_ HO_5)); (case aS => exact (below_size hB_)); (case aL => have := LMc10.out; omega); intro v236 w11 ho hb hg hat; rw [← Ny235.out] at ho; have HO237 := aM_ (ho); replace BK38 := aM_ (blk_grown (g := g1_0) (kR_ BK38) hg (Kd.R_ne HO_5.out BK38.out (by decide))); replace HB := aM_ (hb); clear HO_5; clear ho hb hg hat))
   go_roundg k1
   case measure => have := HK1.out; omega
   case rel => exact ⟨(y235), (wrap64 (x10_1 + 1)), z4_1_, H', ⟨by have := HK1.out; omega⟩, ⟨rR_ HO237⟩, ⟨kP_⟩, ⟨hB_⟩⟩

/-! ### impl_CountGlosses: function 5 -/
theorem impl_CountGlosses.calls (k : Nat) (A0 : Option Addr) (c0 : Nat) (l0 : List (S50)) (r1 : List ByteArray) (r2 : List Int) (r3 : Bool) (w : World) (hr0 : Kd.C k50 w A0 l0.length l0) (hc0 : l0.length ≤ c0) (h : impl_CountGlosses.f k l0 = some (r1, r2, r3)) :
 Calls Try.prog 5 #[.slice A0 l0.length c0] w fun e w' => ∃ v0_ v1_ : Value, e = .returned (.tuple #[v0_, v1_, .bool r3]) ∧ Kd.R Kd.string 9 w' w.heap.size (fun _ => True) v0_ r1 ∧ Kd.R (Kd.int .i64) 3 w' w.heap.size (fun _ => True) v1_ r2 ∧ Below w.heap.size w w' := by
 have hu50 := Try.underlying50
 have hu9 := Try.underlying9
 have HR0 := Aside0.mk hr0
 have HC0 := Aside0.mk hc0
 clear hr0 hc0
 have HB := Aside0.mk (Below.refl w.heap.size w)
 have H : ((impl_IsTier.f k l0).bind fun t238 => (if t238 = true then (impl_CountGlosses.l0 k ([] : List ByteArray) l0 (l0.length : Int) 0) else (some (([] : List ByteArray), ([] : List Int), false)))) = some (r1, r2, r3) := h
 clear h
 replace H := ob_ H; obtain ⟨t238, A2, H⟩ := H; try dsimp only at H
 have HC3 := Aside0.mk H
 clear H
 go_enter Try.func5, Try.ntmps5
 go_upto_if 14 with (first | (refine gM_ (some 13) Try.func27 #[.slice A0 l0.length c0] ?_; (with_reducible refine (impl_IsTier.calls k _ _ l0 t238 _ ?side1 ?side2 A2.out).mono ?_); (case side1 => exact cC_ HR0); (case side2 => exact HC0.out); rintro e w4 ⟨rfl, hb⟩; refine ⟨_, rfl, ?_⟩; replace HB := aM_ (below_step hB_ hb); (try clear hb)))
 (try simp only [Act.put, List.setIfInBounds_toArray, List.set_cons_zero, List.set_cons_succ])
 have H := HC3.out
 clear HC3
 by_cases c5 : t238 = true
 rotate_left
 ·replace c5 := Bool.eq_false_iff.mpr c5
  subst c5
  replace H := in_ H (show ¬ (false = true) by decide)
  simp only [Option.some.injEq, Prod.mk.injEq] at H
  obtain ⟨rfl, rfl, rfl⟩ := H
  go_wp2
  go_ret3
  exact ⟨_, _, rT_, z4_2_, z4_2_, hB_⟩
 subst c5
 replace H := ip_ H rfl
 have H' := Aside0.mk H
 clear H
 go_wp2
 go_loopg [5, 17] k (fun kq v5 v17 w' => ∃ (x5_1 : List ByteArray) (x17_1 : Int), v17 = .int .i64 x17_1 ∧ Aside0 (impl_CountGlosses.l0 kq x5_1 l0 (l0.length : Int) x17_1 = some (r1, r2, r3)) ∧ Aside0 (kq ≤ k) ∧ Aside0 (Kd.R Kd.string 9 w' w.heap.size (fun _ => True) v5 x5_1) ∧ Aside0 (Below w.heap.size w w'))
 case atStart => exact ⟨(([] : List ByteArray)), (0), z4_1_, H', ⟨Nat.le_refl _⟩, ⟨z4_2_⟩, ⟨hB_⟩⟩
 case round =>
  clear H'
  (try clear c5)
  obtain ⟨x5_1, x17_1, rfl, HA, HK1, HO_5, HB⟩ := hrel
  cases gk with
  | zero => exact absurd HA.out (by simp [impl_CountGlosses.l0])
  | succ k1 =>
   have H := HA.out
   clear HA
   simp only [impl_CountGlosses.l0] at H
   replace H := iT_ H; obtain ⟨c6b0, H⟩ | ⟨c6b0, H⟩ := H
   ·(first | rw [c6b0] | (simp only [i64_w, i32_w]; rw [c6b0]) | skip)
    replace H := ig_ H; obtain ⟨c7b0, H⟩ := H
    replace H := ig_ H; obtain ⟨c8b0, H⟩ := H
    replace H := il_ H; obtain ⟨LMc9, H⟩ := H
    obtain ⟨y241, hy241⟩ : ∃ y_ : List ByteArray, y_ = (x5_1 ++ [(rd_T50 l0 x17_1).f2]) := ⟨_, rfl⟩
    rw [← hy241] at H
    have Ny241 := Aside0.mk hy241; clear hy241
    have H' := Aside0.mk H
    clear H
    have p239 : 0 ≤ (x17_1 : Int) := ode_
    have q239 : x17_1 < (l0.length : Int) := ode_
    obtain ⟨ad239, e239, hx239_0, hx239_1, hx239_2⟩ := at_T50 HR0.out x17_1 p239 q239
    cases e239
    replace hx239_0 := hc_ HB hx239_0
    replace hx239_1 := hc_ HB hx239_1
    replace hx239_2 := hc_ HB hx239_2
    replace p239 := eq_true p239
    replace q239 := eq_true q239
    go_wp2_with (first | ((with_reducible refine gate_dst (N := 7) rfl ?_); refine bx_ 7 #[.int .i64 0, .int .i64 0, .string (⟨#[]⟩ : ByteArray)] 50 fun gb240 hg w10 hbox hb => ?_; have BK240 := aM_ (hbox); have GW240 := aM_ (gw_ w hg); have GE240 := aM_ (gw_ w hg); replace HO_5 := aM_ (Kd.R_below (rR_ HO_5) hb); replace HB := aM_ (below_step hB_ hb); clear hb hbox hg; have hz11 := cf3_ BK240.out) | ((with_reducible refine gate_builtin (b := .append) (xs := #[.tmp 21, .tmp 24]) rfl ?_); at_builtin; refine Kd.R_append Kd.string (w0 := w) w.heap.size rfl (.tmp 21) (.tmp 24) 25 9 (.string ⟨#[]⟩) 16 rfl Try.underlying25 info9 rfl (by decide) (by omega) u5 x5_1 ((rd_T50 l0 x17_1).f2) [.string ((rd_T50 l0 x17_1).f2)] (fun _ => True) (fun _ => False) rfl (by first | (go_simp; done) | (go_simp; rfl)) ?aP (fun _ hk => hk.elim) ?aF ?aO ?aB ?aS ?aL ?_; (case aP => exact rfl); (case aB => exact hB_); (case aF => exact (fun _ _ => trivial)); (case aO => exact (by (with_reducible repeat (first | apply rA_ | apply rN_ | apply rD_)); exact Kd.R_mono (Kd.R_far (p := ⟨gb240, 2, none⟩) (Kd.R_far (p := ⟨gb240, 1, none⟩) (Kd.R_far (p := ⟨gb240, 0, none⟩) (Kd.R_types HO_5.out BK240.out (by decide)) (fun _ hk => hk.2) (.int .i64 ((rd_T50 l0 x17_1).f0))) (fun _ hk => hk.2) (.int .i64 ((rd_T50 l0 x17_1).f1))) (fun _ hk => hk.2) (.string ((rd_T50 l0 x17_1).f2))) (fun _ hk => trivial))); (case aS => exact (below_size hB_)); (case aL => have := LMc9.out; omega); intro v242 w12 ho hb hg hat; rw [← Ny241.out] at ho; have HO243 := aM_ (ho); replace BK240 := aM_ (blk_grown (g := gb240) (o := .cells #[.int .i64 ((rd_T50 l0 x17_1).f0), .int .i64 ((rd_T50 l0 x17_1).f1), .string ((rd_T50 l0 x17_1).f2)] 50 (0, 0)) (by (with_reducible repeat (first | apply kN_ | apply kD_ | apply kA_)); refine blk_put (cs := #[.int .i64 ((rd_T50 l0 x17_1).f0), .int .i64 ((rd_T50 l0 x17_1).f1), .string (⟨#[]⟩ : ByteArray)]) ?_ 2 _ rfl; (with_reducible repeat (first | apply kN_ | apply kD_ | apply kA_)); refine blk_put (cs := #[.int .i64 ((rd_T50 l0 x17_1).f0), .int .i64 0, .string (⟨#[]⟩ : ByteArray)]) ?_ 1 _ rfl; (with_reducible repeat (first | apply kN_ | apply kD_ | apply kA_)); refine blk_put (cs := #[.int .i64 0, .int .i64 0, .string (⟨#[]⟩ : ByteArray)]) ?_ 0 _ rfl; (with_reducible repeat (first | apply kN_ | apply kD_ | apply kA_)); exact BK240.out) hg (Kd.R_ne HO_5.out BK240.out (by decide))); replace HB := aM_ (hb); clear HO_5; clear ho hb hg hat))
    go_roundg k1
    case measure => have := HK1.out; omega
    case rel => exact ⟨(y241), (wrap64 (x17_1 + 1)), z4_1_, H', ⟨by have := HK1.out; omega⟩, ⟨rR_ HO243⟩, ⟨hB_⟩⟩
   (first | rw [c6b0] | (simp only [i64_w, i32_w]; rw [c6b0]) | skip)
   replace H := ob_ H; obtain ⟨t244, A13, H⟩ := H; try dsimp only at H
   have H' := Aside0.mk H
   clear H
   obtain ⟨Ao14, co14, eo14⟩ := Kd.R_slice HO_5.out
   subst eo14
   go_wp2_with (first | (refine gM_ (some 28) Try.func28 #[.slice Ao14 x5_1.length co14] ?_; (with_reducible refine (impl_distinct_string.calls _ _ x5_1 t244 _ ?side1 ?side2 A13.out).mono ?_); (case side1 => exact cR_ HO_5); (case side2 => exact (Kd.R_reads' HO_5.out).2.1); rintro e w15 ⟨v245, rfl, ho0, hb⟩; refine ⟨_, rfl, ?_⟩; have HO246 := aM_ (Kd.R_lower (Kd.R_new' ho0 (Kd.R_lt (rR_ HO_5))) (below_size hB_)); replace HO_5 := aM_ (Kd.R_elder' (rR_ HO_5) (Kd.R_base ho0) hb); replace HB := aM_ (below_step hB_ hb); (try clear hb); (try clear ho0); obtain ⟨Ao16, co16, eo16⟩ := Kd.R_slice HO246.out; subst eo16))
   go_loopg [9, 31] k1 (fun kq v9 v31 w' => ∃ (x9_2 : List Int) (x31_2 : Int), v31 = .int .i64 x31_2 ∧ Aside0 (impl_CountGlosses.l1 kq x5_1 t244 x9_2 t244 (t244.length : Int) x31_2 = some (r1, r2, r3)) ∧ Aside0 (kq ≤ k1) ∧ Aside0 (Kd.R Kd.string 9 w' w.heap.size (fun k_ => some k_ ≠ ((.slice Ao16 t244.length co16) : Value).ownBlock ∧ some k_ ≠ ((.slice Ao16 t244.length co16) : Value).ownBlock) (.slice Ao14 x5_1.length co14) x5_1) ∧ Aside0 (Kd.R Kd.string 9 w' w.heap.size (fun k_ => some k_ ≠ ((.slice Ao14 x5_1.length co14) : Value).ownBlock) (.slice Ao16 t244.length co16) t244) ∧ Aside0 (Kd.R (Kd.int .i64) 3 w' w.heap.size (fun _ => True) v9 x9_2) ∧ Aside0 (Kd.R Kd.string 9 w' w.heap.size (fun k_ => some k_ ≠ ((.slice Ao14 x5_1.length co14) : Value).ownBlock) (.slice Ao16 t244.length co16) t244) ∧ Aside0 (Below w.heap.size w w'))
   case atStart => exact ⟨(([] : List Int)), (0), z4_1_, H', ⟨Nat.le_refl _⟩, ⟨rM_ HO_5 (fun _ hk => ⟨hk.2, hk.2⟩)⟩, ⟨(rM_ HO246 (fun _ hk => hk.2))⟩, ⟨z4_2_⟩, ⟨(rM_ HO246 (fun _ hk => hk.2))⟩, ⟨hB_⟩⟩
   case round =>
    clear H'
    (try clear c5);(try clear c6);(try clear c6b0)
    obtain ⟨x9_2, x31_2, rfl, HA, HK2, HO_5, HO_8, HO_9, HO_29, HB⟩ := hrel
    cases gk with
    | zero => exact absurd HA.out (by simp [impl_CountGlosses.l1])
    | succ k2 =>
     have H := HA.out
     clear HA
     simp only [impl_CountGlosses.l1] at H
     replace H := iF_ H; obtain ⟨c17b0, H⟩ | ⟨c17b0, H⟩ := H
     ·simp only [Option.some.injEq, Prod.mk.injEq] at H
      obtain ⟨rfl, rfl, rfl⟩ := H
      go_wp2
      go_ret3
      exact ⟨_, _, rT_, by (with_reducible repeat (first | apply rA_ | apply rN_ | apply rD_)); exact Kd.R_mono HO_8.out (fun _ hk => trivial), (rR_ HO_9), hB_⟩
     replace H := ig_ H; obtain ⟨c18b0, H⟩ := H
     replace H := ig_ H; obtain ⟨c19b0, H⟩ := H
     replace H := ob_ H; obtain ⟨t249, A20, H⟩ := H; try dsimp only at H
     replace H := il_ H; obtain ⟨LMc21, H⟩ := H
     obtain ⟨y252, hy252⟩ : ∃ y_ : List Int, y_ = (x9_2 ++ [(t249.length : Int)]) := ⟨_, rfl⟩
     rw [← hy252] at H
     have Ny252 := Aside0.mk hy252; clear hy252
     have H' := Aside0.mk H
     clear H
     obtain ⟨⟨ad247, e247, hx247_0⟩, p247, q247⟩ := at2_ (Kd.at_string (Kd.R_reads' HO_29.out).2.2 x31_2); cases e247
     go_wp2_with (first | ((with_reducible refine gate_dst (N := 11) rfl ?_); refine bx_ 11 #[.string (⟨#[]⟩ : ByteArray)] 9 fun gb248 hg w22 hbox hb => ?_; have BK248 := aM_ (hbox); have GW248 := aM_ (gw_ w hg); have GE248 := aM_ (gw_ w hg); replace HO_5 := aM_ (Kd.R_below (Kd.R_elderB (rR_ HO_5) gb248 (Nat.le_of_eq hg.symm)) hb); replace HO_8 := aM_ (Kd.R_below (Kd.R_elderB (rR_ HO_8) gb248 (Nat.le_of_eq hg.symm)) hb); replace HO_9 := aM_ (Kd.R_below (rR_ HO_9) hb); replace HO_29 := aM_ (Kd.R_below (Kd.R_elderB (rR_ HO_29) gb248 (Nat.le_of_eq hg.symm)) hb); replace HB := aM_ (below_step hB_ hb); clear hb hbox hg; have hz23 := cf1_ BK248.out) | (refine gM_ (some 38) Try.func29 #[.slice Ao14 x5_1.length co14, .func (.func 30) #[] #[.pointer (some ⟨gb248, 0, none⟩)]] ?_; (with_reducible refine (impl_those_string_impl_CountGlosses_1.calls k2 _ _ x5_1 gb248 (rdOf ByteArray.empty t244 x31_2) t249 _ ?side1 ?side2 ?side3 A20.out).mono ?_); (case side1 => refine (Kd.R_reads' (e := 9) (base := w.heap.size) (ok := fun k_ => ((some k_ ≠ (.slice (some ad247) t244.length co16 : Value).ownBlock ∧ some k_ ≠ (.slice (some ad247) t244.length co16 : Value).ownBlock) ∧ k_ ≠ gb248)) (n := x5_1.length) (c := co14) ?_).2.2; exact z4_3_); (case side2 => exact (Kd.R_reads' HO_5.out).2.1); (case side3 => (with_reducible repeat (first | apply kN_ | apply kD_ | apply kA_)); refine blk_put (cs := #[.string (⟨#[]⟩ : ByteArray)]) ?_ 0 _ rfl; (with_reducible repeat (first | apply kN_ | apply kD_ | apply kA_)); exact BK248.out); rintro e w24 ⟨v250, rfl, ho0, hb⟩; refine ⟨_, rfl, ?_⟩; have HO251 := aM_ (Kd.R_lower (Kd.R_new' ho0 (Kd.R_lt (by (with_reducible repeat (first | apply rA_ | apply rN_ | apply rD_)); exact (Kd.R_mono (Kd.R_far (p := ⟨gb248, 0, none⟩) (Kd.R_types HO_9.out BK248.out (by decide)) (fun _ hk => hk.2) (.string (rdOf ByteArray.empty t244 x31_2))) (fun _ h_ => h_.1))))) (below_size hB_)); replace HO_5 := aM_ (Kd.R_below z4_3_ hb); replace HO_8 := aM_ (Kd.R_below (by (with_reducible repeat (first | apply rA_ | apply rN_ | apply rD_)); exact (Kd.R_mono (Kd.R_far (p := ⟨gb248, 0, none⟩) (Kd.R_mono HO_8.out (fun k_ hk => (⟨hk, hk.2⟩ : _ ∧ k_ ≠ gb248))) (fun _ hk => hk.2) (.string (rdOf ByteArray.empty t244 x31_2))) (fun _ h_ => h_.1))) hb); replace HO_9 := aM_ (Kd.R_elder' (by (with_reducible repeat (first | apply rA_ | apply rN_ | apply rD_)); exact (Kd.R_mono (Kd.R_far (p := ⟨gb248, 0, none⟩) (Kd.R_types HO_9.out BK248.out (by decide)) (fun _ hk => hk.2) (.string (rdOf ByteArray.empty t244 x31_2))) (fun _ h_ => h_.1))) (Kd.R_base ho0) hb); replace HO_29 := aM_ (Kd.R_below (by (with_reducible repeat (first | apply rA_ | apply rN_ | apply rD_)); exact (Kd.R_mono (Kd.R_far (p := ⟨gb248, 0, none⟩) (Kd.R_mono HO_29.out (fun k_ hk => (⟨hk, hk.2⟩ : _ ∧ k_ ≠ gb248))) (fun _ hk => hk.2) (.string (rdOf ByteArray.empty t244 x31_2))) (fun _ h_ => h_.1))) hb); replace BK248 := aM_ (blk_below (g := gb248) (o := .cells #[.string (rdOf ByteArray.empty t244 x31_2)] 9 (0, 0)) (by (with_reducible repeat (first | apply kN_ | apply kD_ | apply kA_)); refine blk_put (cs := #[.string (⟨#[]⟩ : ByteArray)]) ?_ 0 _ rfl; (with_reducible repeat (first | apply kN_ | apply kD_ | apply kA_)); exact BK248.out) hb); replace HB := aM_ (below_step hB_ hb); (try clear hb); (try clear hk); (try clear ho0); obtain ⟨Ao25, co25, eo25⟩ := Kd.R_slice HO251.out; subst eo25) | ((with_reducible refine gate_builtin (b := .append) (xs := #[.tmp 35, .tmp 40]) rfl ?_); at_builtin; refine Kd.R_append (Kd.int .i64) (w0 := w) w.heap.size rfl (.tmp 35) (.tmp 40) 26 3 (.int .i64 0) 8 rfl Try.underlying26 info3 rfl (by decide) (by omega) u9 x9_2 (t249.length : Int) [.int .i64 (t249.length : Int)] (fun k_ => some k_ ≠ (.slice Ao25 t249.length co25 : Value).ownBlock) (fun _ => False) rfl rfl ?aP (fun _ hk => hk.elim) ?aF ?aO ?aB ?aS ?aL ?_; (case aP => exact rfl); (case aB => exact hB_); (case aF => exact (fun k_ hk => Kd.fresh' (Kd.R_lt (rR_ HO251)) k_ hk)); (case aO => exact (rM_ HO_9 (fun _ hk => hk.2))); (case aS => exact (below_size hB_)); (case aL => have := LMc21.out; omega); intro v253 w26 ho hb hg hat; rw [← Ny252.out] at ho; have HO254 := aM_ (ho); replace HO_5 := aM_ (Kd.R_over' (rR_ HO_5) (Kd.R_typed (rR_ HO_9)) (by decide) hg); replace HO_8 := aM_ (Kd.R_over' (rR_ HO_8) (Kd.R_typed (rR_ HO_9)) (by decide) hg); replace HO_29 := aM_ (Kd.R_over' (rR_ HO_29) (Kd.R_typed (rR_ HO_9)) (by decide) hg); replace BK248 := aM_ (blk_grown (g := gb248) (kR_ BK248) hg (Kd.R_ne HO_9.out BK248.out (by decide))); replace HO251 := aM_ (Kd.R_after (ok := (fun _ => True)) (rR_ HO251) hg hat); replace HB := aM_ (hb); clear HO_9; clear ho hb hg hat))
     go_roundg k2
     case measure => have := HK1.out; have := HK2.out; omega
     case rel => exact ⟨(y252), (wrap64 (x31_2 + 1)), z4_1_, H', ⟨by have := HK1.out; have := HK2.out; omega⟩, ⟨rM_ HO_5 (fun _ hk => ⟨hk.1.1, hk.1.2⟩)⟩, ⟨rM_ HO_8 (fun _ hk => hk.1)⟩, ⟨rT1_ HO254⟩, ⟨rM_ HO_29 (fun _ hk => hk.1)⟩, ⟨hB_⟩⟩

/-! ### spec_l1In: function 66 -/
theorem spec_l1In.calls (a0 : Int) (a1 : Int) (a2 : Int) (r : Bool) (w : World) (h : spec_l1In.f a0 a1 a2 = some r) :
 Calls Try.prog 66 #[.int .i64 a0, .int .i64 a1, .int .i64 a2] w fun e w' => e = .returned (.bool r) ∧ Drawn0 w w' := by
 have H : (if a0 ≥ a1 then (some (decide (a0 ≤ a2))) else (some false)) = some r := h
 clear h
 by_cases c4 : a0 ≥ a1
 ·rw [if_pos c4] at H
  have c4b0 : decide (a1 ≤ a0) = true := decide_eq_true c4
  clear c4
  obtain rfl := Option.some.inj H
  go_enter Try.func66, Try.ntmps66
  go_wp2
  go_ret
  exact ⟨z4_1_, z4_4_⟩
 rw [if_neg c4] at H
 have c4b0 : decide (a1 ≤ a0) = false := decide_eq_false c4
 clear c4
 obtain rfl := Option.some.inj H
 go_enter Try.func66, Try.ntmps66
 go_wp2
 go_ret
 exact ⟨z4_1_, z4_4_⟩

/-! ### spec_tiFrame: function 42 -/
theorem spec_tiFrame.calls (a0 : Int) (r : Bool) (w : World) (h : spec_tiFrame.f a0 = some r) :
 Calls Try.prog 42 #[.int .i64 a0] w fun e w' => e = .returned (.bool r) ∧ Drawn0 w w' := by
 have H : ((spec_l1In.f a0 0 99999).bind fun t255 => (some t255)) = some r := h
 clear h
 replace H := ob_ H; obtain ⟨t255, A2, H⟩ := H; try dsimp only at H
 obtain rfl := Option.some.inj H
 go_enter Try.func42, Try.ntmps42
 go_wp2_with (first | (refine gM_ (some 4) Try.func66 #[.int .i64 a0, .int .i64 0, .int .i64 99999] ?_; (with_reducible refine (spec_l1In.calls a0 0 99999 t255 _ A2.out).mono ?_); rintro e w' ⟨rfl, ⟨nd, rfl⟩⟩; refine ⟨_, rfl, ?_⟩))
 go_ret
 exact ⟨z4_1_, z4_4_⟩

/-! ### spec_fsWord: function 52 -/
theorem spec_fsWord.calls (k : Nat) (a0 : ByteArray) (r : Bool) (w : World) (h : spec_fsWord.f k a0 = some r) :
 Calls Try.prog 52 #[.string a0] w fun e w' => e = .returned (.bool r) ∧ Drawn0 w w' := by
 have H : (spec_fsWord.l0 k a0 0) = some r := h
 clear h
 have H' := Aside0.mk H
 clear H
 go_enter Try.func52, Try.ntmps52
 go_wp2
 go_loopg [3] k (fun kq v3 w' => ∃ (x3_1 : Int), v3 = .int .i64 x3_1 ∧ Aside0 (spec_fsWord.l0 kq a0 x3_1 = some r) ∧ Aside0 (kq ≤ k) ∧ Drawn0 w w')
 case atStart => exact ⟨(0), z4_1_, H', ⟨Nat.le_refl _⟩, z4_4_⟩
 case round =>
  clear H'
  obtain ⟨x3_1, rfl, HA, HK1, ⟨m1, rfl⟩⟩ := hrel
  cases gk with
  | zero => exact absurd HA.out (by simp [spec_fsWord.l0])
  | succ k1 =>
   have H := HA.out
   clear HA
   simp only [spec_fsWord.l0] at H
   replace H := iF_ H; obtain ⟨c2b0, H⟩ | ⟨c2b0, H⟩ := H
   ·replace H := ob_ H; obtain ⟨t256, A8, H⟩ := H; try dsimp only at H
    obtain rfl := Option.some.inj H
    go_wp2_with (first | (refine gM_ (some 22) Try.func66 #[.int .i64 (a0.size : Int), .int .i64 1, .int .i64 8] ?_; (with_reducible refine (spec_l1In.calls (a0.size : Int) 1 8 t256 _ A8.out).mono ?_); rintro e w' ⟨rfl, ⟨nd, rfl⟩⟩; refine ⟨_, rfl, ?_⟩))
    go_ret
    exact ⟨z4_1_, z4_4_⟩
   replace H := ig_ H; obtain ⟨c3b0, H⟩ := H
   replace H := iT_ H; obtain ⟨c5b0, H⟩ | ⟨c5b0, H⟩ := H
   ·obtain rfl := Option.some.inj H
    have p4 : 0 ≤ (x3_1 : Int) := ode_
    have q4 : x3_1 < (a0.size : Int) := ode_
    have hx4 := bt_at a0 x3_1
    replace p4 := eq_true p4
    replace q4 := eq_true q4
    go_wp2
    go_ret
    exact ⟨z4_1_, z4_4_⟩
   by_cases c7 : (bt a0 x3_1) > 90
   ·rw [if_pos c7] at H
    have c7b0 : decide (90 < (bt a0 x3_1)) = true := decide_eq_true c7
    clear c7
    obtain rfl := Option.some.inj H
    have p4 : 0 ≤ (x3_1 : Int) := ode_
    have q4 : x3_1 < (a0.size : Int) := ode_
    have hx4 := bt_at a0 x3_1
    replace p4 := eq_true p4
    replace q4 := eq_true q4
    have p6 : 0 ≤ (x3_1 : Int) := ode_
    have q6 : x3_1 < (a0.size : Int) := ode_
    have hx6 := bt_at a0 x3_1
    replace p6 := eq_true p6
    replace q6 := eq_true q6
    go_wp2
    go_ret
    exact ⟨z4_1_, z4_4_⟩
   rw [if_neg c7] at H
   have c7b0 : decide (90 < (bt a0 x3_1)) = false := decide_eq_false c7
   clear c7
   have H' := Aside0.mk H
   clear H
   have p4 : 0 ≤ (x3_1 : Int) := ode_
   have q4 : x3_1 < (a0.size : Int) := ode_
   have hx4 := bt_at a0 x3_1
   replace p4 := eq_true p4
   replace q4 := eq_true q4
   have p6 : 0 ≤ (x3_1 : Int) := ode_
   have q6 : x3_1 < (a0.size : Int) := ode_
   have hx6 := bt_at a0 x3_1
   replace p6 := eq_true p6
   replace q6 := eq_true q6
   go_wp2
   go_roundg k1
   case measure => have := HK1.out; omega
   case rel => exact ⟨(wrap64 (x3_1 + 1)), z4_1_, H', ⟨by have := HK1.out; omega⟩, z4_4_⟩

/-! ### spec_tiNote: function 57 -/
theorem spec_tiNote.calls (k : Nat) (a0_0 : Int) (a0_1 : Int) (a0_2 : ByteArray) (r : Bool) (w : World) (h : spec_tiNote.f k a0_0 a0_1 a0_2 = some r) :
 Calls Try.prog 57 #[.agg #[.int .i64 a0_0, .int .i64 a0_1, .string a0_2]] w fun e w' => e = .returned (.bool r) ∧ Below w.heap.size w w' := by
 have hu50 := Try.underlying50
 have HB := Aside0.mk (Below.refl w.heap.size w)
 have H : ((spec_tiFrame.f a0_0).bind fun t258 => (if t258 = true then ((spec_tiFrame.f a0_1).bind fun t259 => (if t259 = true then (if a0_0 < a0_1 then ((spec_fsWord.f k a0_2).bind fun t260 => (some t260)) else (some false)) else (some false))) else (some false))) = some r := h
 clear h
 replace H := ob_ H; obtain ⟨t258, A2, H⟩ := H; try dsimp only at H
 by_cases c3 : t258 = true
 rotate_left
 ·replace c3 := Bool.eq_false_iff.mpr c3
  subst c3
  replace H := in_ H (show ¬ (false = true) by decide)
  obtain rfl := Option.some.inj H
  go_enter Try.func57, Try.ntmps57
  go_wp2_with (first | ((with_reducible refine gate_dst (N := 1) rfl ?_); refine bx_ 1 #[.int .i64 a0_0, .int .i64 a0_1, .string a0_2] 50 fun gb257 hg w14 hbox hb => ?_; have BK257 := aM_ (hbox); have GW257 := aM_ (gw_ w hg); have GE257 := aM_ (gw_ w hg); replace HB := aM_ (below_step hB_ hb); clear hb hbox hg; have hz15 := cf3_ BK257.out; clear BK257) | (refine gM_ (some 5) Try.func42 #[.int .i64 a0_0] ?_; (with_reducible refine (spec_tiFrame.calls a0_0 false _ A2.out).mono ?_); rintro e w' ⟨rfl, ⟨nd, rfl⟩⟩; refine ⟨_, rfl, ?_⟩))
  go_ret
  exact ⟨rT_, hB_⟩
 subst c3
 replace H := ip_ H rfl
 replace H := ob_ H; obtain ⟨t259, A4, H⟩ := H; try dsimp only at H
 by_cases c5 : t259 = true
 rotate_left
 ·replace c5 := Bool.eq_false_iff.mpr c5
  subst c5
  replace H := in_ H (show ¬ (false = true) by decide)
  obtain rfl := Option.some.inj H
  go_enter Try.func57, Try.ntmps57
  go_wp2_with (first | ((with_reducible refine gate_dst (N := 1) rfl ?_); refine bx_ 1 #[.int .i64 a0_0, .int .i64 a0_1, .string a0_2] 50 fun gb257 hg w12 hbox hb => ?_; have BK257 := aM_ (hbox); have GW257 := aM_ (gw_ w hg); have GE257 := aM_ (gw_ w hg); replace HB := aM_ (below_step hB_ hb); clear hb hbox hg; have hz13 := cf3_ BK257.out) | (refine gM_ (some 5) Try.func42 #[.int .i64 a0_0] ?_; (with_reducible refine (spec_tiFrame.calls a0_0 true _ A2.out).mono ?_); rintro e w' ⟨rfl, ⟨nd, rfl⟩⟩; refine ⟨_, rfl, ?_⟩; clear BK257) | (go_at_call 42; (with_reducible refine (spec_tiFrame.calls a0_1 false _ A4.out).mono ?_); rintro e w' ⟨rfl, ⟨nd, rfl⟩⟩))
  go_ret
  exact ⟨rT_, hB_⟩
 subst c5
 replace H := ip_ H rfl
 replace H := iF_ H; obtain ⟨c6b0, H⟩ | ⟨c6b0, H⟩ := H
 ·obtain rfl := Option.some.inj H
  go_enter Try.func57, Try.ntmps57
  go_wp2_with (first | ((with_reducible refine gate_dst (N := 1) rfl ?_); refine bx_ 1 #[.int .i64 a0_0, .int .i64 a0_1, .string a0_2] 50 fun gb257 hg w10 hbox hb => ?_; have BK257 := aM_ (hbox); have GW257 := aM_ (gw_ w hg); have GE257 := aM_ (gw_ w hg); replace HB := aM_ (below_step hB_ hb); clear hb hbox hg; have hz11 := cf3_ BK257.out) | (refine gM_ (some 5) Try.func42 #[.int .i64 a0_0] ?_; (with_reducible refine (spec_tiFrame.calls a0_0 true _ A2.out).mono ?_); rintro e w' ⟨rfl, ⟨nd, rfl⟩⟩; refine ⟨_, rfl, ?_⟩) | (go_at_call 42; (with_reducible refine (spec_tiFrame.calls a0_1 true _ A4.out).mono ?_); rintro e w' ⟨rfl, ⟨nd, rfl⟩⟩))
  go_ret
  exact ⟨rT_, hB_⟩
 replace H := ob_ H; obtain ⟨t260, A7, H⟩ := H; try dsimp only at H
 obtain rfl := Option.some.inj H
 go_enter Try.func57, Try.ntmps57
 go_wp2_with (first | ((with_reducible refine gate_dst (N := 1) rfl ?_); refine bx_ 1 #[.int .i64 a0_0, .int .i64 a0_1, .string a0_2] 50 fun gb257 hg w8 hbox hb => ?_; have BK257 := aM_ (hbox); have GW257 := aM_ (gw_ w hg); have GE257 := aM_ (gw_ w hg); replace HB := aM_ (below_step hB_ hb); clear hb hbox hg; have hz9 := cf3_ BK257.out) | (refine gM_ (some 5) Try.func42 #[.int .i64 a0_0] ?_; (with_reducible refine (spec_tiFrame.calls a0_0 true _ A2.out).mono ?_); rintro e w' ⟨rfl, ⟨nd, rfl⟩⟩; refine ⟨_, rfl, ?_⟩) | (go_at_call 42; (with_reducible refine (spec_tiFrame.calls a0_1 true _ A4.out).mono ?_); rintro e w' ⟨rfl, ⟨nd, rfl⟩⟩; clear BK257) | (go_at_call 52; (with_reducible refine (spec_fsWord.calls k a0_2 t260 _ A7.out).mono ?_); rintro e w' ⟨rfl, ⟨nd, rfl⟩⟩))
 go_ret
 exact ⟨rT_, hB_⟩

end Go.Proofs.Ytbfkpgmdbafmhaa.PFnTierCounts
