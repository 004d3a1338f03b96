/- Printed for this claim: functions of the program as Lean functions, and that the calls answer so. -/
import Derived.Test.YtbfkpgmdbafmhaaPFnTierCountsx0
import Derived.Test.YtbfkpgmdbafmhaaPFnTierCountsxD0
import Derived.Test.YtbfkpgmdbafmhaaPFnTierCountsxD1
namespace Go.Proofs.Ytbfkpgmdbafmhaa.PFnTierCounts
open Go.RowKit Go.Proofs.YtbfkpgmdbafmhaaW.PrintWords Go.Proofs.YtbfkpgmdbafmhaaW.PrintLast Go.Proofs.YtbfkpgmdbafmhaaW.PrintMore
theorem z1_0_ {p : Prop} (h : p := by repeat (first | (with_reducible first | exact HI0.out | apply IsS62.alloc | apply IsS62.drewN | apply IsS62.drew | apply IsS62.set_1 | apply IsS62.set_2) | exact HI0.out)) : p := h
theorem z1_1_ {p : Prop} (h : p := by repeat (first | (with_reducible first | exact HB.out | apply lA_ | apply lN_ | apply lD_ | refine below_set ?_ (IsS62.ge HI0.out)) | exact HB.out)) : p := h
theorem z1_2_ {p : Prop} (h : p := by repeat (first | (with_reducible first | exact HK.out | apply KeepBut.set_ | apply keep_drewN | apply keep_drew | apply keep_alloc) | exact HK.out)) : p := h
theorem z1_3_ {p : Prop} (h : p := by repeat (first | (with_reducible first | exact HK.out | apply KeepBut.set_ | apply keep_drewN | apply keep_drew | apply keep_alloc | refine keep_far ?_ GW119.out _) | exact HK.out)) : p := h
theorem z1_4_ {p : Prop} (h : p := by repeat (first | (with_reducible first | exact HB.out | apply lA_ | apply lN_ | apply lD_ | refine below_set ?_ (IsS62.ge HI0.out) | refine below_set ?_ GE119.out) | exact HB.out)) : p := h
theorem z1_5_ {p : Prop} (h : p := by repeat (first | (with_reducible first | exact HI0.out | apply IsS62.alloc | apply IsS62.drewN | apply IsS62.drew | apply IsS62.set_1 | apply IsS62.set_2 | refine IsS62.far ?_ (Aside0.out (by assumption)) _) | exact HI0.out)) : p := h
theorem z1_6_ {p : Prop} (h : p := by assumption) : p := h
theorem z1_7_ {p : Prop} (h : p := by repeat (first | (with_reducible first | exact HB.out | apply lA_ | apply lN_ | apply lD_ | refine below_set ?_ (IsS62.ge HI0.out) | refine below_set ?_ GE119.out | refine below_set ?_ GE132.out) | exact HB.out)) : p := h
theorem z1_8_ {p : Prop} (h : p := by repeat (first | (with_reducible first | exact HK.out | apply KeepBut.set_ | apply keep_drewN | apply keep_drew | apply keep_alloc | refine keep_far ?_ GW119.out _ | refine keep_far ?_ GW132.out _) | exact HK.out)) : p := h
theorem z1_9_ {p : Prop} (h : p := by first | rfl | (simp; done) | (simp [*]; done)) : p := h
theorem z1_10_ {p : Prop} (h : p := by repeat (first | exact Drawn0.refl _ | apply Drawn0.step)) : p := h
theorem z1_11_ {p : Prop} (h : p := by first | exact Kd.R_nil _ _ _ _ _ | exact Kd.N_nil _ _ _ _ _ | exact Kd.V_nil _ _ _ _ _ | exact Kd.Q_nil _ _ _ _ _ | exact Kd.S_nil _ _ _ _ _) : p := h
theorem z1_12_ {p : Prop} (h : p := by (with_reducible repeat (first | apply kN_ | apply kD_ | apply kA_)); refine blk_put (cs := #[.int .i64 t166, .int .i64 t167, .string (⟨#[]⟩ : ByteArray)]) ?_ 2 _ rfl; (with_reducible repeat (first | apply kN_ | apply kD_ | apply kA_)); refine blk_put (cs := #[.int .i64 t166, .int .i64 0, .string (⟨#[]⟩ : ByteArray)]) ?_ 1 _ rfl; (with_reducible repeat (first | apply kN_ | apply kD_ | apply kA_)); refine blk_put (cs := #[.int .i64 0, .int .i64 0, .string (⟨#[]⟩ : ByteArray)]) ?_ 0 _ rfl; (with_reducible repeat (first | apply kN_ | apply kD_ | apply kA_)); exact BK171.out) : p := h
theorem z1_13_ {p : Prop} (h : p := by repeat (first | (with_reducible first | exact HK.out | apply KeepBut.set_ | apply keep_drewN | apply keep_drew | apply keep_alloc | refine keep_far ?_ GW171.out _) | exact HK.out)) : p := h
theorem z1_14_ {p : Prop} (h : p := by repeat (first | (with_reducible first | exact HB.out | apply lA_ | apply lN_ | apply lD_ | refine below_set ?_ (IsS62.ge HI0.out) | refine below_set ?_ GE171.out) | exact HB.out)) : p := h
theorem z1_15_ {p : Prop} (h : p := by (with_reducible repeat (first | apply kN_ | apply kD_ | apply kA_)); refine blk_put (cs := #[.int .i64 t166, .int .i64 t167, .string t168]) ?_ 2 _ rfl; (with_reducible repeat (first | apply kN_ | apply kD_ | apply kA_)); exact BK171.out) : p := h
theorem z1_16_ {p : Prop} (h : p := by repeat (first | (with_reducible first | exact HB.out | apply lA_ | apply lN_ | apply lD_ | refine below_set ?_ (IsS62.ge HI198.out)) | exact HB.out)) : p := h
set_option maxHeartbeats 8000000
set_option maxRecDepth 100000
attribute [local go_sem] max2_int min2_int max_two min_two max_three min_three max_four min_four isSome_setCell   -- for this text's walks alone
set_option linter.unusedVariables false
set_option linter.unusedSimpArgs false

/-- A state of type 62 at block g of W; what its slices lead to came in by w0. -/
def IsS62 (w0 W : World) (g : Nat) (f0 : List Int) (f1 : Int) (f2 : Int) : Prop := ∃ A0 c0, W.heap[g]? = some (.cells #[.slice A0 f0.length c0, .int .i64 f1, .int .u64 f2] 62 (0, 0)) ∧ w0.heap.size ≤ g ∧ Kd.C (Kd.int .u8) w0 A0 f0.length f0
theorem IsS62.grown {w0 W : World} {g : Nat} {f0 : List Int} {f1 : Int} {f2 : Int} {W1 : World} {row : Option Nat} (h : IsS62 w0 W g f0 f1 f2) (hw : W.grownBy W1 row) (hne : some g ≠ row) : IsS62 w0 W1 g f0 f1 f2 := by
 obtain ⟨A0, c0, hb, hg, hr0⟩ := h
 exact ⟨A0, c0, blk_grown hb hw hne, hg, hr0⟩
theorem IsS62.own_neN {w0 W : World} {g : Nat} {f0 : List Int} {f1 : Int} {f2 : Int} {α : Type} {d : Kd α} {e : Nat} {base : Nat} {ok : Nat → Prop} {v : Value} {xs : List α} (h : IsS62 w0 W g f0 f1 f2) (ho : Kd.N d e W base ok v xs) (ht : e ≠ 62) : some g ≠ v.ownBlock := by
 obtain ⟨A0, c0, hb, hg, hr0⟩ := h
 exact Kd.N_ne ho hb ht
theorem IsS62.fresh {w0 W : World} {g : Nat} {f0 : List Int} {f1 : Int} {f2 : Int} (h : IsS62 w0 W g f0 f1 f2) : ∀ k, W.heap.size ≤ k → k ≠ g := by
 obtain ⟨A0, c0, hb, hg, hr0⟩ := h
 exact Kd.freshB hb
theorem IsS62.kept {w0 W : World} {g : Nat} {f0 : List Int} {f1 : Int} {f2 : Int} {W1 : World} {S : Nat → Prop} (h : IsS62 w0 W g f0 f1 f2) (hk : Kept W W1 S) (hne : ¬ S g) : IsS62 w0 W1 g f0 f1 f2 := by
 obtain ⟨A0, c0, hb, hg, hr0⟩ := h
 exact ⟨A0, c0, blk_kept hb hk hne, hg, hr0⟩
theorem IsS62.below {w0 W : World} {g : Nat} {f0 : List Int} {f1 : Int} {f2 : Int} {W1 : World} (h : IsS62 w0 W g f0 f1 f2) (hw : Below W.heap.size W W1) : IsS62 w0 W1 g f0 f1 f2 := h.grown (grown_of_below hw none) (by simp)
theorem IsS62.alloc {w0 W : World} {g : Nat} {f0 : List Int} {f1 : Int} {f2 : Int} (h : IsS62 w0 W g f0 f1 f2) (o : Obj) : IsS62 w0 (W.alloc o) g f0 f1 f2 := h.below (below_alloc (Below.refl _ _) o)
theorem IsS62.drewN {w0 W : World} {g : Nat} {f0 : List Int} {f1 : Int} {f2 : Int} (h : IsS62 w0 W g f0 f1 f2) (m : Nat) : IsS62 w0 (W.drewN m) g f0 f1 f2 := h
theorem IsS62.drew {w0 W : World} {g : Nat} {f0 : List Int} {f1 : Int} {f2 : Int} (h : IsS62 w0 W g f0 f1 f2) : IsS62 w0 W.drew g f0 f1 f2 := h
theorem IsS62.at_ {w0 W : World} {g : Nat} {f0 : List Int} {f1 : Int} {f2 : Int} {w' : World} {m : Nat} (hq : W.drewN m = w') (h : IsS62 w0 W g f0 f1 f2) : IsS62 w0 w' g f0 f1 f2 := by subst hq; exact IsS62.drewN h m
theorem IsS62.apart {w0 W : World} {g : Nat} {f0 : List Int} {f1 : Int} {f2 : Int} {α : Type} {d : Kd α} {e : Nat} {base : Nat} {ok : Nat → Prop} {v : Value} {xs : List α} (h : IsS62 w0 W g f0 f1 f2) (ho : d.R e W base ok v xs) (ht : ∀ q, q ∈ e :: d.E → q ≠ 62) : d.R e W base (fun k => ok k ∧ k ≠ g) v xs := by
 obtain ⟨A0, c0, hb, hg, hr0⟩ := h
 exact Kd.R_types ho hb ht
theorem IsS62.own_ne {w0 W : World} {g : Nat} {f0 : List Int} {f1 : Int} {f2 : Int} {α : Type} {d : Kd α} {e : Nat} {base : Nat} {ok : Nat → Prop} {v : Value} {xs : List α} (h : IsS62 w0 W g f0 f1 f2) (ho : d.R e W base ok v xs) (ht : e ≠ 62) : some g ≠ v.ownBlock := by
 obtain ⟨A0, c0, hb, hg, hr0⟩ := h
 exact Kd.R_ne ho hb ht
theorem IsS62.apartQ {w0 W : World} {g : Nat} {f0 : List Int} {f1 : Int} {f2 : Int} {α : Type} {d : Kd α} {e : Nat} {base : Nat} {ok : Nat → Prop} {v : Value} {xs : List α} (h : IsS62 w0 W g f0 f1 f2) (ho : d.Q e W base ok v xs) (ht : ∀ q, q ∈ e :: d.E → q ≠ 62) : d.Q e W base (fun k => ok k ∧ k ≠ g) v xs := by
 obtain ⟨A0, c0, hb, hg, hr0⟩ := h
 exact Kd.Q_types ho hb ht
theorem IsS62.own_neQ {w0 W : World} {g : Nat} {f0 : List Int} {f1 : Int} {f2 : Int} {α : Type} {d : Kd α} {e : Nat} {base : Nat} {ok : Nat → Prop} {v : Value} {xs : List α} (h : IsS62 w0 W g f0 f1 f2) (ho : d.Q e W base ok v xs) (ht : e ≠ 62) : some g ≠ v.ownBlock := by
 obtain ⟨A0, c0, hb, hg, hr0⟩ := h
 exact Kd.Q_ne ho hb ht
theorem IsS62.apartS {w0 W : World} {g : Nat} {f0 : List Int} {f1 : Int} {f2 : Int} {α : Type} {d : Kd α} {e : Nat} {base : Nat} {ok : Nat → Prop} {v : Value} {xs : List α} (h : IsS62 w0 W g f0 f1 f2) (ho : d.S e W base ok v xs) (ht : ∀ q, q ∈ e :: d.E → q ≠ 62) : d.S e W base (fun k => ok k ∧ k ≠ g) v xs := by
 obtain ⟨A0, c0, hb, hg, hr0⟩ := h
 exact Kd.S_types ho hb ht
theorem IsS62.own_neS {w0 W : World} {g : Nat} {f0 : List Int} {f1 : Int} {f2 : Int} {α : Type} {d : Kd α} {e : Nat} {base : Nat} {ok : Nat → Prop} {v : Value} {xs : List α} (h : IsS62 w0 W g f0 f1 f2) (ho : d.S e W base ok v xs) (ht : e ≠ 62) : some g ≠ v.ownBlock := by
 obtain ⟨A0, c0, hb, hg, hr0⟩ := h
 exact Kd.S_ne ho hb ht
theorem IsS62.lt {w0 W : World} {g : Nat} {f0 : List Int} {f1 : Int} {f2 : Int} (h : IsS62 w0 W g f0 f1 f2) : g < W.heap.size := by
 obtain ⟨A0, c0, hb, hg, hr0⟩ := h
 exact blk_lt hb
theorem IsS62.ge {w0 W : World} {g : Nat} {f0 : List Int} {f1 : Int} {f2 : Int} (h : IsS62 w0 W g f0 f1 f2) : w0.heap.size ≤ g := by
 obtain ⟨A0, c0, hb, hg, hr0⟩ := h
 exact hg
theorem IsS62.ne_blk {w0 W : World} {g : Nat} {f0 : List Int} {f1 : Int} {f2 : Int} {a : Nat} {cs : Array Value} {t : TypeId} {fr : Nat × Nat} (h : IsS62 w0 W g f0 f1 f2) (hb2 : W.heap[a]? = some (.cells cs t fr)) (ht : t ≠ 62) : g ≠ a := by
 obtain ⟨A0, c0, hb, hg, hr0⟩ := h
 rintro rfl
 rw [hb] at hb2
 injection hb2 with hb2
 injection hb2 with _ ht2
 exact ht ht2.symm
theorem IsS62.far {w0 W : World} {g : Nat} {f0 : List Int} {f1 : Int} {f2 : Int} {p : Addr} (h : IsS62 w0 W g f0 f1 f2) (hne : g ≠ p.block) (u : Value) : IsS62 w0 (W.setCell p u) g f0 f1 f2 := by
 obtain ⟨A0, c0, hb, hg, hr0⟩ := h
 exact ⟨A0, c0, blk_far hb hne u, hg, hr0⟩
theorem cellS62_0 {W : World} {g : Nat} {A0 : Option Addr} {c0 : Nat} {f0 : List Int} {f1 : Int} {f2 : Int} (h : W.heap[g]? = some (.cells #[.slice A0 f0.length c0, .int .i64 f1, .int .u64 f2] 62 (0, 0))) : W.cell? ⟨g, 0, none⟩ = some (.slice A0 f0.length c0) := (blk_cell h 0).trans rfl
theorem cellS62_1 {W : World} {g : Nat} {A0 : Option Addr} {c0 : Nat} {f0 : List Int} {f1 : Int} {f2 : Int} (h : W.heap[g]? = some (.cells #[.slice A0 f0.length c0, .int .i64 f1, .int .u64 f2] 62 (0, 0))) : W.cell? ⟨g, 1, none⟩ = some (.int .i64 f1) := (blk_cell h 1).trans rfl
theorem IsS62.set_1 {w0 W : World} {g : Nat} {f0 : List Int} {f1 : Int} {f2 : Int} (h : IsS62 w0 W g f0 f1 f2) (x : Int) : IsS62 w0 (W.setCell ⟨g, 1, none⟩ (.int .i64 x)) g f0 x f2 := by
 obtain ⟨A0, c0, hb, hg, hr0⟩ := h
 exact ⟨A0, c0, by simpa using blk_set hb 1 (.int .i64 x), hg, hr0⟩
theorem cellS62_2 {W : World} {g : Nat} {A0 : Option Addr} {c0 : Nat} {f0 : List Int} {f1 : Int} {f2 : Int} (h : W.heap[g]? = some (.cells #[.slice A0 f0.length c0, .int .i64 f1, .int .u64 f2] 62 (0, 0))) : W.cell? ⟨g, 2, none⟩ = some (.int .u64 f2) := (blk_cell h 2).trans rfl
theorem IsS62.set_2 {w0 W : World} {g : Nat} {f0 : List Int} {f1 : Int} {f2 : Int} (h : IsS62 w0 W g f0 f1 f2) (x : Int) : IsS62 w0 (W.setCell ⟨g, 2, none⟩ (.int .u64 x)) g f0 f1 x := by
 obtain ⟨A0, c0, hb, hg, hr0⟩ := h
 exact ⟨A0, c0, by simpa using blk_set hb 2 (.int .u64 x), hg, hr0⟩
theorem IsS62.new (w0 W : World) (A0 : Option Addr) (c0 : Nat) (f0 : List Int) (f1 : Int) (f2 : Int) (hB : Below w0.heap.size w0 W) (hr0 : Kd.C (Kd.int .u8) w0 A0 f0.length f0) : IsS62 w0 (W.alloc (.cells #[.slice A0 f0.length c0, .int .i64 f1, .int .u64 f2] 62)) W.heap.size f0 f1 f2 := ⟨A0, c0, by simpa using heap_alloc_new W _, hB.size, hr0⟩

/-! ### spec_l1Cur_next: function 70 -/
theorem spec_l1Cur_next.calls (g : Nat) (s0_0 : List Int) (s0_1 : Int) (s0_2 : Int) (r1 : Int) (r2 : Int) (r3 : Int) (w0 w : World) (hI : IsS62 w0 w g s0_0 s0_1 s0_2) (hB : Below w0.heap.size w0 w) (h : spec_l1Cur_next.f s0_0 s0_1 s0_2 = some (r1, r2, r3)) :
 Calls Try.prog 70 #[.pointer (some ⟨g, 0, none⟩)] w fun e w' => e = .returned (.int .i64 r1) ∧ IsS62 w0 w' g s0_0 r2 r3 ∧ Below w0.heap.size w0 w' ∧ KeepBut w w' g none := by
 have HI0 := Aside0.mk hI
 have HK := Aside0.mk (KeepBut.refl w g none)
 have HL := Aside0.mk hB.size
 clear hI
 have HW0 := Aside0.mk hB.size
 have HB := Aside0.mk hB
 clear hB
 have H : (if s0_1 < (s0_0.length : Int) then (if 0 ≤ s0_1 then (if (wrap64 (s0_1 + 1)) ≤ (s0_0.length : Int) then (some (wrap64 (rd s0_0 s0_1), wrap64 (s0_1 + 1), IntKind.u64.wrap ((IntKind.u64.wrap ((IntKind.u64.wrap (s0_2 * 6364136223846793005)) + (IntKind.u64.wrap (wrap64 (rd s0_0 s0_1))))) + 1442695040888963407))) else (some (wrap64 (Go.bits .and .u64 ((IntKind.u64.wrap ((IntKind.u64.wrap ((IntKind.u64.wrap (s0_2 * 6364136223846793005)) + (IntKind.u64.wrap (wrap64 (rd s0_0 s0_1))))) + 1442695040888963407)) / 1099511627776) 255), wrap64 (s0_1 + 1), IntKind.u64.wrap ((IntKind.u64.wrap ((IntKind.u64.wrap (s0_2 * 6364136223846793005)) + (IntKind.u64.wrap (wrap64 (rd s0_0 s0_1))))) + 1442695040888963407)))) else (none)) else (if (wrap64 (s0_1 + 1)) ≤ (s0_0.length : Int) then (some (0, wrap64 (s0_1 + 1), IntKind.u64.wrap ((IntKind.u64.wrap ((IntKind.u64.wrap (s0_2 * 6364136223846793005)))) + 1442695040888963407))) else (some (wrap64 (Go.bits .and .u64 ((IntKind.u64.wrap ((IntKind.u64.wrap ((IntKind.u64.wrap (s0_2 * 6364136223846793005)))) + 1442695040888963407)) / 1099511627776) 255), wrap64 (s0_1 + 1), IntKind.u64.wrap ((IntKind.u64.wrap ((IntKind.u64.wrap (s0_2 * 6364136223846793005)))) + 1442695040888963407))))) = some (r1, r2, r3) := h
 clear h
 replace H := iF_ H; obtain ⟨c2b0, H⟩ | ⟨c2b0, H⟩ := H
 ·replace H := iT_ H; obtain ⟨c7b0, H⟩ | ⟨c7b0, H⟩ := H
  ·simp only [Option.some.injEq, Prod.mk.injEq] at H
   obtain ⟨rfl, rfl, rfl⟩ := H
   obtain ⟨ASz8_0, cSz8_0, HGz8, hgz8, HSz8_0⟩ := HI0.out
   have hcz8_0 := cellS62_0 HGz8
   have hcz8_1 := cellS62_1 HGz8
   have hcz8_2 := cellS62_2 HGz8
   have hfz8_1 := blk_frozen HGz8 1
   have hfz8_2 := blk_frozen HGz8 2
   clear HGz8 hgz8
   go_enter Try.func70, Try.ntmps70
   go_wp2
   repeat (go_quiet (fail); try go_wp2)
   go_ret
   exact ⟨rT_, z1_0_, z1_1_, z1_2_⟩
  simp only [Option.some.injEq, Prod.mk.injEq] at H
  obtain ⟨rfl, rfl, rfl⟩ := H
  obtain ⟨ASz9_0, cSz9_0, HGz9, hgz9, HSz9_0⟩ := HI0.out
  have hcz9_0 := cellS62_0 HGz9
  have hcz9_1 := cellS62_1 HGz9
  have hcz9_2 := cellS62_2 HGz9
  have hfz9_1 := blk_frozen HGz9 1
  have hfz9_2 := blk_frozen HGz9 2
  clear HGz9 hgz9
  go_enter Try.func70, Try.ntmps70
  go_wp2
  repeat (go_quiet (fail); try go_wp2)
  go_ret
  exact ⟨rT_, z1_0_, z1_1_, z1_2_⟩
 replace H := ig_ H; obtain ⟨c3b0, H⟩ := H
 replace H := iT_ H; obtain ⟨c4b0, H⟩ | ⟨c4b0, H⟩ := H
 ·simp only [Option.some.injEq, Prod.mk.injEq] at H
  obtain ⟨rfl, rfl, rfl⟩ := H
  obtain ⟨ASz5_0, cSz5_0, HGz5, hgz5, HSz5_0⟩ := HI0.out
  have hcz5_0 := cellS62_0 HGz5
  have hcz5_1 := cellS62_1 HGz5
  have hcz5_2 := cellS62_2 HGz5
  have hfz5_1 := blk_frozen HGz5 1
  have hfz5_2 := blk_frozen HGz5 2
  clear HGz5 hgz5
  have p101 : 0 ≤ (s0_1 : Int) := ode_
  have q101 : s0_1 < (s0_0.length : Int) := ode_
  obtain ⟨ad101, e101, hx101_0⟩ := Kd.at_int HSz5_0 s0_1 p101 q101
  cases e101
  replace hx101_0 := pw_cell_below HB.out hx101_0
  replace p101 := eq_true p101
  replace q101 := eq_true q101
  go_enter Try.func70, Try.ntmps70
  go_wp2
  repeat (go_quiet (fail); try go_wp2)
  go_ret
  exact ⟨rT_, z1_0_, z1_1_, z1_2_⟩
 simp only [Option.some.injEq, Prod.mk.injEq] at H
 obtain ⟨rfl, rfl, rfl⟩ := H
 obtain ⟨ASz6_0, cSz6_0, HGz6, hgz6, HSz6_0⟩ := HI0.out
 have hcz6_0 := cellS62_0 HGz6
 have hcz6_1 := cellS62_1 HGz6
 have hcz6_2 := cellS62_2 HGz6
 have hfz6_1 := blk_frozen HGz6 1
 have hfz6_2 := blk_frozen HGz6 2
 clear HGz6 hgz6
 have p101 : 0 ≤ (s0_1 : Int) := ode_
 have q101 : s0_1 < (s0_0.length : Int) := ode_
 obtain ⟨ad101, e101, hx101_0⟩ := Kd.at_int HSz6_0 s0_1 p101 q101
 cases e101
 replace hx101_0 := pw_cell_below HB.out hx101_0
 replace p101 := eq_true p101
 replace q101 := eq_true q101
 go_enter Try.func70, Try.ntmps70
 go_wp2
 repeat (go_quiet (fail); try go_wp2)
 go_ret
 exact ⟨rT_, z1_0_, z1_1_, z1_2_⟩

/-! ### spec_l1Cur_pick: function 58 -/
theorem spec_l1Cur_pick.calls (g : Nat) (s0_0 : List Int) (s0_1 : Int) (s0_2 : Int) (a1 : Int) (r1 : Int) (r2 : Int) (r3 : Int) (w0 w : World) (hI : IsS62 w0 w g s0_0 s0_1 s0_2) (hB : Below w0.heap.size w0 w) (h : spec_l1Cur_pick.f s0_0 s0_1 s0_2 a1 = some (r1, r2, r3)) :
 Calls Try.prog 58 #[.pointer (some ⟨g, 0, none⟩), .int .i64 a1] w fun e w' => e = .returned (.int .i64 r1) ∧ IsS62 w0 w' g s0_0 r2 r3 ∧ Below w0.heap.size w0 w' ∧ KeepBut w w' g none := by
 have HI0 := Aside0.mk hI
 have HK := Aside0.mk (KeepBut.refl w g none)
 have HL := Aside0.mk hB.size
 clear hI
 have HW0 := Aside0.mk hB.size
 have HB := Aside0.mk hB
 clear hB
 have H : (if a1 ≤ 1 then (some (0, s0_1, s0_2)) else ((spec_l1Cur_next.f s0_0 s0_1 s0_2).bind fun bt102 => (if a1 > 200 then ((spec_l1Cur_next.f s0_0 bt102.2.1 bt102.2.2).bind fun bt105 => (if a1 = 0 then (none) else (some (Int.tmod (wrap64 ((wrap64 (bt102.1 * 256)) + bt105.1)) a1, bt105.2.1, bt105.2.2)))) else (if a1 = 0 then (none) else (some (Int.tmod bt102.1 a1, bt102.2.1, bt102.2.2)))))) = some (r1, r2, r3) := h
 clear h
 replace H := iT_ H; obtain ⟨c3b0, H⟩ | ⟨c3b0, H⟩ := H
 ·simp only [Option.some.injEq, Prod.mk.injEq] at H
  obtain ⟨rfl, rfl, rfl⟩ := H
  go_enter Try.func58, Try.ntmps58
  go_wp2
  go_ret
  exact ⟨rT_, z1_0_, z1_1_, z1_2_⟩
 replace H := ob_ H; obtain ⟨⟨t102, t103, t104⟩, A4, H⟩ := H; try dsimp only at H
 have HC5 := Aside0.mk H
 clear H
 go_enter Try.func58, Try.ntmps58
 go_upto_if 11 with (first | (refine gM_ (some 9) Try.func70 #[.pointer (some ⟨g, 0, none⟩)] ?_; (with_reducible refine (spec_l1Cur_next.calls g s0_0 s0_1 s0_2 t102 t103 t104 w0 _ ?side1 ?side2 A4.out).mono ?_); (case side1 => exact z1_0_); (case side2 => exact z1_1_); rintro e w6 ⟨rfl, hi, hb, hk⟩; refine ⟨_, rfl, ?_⟩; replace HK := aM_ (KeepBut.trans z1_2_ hk (.inl rfl)); replace HB := aM_ (hb); replace HI0 := aM_ (hi); (try clear hb); (try clear hk); (try clear hi)))
 (try simp only [Act.put, List.setIfInBounds_toArray, List.set_cons_zero, List.set_cons_succ])
 have H := HC5.out
 clear HC5
 by_cases c7 : a1 > 200
 rotate_left
 ·rw [if_neg c7] at H
  have c7b0 : decide (200 < a1) = false := decide_eq_false c7
  clear c7
  (first | rw [c7b0] | (simp only [i64_w, i32_w]; rw [c7b0]) | skip)
  by_cases c11 : a1 = 0
  ·rw [if_pos c11] at H
   exact absurd H (by simp)
  rw [if_neg c11] at H
  have c11b0 : (a1 == 0) = false := beq_eq_false_iff_ne.mpr c11
  have c11b1 : (a1 != 0) = true := bne_iff_ne.mpr c11
  simp only [Option.some.injEq, Prod.mk.injEq] at H
  obtain ⟨rfl, rfl, rfl⟩ := H
  go_wp2
  go_ret
  exact ⟨rT_, z1_0_, z1_1_, z1_2_⟩
 rw [if_pos c7] at H
 have c7b0 : decide (200 < a1) = true := decide_eq_true c7
 clear c7
 (first | rw [c7b0] | (simp only [i64_w, i32_w]; rw [c7b0]) | skip)
 replace H := ob_ H; obtain ⟨⟨t105, t106, t107⟩, A8, H⟩ := H; try dsimp only at H
 by_cases c9 : a1 = 0
 ·rw [if_pos c9] at H
  exact absurd H (by simp)
 rw [if_neg c9] at H
 have c9b0 : (a1 == 0) = false := beq_eq_false_iff_ne.mpr c9
 have c9b1 : (a1 != 0) = true := bne_iff_ne.mpr c9
 simp only [Option.some.injEq, Prod.mk.injEq] at H
 obtain ⟨rfl, rfl, rfl⟩ := H
 go_wp2_with (first | (refine gM_ (some 15) Try.func70 #[.pointer (some ⟨g, 0, none⟩)] ?_; (with_reducible refine (spec_l1Cur_next.calls g s0_0 t103 t104 t105 t106 t107 w0 _ ?side1 ?side2 A8.out).mono ?_); (case side1 => exact z1_0_); (case side2 => exact z1_1_); rintro e w10 ⟨rfl, hi, hb, hk⟩; refine ⟨_, rfl, ?_⟩; replace HK := aM_ (KeepBut.trans z1_2_ hk (.inl rfl)); replace HB := aM_ (hb); replace HI0 := aM_ (hi); (try clear hb); (try clear hk); (try clear hi)))
 go_ret
 exact ⟨rT_, z1_0_, z1_1_, z1_2_⟩

/-! ### spec_l1Cur_among: function 47 -/
theorem spec_l1Cur_among.calls (g : Nat) (s0_0 : List Int) (s0_1 : Int) (s0_2 : Int) (A1 : Option Addr) (c1 : Nat) (l1 : List Int) (r1 : Int) (r2 : Int) (r3 : Int) (w0 w : World) (hI : IsS62 w0 w g s0_0 s0_1 s0_2) (hB : Below w0.heap.size w0 w) (hr1 : Kd.C (Kd.int .i64) w A1 l1.length l1) (hc1 : l1.length ≤ c1) (hf1 : ∀ ad, A1 = some ad → 0 < l1.length → ad.block ≠ g) (h : spec_l1Cur_among.f s0_0 s0_1 s0_2 l1 = some (r1, r2, r3)) :
 Calls Try.prog 47 #[.pointer (some ⟨g, 0, none⟩), .slice A1 l1.length c1] w fun e w' => e = .returned (.int .i64 r1) ∧ IsS62 w0 w' g s0_0 r2 r3 ∧ Below w0.heap.size w0 w' ∧ KeepBut w w' g none := by
 have HR1 := Aside0.mk hr1
 have HC1 := Aside0.mk hc1
 clear hr1 hc1
 have HI0 := Aside0.mk hI
 have HK := Aside0.mk (KeepBut.refl w g none)
 have HL := Aside0.mk hB.size
 clear hI
 have HW0 := Aside0.mk hB.size
 have HB := Aside0.mk hB
 clear hB
 have H : ((spec_l1Cur_pick.f s0_0 s0_1 s0_2 (l1.length : Int)).bind fun bt108 => (if 0 ≤ bt108.1 then (if bt108.1 < (l1.length : Int) then (some (rd l1 bt108.1, bt108.2.1, bt108.2.2)) else (none)) else (none))) = some (r1, r2, r3) := h
 clear h
 replace H := ob_ H; obtain ⟨⟨t108, t109, t110⟩, A3, H⟩ := H; try dsimp only at H
 replace H := ig_ H; obtain ⟨c4b0, H⟩ := H
 replace H := ig_ H; obtain ⟨c5b0, H⟩ := H
 simp only [Option.some.injEq, Prod.mk.injEq] at H
 obtain ⟨rfl, rfl, rfl⟩ := H
 go_enter Try.func47, Try.ntmps47
 go_wp2_with (first | (refine gM_ (some 9) Try.func58 #[.pointer (some ⟨g, 0, none⟩), .int .i64 (l1.length : Int)] ?_; (with_reducible refine (spec_l1Cur_pick.calls g s0_0 s0_1 s0_2 (l1.length : Int) t108 t109 t110 w0 _ ?side1 ?side2 A3.out).mono ?_); (case side1 => exact z1_0_); (case side2 => exact z1_1_); rintro e w6 ⟨rfl, hi, hb, hk⟩; refine ⟨_, rfl, ?_⟩; replace HK := aM_ (KeepBut.trans z1_2_ hk (.inl rfl)); replace HB := aM_ (hb); replace HI0 := aM_ (hi); (try clear hb); (try clear hk); (try clear hi); have p111 : 0 ≤ (t108 : Int) := ode_; have q111 : t108 < (l1.length : Int) := ode_; obtain ⟨ad111, e111, hx111_0⟩ := Kd.at_int HR1.out t108 p111 q111; cases e111; replace hx111_0 := keep_cell HK.out hx111_0 (by first | (rw [add_block]; exact hf1 _ rfl (by omega)) | exact hf1 _ rfl (by omega) | exact hf1 ad111 rfl (by omega)); replace p111 := eq_true p111; replace q111 := eq_true q111))
 go_ret
 exact ⟨rT_, z1_0_, z1_1_, z1_2_⟩

/-! ### spec_l1Cur_one: function 59 -/
theorem spec_l1Cur_one.calls (g : Nat) (s0_0 : List Int) (s0_1 : Int) (s0_2 : Int) (a1 : Int) (r1 : Bool) (r2 : Int) (r3 : Int) (w0 w : World) (hI : IsS62 w0 w g s0_0 s0_1 s0_2) (hB : Below w0.heap.size w0 w) (h : spec_l1Cur_one.f s0_0 s0_1 s0_2 a1 = some (r1, r2, r3)) :
 Calls Try.prog 59 #[.pointer (some ⟨g, 0, none⟩), .int .i64 a1] w fun e w' => e = .returned (.bool r1) ∧ IsS62 w0 w' g s0_0 r2 r3 ∧ Below w0.heap.size w0 w' ∧ KeepBut w w' g none := by
 have HI0 := Aside0.mk hI
 have HK := Aside0.mk (KeepBut.refl w g none)
 have HL := Aside0.mk hB.size
 clear hI
 have HW0 := Aside0.mk hB.size
 have HB := Aside0.mk hB
 clear hB
 have H : ((spec_l1Cur_pick.f s0_0 s0_1 s0_2 a1).bind fun bt112 => (some ((bt112.1 == 0), bt112.2.1, bt112.2.2))) = some (r1, r2, r3) := h
 clear h
 replace H := ob_ H; obtain ⟨⟨t112, t113, t114⟩, A3, H⟩ := H; try dsimp only at H
 simp only [Option.some.injEq, Prod.mk.injEq] at H
 obtain ⟨rfl, rfl, rfl⟩ := H
 go_enter Try.func59, Try.ntmps59
 go_wp2_with (first | (refine gM_ (some 7) Try.func58 #[.pointer (some ⟨g, 0, none⟩), .int .i64 a1] ?_; (with_reducible refine (spec_l1Cur_pick.calls g s0_0 s0_1 s0_2 a1 t112 t113 t114 w0 _ ?side1 ?side2 A3.out).mono ?_); (case side1 => exact z1_0_); (case side2 => exact z1_1_); rintro e w4 ⟨rfl, hi, hb, hk⟩; refine ⟨_, rfl, ?_⟩; replace HK := aM_ (KeepBut.trans z1_2_ hk (.inl rfl)); replace HB := aM_ (hb); replace HI0 := aM_ (hi); (try clear hb); (try clear hk); (try clear hi)))
 go_ret
 exact ⟨rT_, z1_0_, z1_1_, z1_2_⟩

/-! ### spec_l1Cur_of: function 63 -/
theorem spec_l1Cur_of.calls (g : Nat) (s0_0 : List Int) (s0_1 : Int) (s0_2 : Int) (A1 : Option Addr) (c1 : Nat) (l1 : List ByteArray) (r1 : ByteArray) (r2 : Int) (r3 : Int) (w0 w : World) (hI : IsS62 w0 w g s0_0 s0_1 s0_2) (hB : Below w0.heap.size w0 w) (hr1 : Kd.C Kd.string w A1 l1.length l1) (hc1 : l1.length ≤ c1) (hf1 : ∀ ad, A1 = some ad → 0 < l1.length → ad.block ≠ g) (h : spec_l1Cur_of.f s0_0 s0_1 s0_2 l1 = some (r1, r2, r3)) :
 Calls Try.prog 63 #[.pointer (some ⟨g, 0, none⟩), .slice A1 l1.length c1] w fun e w' => e = .returned (.string r1) ∧ IsS62 w0 w' g s0_0 r2 r3 ∧ Below w0.heap.size w0 w' ∧ KeepBut w w' g none := by
 have HR1 := Aside0.mk hr1
 have HC1 := Aside0.mk hc1
 clear hr1 hc1
 have HI0 := Aside0.mk hI
 have HK := Aside0.mk (KeepBut.refl w g none)
 have HL := Aside0.mk hB.size
 clear hI
 have HW0 := Aside0.mk hB.size
 have HB := Aside0.mk hB
 clear hB
 have H : ((spec_l1Cur_pick.f s0_0 s0_1 s0_2 (l1.length : Int)).bind fun bt115 => (if 0 ≤ bt115.1 then (if bt115.1 < (l1.length : Int) then (some (rdOf ByteArray.empty l1 bt115.1, bt115.2.1, bt115.2.2)) else (none)) else (none))) = some (r1, r2, r3) := h
 clear h
 replace H := ob_ H; obtain ⟨⟨t115, t116, t117⟩, A3, H⟩ := H; try dsimp only at H
 replace H := ig_ H; obtain ⟨c4b0, H⟩ := H
 replace H := ig_ H; obtain ⟨c5b0, H⟩ := H
 simp only [Option.some.injEq, Prod.mk.injEq] at H
 obtain ⟨rfl, rfl, rfl⟩ := H
 go_enter Try.func63, Try.ntmps63
 go_wp2_with (first | (refine gM_ (some 9) Try.func58 #[.pointer (some ⟨g, 0, none⟩), .int .i64 (l1.length : Int)] ?_; (with_reducible refine (spec_l1Cur_pick.calls g s0_0 s0_1 s0_2 (l1.length : Int) t115 t116 t117 w0 _ ?side1 ?side2 A3.out).mono ?_); (case side1 => exact z1_0_); (case side2 => exact z1_1_); rintro e w6 ⟨rfl, hi, hb, hk⟩; refine ⟨_, rfl, ?_⟩; replace HK := aM_ (KeepBut.trans z1_2_ hk (.inl rfl)); replace HB := aM_ (hb); replace HI0 := aM_ (hi); (try clear hb); (try clear hk); (try clear hi); have p118 : 0 ≤ (t115 : Int) := ode_; have q118 : t115 < (l1.length : Int) := ode_; obtain ⟨ad118, e118, hx118_0⟩ := Kd.at_string HR1.out t115 p118 q118; cases e118; replace hx118_0 := keep_cell HK.out hx118_0 (by first | (rw [add_block]; exact hf1 _ rfl (by omega)) | exact hf1 _ rfl (by omega) | exact hf1 ad118 rfl (by omega)); replace p118 := eq_true p118; replace q118 := eq_true q118))
 go_ret
 exact ⟨rT_, z1_0_, z1_1_, z1_2_⟩

/-! ### spec_l1Cur_note: function 60 -/
theorem spec_l1Cur_note.calls (g : Nat) (s0_0 : List Int) (s0_1 : Int) (s0_2 : Int) (a1 : Int) (r1 : Int) (r2 : Int) (r3 : ByteArray) (r4 : Int) (r5 : Int) (w0 w : World) (hI : IsS62 w0 w g s0_0 s0_1 s0_2) (hB : Below w0.heap.size w0 w) (h : spec_l1Cur_note.f s0_0 s0_1 s0_2 a1 = some (r1, r2, r3, r4, r5)) :
 Calls Try.prog 60 #[.pointer (some ⟨g, 0, none⟩), .int .i64 a1] w fun e w' => e = .returned (.agg #[.int .i64 r1, .int .i64 r2, .string r3]) ∧ IsS62 w0 w' g s0_0 r4 r5 ∧ Below w0.heap.size w0 w' ∧ KeepBut w w' g none := by
 have hu50 := Try.underlying50
 have HI0 := Aside0.mk hI
 have HK := Aside0.mk (KeepBut.refl w g none)
 have HL := Aside0.mk hB.size
 clear hI
 have HW0 := Aside0.mk hB.size
 have HB := Aside0.mk hB
 clear hB
 have H : ((spec_l1Cur_among.f s0_0 s0_1 s0_2 (([1, 5, 8, 20] : List Int))).bind fun bt123 => ((spec_l1Cur_of.f s0_0 bt123.2.1 bt123.2.2 (([(⟨#[72, 79, 85, 83, 69]⟩ : ByteArray), (⟨#[71, 79]⟩ : ByteArray), (⟨#[73]⟩ : ByteArray), (⟨#[89, 79, 85]⟩ : ByteArray), (⟨#[71, 79]⟩ : ByteArray), (⟨#[71, 73, 86, 69]⟩ : ByteArray), (⟨#[66, 79, 79, 75]⟩ : ByteArray)] : List ByteArray))).bind fun bt129 => ((spec_l1Cur_pick.f s0_0 bt129.2.1 bt129.2.2 60).bind fun bt133 => (if bt133.1 = 0 then ((spec_l1Cur_among.f s0_0 bt133.2.1 bt133.2.2 (([a1, wrap64 (a1 - 1), 100000] : List Int))).bind fun bt139 => (some (a1, bt139.1, bt129.1, bt139.2.1, bt139.2.2))) else (if bt133.1 = 1 then ((spec_l1Cur_of.f s0_0 bt133.2.1 bt133.2.2 (([(⟨#[]⟩ : ByteArray), (⟨#[103, 111]⟩ : ByteArray), (⟨#[78, 73, 78, 69, 76, 69, 84, 84, 82]⟩ : ByteArray)] : List ByteArray))).bind fun bt145 => (some (a1, wrap64 (a1 + bt123.1), bt145.1, bt145.2.1, bt145.2.2))) else (if bt133.1 = 2 then ((spec_l1Cur_among.f s0_0 bt133.2.1 bt133.2.2 (([(-1), (-9223372036854775808)] : List Int))).bind fun bt151 => (some (bt151.1, wrap64 (a1 + bt123.1), bt129.1, bt151.2.1, bt151.2.2))) else (some (a1, wrap64 (a1 + bt123.1), bt129.1, bt133.2.1, bt133.2.2)))))))) = some (r1, r2, r3, r4, r5) := h
 clear h
 obtain ⟨y120, hy120⟩ : ∃ y_ : List Int, y_ = (([1, 5, 8, 20] : List Int)) := ⟨_, rfl⟩
 rw [← hy120] at H
 have Ny120 := Aside0.mk hy120; clear hy120
 replace H := ob_ H; obtain ⟨⟨t123, t124, t125⟩, A3, H⟩ := H; try dsimp only at H
 obtain ⟨y126, hy126⟩ : ∃ y_ : List ByteArray, y_ = (([(⟨#[72, 79, 85, 83, 69]⟩ : ByteArray), (⟨#[71, 79]⟩ : ByteArray), (⟨#[73]⟩ : ByteArray), (⟨#[89, 79, 85]⟩ : ByteArray), (⟨#[71, 79]⟩ : ByteArray), (⟨#[71, 73, 86, 69]⟩ : ByteArray), (⟨#[66, 79, 79, 75]⟩ : ByteArray)] : List ByteArray)) := ⟨_, rfl⟩
 rw [← hy126] at H
 have Ny126 := Aside0.mk hy126; clear hy126
 replace H := ob_ H; obtain ⟨⟨t129, t130, t131⟩, A4, H⟩ := H; try dsimp only at H
 replace H := ob_ H; obtain ⟨⟨t133, t134, t135⟩, A5, H⟩ := H; try dsimp only at H
 have HC6 := Aside0.mk H
 clear H
 go_enter Try.func60, Try.ntmps60
 go_upto_if 18 with (first | ((with_reducible refine gate_dst (N := 4) rfl ?_); refine bx_ 4 #[.int .i64 0, .int .i64 0, .string (⟨#[]⟩ : ByteArray)] 50 fun gb119 hg w7 hbox hb => ?_; have BK119 := aM_ (hbox); have GW119 := aM_ ((by rw [hg]; exact (keep_size (w := w) (g := g) (row := none) z1_2_) : w.heap.size ≤ gb119)); have GE119 := aM_ ((Nat.le_trans HW0.out (by rw [hg]; exact (keep_size (w := w) (g := g) (row := none) z1_2_) : w.heap.size ≤ gb119) : w0.heap.size ≤ gb119)); have NB0_119 := aM_ ((by rw [hg]; exact Nat.ne_of_lt (IsS62.lt (show IsS62 w0 _ g s0_0 s0_1 s0_2 from by repeat (first | (with_reducible first | exact HI0.out | apply IsS62.alloc | apply IsS62.drewN | apply IsS62.drew | apply IsS62.set_1 | apply IsS62.set_2) | exact HI0.out))) : g ≠ gb119)); have NB119_0 := aM_ ((by rw [hg]; exact Nat.ne_of_gt (IsS62.lt (show IsS62 w0 _ g s0_0 s0_1 s0_2 from by repeat (first | (with_reducible first | exact HI0.out | apply IsS62.alloc | apply IsS62.drewN | apply IsS62.drew | apply IsS62.set_1 | apply IsS62.set_2) | exact HI0.out))) : gb119 ≠ g)); replace HK := aM_ (KeepBut.trans z1_2_ (KeepBut.of_below hb g none) (.inl rfl)); replace HB := aM_ (below_step z1_1_ hb); replace HI0 := aM_ (IsS62.below z1_0_ hb); clear hb hbox hg) | ((with_reducible refine gate_dst (N := 9) rfl ?_); refine rl_ (Kd.int .i64) 3 9 ([1, 5, 8, 20] : List Int) [.int .i64 1, .int .i64 5, .int .i64 8, .int .i64 20] (Reps.one (show Kd.M (Kd.int .i64) _ _ _ 1 [.int .i64 1] from rfl) (Reps.one (show Kd.M (Kd.int .i64) _ _ _ 5 [.int .i64 5] from rfl) (Reps.one (show Kd.M (Kd.int .i64) _ _ _ 8 [.int .i64 8] from rfl) (Reps.one (show Kd.M (Kd.int .i64) _ _ _ 20 [.int .i64 20] from rfl) (Reps.none _ _))))) ?_; intro v121 w8 ho9 hb hg_ hnew_; clear hg_ hnew_; (first | rw [← Ny120.out] at ho9 | (simp only [Int.reduceToNat] at ho9; rw [← Ny120.out] at ho9)); have HO122 := aM_ (Kd.R_lower ho9 (keep_size (w := w) (g := g) (row := none) z1_3_)); replace BK119 := aM_ (blk_below (g := gb119) (kR_ BK119) hb); replace HK := aM_ (KeepBut.trans z1_3_ (KeepBut.of_below hb g none) (.inl rfl)); replace HB := aM_ (below_step z1_4_ hb); replace HI0 := aM_ (IsS62.below z1_5_ hb); clear hb ho9; obtain ⟨Ao10, co10, eo10⟩ := Kd.R_slice HO122.out; subst eo10) | (refine gM_ (some 10) Try.func47 #[.pointer (some ⟨g, 0, none⟩), .slice Ao10 y120.length co10] ?_; (with_reducible refine (spec_l1Cur_among.calls g s0_0 s0_1 s0_2 _ _ y120 t123 t124 t125 w0 _ ?side1 ?side2 ?side3 ?side4 ?side5 A3.out).mono ?_); (case side1 => exact z1_5_); (case side2 => exact z1_4_); (case side3 => exact cR_ HO122); (case side4 => exact (Kd.R_reads' HO122.out).2.1); (case side5 => exact far_slice (IsS62.own_ne HI0.out HO122.out (by decide))); rintro e w11 ⟨rfl, hi, hb, hk⟩; refine ⟨_, rfl, ?_⟩; replace BK119 := aM_ (KeepBut.blk hk (g' := gb119) (o := .cells #[.int .i64 0, .int .i64 0, .string (⟨#[]⟩ : ByteArray)] 50 (0, 0)) (kR_ BK119) NB119_0.out (by simp)); replace HO122 := aM_ (Kd.R_mono (Kd.R_keep (IsS62.apart (show IsS62 w0 _ g s0_0 s0_1 s0_2 from by repeat (first | (with_reducible first | exact HI0.out | apply IsS62.alloc | apply IsS62.drewN | apply IsS62.drew | apply IsS62.set_1 | apply IsS62.set_2 | refine IsS62.far ?_ (Aside0.out z1_6_) _) | exact HI0.out)) (rR_ HO122) (by decide)) hk (fun _ h => h.2)) (fun _ h => h.1)); replace HK := aM_ (KeepBut.trans z1_3_ hk (.inl rfl)); replace HB := aM_ (hb); replace HI0 := aM_ (hi); (try clear hb); (try clear hk); (try clear hi)) | ((with_reducible refine gate_dst (N := 13) rfl ?_); refine rl_ Kd.string 9 13 ([(⟨#[72, 79, 85, 83, 69]⟩ : ByteArray), (⟨#[71, 79]⟩ : ByteArray), (⟨#[73]⟩ : ByteArray), (⟨#[89, 79, 85]⟩ : ByteArray), (⟨#[71, 79]⟩ : ByteArray), (⟨#[71, 73, 86, 69]⟩ : ByteArray), (⟨#[66, 79, 79, 75]⟩ : ByteArray)] : List ByteArray) [.string (⟨#[72, 79, 85, 83, 69]⟩ : ByteArray), .string (⟨#[71, 79]⟩ : ByteArray), .string (⟨#[73]⟩ : ByteArray), .string (⟨#[89, 79, 85]⟩ : ByteArray), .string (⟨#[71, 79]⟩ : ByteArray), .string (⟨#[71, 73, 86, 69]⟩ : ByteArray), .string (⟨#[66, 79, 79, 75]⟩ : ByteArray)] (Reps.one (show Kd.M Kd.string _ _ _ (⟨#[72, 79, 85, 83, 69]⟩ : ByteArray) [.string (⟨#[72, 79, 85, 83, 69]⟩ : ByteArray)] from rfl) (Reps.one (show Kd.M Kd.string _ _ _ (⟨#[71, 79]⟩ : ByteArray) [.string (⟨#[71, 79]⟩ : ByteArray)] from rfl) (Reps.one (show Kd.M Kd.string _ _ _ (⟨#[73]⟩ : ByteArray) [.string (⟨#[73]⟩ : ByteArray)] from rfl) (Reps.one (show Kd.M Kd.string _ _ _ (⟨#[89, 79, 85]⟩ : ByteArray) [.string (⟨#[89, 79, 85]⟩ : ByteArray)] from rfl) (Reps.one (show Kd.M Kd.string _ _ _ (⟨#[71, 79]⟩ : ByteArray) [.string (⟨#[71, 79]⟩ : ByteArray)] from rfl) (Reps.one (show Kd.M Kd.string _ _ _ (⟨#[71, 73, 86, 69]⟩ : ByteArray) [.string (⟨#[71, 73, 86, 69]⟩ : ByteArray)] from rfl) (Reps.one (show Kd.M Kd.string _ _ _ (⟨#[66, 79, 79, 75]⟩ : ByteArray) [.string (⟨#[66, 79, 79, 75]⟩ : ByteArray)] from rfl) (Reps.none _ _)))))))) ?_; intro v127 w12 ho13 hb hg_ hnew_; clear hg_ hnew_; (first | rw [← Ny126.out] at ho13 | (simp only [Int.reduceToNat] at ho13; rw [← Ny126.out] at ho13)); have HO128 := aM_ (Kd.R_lower ho13 (keep_size (w := w) (g := g) (row := none) z1_3_)); replace HO122 := aM_ (Kd.R_below (rR_ HO122) hb); replace BK119 := aM_ (blk_below (g := gb119) (kR_ BK119) hb); replace HK := aM_ (KeepBut.trans z1_3_ (KeepBut.of_below hb g none) (.inl rfl)); replace HB := aM_ (below_step z1_4_ hb); replace HI0 := aM_ (IsS62.below z1_5_ hb); clear hb ho13; obtain ⟨Ao14, co14, eo14⟩ := Kd.R_slice HO128.out; subst eo14) | (refine gM_ (some 14) Try.func63 #[.pointer (some ⟨g, 0, none⟩), .slice Ao14 y126.length co14] ?_; (with_reducible refine (spec_l1Cur_of.calls g s0_0 t124 t125 _ _ y126 t129 t130 t131 w0 _ ?side1 ?side2 ?side3 ?side4 ?side5 A4.out).mono ?_); (case side1 => exact z1_5_); (case side2 => exact z1_4_); (case side3 => exact cR_ HO128); (case side4 => exact (Kd.R_reads' HO128.out).2.1); (case side5 => exact far_slice (IsS62.own_ne HI0.out HO128.out (by decide))); rintro e w15 ⟨rfl, hi, hb, hk⟩; refine ⟨_, rfl, ?_⟩; replace BK119 := aM_ (KeepBut.blk hk (g' := gb119) (o := .cells #[.int .i64 0, .int .i64 0, .string (⟨#[]⟩ : ByteArray)] 50 (0, 0)) (kR_ BK119) NB119_0.out (by simp)); replace HO122 := aM_ (Kd.R_mono (Kd.R_keep (IsS62.apart (show IsS62 w0 _ g s0_0 t124 t125 from by repeat (first | (with_reducible first | exact HI0.out | apply IsS62.alloc | apply IsS62.drewN | apply IsS62.drew | apply IsS62.set_1 | apply IsS62.set_2 | refine IsS62.far ?_ (Aside0.out z1_6_) _) | exact HI0.out)) (rR_ HO122) (by decide)) hk (fun _ h => h.2)) (fun _ h => h.1)); replace HO128 := aM_ (Kd.R_mono (Kd.R_keep (IsS62.apart (show IsS62 w0 _ g s0_0 t124 t125 from by repeat (first | (with_reducible first | exact HI0.out | apply IsS62.alloc | apply IsS62.drewN | apply IsS62.drew | apply IsS62.set_1 | apply IsS62.set_2 | refine IsS62.far ?_ (Aside0.out z1_6_) _) | exact HI0.out)) (rR_ HO128) (by decide)) hk (fun _ h => h.2)) (fun _ h => h.1)); replace HK := aM_ (KeepBut.trans z1_3_ hk (.inl rfl)); replace HB := aM_ (hb); replace HI0 := aM_ (hi); (try clear hb); (try clear hk); (try clear hi)) | ((with_reducible refine gate_dst (N := 5) rfl ?_); refine bx_ 5 #[.int .i64 0, .int .i64 0, .string (⟨#[]⟩ : ByteArray)] 50 fun gb132 hg w16 hbox hb => ?_; have BK132 := aM_ (hbox); have GW132 := aM_ ((by rw [hg]; exact (keep_size (w := w) (g := g) (row := none) z1_3_) : w.heap.size ≤ gb132)); have GE132 := aM_ ((Nat.le_trans HW0.out (by rw [hg]; exact (keep_size (w := w) (g := g) (row := none) z1_3_) : w.heap.size ≤ gb132) : w0.heap.size ≤ gb132)); have NB119_132 := aM_ (nR_ BK119 hg); have NB132_119 := aM_ (mR_ BK119 hg); have NB0_132 := aM_ ((by rw [hg]; exact Nat.ne_of_lt (IsS62.lt (show IsS62 w0 _ g s0_0 t130 t131 from by repeat (first | (with_reducible first | exact HI0.out | apply IsS62.alloc | apply IsS62.drewN | apply IsS62.drew | apply IsS62.set_1 | apply IsS62.set_2 | refine IsS62.far ?_ (Aside0.out z1_6_) _) | exact HI0.out))) : g ≠ gb132)); have NB132_0 := aM_ ((by rw [hg]; exact Nat.ne_of_gt (IsS62.lt (show IsS62 w0 _ g s0_0 t130 t131 from by repeat (first | (with_reducible first | exact HI0.out | apply IsS62.alloc | apply IsS62.drewN | apply IsS62.drew | apply IsS62.set_1 | apply IsS62.set_2 | refine IsS62.far ?_ (Aside0.out z1_6_) _) | exact HI0.out))) : gb132 ≠ g)); replace HO122 := aM_ (Kd.R_below (rR_ HO122) hb); replace HO128 := aM_ (Kd.R_below (rR_ HO128) hb); replace BK119 := aM_ (blk_below (g := gb119) (kR_ BK119) hb); replace HK := aM_ (KeepBut.trans z1_3_ (KeepBut.of_below hb g none) (.inl rfl)); replace HB := aM_ (below_step z1_4_ hb); replace HI0 := aM_ (IsS62.below z1_5_ hb); clear hb hbox hg; have hnb17 := NB132_119.out; have hnc17 := NB119_132.out; have hnb18 := NB132_0.out; have hnc18 := NB0_132.out; have hz19 := cf3_ BK132.out) | (refine gM_ (some 17) Try.func58 #[.pointer (some ⟨g, 0, none⟩), .int .i64 60] ?_; (with_reducible refine (spec_l1Cur_pick.calls g s0_0 t130 t131 60 t133 t134 t135 w0 _ ?side1 ?side2 A5.out).mono ?_); (case side1 => exact z1_5_); (case side2 => exact z1_7_); rintro e w20 ⟨rfl, hi, hb, hk⟩; refine ⟨_, rfl, ?_⟩; replace BK119 := aM_ (KeepBut.blk hk (g' := gb119) (o := .cells #[.int .i64 0, .int .i64 0, .string (⟨#[]⟩ : ByteArray)] 50 (0, 0)) (by (with_reducible repeat (first | apply kN_ | apply kD_ | apply kA_)); refine blk_far ?_ NB119_132.out _; (with_reducible repeat (first | apply kN_ | apply kD_ | apply kA_)); refine blk_far ?_ NB119_132.out _; (with_reducible repeat (first | apply kN_ | apply kD_ | apply kA_)); refine blk_far ?_ NB119_132.out _; (with_reducible repeat (first | apply kN_ | apply kD_ | apply kA_)); exact BK119.out) NB119_0.out (by simp)); replace HO122 := aM_ (Kd.R_mono (Kd.R_keep (IsS62.apart (show IsS62 w0 _ g s0_0 t130 t131 from by repeat (first | (with_reducible first | exact HI0.out | apply IsS62.alloc | apply IsS62.drewN | apply IsS62.drew | apply IsS62.set_1 | apply IsS62.set_2 | refine IsS62.far ?_ (Aside0.out z1_6_) _) | exact HI0.out)) (by (with_reducible repeat (first | apply rA_ | apply rN_ | apply rD_)); exact (Kd.R_mono (Kd.R_far (p := ⟨gb132, 2, none⟩) (Kd.R_far (p := ⟨gb132, 1, none⟩) (Kd.R_far (p := ⟨gb132, 0, none⟩) (Kd.R_types HO122.out BK132.out (by decide)) (fun _ hk => hk.2) (.int .i64 a1)) (fun _ hk => hk.2) (.int .i64 (wrap64 (a1 + t123)))) (fun _ hk => hk.2) (.string t129)) (fun _ h_ => h_.1))) (by decide)) hk (fun _ h => h.2)) (fun _ h => h.1)); replace HO128 := aM_ (Kd.R_mono (Kd.R_keep (IsS62.apart (show IsS62 w0 _ g s0_0 t130 t131 from by repeat (first | (with_reducible first | exact HI0.out | apply IsS62.alloc | apply IsS62.drewN | apply IsS62.drew | apply IsS62.set_1 | apply IsS62.set_2 | refine IsS62.far ?_ (Aside0.out z1_6_) _) | exact HI0.out)) (by (with_reducible repeat (first | apply rA_ | apply rN_ | apply rD_)); exact (Kd.R_mono (Kd.R_far (p := ⟨gb132, 2, none⟩) (Kd.R_far (p := ⟨gb132, 1, none⟩) (Kd.R_far (p := ⟨gb132, 0, none⟩) (Kd.R_types HO128.out BK132.out (by decide)) (fun _ hk => hk.2) (.int .i64 a1)) (fun _ hk => hk.2) (.int .i64 (wrap64 (a1 + t123)))) (fun _ hk => hk.2) (.string t129)) (fun _ h_ => h_.1))) (by decide)) hk (fun _ h => h.2)) (fun _ h => h.1)); replace BK132 := aM_ (KeepBut.blk hk (g' := gb132) (o := .cells #[.int .i64 a1, .int .i64 (wrap64 (a1 + t123)), .string t129] 50 (0, 0)) (by (with_reducible repeat (first | apply kN_ | apply kD_ | apply kA_)); refine blk_put (cs := #[.int .i64 a1, .int .i64 (wrap64 (a1 + t123)), .string (⟨#[]⟩ : ByteArray)]) ?_ 2 _ rfl; (with_reducible repeat (first | apply kN_ | apply kD_ | apply kA_)); refine blk_put (cs := #[.int .i64 a1, .int .i64 0, .string (⟨#[]⟩ : ByteArray)]) ?_ 1 _ rfl; (with_reducible repeat (first | apply kN_ | apply kD_ | apply kA_)); refine blk_put (cs := #[.int .i64 0, .int .i64 0, .string (⟨#[]⟩ : ByteArray)]) ?_ 0 _ rfl; (with_reducible repeat (first | apply kN_ | apply kD_ | apply kA_)); exact BK132.out) NB132_0.out (by simp)); replace HK := aM_ (KeepBut.trans z1_8_ hk (.inl rfl)); replace HB := aM_ (hb); replace HI0 := aM_ (hi); (try clear hb); (try clear hk); (try clear hi)))
 (try simp only [Act.put, List.setIfInBounds_toArray, List.set_cons_zero, List.set_cons_succ])
 have H := HC6.out
 clear HC6
 by_cases c21 : t133 = 0
 ·rw [if_pos c21] at H
  have c21b0 : (t133 == 0) = true := beq_iff_eq.mpr c21
  have c21b1 : (t133 != 0) = false := bne_eq_false_iff_eq.mpr c21
  clear c21
  (first | rw [c21b0] | (simp only [i64_w, i32_w]; rw [c21b0]) | skip)
  obtain ⟨y136, hy136⟩ : ∃ y_ : List Int, y_ = (([a1, wrap64 (a1 - 1), 100000] : List Int)) := ⟨_, rfl⟩
  rw [← hy136] at H
  have Ny136 := Aside0.mk hy136; clear hy136
  replace H := ob_ H; obtain ⟨⟨t139, t140, t141⟩, A22, H⟩ := H; try dsimp only at H
  simp only [Option.some.injEq, Prod.mk.injEq] at H
  obtain ⟨rfl, rfl, rfl, rfl, rfl⟩ := H
  have hnb23 := NB132_119.out
  have hnc23 := NB119_132.out
  have hnb24 := NB132_0.out
  have hnc24 := NB0_132.out
  have hz25 := cf3_ BK132.out
  go_wp2_with (first | ((with_reducible refine gate_dst (N := 26) rfl ?_); refine rl_ (Kd.int .i64) 3 26 ([a1, wrap64 (a1 - 1), 100000] : List Int) [.int .i64 a1, .int .i64 (wrap64 (a1 - 1)), .int .i64 100000] (Reps.one (show Kd.M (Kd.int .i64) _ _ _ a1 [.int .i64 a1] from rfl) (Reps.one (show Kd.M (Kd.int .i64) _ _ _ (wrap64 (a1 - 1)) [.int .i64 (wrap64 (a1 - 1))] from rfl) (Reps.one (show Kd.M (Kd.int .i64) _ _ _ 100000 [.int .i64 100000] from rfl) (Reps.none _ _)))) ?_; intro v137 w26 ho27 hb hg_ hnew_; clear hg_ hnew_; (first | rw [← Ny136.out] at ho27 | (simp only [Int.reduceToNat] at ho27; rw [← Ny136.out] at ho27)); have HO138 := aM_ (Kd.R_lower (Kd.R_new' ho27 (Kd.R_lt (rR_ HO122))) (keep_size (w := w) (g := g) (row := none) z1_8_)); replace HO122 := aM_ (Kd.R_elder' (rR_ HO122) (Kd.R_base ho27) hb); replace HO128 := aM_ (Kd.R_below (rR_ HO128) hb); replace BK119 := aM_ (blk_below (g := gb119) (kR_ BK119) hb); replace BK132 := aM_ (blk_below (g := gb132) (kR_ BK132) hb); replace HK := aM_ (KeepBut.trans z1_8_ (KeepBut.of_below hb g none) (.inl rfl)); replace HB := aM_ (below_step z1_7_ hb); replace HI0 := aM_ (IsS62.below z1_5_ hb); clear hb ho27; obtain ⟨Ao28, co28, eo28⟩ := Kd.R_slice HO138.out; subst eo28) | (refine gM_ (some 27) Try.func47 #[.pointer (some ⟨g, 0, none⟩), .slice Ao28 y136.length co28] ?_; (with_reducible refine (spec_l1Cur_among.calls g s0_0 t134 t135 _ _ y136 t139 t140 t141 w0 _ ?side1 ?side2 ?side3 ?side4 ?side5 A22.out).mono ?_); (case side1 => exact z1_5_); (case side2 => exact z1_7_); (case side3 => exact cR_ HO138); (case side4 => exact (Kd.R_reads' HO138.out).2.1); (case side5 => exact far_slice (IsS62.own_ne HI0.out HO138.out (by decide))); rintro e w29 ⟨rfl, hi, hb, hk⟩; refine ⟨_, rfl, ?_⟩; replace BK119 := aM_ (KeepBut.blk hk (g' := gb119) (o := .cells #[.int .i64 0, .int .i64 0, .string (⟨#[]⟩ : ByteArray)] 50 (0, 0)) (kR_ BK119) NB119_0.out (by simp)); replace HO122 := aM_ (Kd.R_mono (Kd.R_keep (IsS62.apart (show IsS62 w0 _ g s0_0 t134 t135 from by repeat (first | (with_reducible first | exact HI0.out | apply IsS62.alloc | apply IsS62.drewN | apply IsS62.drew | apply IsS62.set_1 | apply IsS62.set_2 | refine IsS62.far ?_ (Aside0.out z1_6_) _) | exact HI0.out)) (rR_ HO122) (by decide)) hk (fun _ h => h.2)) (fun _ h => h.1)); replace HO128 := aM_ (Kd.R_mono (Kd.R_keep (IsS62.apart (show IsS62 w0 _ g s0_0 t134 t135 from by repeat (first | (with_reducible first | exact HI0.out | apply IsS62.alloc | apply IsS62.drewN | apply IsS62.drew | apply IsS62.set_1 | apply IsS62.set_2 | refine IsS62.far ?_ (Aside0.out z1_6_) _) | exact HI0.out)) (rR_ HO128) (by decide)) hk (fun _ h => h.2)) (fun _ h => h.1)); replace BK132 := aM_ (KeepBut.blk hk (g' := gb132) (o := .cells #[.int .i64 a1, .int .i64 (wrap64 (a1 + t123)), .string t129] 50 (0, 0)) (kR_ BK132) NB132_0.out (by simp)); replace HO138 := aM_ (Kd.R_mono (Kd.R_keep (IsS62.apart (show IsS62 w0 _ g s0_0 t134 t135 from by repeat (first | (with_reducible first | exact HI0.out | apply IsS62.alloc | apply IsS62.drewN | apply IsS62.drew | apply IsS62.set_1 | apply IsS62.set_2 | refine IsS62.far ?_ (Aside0.out z1_6_) _) | exact HI0.out)) (rR_ HO138) (by decide)) hk (fun _ h => h.2)) (fun _ h => h.1)); replace HK := aM_ (KeepBut.trans z1_8_ hk (.inl rfl)); replace HB := aM_ (hb); replace HI0 := aM_ (hi); (try clear hb); (try clear hk); (try clear hi); have hz30 := cf3_ BK132.out; have hnb31 := NB119_0.out; have hnc31 := NB0_119.out; have hz32 := cf3_ BK119.out))
  refine bodyPost_ret (results_cell_row rfl _ _ gb119 50 #[.int .i64 a1, .int .i64 t139, .string t129] (0, 0) _ rfl (by (with_reducible repeat (first | apply kN_ | apply kD_ | apply kA_)); refine blk_put (cs := #[.int .i64 a1, .int .i64 t139, .string (⟨#[]⟩ : ByteArray)]) ?_ 2 _ rfl; (with_reducible repeat (first | apply kN_ | apply kD_ | apply kA_)); refine blk_put (cs := #[.int .i64 a1, .int .i64 0, .string (⟨#[]⟩ : ByteArray)]) ?_ 1 _ rfl; (with_reducible repeat (first | apply kN_ | apply kD_ | apply kA_)); refine blk_put (cs := #[.int .i64 0, .int .i64 0, .string (⟨#[]⟩ : ByteArray)]) ?_ 0 _ rfl; (with_reducible repeat (first | apply kN_ | apply kD_ | apply kA_)); refine blk_far ?_ NB119_132.out _; (with_reducible repeat (first | apply kN_ | apply kD_ | apply kA_)); exact BK119.out) Try.underlying50 rfl (by kernel_rfl)) rfl ?_
  exact ⟨rT_, z1_5_, z1_7_, z1_8_⟩
 rw [if_neg c21] at H
 have c21b0 : (t133 == 0) = false := beq_eq_false_iff_ne.mpr c21
 have c21b1 : (t133 != 0) = true := bne_iff_ne.mpr c21
 (first | rw [c21b0] | (simp only [i64_w, i32_w]; rw [c21b0]) | skip)
 by_cases c33 : t133 = 1
 ·rw [if_pos c33] at H
  have c33b0 : (t133 == 1) = true := beq_iff_eq.mpr c33
  have c33b1 : (t133 != 1) = false := bne_eq_false_iff_eq.mpr c33
  clear c33
  obtain ⟨y142, hy142⟩ : ∃ y_ : List ByteArray, y_ = (([(⟨#[]⟩ : ByteArray), (⟨#[103, 111]⟩ : ByteArray), (⟨#[78, 73, 78, 69, 76, 69, 84, 84, 82]⟩ : ByteArray)] : List ByteArray)) := ⟨_, rfl⟩
  rw [← hy142] at H
  have Ny142 := Aside0.mk hy142; clear hy142
  replace H := ob_ H; obtain ⟨⟨t145, t146, t147⟩, A34, H⟩ := H; try dsimp only at H
  simp only [Option.some.injEq, Prod.mk.injEq] at H
  obtain ⟨rfl, rfl, rfl, rfl, rfl⟩ := H
  go_wp2_with (first | ((with_reducible refine gate_dst (N := 32) rfl ?_); refine rl_ Kd.string 9 32 ([(⟨#[]⟩ : ByteArray), (⟨#[103, 111]⟩ : ByteArray), (⟨#[78, 73, 78, 69, 76, 69, 84, 84, 82]⟩ : ByteArray)] : List ByteArray) [.string (⟨#[]⟩ : ByteArray), .string (⟨#[103, 111]⟩ : ByteArray), .string (⟨#[78, 73, 78, 69, 76, 69, 84, 84, 82]⟩ : ByteArray)] (Reps.one (show Kd.M Kd.string _ _ _ (⟨#[]⟩ : ByteArray) [.string (⟨#[]⟩ : ByteArray)] from rfl) (Reps.one (show Kd.M Kd.string _ _ _ (⟨#[103, 111]⟩ : ByteArray) [.string (⟨#[103, 111]⟩ : ByteArray)] from rfl) (Reps.one (show Kd.M Kd.string _ _ _ (⟨#[78, 73, 78, 69, 76, 69, 84, 84, 82]⟩ : ByteArray) [.string (⟨#[78, 73, 78, 69, 76, 69, 84, 84, 82]⟩ : ByteArray)] from rfl) (Reps.none _ _)))) ?_; intro v143 w35 ho36 hb hg_ hnew_; clear hg_ hnew_; (first | rw [← Ny142.out] at ho36 | (simp only [Int.reduceToNat] at ho36; rw [← Ny142.out] at ho36)); have HO144 := aM_ (Kd.R_lower (Kd.R_new' ho36 (Kd.R_lt (rR_ HO128))) (keep_size (w := w) (g := g) (row := none) z1_8_)); replace HO122 := aM_ (Kd.R_below (rR_ HO122) hb); replace HO128 := aM_ (Kd.R_elder' (rR_ HO128) (Kd.R_base ho36) hb); replace BK119 := aM_ (blk_below (g := gb119) (kR_ BK119) hb); replace BK132 := aM_ (blk_below (g := gb132) (kR_ BK132) hb); replace HK := aM_ (KeepBut.trans z1_8_ (KeepBut.of_below hb g none) (.inl rfl)); replace HB := aM_ (below_step z1_7_ hb); replace HI0 := aM_ (IsS62.below z1_5_ hb); clear hb ho36; obtain ⟨Ao37, co37, eo37⟩ := Kd.R_slice HO144.out; subst eo37) | (refine gM_ (some 33) Try.func63 #[.pointer (some ⟨g, 0, none⟩), .slice Ao37 y142.length co37] ?_; (with_reducible refine (spec_l1Cur_of.calls g s0_0 t134 t135 _ _ y142 t145 t146 t147 w0 _ ?side1 ?side2 ?side3 ?side4 ?side5 A34.out).mono ?_); (case side1 => exact z1_5_); (case side2 => exact z1_7_); (case side3 => exact cR_ HO144); (case side4 => exact (Kd.R_reads' HO144.out).2.1); (case side5 => exact far_slice (IsS62.own_ne HI0.out HO144.out (by decide))); rintro e w38 ⟨rfl, hi, hb, hk⟩; refine ⟨_, rfl, ?_⟩; replace BK119 := aM_ (KeepBut.blk hk (g' := gb119) (o := .cells #[.int .i64 0, .int .i64 0, .string (⟨#[]⟩ : ByteArray)] 50 (0, 0)) (kR_ BK119) NB119_0.out (by simp)); replace HO122 := aM_ (Kd.R_mono (Kd.R_keep (IsS62.apart (show IsS62 w0 _ g s0_0 t134 t135 from by repeat (first | (with_reducible first | exact HI0.out | apply IsS62.alloc | apply IsS62.drewN | apply IsS62.drew | apply IsS62.set_1 | apply IsS62.set_2 | refine IsS62.far ?_ (Aside0.out z1_6_) _) | exact HI0.out)) (rR_ HO122) (by decide)) hk (fun _ h => h.2)) (fun _ h => h.1)); replace HO128 := aM_ (Kd.R_mono (Kd.R_keep (IsS62.apart (show IsS62 w0 _ g s0_0 t134 t135 from by repeat (first | (with_reducible first | exact HI0.out | apply IsS62.alloc | apply IsS62.drewN | apply IsS62.drew | apply IsS62.set_1 | apply IsS62.set_2 | refine IsS62.far ?_ (Aside0.out z1_6_) _) | exact HI0.out)) (rR_ HO128) (by decide)) hk (fun _ h => h.2)) (fun _ h => h.1)); replace BK132 := aM_ (KeepBut.blk hk (g' := gb132) (o := .cells #[.int .i64 a1, .int .i64 (wrap64 (a1 + t123)), .string t129] 50 (0, 0)) (kR_ BK132) NB132_0.out (by simp)); replace HO144 := aM_ (Kd.R_mono (Kd.R_keep (IsS62.apart (show IsS62 w0 _ g s0_0 t134 t135 from by repeat (first | (with_reducible first | exact HI0.out | apply IsS62.alloc | apply IsS62.drewN | apply IsS62.drew | apply IsS62.set_1 | apply IsS62.set_2 | refine IsS62.far ?_ (Aside0.out z1_6_) _) | exact HI0.out)) (rR_ HO144) (by decide)) hk (fun _ h => h.2)) (fun _ h => h.1)); replace HK := aM_ (KeepBut.trans z1_8_ hk (.inl rfl)); replace HB := aM_ (hb); replace HI0 := aM_ (hi); (try clear hb); (try clear hk); (try clear hi); have hnb39 := NB132_119.out; have hnc39 := NB119_132.out; have hnb40 := NB132_0.out; have hnc40 := NB0_132.out; have hz41 := cf3_ BK132.out; have hnb42 := NB119_0.out; have hnc42 := NB0_119.out; have hz43 := cf3_ BK119.out))
  refine bodyPost_ret (results_cell_row rfl _ _ gb119 50 #[.int .i64 a1, .int .i64 (wrap64 (a1 + t123)), .string t145] (0, 0) _ rfl (by (with_reducible repeat (first | apply kN_ | apply kD_ | apply kA_)); refine blk_put (cs := #[.int .i64 a1, .int .i64 (wrap64 (a1 + t123)), .string (⟨#[]⟩ : ByteArray)]) ?_ 2 _ rfl; (with_reducible repeat (first | apply kN_ | apply kD_ | apply kA_)); refine blk_put (cs := #[.int .i64 a1, .int .i64 0, .string (⟨#[]⟩ : ByteArray)]) ?_ 1 _ rfl; (with_reducible repeat (first | apply kN_ | apply kD_ | apply kA_)); refine blk_put (cs := #[.int .i64 0, .int .i64 0, .string (⟨#[]⟩ : ByteArray)]) ?_ 0 _ rfl; (with_reducible repeat (first | apply kN_ | apply kD_ | apply kA_)); refine blk_far ?_ NB119_132.out _; (with_reducible repeat (first | apply kN_ | apply kD_ | apply kA_)); exact BK119.out) Try.underlying50 rfl (by kernel_rfl)) rfl ?_
  exact ⟨rT_, z1_5_, z1_7_, z1_8_⟩
 rw [if_neg c33] at H
 have c33b0 : (t133 == 1) = false := beq_eq_false_iff_ne.mpr c33
 have c33b1 : (t133 != 1) = true := bne_iff_ne.mpr c33
 by_cases c44 : t133 = 2
 rotate_left
 ·rw [if_neg c44] at H
  have c44b0 : (t133 == 2) = false := beq_eq_false_iff_ne.mpr c44
  have c44b1 : (t133 != 2) = true := bne_iff_ne.mpr c44
  simp only [Option.some.injEq, Prod.mk.injEq] at H
  obtain ⟨rfl, rfl, rfl, rfl, rfl⟩ := H
  have hnb55 := NB132_119.out
  have hnc55 := NB119_132.out
  have hnb56 := NB132_0.out
  have hnc56 := NB0_132.out
  have hz57 := cf3_ BK132.out
  clear BK132
  have hnb58 := NB119_0.out
  have hnc58 := NB0_119.out
  have hz59 := cf3_ BK119.out
  go_wp2
  refine bodyPost_ret (results_cell_row rfl _ _ gb119 50 #[.int .i64 a1, .int .i64 (wrap64 (a1 + t123)), .string t129] (0, 0) _ rfl (by (with_reducible repeat (first | apply kN_ | apply kD_ | apply kA_)); refine blk_put (cs := #[.int .i64 a1, .int .i64 (wrap64 (a1 + t123)), .string (⟨#[]⟩ : ByteArray)]) ?_ 2 _ rfl; (with_reducible repeat (first | apply kN_ | apply kD_ | apply kA_)); refine blk_put (cs := #[.int .i64 a1, .int .i64 0, .string (⟨#[]⟩ : ByteArray)]) ?_ 1 _ rfl; (with_reducible repeat (first | apply kN_ | apply kD_ | apply kA_)); refine blk_put (cs := #[.int .i64 0, .int .i64 0, .string (⟨#[]⟩ : ByteArray)]) ?_ 0 _ rfl; (with_reducible repeat (first | apply kN_ | apply kD_ | apply kA_)); exact BK119.out) Try.underlying50 rfl (by kernel_rfl)) rfl ?_
  exact ⟨rT_, z1_5_, z1_4_, z1_3_⟩
 rw [if_pos c44] at H
 have c44b0 : (t133 == 2) = true := beq_iff_eq.mpr c44
 have c44b1 : (t133 != 2) = false := bne_eq_false_iff_eq.mpr c44
 clear c44
 obtain ⟨y148, hy148⟩ : ∃ y_ : List Int, y_ = (([(-1), (-9223372036854775808)] : List Int)) := ⟨_, rfl⟩
 rw [← hy148] at H
 have Ny148 := Aside0.mk hy148; clear hy148
 replace H := ob_ H; obtain ⟨⟨t151, t152, t153⟩, A45, H⟩ := H; try dsimp only at H
 simp only [Option.some.injEq, Prod.mk.injEq] at H
 obtain ⟨rfl, rfl, rfl, rfl, rfl⟩ := H
 go_wp2_with (first | ((with_reducible refine gate_dst (N := 38) rfl ?_); refine rl_ (Kd.int .i64) 3 38 ([(-1), (-9223372036854775808)] : List Int) [.int .i64 (-1), .int .i64 (-9223372036854775808)] (Reps.one (show Kd.M (Kd.int .i64) _ _ _ (-1) [.int .i64 (-1)] from rfl) (Reps.one (show Kd.M (Kd.int .i64) _ _ _ (-9223372036854775808) [.int .i64 (-9223372036854775808)] from rfl) (Reps.none _ _))) ?_; intro v149 w46 ho47 hb hg_ hnew_; clear hg_ hnew_; (first | rw [← Ny148.out] at ho47 | (simp only [Int.reduceToNat] at ho47; rw [← Ny148.out] at ho47)); have HO150 := aM_ (Kd.R_lower (Kd.R_new' ho47 (Kd.R_lt (rR_ HO122))) (keep_size (w := w) (g := g) (row := none) z1_8_)); replace HO122 := aM_ (Kd.R_elder' (rR_ HO122) (Kd.R_base ho47) hb); replace HO128 := aM_ (Kd.R_below (rR_ HO128) hb); replace BK119 := aM_ (blk_below (g := gb119) (kR_ BK119) hb); replace BK132 := aM_ (blk_below (g := gb132) (kR_ BK132) hb); replace HK := aM_ (KeepBut.trans z1_8_ (KeepBut.of_below hb g none) (.inl rfl)); replace HB := aM_ (below_step z1_7_ hb); replace HI0 := aM_ (IsS62.below z1_5_ hb); clear hb ho47; obtain ⟨Ao48, co48, eo48⟩ := Kd.R_slice HO150.out; subst eo48) | (refine gM_ (some 39) Try.func47 #[.pointer (some ⟨g, 0, none⟩), .slice Ao48 y148.length co48] ?_; (with_reducible refine (spec_l1Cur_among.calls g s0_0 t134 t135 _ _ y148 t151 t152 t153 w0 _ ?side1 ?side2 ?side3 ?side4 ?side5 A45.out).mono ?_); (case side1 => exact z1_5_); (case side2 => exact z1_7_); (case side3 => exact cR_ HO150); (case side4 => exact (Kd.R_reads' HO150.out).2.1); (case side5 => exact far_slice (IsS62.own_ne HI0.out HO150.out (by decide))); rintro e w49 ⟨rfl, hi, hb, hk⟩; refine ⟨_, rfl, ?_⟩; replace BK119 := aM_ (KeepBut.blk hk (g' := gb119) (o := .cells #[.int .i64 0, .int .i64 0, .string (⟨#[]⟩ : ByteArray)] 50 (0, 0)) (kR_ BK119) NB119_0.out (by simp)); replace HO122 := aM_ (Kd.R_mono (Kd.R_keep (IsS62.apart (show IsS62 w0 _ g s0_0 t134 t135 from by repeat (first | (with_reducible first | exact HI0.out | apply IsS62.alloc | apply IsS62.drewN | apply IsS62.drew | apply IsS62.set_1 | apply IsS62.set_2 | refine IsS62.far ?_ (Aside0.out z1_6_) _) | exact HI0.out)) (rR_ HO122) (by decide)) hk (fun _ h => h.2)) (fun _ h => h.1)); replace HO128 := aM_ (Kd.R_mono (Kd.R_keep (IsS62.apart (show IsS62 w0 _ g s0_0 t134 t135 from by repeat (first | (with_reducible first | exact HI0.out | apply IsS62.alloc | apply IsS62.drewN | apply IsS62.drew | apply IsS62.set_1 | apply IsS62.set_2 | refine IsS62.far ?_ (Aside0.out z1_6_) _) | exact HI0.out)) (rR_ HO128) (by decide)) hk (fun _ h => h.2)) (fun _ h => h.1)); replace BK132 := aM_ (KeepBut.blk hk (g' := gb132) (o := .cells #[.int .i64 a1, .int .i64 (wrap64 (a1 + t123)), .string t129] 50 (0, 0)) (kR_ BK132) NB132_0.out (by simp)); replace HO150 := aM_ (Kd.R_mono (Kd.R_keep (IsS62.apart (show IsS62 w0 _ g s0_0 t134 t135 from by repeat (first | (with_reducible first | exact HI0.out | apply IsS62.alloc | apply IsS62.drewN | apply IsS62.drew | apply IsS62.set_1 | apply IsS62.set_2 | refine IsS62.far ?_ (Aside0.out z1_6_) _) | exact HI0.out)) (rR_ HO150) (by decide)) hk (fun _ h => h.2)) (fun _ h => h.1)); replace HK := aM_ (KeepBut.trans z1_8_ hk (.inl rfl)); replace HB := aM_ (hb); replace HI0 := aM_ (hi); (try clear hb); (try clear hk); (try clear hi); have hnb50 := NB132_119.out; have hnc50 := NB119_132.out; have hnb51 := NB132_0.out; have hnc51 := NB0_132.out; have hz52 := cf3_ BK132.out; have hnb53 := NB119_0.out; have hnc53 := NB0_119.out; have hz54 := cf3_ BK119.out))
 refine bodyPost_ret (results_cell_row rfl _ _ gb119 50 #[.int .i64 t151, .int .i64 (wrap64 (a1 + t123)), .string t129] (0, 0) _ rfl (by (with_reducible repeat (first | apply kN_ | apply kD_ | apply kA_)); refine blk_put (cs := #[.int .i64 t151, .int .i64 (wrap64 (a1 + t123)), .string (⟨#[]⟩ : ByteArray)]) ?_ 2 _ rfl; (with_reducible repeat (first | apply kN_ | apply kD_ | apply kA_)); refine blk_put (cs := #[.int .i64 t151, .int .i64 0, .string (⟨#[]⟩ : ByteArray)]) ?_ 1 _ rfl; (with_reducible repeat (first | apply kN_ | apply kD_ | apply kA_)); refine blk_put (cs := #[.int .i64 0, .int .i64 0, .string (⟨#[]⟩ : ByteArray)]) ?_ 0 _ rfl; (with_reducible repeat (first | apply kN_ | apply kD_ | apply kA_)); refine blk_far ?_ NB119_132.out _; (with_reducible repeat (first | apply kN_ | apply kD_ | apply kA_)); exact BK119.out) Try.underlying50 rfl (by kernel_rfl)) rfl ?_
 exact ⟨rT_, z1_5_, z1_7_, z1_8_⟩

/-! ### spec_l1Least: function 61 -/
theorem spec_l1Least.calls (a0 : Int) (a1 : Int) (r : Int) (w : World) (h : spec_l1Least.f a0 a1 = some r) :
 Calls Try.prog 61 #[.int .i64 a0, .int .i64 a1] w fun e w' => e = .returned (.int .i64 r) ∧ Drawn0 w w' := by
 have H : (if a0 < a1 then (some a0) else (some a1)) = some r := h
 clear h
 replace H := iT_ H; obtain ⟨c3b0, H⟩ | ⟨c3b0, H⟩ := H
 ·obtain rfl := Option.some.inj H
  go_enter Try.func61, Try.ntmps61
  go_wp2
  go_ret
  exact ⟨z1_9_, z1_10_⟩
 obtain rfl := Option.some.inj H
 go_enter Try.func61, Try.ntmps61
 go_wp2
 go_ret
 exact ⟨z1_9_, z1_10_⟩

/-! ### spec_l1Most: function 62 -/
theorem spec_l1Most.calls (a0 : Int) (a1 : Int) (r : Int) (w : World) (h : spec_l1Most.f a0 a1 = some r) :
 Calls Try.prog 62 #[.int .i64 a0, .int .i64 a1] w fun e w' => e = .returned (.int .i64 r) ∧ Drawn0 w w' := by
 have H : (if a0 > a1 then (some a0) else (some a1)) = some r := h
 clear h
 by_cases c3 : a0 > a1
 ·rw [if_pos c3] at H
  have c3b0 : decide (a1 < a0) = true := decide_eq_true c3
  clear c3
  obtain rfl := Option.some.inj H
  go_enter Try.func62, Try.ntmps62
  go_wp2
  go_ret
  exact ⟨z1_9_, z1_10_⟩
 rw [if_neg c3] at H
 have c3b0 : decide (a1 < a0) = false := decide_eq_false c3
 clear c3
 obtain rfl := Option.some.inj H
 go_enter Try.func62, Try.ntmps62
 go_wp2
 go_ret
 exact ⟨z1_9_, z1_10_⟩

/-! ### spec_l1Cur_tier: function 33 -/
theorem spec_l1Cur_tier.calls (k : Nat) (g : Nat) (s0_0 : List Int) (s0_1 : Int) (s0_2 : Int) (r1 : List (S50)) (r2 : Int) (r3 : Int) (w0 w : World) (hI : IsS62 w0 w g s0_0 s0_1 s0_2) (hB : Below w0.heap.size w0 w) (h : spec_l1Cur_tier.f k s0_0 s0_1 s0_2 = some (r1, r2, r3)) :
 Calls Try.prog 33 #[.pointer (some ⟨g, 0, none⟩)] w fun e w' => ∃ v0_ : Value, e = .returned (v0_) ∧ Kd.R k50 50 w' w.heap.size (fun _ => True) v0_ r1 ∧ IsS62 w0 w' g s0_0 r2 r3 ∧ Below w0.heap.size w0 w' ∧ KeepBut w w' g none := by
 have hu50 := Try.underlying50
 have HI0 := Aside0.mk hI
 have HK := Aside0.mk (KeepBut.refl w g none)
 have HL := Aside0.mk hB.size
 clear hI
 have HW0 := Aside0.mk hB.size
 have HB := Aside0.mk hB
 clear hB
 have H : ((spec_l1Cur_pick.f s0_0 s0_1 s0_2 10).bind fun bt154 => ((spec_l1Cur_pick.f s0_0 bt154.2.1 bt154.2.2 8).bind fun bt157 => ((spec_l1Cur_one.f s0_0 bt157.2.1 bt157.2.2 12).bind fun bt160 => (if bt160.1 = true then ((spec_l1Cur_pick.f s0_0 bt160.2.1 bt160.2.2 2).bind fun bt163 => (spec_l1Cur_tier.j0 k ([] : List (S50)) bt154.1 (wrap64 (40 + bt163.1)) s0_0 bt163.2.1 bt163.2.2)) else (spec_l1Cur_tier.j0 k ([] : List (S50)) bt154.1 bt157.1 s0_0 bt160.2.1 bt160.2.2))))) = some (r1, r2, r3) := h
 clear h
 replace H := ob_ H; obtain ⟨⟨t154, t155, t156⟩, A2, H⟩ := H; try dsimp only at H
 replace H := ob_ H; obtain ⟨⟨t157, t158, t159⟩, A3, H⟩ := H; try dsimp only at H
 replace H := ob_ H; obtain ⟨⟨t160, t161, t162⟩, A4, H⟩ := H; try dsimp only at H
 have HC5 := Aside0.mk H
 clear H
 go_enter Try.func33, Try.ntmps33
 go_upto_if 13 with (first | (refine gM_ (some 9) Try.func58 #[.pointer (some ⟨g, 0, none⟩), .int .i64 10] ?_; (with_reducible refine (spec_l1Cur_pick.calls g s0_0 s0_1 s0_2 10 t154 t155 t156 w0 _ ?side1 ?side2 A2.out).mono ?_); (case side1 => exact z1_0_); (case side2 => exact z1_1_); rintro e w6 ⟨rfl, hi, hb, hk⟩; refine ⟨_, rfl, ?_⟩; replace HK := aM_ (KeepBut.trans z1_2_ hk (.inl rfl)); replace HB := aM_ (hb); replace HI0 := aM_ (hi); (try clear hb); (try clear hk); (try clear hi)) | (refine gM_ (some 11) Try.func58 #[.pointer (some ⟨g, 0, none⟩), .int .i64 8] ?_; (with_reducible refine (spec_l1Cur_pick.calls g s0_0 t155 t156 8 t157 t158 t159 w0 _ ?side1 ?side2 A3.out).mono ?_); (case side1 => exact z1_0_); (case side2 => exact z1_1_); rintro e w7 ⟨rfl, hi, hb, hk⟩; refine ⟨_, rfl, ?_⟩; replace HK := aM_ (KeepBut.trans z1_2_ hk (.inl rfl)); replace HB := aM_ (hb); replace HI0 := aM_ (hi); (try clear hb); (try clear hk); (try clear hi)) | (refine gM_ (some 13) Try.func59 #[.pointer (some ⟨g, 0, none⟩), .int .i64 12] ?_; (with_reducible refine (spec_l1Cur_one.calls g s0_0 t158 t159 12 t160 t161 t162 w0 _ ?side1 ?side2 A4.out).mono ?_); (case side1 => exact z1_0_); (case side2 => exact z1_1_); rintro e w8 ⟨rfl, hi, hb, hk⟩; refine ⟨_, rfl, ?_⟩; replace HK := aM_ (KeepBut.trans z1_2_ hk (.inl rfl)); replace HB := aM_ (hb); replace HI0 := aM_ (hi); (try clear hb); (try clear hk); (try clear hi)))
 (try simp only [Act.put, List.setIfInBounds_toArray, List.set_cons_zero, List.set_cons_succ])
 go_cut [5] (fun v5 wc => ∃ (kq : Nat) (x5_4 : Int) (x1001_4 : Int) (x1002_4 : Int), v5 = .int .i64 x5_4 ∧ Aside0 (spec_l1Cur_tier.j0 kq ([] : List (S50)) t154 x5_4 s0_0 x1001_4 x1002_4 = some (r1, r2, r3)) ∧ Aside0 (kq ≤ k) ∧ Aside0 (Kd.R k50 50 wc w.heap.size (fun _ => True) (.slice none 0 0) ([] : List (S50))) ∧ Aside0 (IsS62 w0 wc g s0_0 x1001_4 x1002_4) ∧ Aside0 (KeepBut w wc g none) ∧ Aside0 (Below w0.heap.size w0 wc))
 case first =>
  have H := HC5.out
  clear HC5
  by_cases c9 : t160 = true
  rotate_left
  ·replace c9 := Bool.eq_false_iff.mpr c9
   subst c9
   replace H := in_ H (show ¬ (false = true) by decide)
   have H' := Aside0.mk H
   clear H
   go_wp2
   go_meet
   case rel => exact ⟨_, (t157), (t161), (t162), z1_9_, H', ⟨oR_⟩, ⟨z1_11_⟩, ⟨z1_0_⟩, ⟨z1_2_⟩, ⟨z1_1_⟩⟩
  subst c9
  replace H := ip_ H rfl
  replace H := ob_ H; obtain ⟨⟨t163, t164, t165⟩, A10, H⟩ := H; try dsimp only at H
  have H' := Aside0.mk H
  clear H
  go_wp2_with (first | (refine gM_ (some 15) Try.func58 #[.pointer (some ⟨g, 0, none⟩), .int .i64 2] ?_; (with_reducible refine (spec_l1Cur_pick.calls g s0_0 t161 t162 2 t163 t164 t165 w0 _ ?side1 ?side2 A10.out).mono ?_); (case side1 => exact z1_0_); (case side2 => exact z1_1_); rintro e w11 ⟨rfl, hi, hb, hk⟩; refine ⟨_, rfl, ?_⟩; replace HK := aM_ (KeepBut.trans z1_2_ hk (.inl rfl)); replace HB := aM_ (hb); replace HI0 := aM_ (hi); (try clear hb); (try clear hk); (try clear hi)))
  go_meet
  case rel => exact ⟨_, (wrap64 (40 + t163)), (t164), (t165), z1_9_, H', ⟨oR_⟩, ⟨z1_11_⟩, ⟨z1_0_⟩, ⟨z1_2_⟩, ⟨z1_1_⟩⟩
 case rest =>
  clear HC5
  obtain ⟨kq, x5_4, x1001_4, x1002_4, rfl, HA, HJ4, HO_3, HI0, HK, HB⟩ := hcut
  cases kq with
  | zero => exact absurd HA.out (by simp [spec_l1Cur_tier.j0])
  | succ kj4 =>
   have H := HA.out
   clear HA
   simp only [spec_l1Cur_tier.j0] at H
   have H' := Aside0.mk H
   clear H
   go_wp2
   go_loopg [3, 4] kj4 (fun kq v3 v4 w' => ∃ (x3_2 : List (S50)) (x4_2 : Int) (x1001_2 : Int) (x1002_2 : Int), v4 = .int .i64 x4_2 ∧ Aside0 (spec_l1Cur_tier.l0 kq x3_2 x4_2 x5_4 s0_0 x1001_2 x1002_2 = some (r1, r2, r3)) ∧ Aside0 (kq ≤ kj4) ∧ Aside0 (Kd.R k50 50 w' w.heap.size (fun _ => True) v3 x3_2) ∧ Aside0 (IsS62 w0 w' g s0_0 x1001_2 x1002_2) ∧ Aside0 (KeepBut w w' g none) ∧ Aside0 (Below w0.heap.size w0 w'))
   case atStart => exact ⟨(([] : List (S50))), (t154), (x1001_4), (x1002_4), z1_9_, H', ⟨Nat.le_refl _⟩, ⟨(rR_ HO_3)⟩, ⟨z1_0_⟩, ⟨z1_2_⟩, ⟨z1_1_⟩⟩
   case round =>
    clear H'
    obtain ⟨x3_2, x4_2, x1001_2, x1002_2, rfl, HA, HK2, HO_3, HI0, HK, HB⟩ := hrel
    cases gk with
    | zero => exact absurd HA.out (by simp [spec_l1Cur_tier.l0])
    | succ k2 =>
     have H := HA.out
     clear HA
     simp only [spec_l1Cur_tier.l0] at H
     replace H := iF_ H; obtain ⟨c12b0, H⟩ | ⟨c12b0, H⟩ := H
     ·simp only [Option.some.injEq, Prod.mk.injEq] at H
      obtain ⟨rfl, rfl, rfl⟩ := H
      obtain ⟨Ao51, co51, eo51⟩ := Kd.R_slice HO_3.out
      subst eo51
      go_wp2
      go_ret
      exact ⟨_, rT_, (rR_ HO_3), z1_0_, z1_1_, z1_2_⟩
     replace H := ob_ H; obtain ⟨⟨t166, t167, t168, t169, t170⟩, A13, H⟩ := H; try dsimp only at H
     have HC14 := Aside0.mk H
     clear H
     obtain ⟨Ao15, co15, eo15⟩ := Kd.R_slice HO_3.out
     subst eo15
     go_upto_region 9 with (first | (refine gM_ (some 23) Try.func60 #[.pointer (some ⟨g, 0, none⟩), .int .i64 x4_2] ?_; (with_reducible refine (spec_l1Cur_note.calls g s0_0 x1001_2 x1002_2 x4_2 t166 t167 t168 t169 t170 w0 _ ?side1 ?side2 A13.out).mono ?_); (case side1 => exact z1_0_); (case side2 => exact z1_1_); rintro e w16 ⟨rfl, hi, hb, hk⟩; refine ⟨_, rfl, ?_⟩; replace HO_3 := aM_ (Kd.R_mono (Kd.R_keep (IsS62.apart (show IsS62 w0 _ g s0_0 x1001_2 x1002_2 from by repeat (first | (with_reducible first | exact HI0.out | apply IsS62.alloc | apply IsS62.drewN | apply IsS62.drew | apply IsS62.set_1 | apply IsS62.set_2) | exact HI0.out)) (rR_ HO_3) (by decide)) hk (fun _ h => h.2)) (fun _ h => h.1)); replace HK := aM_ (KeepBut.trans z1_2_ hk (.inl rfl)); replace HB := aM_ (hb); replace HI0 := aM_ (hi); (try clear hb); (try clear hk); (try clear hi)) | ((with_reducible refine gate_dst (N := 6) rfl ?_); refine bx_ 6 #[.int .i64 0, .int .i64 0, .string (⟨#[]⟩ : ByteArray)] 50 fun gb171 hg w17 hbox hb => ?_; have BK171 := aM_ (hbox); have GW171 := aM_ ((by rw [hg]; exact (keep_size (w := w) (g := g) (row := none) z1_2_) : w.heap.size ≤ gb171)); have GE171 := aM_ ((Nat.le_trans HW0.out (by rw [hg]; exact (keep_size (w := w) (g := g) (row := none) z1_2_) : w.heap.size ≤ gb171) : w0.heap.size ≤ gb171)); have NB0_171 := aM_ ((by rw [hg]; exact Nat.ne_of_lt (IsS62.lt (show IsS62 w0 _ g s0_0 t169 t170 from by repeat (first | (with_reducible first | exact HI0.out | apply IsS62.alloc | apply IsS62.drewN | apply IsS62.drew | apply IsS62.set_1 | apply IsS62.set_2) | exact HI0.out))) : g ≠ gb171)); have NB171_0 := aM_ ((by rw [hg]; exact Nat.ne_of_gt (IsS62.lt (show IsS62 w0 _ g s0_0 t169 t170 from by repeat (first | (with_reducible first | exact HI0.out | apply IsS62.alloc | apply IsS62.drewN | apply IsS62.drew | apply IsS62.set_1 | apply IsS62.set_2) | exact HI0.out))) : gb171 ≠ g)); replace HO_3 := aM_ (Kd.R_below (Kd.R_elderB (rR_ HO_3) gb171 (Nat.le_of_eq hg.symm)) hb); replace HK := aM_ (KeepBut.trans z1_2_ (KeepBut.of_below hb g none) (.inl rfl)); replace HB := aM_ (below_step z1_1_ hb); replace HI0 := aM_ (IsS62.below z1_0_ hb); clear hb hbox hg; have hnb18 := NB171_0.out; have hnc18 := NB0_171.out; have hz19 := cf3_ BK171.out))
     (try simp only [Act.put, List.setIfInBounds_toArray, List.set_cons_zero, List.set_cons_succ])
     go_cut [31] (fun v31 wc => ∃ (kq : Nat) (x31_13 : Bool) (x1001_13 : Int) (x1002_13 : Int), v31 = .bool x31_13 ∧ Aside0 (spec_l1Cur_tier.j2 kq x3_2 x5_4 (x3_2.length : Int) x31_13 s0_0 x1001_13 x1002_13 t166 t167 t168 = some (r1, r2, r3)) ∧ Aside0 (kq ≤ k2) ∧ Aside0 (Kd.R k50 50 wc w.heap.size (fun k_ => k_ ≠ gb171) (.slice Ao15 x3_2.length co15) x3_2) ∧ Aside0 (wc.heap[gb171]? = some (.cells #[.int .i64 t166, .int .i64 t167, .string t168] 50 (0, 0))) ∧ Aside0 (IsS62 w0 wc g s0_0 x1001_13 x1002_13) ∧ Aside0 (KeepBut w wc g none) ∧ Aside0 (Below w0.heap.size w0 wc))
     case first =>
      have H := HC14.out
      clear HC14
      by_cases c20 : (x3_2.length : Int) > 0
      rotate_left
      ·rw [if_neg c20] at H
       have c20b0 : decide (0 < (x3_2.length : Int)) = false := decide_eq_false c20
       have c20b1 : decide (0 < x3_2.length) = false := decide_eq_false (by omega)
       clear c20
       (first | rw [c20b0] | (simp only [i64_w, i32_w]; rw [c20b0]) | skip)
       have H' := Aside0.mk H
       clear H
       go_wp2
       go_meet
       case rel => exact ⟨_, (false), (t169), (t170), z1_9_, H', ⟨by have := HJ4.out; have := HK2.out; first | omega | exact Nat.le_refl _⟩, ⟨by (with_reducible repeat (first | apply rA_ | apply rN_ | apply rD_)); exact Kd.R_mono (Kd.R_far (p := ⟨gb171, 2, none⟩) (Kd.R_far (p := ⟨gb171, 1, none⟩) (Kd.R_far (p := ⟨gb171, 0, none⟩) (Kd.R_mono HO_3.out (fun k_ hk => (⟨hk, hk.2⟩ : _ ∧ k_ ≠ gb171))) (fun _ hk => hk.2) (.int .i64 t166)) (fun _ hk => hk.2) (.int .i64 t167)) (fun _ hk => hk.2) (.string t168)) (fun _ hk => hk.1.2)⟩, ⟨z1_12_⟩, ⟨z1_5_⟩, ⟨z1_13_⟩, ⟨z1_14_⟩⟩
      rw [if_pos c20] at H
      have c20b0 : decide (0 < (x3_2.length : Int)) = true := decide_eq_true c20
      have c20b1 : decide (0 < x3_2.length) = true := decide_eq_true (by omega)
      clear c20
      (first | rw [c20b0] | (simp only [i64_w, i32_w]; rw [c20b0]) | skip)
      replace H := ob_ H; obtain ⟨⟨t172, t173, t174⟩, A21, H⟩ := H; try dsimp only at H
      have H' := Aside0.mk H
      clear H
      go_wp2_with (first | (go_at_call 59; (with_reducible refine (spec_l1Cur_one.calls g s0_0 t169 t170 4 t172 t173 t174 w0 _ ?side1 ?side2 A21.out).mono ?_); (case side1 => exact z1_5_); (case side2 => exact z1_14_); rintro e w22 ⟨rfl, hi, hb, hk⟩; replace HO_3 := aM_ (Kd.R_mono (Kd.R_keep (IsS62.apart (show IsS62 w0 _ g s0_0 t169 t170 from by repeat (first | (with_reducible first | exact HI0.out | apply IsS62.alloc | apply IsS62.drewN | apply IsS62.drew | apply IsS62.set_1 | apply IsS62.set_2 | refine IsS62.far ?_ (Aside0.out z1_6_) _) | exact HI0.out)) (by (with_reducible repeat (first | apply rA_ | apply rN_ | apply rD_)); exact (Kd.R_mono (Kd.R_far (p := ⟨gb171, 2, none⟩) (Kd.R_far (p := ⟨gb171, 1, none⟩) (Kd.R_far (p := ⟨gb171, 0, none⟩) (Kd.R_mono HO_3.out (fun k_ hk => (⟨hk, hk.2⟩ : _ ∧ k_ ≠ gb171))) (fun _ hk => hk.2) (.int .i64 t166)) (fun _ hk => hk.2) (.int .i64 t167)) (fun _ hk => hk.2) (.string t168)) (fun _ h_ => h_.1))) (by decide)) hk (fun _ h => h.2)) (fun _ h => h.1)); replace BK171 := aM_ (KeepBut.blk hk (g' := gb171) (o := .cells #[.int .i64 t166, .int .i64 t167, .string t168] 50 (0, 0)) z1_12_ NB171_0.out (by simp)); replace HK := aM_ (KeepBut.trans z1_13_ hk (.inl rfl)); replace HB := aM_ (hb); replace HI0 := aM_ (hi); (try clear hb); (try clear hk); (try clear hi)))
      go_meet
      case rel => exact ⟨_, (t172), (t173), (t174), z1_9_, H', ⟨by have := HJ4.out; have := HK2.out; first | omega | exact Nat.le_refl _⟩, ⟨rM_ HO_3 (fun _ hk => hk.2)⟩, ⟨kP_⟩, ⟨z1_5_⟩, ⟨z1_13_⟩, ⟨z1_14_⟩⟩
     case rest =>
      clear HC14
      (try clear c12);(try clear c12b0);(try clear hcz19_0);(try clear hcz19_1);(try clear hcz19_2);(try clear hfz19_0);(try clear hfz19_1);(try clear hfz19_2)
      obtain ⟨kq, x31_13, x1001_13, x1002_13, rfl, HA, HJ13, HO_3, BK171, HI0, HK, HB⟩ := hcut
      cases kq with
      | zero => exact absurd HA.out (by simp [spec_l1Cur_tier.j2])
      | succ kj13 =>
       have H := HA.out
       clear HA
       simp only [spec_l1Cur_tier.j2] at H
       by_cases c23 : x31_13 = true
       rotate_left
       ·replace c23 := Bool.eq_false_iff.mpr c23
        subst c23
        replace H := in_ H (show ¬ (false = true) by decide)
        replace H := il_ H; obtain ⟨LMc39, H⟩ := H
        obtain ⟨y187, hy187⟩ : ∃ y_ : List (S50), y_ = (x3_2 ++ [(⟨t166, t167, t168⟩ : S50)]) := ⟨_, rfl⟩
        rw [← hy187] at H
        have Ny187 := Aside0.mk hy187; clear hy187
        replace H := ob_ H; obtain ⟨t190, A40, H⟩ := H; try dsimp only at H
        replace H := ob_ H; obtain ⟨t191, A41, H⟩ := H; try dsimp only at H
        obtain ⟨y192, hy192⟩ : ∃ y_ : List Int, y_ = (([0, 0, 2, 5] : List Int)) := ⟨_, rfl⟩
        rw [← hy192] at H
        have Ny192 := Aside0.mk hy192; clear hy192
        replace H := ob_ H; obtain ⟨⟨t195, t196, t197⟩, A42, H⟩ := H; try dsimp only at H
        have H' := Aside0.mk H
        clear H
        have hnb43 := NB171_0.out
        have hnc43 := NB0_171.out
        have hz44 := cf3_ BK171.out
        go_wp2_with (first | ((with_reducible refine gate_builtin (b := .append) (xs := #[.tmp 39, .tmp 41]) rfl ?_); at_builtin; refine Kd.R_append k50 w.heap.size rfl (.tmp 39) (.tmp 41) 23 50 (.agg #[(.int .i64 0), (.int .i64 0), (.string ⟨#[]⟩)]) 32 rfl Try.underlying23 info50 rfl (by decide) (by omega) (.slice Ao15 x3_2.length co15) x3_2 (⟨t166, t167, t168⟩ : S50) [.int .i64 t166, .int .i64 t167, .string t168] (fun k_ => k_ ≠ gb171) (fun _ => False) rfl rfl ?aP (fun _ hk => hk.elim) ?aF ?aO (Below.refl _ _) ?aS ?aL ?_; (case aP => exact k50_mkM _ _ _ (⟨t166, t167, t168⟩ : S50)); (case aF => exact (fun k_ hk => Kd.freshB (g := gb171) kP_ k_ hk)); (case aO => exact (rR_ HO_3)); (case aS => exact (keep_size (w := w) (g := g) (row := none) z1_13_)); (case aL => have := LMc39.out; omega); intro v188 w45 ho hb hg hat; rw [← Ny187.out] at ho; have HO189 := aM_ (ho); replace BK171 := aM_ (blk_grown (g := gb171) (kR_ BK171) hg (Kd.R_away HO_3.out (fun _ hk => hk))); replace HB := aM_ (below_weaken z1_14_ HL.out hb); replace HI0 := aM_ (IsS62.grown z1_5_ hg (IsS62.own_ne HI0.out HO_3.out (by decide))); replace HK := aM_ (KeepBut.trans z1_13_ (KeepBut.of_grown hg g) (Kd.R_base2 HO_3.out)); clear HO_3; clear ho hb hg hat; have hz46 := cf3_ BK171.out) | (refine gM_ (some 45) Try.func62 #[.int .i64 0, .int .i64 t167] ?_; (with_reducible refine (spec_l1Most.calls 0 t167 t190 _ A40.out).mono ?_); rintro e w' ⟨rfl, ⟨nd, rfl⟩⟩; refine ⟨_, rfl, ?_⟩) | (refine gM_ (some 46) Try.func61 #[.int .i64 90000, .int .i64 t190] ?_; (with_reducible refine (spec_l1Least.calls 90000 t190 t191 _ A41.out).mono ?_); rintro e w' ⟨rfl, ⟨nd, rfl⟩⟩; refine ⟨_, rfl, ?_⟩) | ((with_reducible refine gate_dst (N := 48) rfl ?_); refine rl_ (Kd.int .i64) 3 48 ([0, 0, 2, 5] : List Int) [.int .i64 0, .int .i64 0, .int .i64 2, .int .i64 5] (Reps.one (show Kd.M (Kd.int .i64) _ _ _ 0 [.int .i64 0] from rfl) (Reps.one (show Kd.M (Kd.int .i64) _ _ _ 0 [.int .i64 0] from rfl) (Reps.one (show Kd.M (Kd.int .i64) _ _ _ 2 [.int .i64 2] from rfl) (Reps.one (show Kd.M (Kd.int .i64) _ _ _ 5 [.int .i64 5] from rfl) (Reps.none _ _))))) ?_; intro v193 w47 ho48 hb hg_ hnew_; clear hg_ hnew_; (first | rw [← Ny192.out] at ho48 | (simp only [Int.reduceToNat] at ho48; rw [← Ny192.out] at ho48)); have HO194 := aM_ (Kd.R_lower ho48 (keep_size (w := w) (g := g) (row := none) z1_13_)); replace HO189 := aM_ (Kd.R_below (rR_ HO189) hb); replace BK171 := aM_ (blk_below (g := gb171) (kR_ BK171) hb); replace HK := aM_ (KeepBut.trans z1_13_ (KeepBut.of_below hb g none) (.inl rfl)); replace HB := aM_ (below_step z1_14_ hb); replace HI0 := aM_ (IsS62.below z1_5_ hb); clear hb ho48; obtain ⟨Ao49, co49, eo49⟩ := Kd.R_slice HO194.out; subst eo49) | (refine gM_ (some 49) Try.func47 #[.pointer (some ⟨g, 0, none⟩), .slice Ao49 y192.length co49] ?_; (with_reducible refine (spec_l1Cur_among.calls g s0_0 x1001_13 x1002_13 _ _ y192 t195 t196 t197 w0 _ ?side1 ?side2 ?side3 ?side4 ?side5 A42.out).mono ?_); (case side1 => exact z1_5_); (case side2 => exact z1_14_); (case side3 => exact cR_ HO194); (case side4 => exact (Kd.R_reads' HO194.out).2.1); (case side5 => exact far_slice (IsS62.own_ne HI0.out HO194.out (by decide))); rintro e w50 ⟨rfl, hi, hb, hk⟩; refine ⟨_, rfl, ?_⟩; replace BK171 := aM_ (KeepBut.blk hk (g' := gb171) (o := .cells #[.int .i64 t166, .int .i64 t167, .string t168] 50 (0, 0)) (kR_ BK171) NB171_0.out (by simp)); replace HO189 := aM_ (Kd.R_mono (Kd.R_keep (IsS62.apart (show IsS62 w0 _ g s0_0 x1001_13 x1002_13 from by repeat (first | (with_reducible first | exact HI0.out | apply IsS62.alloc | apply IsS62.drewN | apply IsS62.drew | apply IsS62.set_1 | apply IsS62.set_2 | refine IsS62.far ?_ (Aside0.out z1_6_) _) | exact HI0.out)) (rR_ HO189) (by decide)) hk (fun _ h => h.2)) (fun _ h => h.1)); replace HO194 := aM_ (Kd.R_mono (Kd.R_keep (IsS62.apart (show IsS62 w0 _ g s0_0 x1001_13 x1002_13 from by repeat (first | (with_reducible first | exact HI0.out | apply IsS62.alloc | apply IsS62.drewN | apply IsS62.drew | apply IsS62.set_1 | apply IsS62.set_2 | refine IsS62.far ?_ (Aside0.out z1_6_) _) | exact HI0.out)) (rR_ HO194) (by decide)) hk (fun _ h => h.2)) (fun _ h => h.1)); replace HK := aM_ (KeepBut.trans z1_13_ hk (.inl rfl)); replace HB := aM_ (hb); replace HI0 := aM_ (hi); (try clear hb); (try clear hk); (try clear hi)))
        go_roundg kj13
        case measure => have := HJ4.out; have := HK2.out; have := HJ13.out; omega
        case rel => exact ⟨(y187), (wrap64 (t191 + t195)), (t196), (t197), z1_9_, H', ⟨by have := HJ4.out; have := HK2.out; have := HJ13.out; omega⟩, ⟨rT1_ HO189⟩, ⟨z1_5_⟩, ⟨z1_13_⟩, ⟨z1_14_⟩⟩
       subst c23
       replace H := ip_ H rfl
       obtain ⟨ji24, hji24⟩ : ∃ j_ : Int, (wrap64 ((x3_2.length : Int) - 1)) = j_ := ⟨_, rfl⟩
       replace H : (if 0 ≤ (ji24) then (if (ji24) < (x3_2.length : Int) then (if x3_2.length < 4398046511104 then ((spec_l1Most.f 0 t167).bind fun t179 => ((spec_l1Least.f 90000 t179).bind fun t180 => ((spec_l1Cur_among.f s0_0 x1001_13 x1002_13 (([0, 0, 2, 5] : List Int))).bind fun bt184 => (spec_l1Cur_tier.l0 kj13 (x3_2 ++ [(⟨t166, t167, (rd_T50 x3_2 (ji24)).f2⟩ : S50)]) (wrap64 (t180 + bt184.1)) x5_4 s0_0 bt184.2.1 bt184.2.2)))) else (none)) else (none)) else (none)) = some (r1, r2, r3) := by first | (rw [hji24] at H; exact H) | (simp only [hji24] at H ⊢; exact H)
       have hji24w : (IntKind.i64.wrap ((x3_2.length : Int) - 1)) = ji24 := (i64_w _).trans hji24
       replace H := ig_ H; obtain ⟨c25b0, H⟩ := H
       replace H := ig_ H; obtain ⟨c26b0, H⟩ := H
       replace H := il_ H; obtain ⟨LMc27, H⟩ := H
       obtain ⟨y176, hy176⟩ : ∃ y_ : List (S50), y_ = (x3_2 ++ [(⟨t166, t167, (rd_T50 x3_2 (ji24)).f2⟩ : S50)]) := ⟨_, rfl⟩
       rw [← hy176] at H
       have Ny176 := Aside0.mk hy176; clear hy176
       replace H := ob_ H; obtain ⟨t179, A28, H⟩ := H; try dsimp only at H
       replace H := ob_ H; obtain ⟨t180, A29, H⟩ := H; try dsimp only at H
       obtain ⟨y181, hy181⟩ : ∃ y_ : List Int, y_ = (([0, 0, 2, 5] : List Int)) := ⟨_, rfl⟩
       rw [← hy181] at H
       have Ny181 := Aside0.mk hy181; clear hy181
       replace H := ob_ H; obtain ⟨⟨t184, t185, t186⟩, A30, H⟩ := H; try dsimp only at H
       have H' := Aside0.mk H
       clear H
       obtain ⟨⟨ad175, e175, hx175_0, hx175_1, hx175_2⟩, p175, q175⟩ := at2_ (at_T50 (Kd.R_reads' HO_3.out).2.2 (ji24)); cases e175
       have hnb31 := NB171_0.out
       have hnc31 := NB0_171.out
       have hz32 := cf3_ BK171.out
       go_wp2_with (first | ((with_reducible refine gate_builtin (b := .append) (xs := #[.tmp 39, .tmp 41]) rfl ?_); at_builtin; refine Kd.R_append k50 w.heap.size rfl (.tmp 39) (.tmp 41) 23 50 (.agg #[(.int .i64 0), (.int .i64 0), (.string ⟨#[]⟩)]) 32 rfl Try.underlying23 info50 rfl (by decide) (by omega) (.slice (some ad175) x3_2.length co15) x3_2 (⟨t166, t167, (rd_T50 x3_2 (ji24)).f2⟩ : S50) [.int .i64 t166, .int .i64 t167, .string ((rd_T50 x3_2 (ji24)).f2)] (fun k_ => k_ ≠ gb171) (fun _ => False) rfl (by first | (go_simp; done) | (go_simp; rfl)) ?aP (fun _ hk => hk.elim) ?aF ?aO (Below.refl _ _) ?aS ?aL ?_; (case aP => exact k50_mkM _ _ _ (⟨t166, t167, (rd_T50 x3_2 (ji24)).f2⟩ : S50)); (case aF => exact (fun k_ hk => Kd.freshB (g := gb171) (o := .cells #[.int .i64 t166, .int .i64 t167, .string ((rd_T50 x3_2 (ji24)).f2)] 50 (0, 0)) z1_15_ k_ hk)); (case aO => exact (by (with_reducible repeat (first | apply rA_ | apply rN_ | apply rD_)); exact Kd.R_mono (Kd.R_far (p := ⟨gb171, 2, none⟩) (Kd.R_mono HO_3.out (fun k_ hk => (⟨hk, hk⟩ : _ ∧ k_ ≠ gb171))) (fun _ hk => hk.2) (.string ((rd_T50 x3_2 (ji24)).f2))) (fun _ hk => hk.1))); (case aS => exact (keep_size (w := w) (g := g) (row := none) z1_13_)); (case aL => have := LMc27.out; omega); intro v177 w33 ho hb hg hat; rw [← Ny176.out] at ho; have HO178 := aM_ (ho); replace BK171 := aM_ (blk_grown (g := gb171) (o := .cells #[.int .i64 t166, .int .i64 t167, .string ((rd_T50 x3_2 (ji24)).f2)] 50 (0, 0)) z1_15_ hg (Kd.R_away HO_3.out (fun _ hk => hk))); replace HB := aM_ (below_weaken z1_14_ HL.out hb); replace HI0 := aM_ (IsS62.grown (show IsS62 w0 (wc.setCell ⟨gb171, 2, none⟩ (.string ((rd_T50 x3_2 (ji24)).f2))) g s0_0 x1001_13 x1002_13 from by repeat (first | (with_reducible first | exact HI0.out | apply IsS62.alloc | apply IsS62.drewN | apply IsS62.drew | apply IsS62.set_1 | apply IsS62.set_2 | refine IsS62.far ?_ (Aside0.out z1_6_) _) | exact HI0.out)) hg (IsS62.own_ne HI0.out HO_3.out (by decide))); replace HK := aM_ (KeepBut.trans z1_13_ (KeepBut.of_grown hg g) (Kd.R_base2 HO_3.out)); clear HO_3; clear ho hb hg hat; have hz34 := cf3_ BK171.out) | (refine gM_ (some 45) Try.func62 #[.int .i64 0, .int .i64 t167] ?_; (with_reducible refine (spec_l1Most.calls 0 t167 t179 _ A28.out).mono ?_); rintro e w' ⟨rfl, ⟨nd, rfl⟩⟩; refine ⟨_, rfl, ?_⟩) | (refine gM_ (some 46) Try.func61 #[.int .i64 90000, .int .i64 t179] ?_; (with_reducible refine (spec_l1Least.calls 90000 t179 t180 _ A29.out).mono ?_); rintro e w' ⟨rfl, ⟨nd, rfl⟩⟩; refine ⟨_, rfl, ?_⟩) | ((with_reducible refine gate_dst (N := 48) rfl ?_); refine rl_ (Kd.int .i64) 3 48 ([0, 0, 2, 5] : List Int) [.int .i64 0, .int .i64 0, .int .i64 2, .int .i64 5] (Reps.one (show Kd.M (Kd.int .i64) _ _ _ 0 [.int .i64 0] from rfl) (Reps.one (show Kd.M (Kd.int .i64) _ _ _ 0 [.int .i64 0] from rfl) (Reps.one (show Kd.M (Kd.int .i64) _ _ _ 2 [.int .i64 2] from rfl) (Reps.one (show Kd.M (Kd.int .i64) _ _ _ 5 [.int .i64 5] from rfl) (Reps.none _ _))))) ?_; intro v182 w35 ho36 hb hg_ hnew_; clear hg_ hnew_; (first | rw [← Ny181.out] at ho36 | (simp only [Int.reduceToNat] at ho36; rw [← Ny181.out] at ho36)); have HO183 := aM_ (Kd.R_lower ho36 (keep_size (w := w) (g := g) (row := none) z1_13_)); replace HO178 := aM_ (Kd.R_below (rR_ HO178) hb); replace BK171 := aM_ (blk_below (g := gb171) (kR_ BK171) hb); replace HK := aM_ (KeepBut.trans z1_13_ (KeepBut.of_below hb g none) (.inl rfl)); replace HB := aM_ (below_step z1_14_ hb); replace HI0 := aM_ (IsS62.below z1_5_ hb); clear hb ho36; obtain ⟨Ao37, co37, eo37⟩ := Kd.R_slice HO183.out; subst eo37) | (refine gM_ (some 49) Try.func47 #[.pointer (some ⟨g, 0, none⟩), .slice Ao37 y181.length co37] ?_; (with_reducible refine (spec_l1Cur_among.calls g s0_0 x1001_13 x1002_13 _ _ y181 t184 t185 t186 w0 _ ?side1 ?side2 ?side3 ?side4 ?side5 A30.out).mono ?_); (case side1 => exact z1_5_); (case side2 => exact z1_14_); (case side3 => exact cR_ HO183); (case side4 => exact (Kd.R_reads' HO183.out).2.1); (case side5 => exact far_slice (IsS62.own_ne HI0.out HO183.out (by decide))); rintro e w38 ⟨rfl, hi, hb, hk⟩; refine ⟨_, rfl, ?_⟩; replace BK171 := aM_ (KeepBut.blk hk (g' := gb171) (o := .cells #[.int .i64 t166, .int .i64 t167, .string ((rd_T50 x3_2 (ji24)).f2)] 50 (0, 0)) (kR_ BK171) NB171_0.out (by simp)); replace HO178 := aM_ (Kd.R_mono (Kd.R_keep (IsS62.apart (show IsS62 w0 _ g s0_0 x1001_13 x1002_13 from by repeat (first | (with_reducible first | exact HI0.out | apply IsS62.alloc | apply IsS62.drewN | apply IsS62.drew | apply IsS62.set_1 | apply IsS62.set_2 | refine IsS62.far ?_ (Aside0.out z1_6_) _) | exact HI0.out)) (rR_ HO178) (by decide)) hk (fun _ h => h.2)) (fun _ h => h.1)); replace HO183 := aM_ (Kd.R_mono (Kd.R_keep (IsS62.apart (show IsS62 w0 _ g s0_0 x1001_13 x1002_13 from by repeat (first | (with_reducible first | exact HI0.out | apply IsS62.alloc | apply IsS62.drewN | apply IsS62.drew | apply IsS62.set_1 | apply IsS62.set_2 | refine IsS62.far ?_ (Aside0.out z1_6_) _) | exact HI0.out)) (rR_ HO183) (by decide)) hk (fun _ h => h.2)) (fun _ h => h.1)); replace HK := aM_ (KeepBut.trans z1_13_ hk (.inl rfl)); replace HB := aM_ (hb); replace HI0 := aM_ (hi); (try clear hb); (try clear hk); (try clear hi)))
       go_roundg kj13
       case measure => have := HJ4.out; have := HK2.out; have := HJ13.out; omega
       case rel => exact ⟨(y176), (wrap64 (t180 + t184)), (t185), (t186), z1_9_, H', ⟨by have := HJ4.out; have := HK2.out; have := HJ13.out; omega⟩, ⟨rT1_ HO178⟩, ⟨z1_5_⟩, ⟨z1_13_⟩, ⟨z1_14_⟩⟩

/-! ### spec_DrawIsTier: function 26 -/
theorem spec_DrawIsTier.calls (k : Nat) (A0 : Option Addr) (c0 : Nat) (l0 : List Int) (r : List (S50)) (w : World) (hr0 : Kd.C (Kd.int .u8) w A0 l0.length l0) (hc0 : l0.length ≤ c0) (h : spec_DrawIsTier.f k l0 = some r) :
 Calls Try.prog 26 #[.slice A0 l0.length c0] w fun e w' => ∃ v0_ : Value, e = .returned (v0_) ∧ Kd.R k50 50 w' w.heap.size (fun _ => True) v0_ r ∧ Below w.heap.size w w' := by
 have hu62 := Try.underlying62
 have HR0 := Aside0.mk hr0
 have HC0 := Aside0.mk hc0
 clear hr0 hc0
 have HB := Aside0.mk (Below.refl w.heap.size w)
 have H : ((spec_l1Cur_tier.f k l0 0 0).bind fun bt199 => (some bt199.1)) = some r := h
 clear h
 replace H := ob_ H; obtain ⟨⟨t199, t202, t203⟩, A2, H⟩ := H; try dsimp only at H
 obtain rfl := Option.some.inj H
 go_enter Try.func26, Try.ntmps26
 go_wp2_with (first | ((with_reducible refine gate_dst (N := 6) rfl ?_); refine bx_ 6 #[.slice A0 l0.length c0, .int .i64 0, .int .u64 0] 62 fun gb198 hg w3 hbox hb => ?_; have HI198 := aM_ ((show IsS62 w w3 gb198 l0 0 0 from ⟨A0, c0, hbox, (by rw [hg]; exact (below_size hB_) : w.heap.size ≤ gb198), HR0.out⟩)); replace HB := aM_ (below_step hB_ hb); clear hb hbox hg) | (refine gM_ (some 8) Try.func33 #[.pointer (some ⟨gb198, 0, none⟩)] ?_; (with_reducible refine (spec_l1Cur_tier.calls k gb198 l0 0 0 t199 t202 t203 w _ ?side1 ?side2 A2.out).mono ?_); (case side1 => exact (by repeat (first | (with_reducible first | exact HI198.out | apply IsS62.alloc | apply IsS62.drewN | apply IsS62.drew | apply IsS62.set_1 | apply IsS62.set_2) | exact HI198.out))); (case side2 => exact z1_16_); rintro e w4 ⟨v200, rfl, ho0, hi, hb, hk⟩; refine ⟨_, rfl, ?_⟩; have HO201 := aM_ (Kd.R_lower ho0 (below_size z1_16_)); replace HB := aM_ (hb); replace HI198 := aM_ (hi); (try clear hb); (try clear hk); (try clear hi); (try clear ho0)))
 go_ret
 exact ⟨_, rT_, by (with_reducible repeat (first | apply rA_ | apply rN_ | apply rD_)); exact HO201.out, z1_16_⟩

/-! ### spec_DrawCountGlosses: function 4 -/
theorem spec_DrawCountGlosses.calls (k : Nat) (A0 : Option Addr) (c0 : Nat) (l0 : List Int) (r : List (S50)) (w : World) (hr0 : Kd.C (Kd.int .u8) w A0 l0.length l0) (hc0 : l0.length ≤ c0) (h : spec_DrawCountGlosses.f k l0 = some r) :
 Calls Try.prog 4 #[.slice A0 l0.length c0] w fun e w' => ∃ v0_ : Value, e = .returned (v0_) ∧ Kd.R k50 50 w' w.heap.size (fun _ => True) v0_ r ∧ Below w.heap.size w w' := by
 have HR0 := Aside0.mk hr0
 have HC0 := Aside0.mk hc0
 clear hr0 hc0
 have HB := Aside0.mk (Below.refl w.heap.size w)
 have H : ((spec_DrawIsTier.f k l0).bind fun t204 => (some t204)) = some r := h
 clear h
 replace H := ob_ H; obtain ⟨t204, A2, H⟩ := H; try dsimp only at H
 obtain rfl := Option.some.inj H
 go_enter Try.func4, Try.ntmps4
 go_wp2_with (first | (refine gM_ (some 4) Try.func26 #[.slice A0 l0.length c0] ?_; (with_reducible refine (spec_DrawIsTier.calls k _ _ l0 t204 _ ?side1 ?side2 A2.out).mono ?_); (case side1 => exact cC_ HR0); (case side2 => exact HC0.out); rintro e w3 ⟨v205, rfl, ho0, hb⟩; refine ⟨_, rfl, ?_⟩; have HO206 := aM_ (Kd.R_lower ho0 (below_size hB_)); replace HB := aM_ (below_step hB_ hb); (try clear hb); (try clear ho0)))
 go_ret
 exact ⟨_, rT_, by (with_reducible repeat (first | apply rA_ | apply rN_ | apply rD_)); exact HO206.out, hB_⟩

end Go.Proofs.Ytbfkpgmdbafmhaa.PFnTierCounts
