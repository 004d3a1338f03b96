/- Printed for this claim: functions of the program as Lean functions, and that the calls answer so. -/
import Derived.Test.YtbfkpgmdbafmhaaDoorPFnShapesx0
import Derived.Test.YtbfkpgmdbafmhaaDoorPFnShapesx2
import Derived.Test.YtbfkpgmdbafmhaaDoorPFnShapesxD0
import Derived.Test.YtbfkpgmdbafmhaaDoorPFnShapesxD1
namespace Go.Proofs.YtbfkpgmdbafmhaaDoor.PFnShapes
open Go.RowKit Go.Proofs.YtbfkpgmdbafmhaaDoorW.PrintWords Go.Proofs.YtbfkpgmdbafmhaaDoorW.PrintLast Go.Proofs.YtbfkpgmdbafmhaaDoorW.PrintMore
theorem z3_0_ {p : Prop} (h : p := by repeat (first | (with_reducible first | exact HI0.out | apply IsS59.alloc | apply IsS59.drewN | apply IsS59.drew | apply IsS59.set_1 | apply IsS59.set_2) | exact HI0.out)) : p := h
theorem z3_1_ {p : Prop} (h : p := by repeat (first | (with_reducible first | exact HB.out | apply lA_ | apply lN_ | apply lD_ | refine below_set ?_ (IsS59.ge HI0.out)) | exact HB.out)) : p := h
theorem z3_2_ {p : Prop} (h : p := by repeat (first | (with_reducible first | exact HK.out | apply KeepBut.set_ | apply keep_drewN | apply keep_drew | apply keep_alloc) | exact HK.out)) : p := h
theorem z3_3_ {p : Prop} (h : p := by first | rfl | (simp; done) | (simp [*]; done)) : p := h
theorem z3_4_ {p : Prop} (h : p := by repeat (first | exact Drawn0.refl _ | apply Drawn0.step)) : p := h
set_option maxHeartbeats 8000000
set_option maxRecDepth 100000
attribute [local go_sem] max2_int min2_int max_two min_two max_three min_three max_four min_four isSome_setCell   -- for this text's walks alone
set_option linter.unusedVariables false
set_option linter.unusedSimpArgs false

/-- A state of type 59 at block g of W; what its slices lead to came in by w0. -/
def IsS59 (w0 W : World) (g : Nat) (f0 : List Int) (f1 : Int) (f2 : Int) : Prop := ∃ A0 c0, W.heap[g]? = some (.cells #[.slice A0 f0.length c0, .int .i64 f1, .int .u64 f2] 59 (0, 0)) ∧ w0.heap.size ≤ g ∧ Kd.C (Kd.int .u8) w0 A0 f0.length f0
theorem IsS59.grown {w0 W : World} {g : Nat} {f0 : List Int} {f1 : Int} {f2 : Int} {W1 : World} {row : Option Nat} (h : IsS59 w0 W g f0 f1 f2) (hw : W.grownBy W1 row) (hne : some g ≠ row) : IsS59 w0 W1 g f0 f1 f2 := by
 obtain ⟨A0, c0, hb, hg, hr0⟩ := h
 exact ⟨A0, c0, blk_grown hb hw hne, hg, hr0⟩
theorem IsS59.own_neN {w0 W : World} {g : Nat} {f0 : List Int} {f1 : Int} {f2 : Int} {α : Type} {d : Kd α} {e : Nat} {base : Nat} {ok : Nat → Prop} {v : Value} {xs : List α} (h : IsS59 w0 W g f0 f1 f2) (ho : Kd.N d e W base ok v xs) (ht : e ≠ 59) : some g ≠ v.ownBlock := by
 obtain ⟨A0, c0, hb, hg, hr0⟩ := h
 exact Kd.N_ne ho hb ht
theorem IsS59.fresh {w0 W : World} {g : Nat} {f0 : List Int} {f1 : Int} {f2 : Int} (h : IsS59 w0 W g f0 f1 f2) : ∀ k, W.heap.size ≤ k → k ≠ g := by
 obtain ⟨A0, c0, hb, hg, hr0⟩ := h
 exact Kd.freshB hb
theorem IsS59.kept {w0 W : World} {g : Nat} {f0 : List Int} {f1 : Int} {f2 : Int} {W1 : World} {S : Nat → Prop} (h : IsS59 w0 W g f0 f1 f2) (hk : Kept W W1 S) (hne : ¬ S g) : IsS59 w0 W1 g f0 f1 f2 := by
 obtain ⟨A0, c0, hb, hg, hr0⟩ := h
 exact ⟨A0, c0, blk_kept hb hk hne, hg, hr0⟩
theorem IsS59.below {w0 W : World} {g : Nat} {f0 : List Int} {f1 : Int} {f2 : Int} {W1 : World} (h : IsS59 w0 W g f0 f1 f2) (hw : Below W.heap.size W W1) : IsS59 w0 W1 g f0 f1 f2 := h.grown (grown_of_below hw none) (by simp)
theorem IsS59.alloc {w0 W : World} {g : Nat} {f0 : List Int} {f1 : Int} {f2 : Int} (h : IsS59 w0 W g f0 f1 f2) (o : Obj) : IsS59 w0 (W.alloc o) g f0 f1 f2 := h.below (below_alloc (Below.refl _ _) o)
theorem IsS59.drewN {w0 W : World} {g : Nat} {f0 : List Int} {f1 : Int} {f2 : Int} (h : IsS59 w0 W g f0 f1 f2) (m : Nat) : IsS59 w0 (W.drewN m) g f0 f1 f2 := h
theorem IsS59.drew {w0 W : World} {g : Nat} {f0 : List Int} {f1 : Int} {f2 : Int} (h : IsS59 w0 W g f0 f1 f2) : IsS59 w0 W.drew g f0 f1 f2 := h
theorem IsS59.at_ {w0 W : World} {g : Nat} {f0 : List Int} {f1 : Int} {f2 : Int} {w' : World} {m : Nat} (hq : W.drewN m = w') (h : IsS59 w0 W g f0 f1 f2) : IsS59 w0 w' g f0 f1 f2 := by subst hq; exact IsS59.drewN h m
theorem IsS59.apart {w0 W : World} {g : Nat} {f0 : List Int} {f1 : Int} {f2 : Int} {α : Type} {d : Kd α} {e : Nat} {base : Nat} {ok : Nat → Prop} {v : Value} {xs : List α} (h : IsS59 w0 W g f0 f1 f2) (ho : d.R e W base ok v xs) (ht : ∀ q, q ∈ e :: d.E → q ≠ 59) : d.R e W base (fun k => ok k ∧ k ≠ g) v xs := by
 obtain ⟨A0, c0, hb, hg, hr0⟩ := h
 exact Kd.R_types ho hb ht
theorem IsS59.own_ne {w0 W : World} {g : Nat} {f0 : List Int} {f1 : Int} {f2 : Int} {α : Type} {d : Kd α} {e : Nat} {base : Nat} {ok : Nat → Prop} {v : Value} {xs : List α} (h : IsS59 w0 W g f0 f1 f2) (ho : d.R e W base ok v xs) (ht : e ≠ 59) : some g ≠ v.ownBlock := by
 obtain ⟨A0, c0, hb, hg, hr0⟩ := h
 exact Kd.R_ne ho hb ht
theorem IsS59.apartQ {w0 W : World} {g : Nat} {f0 : List Int} {f1 : Int} {f2 : Int} {α : Type} {d : Kd α} {e : Nat} {base : Nat} {ok : Nat → Prop} {v : Value} {xs : List α} (h : IsS59 w0 W g f0 f1 f2) (ho : d.Q e W base ok v xs) (ht : ∀ q, q ∈ e :: d.E → q ≠ 59) : d.Q e W base (fun k => ok k ∧ k ≠ g) v xs := by
 obtain ⟨A0, c0, hb, hg, hr0⟩ := h
 exact Kd.Q_types ho hb ht
theorem IsS59.own_neQ {w0 W : World} {g : Nat} {f0 : List Int} {f1 : Int} {f2 : Int} {α : Type} {d : Kd α} {e : Nat} {base : Nat} {ok : Nat → Prop} {v : Value} {xs : List α} (h : IsS59 w0 W g f0 f1 f2) (ho : d.Q e W base ok v xs) (ht : e ≠ 59) : some g ≠ v.ownBlock := by
 obtain ⟨A0, c0, hb, hg, hr0⟩ := h
 exact Kd.Q_ne ho hb ht
theorem IsS59.apartS {w0 W : World} {g : Nat} {f0 : List Int} {f1 : Int} {f2 : Int} {α : Type} {d : Kd α} {e : Nat} {base : Nat} {ok : Nat → Prop} {v : Value} {xs : List α} (h : IsS59 w0 W g f0 f1 f2) (ho : d.S e W base ok v xs) (ht : ∀ q, q ∈ e :: d.E → q ≠ 59) : d.S e W base (fun k => ok k ∧ k ≠ g) v xs := by
 obtain ⟨A0, c0, hb, hg, hr0⟩ := h
 exact Kd.S_types ho hb ht
theorem IsS59.own_neS {w0 W : World} {g : Nat} {f0 : List Int} {f1 : Int} {f2 : Int} {α : Type} {d : Kd α} {e : Nat} {base : Nat} {ok : Nat → Prop} {v : Value} {xs : List α} (h : IsS59 w0 W g f0 f1 f2) (ho : d.S e W base ok v xs) (ht : e ≠ 59) : some g ≠ v.ownBlock := by
 obtain ⟨A0, c0, hb, hg, hr0⟩ := h
 exact Kd.S_ne ho hb ht
theorem IsS59.lt {w0 W : World} {g : Nat} {f0 : List Int} {f1 : Int} {f2 : Int} (h : IsS59 w0 W g f0 f1 f2) : g < W.heap.size := by
 obtain ⟨A0, c0, hb, hg, hr0⟩ := h
 exact blk_lt hb
theorem IsS59.ge {w0 W : World} {g : Nat} {f0 : List Int} {f1 : Int} {f2 : Int} (h : IsS59 w0 W g f0 f1 f2) : w0.heap.size ≤ g := by
 obtain ⟨A0, c0, hb, hg, hr0⟩ := h
 exact hg
theorem IsS59.ne_blk {w0 W : World} {g : Nat} {f0 : List Int} {f1 : Int} {f2 : Int} {a : Nat} {cs : Array Value} {t : TypeId} {fr : Nat × Nat} (h : IsS59 w0 W g f0 f1 f2) (hb2 : W.heap[a]? = some (.cells cs t fr)) (ht : t ≠ 59) : g ≠ a := by
 obtain ⟨A0, c0, hb, hg, hr0⟩ := h
 rintro rfl
 rw [hb] at hb2
 injection hb2 with hb2
 injection hb2 with _ ht2
 exact ht ht2.symm
theorem IsS59.far {w0 W : World} {g : Nat} {f0 : List Int} {f1 : Int} {f2 : Int} {p : Addr} (h : IsS59 w0 W g f0 f1 f2) (hne : g ≠ p.block) (u : Value) : IsS59 w0 (W.setCell p u) g f0 f1 f2 := by
 obtain ⟨A0, c0, hb, hg, hr0⟩ := h
 exact ⟨A0, c0, blk_far hb hne u, hg, hr0⟩
theorem cellS59_0 {W : World} {g : Nat} {A0 : Option Addr} {c0 : Nat} {f0 : List Int} {f1 : Int} {f2 : Int} (h : W.heap[g]? = some (.cells #[.slice A0 f0.length c0, .int .i64 f1, .int .u64 f2] 59 (0, 0))) : W.cell? ⟨g, 0, none⟩ = some (.slice A0 f0.length c0) := (blk_cell h 0).trans rfl
theorem cellS59_1 {W : World} {g : Nat} {A0 : Option Addr} {c0 : Nat} {f0 : List Int} {f1 : Int} {f2 : Int} (h : W.heap[g]? = some (.cells #[.slice A0 f0.length c0, .int .i64 f1, .int .u64 f2] 59 (0, 0))) : W.cell? ⟨g, 1, none⟩ = some (.int .i64 f1) := (blk_cell h 1).trans rfl
theorem IsS59.set_1 {w0 W : World} {g : Nat} {f0 : List Int} {f1 : Int} {f2 : Int} (h : IsS59 w0 W g f0 f1 f2) (x : Int) : IsS59 w0 (W.setCell ⟨g, 1, none⟩ (.int .i64 x)) g f0 x f2 := by
 obtain ⟨A0, c0, hb, hg, hr0⟩ := h
 exact ⟨A0, c0, by simpa using blk_set hb 1 (.int .i64 x), hg, hr0⟩
theorem cellS59_2 {W : World} {g : Nat} {A0 : Option Addr} {c0 : Nat} {f0 : List Int} {f1 : Int} {f2 : Int} (h : W.heap[g]? = some (.cells #[.slice A0 f0.length c0, .int .i64 f1, .int .u64 f2] 59 (0, 0))) : W.cell? ⟨g, 2, none⟩ = some (.int .u64 f2) := (blk_cell h 2).trans rfl
theorem IsS59.set_2 {w0 W : World} {g : Nat} {f0 : List Int} {f1 : Int} {f2 : Int} (h : IsS59 w0 W g f0 f1 f2) (x : Int) : IsS59 w0 (W.setCell ⟨g, 2, none⟩ (.int .u64 x)) g f0 f1 x := by
 obtain ⟨A0, c0, hb, hg, hr0⟩ := h
 exact ⟨A0, c0, by simpa using blk_set hb 2 (.int .u64 x), hg, hr0⟩
theorem IsS59.new (w0 W : World) (A0 : Option Addr) (c0 : Nat) (f0 : List Int) (f1 : Int) (f2 : Int) (hB : Below w0.heap.size w0 W) (hr0 : Kd.C (Kd.int .u8) w0 A0 f0.length f0) : IsS59 w0 (W.alloc (.cells #[.slice A0 f0.length c0, .int .i64 f1, .int .u64 f2] 59)) W.heap.size f0 f1 f2 := ⟨A0, c0, by simpa using heap_alloc_new W _, hB.size, hr0⟩

/-! ### spec_l1Cur_next: function 54 -/
theorem spec_l1Cur_next.calls (g : Nat) (s0_0 : List Int) (s0_1 : Int) (s0_2 : Int) (r1 : Int) (r2 : Int) (r3 : Int) (w0 w : World) (hI : IsS59 w0 w g s0_0 s0_1 s0_2) (hB : Below w0.heap.size w0 w) (h : spec_l1Cur_next.f s0_0 s0_1 s0_2 = some (r1, r2, r3)) :
 Calls Tryd.prog 54 #[.pointer (some ⟨g, 0, none⟩)] w fun e w' => e = .returned (.int .i64 r1) ∧ IsS59 w0 w' g s0_0 r2 r3 ∧ Below w0.heap.size w0 w' ∧ KeepBut w w' g none := by
 have HI0 := Aside0.mk hI
 have HK := Aside0.mk (KeepBut.refl w g none)
 have HL := Aside0.mk hB.size
 clear hI
 have HW0 := Aside0.mk hB.size
 have HB := Aside0.mk hB
 clear hB
 have H : (if s0_1 < (s0_0.length : Int) then (if 0 ≤ s0_1 then (if (wrap64 (s0_1 + 1)) ≤ (s0_0.length : Int) then (some (wrap64 (rd s0_0 s0_1), wrap64 (s0_1 + 1), IntKind.u64.wrap ((IntKind.u64.wrap ((IntKind.u64.wrap (s0_2 * 6364136223846793005)) + (IntKind.u64.wrap (wrap64 (rd s0_0 s0_1))))) + 1442695040888963407))) else (some (wrap64 (Go.bits .and .u64 ((IntKind.u64.wrap ((IntKind.u64.wrap ((IntKind.u64.wrap (s0_2 * 6364136223846793005)) + (IntKind.u64.wrap (wrap64 (rd s0_0 s0_1))))) + 1442695040888963407)) / 1099511627776) 255), wrap64 (s0_1 + 1), IntKind.u64.wrap ((IntKind.u64.wrap ((IntKind.u64.wrap (s0_2 * 6364136223846793005)) + (IntKind.u64.wrap (wrap64 (rd s0_0 s0_1))))) + 1442695040888963407)))) else (none)) else (if (wrap64 (s0_1 + 1)) ≤ (s0_0.length : Int) then (some (0, wrap64 (s0_1 + 1), IntKind.u64.wrap ((IntKind.u64.wrap ((IntKind.u64.wrap (s0_2 * 6364136223846793005)))) + 1442695040888963407))) else (some (wrap64 (Go.bits .and .u64 ((IntKind.u64.wrap ((IntKind.u64.wrap ((IntKind.u64.wrap (s0_2 * 6364136223846793005)))) + 1442695040888963407)) / 1099511627776) 255), wrap64 (s0_1 + 1), IntKind.u64.wrap ((IntKind.u64.wrap ((IntKind.u64.wrap (s0_2 * 6364136223846793005)))) + 1442695040888963407))))) = some (r1, r2, r3) := h
 clear h
 replace H := iF_ H; obtain ⟨c2b0, H⟩ | ⟨c2b0, H⟩ := H
 ·replace H := iT_ H; obtain ⟨c7b0, H⟩ | ⟨c7b0, H⟩ := H
  ·simp only [Option.some.injEq, Prod.mk.injEq] at H
   obtain ⟨rfl, rfl, rfl⟩ := H
   obtain ⟨ASz8_0, cSz8_0, HGz8, hgz8, HSz8_0⟩ := HI0.out
   have hcz8_0 := cellS59_0 HGz8
   have hcz8_1 := cellS59_1 HGz8
   have hcz8_2 := cellS59_2 HGz8
   have hfz8_1 := blk_frozen HGz8 1
   have hfz8_2 := blk_frozen HGz8 2
   clear HGz8 hgz8
   go_enter Tryd.func54, Tryd.ntmps54
   go_wp2
   repeat (go_quiet (fail); try go_wp2)
   go_ret
   exact ⟨rT_, z3_0_, z3_1_, z3_2_⟩
  simp only [Option.some.injEq, Prod.mk.injEq] at H
  obtain ⟨rfl, rfl, rfl⟩ := H
  obtain ⟨ASz9_0, cSz9_0, HGz9, hgz9, HSz9_0⟩ := HI0.out
  have hcz9_0 := cellS59_0 HGz9
  have hcz9_1 := cellS59_1 HGz9
  have hcz9_2 := cellS59_2 HGz9
  have hfz9_1 := blk_frozen HGz9 1
  have hfz9_2 := blk_frozen HGz9 2
  clear HGz9 hgz9
  go_enter Tryd.func54, Tryd.ntmps54
  go_wp2
  repeat (go_quiet (fail); try go_wp2)
  go_ret
  exact ⟨rT_, z3_0_, z3_1_, z3_2_⟩
 replace H := ig_ H; obtain ⟨c3b0, H⟩ := H
 replace H := iT_ H; obtain ⟨c4b0, H⟩ | ⟨c4b0, H⟩ := H
 ·simp only [Option.some.injEq, Prod.mk.injEq] at H
  obtain ⟨rfl, rfl, rfl⟩ := H
  obtain ⟨ASz5_0, cSz5_0, HGz5, hgz5, HSz5_0⟩ := HI0.out
  have hcz5_0 := cellS59_0 HGz5
  have hcz5_1 := cellS59_1 HGz5
  have hcz5_2 := cellS59_2 HGz5
  have hfz5_1 := blk_frozen HGz5 1
  have hfz5_2 := blk_frozen HGz5 2
  clear HGz5 hgz5
  have p118 : 0 ≤ (s0_1 : Int) := ode_
  have q118 : s0_1 < (s0_0.length : Int) := ode_
  obtain ⟨ad118, e118, hx118_0⟩ := Kd.at_int HSz5_0 s0_1 p118 q118
  cases e118
  replace hx118_0 := pw_cell_below HB.out hx118_0
  replace p118 := eq_true p118
  replace q118 := eq_true q118
  go_enter Tryd.func54, Tryd.ntmps54
  go_wp2
  repeat (go_quiet (fail); try go_wp2)
  go_ret
  exact ⟨rT_, z3_0_, z3_1_, z3_2_⟩
 simp only [Option.some.injEq, Prod.mk.injEq] at H
 obtain ⟨rfl, rfl, rfl⟩ := H
 obtain ⟨ASz6_0, cSz6_0, HGz6, hgz6, HSz6_0⟩ := HI0.out
 have hcz6_0 := cellS59_0 HGz6
 have hcz6_1 := cellS59_1 HGz6
 have hcz6_2 := cellS59_2 HGz6
 have hfz6_1 := blk_frozen HGz6 1
 have hfz6_2 := blk_frozen HGz6 2
 clear HGz6 hgz6
 have p118 : 0 ≤ (s0_1 : Int) := ode_
 have q118 : s0_1 < (s0_0.length : Int) := ode_
 obtain ⟨ad118, e118, hx118_0⟩ := Kd.at_int HSz6_0 s0_1 p118 q118
 cases e118
 replace hx118_0 := pw_cell_below HB.out hx118_0
 replace p118 := eq_true p118
 replace q118 := eq_true q118
 go_enter Tryd.func54, Tryd.ntmps54
 go_wp2
 repeat (go_quiet (fail); try go_wp2)
 go_ret
 exact ⟨rT_, z3_0_, z3_1_, z3_2_⟩

/-! ### spec_l1Cur_pick: function 37 -/
theorem spec_l1Cur_pick.calls (g : Nat) (s0_0 : List Int) (s0_1 : Int) (s0_2 : Int) (a1 : Int) (r1 : Int) (r2 : Int) (r3 : Int) (w0 w : World) (hI : IsS59 w0 w g s0_0 s0_1 s0_2) (hB : Below w0.heap.size w0 w) (h : spec_l1Cur_pick.f s0_0 s0_1 s0_2 a1 = some (r1, r2, r3)) :
 Calls Tryd.prog 37 #[.pointer (some ⟨g, 0, none⟩), .int .i64 a1] w fun e w' => e = .returned (.int .i64 r1) ∧ IsS59 w0 w' g s0_0 r2 r3 ∧ Below w0.heap.size w0 w' ∧ KeepBut w w' g none := by
 have HI0 := Aside0.mk hI
 have HK := Aside0.mk (KeepBut.refl w g none)
 have HL := Aside0.mk hB.size
 clear hI
 have HW0 := Aside0.mk hB.size
 have HB := Aside0.mk hB
 clear hB
 have H : (if a1 ≤ 1 then (some (0, s0_1, s0_2)) else ((spec_l1Cur_next.f s0_0 s0_1 s0_2).bind fun bt119 => (if a1 > 200 then ((spec_l1Cur_next.f s0_0 bt119.2.1 bt119.2.2).bind fun bt122 => (if a1 = 0 then (none) else (some (Int.tmod (wrap64 ((wrap64 (bt119.1 * 256)) + bt122.1)) a1, bt122.2.1, bt122.2.2)))) else (if a1 = 0 then (none) else (some (Int.tmod bt119.1 a1, bt119.2.1, bt119.2.2)))))) = some (r1, r2, r3) := h
 clear h
 replace H := iT_ H; obtain ⟨c3b0, H⟩ | ⟨c3b0, H⟩ := H
 ·simp only [Option.some.injEq, Prod.mk.injEq] at H
  obtain ⟨rfl, rfl, rfl⟩ := H
  go_enter Tryd.func37, Tryd.ntmps37
  go_wp2
  go_ret
  exact ⟨rT_, z3_0_, z3_1_, z3_2_⟩
 replace H := ob_ H; obtain ⟨⟨t119, t120, t121⟩, A4, H⟩ := H; try dsimp only at H
 have HC5 := Aside0.mk H
 clear H
 go_enter Tryd.func37, Tryd.ntmps37
 go_upto_if 11 with (first | ((with_reducible refine gC_ 54 ?_); refine gM_ (some 9) Tryd.func54 #[.pointer (some ⟨g, 0, none⟩)] ?_; (with_reducible refine (spec_l1Cur_next.calls g s0_0 s0_1 s0_2 t119 t120 t121 w0 _ ?side1 ?side2 A4.out).mono ?_); (case side1 => exact z3_0_); (case side2 => exact z3_1_); rintro e w6 ⟨rfl, hi, hb, hk⟩; refine ⟨_, rfl, ?_⟩; replace HK := aM_ (KeepBut.trans z3_2_ hk (.inl rfl)); replace HB := aM_ (hb); replace HI0 := aM_ (hi); (try clear hb); (try clear hk); (try clear hi)))
 (try simp only [Act.put, List.setIfInBounds_toArray, List.set_cons_zero, List.set_cons_succ])
 have H := HC5.out
 clear HC5
 by_cases c7 : a1 > 200
 rotate_left
 ·rw [if_neg c7] at H
  have c7b0 : decide (200 < a1) = false := decide_eq_false c7
  clear c7
  (first | rw [c7b0] | (simp only [i64_w, i32_w]; rw [c7b0]) | skip)
  by_cases c11 : a1 = 0
  ·rw [if_pos c11] at H
   exact absurd H (by simp)
  rw [if_neg c11] at H
  have c11b0 : (a1 == 0) = false := beq_eq_false_iff_ne.mpr c11
  have c11b1 : (a1 != 0) = true := bne_iff_ne.mpr c11
  simp only [Option.some.injEq, Prod.mk.injEq] at H
  obtain ⟨rfl, rfl, rfl⟩ := H
  go_wp2
  go_ret
  exact ⟨rT_, z3_0_, z3_1_, z3_2_⟩
 rw [if_pos c7] at H
 have c7b0 : decide (200 < a1) = true := decide_eq_true c7
 clear c7
 (first | rw [c7b0] | (simp only [i64_w, i32_w]; rw [c7b0]) | skip)
 replace H := ob_ H; obtain ⟨⟨t122, t123, t124⟩, A8, H⟩ := H; try dsimp only at H
 by_cases c9 : a1 = 0
 ·rw [if_pos c9] at H
  exact absurd H (by simp)
 rw [if_neg c9] at H
 have c9b0 : (a1 == 0) = false := beq_eq_false_iff_ne.mpr c9
 have c9b1 : (a1 != 0) = true := bne_iff_ne.mpr c9
 simp only [Option.some.injEq, Prod.mk.injEq] at H
 obtain ⟨rfl, rfl, rfl⟩ := H
 go_wp2_with (first | ((with_reducible refine gC_ 54 ?_); refine gM_ (some 15) Tryd.func54 #[.pointer (some ⟨g, 0, none⟩)] ?_; (with_reducible refine (spec_l1Cur_next.calls g s0_0 t120 t121 t122 t123 t124 w0 _ ?side1 ?side2 A8.out).mono ?_); (case side1 => exact z3_0_); (case side2 => exact z3_1_); rintro e w10 ⟨rfl, hi, hb, hk⟩; refine ⟨_, rfl, ?_⟩; replace HK := aM_ (KeepBut.trans z3_2_ hk (.inl rfl)); replace HB := aM_ (hb); replace HI0 := aM_ (hi); (try clear hb); (try clear hk); (try clear hi)))
 go_ret
 exact ⟨rT_, z3_0_, z3_1_, z3_2_⟩

/-! ### spec_l1Cur_of: function 39 -/
theorem spec_l1Cur_of.calls (g : Nat) (s0_0 : List Int) (s0_1 : Int) (s0_2 : Int) (A1 : Option Addr) (c1 : Nat) (l1 : List ByteArray) (r1 : ByteArray) (r2 : Int) (r3 : Int) (w0 w : World) (hI : IsS59 w0 w g s0_0 s0_1 s0_2) (hB : Below w0.heap.size w0 w) (hr1 : Kd.C Kd.string w A1 l1.length l1) (hc1 : l1.length ≤ c1) (hf1 : ∀ ad, A1 = some ad → 0 < l1.length → ad.block ≠ g) (h : spec_l1Cur_of.f s0_0 s0_1 s0_2 l1 = some (r1, r2, r3)) :
 Calls Tryd.prog 39 #[.pointer (some ⟨g, 0, none⟩), .slice A1 l1.length c1] w fun e w' => e = .returned (.string r1) ∧ IsS59 w0 w' g s0_0 r2 r3 ∧ Below w0.heap.size w0 w' ∧ KeepBut w w' g none := by
 have HR1 := Aside0.mk hr1
 have HC1 := Aside0.mk hc1
 clear hr1 hc1
 have HI0 := Aside0.mk hI
 have HK := Aside0.mk (KeepBut.refl w g none)
 have HL := Aside0.mk hB.size
 clear hI
 have HW0 := Aside0.mk hB.size
 have HB := Aside0.mk hB
 clear hB
 have H : ((spec_l1Cur_pick.f s0_0 s0_1 s0_2 (l1.length : Int)).bind fun bt125 => (if 0 ≤ bt125.1 then (if bt125.1 < (l1.length : Int) then (some (rdOf ByteArray.empty l1 bt125.1, bt125.2.1, bt125.2.2)) else (none)) else (none))) = some (r1, r2, r3) := h
 clear h
 replace H := ob_ H; obtain ⟨⟨t125, t126, t127⟩, A3, H⟩ := H; try dsimp only at H
 replace H := ig_ H; obtain ⟨c4b0, H⟩ := H
 replace H := ig_ H; obtain ⟨c5b0, H⟩ := H
 simp only [Option.some.injEq, Prod.mk.injEq] at H
 obtain ⟨rfl, rfl, rfl⟩ := H
 go_enter Tryd.func39, Tryd.ntmps39
 go_wp2_with (first | ((with_reducible refine gC_ 37 ?_); refine gM_ (some 9) Tryd.func37 #[.pointer (some ⟨g, 0, none⟩), .int .i64 (l1.length : Int)] ?_; (with_reducible refine (spec_l1Cur_pick.calls g s0_0 s0_1 s0_2 (l1.length : Int) t125 t126 t127 w0 _ ?side1 ?side2 A3.out).mono ?_); (case side1 => exact z3_0_); (case side2 => exact z3_1_); rintro e w6 ⟨rfl, hi, hb, hk⟩; refine ⟨_, rfl, ?_⟩; replace HK := aM_ (KeepBut.trans z3_2_ hk (.inl rfl)); replace HB := aM_ (hb); replace HI0 := aM_ (hi); (try clear hb); (try clear hk); (try clear hi); have p128 : 0 ≤ (t125 : Int) := ode_; have q128 : t125 < (l1.length : Int) := ode_; obtain ⟨ad128, e128, hx128_0⟩ := Kd.at_string HR1.out t125 p128 q128; cases e128; replace hx128_0 := keep_cell HK.out hx128_0 (by first | (rw [add_block]; exact hf1 _ rfl (by omega)) | exact hf1 _ rfl (by omega) | exact hf1 ad128 rfl (by omega)); replace p128 := eq_true p128; replace q128 := eq_true q128))
 go_ret
 exact ⟨rT_, z3_0_, z3_1_, z3_2_⟩

/-! ### spec_l1In: function 44 -/
theorem spec_l1In.calls (a0 : Int) (a1 : Int) (a2 : Int) (r : Bool) (w : World) (h : spec_l1In.f a0 a1 a2 = some r) :
 Calls Tryd.prog 44 #[.int .i64 a0, .int .i64 a1, .int .i64 a2] w fun e w' => e = .returned (.bool r) ∧ Drawn0 w w' := by
 have H : (if a0 ≥ a1 then (some (decide (a0 ≤ a2))) else (some false)) = some r := h
 clear h
 by_cases c4 : a0 ≥ a1
 ·rw [if_pos c4] at H
  have c4b0 : decide (a1 ≤ a0) = true := decide_eq_true c4
  clear c4
  obtain rfl := Option.some.inj H
  go_enter Tryd.func44, Tryd.ntmps44
  go_wp2
  go_ret
  exact ⟨z3_3_, z3_4_⟩
 rw [if_neg c4] at H
 have c4b0 : decide (a1 ≤ a0) = false := decide_eq_false c4
 clear c4
 obtain rfl := Option.some.inj H
 go_enter Tryd.func44, Tryd.ntmps44
 go_wp2
 go_ret
 exact ⟨z3_3_, z3_4_⟩

/-! ### spec_l1All: function 45 -/
theorem spec_l1All.calls (k : Nat) (A0 : Option Addr) (c0 : Nat) (l0 : List Int) (a1 : Int) (a2 : Int) (r : Bool) (w : World) (hr0 : Kd.C (Kd.int .i64) w A0 l0.length l0) (hc0 : l0.length ≤ c0) (h : spec_l1All.f k l0 a1 a2 = some r) :
 Calls Tryd.prog 45 #[.slice A0 l0.length c0, .int .i64 a1, .int .i64 a2] w fun e w' => e = .returned (.bool r) ∧ Drawn0 w w' := by
 have HR0 := Aside0.mk hr0
 have HC0 := Aside0.mk hc0
 clear hr0 hc0
 have H : (spec_l1All.l0 k a1 a2 l0 (l0.length : Int) 0) = some r := h
 clear h
 have H' := Aside0.mk H
 clear H
 go_enter Tryd.func45, Tryd.ntmps45
 go_wp2
 go_loopg [11] k (fun kq v11 w' => ∃ (x11_1 : Int), v11 = .int .i64 x11_1 ∧ Aside0 (spec_l1All.l0 kq a1 a2 l0 (l0.length : Int) x11_1 = some r) ∧ Aside0 (kq ≤ k) ∧ Drawn0 w w')
 case atStart => exact ⟨(0), z3_3_, H', ⟨Nat.le_refl _⟩, z3_4_⟩
 case round =>
  clear H'
  obtain ⟨x11_1, rfl, HA, HK1, ⟨m1, rfl⟩⟩ := hrel
  cases gk with
  | zero => exact absurd HA.out (by simp [spec_l1All.l0])
  | succ k1 =>
   have H := HA.out
   clear HA
   simp only [spec_l1All.l0] at H
   replace H := iF_ H; obtain ⟨c4b0, H⟩ | ⟨c4b0, H⟩ := H
   ·obtain rfl := Option.some.inj H
    go_wp2
    go_ret
    exact ⟨z3_3_, z3_4_⟩
   replace H := ig_ H; obtain ⟨c5b0, H⟩ := H
   replace H := ig_ H; obtain ⟨c6b0, H⟩ := H
   replace H := ob_ H; obtain ⟨t130, A7, H⟩ := H; try dsimp only at H
   have HC8 := Aside0.mk H
   clear H
   obtain ⟨⟨ad129, e129, hx129_0⟩, p129, q129⟩ := at2_ (Kd.at_int HR0.out x11_1); cases e129
   go_upto_if 19 with (first | ((with_reducible refine gC_ 44 ?_); refine gM_ (some 18) Tryd.func44 #[.int .i64 (rd l0 x11_1), .int .i64 a1, .int .i64 a2] ?_; (with_reducible refine (spec_l1In.calls (rd l0 x11_1) a1 a2 t130 _ A7.out).mono ?_); rintro e w' ⟨rfl, ⟨nd, rfl⟩⟩; refine ⟨_, rfl, ?_⟩))
   (try simp only [Act.put, List.setIfInBounds_toArray, List.set_cons_zero, List.set_cons_succ])
   have H := HC8.out
   clear HC8
   by_cases c9 : t130 = true
   rotate_left
   ·replace c9 := Bool.eq_false_iff.mpr c9
    subst c9
    replace H := in_ H (show ¬ (false = true) by decide)
    obtain rfl := Option.some.inj H
    go_wp2
    go_ret
    exact ⟨z3_3_, z3_4_⟩
   subst c9
   replace H := ip_ H rfl
   have H' := Aside0.mk H
   clear H
   go_wp2
   go_roundg k1
   case measure => have := HK1.out; omega
   case rel => exact ⟨(wrap64 (x11_1 + 1)), z3_3_, H', ⟨by have := HK1.out; omega⟩, z3_4_⟩

/-! ### spec_shGood: function 24 -/
theorem spec_shGood.calls (k : Nat) (a0_0 : Int) (a0_1 : Int) (a0_2 : Int) (a0_3 : Int) (a0_4 : Int) (a0_5 : Bool) (r : Bool) (w : World) (h : spec_shGood.f k a0_0 a0_1 a0_2 a0_3 a0_4 a0_5 = some r) :
 Calls Tryd.prog 24 #[.agg #[.int .i64 a0_0, .int .i64 a0_1, .int .i64 a0_2, .int .i64 a0_3, .int .i64 a0_4, .bool a0_5]] w fun e w' => e = .returned (.bool r) ∧ Below w.heap.size w w' := by
 have hu25 := Tryd.underlying25
 have HB := Aside0.mk (Below.refl w.heap.size w)
 have H : ((spec_l1In.f a0_0 0 2).bind fun t132 => (if t132 = true then ((spec_shFingers.f a0_0 a0_1 a0_2 a0_3 a0_4 a0_5).bind fun t133 => ((spec_l1All.f k t133 0 2).bind fun t136 => (if t136 = true then (if a0_5 = true then ((spec_shWide.f k a0_0 a0_1 a0_2 a0_3 a0_4 a0_5).bind fun t137 => (some t137)) else (some true)) else (some false)))) else (some false))) = some r := h
 clear h
 replace H := ob_ H; obtain ⟨t132, A2, H⟩ := H; try dsimp only at H
 by_cases c3 : t132 = true
 rotate_left
 ·replace c3 := Bool.eq_false_iff.mpr c3
  subst c3
  replace H := in_ H (show ¬ (false = true) by decide)
  obtain rfl := Option.some.inj H
  go_enter Tryd.func24, Tryd.ntmps24
  go_wp2_with (first | ((with_reducible refine gate_dst (N := 1) rfl ?_); refine bx_ 1 #[.int .i64 a0_0, .int .i64 a0_1, .int .i64 a0_2, .int .i64 a0_3, .int .i64 a0_4, .bool a0_5] 25 fun gb131 hg w24 hbox hb => ?_; have BK131 := aM_ (hbox); have GW131 := aM_ (gw_ w hg); have GE131 := aM_ (gw_ w hg); replace HB := aM_ (below_step hB_ hb); clear hb hbox hg; have hz25 := cf6_ BK131.out; clear BK131) | ((with_reducible refine gC_ 44 ?_); refine gM_ (some 5) Tryd.func44 #[.int .i64 a0_0, .int .i64 0, .int .i64 2] ?_; (with_reducible refine (spec_l1In.calls a0_0 0 2 false _ A2.out).mono ?_); rintro e w' ⟨rfl, ⟨nd, rfl⟩⟩; refine ⟨_, rfl, ?_⟩))
  go_ret
  exact ⟨rT_, hB_⟩
 subst c3
 replace H := ip_ H rfl
 replace H := ob_ H; obtain ⟨t133, A4, H⟩ := H; try dsimp only at H
 replace H := ob_ H; obtain ⟨t136, A5, H⟩ := H; try dsimp only at H
 by_cases c6 : t136 = true
 rotate_left
 ·replace c6 := Bool.eq_false_iff.mpr c6
  subst c6
  replace H := in_ H (show ¬ (false = true) by decide)
  obtain rfl := Option.some.inj H
  go_enter Tryd.func24, Tryd.ntmps24
  go_wp2_with (first | ((with_reducible refine gate_dst (N := 1) rfl ?_); refine bx_ 1 #[.int .i64 a0_0, .int .i64 a0_1, .int .i64 a0_2, .int .i64 a0_3, .int .i64 a0_4, .bool a0_5] 25 fun gb131 hg w20 hbox hb => ?_; have BK131 := aM_ (hbox); have GW131 := aM_ (gw_ w hg); have GE131 := aM_ (gw_ w hg); replace HB := aM_ (below_step hB_ hb); clear hb hbox hg; have hz21 := cf6_ BK131.out) | ((with_reducible refine gC_ 44 ?_); refine gM_ (some 5) Tryd.func44 #[.int .i64 a0_0, .int .i64 0, .int .i64 2] ?_; (with_reducible refine (spec_l1In.calls a0_0 0 2 true _ A2.out).mono ?_); rintro e w' ⟨rfl, ⟨nd, rfl⟩⟩; refine ⟨_, rfl, ?_⟩; clear BK131) | (go_at_call 25; (with_reducible refine (spec_shFingers.calls a0_0 a0_1 a0_2 a0_3 a0_4 a0_5 t133 _ A4.out).mono ?_); rintro e w22 ⟨v134, rfl, ho0, hb⟩; have HO135 := aM_ (Kd.R_lower ho0 (below_size hB_)); replace HB := aM_ (below_step hB_ hb); (try clear hb); (try clear ho0); obtain ⟨Ao23, co23, eo23⟩ := Kd.R_slice HO135.out; subst eo23) | (go_at_call 45; (with_reducible refine (spec_l1All.calls k _ _ t133 0 2 false _ ?side1 ?side2 A5.out).mono ?_); (case side1 => exact cR_ HO135); (case side2 => exact (Kd.R_reads' HO135.out).2.1); rintro e w' ⟨rfl, ⟨nd, rfl⟩⟩))
  go_ret
  exact ⟨rT_, hB_⟩
 subst c6
 replace H := ip_ H rfl
 by_cases c7 : a0_5 = true
 rotate_left
 ·replace c7 := Bool.eq_false_iff.mpr c7
  subst c7
  replace H := in_ H (show ¬ (false = true) by decide)
  obtain rfl := Option.some.inj H
  go_enter Tryd.func24, Tryd.ntmps24
  go_wp2_with (first | ((with_reducible refine gate_dst (N := 1) rfl ?_); refine bx_ 1 #[.int .i64 a0_0, .int .i64 a0_1, .int .i64 a0_2, .int .i64 a0_3, .int .i64 a0_4, .bool false] 25 fun gb131 hg w15 hbox hb => ?_; have BK131 := aM_ (hbox); have GW131 := aM_ (gw_ w hg); have GE131 := aM_ (gw_ w hg); replace HB := aM_ (below_step hB_ hb); clear hb hbox hg; have hz16 := cf6_ BK131.out) | ((with_reducible refine gC_ 44 ?_); refine gM_ (some 5) Tryd.func44 #[.int .i64 a0_0, .int .i64 0, .int .i64 2] ?_; (with_reducible refine (spec_l1In.calls a0_0 0 2 true _ A2.out).mono ?_); rintro e w' ⟨rfl, ⟨nd, rfl⟩⟩; refine ⟨_, rfl, ?_⟩) | (go_at_call 25; (with_reducible refine (spec_shFingers.calls a0_0 a0_1 a0_2 a0_3 a0_4 false t133 _ A4.out).mono ?_); rintro e w17 ⟨v134, rfl, ho0, hb⟩; have HO135 := aM_ (Kd.R_lower ho0 (below_size hB_)); replace BK131 := aM_ (blk_below (g := gb131) (kR_ BK131) hb); replace HB := aM_ (below_step hB_ hb); (try clear hb); (try clear ho0); obtain ⟨Ao18, co18, eo18⟩ := Kd.R_slice HO135.out; subst eo18) | (go_at_call 45; (with_reducible refine (spec_l1All.calls k _ _ t133 0 2 true _ ?side1 ?side2 A5.out).mono ?_); (case side1 => exact cR_ HO135); (case side2 => exact (Kd.R_reads' HO135.out).2.1); rintro e w' ⟨rfl, ⟨nd, rfl⟩⟩; have hz19 := cf6_ BK131.out))
  go_ret
  exact ⟨rT_, hB_⟩
 subst c7
 replace H := ip_ H rfl
 replace H := ob_ H; obtain ⟨t137, A8, H⟩ := H; try dsimp only at H
 obtain rfl := Option.some.inj H
 go_enter Tryd.func24, Tryd.ntmps24
 go_wp2_with (first | ((with_reducible refine gate_dst (N := 1) rfl ?_); refine bx_ 1 #[.int .i64 a0_0, .int .i64 a0_1, .int .i64 a0_2, .int .i64 a0_3, .int .i64 a0_4, .bool true] 25 fun gb131 hg w9 hbox hb => ?_; have BK131 := aM_ (hbox); have GW131 := aM_ (gw_ w hg); have GE131 := aM_ (gw_ w hg); replace HB := aM_ (below_step hB_ hb); clear hb hbox hg; have hz10 := cf6_ BK131.out) | ((with_reducible refine gC_ 44 ?_); refine gM_ (some 5) Tryd.func44 #[.int .i64 a0_0, .int .i64 0, .int .i64 2] ?_; (with_reducible refine (spec_l1In.calls a0_0 0 2 true _ A2.out).mono ?_); rintro e w' ⟨rfl, ⟨nd, rfl⟩⟩; refine ⟨_, rfl, ?_⟩) | (go_at_call 25; (with_reducible refine (spec_shFingers.calls a0_0 a0_1 a0_2 a0_3 a0_4 true t133 _ A4.out).mono ?_); rintro e w11 ⟨v134, rfl, ho0, hb⟩; have HO135 := aM_ (Kd.R_lower ho0 (below_size hB_)); replace BK131 := aM_ (blk_below (g := gb131) (kR_ BK131) hb); replace HB := aM_ (below_step hB_ hb); (try clear hb); (try clear ho0); obtain ⟨Ao12, co12, eo12⟩ := Kd.R_slice HO135.out; subst eo12) | (go_at_call 45; (with_reducible refine (spec_l1All.calls k _ _ t133 0 2 true _ ?side1 ?side2 A5.out).mono ?_); (case side1 => exact cR_ HO135); (case side2 => exact (Kd.R_reads' HO135.out).2.1); rintro e w' ⟨rfl, ⟨nd, rfl⟩⟩; have hz13 := cf6_ BK131.out; clear BK131) | (go_at_call 46; (with_reducible refine (spec_shWide.calls k a0_0 a0_1 a0_2 a0_3 a0_4 true t137 _ A8.out).mono ?_); rintro e w14 ⟨rfl, hb⟩; replace HO135 := aM_ (Kd.R_below (rR_ HO135) hb); replace HB := aM_ (below_step hB_ hb); (try clear hb)))
 go_ret
 exact ⟨rT_, hB_⟩

end Go.Proofs.YtbfkpgmdbafmhaaDoor.PFnShapes
