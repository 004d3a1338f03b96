/- A region's held facts may grow on the way: what a call in the region brought is held from then on. -/
import Derived.Test.YtbfkpgmdbafmhaaDoorPFnShapeswa
namespace Go.Proofs.YtbfkpgmdbafmhaaDoorW.PrintWords
open Go.RowKit PrintLast
def okD (T : List (List Nat × List Nat)) (ds : List Nat) : Nat → List Bool → Bool
  | 0, _ => true
  | f + 1, l => (readyT T l).all fun i => if ds.contains i then readyT T (l.set i true) == [] else okD T ds f (l.set i true)
theorem more0_ {P : Program} {md : Region.Mode} {ops : Array Oper} {Q : Exit → Act → World → Prop} {S : World → Prop} {ds : List Nat} (T' : World → Prop) :
    ∀ (fuel : Nat) (l : Array Bool) (a : Act) (w : World), okD (rtab md ops).2 ds fuel l.toList = true → S w → T' w → wpAnyLast P md ops Q (fun w => T' w ∧ S w) ds fuel l a w → wpAnyLast P md ops Q S ds fuel l a w
  | 0, _, _, _, _, _, _, h => h
  | fuel + 1, l, a, w, ho, hS, hT, h => by
    refine ⟨h.1, fun i hi => ?_⟩
    refine wpOp_mono (fun a' w' h' => ?_) (h.2 i hi)
    simp only [okD, List.all_eq_true] at ho
    have hr : i ∈ readyT (rtab md ops).2 l.toList := by rw [← ready_eq]; exact hi
    have h1 := ho i hr
    by_cases hd : i ∈ ds
    · refine ⟨fun hn => absurd hd hn, ?_⟩
      rw [if_pos (by simpa using hd)] at h1
      have h2 : Region.ready md ops (l.setIfInBounds i true) = [] := by
        rw [ready_eq, Array.toList_setIfInBounds]; simpa using h1
      cases fuel with
      | zero => exact h'.2
      | succ f => exact ⟨h'.2.1, fun j hj => by rw [h2] at hj; cases hj⟩
    · rw [if_neg (by simpa using hd)] at h1
      obtain ⟨h2, h3⟩ := h'.1 hd ⟨hT, hS⟩
      exact ⟨fun _ _ => h3, more0_ T' fuel _ a' w' (by rw [Array.toList_setIfInBounds]; exact h1) h3 h2 h'.2⟩
theorem more_ {P : Program} {md : Region.Mode} {ops : Array Oper} {Q : Exit → Act → World → Prop} {S : World → Prop} {ds : List Nat} {fuel : Nat} {l : Array Bool} {a : Act} {w : World} {T : Bool × List (List Nat × List Nat)} (T' : World → Prop)
    (hT : Aside0 (rtab md ops = T)) (hS : S w) (hx : T' w) (h : wpAnyLast P md ops Q (fun w => T' w ∧ S w) ds fuel l a w) (ho : okD T.2 ds fuel l.toList = true := by kernel_rfl) : wpAnyLast P md ops Q S ds fuel l a w :=
  more0_ T' fuel l a w (by rw [hT.out]; exact ho) hS hx h
end Go.Proofs.YtbfkpgmdbafmhaaDoorW.PrintWords
