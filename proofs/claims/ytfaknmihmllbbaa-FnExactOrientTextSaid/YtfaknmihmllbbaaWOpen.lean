/- Written by a program of this claim's author, out of the loaded program as Lean prints it: the functions as Lean functions, and that the calls answer so. -/
/- How a law's arguments of any shape (structs, slices of structs, slices of slices) are opened to the printed kinds. Own words of this seat. -/
import Derived.Test.YtfaknmihmllbbaaWWords
import Derived.Deep.Slices
import Derived.ChangeSame
import Derived.ChangeArms
import Derived.WideShapes
import Derived.Carry
import Derived.DataReads
namespace Go.Proofs.YtfaknmihmllbbaaW.PrintWords
open Go.ChangeShapes Go.WideShapes Go.Deep Go.RowKit

/-- What is read at type t is a value of kind d, each letter of it within its bounds. -/
structure Opens (P : Program) (t : TypeId) {α : Type} (d : Kd α) (Wf : α → Prop) : Prop where
  sz : P.cellsOf t = d.sz
  rd : ∀ {H : Type} {enc : TypeId × Value → H} {w : World} {base : Nat} {spare : Nat → Bool} {held : Bool} {fuel : Nat} {cs : List Value} {x : DataW H × List MemPlace},
    DataW.trod enc P w base spare held fuel t cs = some x → ∃ a, d.K w a cs ∧ Wf a

theorem opens_int {P : Program} {t : TypeId} {k : IntKind} (ht : P.underlying t = some (.int k)) (hc : P.cellsOf t = 1) : Opens P t (Kd.int k) (fun n => (Lit.int k n).wf = true) :=
  ⟨hc, fun h => by
    obtain ⟨n, rfl, _, hw⟩ := DataW.trod_int ht h
    exact ⟨n, rfl, hw⟩⟩
theorem trod_bool_ {H : Type} {enc : TypeId × Value → H} {P : Program} {w : World} {base : Nat} {spare : Nat → Bool} {held : Bool} {fuel : Nat} {t : TypeId} {cs : List Value} {x : DataW H × List MemPlace}
    (ht : P.underlying t = some .bool) (h : DataW.trod enc P w base spare held fuel t cs = some x) : ∃ b, cs = [.bool b] := by
  cases fuel with
  | zero => simp [DataW.trod] at h
  | succ n =>
    unfold DataW.trod at h
    rw [ht] at h
    split at h <;> simp_all
theorem opens_bool {P : Program} {t : TypeId} (ht : P.underlying t = some .bool) (hc : P.cellsOf t = 1) : Opens P t Kd.bool (fun _ => True) :=
  ⟨hc, fun h => by
    obtain ⟨b, rfl⟩ := trod_bool_ ht h
    exact ⟨b, rfl, trivial⟩⟩
theorem opens_string {P : Program} {t : TypeId} (ht : P.underlying t = some .string) (hc : P.cellsOf t = 1) : Opens P t Kd.string (fun s => s.size ≤ 9223372036854775807) :=
  ⟨hc, fun h => by
    obtain ⟨s, rfl, _, hs⟩ := DataW.trod_string ht h
    exact ⟨s, rfl, hs⟩⟩
theorem opens_slice {P : Program} {t e : TypeId} {α : Type} (z : α) {d : Kd α} {Wf : α → Prop} (ht : P.underlying t = some (.slice e)) (hc : P.cellsOf t = 1) (hd : Opens P e d Wf) :
    Opens P t (Kd.slice e d) (fun xs => xs.length ≤ 9223372036854775807 ∧ ∀ x ∈ xs, Wf x) := by
  refine ⟨hc, fun {H enc w base spare held fuel cs x} h => ?_⟩
  rcases open_slice ht h with ⟨rfl, _⟩ | ⟨a, len, cap, m, n, D, Pl, rfl, hb, hl, hm, hmm, _, hel⟩
  · exact ⟨[], ⟨none, 0, rfl, Nat.le_refl _, Kd.C_nil _ _⟩, by simp, fun x hx => by simp at hx⟩
  · have hle : len ≤ m := by rw [hmm]; split <;> omega
    have hmx : cap ≤ 9223372036854775807 := hm
    have h1 : ∀ i, i < len → ∃ x, Wf x ∧ ∃ c, c.length = d.sz ∧ d.K w x c ∧ ∀ j u, c[j]? = some u → w.cell? (a.add (i * d.sz + j)) = some u := fun i hi => by
      obtain ⟨c, hcs, htr⟩ := hel i (by omega)
      obtain ⟨x, hK, hW⟩ := hd.rd htr
      obtain ⟨_, hl1, hl2⟩ := World.cells?_some hcs
      rw [hd.sz] at hl1 hl2
      refine ⟨x, hW, c, hl1, hK, fun j u hj => ?_⟩
      have hjl : j < d.sz := by
        have := (List.getElem?_eq_some_iff.1 hj).1
        omega
      rw [← Go.Deep.add_add, hl2 j hjl, hj]
    haveI : Inhabited α := ⟨z⟩
    obtain ⟨f, hf⟩ := choose_lt h1
    refine ⟨(List.range len).map f, ⟨some a, cap, by simp, by simpa using hl, ?_⟩, ⟨by simp; omega, ?_⟩⟩
    · refine ⟨rfl, by simp; omega, fun _ => ⟨a, rfl, fun j p hj => ?_⟩⟩
      have hjl : j < len := by
        have := (List.getElem?_eq_some_iff.1 hj).1
        simpa using this
      have hp : f j = p := by simpa [hjl] using hj
      obtain ⟨_, c, hc1, hc2, hc3⟩ := hf j hjl
      exact ⟨c, hc1, by rw [← hp]; exact hc2, hc3⟩
    · intro x hx
      obtain ⟨i, hi, rfl⟩ := List.mem_map.1 hx
      exact (hf i (List.mem_range.1 hi)).1

/-- A struct's fields from one on: they lie one behind the other, from 'off' on. -/
structure OpensF (P : Program) (fs : List Field) (off : Nat) {β : Type} (d : Kd β) (Wf : β → Prop) : Prop where
  rd : ∀ {H : Type} {enc : TypeId × Value → H} {w : World} {base : Nat} {spare : Nat → Bool} {held : Bool} {fuel : Nat} {cs : List Value},
    (∀ f ∈ fs, ∃ x, DataW.trod enc P w base spare held fuel f.type ((cs.drop f.offset).take (P.cellsOf f.type)) = some x) → ∃ b, d.K w b ((cs.drop off).take d.sz) ∧ Wf b
theorem fields_one {P : Program} {f : Field} {α : Type} {d : Kd α} {Wf : α → Prop} (h : Opens P f.type d Wf) : OpensF P [f] f.offset d Wf :=
  ⟨fun hf => by
    obtain ⟨x, hx⟩ := hf f (by simp)
    rw [h.sz] at hx
    exact h.rd hx⟩
theorem fields_cons {P : Program} {f : Field} {fs : List Field} {off : Nat} {α β : Type} {d : Kd α} {d' : Kd β} {Wf : α → Prop} {Wf' : β → Prop} (h : Opens P f.type d Wf) (ho : off = f.offset + d.sz) (h' : OpensF P fs off d' Wf') :
    OpensF P (f :: fs) f.offset (Kd.pair d d') (fun x => Wf x.1 ∧ Wf' x.2) :=
  ⟨fun {H enc w base spare held fuel cs} hf => by
    obtain ⟨x, hx⟩ := hf f (by simp)
    rw [h.sz] at hx
    obtain ⟨a, ha, hWa⟩ := h.rd hx
    obtain ⟨b, hb, hWb⟩ := h'.rd (cs := cs) (fun g hg => hf g (by simp [hg]))
    refine ⟨(a, b), ⟨_, _, ?_, ha, hb⟩, hWa, hWb⟩
    subst ho
    show (cs.drop f.offset).take (d.sz + d'.sz) = _
    rw [List.take_add, List.drop_drop]⟩
theorem opens_struct {P : Program} {t : TypeId} {fs : Array Field} {α β : Type} {d : Kd β} {Wf : β → Prop} (f : α → β) (g : β → α) (hfg : ∀ b, f (g b) = b) (ht : P.underlying t = some (.struct fs)) (hc : P.cellsOf t = d.sz) (h : OpensF P fs.toList 0 d Wf) :
    Opens P t (Kd.iso d f) (fun x => Wf (f x)) := by
  refine ⟨hc, fun {H enc w base spare held fuel cs x} hx => ?_⟩
  obtain ⟨xs, n, rfl, _, hl, hlen, hg⟩ := DataW.trod_struct ht hx
  obtain ⟨b, hb, hW⟩ := h.rd (cs := cs) (fuel := n) (enc := enc) (w := w) (base := base) (spare := spare) (held := held) (fun fd hfd => by
    obtain ⟨i, hi, rfl⟩ := List.mem_iff_getElem.1 hfd
    have hi' : i < fs.size := by simpa using hi
    refine ⟨xs[i]'(by omega), ?_⟩
    have := hg i fs[i] (by simp [hi'])
    rw [List.getElem?_eq_getElem (by omega)] at this
    simpa using this)
  refine ⟨g b, ?_, by rw [hfg]; exact hW⟩
  show d.K w (f (g b)) cs
  rw [hfg]
  have : (cs.drop 0).take d.sz = cs := by rw [List.drop_zero, List.take_of_length_le (by omega)]
  rwa [this] at hb
end Go.Proofs.YtfaknmihmllbbaaW.PrintWords
