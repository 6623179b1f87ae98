/- An argument that is a slice of slices of strings. -/
import Derived.Test.YtkepojdmgdgaoaaOpenS
import Derived.Test.YtkepojdmgdgaoaaOpenO
namespace Go.V
open Go.Base Go.RowKit Go.WideShapes Go.ChangeShapes
set_option linter.unusedVariables false
/-- Rows of texts that fit into memory. -/
def rowsB : Rp (List ByteArray) where
  dflt := []
  sz := 1
  ok := fun Z w xs cs => (Rp.slice Rp.str).ok Z w xs cs ∧ ∀ s ∈ xs, s.size ≤ maxLen
  len := fun h => (Rp.slice Rp.str).len h.1
  one := fun h => (Rp.slice Rp.str).one h.1
  mono := fun hm hs h => ⟨(Rp.slice Rp.str).mono hm hs h.1, h.2⟩
theorem rowsB_off {Z : Nat → Prop} {w : World} {v : Value} {xs : List (List ByteArray)} (h : SlR rowsB Z w v xs) : SlR (Rp.slice Rp.str) Z w v xs ∧ ∀ l ∈ xs, ∀ s ∈ l, s.size ≤ maxLen := by
  obtain ⟨A, c, e, h1, h2, h3⟩ := h
  refine ⟨⟨A, c, e, h1, h2, fun i x hi => ?_⟩, fun l hl => ?_⟩
  · obtain ⟨g, o, cs, hA, hZ, hg, hok, hc⟩ := h3 i x hi
    exact ⟨g, o, cs, hA, hZ, hg, hok.1, hc⟩
  · obtain ⟨i, hi⟩ := List.mem_iff_getElem?.1 hl
    obtain ⟨g, o, cs, hA, hZ, hg, hok, hc⟩ := h3 i l hi
    exact hok.2
theorem row_el {H : Type} {enc : TypeId × Value → H} {P : Program} {W : World} {t e : TypeId} (ht : P.underlying t = some (.slice e)) (he : P.underlying e = some .string) (hc : P.cellsOf e = 1)
    (n : Nat) (cs : List Value) (x : DataW H × List MemPlace) (h : DataW.trod enc P W 0 (fun _ => true) true n t cs = some x) (hp : ∀ p ∈ x.2, p.block < W.heap.size) : ∃ d : List ByteArray, rowsB.ok (fun b => b < W.heap.size) W d cs := by
  rcases open_strings ht he hc h with ⟨hcs, hx⟩ | ⟨a, len', cap', ss, hcs, _⟩
  · subst hcs; exact ⟨[], ⟨_, rfl, SlR.nil ..⟩, by simp⟩
  · subst hcs
    obtain ⟨l, rfl, hS, hl⟩ := open_slS (d := x.1) (ps := x.2) ht he hc ⟨n, by simpa [Value.cells] using h⟩ hp
    exact ⟨l, ⟨_, rfl, hS⟩, hl⟩
theorem open_rows {H : Type} {enc : TypeId × Value → H} {P : Program} {W : World} {t t' e : TypeId} (ht : P.underlying t = some (.slice t')) (hc' : P.cellsOf t' = 1) (ht' : P.underlying t' = some (.slice e)) (he : P.underlying e = some .string) (hc : P.cellsOf e = 1)
    {A : Option Addr} {n c : Nat} {d : DataW H} {ps : List MemPlace} (hd : DataW.Trod enc P W 0 (fun _ => true) true t (.slice A n c) d ps) (hlt : ∀ x ∈ ps, x.block < W.heap.size) :
    ∃ l : List (List ByteArray), n = l.length ∧ SlR (Rp.slice Rp.str) (fun b => b < W.heap.size) W (.slice A n c) l ∧ ∀ r ∈ l, ∀ s ∈ r, s.size ≤ maxLen := by
  obtain ⟨l, h1, h2⟩ := open_slR (R := rowsB) ht hc' (by decide) (row_el ht' he hc) hd hlt
  exact ⟨l, h1, (rowsB_off h2).1, (rowsB_off h2).2⟩
end Go.V
