/- An argument that is a slice of strings, as a slice that is read. -/
import Derived.Test.YtkepojdmgdgaoaaRep
import Derived.SliceStrings
import Derived.ProofKit
namespace Go.V
open Go.Base Go.RowKit Go.WideShapes Go.ChangeShapes
set_option linter.unusedVariables false
theorem open_slS {H : Type} {enc : TypeId × Value → H} {P : Program} {W : World} {t e : TypeId} (ht : P.underlying t = some (.slice e)) (he : P.underlying e = some .string) (hc : P.cellsOf e = 1)
    {A : Option Addr} {n c : Nat} {d : DataW H} {ps : List MemPlace} (hd : DataW.Trod enc P W 0 (fun _ => true) true t (.slice A n c) d ps) (hlt : ∀ x ∈ ps, x.block < W.heap.size) :
    ∃ l : List ByteArray, n = l.length ∧ SlR Rp.str (fun b => b < W.heap.size) W (.slice A n c) l ∧ ∀ s ∈ l, s.size ≤ maxLen := by
  obtain ⟨fuel, hf⟩ := hd
  rcases open_strings ht he hc hf with ⟨hcs, hx⟩ | ⟨a, len', cap', ss, hcs, _, hl, hm, hz, hx, hcell, hws⟩
  · simp [Value.cells] at hcs
    obtain ⟨rfl, rfl, rfl⟩ := hcs
    exact ⟨[], rfl, SlR.nil _ _ _, by simp⟩
  · simp [Value.cells] at hcs
    obtain ⟨rfl, rfl, rfl⟩ := hcs
    simp only [Prod.mk.injEq] at hx
    obtain ⟨rfl, rfl⟩ := hx
    simp only [if_true] at hz
    have hlen : (ss.take n).length = n := by rw [List.length_take]; omega
    refine ⟨ss.take n, hlen.symm, ⟨_, _, by rw [hlen], by omega, by unfold maxLen at hm; omega, fun i x hi => ?_⟩, fun s hs => hws s (List.mem_of_mem_take hs)⟩
    have hin : i < n := by have := (List.getElem?_eq_some_iff.1 hi).1; omega
    obtain ⟨b, off, spot⟩ := a
    have hspot : spot = none := by simpa [Addr.add] using World.cell?_spot (hcell 0 (by omega))
    subst hspot
    have hbW : b < W.heap.size := hlt (.cell b off) (MemPlace.mem_row.2 ⟨0, by omega, by simp⟩)
    refine ⟨b, off, [.string x], rfl, hbW, hbW, rfl, fun j u hj => ?_⟩
    have h1 := hcell i (by omega)
    rw [List.getElem?_take_of_lt hin] at hi
    rw [List.getD_eq_getElem?_getD, hi] at h1
    cases j with
    | zero =>
      simp at hj; subst hj
      have ha : (⟨b, off, none⟩ : Addr).add i = ⟨b, off + i, none⟩ := by unfold Addr.add; split <;> simp_all
      rw [ha] at h1
      simpa [Rp.str, Rp.flat] using h1
    | succ j => simp at hj
end Go.V
