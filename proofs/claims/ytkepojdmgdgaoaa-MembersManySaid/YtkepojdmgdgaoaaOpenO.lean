/- An argument that is a slice of any data, as a slice that is read. -/
import Derived.Test.YtkepojdmgdgaoaaRep
import Derived.Deep.Slices
import Derived.Lib.SmallJoins
import Derived.ProofKit
namespace Go.V
open Go.Base Go.RowKit Go.WideShapes Go.ChangeShapes Go.Deep
set_option linter.unusedVariables false
theorem open_slR {α : Type} {R : Rp α} {H : Type} {enc : TypeId × Value → H} {P : Program} {W : World} {t e : TypeId} (ht : P.underlying t = some (.slice e)) (hc : P.cellsOf e = R.sz) (hpos : 0 < R.sz)
    (hel : ∀ (n : Nat) (cs : List Value) (x : DataW H × List MemPlace), DataW.trod enc P W 0 (fun _ => true) true n e cs = some x → (∀ p ∈ x.2, p.block < W.heap.size) → ∃ d : α, R.ok (fun b => b < W.heap.size) W d cs)
    {A : Option Addr} {n c : Nat} {d : DataW H} {ps : List MemPlace} (hd : DataW.Trod enc P W 0 (fun _ => true) true t (.slice A n c) d ps) (hlt : ∀ x ∈ ps, x.block < W.heap.size) :
    ∃ l : List α, n = l.length ∧ SlR R (fun b => b < W.heap.size) W (.slice A n c) l := by
  obtain ⟨fuel, hf⟩ := hd
  rcases open_slice ht hf with ⟨hcs, hx⟩ | ⟨a, len, cap, m, k, D, Pl, hcs, _, hl, hm, hmm, hx, hall⟩
  · simp [Value.cells] at hcs
    obtain ⟨rfl, rfl, rfl⟩ := hcs
    exact ⟨[], rfl, SlR.nil _ _ _⟩
  · simp [Value.cells] at hcs
    obtain ⟨rfl, rfl, rfl⟩ := hcs
    simp only [Prod.mk.injEq] at hx
    obtain ⟨rfl, rfl⟩ := hx
    simp only [if_true] at hmm
    subst hmm
    have hone : ∀ i, i < m → ∃ (x : α) (cs : List Value), R.ok (fun b => b < W.heap.size) W x cs ∧ ∀ j u, cs[j]? = some u → W.cell? (a.add (i * R.sz + j)) = some u := fun i hi => by
      obtain ⟨cs', h1, h2⟩ := hall i hi
      obtain ⟨x, hx⟩ := hel k cs' _ h2 fun p hp => hlt p (List.mem_append_right _ (List.mem_flatMap.2 ⟨i, List.mem_range.2 hi, hp⟩))
      obtain ⟨_, hlen, hcell⟩ := World.cells?_some h1
      refine ⟨x, cs', hx, fun j u hj => ?_⟩
      have hjl : j < P.cellsOf e := by rw [← hlen]; exact (List.getElem?_eq_some_iff.1 hj).1
      have := hcell j hjl
      rw [hj, hc] at this
      rw [← this, add_add]
    have hex : ∀ q, q ≤ m → ∃ l : List α, l.length = q ∧ ∀ i x, l[i]? = some x → ∃ cs, R.ok (fun b => b < W.heap.size) W x cs ∧ ∀ j u, cs[j]? = some u → W.cell? (a.add (i * R.sz + j)) = some u := by
      intro q
      induction q with
      | zero => exact fun _ => ⟨[], rfl, fun i x h => by simp at h⟩
      | succ q ih =>
        intro hq
        obtain ⟨l, hll, hli⟩ := ih (by omega)
        obtain ⟨x, cs, h1, h2⟩ := hone q (by omega)
        refine ⟨l ++ [x], by simp [hll], fun i y hy => ?_⟩
        rcases Nat.lt_or_ge i l.length with hi | hi
        · rw [List.getElem?_append_left hi] at hy; exact hli i y hy
        · rw [List.getElem?_append_right hi] at hy
          have : i - l.length = 0 := by
            have := (List.getElem?_eq_some_iff.1 hy).1; simp at this; omega
          rw [this] at hy
          simp at hy; subst hy
          have hiq : i = q := by omega
          subst hiq
          exact ⟨cs, h1, h2⟩
    obtain ⟨l, hll, hli⟩ := hex n hl
    subst hll
    refine ⟨l, rfl, _, _, rfl, hl, by unfold maxLen at hm; omega, fun i x hi => ?_⟩
    obtain ⟨cs, h1, h2⟩ := hli i x hi
    have hin : i < l.length := (List.getElem?_eq_some_iff.1 hi).1
    obtain ⟨b, off, spot⟩ := a
    have hcl := R.len h1
    obtain ⟨u0, hu0⟩ : ∃ u, cs[0]? = some u := ⟨cs[0]'(by omega), List.getElem?_eq_getElem (by omega)⟩
    obtain ⟨cz, z1, z2⟩ := hli 0 _ (List.getElem?_eq_getElem (by omega))
    have hzl := R.len z1
    have hspot : spot = none := by simpa [Addr.add] using World.cell?_spot (z2 0 _ (List.getElem?_eq_getElem (by omega)))
    subst hspot
    have hbW : b < W.heap.size := by
      have := h2 0 u0 hu0
      have hmem : MemPlace.cell b off ∈ MemPlace.row ⟨b, off, none⟩ (m * P.cellsOf e) := MemPlace.mem_row.2 ⟨0, by rw [hc]; exact Nat.mul_pos (by omega) hpos, by simp⟩
      exact hlt _ (List.mem_append_left _ hmem)
    refine ⟨b, off, cs, rfl, hbW, hbW, h1, fun j u hj => ?_⟩
    have := h2 j u hj
    rwa [show (⟨b, off, none⟩ : Addr).add (i * R.sz + j) = ⟨b, off + i * R.sz + j, none⟩ by unfold Addr.add; split <;> simp_all [Nat.add_assoc]] at this
end Go.V
