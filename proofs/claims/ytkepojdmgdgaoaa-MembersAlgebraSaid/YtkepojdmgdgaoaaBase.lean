/- Blocks known whole; slices that are read; what a call leaves as it was. -/
import Derived.WalkKit
import Derived.WalkLawsBesides
import Derived.Maps.AppendAt
import Derived.OneCell
import Derived.Laws.OwnMore
namespace Go.Base
open Go.RowKit
set_option linter.unusedVariables false
set_option linter.unusedSimpArgs false

/-! ### Blocks known whole -/
def Blk (w : World) (b : Nat) (cs : List Value) (t : TypeId) : Prop := w.heap[b]? = some (.cells cs.toArray t (0, 0))
theorem Blk.lt {w : World} {b : Nat} {cs : List Value} {t : TypeId} (h : Blk w b cs t) : b < w.heap.size := lt_of_block h
theorem Blk.cell {w : World} {b : Nat} {cs : List Value} {t : TypeId} (h : Blk w b cs t) (i : Nat) : w.cell? ⟨b, i, none⟩ = cs[i]? := by simp [World.cell?, show w.heap[b]? = _ from h]
theorem Blk.frozen {w : World} {b : Nat} {cs : List Value} {t : TypeId} (h : Blk w b cs t) (i : Nat) : w.frozen? ⟨b, i, none⟩ = false := by simp [World.frozen?, show w.heap[b]? = _ from h]
theorem Blk.set {w : World} {b : Nat} {cs : List Value} {t : TypeId} (h : Blk w b cs t) (i : Nat) (v : Value) : Blk (w.setCell ⟨b, i, none⟩ v) b (cs.set i v) t := by
  unfold Blk World.setCell
  simp [Array.getElem?_modify, show w.heap[b]? = _ from h]
theorem Blk.same {w w' : World} {b : Nat} {cs : List Value} {t : TypeId} (h : Blk w b cs t) (e : w'.heap[b]? = w.heap[b]?) : Blk w' b cs t := e.trans h
theorem Blk.setOther {w : World} {b : Nat} {cs : List Value} {t : TypeId} (h : Blk w b cs t) {p : Addr} (hne : b ≠ p.block) (v : Value) : Blk (w.setCell p v) b cs t := h.same (Below.heap_setCell w p v b hne)
theorem Blk.alloc {w : World} {b : Nat} {cs : List Value} {t : TypeId} (h : Blk w b cs t) (o : Obj) : Blk (w.alloc o) b cs t := h.same (Below.heap_alloc w o b h.lt)
theorem Blk.drew {w : World} {b : Nat} {cs : List Value} {t : TypeId} (h : Blk w b cs t) : Blk w.drew b cs t := h
theorem Blk.drewN {w : World} {b : Nat} {cs : List Value} {t : TypeId} (h : Blk w b cs t) (n : Nat) : Blk (w.drewN n) b cs t := h
theorem Blk.new (w : World) (cs : List Value) (t : TypeId) : Blk (w.alloc (.cells cs.toArray t (0, 0))) w.heap.size cs t := heap_alloc_new w _
theorem Blk.below {w w' : World} {B b : Nat} {cs : List Value} {t : TypeId} (h : Blk w b cs t) (hb : Below B w w') (hlt : b < B) : Blk w' b cs t := h.same (hb.block b hlt)
theorem Blk.grown {w w' : World} {b : Nat} {cs : List Value} {t : TypeId} (h : Blk w b cs t) {row : Option Nat} (hg : w.grownBy w' row) (hne : some b ≠ row) : Blk w' b cs t := h.same (hg.block b h.lt hne)

theorem Blk.at {w : World} {b : Nat} {cs : List Value} {t : TypeId} (h : Blk w b cs t) (i : Nat) {v : Value} (hv : cs[i]? = some v) : w.cell? ⟨b, i, none⟩ = some v := (h.cell i).trans hv

/-! ### What turns: the blocks of a list, and new ones -/
structure Fr (l : List Nat) (w w' : World) : Prop where
  os : w'.os = w.os
  tape : w'.tape = w.tape
  output : w'.output = w.output
  size : w.heap.size ≤ w'.heap.size
  block : ∀ k, k < w.heap.size → k ∉ l → w'.heap[k]? = w.heap[k]?
theorem Fr.refl (l : List Nat) (w : World) : Fr l w w := ⟨rfl, rfl, rfl, Nat.le_refl _, fun _ _ _ => rfl⟩
theorem Fr.drew (l : List Nat) (w : World) : Fr l w w.drew := ⟨rfl, rfl, rfl, Nat.le_refl _, fun _ _ _ => rfl⟩
theorem Fr.trans {l l' : List Nat} {w w1 w2 : World} (h : Fr l w w1) (k : Fr l' w1 w2) (hs : ∀ i ∈ l', i < w.heap.size → i ∈ l) : Fr l w w2 :=
  ⟨k.os.trans h.os, k.tape.trans h.tape, k.output.trans h.output, Nat.le_trans h.size k.size, fun i hi hn => (k.block i (Nat.lt_of_lt_of_le hi h.size) fun hm => hn (hs i hm hi)).trans (h.block i hi hn)⟩
theorem Fr.mono {l l' : List Nat} {w w1 : World} (h : Fr l w w1) (hs : ∀ i ∈ l, i < w.heap.size → i ∈ l') : Fr l' w w1 :=
  ⟨h.os, h.tape, h.output, h.size, fun i hi hn => h.block i hi fun hm => hn (hs i hm hi)⟩
theorem Fr.new {w w1 w2 : World} (h : Fr [] w w1) (k : Fr [] w1 w2) : Fr [] w w2 := h.trans k fun i hi _ => by cases hi
/-- What turns is new: nothing that was there turned. -/
theorem Fr.own {l : List Nat} {w w1 w2 : World} (h : Fr [] w w1) (k : Fr l w1 w2) (hl : ∀ i ∈ l, w.heap.size ≤ i) : Fr [] w w2 := h.trans k fun i hi hlt => absurd (hl i hi) (by omega)
theorem Fr.below {l : List Nat} {w w1 : World} (h : Fr l w w1) {B : Nat} (hB : B ≤ w.heap.size) (hl : ∀ i ∈ l, B ≤ i) : Below B w w1 :=
  ⟨h.os, h.tape, h.output, h.size, fun i hi => h.block i (Nat.lt_of_lt_of_le hi hB) fun hm => absurd (hl i hm) (by omega)⟩
theorem Fr.below0 {w w1 : World} (h : Fr [] w w1) : Below w.heap.size w w1 := h.below (Nat.le_refl _) fun i hi => by cases hi
theorem Fr.of_below {w w1 : World} (h : Below w.heap.size w w1) (l : List Nat) : Fr l w w1 := ⟨h.os, h.tape, h.output, h.size, fun i hi _ => h.block i hi⟩
theorem Fr.of_grown {w w1 : World} {row : Option Nat} (h : w.grownBy w1 row) {l : List Nat} (hl : ∀ k, row = some k → k ∈ l) : Fr l w w1 :=
  ⟨h.os, h.tape, h.output, h.size, fun i hi hn => h.block i hi fun e => hn (hl i e.symm)⟩
theorem Fr.alloc (l : List Nat) (w : World) (o : Obj) : Fr l w (w.alloc o) := ⟨rfl, rfl, rfl, by simp, fun i hi _ => Below.heap_alloc w o i hi⟩
theorem Fr.setCell (w : World) (p : Addr) (v : Value) : Fr [p.block] w (w.setCell p v) := ⟨rfl, rfl, rfl, by simp, fun i hi hn => Below.heap_setCell w p v i (by simpa using hn)⟩
theorem Blk.fr {w w' : World} {b : Nat} {cs : List Value} {t : TypeId} (h : Blk w b cs t) {l : List Nat} (k : Fr l w w') (hb : b ∉ l) : Blk w' b cs t := h.same (k.block b h.lt hb)
theorem Blk.fr0 {w w' : World} {b : Nat} {cs : List Value} {t : TypeId} (h : Blk w b cs t) (k : Fr [] w w') : Blk w' b cs t := h.fr k (by simp)
theorem Blk.fr1 {w w' : World} {b b' : Nat} {cs : List Value} {t : TypeId} (h : Blk w b cs t) (k : Fr [b'] w w') (hb : b ≠ b') : Blk w' b cs t := h.fr k (by simpa using hb)
theorem own_fr {w w' : World} {base n : Nat} {e : TypeId} {size : Nat} {v : Value} {xs : List Value} (h : w.ownsRow base e size v n xs) {l : List Nat} (k : Fr l w w') (hb : ∀ b, v.ownBlock = some b → b ∉ l) : w'.ownsRow base e size v n xs := by
  rcases h.2 with ⟨rfl, hn⟩ | ⟨g, cap, cur, rfl, hg, hh, hr⟩
  · exact ⟨h.1, .inl ⟨rfl, hn⟩⟩
  · exact ⟨h.1, .inr ⟨g, cap, cur, rfl, hg, (k.block g (lt_of_block hh) (hb g rfl)).trans hh, hr⟩⟩

theorem own_fr1 {w w' : World} {base n b : Nat} {e : TypeId} {size : Nat} {v : Value} {xs : List Value} (h : w.ownsRow base e size v n xs) (k : Fr [b] w w') (hb : b < base) : w'.ownsRow base e size v n xs :=
  own_fr h k fun i hi hm => by
    have := (h.lt i hi).1
    simp at hm
    omega

/-! ### A slice that is read -/
structure Rds (w : World) (v : Value) (n : Nat) (cs : List Value) : Prop where
  ex : ∃ A c, v = .slice A n c ∧ n ≤ c ∧ n ≤ 9223372036854775807 ∧ ∀ j u, cs[j]? = some u → ∃ ad, A = some ad ∧ ad.block < w.heap.size ∧ w.cell? (ad.add j) = some u
theorem Rds.nil (w : World) : Rds w (.slice none 0 0) 0 [] := ⟨none, 0, rfl, by omega, by omega, fun j u h => by simp at h⟩
theorem Rds.below {w w' : World} {v : Value} {n : Nat} {cs : List Value} (h : Rds w v n cs) (hb : Below w.heap.size w w') : Rds w' v n cs := by
  obtain ⟨A, c, e, hn, hm, hc⟩ := h.ex
  refine ⟨A, c, e, hn, hm, fun j u hj => ?_⟩
  obtain ⟨ad, e', hl, hr⟩ := hc j u hj
  have hbl : (ad.add j).block = ad.block := by simp [Addr.add]; split <;> rfl
  exact ⟨ad, e', Nat.lt_of_lt_of_le hl hb.size, (hb.cell (by rw [hbl]; exact hl)).trans hr⟩
theorem add_plain (g j : Nat) : (⟨g, 0, none⟩ : Addr).add j = ⟨g, j, none⟩ := by unfold Addr.add; split <;> simp_all
theorem Rds.of_owns {w : World} {base n : Nat} {e : TypeId} {size : Nat} {v : Value} {xs : List Value} (h : w.ownsRow base e size v n xs) : Rds w v n xs := by
  rcases h.2 with ⟨rfl, rfl⟩ | ⟨g, cap, cur, rfl, hb, hh, hnc, hcm, hs, ht⟩
  · obtain rfl : xs = [] := List.eq_nil_of_length_eq_zero (by have := h.1; omega)
    exact Rds.nil w
  · exact ⟨_, cap, rfl, hnc, by unfold maxLen at hcm; omega, fun j u hj => ⟨_, rfl, lt_of_block hh, h.cells (g := g) rfl j u hj⟩⟩
end Go.Base
