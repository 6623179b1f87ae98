/- Rows that are known whole: made, read, written. -/
import Derived.Test.YtalhmegjomfbaaaRep
namespace Go.V
open Go.Base Go.RowKit
set_option linter.unusedVariables false
set_option linter.unusedSimpArgs false
/-- A row of data, a cell each. -/
structure Row {α : Type} (enc : α → Value) (w : World) (b : Nat) (xs : List α) (t : TypeId) : Prop where
  blk : Blk w b (xs.map enc) t
section
variable {α : Type} {enc : α → Value} {w w' : World} {b : Nat} {xs : List α} {t : TypeId}
theorem Row.lt (h : Row enc w b xs t) : b < w.heap.size := h.blk.lt
theorem Row.fr (h : Row enc w b xs t) {l : List Nat} (f : Fr l w w') (hb : b ∉ l) : Row enc w' b xs t := ⟨h.blk.fr f hb⟩
theorem Row.fr0 (h : Row enc w b xs t) (f : Fr [] w w') : Row enc w' b xs t := ⟨h.blk.fr0 f⟩
theorem Row.fr1 (h : Row enc w b xs t) {b' : Nat} (f : Fr [b'] w w') (hb : b ≠ b') : Row enc w' b xs t := ⟨h.blk.fr1 f hb⟩
theorem Row.at (h : Row enc w b xs t) (i : Nat) (d : α) (hi : i < xs.length) : w.cell? ⟨b, 0 + i * 1, none⟩ = some (enc (xs.getD i d)) := by
  rw [show 0 + i * 1 = i by omega, h.blk.cell, List.getElem?_map, List.getD_eq_getElem?_getD, List.getElem?_eq_getElem hi]
  rfl
end
section
variable {ro : Option Nat} {P : Program} {Q : Exit → Act → World → Prop} {a : Act} {w : World} {ops : Array Oper} {rest : List Oper} {d : Option Tmp} {ty : TypeId} {pos : String} {aft : Array Edge} {g : Option (Nat × Bool)}
/-- make([]T, n) of one-cell data. -/
theorem mks {α : Type} {enc : α → Value} {t e : TypeId} {l c : Operand} {kl kc : IntKind} (n : Nat) (z : Value) (x0 : α) (bytes : Nat) (hl : a.eval l = .int kl (n : Int)) (hc : a.eval c = .int kc (n : Int)) (ht : P.underlying t = some (.slice e))
    (hinfo : (P.info? e).map (fun i => (i.zero, i.size, i.bytes)) = some (some z, 1, bytes)) (hz : z.cells = #[z]) (he : enc x0 = z) (hb : bytes * n ≤ 281474976710656) (hn : n ≤ 9223372036854775807)
    (k : ∀ w1 b, b = w.heap.size → Row enc w1 b (List.replicate n x0) e → Fr [] w w1 → L ro P ops Q rest (a.put d (.slice (some ⟨b, 0, none⟩) n n)) w1) : St ro P ops Q rest ⟨d, .makeSlice t l c, ty, pos, aft, g⟩ a w := by
  obtain ⟨i, hi, hzz⟩ := Option.map_eq_some_iff.1 hinfo
  simp only [Prod.mk.injEq] at hzz
  obtain ⟨hz0, hz1, hz2⟩ := hzz
  subst hz2
  obtain ⟨w1, h1, h2, h3⟩ := run_make_full (P := P) w w.heap.size t e i z 1 ht hi hz0 hz1 kl kc n hb (by unfold maxLen; omega) (Nat.le_refl _)
  refine St.val (v := .slice (some ⟨w.heap.size, 0, none⟩) n n) (w' := w1) (by simp only [execOp, hl, hc, h1, Sem.run_bind, Sem.run_pure, Result.andThen_ok]) (k w1 _ rfl ⟨?_⟩ (Fr.of_grown h3 fun k hk => by cases hk))
  rcases h2.2 with ⟨h4, _⟩ | ⟨g', cap, cur, h4, _, h5, _, _, h6, h7⟩
  · cases h4
  · injection h4 with h8 h9 h10
    injection h8 with h8
    injection h8 with h8 h11
    subst h8; subst h10
    have h12 : cur.toList = List.replicate n z := by
      rw [List.take_of_length_le (by simp; omega)] at h7
      rw [h7, hz, Nat.mul_one, toList_madeCells_one]
    unfold Blk
    rw [h5]
    have : cur = ((List.replicate n x0).map enc).toArray := by
      apply Array.ext'
      rw [h12, List.map_replicate, he]
    rw [this]
/-- A store into a row. -/
theorem strow {α : Type} {enc : α → Value} {t : TypeId} {x y : Operand} (b i : Nat) (v : α) (hx : a.eval x = .pointer (some ⟨b, 0 + i * 1, none⟩)) (hy : a.eval y = enc v) (hv : (enc v).cells = #[enc v]) (h1 : (enc v).oneCell' = true)
    (ht : (P.info? t).map (·.size) = some 1) {xs : List α} {bt : TypeId} (hB : Row enc w b xs bt) (hi : i < xs.length)
    (k : ∀ w1, Row enc w1 b (xs.set i v) bt → Fr [b] w w1 → w1.heap.size = w.heap.size → L ro P ops Q rest a w1) : St ro P ops Q rest ⟨none, .store t x y, ty, pos, aft, g⟩ a w := by
  refine stn b (0 + i * 1) (enc v) [enc v] hx hy hv (by simp [h1]) ht hB.blk (by simp; omega) ((xs.set i v).map enc) ?_ fun w1 h => k w1 ⟨h⟩
  show (xs.map enc).set (0 + i * 1) (enc v) = _
  rw [show 0 + i * 1 = i by omega, List.map_set]
end
end Go.V
