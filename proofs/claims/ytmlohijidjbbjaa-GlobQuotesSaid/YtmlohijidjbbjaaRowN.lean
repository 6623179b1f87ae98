/- Rows whose elements take several cells, known whole: made, read, written. -/
import Derived.Test.YtmlohijidjbbjaaRow
namespace Go.V
open Go.Base Go.RowKit
set_option linter.unusedVariables false
set_option linter.unusedSimpArgs false
structure RowN {α : Type} (enc : α → List Value) (w : World) (b : Nat) (xs : List α) (t : TypeId) : Prop where
  blk : Blk w b (xs.flatMap enc) t
section
variable {α : Type} {enc : α → List Value} {w w' : World} {b : Nat} {xs : List α} {t : TypeId}
theorem RowN.lt (h : RowN enc w b xs t) : b < w.heap.size := h.blk.lt
theorem RowN.fr (h : RowN enc w b xs t) {l : List Nat} (f : Fr l w w') (hb : b ∉ l) : RowN enc w' b xs t := ⟨h.blk.fr f hb⟩
theorem RowN.fr0 (h : RowN enc w b xs t) (f : Fr [] w w') : RowN enc w' b xs t := ⟨h.blk.fr0 f⟩
theorem RowN.fr1 (h : RowN enc w b xs t) {b' : Nat} (f : Fr [b'] w w') (hb : b ≠ b') : RowN enc w' b xs t := ⟨h.blk.fr1 f hb⟩
theorem flat_length {n : Nat} (hn : ∀ x, (enc x).length = n) : ∀ xs : List α, (xs.flatMap enc).length = xs.length * n
  | [] => by simp
  | x :: xs => by rw [List.flatMap_cons, List.length_append, hn, flat_length hn xs, List.length_cons, Nat.add_mul]; omega
theorem flat_get {n : Nat} (hn : ∀ x, (enc x).length = n) : ∀ (xs : List α) (i : Nat) (x : α), xs[i]? = some x → ((xs.flatMap enc).drop (i * n)).take n = enc x
  | [], i, x, h => by simp at h
  | y :: xs, 0, x, h => by
    simp at h; subst h
    rw [List.flatMap_cons, Nat.zero_mul, List.drop_zero, ← hn y, List.take_left]
  | y :: xs, i + 1, x, h => by
    rw [List.flatMap_cons, show (i + 1) * n = (enc y).length + i * n by rw [hn, Nat.add_mul]; omega, List.drop_append]
    simp only [Nat.add_sub_cancel_left, List.drop_eq_nil_of_le (Nat.le_add_right _ _), List.nil_append]
    exact flat_get hn xs i x (by simpa using h)
theorem over_app : ∀ (vs a b : List Value) (k : Nat), over (a ++ b) (a.length + k) vs = a ++ over b k vs
  | [], a, b, k => rfl
  | v :: vs, a, b, k => by
    rw [over, over, List.set_append_right _ _ (by omega), Nat.add_sub_cancel_left, Nat.add_assoc, over_app vs a _ (k + 1)]
theorem over_here : ∀ (vs a b : List Value), a.length = vs.length → over (a ++ b) 0 vs = vs ++ b
  | [], a, b, h => by
    have : a = [] := List.eq_nil_of_length_eq_zero h
    subst this; rfl
  | v :: vs, [], b, h => by simp at h
  | v :: vs, u :: a, b, h => by
    have h1 := over_app vs [v] (a ++ b) 0
    rw [over]
    show over (v :: (a ++ b)) (0 + 1) vs = v :: (vs ++ b)
    rw [show 0 + 1 = [v].length + 0 from rfl, show v :: (a ++ b) = [v] ++ (a ++ b) from rfl, h1, over_here vs a b (by simpa using h)]
    rfl
theorem flat_set {n : Nat} (hn : ∀ x, (enc x).length = n) : ∀ (xs : List α) (i : Nat) (x : α), i < xs.length → over (xs.flatMap enc) (i * n) (enc x) = (xs.set i x).flatMap enc
  | [], i, x, h => by simp at h
  | y :: xs, 0, x, h => by
    rw [List.flatMap_cons, Nat.zero_mul, over_here _ _ _ (by rw [hn, hn])]
    rfl
  | y :: xs, i + 1, x, h => by
    rw [List.flatMap_cons, show (i + 1) * n = (enc y).length + i * n by rw [hn, Nat.add_mul]; omega, over_app, flat_set hn xs i x (by simpa using h)]
    rfl
end
section
variable {ro : Option Nat} {P : Program} {Q : Exit → Act → World → Prop} {a : Act} {w : World} {ops : Array Oper} {rest : List Oper} {d : Option Tmp} {ty : TypeId} {pos : String} {aft : Array Edge} {g : Option (Nat × Bool)}
/-- An element's cells. -/
theorem RowN.cells {α : Type} {enc : α → List Value} {b : Nat} {xs : List α} {t : TypeId} (h : RowN enc w b xs t) {n : Nat} (hn : ∀ x, (enc x).length = n) (i : Nat) (df : α) (hi : i < xs.length) :
    ∀ j u, (enc (xs.getD i df))[j]? = some u → w.cell? ((⟨b, 0 + i * n, none⟩ : Addr).add j) = some u := by
  refine blk_cells h.blk (0 + i * n) _ ?_
  rw [hn, Nat.zero_add]
  refine flat_get hn xs i _ ?_
  rw [List.getD_eq_getElem?_getD, List.getElem?_eq_getElem hi]; rfl
/-- A store of a whole element. -/
theorem stRowN {α : Type} {enc : α → List Value} {t : TypeId} {x y : Operand} (b i n : Nat) (v : α) (hx : a.eval x = .pointer (some ⟨b, 0 + i * n, none⟩)) (u : Value) (hy : a.eval y = u) (hv : u.cells = (enc v).toArray) (h1 : (enc v).all Value.oneCell' = true)
    (hn : ∀ x, (enc x).length = n) (ht : (P.info? t).map (·.size) = some n) {xs : List α} {bt : TypeId} (hB : RowN enc w b xs bt) (hi : i < xs.length)
    (k : ∀ w1, RowN enc w1 b (xs.set i v) bt → Fr [b] w w1 → w1.heap.size = w.heap.size → L ro P ops Q rest a w1) : St ro P ops Q rest ⟨none, .store t x y, ty, pos, aft, g⟩ a w := by
  have hlen := flat_length hn xs
  have hle : i * n + n ≤ xs.length * n := by
    have := Nat.mul_le_mul_right n (show i + 1 ≤ xs.length from hi)
    rwa [Nat.add_mul, Nat.one_mul] at this
  refine stn b (0 + i * n) u (enc v) hx hy hv h1 (by rw [ht, hn]) hB.blk (by rw [hlen, hn]; omega) ((xs.set i v).flatMap enc) ?_ fun w1 h => k w1 ⟨h⟩
  rw [Nat.zero_add]
  exact flat_set hn xs i v hi
/-- make([]T, n). -/
theorem mkN {α : Type} {enc : α → List Value} {t e : TypeId} {l c : Operand} {kl kc : IntKind} (n m : Nat) (z : Value) (x0 : α) (bytes : Nat) (hl : a.eval l = .int kl (n : Int)) (hc : a.eval c = .int kc (n : Int)) (ht : P.underlying t = some (.slice e))
    (hinfo : (P.info? e).map (fun i => (i.zero, i.size, i.bytes)) = some (some z, m, bytes)) (he : (madeCells z.cells (n * m)).toList = (List.replicate n x0).flatMap enc) (hb : bytes * n ≤ 281474976710656) (hn : n ≤ 9223372036854775807)
    (k : ∀ w1 b, b = w.heap.size → RowN enc w1 b (List.replicate n x0) e → Fr [] w w1 → L ro P ops Q rest (a.put d (.slice (some ⟨b, 0, none⟩) n n)) w1) : St ro P ops Q rest ⟨d, .makeSlice t l c, ty, pos, aft, g⟩ a w := by
  obtain ⟨i, hi, hzz⟩ := Option.map_eq_some_iff.1 hinfo
  simp only [Prod.mk.injEq] at hzz
  obtain ⟨hz0, hz1, hz2⟩ := hzz
  subst hz2
  obtain ⟨w1, h1, h2, h3⟩ := run_make_full (P := P) w w.heap.size t e i z m ht hi hz0 hz1 kl kc n hb (by unfold maxLen; omega) (Nat.le_refl _)
  refine St.val (v := .slice (some ⟨w.heap.size, 0, none⟩) n n) (w' := w1) (by simp only [execOp, hl, hc, h1, Sem.run_bind, Sem.run_pure, Result.andThen_ok]) (k w1 _ rfl ⟨?_⟩ (Fr.of_grown h3 fun k hk => by cases hk))
  rcases h2.2 with ⟨h4, _⟩ | ⟨g', cap, cur, h4, _, h5, _, _, h6, h7⟩
  · cases h4
  · injection h4 with h8 h9 h10
    injection h8 with h8
    injection h8 with h8 h11
    subst h8; subst h10
    have h12 : cur.toList = (List.replicate n x0).flatMap enc := by
      rw [List.take_of_length_le (by simp; omega)] at h7
      rw [h7, he]
    unfold Blk
    rw [h5]
    have : cur = ((List.replicate n x0).flatMap enc).toArray := by
      apply Array.ext'
      rw [h12]
    rw [this]
end
end Go.V
