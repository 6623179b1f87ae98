/- strings.Builder: what its functions meet. -/
import Derived.Test.YtmlohijidjbbjaaStr
import Derived.Lib.Builder
namespace Go.V
open Go.Plan (wpL)
open Go.RowKit Go.Base
set_option linter.unusedVariables false
theorem Fr.bel {w0 w w1 : World} {B : Nat} (h : Fr [] w0 w) (k : Below B w w1) (hB : w0.heap.size ≤ B) : Fr [] w0 w1 :=
  ⟨k.os.trans h.os, k.tape.trans h.tape, k.output.trans h.output, Nat.le_trans h.size k.size, fun i hi hn => (k.block i (Nat.lt_of_lt_of_le hi hB)).trans (h.block i hi hn)⟩
theorem bel_fr {w0 w w1 : World} {B : Nat} {l : List Nat} (h : Below B w0 w) (f : Fr l w w1) (hB : B ≤ w0.heap.size) (hl : ∀ i ∈ l, B ≤ i) : Below B w0 w1 :=
  ⟨f.os.trans h.os, f.tape.trans h.tape, f.output.trans h.output, Nat.le_trans h.size f.size, fun k hk => (f.block k (by have := h.size; omega) fun hm => absurd (hl k hm) (by omega)).trans (h.block k hk)⟩
theorem blk_shape {w : World} {b t : Nat} {cs : List Value} (h : Blk w b cs t) : w.shape? b = some (t, cs.length) := by
  unfold World.shape?
  rw [show w.heap[b]? = some (.cells cs.toArray t (0, 0)) from h]
  simp
section
variable {ro : Option Nat} {P : Program} {Q : Exit → Act → World → Prop} {a : Act} {w : World} {ops : Array Oper} {rest : List Oper} {d : Option Tmp} {ty : TypeId} {pos : String} {aft : Array Edge} {g : Option (Nat × Bool)}
/-- A pointer as an unsafe one; back. -/
theorem toU {src dst t e : TypeId} {b n : Nat} {cs : List Value} {x : Operand} (hx : a.eval x = .pointer (some ⟨b, 0, none⟩)) (hs : P.underlying src = some (.pointer t)) (hd : P.underlying dst = some .unsafePointer)
    (ht : (P.info? t).map (fun i => decide (i.size ≠ 0)) = some true) (hB : Blk w b cs e) (hn : 0 < cs.length) (k : L ro P ops Q rest (a.put d (.pointer (some ⟨b, 0, none⟩))) w) : St ro P ops Q rest ⟨d, .convert src dst x, ty, pos, aft, g⟩ a w := by
  obtain ⟨j, hj, hjs⟩ := Option.map_eq_some_iff.1 ht
  refine St.val (v := .pointer (some ⟨b, 0, none⟩)) (w' := w) ?_ k
  simp only [execOp, hx]
  rw [Sem.run_bind, Lib.run_to_unsafe w ⟨b, 0, none⟩ hs hd hj (of_decide_eq_true hjs) (blk_shape hB) hn]
  rfl
theorem ofU {src dst u e : TypeId} {b : Nat} {cs : List Value} {x : Operand} (hx : a.eval x = .pointer (some ⟨b, 0, none⟩)) (hs : P.underlying src = some .unsafePointer) (hd : P.underlying dst = some (.pointer u))
    (hu : (P.info? u).isSome = true) (hB : Blk w b cs e) (hl : liesAt P P.depth e (cs.length / P.cellsOf e) 0 u 1 = true) (k : L ro P ops Q rest (a.put d (.pointer (some ⟨b, 0, none⟩))) w) : St ro P ops Q rest ⟨d, .convert src dst x, ty, pos, aft, g⟩ a w := by
  obtain ⟨j, hj⟩ := Option.isSome_iff_exists.1 hu
  refine St.val (v := .pointer (some ⟨b, 0, none⟩)) (w' := w) ?_ k
  simp only [execOp, hx]
  rw [Sem.run_bind, Lib.run_from_unsafe w ⟨b, 0, none⟩ hs hd hj (blk_shape hB) hl]
  rfl
/-- A call of a function without a body, that the model answers at once. -/
theorem callv {f : Operand} {args : Array Operand} {ts : Array TypeId} (gn : FuncId) (av : Array Value) {v : Value} {w' : World} (hf : a.eval f = .func (.func gn) #[] #[]) (ha : args.map a.eval = av)
    (hr : (callFunc gn av).run P w = .ok (.value v) w') (k : L ro P ops Q rest (a.put d v) w') : St ro P ops Q rest ⟨d, .call ⟨.value f, args, ts⟩, ty, pos, aft, g⟩ a w := by
  refine St.val (v := v) (w' := w') ?_ k
  simp only [execOp, resolve, hf, ha, Deferred.ofValue, Sem.run_bind, Sem.run_pure, Result.andThen_ok, invoke, Array.empty_append, Array.append_empty, hr]
theorem neqP {t e t' : TypeId} {x y : Operand} (ad : Addr) (hx : a.eval x = .pointer (some ad)) (hy : a.eval y = .pointer (some ad)) (hp : P.underlying t = some (.pointer e)) (hi : (P.info? e).isSome = true)
    (k : L ro P ops Q rest (a.put d (.bool false)) w) : St ro P ops Q rest ⟨d, .binOp .neq t x y t', ty, pos, aft, g⟩ a w := by
  obtain ⟨j, hj⟩ := Option.isSome_iff_exists.1 hi
  refine St.val (v := .bool false) (w' := w) ?_ k
  simp only [execOp, hx, hy]
  rw [Sem.run_bind, Sem.run_bind, show (eqGuard .neq t x y (.pointer (some ad)) (.pointer (some ad))).run P w = .ok () w from rfl]
  simp only [Result.andThen_ok]
  rw [Lib.run_neq_ptr_same w ad hp hj]
  rfl
end
/-- A builder's bytes, as the library's contracts speak of them. -/
theorem bld_is {w : World} {b T : Nat} {p v : Value} {xs : List Int} (hB : Blk w b [p, v] T) (hp : p = .pointer none ∨ p = .pointer (some ⟨b, 0, none⟩)) (hO : OwR (Rp.int .u8) NoZ w (b + 1) 5 v xs) (hx : ∀ x ∈ xs, 0 ≤ x ∧ x ≤ 255) :
    Lib.IsBuilder T 5 b b (Lib.byteCells (xs.map fun n => UInt8.ofNat n.toNat)) w := by
  obtain ⟨cs, h1, h2, h3⟩ := hO
  have hcs : ∀ {xs : List Int} {cs : List Value}, Cells (Rp.int .u8) NoZ w xs cs → (∀ x ∈ xs, 0 ≤ x ∧ x ≤ 255) → cs = Lib.byteCells (xs.map fun n => UInt8.ofNat n.toNat) := by
    intro xs
    induction xs with
    | nil => intro cs h _; exact h
    | cons x xs ih =>
      rintro cs ⟨c, r, rfl, hc, hr⟩ hx
      have hc' : c = [.int .u8 x] := hc
      subst hc'
      rw [ih hr (fun y hy => hx y (List.mem_cons_of_mem _ hy))]
      have hb := hx x (List.mem_cons_self ..)
      have he : (((UInt8.ofNat x.toNat).toNat : Nat) : Int) = x := by rw [UInt8.toNat_ofNat']; omega
      simp only [List.map_cons, Lib.byteCells]
      rw [he]; rfl
  have hcs' := hcs h2 hx
  subst hcs'
  have hlen : (Lib.byteCells (xs.map fun n => UInt8.ofNat n.toNat)).length = xs.length := by simp [Lib.byteCells]
  have hown : w.ownsRow b 5 1 v (Lib.byteCells (xs.map fun n => UInt8.ofNat n.toNat)).length (Lib.byteCells (xs.map fun n => UInt8.ofNat n.toNat)) ∧ v.ownBlock ≠ some b := by
    rw [hlen]
    refine ⟨⟨h1.1, ?_⟩, fun e => by have := (h1.lt b e).1; omega⟩
    rcases h1.2 with h | ⟨g, cap, cur, e1, e2, e3⟩
    · exact .inl h
    · exact .inr ⟨g, cap, cur, e1, by omega, e3⟩
  have hb : w.heap[b]? = some (.cells #[p, v] T (0, 0)) := hB
  rcases hp with rfl | rfl
  · exact .inl ⟨Nat.le_refl _, v, hb, hown.1, hown.2⟩
  · exact .inr ⟨Nat.le_refl _, v, hb, hown.1, hown.2⟩
end Go.V
