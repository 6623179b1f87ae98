/- A slice of bytes as a string; strings and rows of numbers. -/
import Derived.Test.YtmlohijidjbbjaaCat
import Derived.Laws.IdiomStrings
namespace Go.V
open Go.Base Go.RowKit
set_option linter.unusedVariables false
/-- The string of these bytes. -/
def strI (xs : List Int) : ByteArray := ⟨(xs.map fun n => UInt8.ofNat n.toNat).toArray⟩
theorem strI_size (xs : List Int) : (strI xs).size = xs.length := by show (xs.map _).toArray.size = _; simp
theorem strI_nil : strI [] = ⟨#[]⟩ := rfl
theorem ints_strI {xs : List Int} (h : ∀ x ∈ xs, 0 ≤ x ∧ x ≤ 255) : ints (strI xs) = xs := by
  unfold ints strI
  simp only [List.map_map]
  conv => rhs; rw [← List.map_id xs]
  apply List.map_congr_left
  intro x hx
  have := h x hx
  show (((UInt8.ofNat x.toNat).toNat : Nat) : Int) = x
  rw [UInt8.toNat_ofNat']
  omega
theorem ints_bytes (s : ByteArray) : ∀ x ∈ ints s, 0 ≤ x ∧ x ≤ 255 := by
  intro x hx
  unfold ints at hx
  obtain ⟨b, _, rfl⟩ := List.mem_map.1 hx
  have := b.toNat_lt
  omega
theorem strI_ints (s : ByteArray) : strI (ints s) = s := ints_inj (ints_strI (ints_bytes s))
section
variable {ro : Option Nat} {P : Program} {Q : Exit → Act → World → Prop} {a : Act} {w : World} {ops : Array Oper} {rest : List Oper} {d : Option Tmp} {ty : TypeId} {pos : String} {aft : Array Edge} {g : Option (Nat × Bool)}
theorem run_b2s {Z : Nat → Prop} {v : Value} {xs : List Int} {src dst e : TypeId} (hS : SlR (Rp.int .u8) Z w v xs) (hs : P.underlying src = some (.slice e)) (he : P.underlying e = some (.int .u8)) (hd : P.underlying dst = some .string) :
    (convert src dst v).run P w = .ok (.string (strI xs)) w := by
  obtain ⟨A, c, rfl, h1, h2, h3⟩ := hS
  rw [run_convert_bytes_string w src dst e A xs.length c hs he hd]
  cases A with
  | none =>
    cases xs with
    | nil => rfl
    | cons x xs => obtain ⟨g, o, cs, hA, _⟩ := h3 0 x rfl; cases hA
  | some ad =>
    have hl := run_loadCells_list (P := P) w ad (xs.map (Value.int .u8)) (fun j v hj => by
      rw [List.getElem?_map] at hj
      obtain ⟨x, hx, rfl⟩ := Option.map_eq_some_iff.1 hj
      obtain ⟨g, o, cs, hA, _, _, hok, hc⟩ := h3 j x hx
      injection hA with hA
      subst hA
      have hok' : cs = [.int .u8 x] := hok
      subst hok'
      have := hc 0 _ rfl
      have ha : (⟨g, o, none⟩ : Addr).add j = ⟨g, o + j, none⟩ := by unfold Addr.add; split <;> simp_all
      rw [ha]
      simpa [Rp.int, Rp.flat] using this)
    rw [List.length_map] at hl
    rw [run_bytesToString w ad xs.length c xs hl]
    have : ∀ (l : List Int) (r : ByteArray), l.foldl (fun r n => r.push (UInt8.ofNat n.toNat)) r = ⟨r.data ++ (l.map fun n => UInt8.ofNat n.toNat).toArray⟩ := by
      intro l
      induction l with
      | nil => intro r; simp
      | cons x l ih => intro r; rw [List.foldl_cons, ih]; simp [ByteArray.push]
    rw [this]
    have he0 : ByteArray.empty.data = #[] := rfl
    rw [he0]
    simp [strI]
theorem b2s {Z : Nat → Prop} {v : Value} {xs : List Int} {src dst e : TypeId} {x : Operand} (hS : SlR (Rp.int .u8) Z w v xs) (hs : P.underlying src = some (.slice e)) (he : P.underlying e = some (.int .u8)) (hd : P.underlying dst = some .string)
    (hx : a.eval x = v) (k : L ro P ops Q rest (a.put d (.string (strI xs))) w) : St ro P ops Q rest ⟨d, .convert src dst x, ty, pos, aft, g⟩ a w := by
  refine St.val (v := .string (strI xs)) (w' := w) ?_ k
  have := run_b2s (src := src) (dst := dst) hS hs he hd
  simp only [execOp, hx]
  exact (by rw [Sem.run_bind, this]; rfl)
end
end Go.V
