/- Words of 64 bits: xor, product, remainder. -/
import Derived.Test.YtalhmegjomfbaaaBits
namespace Go.V
open Go.Base Go.RowKit
set_option linter.unusedVariables false
theorem b_xor_u64 (x m : Nat) (hx : x < 18446744073709551616) (hm : m < 18446744073709551616) : Value.int .u64 (IntKind.u64.wrap ((BitVec.ofInt 64 (x : Int) ^^^ BitVec.ofInt 64 (m : Int)).toNat : Int)) = .int .u64 ((x ^^^ m : Nat) : Int) := by
  have hb : (BitVec.ofInt 64 (x : Int) ^^^ BitVec.ofInt 64 (m : Int)).toNat = x ^^^ m := by rw [BitVec.toNat_xor, ofInt_nat 64 x (by omega), ofInt_nat 64 m (by omega)]
  have hlt : x ^^^ m < 2 ^ 64 := Nat.xor_lt_two_pow (by omega) (by omega)
  rw [hb]
  exact w_u64 (by omega) (by omega)
theorem b_mul_u64 (x m : Nat) : Value.int .u64 (IntKind.u64.wrap ((x : Int) * (m : Int))) = .int .u64 ((x * m % 18446744073709551616 : Nat) : Int) := by
  have h : ∀ z : Int, IntKind.u64.wrap z = z % 18446744073709551616 := fun z => rfl
  rw [h, ← Int.natCast_mul, Int.natCast_emod]
  rfl
section
variable {ro : Option Nat} {P : Program} {Q : Exit → Act → World → Prop} {a : Act} {w : World} {ops : Array Oper} {rest : List Oper} {d : Option Tmp} {ty : TypeId} {pos : String} {aft : Array Edge} {g : Option (Nat × Bool)}
theorem xor64 {t t' : TypeId} {x y : Operand} (n m : Nat) (hx : a.eval x = .int .u64 (n : Int)) (hy : a.eval y = .int .u64 (m : Int)) (h1 : n < 18446744073709551616) (h2 : m < 18446744073709551616)
    (k : L ro P ops Q rest (a.put d (.int .u64 ((n ^^^ m : Nat) : Int))) w) : St ro P ops Q rest ⟨d, .binOp .xor t x y t', ty, pos, aft, g⟩ a w := by
  refine St.val (v := .int .u64 ((n ^^^ m : Nat) : Int)) (w' := w) ?_ k
  rw [← b_xor_u64 n m h1 h2]
  simp only [execOp, hx, hy]
  rfl
theorem mulw64 {t t' : TypeId} {x y : Operand} (n m : Nat) (hx : a.eval x = .int .u64 (n : Int)) (hy : a.eval y = .int .u64 (m : Int))
    (k : L ro P ops Q rest (a.put d (.int .u64 ((n * m % 18446744073709551616 : Nat) : Int))) w) : St ro P ops Q rest ⟨d, .binOp .mul t x y t', ty, pos, aft, g⟩ a w := by
  refine St.val (v := .int .u64 ((n * m % 18446744073709551616 : Nat) : Int)) (w' := w) ?_ k
  rw [← b_mul_u64 n m]
  simp only [execOp, hx, hy]
  rfl
theorem remN {t t' : TypeId} {x y : Operand} {k : IntKind} (n m : Nat) (hx : a.eval x = .int k (n : Int)) (hy : a.eval y = .int k (m : Int)) (hm : 0 < m)
    (kk : L ro P ops Q rest (a.put d (.int k ((n % m : Nat) : Int))) w) : St ro P ops Q rest ⟨d, .binOp .rem t x y t', ty, pos, aft, g⟩ a w :=
  rem hx hy (Int.natCast_nonneg _) (by omega) (by rw [show ((n : Int) % (m : Int)) = ((n % m : Nat) : Int) from rfl]; exact kk)
theorem mulN {t t' : TypeId} {x y : Operand} (n m : Nat) (hx : a.eval x = .int .i64 (n : Int)) (hy : a.eval y = .int .i64 (m : Int)) (hb : n * m ≤ 9223372036854775807)
    (k : L ro P ops Q rest (a.put d (.int .i64 ((n * m : Nat) : Int))) w) : St ro P ops Q rest ⟨d, .binOp .mul t x y t', ty, pos, aft, g⟩ a w := by
  refine St.val (v := .int .i64 ((n * m : Nat) : Int)) (w' := w) ?_ k
  have h1 : Value.int .i64 (IntKind.i64.wrap ((n : Int) * (m : Int))) = .int .i64 ((n * m : Nat) : Int) := by
    rw [← Int.natCast_mul]
    exact w_i64 (by omega) (by omega)
  rw [← h1]
  simp only [execOp, hx, hy]
  rfl
end
/-- A key's hash. -/
def hstep (h c : Nat) : Nat := (h ^^^ c) * 1099511628211 % 18446744073709551616
def hseed (seed : Nat) : Nat := 14695981039346656037 ^^^ seed
def hashI (h : Nat) (l : List Int) : Nat := l.foldl (fun h c => hstep h c.toNat) h
def hashN (seed : Nat) (s : ByteArray) : Nat := hashI (hseed seed) (ints s)
theorem ints_take1 (s : ByteArray) (k : Nat) (h : k < s.size) : (ints s).take (k + 1) = (ints s).take k ++ [bi s (k : Int)] := by
  rw [List.take_add_one, ints_get s k h]; rfl
theorem bi_nat (s : ByteArray) (k : Int) : (bi s k).toNat = (byt s k).toNat := Int.toNat_natCast _
theorem hash_step {h0 : Nat} {s : ByteArray} {k h : Nat} (hk : k < s.size) (hh : hashI h0 ((ints s).take k) = h) : hashI h0 ((ints s).take (k + 1)) = hstep h (byt s (k : Int)).toNat := by
  subst hh
  rw [ints_take1 s k hk]
  unfold hashI
  rw [List.foldl_append, List.foldl_cons, List.foldl_nil, bi_nat]
theorem hash_end {h0 : Nat} {s : ByteArray} {k h : Nat} (hk : s.size ≤ k) (hh : hashI h0 ((ints s).take k) = h) : h = hashI h0 (ints s) := by
  rw [List.take_of_length_le (by rw [ints_length]; exact hk)] at hh
  exact hh.symm
theorem hstep_lt (h c : Nat) : hstep h c < 18446744073709551616 := Nat.mod_lt _ (by decide)
theorem hseed_lt {seed : Nat} (h : seed < 18446744073709551616) : hseed seed < 18446744073709551616 := Nat.xor_lt_two_pow (n := 64) (by decide) h
theorem hashI_lt {h : Nat} (h0 : h < 18446744073709551616) (l : List Int) : hashI h l < 18446744073709551616 := by
  induction l generalizing h with
  | nil => exact h0
  | cons c l ih => exact ih (hstep_lt h c.toNat)
theorem hashN_lt {seed : Nat} (h : seed < 18446744073709551616) (s : ByteArray) : hashN seed s < 18446744073709551616 := hashI_lt (hseed_lt h) _
end Go.V
