/- Bits of words: what the shifts and the bit operations make of numbers that fit. -/
import Derived.Test.YtalhmegjomfbaaaRow
namespace Go.V
open Go.Base Go.RowKit
set_option linter.unusedVariables false
set_option linter.unusedSimpArgs false
theorem ofInt_nat (w : Nat) (x : Nat) (h : x < 2 ^ w) : (BitVec.ofInt w (x : Int)).toNat = x := by
  rw [BitVec.ofInt_natCast, BitVec.toNat_ofNat, Nat.mod_eq_of_lt h]
theorem b_and_u8 (x m : Nat) (hx : x < 256) (hm : m < 256) : Value.int .u8 (IntKind.u8.wrap ((BitVec.ofInt 8 (x : Int) &&& BitVec.ofInt 8 (m : Int)).toNat : Int)) = .int .u8 ((x &&& m : Nat) : Int) := by
  have hb : (BitVec.ofInt 8 (x : Int) &&& BitVec.ofInt 8 (m : Int)).toNat = x &&& m := by rw [BitVec.toNat_and, ofInt_nat 8 x (by omega), ofInt_nat 8 m (by omega)]
  have hlt : x &&& m < 2 ^ 8 := Nat.and_lt_two_pow _ (by omega)
  rw [hb]
  exact w_u8 (by omega) (by omega)
theorem b_and_u64 (x m : Nat) (hx : x < 18446744073709551616) (hm : m < 18446744073709551616) : Value.int .u64 (IntKind.u64.wrap ((BitVec.ofInt 64 (x : Int) &&& BitVec.ofInt 64 (m : Int)).toNat : Int)) = .int .u64 ((x &&& m : Nat) : Int) := by
  have hb : (BitVec.ofInt 64 (x : Int) &&& BitVec.ofInt 64 (m : Int)).toNat = x &&& m := by rw [BitVec.toNat_and, ofInt_nat 64 x (by omega), ofInt_nat 64 m (by omega)]
  have hlt : x &&& m < 2 ^ 64 := Nat.and_lt_two_pow _ (by omega)
  rw [hb]
  exact w_u64 (by omega) (by omega)
theorem b_or_u64 (x m : Nat) (hx : x < 18446744073709551616) (hm : m < 18446744073709551616) : Value.int .u64 (IntKind.u64.wrap ((BitVec.ofInt 64 (x : Int) ||| BitVec.ofInt 64 (m : Int)).toNat : Int)) = .int .u64 ((x ||| m : Nat) : Int) := by
  have hb : (BitVec.ofInt 64 (x : Int) ||| BitVec.ofInt 64 (m : Int)).toNat = x ||| m := by rw [BitVec.toNat_or, ofInt_nat 64 x (by omega), ofInt_nat 64 m (by omega)]
  have hlt : x ||| m < 2 ^ 64 := Nat.or_lt_two_pow (by omega) (by omega)
  rw [hb]
  exact w_u64 (by omega) (by omega)
theorem b_shr {k : IntKind} (x n : Nat) : Value.int k (Int.fdiv (x : Int) (2 ^ n)) = .int k ((x >>> n : Nat) : Int) := by
  have h : ((2 : Int) ^ n) = ((2 ^ n : Nat) : Int) := by simp
  rw [h, Int.fdiv_eq_ediv_of_nonneg _ (Int.natCast_nonneg _), ← Int.natCast_ediv, Nat.shiftRight_eq_div_pow]
theorem b_one (n : Nat) (h : n < 64) : Value.int .u64 (IntKind.u64.wrap (1 * 2 ^ n)) = .int .u64 ((2 ^ n : Nat) : Int) := by
  have h1 : 2 ^ n < 2 ^ 64 := Nat.pow_lt_pow_right (by omega) h
  have h2 : ((2 : Int) ^ n) = ((2 ^ n : Nat) : Int) := by simp
  rw [Int.one_mul, h2]
  generalize 2 ^ n = m at h1
  exact w_u64 (by omega) (by omega)
/-- A set of bytes, in four words. -/
def bitS (xs : List Nat) (c : Nat) : Bool := (xs.getD (c / 64) 0).testBit (c % 64)
def Wds (xs : List Nat) : Prop := xs.length = 4 ∧ ∀ i, xs.getD i 0 < 18446744073709551616
def putS (xs : List Nat) (c : Nat) : List Nat := xs.set (c / 64) (xs.getD (c / 64) 0 ||| 2 ^ (c % 64))
theorem Wds.zero : Wds [0, 0, 0, 0] := ⟨rfl, fun i => by
  match i with
  | 0 | 1 | 2 | 3 => simp
  | i + 4 => simp⟩
theorem Wds.put {xs : List Nat} (h : Wds xs) {c : Nat} (hc : c < 256) : Wds (putS xs c) := by
  refine ⟨by simp [putS, h.1], fun i => ?_⟩
  have h1 := h.2 (c / 64)
  have h2 := h.2 i
  unfold putS
  rw [List.getD_eq_getElem?_getD] at h2 ⊢
  rw [List.getElem?_set]
  split
  · split
    · simp only [Option.getD_some]
      exact Nat.or_lt_two_pow (n := 64) h1 (Nat.pow_lt_pow_right (by omega) (by omega))
    · simp
  · exact h2
theorem bitS_zero (c : Nat) : bitS [0, 0, 0, 0] c = false := by
  unfold bitS
  have : ([0, 0, 0, 0] : List Nat).getD (c / 64) 0 = 0 := by
    match c / 64 with
    | 0 | 1 | 2 | 3 => simp
    | i + 4 => simp
  rw [this]; simp
theorem bitS_put {xs : List Nat} (h : Wds xs) {c : Nat} (hc : c < 256) (d : Nat) : bitS (putS xs c) d = (decide (d = c) || bitS xs d) := by
  unfold bitS putS
  rw [List.getD_eq_getElem?_getD, List.getElem?_set]
  by_cases h1 : c / 64 = d / 64
  · rw [if_pos h1, if_pos (by rw [h.1]; omega)]
    simp only [Option.getD_some]
    rw [Nat.testBit_or, Nat.testBit_two_pow, h1]
    by_cases h2 : d = c
    · subst h2; simp
    · have : ¬ c % 64 = d % 64 := by omega
      simp [h2, this]
  · rw [if_neg h1]
    have h2 : d ≠ c := fun e => h1 (by rw [e])
    simp [h2]
section
variable {ro : Option Nat} {P : Program} {Q : Exit → Act → World → Prop} {a : Act} {w : World} {ops : Array Oper} {rest : List Oper} {d : Option Tmp} {ty : TypeId} {pos : String} {aft : Array Edge} {g : Option (Nat × Bool)} {t t' : TypeId} {x y : Operand} {k k' : IntKind}
theorem nonneg_if {α : Type} {n : Nat} {p q : α} : (if ((n : Nat) : Int) < 0 then p else q) = q := if_neg (by omega)
theorem shr (v n : Nat) (hx : a.eval x = .int k (v : Int)) (hy : a.eval y = .int k' (n : Int)) (hn : n ≤ k.bits) (kk : L ro P ops Q rest (a.put d (.int k ((v >>> n : Nat) : Int))) w) : St ro P ops Q rest ⟨d, .binOp .shr t x y t', ty, pos, aft, g⟩ a w := by
  refine St.val (v := .int k ((v >>> n : Nat) : Int)) (w' := w) ?_ kk
  simp only [execOp, hx, hy, eqGuard, binOp, Op.shift, nonneg_if, Int.toNat_natCast, Nat.min_eq_left hn, b_shr]
  rfl
theorem shl1 (n : Nat) (hx : a.eval x = .int .u64 1) (hy : a.eval y = .int k' (n : Int)) (hn : n < 64) (kk : L ro P ops Q rest (a.put d (.int .u64 ((2 ^ n : Nat) : Int))) w) : St ro P ops Q rest ⟨d, .binOp .shl t x y t', ty, pos, aft, g⟩ a w := by
  refine St.val (v := .int .u64 ((2 ^ n : Nat) : Int)) (w' := w) ?_ kk
  have h64 : n ≤ IntKind.u64.bits := by show n ≤ 64; omega
  simp only [execOp, hx, hy, eqGuard, binOp, Op.shift, nonneg_if, Int.toNat_natCast, Nat.min_eq_left h64, b_one n hn]
  rfl
theorem and8 (v m : Nat) (hx : a.eval x = .int .u8 (v : Int)) (hy : a.eval y = .int .u8 (m : Int)) (hv : v < 256) (hm : m < 256) (kk : L ro P ops Q rest (a.put d (.int .u8 ((v &&& m : Nat) : Int))) w) : St ro P ops Q rest ⟨d, .binOp .and t x y t', ty, pos, aft, g⟩ a w := by
  refine St.val (v := .int .u8 ((v &&& m : Nat) : Int)) (w' := w) ?_ kk
  rw [← b_and_u8 v m hv hm]
  simp only [execOp, hx, hy, eqGuard, binOp, Op.intBits]
  rfl
theorem and64 (v m : Nat) (hx : a.eval x = .int .u64 (v : Int)) (hy : a.eval y = .int .u64 (m : Int)) (hv : v < 18446744073709551616) (hm : m < 18446744073709551616) (kk : L ro P ops Q rest (a.put d (.int .u64 ((v &&& m : Nat) : Int))) w) : St ro P ops Q rest ⟨d, .binOp .and t x y t', ty, pos, aft, g⟩ a w := by
  refine St.val (v := .int .u64 ((v &&& m : Nat) : Int)) (w' := w) ?_ kk
  rw [← b_and_u64 v m hv hm]
  simp only [execOp, hx, hy, eqGuard, binOp, Op.intBits]
  rfl
theorem or64 (v m : Nat) (hx : a.eval x = .int .u64 (v : Int)) (hy : a.eval y = .int .u64 (m : Int)) (hv : v < 18446744073709551616) (hm : m < 18446744073709551616) (kk : L ro P ops Q rest (a.put d (.int .u64 ((v ||| m : Nat) : Int))) w) : St ro P ops Q rest ⟨d, .binOp .or t x y t', ty, pos, aft, g⟩ a w := by
  refine St.val (v := .int .u64 ((v ||| m : Nat) : Int)) (w' := w) ?_ kk
  rw [← b_or_u64 v m hv hm]
  simp only [execOp, hx, hy, eqGuard, binOp, Op.intBits]
  rfl
/-- The address of an array's element. -/
theorem ixp {i : Operand} (b o n : Nat) (kk : IntKind) (iv : Int) (sz : Nat) (hx : a.eval x = .pointer (some ⟨b, o, none⟩)) (hi : a.eval i = .int kk iv) (h0 : 0 ≤ iv) (h1 : iv < n)
    (ht : (match P.underlying t with | some (.array m e) => (P.info? e).map (fun inf => (m, inf.size)) | _ => none) = some (n, sz))
    (k : L ro P ops Q rest (a.put d (.pointer (some ⟨b, o + iv.toNat * sz, none⟩))) w) : St ro P ops Q rest ⟨d, .indexAddr t x i, ty, pos, aft, g⟩ a w := by
  refine St.val (v := .pointer (some ⟨b, o + iv.toNat * sz, none⟩)) (w' := w) ?_ k
  split at ht
  · rename_i m e he
    obtain ⟨inf, hinf, hq⟩ := Option.map_eq_some_iff.1 ht
    simp only [Prod.mk.injEq] at hq
    obtain ⟨rfl, rfl⟩ := hq
    have ha : (⟨b, o, none⟩ : Addr).add (iv.toNat * inf.size) = ⟨b, o + iv.toNat * inf.size, none⟩ := by unfold Addr.add; split <;> simp_all
    simp only [execOp, hx, hi, Instr.indexAt, Instr.sureAddr, asIntOf, Sem.run_bind, Sem.run_pure, Result.andThen_ok, run_underlying he, h0, h1, and_self, if_true, sizeOf, typeInfo, run_program, hinf, ha]
  · cases ht
end
end Go.V
