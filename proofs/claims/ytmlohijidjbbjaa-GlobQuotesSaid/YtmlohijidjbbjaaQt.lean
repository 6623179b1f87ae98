/- Plain law: a quoted text is matched by that text alone. -/
import Derived.Test.YtmlohijidjbbjaaShf
import Derived.Test.YtmlohijidjbbjaaWk
import Derived.Test.YtmlohijidjbbjaaWr
import Derived.Test.YtmlohijidjbbjaaHd
namespace Go.Proofs.Ytmlohijidjbbjaa
open Go.V Go.Base
set_option linter.unusedVariables false
/-- The bytes that a pattern reads otherwise. -/
def specI (c : Int) : Bool := decide (c = 42 ∨ c = 63 ∨ c = 91 ∨ c = 93 ∨ c = 94 ∨ c = 45 ∨ c = 92)
def quote1 (c : Int) : List Int := if specI c = true then [92, c] else [c]
def quoteI (l : List Int) : List Int := l.flatMap quote1
def quoteS (s : ByteArray) : ByteArray := strI (quoteI (ints s))
/-- Where glob's Quote finds a byte among those. -/
def ixI (c : Int) : Int := Lib.indexByte (⟨#[42, 63, 91, 93, 94, 45, 92]⟩ : ByteArray).data.toList c.toNat.toUInt8
theorem ixI_iff {c : Int} (h0 : 0 ≤ c) (h1 : c ≤ 255) : ixI c ≥ 0 ↔ specI c = true := by
  have key : ∀ n : Fin 256, (Lib.indexByte [42, 63, 91, 93, 94, 45, 92] (n.val.toUInt8) ≥ 0 ↔ specI (n.val : Int) = true) := by decide +kernel
  have := key ⟨c.toNat, by omega⟩
  rw [show ((c.toNat : Nat) : Int) = c by omega] at this
  exact this
theorem ixI_lo (c : Int) : -1 ≤ ixI c := by
  unfold ixI
  have : ∀ (l : List UInt8) (u : UInt8), -1 ≤ Lib.indexByte l u := by
    intro l u
    induction l with
    | nil => exact Int.le_refl _
    | cons b l ih =>
      unfold Lib.indexByte
      split
      · omega
      · split
        · omega
        · omega
  exact this _ _
theorem ints_take1 (s : ByteArray) (k : Nat) (h : k < s.size) : (ints s).take (k + 1) = (ints s).take k ++ [bi s (k : Int)] := by
  rw [List.take_add_one, ints_get s k h]; rfl
theorem quote_t {s : ByteArray} {k : Nat} {acc : List Int} (hk : k < s.size) (hf : quoteI ((ints s).take k) = acc) (h : specI (bi s (k : Int)) = true) : quoteI ((ints s).take (k + 1)) = acc ++ [92] ++ [bi s (k : Int)] := by
  rw [ints_take1 s k hk]
  unfold quoteI at hf ⊢
  rw [List.flatMap_append, hf, List.append_assoc]
  congr 1
  show quote1 _ ++ [] = _
  unfold quote1
  rw [if_pos h]; rfl
theorem quote_f {s : ByteArray} {k : Nat} {acc : List Int} (hk : k < s.size) (hf : quoteI ((ints s).take k) = acc) (h : specI (bi s (k : Int)) = false) : quoteI ((ints s).take (k + 1)) = acc ++ [bi s (k : Int)] := by
  rw [ints_take1 s k hk]
  unfold quoteI at hf ⊢
  rw [List.flatMap_append, hf]
  congr 1
  show quote1 _ ++ [] = _
  unfold quote1
  rw [if_neg (by rw [h]; simp)]; rfl
theorem quoteI_bytes {l : List Int} (h : ∀ x ∈ l, 0 ≤ x ∧ x ≤ 255) : ∀ x ∈ quoteI l, 0 ≤ x ∧ x ≤ 255 := by
  intro x hx
  unfold quoteI at hx
  obtain ⟨c, hc, hx⟩ := List.mem_flatMap.1 hx
  have := h c hc
  unfold quote1 at hx
  split at hx
  · simp at hx; rcases hx with rfl | rfl <;> omega
  · simp at hx; subst hx; exact this
theorem quoteI_len (l : List Int) : (quoteI l).length ≤ 2 * l.length := by
  induction l with
  | nil => simp [quoteI]
  | cons c l ih =>
    unfold quoteI at ih ⊢
    rw [List.flatMap_cons, List.length_append, List.length_cons]
    have : (quote1 c).length ≤ 2 := by unfold quote1; split <;> simp
    omega
theorem quoteS_size (s : ByteArray) : (quoteS s).size ≤ 2 * s.size := by
  unfold quoteS
  rw [strI_size]
  have := quoteI_len (ints s)
  rwa [ints_length] at this
theorem quoteS_ints (s : ByteArray) : ints (quoteS s) = quoteI (ints s) := ints_strI (quoteI_bytes (ints_bytes s))
def byteG (c : Int) : Glob := ⟨3, c, false, []⟩
theorem parse_quote : ∀ l : List Int, parse (quoteI l) = l.map byteG
  | [] => ps_nil
  | c :: l => by
    have ih := parse_quote l
    show parse (quote1 c ++ quoteI l) = byteG c :: l.map byteG
    rw [← ih]
    unfold quote1
    by_cases h : specI c = true
    · rw [if_pos h]
      show parse (92 :: c :: quoteI l) = _
      rw [ps_cons, if_neg (by decide), if_neg (by decide), if_neg (by decide), if_pos rfl]; rfl
    · rw [if_neg h]
      show parse (c :: quoteI l) = _
      have h' : ¬ (c = 42 ∨ c = 63 ∨ c = 91 ∨ c = 93 ∨ c = 94 ∨ c = 45 ∨ c = 92) := by unfold specI at h; simpa using h
      rw [ps_cons, if_neg (by omega), if_neg (by omega), if_neg (by omega), if_neg (by omega)]; rfl
theorem quote_all (s : ByteArray) : ∀ x ∈ parse (ints (quoteS s)), x.kind = 3 := by
  rw [quoteS_ints, parse_quote]
  intro x hx
  obtain ⟨c, _, rfl⟩ := List.mem_map.1 hx
  rfl
theorem quote_plainB (s : ByteArray) : plainB (quoteS s) = true := plainB_iff.2 (quote_all s)
theorem quote_plainS (s : ByteArray) : plainS (quoteS s) = s := by
  unfold plainS
  rw [quote_plainB, if_pos rfl]
  unfold headS
  rw [headI_all (quote_all s), quoteS_ints, parse_quote, List.map_map]
  rw [show (ints s).map ((fun x => x.c) ∘ byteG) = ints s from by
    conv => rhs; rw [← List.map_id (ints s)]
    rfl]
  exact strI_ints s
theorem mat_bytes : ∀ {l t : List Int}, Mat false (l.map byteG) t ↔ t = l
  | [], t => mat_nil
  | c :: l, t => by
    rw [List.map_cons, mat_one (show (byteG c).kind ≠ 1 from by show ¬ (3 : Int) = 1; decide)]
    have ho : ∀ d, oneB (byteG c) d false = true ↔ d = c := by
      intro d
      unfold oneB
      rw [if_neg (by show ¬ (3 : Int) = 2; decide), if_pos (show (byteG c).kind = 3 from rfl)]
      rw [decide_eq_true_iff, sF_f rfl, sF_f rfl]; rfl
    constructor
    · rintro ⟨d, r, rfl, h1, h2⟩
      rw [mat_bytes] at h2
      rw [(ho d).1 h1, h2]
    · rintro rfl
      exact ⟨c, l, rfl, (ho c).2 rfl, mat_bytes.2 rfl⟩
theorem quote_rmat {s t : ByteArray} (h1 : s.size ≤ 500) (h2 : t.size ≤ 500) : rmat (quoteS s) t false = decide (s = t) := by
  rw [Bool.eq_iff_iff, rmat_mat (by have := quoteS_size s; omega) (by omega), quoteS_ints, parse_quote, mat_bytes, decide_eq_true_iff]
  exact ⟨fun h => (ints_inj h).symm, fun h => by rw [h]⟩
end Go.Proofs.Ytmlohijidjbbjaa
