/- The answers at a few closed patterns, by reckoning. -/
import Derived.Test.YtmlohijidjbbjaaPl
namespace Go.Proofs.Ytmlohijidjbbjaa
open Go.V Go.Base
/-- The answers of a few closed patterns, by reckoning. -/
def dpN (fold : Bool) (l : List Glob) (s : ByteArray) : Nat → Nat → Bool
  | 0 => fun j => decide (j = 0)
  | i + 1 => fun j => Nat.rec (motive := fun _ => Bool) (decide ((at_ globR l i).kind = 1) && dpN fold l s i 0) (fun j ih => if (at_ globR l i).kind = 1 then dpN fold l s i (j + 1) || ih else dpN fold l s i j && oneB (at_ globR l i) (bi s j) fold) j
theorem dpN_eq (fold : Bool) (l : List Glob) (s : ByteArray) : ∀ i j, dpN fold l s i j = dp fold l s i j
  | 0, j => by rw [dp]; rfl
  | i + 1, 0 => by rw [dp, ← dpN_eq fold l s i 0]; rfl
  | i + 1, j + 1 => by
    rw [dp, ← dpN_eq fold l s i j, ← dpN_eq fold l s i (j + 1), ← dpN_eq fold l s (i + 1) j]; rfl
def parseN : Nat → List Int → List Glob
  | 0, _ => []
  | n + 1, l => match l with
    | [] => []
    | c :: r => if c = 42 then ⟨1, 0, false, []⟩ :: parseN n r else if c = 63 then ⟨2, 0, false, []⟩ :: parseN n r
      else if c = 91 then (cls r).1 :: parseN n (r.drop (cls r).2)
      else if c = 92 then match r with
        | [] => [⟨3, 92, false, []⟩]
        | d :: r' => ⟨3, d, false, []⟩ :: parseN n r'
      else ⟨3, c, false, []⟩ :: parseN n r
theorem parseN_eq : ∀ (n : Nat) (l : List Int), l.length ≤ n → parseN n l = parse l
  | 0, l, h => by
    rw [List.length_eq_zero_iff.1 (Nat.le_zero.1 h), parse]; rfl
  | n + 1, [], h => by rw [parse]; rfl
  | n + 1, c :: r, h => by
    have h' : r.length ≤ n := by simpa using h
    clear h
    rw [parse.eq_def]
    unfold parseN
    simp only []
    rw [parseN_eq n r h', parseN_eq n (r.drop (cls r).2) (by rw [List.length_drop]; omega)]
    cases r with
    | nil => rfl
    | cons d r' => simp only []; rw [parseN_eq n r' (by simp at h'; omega)]
theorem rmat_eval {p s : ByteArray} {fold b : Bool} (h : (decide (p.size ≤ 65536) && (decide (s.size ≤ 65536) && dpN fold (parseN p.size (ints p)) s (parseN p.size (ints p)).length s.size)) = b) : rmat p s fold = b := by
  rw [parseN_eq _ _ (by rw [ints_length]; exact Nat.le_refl _), dpN_eq] at h
  exact h
theorem aw1 : rmat ⟨#[104, 91, 94, 101, 93, 63, 108, 111, 42]⟩ ⟨#[104, 97, 108, 108, 111]⟩ false = true := rmat_eval (by decide +kernel)
theorem aw2 : rmat ⟨#[104, 91, 94, 101, 93, 63, 108, 111, 42]⟩ ⟨#[104, 101, 108, 108, 111]⟩ false = false := rmat_eval (by decide +kernel)
theorem aw3 : rmat ⟨#[72, 63, 76, 76, 79]⟩ ⟨#[104, 101, 108, 108, 111]⟩ true = true := rmat_eval (by decide +kernel)
theorem aw4 : (parse (ints ⟨#[97, 42, 91, 98, 45, 99, 93]⟩)).length = 3 := by
  rw [← parseN_eq 7 _ (by rw [ints_length]; exact Nat.le_refl _)]; decide +kernel
end Go.Proofs.Ytmlohijidjbbjaa
