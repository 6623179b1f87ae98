/- Members by draws: plain laws. -/
import Derived.Test.YtkepojdmgdgaoaaSetL
namespace Go.V
set_option linter.unusedVariables false
set_option linter.unusedSimpArgs false
def nxt (d : Nat) : Nat := (d * 6364136223846793005 + 1442695040888963407) % 18446744073709551616
def nxtN : Nat → Nat → Nat
  | 0, d => d
  | k + 1, d => nxt (nxtN k d)
theorem nxt_lt (d : Nat) : nxt d < 18446744073709551616 := Nat.mod_lt _ (by decide)
theorem nxtN_lt {d : Nat} (h : d < 18446744073709551616) : ∀ k, nxtN k d < 18446744073709551616
  | 0 => h
  | k + 1 => nxt_lt _
theorem w_nxt (d : Nat) : Value.int .u64 (IntKind.u64.wrap (IntKind.u64.wrap ((d : Int) * 6364136223846793005) + 1442695040888963407)) = .int .u64 ((nxt d : Nat) : Int) := by
  have h : ∀ z : Int, IntKind.u64.wrap z = z % 18446744073709551616 := fun z => rfl
  have h2 : ∀ (x y : Nat) (m : Int), ((x : Int) * (y : Int) % m + 1442695040888963407) % m = ((x * y : Nat) + (1442695040888963407 : Nat) : Int) % m := fun x y m => by rw [Int.emod_add_emod, Int.natCast_mul]; rfl
  rw [h, h]
  have h3 := h2 d 6364136223846793005 18446744073709551616
  refine congrArg (Value.int .u64) (h3.trans ?_)
  unfold nxt
  rw [Int.natCast_emod, Int.natCast_add]
  rfl
/-- With draws, one may come more than once. -/
def negL (s : List ByteArray) (d i : Nat) : List ByteArray := (List.range i).map fun j => s.getD (nxtN j d % s.length) ⟨#[]⟩
theorem negL_len (s : List ByteArray) (d i : Nat) : (negL s d i).length = i := by simp [negL]
theorem negL_zero (s : List ByteArray) (d : Nat) : negL s d 0 = [] := rfl
theorem negL_succ (s : List ByteArray) (d i : Nat) : negL s d (i + 1) = negL s d i ++ [s.getD (nxtN i d % s.length) ⟨#[]⟩] := by simp [negL, List.range_succ]
theorem negL_mem {s : List ByteArray} (hs : 0 < s.length) {d i j : Nat} (hj : j < i) : (negL s d i).getD j ⟨#[]⟩ ∈ s := by
  unfold negL
  rw [List.getD_eq_getElem?_getD, List.getElem?_map, List.getElem?_range hj]
  simp only [Option.map_some, Option.getD_some]
  rw [List.getD_eq_getElem?_getD, List.getElem?_eq_getElem (Nat.mod_lt _ hs)]
  exact List.getElem_mem _
/-- With draws, each once. -/
def swapR (row : List ByteArray) (k i : Nat) : List ByteArray := (row.set k (row.getD i ⟨#[]⟩)).set i (row.getD k ⟨#[]⟩)
def drw (n k d : Nat) : Nat := k + nxtN k d % (n - k)
def rowT (s : List ByteArray) (d : Nat) : Nat → List ByteArray
  | 0 => s
  | k + 1 => swapR (rowT s d k) k (drw s.length k d)
theorem swapR_len (row : List ByteArray) (k i : Nat) : (swapR row k i).length = row.length := by simp [swapR]
theorem rowT_len (s : List ByteArray) (d : Nat) : ∀ k, (rowT s d k).length = s.length
  | 0 => rfl
  | k + 1 => by rw [rowT, swapR_len, rowT_len s d k]
theorem drw_lt {n k d : Nat} (h : k < n) : k ≤ drw n k d ∧ drw n k d < n := by
  unfold drw
  have := Nat.mod_lt (nxtN k d) (show n - k > 0 by omega)
  omega
def tau (k i j : Nat) : Nat := if j = i then k else if j = k then i else j
theorem swapR_get {row : List ByteArray} {k i : Nat} (hk : k < row.length) (hi : i < row.length) (j : Nat) : (swapR row k i)[j]? = row[tau k i j]? := by
  unfold swapR tau
  rw [List.getElem?_set, List.getElem?_set]
  simp only [List.length_set]
  by_cases h1 : i = j
  · subst h1
    rw [if_pos rfl, if_pos hi, if_pos rfl, List.getD_eq_getElem?_getD, List.getElem?_eq_getElem hk]
    rfl
  · have e1 : (if j = i then k else if j = k then i else j) = (if j = k then i else j) := if_neg (fun h => h1 h.symm)
    rw [if_neg h1, e1]
    by_cases h2 : k = j
    · subst h2
      rw [if_pos rfl, if_pos hk, if_pos rfl, List.getD_eq_getElem?_getD, List.getElem?_eq_getElem hi]
      rfl
    · have e2 : (if j = k then i else j) = j := if_neg (fun h => h2 h.symm)
      rw [if_neg h2, e2]
theorem tau_inj {k i j j' : Nat} (h : tau k i j = tau k i j') : j = j' := by
  unfold tau at h
  repeat' split at h
  all_goals omega
theorem tau_lt {k i j n : Nat} (hk : k < n) (hi : i < n) (hj : j < n) : tau k i j < n := by
  unfold tau
  repeat' split
  all_goals omega
theorem rowT_get (s : List ByteArray) (d : Nat) : ∀ k, k ≤ s.length → ∃ σ : Nat → Nat, (∀ j, j < s.length → σ j < s.length) ∧ (∀ j j', σ j = σ j' → j = j') ∧ ∀ j, (rowT s d k)[j]? = s[σ j]?
  | 0, _ => ⟨id, fun _ h => h, fun _ _ h => h, fun _ => rfl⟩
  | k + 1, hk => by
    obtain ⟨σ, h1, h2, h3⟩ := rowT_get s d k (by omega)
    have hd := drw_lt (n := s.length) (k := k) (d := d) (by omega)
    refine ⟨fun j => σ (tau k (drw s.length k d) j), fun j hj => h1 _ (tau_lt (by omega) hd.2 hj), fun j j' h => tau_inj (h2 _ _ h), fun j => ?_⟩
    rw [rowT, swapR_get (by rw [rowT_len]; omega) (by rw [rowT_len]; exact hd.2), h3]
theorem rowT_mem {s : List ByteArray} {d k j : Nat} (hk : k ≤ s.length) (hj : j < s.length) : (rowT s d k).getD j ⟨#[]⟩ ∈ s := by
  obtain ⟨σ, h1, h2, h3⟩ := rowT_get s d k hk
  rw [List.getD_eq_getElem?_getD, h3, List.getElem?_eq_getElem (h1 j hj)]
  exact List.getElem_mem _
theorem rowT_ne {s : List ByteArray} (hs : s.Nodup) {d k i j : Nat} (hk : k ≤ s.length) (hi : i < s.length) (hj : j < s.length) (hne : i ≠ j) : (rowT s d k).getD i ⟨#[]⟩ ≠ (rowT s d k).getD j ⟨#[]⟩ := by
  obtain ⟨σ, h1, h2, h3⟩ := rowT_get s d k hk
  rw [List.getD_eq_getElem?_getD, List.getD_eq_getElem?_getD, h3, h3, List.getElem?_eq_getElem (h1 i hi), List.getElem?_eq_getElem (h1 j hj)]
  simp only [Option.getD_some]
  intro he
  exact hne (h2 _ _ ((List.getElem_inj hs).1 he))
/-- What is told at a step stays where it is. -/
theorem rowT_stay (s : List ByteArray) (d : Nat) {j k : Nat} (hj : j < k) : ∀ m, k + m ≤ s.length → (rowT s d (k + m))[j]? = (rowT s d k)[j]?
  | 0, _ => rfl
  | m + 1, hm => by
    have hd := drw_lt (n := s.length) (k := k + m) (d := d) (by omega)
    rw [← Nat.add_assoc, rowT, swapR_get (by rw [rowT_len]; omega) (by rw [rowT_len]; exact hd.2), ← rowT_stay s d hj m (by omega)]
    congr 1
    unfold tau
    rw [if_neg (by omega), if_neg (by omega)]
def outL (s : List ByteArray) (d i : Nat) : List ByteArray := (rowT s d i).take i
theorem outL_len {s : List ByteArray} {d i : Nat} (h : i ≤ s.length) : (outL s d i).length = i := by unfold outL; rw [List.length_take, rowT_len]; omega
theorem outL_succ {s : List ByteArray} {d i : Nat} (h : i < s.length) : outL s d (i + 1) = outL s d i ++ [(rowT s d (i + 1)).getD i ⟨#[]⟩] := by
  unfold outL
  rw [List.take_add_one, List.getD_eq_getElem?_getD, List.getElem?_eq_getElem (by rw [rowT_len]; exact h)]
  simp only [Option.toList_some, Option.getD_some]
  congr 1
  apply List.ext_getElem?
  intro j
  rw [List.getElem?_take, List.getElem?_take]
  split
  · rename_i hj
    exact rowT_stay s d hj 1 (by omega)
  · rfl
/-- Some members: so many, by a draw. -/
def someL (s : List ByteArray) (n : Int) (d : Nat) : List ByteArray := if n < 0 then negL s d (-n).toNat else outL s d (min n.toNat s.length)
def someE (s : List ByteArray) (n : Int) : Int := if ¬ Inc s then 80 else if n < -1024 ∨ n > 65536 then 1 else 0
def someR (s : List ByteArray) (n : Int) (d : Nat) : List ByteArray := if someE s n = 0 ∧ s ≠ [] then someL s n d else []
end Go.V
