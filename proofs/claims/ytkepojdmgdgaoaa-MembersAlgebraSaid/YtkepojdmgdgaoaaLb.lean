/- Go's library at this program, in our words: Clone, Sort, Compact. -/
import Derived.Test.YtkepojdmgdgaoaaShf
import Derived.Test.YtkepojdmgdgaoaaSl
import Derived.Test.YtkepojdmgdgaoaaDraw
namespace Go.Proofs.Ytkepojdmgdgaoaa
open Go.V Go.Base Go.RowKit Go.Sort
set_option linter.unusedVariables false
set_option linter.unusedSimpArgs false
theorem clone_any (w : World) (Z : Nat → Prop) (A : Option Addr) (c : Nat) (l : List ByteArray) (hS : SlR Rp.str Z w (.slice A l.length c) l) (hl : l.length ≤ 1099511627776) :
    Calls Try.prog 35 #[.slice A l.length c] w (fun e w' => ∃ A' c', e = .returned (.slice A' l.length c') ∧ OwR Rp.str NoZ w' w.heap.size 9 (.slice A' l.length c') l ∧ Fr [] w w') := by
  have fin : ∀ (v' : Value) (w' : World) (n : Nat), n = l.length → w'.ownsRow w.heap.size 9 1 v' n (l.map Value.string) → Below w.heap.size w w' → ∃ A' c', (Ending.returned v') = .returned (.slice A' l.length c') ∧ OwR Rp.str NoZ w' w.heap.size 9 (.slice A' l.length c') l ∧ Fr [] w w' := by
    rintro v' w' n rfl h1 h2
    have h1' : w'.ownsRow w.heap.size 9 Rp.str.sz v' l.length (l.map Value.string) := h1
    have ho : OwR Rp.str NoZ w' w.heap.size 9 v' l := ⟨_, h1', cells_str.2 rfl, fun _ _ h => h⟩
    obtain ⟨A', c', rfl⟩ := ho.slice
    exact ⟨A', c', rfl, ho, Fr.of_below h2 []⟩
  cases A with
  | none =>
    have hl0 : l = [] := by
      cases l with
      | nil => rfl
      | cons x l => obtain ⟨g, o, h, _⟩ := hS.addr (by simp); cases h
    subst hl0
    refine (Try.slices_Clone_string_nil _ c w).mono ?_
    rintro e w' ⟨rfl, rfl⟩
    exact ⟨none, 0, rfl, OwR.nil .., Fr.refl _ _⟩
  | some ad =>
    cases l with
    | nil =>
      refine (Try.slices_Clone_string_zero ad c w).mono ?_
      rintro e w' ⟨v', rfl, h1, _, h2⟩
      exact fin v' w' 0 rfl h1 h2
    | cons x l =>
      obtain ⟨g, o, h, _⟩ := hS.addr (by simp)
      injection h with h
      subst h
      refine (Try.slices_Clone_string g o (x :: l).length c (x :: l) w (Nat.le_refl _) (by omega) ?_).mono ?_
      · intro j hj
        obtain ⟨cs, hok, hE⟩ := hS.els rfl (j : Int) (by omega) (by omega)
        obtain rfl : cs = [.string (at_ Rp.str (x :: l) (j : Int))] := hok
        have := hE.at 0 rfl
        simp only [Int.toNat_natCast] at this
        have h1 : Rp.str.sz = 1 := rfl
        rw [h1, Nat.mul_one, Nat.add_zero] at this
        rw [this]
        unfold at_
        rw [Int.toNat_natCast, List.getD_eq_getElem?_getD, List.getD_eq_getElem?_getD, List.getElem?_eq_getElem hj]
        rfl
      · rintro e w' ⟨v', rfl, h1, _, h2⟩
        rw [List.take_of_length_le (Nat.le_refl _)] at h1
        exact fin v' w' _ rfl h1 h2
section
variable {w : World} {base g c : Nat} {l : List ByteArray}
theorem holds_own (h : OwR Rp.str NoZ w base 9 (.slice (some ⟨g, 0, none⟩) l.length c) l) : Holds encStr w g 0 (l.map toL).toArray := by
  obtain ⟨cur, hB, hcl, hn, hnc, hcm, hg, htk⟩ := h.openS
  intro j hj
  have hj' : j < l.length := by simpa using hj
  refine ⟨?_, hB.frozen _⟩
  rw [Nat.zero_add, hB.cell]
  have h1 : (cur.take l.length)[j]? = (l.map Value.string)[j]? := by rw [htk]
  rw [List.getElem?_take_of_lt hj'] at h1
  rw [h1, List.getElem?_map, List.getElem?_eq_getElem hj', getElem!_pos _ j hj]
  simp
theorem put_own (h : OwR Rp.str NoZ w base 9 (.slice (some ⟨g, 0, none⟩) l.length c) l) (n : Nat) (d : List (List UInt8)) (hd : d.length = l.length) (os : Array Obj) (l' : List ByteArray) (m : Nat) (hm : m ≤ d.length) (hl' : l'.map toL = d.take m) :
    OwR Rp.str NoZ (grow (putRow encStr (Sort.ahead w n) g 0 d.toArray) os) base 9 (.slice (some ⟨g, 0, none⟩) l'.length c) l' ∧ Fr [g] w (grow (putRow encStr (Sort.ahead w n) g 0 d.toArray) os) := by
  obtain ⟨cur, hB, hcl, hn, hnc, hcm, hg, htk⟩ := h.openS
  have hlt := hB.lt
  have hlen' : l'.length = m := by
    have := congrArg List.length hl'
    rw [List.length_map, List.length_take] at this
    omega
  have hblk : (grow (putRow encStr (Sort.ahead w n) g 0 d.toArray) os).heap[g]? = some (.cells (putCells encStr 0 d.toArray cur.toArray) 9 (0, 0)) := by
    rw [heap_grow_old _ _ (by simp [putRow, mapBlock]; exact hlt)]
    simp only [putRow, mapBlock, Sort.ahead, Array.getElem?_modify, if_true]
    have : w.heap[g]? = some (.cells cur.toArray 9 (0, 0)) := hB
    rw [this]
    rfl
  refine ⟨OwR.mkS (cur := (putCells encStr 0 d.toArray cur.toArray).toList) (by unfold Blk; rw [hblk]) (by simp [putCells, hcl]) (by omega) hcm hg ?_, ?_⟩
  · apply List.ext_getElem?
    intro j
    rw [List.getElem?_take]
    split
    · rename_i hj
      have hjd : j < d.length := by omega
      have hjc : j < cur.length := by omega
      have hdj : d[j] = toL l'[j] := by
        have h3 : (d.take m)[j]? = (l'.map toL)[j]? := by rw [hl']
        rw [List.getElem?_take_of_lt (by omega), List.getElem?_map, List.getElem?_eq_getElem hjd, List.getElem?_eq_getElem hj] at h3
        injection h3
      have hd0 : d.toArray[j - 0]! = d[j] := by rw [Nat.sub_zero, getElem!_pos _ j (by simpa using hjd)]; simp
      simp only [putCells, Array.getElem?_toList, Array.getElem?_mapIdx, List.getElem?_toArray, List.getElem?_map, List.getElem?_eq_getElem hj, List.getElem?_eq_getElem hjc, Option.map_some]
      rw [if_pos ⟨Nat.zero_le _, by simpa using hjd⟩, hd0, hdj]
    · rename_i hj
      rw [List.getElem?_eq_none (by simp; omega)]
  · refine ⟨rfl, rfl, rfl, ?_, fun k hk hne => ?_⟩
    · simp [putRow, mapBlock, Sort.ahead]
    · rw [heap_grow_old _ _ (by simp [putRow, mapBlock, Sort.ahead]; exact hk)]
      simp only [putRow, mapBlock, Sort.ahead, Array.getElem?_modify]
      rw [if_neg (fun e => hne (by simp [e]))]
theorem sort_any (h : OwR Rp.str NoZ w base 9 (.slice (some ⟨g, 0, none⟩) l.length c) l) (hl : l.length ≤ 1099511627776) :
    Calls Try.prog 36 #[.slice (some ⟨g, 0, none⟩) l.length c] w (fun e w' => e = .returned (.tuple #[]) ∧ OwR Rp.str NoZ w' base 9 (.slice (some ⟨g, 0, none⟩) l.length c) ((sortS l).map ofL) ∧ Fr [g] w w') := by
  obtain ⟨cur, hB, _⟩ := h.openS
  have hc := Try.slices_Sort_string g 0 c (l.map toL) w (holds_own h) hB.lt (by rw [List.length_map]; omega)
  rw [List.length_map] at hc
  refine hc.mono ?_
  rintro e w' ⟨rfl, n, os, rfl⟩
  have hq := put_own h n (sortS l) (sort_len l) os ((sortS l).map ofL) (sortS l).length (Nat.le_refl _) (by rw [List.map_map, List.take_of_length_le (Nat.le_refl _)]; simp [Function.comp_def])
  rw [List.length_map, sort_len] at hq
  exact ⟨rfl, hq⟩
theorem sort_none (p : Option Addr) (c n : Nat) (hn : n = 0) : Calls Try.prog 36 #[.slice p n c] w (fun e w' => e = .returned (.tuple #[]) ∧ Fr [] w w') := by
  subst hn
  refine (Try.slices_Sort_string_none p c w).mono ?_
  rintro e w' ⟨rfl, rfl⟩
  exact ⟨rfl, Fr.refl _ _⟩
theorem compact_any (k : List (List UInt8)) (n : Nat) (hn : n = k.length) (h : OwR Rp.str NoZ w base 9 (.slice (some ⟨g, 0, none⟩) n c) (k.map ofL)) (hl : n ≤ 1099511627776) :
    Calls Try.prog 37 #[.slice (some ⟨g, 0, none⟩) n c] w (fun e w' => e = .returned (.slice (some ⟨g, 0, none⟩) ((Lib.compact k).map ofL).length c) ∧ OwR Rp.str NoZ w' base 9 (.slice (some ⟨g, 0, none⟩) ((Lib.compact k).map ofL).length c) ((Lib.compact k).map ofL) ∧ Fr [g] w w') := by
  subst hn
  have h0 : OwR Rp.str NoZ w base 9 (.slice (some ⟨g, 0, none⟩) (k.map ofL).length c) (k.map ofL) := by rw [List.length_map]; exact h
  obtain ⟨cur, hB, hcl, hn, hnc, _⟩ := h0.openS
  rw [List.length_map] at hnc
  have hk : ((k.map ofL).map toL) = k := by rw [List.map_map]; simp [Function.comp_def]
  have hH := holds_own h0
  rw [hk] at hH
  refine (Try.slices_Compact_string g 0 c k w hH (by omega) hnc).mono ?_
  rintro e w' ⟨rfl, q, rfl⟩
  have hcl : (Lib.compact k).length ≤ k.length := by have := comp_len k.toArray k.length; exact this
  have hp := put_own h0 q (Lib.compact k ++ List.replicate (k.length - (Lib.compact k).length) []) (by simp; omega) #[] ((Lib.compact k).map ofL) (Lib.compact k).length (by simp) (by rw [List.map_map, List.take_left]; simp [Function.comp_def])
  rw [grow_empty] at hp
  refine ⟨by rw [List.length_map], hp⟩
theorem compact_none (p : Option Addr) (c n : Nat) (hn : n = 0) : Calls Try.prog 37 #[.slice p n c] w (fun e w' => e = .returned (.slice p 0 c) ∧ Fr [] w w') := by
  subst hn
  refine (Try.slices_Compact_string_empty p c w).mono ?_
  rintro e w' ⟨rfl, rfl⟩
  exact ⟨rfl, Fr.refl _ _⟩
end
/-- A slice as an element. -/
theorem slice_open {R : Rp ByteArray} {Z : Nat → Prop} {w : World} {xs : List ByteArray} {cs : List Value} (h : (Rp.slice R).ok Z w xs cs) : ∃ A c, cs = [.slice A xs.length c] ∧ SlR R Z w (.slice A xs.length c) xs := by
  obtain ⟨v, rfl, hS⟩ := h
  obtain ⟨A, c, rfl, _⟩ := hS.slice
  exact ⟨A, c, rfl, hS⟩
theorem sl_one {Z : Nat → Prop} {w : World} {b : Nat} {v : Value} {l : List ByteArray} (hB : Blk w b [v] 22) (hS : SlR Rp.str Z w v l) : SlR (Rp.slice Rp.str) (fun _ => True) w (.slice (some ⟨b, 0, none⟩) 1 1) [l] := by
  refine ⟨_, 1, rfl, by simp, by simp, fun i x hi => ?_⟩
  cases i with
  | zero =>
    simp at hi
    subst hi
    exact ⟨b, 0, [v], rfl, trivial, hB.lt, ⟨v, rfl, hS.zone fun _ _ _ => trivial⟩, fun j u hj => by
      cases j with
      | zero => simp at hj; subst hj; exact hB.at 0 rfl
      | succ j => simp at hj⟩
  | succ i => simp at hi
end Go.Proofs.Ytkepojdmgdgaoaa
