/- Sets of texts as rows in order: plain laws. -/
import Derived.Test.YtkepojdmgdgaoaaV
import Derived.Lib.SlicesCompact
import Derived.Sort.Walk0
namespace Go.V
set_option linter.unusedVariables false
set_option linter.unusedSimpArgs false
abbrev toL (s : ByteArray) : List UInt8 := s.data.toList
abbrev ofL (l : List UInt8) : ByteArray := ⟨l.toArray⟩
theorem ofL_toL (s : ByteArray) : ofL (toL s) = s := by cases s; rfl
theorem toL_ofL (l : List UInt8) : toL (ofL l) = l := rfl
theorem toL_inj {s t : ByteArray} (h : toL s = toL t) : s = t := by rw [← ofL_toL s, h, ofL_toL]
theorem slt_iff {s t : ByteArray} : slt s t ↔ toL s < toL t := by
  unfold slt
  rw [ByteArray.toList_eq, ByteArray.toList_eq, Go.Proofs.bytesLess_eq, decide_eq_true_eq]
theorem slt_irr (s : ByteArray) : ¬ slt s s := by rw [slt_iff]; exact List.lt_irrefl _
theorem slt_trans {s t u : ByteArray} (h : slt s t) (k : slt t u) : slt s u := by
  rw [slt_iff] at *
  exact List.lt_trans h k
theorem slt_asymm {s t : ByteArray} (h : slt s t) : ¬ slt t s := fun k => slt_irr s (slt_trans h k)
theorem slt_tri (s t : ByteArray) : slt s t ∨ s = t ∨ slt t s := by
  have := less_tri s.toList t.toList
  unfold slt
  cases h1 : Op.bytesLess s.toList t.toList with
  | true => exact .inl rfl
  | false =>
    rw [h1] at this
    cases h2 : (s.toList == t.toList) with
    | true => exact .inr (.inl (toList_inj.1 (eq_of_beq h2)))
    | false => rw [h2] at this; exact .inr (.inr (by simpa using this))
instance decMem (x : ByteArray) (l : List ByteArray) : Decidable (x ∈ l) := decidable_of_iff (l.any (fun y => decide (y = x)) = true) (by
  rw [List.any_eq_true]
  constructor
  · rintro ⟨y, hy, he⟩; rw [← of_decide_eq_true he]; exact hy
  · intro h; exact ⟨x, h, decide_eq_true rfl⟩)
/-- In order, each once. -/
def Inc (l : List ByteArray) : Prop := l.Pairwise slt
theorem Inc.nil : Inc [] := List.Pairwise.nil
theorem Inc.nodup {l : List ByteArray} (h : Inc l) : l.Nodup := List.Pairwise.imp (fun {a b} (h : slt a b) (e : a = b) => slt_irr a (by rw [← e] at h; exact h)) h
instance (l : List ByteArray) : Decidable (Inc l) := inferInstanceAs (Decidable (l.Pairwise slt))
theorem Inc.sub {l m : List ByteArray} (h : Inc m) (hs : List.Sublist l m) : Inc l := List.Pairwise.sublist hs h
/-- Neighbours in order. -/
theorem inc_of_adj : ∀ {l : List ByteArray}, (∀ (i : Nat) (x y : ByteArray), l[i]? = some x → l[i + 1]? = some y → slt x y) → Inc l
  | [], _ => Inc.nil
  | [x], _ => List.pairwise_singleton _ _
  | x :: y :: l, h => by
    have hyl : Inc (y :: l) := inc_of_adj fun i a b ha hb => h (i + 1) a b (by simpa using ha) (by simpa using hb)
    have hxy : slt x y := h 0 x y rfl rfl
    refine List.Pairwise.cons (fun z hz => ?_) hyl
    rcases List.mem_cons.1 hz with rfl | hz
    · exact hxy
    · exact slt_trans hxy ((List.pairwise_cons.1 hyl).1 z hz)
theorem Inc.adj {l : List ByteArray} (h : Inc l) {i : Nat} {x y : ByteArray} (hx : l[i]? = some x) (hy : l[i + 1]? = some y) : slt x y := by
  obtain ⟨hi, rfl⟩ := List.getElem?_eq_some_iff.1 hx
  obtain ⟨hj, rfl⟩ := List.getElem?_eq_some_iff.1 hy
  exact List.pairwise_iff_getElem.1 h i (i + 1) hi hj (by omega)
/-- Two in order with the same members are one. -/
theorem inc_eq : ∀ {l m : List ByteArray}, Inc l → Inc m → (∀ x, x ∈ l ↔ x ∈ m) → l = m
  | [], [], _, _, _ => rfl
  | [], y :: m, _, _, h => by have := (h y).2 (List.mem_cons_self ..); cases this
  | x :: l, [], _, _, h => by have := (h x).1 (List.mem_cons_self ..); cases this
  | x :: l, y :: m, hl, hm, h => by
    have h1 := List.pairwise_cons.1 hl
    have h2 := List.pairwise_cons.1 hm
    have hxy : x = y := by
      rcases List.mem_cons.1 ((h x).1 (List.mem_cons_self ..)) with e | hx
      · exact e
      · rcases List.mem_cons.1 ((h y).2 (List.mem_cons_self ..)) with e | hy
        · exact e.symm
        · exact absurd (h1.1 y hy) (slt_asymm (h2.1 x hx))
    subst hxy
    rw [inc_eq h1.2 h2.2 fun z => ⟨fun hz => by
      rcases List.mem_cons.1 ((h z).1 (List.mem_cons_of_mem _ hz)) with rfl | hq
      · exact absurd (h1.1 z hz) (slt_irr z)
      · exact hq, fun hz => by
      rcases List.mem_cons.1 ((h z).2 (List.mem_cons_of_mem _ hz)) with rfl | hq
      · exact absurd (h2.1 z hz) (slt_irr z)
      · exact hq⟩]
/-- Is a row a set? The answer's number. -/
def chkN (l : List ByteArray) : Int := if Inc l then 0 else 80
theorem chk_inc {l : List ByteArray} (h : Inc l) : chkN l = 0 := by unfold chkN; rw [if_pos h]
theorem chk_not {l : List ByteArray} (h : ¬ Inc l) : chkN l = 80 := by unfold chkN; rw [if_neg h]
/-! ### The set of any texts -/
def sortS (l : List ByteArray) : List (List UInt8) := (l.map toL).mergeSort fun x y => decide (x ≤ y)
def setOf (l : List ByteArray) : List ByteArray := (Lib.compact (sortS l)).map ofL
theorem sort_len (l : List ByteArray) : (sortS l).length = l.length := by unfold sortS; rw [List.length_mergeSort, List.length_map]
theorem sort_mem (l : List ByteArray) (x : List UInt8) : x ∈ sortS l ↔ ∃ s ∈ l, toL s = x := by
  unfold sortS
  rw [List.mem_mergeSort, List.mem_map]
theorem le_tot (x y : List UInt8) : (decide (x ≤ y) || decide (y ≤ x)) = true := by
  rw [Bool.or_eq_true, decide_eq_true_eq, decide_eq_true_eq]
  exact List.le_total ..
theorem le_tr (x y z : List UInt8) (h : decide (x ≤ y) = true) (k : decide (y ≤ z) = true) : decide (x ≤ z) = true := by
  rw [decide_eq_true_eq] at *
  exact List.le_trans h k
theorem sort_sorted (l : List ByteArray) : (sortS l).Pairwise (fun x y => x ≤ y) := by
  unfold sortS
  have := List.pairwise_mergeSort (le := fun x y : List UInt8 => decide (x ≤ y)) le_tr le_tot (l.map toL)
  exact this.imp fun h => of_decide_eq_true h
theorem comp_inv (d : Array (List UInt8)) (hd : d.toList.Pairwise (fun x y => x ≤ y)) : ∀ m, m ≤ d.size → (Lib.compactUpTo d m).Pairwise (fun x y => x < y) ∧ (∀ x, x ∈ Lib.compactUpTo d m ↔ ∃ i, i < m ∧ d[i]! = x) := by
  intro m
  induction m with
  | zero => intro _; exact ⟨by simp [Lib.compactUpTo], fun x => by simp [Lib.compactUpTo]⟩
  | succ m ih =>
    intro hm
    obtain ⟨h1, h2⟩ := ih (by omega)
    have hle : ∀ i, i ≤ m → d[i]! ≤ d[m]! := by
      intro i hi
      rcases Nat.lt_or_ge i m with hlt | hge
      · have := List.pairwise_iff_getElem.1 hd i m (by simpa using (by omega : i < d.size)) (by simpa using (by omega : m < d.size)) hlt
        rw [getElem!_pos d i (by omega), getElem!_pos d m (by omega)]
        simpa using this
      · have : i = m := by omega
        subst this; exact List.le_refl _
    rw [Lib.compactUpTo_succ]
    by_cases hk : Lib.keeps d m = true
    · rw [if_pos hk]
      have hne : m = 0 ∨ d[m]! ≠ d[m - 1]! := by simpa [Lib.keeps] using hk
      refine ⟨List.pairwise_append.2 ⟨h1, List.pairwise_singleton _ _, fun x hx y hy => ?_⟩, fun x => ?_⟩
      · rw [List.mem_singleton] at hy
        subst hy
        obtain ⟨i, hi, rfl⟩ := (h2 x).1 hx
        rcases hne with h0 | hne
        · omega
        · have hq := List.pairwise_iff_getElem.1 hd
          have hi1 : d[i]! ≤ d[m - 1]! := by
            rcases Nat.lt_or_ge i (m - 1) with hlt | hge
            · have := hq i (m - 1) (by simpa using (by omega : i < d.size)) (by simpa using (by omega : m - 1 < d.size)) hlt
              rw [getElem!_pos d i (by omega), getElem!_pos d (m - 1) (by omega)]
              simpa using this
            · have : i = m - 1 := by omega
              rw [this]; exact List.le_refl _
          have hm1 := hle (m - 1) (by omega)
          rcases List.le_iff_lt_or_eq.1 hm1 with hlt | heq
          · rcases List.le_iff_lt_or_eq.1 hi1 with h3 | h3
            · exact List.lt_trans h3 hlt
            · rw [h3]; exact hlt
          · exact absurd heq.symm hne
      · rw [List.mem_append, h2, List.mem_singleton]
        constructor
        · rintro (⟨i, hi, rfl⟩ | rfl)
          · exact ⟨i, by omega, rfl⟩
          · exact ⟨m, by omega, rfl⟩
        · rintro ⟨i, hi, rfl⟩
          rcases Nat.lt_or_ge i m with hlt | hge
          · exact .inl ⟨i, hlt, rfl⟩
          · have : i = m := by omega
            subst this; exact .inr rfl
    · rw [if_neg hk, List.append_nil]
      have hne : ¬ (m = 0 ∨ d[m]! ≠ d[m - 1]!) := by simpa [Lib.keeps] using hk
      refine ⟨h1, fun x => ?_⟩
      rw [h2]
      constructor
      · rintro ⟨i, hi, rfl⟩; exact ⟨i, by omega, rfl⟩
      · rintro ⟨i, hi, rfl⟩
        rcases Nat.lt_or_ge i m with hlt | hge
        · exact ⟨i, hlt, rfl⟩
        · have : i = m := by omega
          subst this
          have h3 : ¬ i = 0 := fun h => hne (.inl h)
          have h4 : d[i]! = d[i - 1]! := Decidable.of_not_not fun h => hne (.inr h)
          exact ⟨i - 1, by omega, h4.symm⟩
theorem setOf_inc (l : List ByteArray) : Inc (setOf l) := by
  have h := (comp_inv (sortS l).toArray (by simpa using sort_sorted l) (sortS l).length (by simp)).1
  unfold Inc setOf Lib.compact
  rw [List.pairwise_map]
  exact h.imp fun h => by rw [slt_iff]; exact h
theorem setOf_mem (l : List ByteArray) (x : ByteArray) : x ∈ setOf l ↔ x ∈ l := by
  have h := (comp_inv (sortS l).toArray (by simpa using sort_sorted l) (sortS l).length (by simp)).2
  unfold setOf Lib.compact
  rw [List.mem_map]
  constructor
  · rintro ⟨y, hy, rfl⟩
    obtain ⟨i, hi, rfl⟩ := (h y).1 hy
    have : (sortS l).toArray[i]! ∈ sortS l := by
      rw [getElem!_pos _ i (by simpa using hi)]
      simp
    obtain ⟨s, hs, he⟩ := (sort_mem l _).1 this
    rw [← he, ofL_toL]; exact hs
  · intro hx
    have h1 : toL x ∈ sortS l := (sort_mem l _).2 ⟨x, hx, rfl⟩
    obtain ⟨i, hi, he⟩ := List.getElem_of_mem h1
    exact ⟨toL x, (h _).2 ⟨i, hi, by rw [getElem!_pos _ i (by simpa using hi)]; simpa using he⟩, ofL_toL x⟩
theorem comp_len (d : Array (List UInt8)) (m : Nat) : (Lib.compactUpTo d m).length ≤ m := by
  unfold Lib.compactUpTo
  rw [List.length_map]
  exact Nat.le_trans (List.length_filter_le _ _) (by simp)
theorem setOf_len (l : List ByteArray) : (setOf l).length ≤ l.length := by
  unfold setOf Lib.compact
  rw [List.length_map, ← sort_len l]
  exact comp_len _ _
theorem setOf_id {l : List ByteArray} (h : Inc l) : setOf l = l := inc_eq (setOf_inc l) h (setOf_mem l)
theorem setOf_nil : setOf [] = [] := setOf_id Inc.nil
end Go.V
