/- Which texts parts match: by cases; by the reference's rows. -/
import Derived.Test.YtmlohijidjbbjaaPl
namespace Go.Proofs.Ytmlohijidjbbjaa
open Go.V Go.Base
set_option linter.unusedVariables false
set_option linter.unusedSimpArgs false
inductive Mat (fold : Bool) : List Glob → List Int → Prop
  | nil : Mat fold [] []
  | skip {g : Glob} {l : List Glob} {s : List Int} (hk : g.kind = 1) (h : Mat fold l s) : Mat fold (g :: l) s
  | eat {g : Glob} {l : List Glob} {c : Int} {s : List Int} (hk : g.kind = 1) (h : Mat fold (g :: l) s) : Mat fold (g :: l) (c :: s)
  | one {g : Glob} {l : List Glob} {c : Int} {s : List Int} (hk : g.kind ≠ 1) (ho : oneB g c fold = true) (h : Mat fold l s) : Mat fold (g :: l) (c :: s)
variable {fold : Bool}
theorem mat_nil {s : List Int} : Mat fold [] s ↔ s = [] := ⟨fun h => by cases h; rfl, fun h => h ▸ .nil⟩
theorem mat_one {g : Glob} {l : List Glob} {s : List Int} (hk : g.kind ≠ 1) : Mat fold (g :: l) s ↔ ∃ c r, s = c :: r ∧ oneB g c fold = true ∧ Mat fold l r := by
  constructor
  · intro h
    cases h with
    | skip h1 _ => exact absurd h1 hk
    | eat h1 _ => exact absurd h1 hk
    | one _ ho h => exact ⟨_, _, rfl, ho, h⟩
  · rintro ⟨c, r, rfl, ho, h⟩; exact .one hk ho h
theorem mat_any_drop {g : Glob} {l : List Glob} (hk : g.kind = 1) : ∀ (n : Nat) (s : List Int), Mat fold l (s.drop n) → Mat fold (g :: l) s
  | 0, s, h => .skip hk h
  | n + 1, [], h => .skip hk (by simpa using h)
  | n + 1, c :: s, h => .eat hk (mat_any_drop hk n s (by simpa using h))
theorem mat_any {g : Glob} {l : List Glob} (hk : g.kind = 1) (s : List Int) : Mat fold (g :: l) s ↔ ∃ n, n ≤ s.length ∧ Mat fold l (s.drop n) := by
  constructor
  · intro h
    generalize hgl : g :: l = gl at h
    induction h with
    | nil => cases hgl
    | skip h1 h _ => cases hgl; exact ⟨0, by omega, by simpa using h⟩
    | eat h1 h ih =>
      obtain ⟨n, hn, hm⟩ := ih hgl
      cases hgl
      exact ⟨n + 1, by simp; omega, by simpa using hm⟩
    | one h1 => cases hgl; exact absurd hk h1
  · rintro ⟨n, _, h⟩; exact mat_any_drop hk n s h
theorem mat_app {l m : List Glob} {s t : List Int} (h : Mat fold l s) (k : Mat fold m t) : Mat fold (l ++ m) (s ++ t) := by
  induction h with
  | nil => exact k
  | skip h1 _ ih => exact .skip h1 ih
  | eat h1 _ ih => exact .eat h1 ih
  | one h1 ho _ ih => exact .one h1 ho ih
theorem mat_split : ∀ {l m : List Glob} {s : List Int}, Mat fold (l ++ m) s → ∃ n, n ≤ s.length ∧ Mat fold l (s.take n) ∧ Mat fold m (s.drop n)
  | [], m, s, h => ⟨0, by omega, by simpa using Mat.nil, by simpa using h⟩
  | g :: l, m, s, h => by
    by_cases hk : g.kind = 1
    · obtain ⟨n, hn, hm⟩ := (mat_any hk s).1 h
      obtain ⟨n', hn', h1, h2⟩ := mat_split hm
      refine ⟨n + n', by simp at hn'; omega, ?_, by simpa [List.drop_drop] using h2⟩
      refine mat_any_drop hk n _ ?_
      rw [List.drop_take, Nat.add_sub_cancel_left]
      exact h1
    · obtain ⟨c, r, rfl, ho, hm⟩ := (mat_one hk).1 h
      obtain ⟨n', hn', h1, h2⟩ := mat_split hm
      exact ⟨n' + 1, by simp; omega, by simpa using Mat.one hk ho h1, by simpa using h2⟩
/-- The rows say so. -/
theorem dp_mat (l : List Glob) (s : ByteArray) : ∀ i, i ≤ l.length → ∀ j, j ≤ s.size → (dp fold l s i j = true ↔ Mat fold (l.take i) ((ints s).take j)) := by
  intro i
  have hl := ints_length s
  induction i with
  | zero =>
    intro _ j hj
    rw [dp, List.take_zero, mat_nil, decide_eq_true_eq]
    constructor
    · rintro rfl; rfl
    · intro h
      have := congrArg List.length h
      rw [List.length_take, List.length_nil] at this
      omega
  | succ i ih =>
    intro hi j
    have ih := ih (by omega)
    have hg : l[i]? = some (at_ globR l (i : Int)) := at_some globR (i := (i : Int)) (by omega) (by omega)
    have ht : l.take (i + 1) = l.take i ++ [at_ globR l (i : Int)] := by rw [List.take_add_one, hg]; rfl
    rw [ht]
    have any1 : (at_ globR l (i : Int)).kind = 1 → ∀ r : List Int, Mat fold [at_ globR l (i : Int)] r := fun hk r => mat_any_drop hk r.length r (by rw [List.drop_length]; exact .nil)
    induction j with
    | zero =>
      intro _
      rw [dp, Bool.and_eq_true, decide_eq_true_eq, ih 0 (by omega), List.take_zero]
      constructor
      · rintro ⟨hk, h⟩; have := mat_app h (any1 hk []); simpa using this
      · intro h
        obtain ⟨n, hn, h1, h2⟩ := mat_split h
        simp at h1 h2
        refine ⟨?_, h1⟩
        by_cases hk : (at_ globR l (i : Int)).kind = 1
        · exact hk
        · obtain ⟨c, r, e, _⟩ := (mat_one hk).1 h2; cases e
    | succ j ihj =>
      intro hj
      have hc : (ints s).take (j + 1) = (ints s).take j ++ [bi s j] := by rw [List.take_add_one, ints_get s j (by omega)]; rfl
      have hlen : ((ints s).take j).length = j := by rw [List.length_take]; omega
      rw [dp]
      by_cases hk : (at_ globR l (i : Int)).kind = 1
      · rw [if_pos hk, Bool.or_eq_true, ih (j + 1) hj, ihj (by omega)]
        constructor
        · rintro (h | h)
          · have := mat_app h (any1 hk []); simpa using this
          · obtain ⟨n, hn, h1, h2⟩ := mat_split h
            have := mat_app h1 (any1 hk (((ints s).take j).drop n ++ [bi s j]))
            rw [← List.append_assoc, List.take_append_drop] at this
            rw [hc]; exact this
        · intro h
          obtain ⟨n, hn, h1, h2⟩ := mat_split h
          rw [List.take_take] at h1
          by_cases hn' : n = j + 1
          · subst hn'; left; simpa using h1
          · right
            rw [List.length_take] at hn
            have hm : min n (j + 1) = n := by omega
            rw [hm] at h1
            have := mat_app h1 (any1 hk (((ints s).take j).drop n))
            rw [show (ints s).take n = ((ints s).take j).take n by rw [List.take_take]; congr 1; omega, List.take_append_drop] at this
            exact this
      · rw [if_neg hk, Bool.and_eq_true, ih j (by omega), hc]
        constructor
        · rintro ⟨h1, h2⟩; exact mat_app h1 (.one hk h2 .nil)
        · intro h
          obtain ⟨n, hn, h1, h2⟩ := mat_split h
          obtain ⟨c, r, e, ho, hm⟩ := (mat_one hk).1 h2
          rw [mat_nil] at hm
          subst hm
          have h3 := congrArg List.length e
          rw [List.length_drop, List.length_append, hlen] at h3
          simp at h3
          have hnj : n = j := by omega
          subst hnj
          rw [List.take_append_of_le_length (by omega), List.take_take, Nat.min_self] at h1
          rw [List.drop_append_of_le_length (by omega), List.drop_of_length_le (by omega)] at e
          simp at e
          rw [e]
          exact ⟨h1, ho⟩
/-- What a stretch of parts of one byte takes. -/
theorem mat_fixed : ∀ {l m : List Glob} {s : List Int}, (∀ g ∈ l, g.kind ≠ 1) → Mat fold (l ++ m) s → l.length ≤ s.length ∧ Mat fold m (s.drop l.length)
  | [], m, s, _, h => ⟨by simp, by simpa using h⟩
  | g :: l, m, s, hl, h => by
    obtain ⟨c, r, rfl, ho, hm⟩ := (mat_one (hl g (List.mem_cons_self ..))).1 h
    obtain ⟨h1, h2⟩ := mat_fixed (fun g hg => hl g (List.mem_cons_of_mem _ hg)) hm
    exact ⟨by simp; omega, by simpa using h2⟩
/-- The greedy loop's invariant: parts l, text s; at part i, byte at; the last star (none: -1), where it was taken up to. -/
structure Gr (fold : Bool) (l : List Glob) (s : List Int) (i at_ : Nat) (star : Int) (frm : Nat) : Prop where
  hi : i ≤ l.length
  hat : at_ ≤ s.length
  lo : -1 ≤ star
  ans : Mat fold l s ↔ Mat fold (l.drop i) (s.drop at_) ∨ (0 ≤ star ∧ ∃ f, frm < f ∧ f ≤ s.length ∧ Mat fold (l.drop (star.toNat + 1)) (s.drop f))
  st : 0 ≤ star → star.toNat < i ∧ (∀ j g, star.toNat < j → j < i → l[j]? = some g → g.kind ≠ 1) ∧ at_ = frm + (i - star.toNat - 1)
  no : star < 0 → frm = 0
theorem Gr.start (l : List Glob) (s : List Int) : Gr fold l s 0 0 (-1) 0 :=
  ⟨by omega, by omega, by omega, by simp, fun h => by omega, fun _ => rfl⟩
theorem drop_cons {α : Type} {l : List α} {i : Nat} {g : α} (h : l[i]? = some g) : l.drop i = g :: l.drop (i + 1) := by
  have hi := (List.getElem?_eq_some_iff.1 h).1
  rw [List.drop_eq_getElem_cons hi]
  rw [List.getElem?_eq_getElem hi] at h
  injection h with h
  rw [h]
/-- From the last star on: what stands ahead of part i takes a byte each. -/
theorem Gr.seg {l : List Glob} {s : List Int} {i at_ : Nat} {star : Int} {frm : Nat} (h : Gr fold l s i at_ star frm) (hs : 0 ≤ star) {f : Nat} (hm : Mat fold (l.drop (star.toNat + 1)) (s.drop f)) :
    i - star.toNat - 1 ≤ s.length - f ∧ Mat fold (l.drop i) (s.drop (f + (i - star.toNat - 1))) := by
  obtain ⟨h1, h2, h3⟩ := h.st hs
  have hi := h.hi
  have e : l.drop (star.toNat + 1) = (l.drop (star.toNat + 1)).take (i - star.toNat - 1) ++ l.drop i := by
    have := (List.take_append_drop (i - star.toNat - 1) (l.drop (star.toNat + 1))).symm
    rw [List.drop_drop, show star.toNat + 1 + (i - star.toNat - 1) = i by omega] at this
    exact this
  have hlen : ((l.drop (star.toNat + 1)).take (i - star.toNat - 1)).length = i - star.toNat - 1 := by rw [List.length_take, List.length_drop]; omega
  rw [e] at hm
  obtain ⟨h4, h5⟩ := mat_fixed (fun g hg => by
    obtain ⟨j, hj⟩ := List.mem_iff_getElem?.1 hg
    have hjl := (List.getElem?_eq_some_iff.1 hj).1
    rw [hlen] at hjl
    rw [List.getElem?_take_of_lt hjl, List.getElem?_drop] at hj
    exact h2 _ g (by omega) (by omega) hj) hm
  rw [hlen] at h4 h5
  rw [List.length_drop] at h4
  rw [List.drop_drop] at h5
  exact ⟨h4, h5⟩
theorem Gr.any {l : List Glob} {s : List Int} {i at_ : Nat} {star : Int} {frm : Nat} (h : Gr fold l s i at_ star frm) {g : Glob} (hl : l[i]? = some g) (hk : g.kind = 1) : Gr fold l s (i + 1) at_ (i : Int) at_ := by
  have hi := (List.getElem?_eq_some_iff.1 hl).1
  have hat := h.hat
  refine ⟨by omega, h.hat, by omega, ?_, fun _ => ⟨by simp, fun j g' h1 h2 => by simp at h1; omega, by simp⟩, fun h' => by omega⟩
  rw [h.ans, drop_cons hl, mat_any hk, Int.toNat_natCast]
  constructor
  · rintro (⟨n, hn, hm⟩ | ⟨hs, f, hf, hfl, hm⟩)
    · rw [List.drop_drop] at hm
      rw [List.length_drop] at hn
      by_cases h0 : n = 0
      · subst h0; exact .inl (by simpa using hm)
      · exact .inr ⟨by omega, at_ + n, by omega, by omega, hm⟩
    · obtain ⟨h4, h5⟩ := h.seg hs hm
      obtain ⟨h1, h2, h3⟩ := h.st hs
      rw [drop_cons hl] at h5
      obtain ⟨n, hn, hm'⟩ := (mat_any hk _).1 h5
      rw [List.drop_drop] at hm'
      rw [List.length_drop] at hn
      exact .inr ⟨by omega, f + (i - star.toNat - 1) + n, by omega, by omega, hm'⟩
  · rintro (hm | ⟨_, f, hf, hfl, hm⟩)
    · exact .inl ⟨0, by omega, by simpa using hm⟩
    · refine .inl ⟨f - at_, by rw [List.length_drop]; omega, ?_⟩
      rw [List.drop_drop, show at_ + (f - at_) = f by omega]
      exact hm
section
variable {l : List Glob} {s : List Int} {i at_ : Nat} {star : Int} {frm : Nat}
theorem Gr.eat (h : Gr fold l s i at_ star frm) {g : Glob} (hl : l[i]? = some g) (hk : g.kind ≠ 1) {c : Int} (hc : s[at_]? = some c) (ho : oneB g c fold = true) : Gr fold l s (i + 1) (at_ + 1) star frm := by
  have hi := (List.getElem?_eq_some_iff.1 hl).1
  have hat := (List.getElem?_eq_some_iff.1 hc).1
  refine ⟨by omega, by omega, h.lo, ?_, fun hs => ?_, h.no⟩
  · rw [h.ans, drop_cons hl, drop_cons hc, mat_one hk]
    refine or_congr ?_ Iff.rfl
    constructor
    · rintro ⟨c', r, e, _, hm⟩; injection e with e1 e2; rw [e2]; exact hm
    · intro hm; exact ⟨c, _, rfl, ho, hm⟩
  · obtain ⟨h1, h2, h3⟩ := h.st hs
    refine ⟨by omega, fun j g' h4 h5 hj => ?_, by omega⟩
    by_cases hji : j = i
    · subst hji; rw [hl] at hj; injection hj with hj; subst hj; exact hk
    · exact h2 j g' h4 (by omega) hj
/-- Part i does not match byte at. -/
theorem Gr.miss (h : Gr fold l s i at_ star frm) {c : Int} (hc : s[at_]? = some c) (hn : ∀ g, l[i]? = some g → g.kind ≠ 1 ∧ oneB g c fold = false) : ¬ Mat fold (l.drop i) (s.drop at_) := by
  intro hm
  rw [drop_cons hc] at hm
  cases hl : l[i]? with
  | none =>
    rw [List.drop_eq_nil_of_le (by have := List.getElem?_eq_none_iff.1 hl; omega), mat_nil] at hm
    cases hm
  | some g =>
    obtain ⟨hk, ho⟩ := hn g hl
    rw [drop_cons hl, mat_one hk] at hm
    obtain ⟨c', r, e, ho', _⟩ := hm
    injection e with e1 e2
    subst e1
    rw [ho] at ho'; cases ho'
theorem Gr.back (h : Gr fold l s i at_ star frm) {c : Int} (hc : s[at_]? = some c) (hn : ∀ g, l[i]? = some g → g.kind ≠ 1 ∧ oneB g c fold = false) (hs : 0 ≤ star) : Gr fold l s (star.toNat + 1) (frm + 1) star (frm + 1) := by
  have hat := (List.getElem?_eq_some_iff.1 hc).1
  have hmiss := h.miss hc hn
  obtain ⟨h1, h2, h3⟩ := h.st hs
  have hi := h.hi
  refine ⟨by omega, by omega, h.lo, ?_, fun _ => ⟨by omega, fun j g h4 h5 => by omega, by omega⟩, fun h' => by omega⟩
  rw [h.ans]
  constructor
  · rintro (hm | ⟨_, f, hf, hfl, hm⟩)
    · exact absurd hm hmiss
    · by_cases hf1 : f = frm + 1
      · subst hf1; exact .inl hm
      · exact .inr ⟨hs, f, by omega, hfl, hm⟩
  · rintro (hm | ⟨_, f, hf, hfl, hm⟩)
    · exact .inr ⟨hs, frm + 1, by omega, by omega, hm⟩
    · exact .inr ⟨hs, f, by omega, hfl, hm⟩
theorem Gr.none (h : Gr fold l s i at_ star frm) {c : Int} (hc : s[at_]? = some c) (hn : ∀ g, l[i]? = some g → g.kind ≠ 1 ∧ oneB g c fold = false) (hs : star < 0) : ¬ Mat fold l s := by
  rw [h.ans]
  rintro (hm | ⟨h', _⟩)
  · exact h.miss hc hn hm
  · omega
theorem Gr.last (h : Gr fold l s i at_ star frm) (hat : at_ = s.length) : Mat fold l s ↔ Mat fold (l.drop i) [] := by
  rw [h.ans, hat, List.drop_length]
  constructor
  · rintro (hm | ⟨hs, f, hf, hfl, hm⟩)
    · exact hm
    · obtain ⟨h4, _⟩ := h.seg hs hm
      obtain ⟨h1, h2, h3⟩ := h.st hs
      omega
  · exact .inl
theorem mat_end_any {g : Glob} (hl : l[i]? = some g) (hk : g.kind = 1) : Mat fold (l.drop i) [] ↔ Mat fold (l.drop (i + 1)) [] := by
  rw [drop_cons hl]
  constructor
  · intro h
    obtain ⟨n, hn, hm⟩ := (mat_any hk _).1 h
    simpa using hm
  · exact .skip hk
theorem mat_end_other {g : Glob} (hl : l[i]? = some g) (hk : g.kind ≠ 1) : ¬ Mat fold (l.drop i) [] := by
  rw [drop_cons hl, mat_one hk]
  rintro ⟨c, r, e, _⟩; cases e
end
end Go.Proofs.Ytmlohijidjbbjaa
