/- Plain law: patterns, one behind the other: their parts; what they match. -/
import Derived.Test.YtmlohijidjbbjaaWk
namespace Go.Proofs.Ytmlohijidjbbjaa
open Go.V Go.Base
set_option linter.unusedVariables false
set_option linter.unusedSimpArgs false
/-- A class is closed within its text, or takes a bracket behind it. -/
theorem spans_open : ∀ r : List Int, (∀ m, spans (r ++ m) = spans r) ∨ r.length + 1 ≤ (spans (r ++ [93, 120])).2
  | [] => .inr (by decide)
  | [c] => by
    by_cases h : c = 93
    · left; intro m; subst h
      match m with
      | [] => rfl
      | [d] => rfl
      | d :: e :: m => rfl
    · right
      show 1 + 1 ≤ (spans [c, 93, 120]).2
      unfold spans
      rw [if_neg h]
      split
      · have := spans_pos 120 []; show 2 ≤ (spans [120]).2 + 2; omega
      · rw [if_neg (by decide)]; have := spans_pos 93 [120]; show 2 ≤ (spans [93, 120]).2 + 1; omega
  | [c, d] => by
    by_cases h : c = 93
    · left; intro m; subst h
      match m with
      | [] => rfl
      | e :: m => rfl
    · by_cases h2 : c = 92
      · right; subst h2; exact (by have : (spans [93, 120]).2 = 1 := rfl; show 3 ≤ (spans [93, 120]).2 + 2; omega)
      · by_cases h3 : d = 45
        · right; subst h3
          show 3 ≤ (spans [c, 45, 93, 120]).2
          unfold spans
          rw [if_neg h, if_neg h2, if_pos rfl]
          have := spans_pos 120 []
          show 3 ≤ (spans [120]).2 + 3
          omega
        · rcases spans_open [d] with h4 | h4
          · left; intro m
            match m with
            | [] => rfl
            | e :: m =>
              show spans (c :: d :: e :: m) = spans [c, d]
              rw [spans.eq_4, if_neg h, if_neg h2, if_neg h3, spans.eq_3, if_neg h, if_neg h2]
              have := h4 (e :: m)
              simp only [List.cons_append, List.nil_append] at this
              rw [this]
          · right
            show 3 ≤ (spans [c, d, 93, 120]).2
            rw [spans.eq_4, if_neg h, if_neg h2, if_neg h3]
            simp only [List.cons_append, List.nil_append, List.length_cons, List.length_nil] at h4
            show 3 ≤ (spans [d, 93, 120]).2 + 1
            omega
  | c :: d :: e :: r => by
    by_cases h : c = 93
    · left; intro m; subst h; rfl
    · by_cases h2 : c = 92
      · rcases spans_open (e :: r) with h4 | h4
        · left; intro m
          show spans (c :: d :: e :: (r ++ m)) = _
          rw [spans.eq_4, spans.eq_4, if_neg h, if_neg h, if_pos h2, if_pos h2, show e :: (r ++ m) = (e :: r) ++ m from rfl, h4]
        · right
          show _ ≤ (spans (c :: d :: e :: (r ++ [93, 120]))).2
          rw [spans.eq_4, if_neg h, if_pos h2]
          simp only [List.cons_append, List.length_cons] at h4 ⊢
          omega
      · by_cases h3 : d = 45
        · rcases spans_open r with h4 | h4
          · left; intro m
            show spans (c :: d :: e :: (r ++ m)) = _
            rw [spans.eq_4, spans.eq_4, if_neg h, if_neg h, if_neg h2, if_neg h2, if_pos h3, if_pos h3, h4]
          · right
            show _ ≤ (spans (c :: d :: e :: (r ++ [93, 120]))).2
            rw [spans.eq_4, if_neg h, if_neg h2, if_pos h3]
            simp only [List.length_cons] at h4 ⊢
            omega
        · rcases spans_open (d :: e :: r) with h4 | h4
          · left; intro m
            show spans (c :: d :: e :: (r ++ m)) = _
            rw [spans.eq_4, spans.eq_4, if_neg h, if_neg h, if_neg h2, if_neg h2, if_neg h3, if_neg h3, show d :: e :: (r ++ m) = (d :: e :: r) ++ m from rfl, h4]
          · right
            show _ ≤ (spans (c :: d :: e :: (r ++ [93, 120]))).2
            rw [spans.eq_4, if_neg h, if_neg h2, if_neg h3]
            simp only [List.cons_append, List.length_cons] at h4 ⊢
            omega
theorem cls_ne {c : Int} {r : List Int} (h : c ≠ 94) : cls (c :: r) = (⟨4, 0, false, (spans (c :: r)).1⟩, (spans (c :: r)).2) := by
  unfold cls; split
  · next h' => injection h' with h1; exact absurd h1 h
  · rfl
theorem cls_open (r : List Int) : (∀ m, cls (r ++ m) = cls r) ∨ r.length + 1 ≤ (cls (r ++ [93, 120])).2 := by
  match r with
  | [] => exact .inr (by decide)
  | c :: r =>
    by_cases h : c = 94
    · subst h
      rcases spans_open r with h4 | h4
      · left; intro m
        show ((⟨4, 0, true, (spans (r ++ m)).1⟩, (spans (r ++ m)).2 + 1) : Glob × Nat) = (⟨4, 0, true, (spans r).1⟩, (spans r).2 + 1)
        rw [h4]
      · right
        show r.length + 1 + 1 ≤ (spans (r ++ [93, 120])).2 + 1
        omega
    · rcases spans_open (c :: r) with h4 | h4
      · left; intro m
        rw [List.cons_append, cls_ne h, cls_ne h, ← List.cons_append, h4]
      · right
        rw [List.cons_append, cls_ne h, ← List.cons_append]
        exact h4
/-- A pattern that ends in no class and no backslash: what stands behind it is read by itself. -/
theorem parse_app (l : List Int) (h : (parse (l ++ [93, 120])).length = (parse l).length + 2) (m : List Int) : parse (l ++ m) = parse l ++ parse m := by
  match l with
  | [] => rw [ps_nil]; rfl
  | c :: r =>
    rw [List.cons_append, ps_cons, ps_cons] at h
    rw [List.cons_append, ps_cons, ps_cons]
    by_cases h1 : c = 42
    · rw [if_pos h1, if_pos h1] at h
      rw [if_pos h1, if_pos h1, parse_app r (by simp at h; omega) m]; rfl
    · rw [if_neg h1, if_neg h1] at h
      rw [if_neg h1, if_neg h1]
      by_cases h2 : c = 63
      · rw [if_pos h2, if_pos h2] at h
        rw [if_pos h2, if_pos h2, parse_app r (by simp at h; omega) m]; rfl
      · rw [if_neg h2, if_neg h2] at h
        rw [if_neg h2, if_neg h2]
        by_cases h3 : c = 91
        · rw [if_pos h3, if_pos h3] at h
          rw [if_pos h3, if_pos h3]
          rcases cls_open r with h4 | h4
          · rw [h4] at h
            rw [h4]
            have hle := cls_le r
            rw [List.drop_append_of_le_length hle] at h
            rw [List.drop_append_of_le_length hle, parse_app (r.drop (cls r).2) (by simp at h; omega) m]; rfl
          · exfalso
            have := parse_length ((r ++ [93, 120]).drop (cls (r ++ [93, 120])).2)
            simp only [List.length_cons, List.length_drop, List.length_append, List.length_nil] at this h
            omega
        · rw [if_neg h3, if_neg h3] at h
          rw [if_neg h3, if_neg h3]
          by_cases h5 : c = 92
          · rw [if_pos h5, if_pos h5] at h
            rw [if_pos h5, if_pos h5]
            cases hrr : r with
            | nil =>
              rw [hrr] at h
              exfalso
              simp only [List.nil_append] at h
              rw [ps_cons, if_neg (by decide), if_neg (by decide), if_neg (by decide), if_neg (by decide), ps_nil] at h
              simp at h
            | cons d r' =>
              rw [hrr] at h
              simp only [List.cons_append] at h ⊢
              rw [parse_app r' (by simp at h; omega) m]
          · rw [if_neg h5, if_neg h5] at h
            rw [if_neg h5, if_neg h5, parse_app r (by simp at h; omega) m]; rfl
termination_by l.length
decreasing_by all_goals (first | (simp_all <;> omega) | (rw [hrr]; simp; omega))
theorem ints_app (p q : ByteArray) : ints (p ++ q) = ints p ++ ints q := by simp [ints]
def endsB (p : ByteArray) : Bool := (decide (p.size > 0) && decide (bi p ((p.size : Int) - 1) = 92)) || decide (¬ (parse (ints (p ++ ⟨#[93, 120]⟩))).length = (parse (ints p)).length + 2)
theorem ends_app {p : ByteArray} (h : endsB p = false) (q : ByteArray) : parse (ints (p ++ q)) = parse (ints p) ++ parse (ints q) := by
  unfold endsB at h
  rw [Bool.or_eq_false_iff] at h
  have h2 := of_decide_eq_false h.2
  rw [Classical.not_not, ints_app] at h2
  rw [ints_app]
  exact parse_app _ h2 _
theorem star_parse : parse (ints ⟨#[42]⟩) = [⟨1, 0, false, []⟩] := by
  show parse [42] = _
  rw [ps_cons, if_pos rfl, ps_nil]
theorem star_mat {fold : Bool} (s : List Int) : Mat fold [⟨1, 0, false, []⟩] s := (mat_any rfl s).2 ⟨s.length, Nat.le_refl _, by rw [List.drop_length]; exact .nil⟩
theorem star_end {p : ByteArray} : endsB ⟨#[42]⟩ = false := by
  unfold endsB
  rw [Bool.or_eq_false_iff]
  refine ⟨by decide, decide_eq_false ?_⟩
  rw [Classical.not_not, ints_app]
  show (parse [42, 93, 120]).length = (parse [42]).length + 2
  rw [ps_cons, if_pos rfl, ps_cons, if_neg (by decide), if_neg (by decide), if_neg (by decide), if_neg (by decide), ps_cons, if_neg (by decide), if_neg (by decide), if_neg (by decide), if_neg (by decide), ps_cons, if_pos rfl, ps_nil]; rfl
variable {p s q t : ByteArray} {fold : Bool}
theorem behind1 (h1 : p.size ≤ 500) (h2 : s.size ≤ 500) (h3 : q.size ≤ 500) (h4 : t.size ≤ 500) (he : endsB p = false) (hp : rmat p s fold = true) (hq : rmat q t fold = true) : rmat (p ++ q) (s ++ t) fold = true := by
  rw [rmat_mat (by omega) (by omega)] at hp hq
  rw [rmat_mat (by rw [ByteArray.size_append]; omega) (by rw [ByteArray.size_append]; omega), ends_app he, ints_app]
  exact mat_app hp hq
theorem behind2 (h2 : s.size ≤ 500) (h3 : q.size ≤ 500) (h4 : t.size ≤ 500) (hq : rmat q t fold = true) : rmat (⟨#[42]⟩ ++ q) (s ++ t) fold = true :=
  behind1 (by decide) h2 h3 h4 (star_end (p := q)) ((rmat_mat (by decide) (by omega)).2 (by rw [star_parse]; exact star_mat _)) hq
theorem behind3 (h1 : p.size ≤ 500) (h2 : s.size ≤ 500) (h4 : t.size ≤ 500) (he : endsB p = false) (hp : rmat p s fold = true) : rmat (p ++ ⟨#[42]⟩) (s ++ t) fold = true :=
  behind1 h1 h2 (by decide) h4 he hp ((rmat_mat (by decide) (by omega)).2 (by rw [star_parse]; exact star_mat _))
end Go.Proofs.Ytmlohijidjbbjaa
