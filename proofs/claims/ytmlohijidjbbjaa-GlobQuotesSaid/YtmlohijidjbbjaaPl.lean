/- Plain laws on patterns: parts are of bytes; which kinds there are. -/
import Derived.Test.YtmlohijidjbbjaaDef
namespace Go.Proofs.Ytmlohijidjbbjaa
open Go.V Go.Base
set_option linter.unusedVariables false
set_option linter.unusedSimpArgs false
def Byt (l : List Int) : Prop := ∀ x ∈ l, 0 ≤ x ∧ x ≤ 255
theorem byt_ints (s : ByteArray) : Byt (ints s) := by
  intro x hx
  unfold ints at hx
  obtain ⟨b, _, rfl⟩ := List.mem_map.1 hx
  have := b.toNat_lt
  omega
theorem Byt.drop {l : List Int} (h : Byt l) (k : Nat) : Byt (l.drop k) := fun x hx => h x (List.mem_of_mem_drop hx)
theorem Byt.tail {x : Int} {l : List Int} (h : Byt (x :: l)) : Byt l := fun y hy => h y (List.mem_cons_of_mem _ hy)
theorem Byt.head {x : Int} {l : List Int} (h : Byt (x :: l)) : 0 ≤ x ∧ x ≤ 255 := h x (List.mem_cons_self ..)
theorem spans_good : ∀ l : List Int, Byt l → ∀ x ∈ (spans l).1, GoodS x
  | [], _, x, hx => by simp [spans] at hx
  | [c], h, x, hx => by
    have hc := h.head
    unfold spans at hx
    split at hx
    · simp at hx
    · simp at hx; subst hx; unfold GoodS; simp; omega
  | [c, d], h, x, hx => by
    have hc := h.head
    have hd := h.tail.head
    have ih := spans_good [d] h.tail
    unfold spans at hx
    split at hx
    · simp at hx
    · split at hx
      · simp at hx; subst hx; unfold GoodS; simp; omega
      · rcases List.mem_cons.1 hx with rfl | hx
        · unfold GoodS; simp; omega
        · exact ih x hx
  | c :: d :: e :: r, h, x, hx => by
    have hc := h.head
    have hd := h.tail.head
    have he := h.tail.tail.head
    have ih1 := spans_good (e :: r) h.tail.tail
    have ih2 := spans_good r h.tail.tail.tail
    have ih3 := spans_good (d :: e :: r) h.tail
    unfold spans at hx
    split at hx
    · simp at hx
    · split at hx
      · rcases List.mem_cons.1 hx with rfl | hx
        · unfold GoodS; simp; omega
        · exact ih1 x hx
      · split at hx
        · rcases List.mem_cons.1 hx with rfl | hx
          · unfold GoodS; simp; omega
          · exact ih2 x hx
        · rcases List.mem_cons.1 hx with rfl | hx
          · unfold GoodS; simp; omega
          · exact ih3 x hx
theorem cls_good (l : List Int) (h : Byt l) : GoodG (cls l).1 := by
  refine ⟨by rw [cls_c]; omega, by rw [cls_c]; omega, ?_⟩
  unfold cls
  split
  · exact spans_good _ h.tail
  · exact spans_good _ h
theorem parse_good_mem (l : List Int) (h : Byt l) : ∀ g ∈ parse l, GoodG g ∧ (1 ≤ g.kind ∧ g.kind ≤ 4) := by
  match l with
  | [] => rw [ps_nil]; intro g hg; cases hg
  | c :: r =>
    have hc := h.head
    rw [ps_cons]
    have hg0 : ∀ k : Int, GoodG ⟨k, 0, false, []⟩ := fun k => ⟨by simp, by simp, fun x hx => by cases hx⟩
    have hg1 : ∀ d : Int, 0 ≤ d → d ≤ 255 → GoodG ⟨3, d, false, []⟩ := fun d h0 h1 => ⟨h0, h1, fun x hx => by cases hx⟩
    split
    · intro g hg
      rcases List.mem_cons.1 hg with rfl | hg
      · exact ⟨hg0 1, by simp⟩
      · exact parse_good_mem r h.tail g hg
    · split
      · intro g hg
        rcases List.mem_cons.1 hg with rfl | hg
        · exact ⟨hg0 2, by simp⟩
        · exact parse_good_mem r h.tail g hg
      · split
        · intro g hg
          rcases List.mem_cons.1 hg with rfl | hg
          · exact ⟨cls_good r h.tail, by rw [cls_kind]; omega⟩
          · exact parse_good_mem (r.drop (cls r).2) (h.tail.drop _) g hg
        · split
          · cases r with
            | nil => intro g hg; simp at hg; subst hg; exact ⟨hg1 92 (by omega) (by omega), by simp⟩
            | cons d r' =>
              intro g hg
              simp only at hg
              rcases List.mem_cons.1 hg with rfl | hg
              · exact ⟨hg1 d h.tail.head.1 h.tail.head.2, by simp⟩
              · exact parse_good_mem r' h.tail.tail g hg
          · intro g hg
            rcases List.mem_cons.1 hg with rfl | hg
            · exact ⟨hg1 c hc.1 hc.2, by simp⟩
            · exact parse_good_mem r h.tail g hg
  termination_by l.length
  decreasing_by all_goals simp_all <;> omega
theorem parse_good (s : ByteArray) (i : Int) : GoodG (at_ globR (parse (ints s)) i) := good_at (fun x hx => (parse_good_mem _ (byt_ints s) x hx).1) i
/-- The reference's answer. -/
def rmat (p s : ByteArray) (fold : Bool) : Bool := decide (p.size ≤ 65536) && (decide (s.size ≤ 65536) && dp fold (parse (ints p)) s (parse (ints p)).length s.size)
theorem smallI_in (c : Int) (h0 : 0 ≤ c) (h1 : c ≤ 255) : 0 ≤ smallI c ∧ smallI c ≤ 255 := by unfold smallI; split <;> omega
theorem sF_t {c : Int} {fold : Bool} (h : fold = true) : smallF c fold = smallI c := by unfold smallF; rw [if_pos h]
theorem sF_f {c : Int} {fold : Bool} (h : fold = false) : smallF c fold = c := by unfold smallF; rw [if_neg (by rw [h]; simp)]
/-- Which bytes glob's set of a part has. -/
def setB (g : Glob) (c : Int) (fold : Bool) : Bool := if g.kind = 1 ∨ g.kind = 2 then true else if g.kind = 3 then decide (c = g.c) || (fold && decide (smallI c = smallI g.c)) else hits g.rs (smallF c fold) fold != g.neg
theorem setB_one {g : Glob} (h1 : g.kind ≠ 1) (h : 1 ≤ g.kind ∧ g.kind ≤ 4) (c : Int) (fold : Bool) : setB g c fold = oneB g c fold := by
  unfold setB oneB
  by_cases h2 : g.kind = 2
  · rw [if_pos (.inr h2), if_pos h2]
  · rw [if_neg (by omega), if_neg h2]
    by_cases h3 : g.kind = 3
    · rw [if_pos h3, if_pos h3]
      cases fold with
      | false => rw [sF_f rfl, sF_f rfl]; simp
      | true =>
        rw [sF_t rfl, sF_t rfl]
        by_cases h4 : c = g.c
        · rw [h4]; simp
        · simp [h4]
    · rw [if_neg h3, if_neg h3, if_pos (by omega)]
end Go.Proofs.Ytmlohijidjbbjaa
