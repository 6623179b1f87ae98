/- Patterns: their parts as data; what a class's text says; what a pattern's text says; which texts match. -/
import Derived.Test.YtmlohijidjbbjaaRow
namespace Go.Proofs.Ytmlohijidjbbjaa
open Go.V Go.Base
set_option linter.unusedVariables false
set_option linter.unusedSimpArgs false

structure Span where
  lo : Int
  hi : Int
structure Glob where
  kind : Int
  c : Int
  neg : Bool
  rs : List Span
def spanR : Rp Span := Rp.flat ⟨0, 0⟩ 2 (fun x => [.int .u8 x.lo, .int .u8 x.hi]) (fun _ => rfl) (fun x u hu => by simp at hu; rcases hu with rfl | rfl <;> rfl)
def globR : Rp Glob where
  dflt := ⟨0, 0, false, []⟩
  sz := 4
  ok := fun Z w x cs => ∃ v, cs = [.int .i64 x.kind, .int .u8 x.c, .bool x.neg, v] ∧ SlR spanR Z w v x.rs
  len := by rintro _ _ x cs ⟨v, rfl, _⟩; rfl
  one := by rintro _ _ x cs ⟨v, rfl, h⟩ u hu; obtain ⟨A, c, rfl, _⟩ := h; simp at hu; rcases hu with rfl | rfl | rfl | rfl <;> rfl
  mono := by rintro Z Z' w w' x cs hm hs ⟨v, rfl, h⟩; exact ⟨v, rfl, h.mono hm hs⟩
theorem glob_open {Z : Nat → Prop} {w : World} {x : Glob} {cs : List Value} (h : globR.ok Z w x cs) : ∃ A c, cs = [.int .i64 x.kind, .int .u8 x.c, .bool x.neg, .slice A x.rs.length c] ∧ x.rs.length ≤ c ∧ SlR spanR Z w (.slice A x.rs.length c) x.rs := by
  obtain ⟨v, rfl, h⟩ := h
  obtain ⟨A, c, rfl, hc⟩ := h.slice
  exact ⟨A, c, rfl, hc, h⟩
theorem span_open {Z : Nat → Prop} {w : World} {x : Span} {cs : List Value} (h : spanR.ok Z w x cs) : cs = [.int .u8 x.lo, .int .u8 x.hi] := h

def smallI (c : Int) : Int := if 65 ≤ c ∧ c ≤ 90 then c + 32 else c
def smallF (c : Int) (fold : Bool) : Int := if fold = true then smallI c else c
/-- A class's spans, behind its '[' and '^'; how many bytes they take. -/
def spans : List Int → List Span × Nat
  | [] => ([], 0)
  | [c] => if c = 93 then ([], 1) else ([⟨c, c⟩], 1)
  | [c, d] => if c = 93 then ([], 1) else if c = 92 then ([⟨d, d⟩], 2) else (⟨c, c⟩ :: (spans [d]).1, (spans [d]).2 + 1)
  | c :: d :: e :: r => if c = 93 then ([], 1) else if c = 92 then (⟨d, d⟩ :: (spans (e :: r)).1, (spans (e :: r)).2 + 2)
    else if d = 45 then (⟨min c e, max c e⟩ :: (spans r).1, (spans r).2 + 3) else (⟨c, c⟩ :: (spans (d :: e :: r)).1, (spans (d :: e :: r)).2 + 1)
theorem spans_le : ∀ l : List Int, (spans l).2 ≤ l.length ∧ (spans l).1.length ≤ l.length
  | [] => by simp [spans]
  | [c] => by unfold spans; split <;> simp
  | [c, d] => by
    have := spans_le [d]
    unfold spans; split
    · simp
    · split
      · simp
      · simp at this ⊢; omega
  | c :: d :: e :: r => by
    have h1 := spans_le (e :: r)
    have h2 := spans_le r
    have h3 := spans_le (d :: e :: r)
    unfold spans; split
    · simp
    · split
      · simp at h1 ⊢; omega
      · split
        · simp at h2 ⊢; omega
        · simp at h3 ⊢; omega
theorem spans_pos (c : Int) (r : List Int) : 1 ≤ (spans (c :: r)).2 := by
  match r with
  | [] => unfold spans; split <;> simp
  | [d] => unfold spans; split; simp; split <;> simp
  | d :: e :: r => unfold spans; split; simp; split; simp; split <;> simp
/-- A class, behind its '['. -/
def cls (l : List Int) : Glob × Nat := match l with
  | 94 :: r => (⟨4, 0, true, (spans r).1⟩, (spans r).2 + 1)
  | l => (⟨4, 0, false, (spans l).1⟩, (spans l).2)
theorem cls_kind (l : List Int) : (cls l).1.kind = 4 := by unfold cls; split <;> rfl
theorem cls_c (l : List Int) : (cls l).1.c = 0 := by unfold cls; split <;> rfl
theorem cls_le (l : List Int) : (cls l).2 ≤ l.length := by
  unfold cls; split
  · have := spans_le ‹_›; simp; omega
  · have := spans_le l; simp; omega
/-- A pattern's parts. -/
def parse (l : List Int) : List Glob := match l with
  | [] => []
  | c :: r => if c = 42 then ⟨1, 0, false, []⟩ :: parse r else if c = 63 then ⟨2, 0, false, []⟩ :: parse r
    else if c = 91 then (cls r).1 :: parse (r.drop (cls r).2)
    else if c = 92 then match r with
      | [] => [⟨3, 92, false, []⟩]
      | d :: r' => ⟨3, d, false, []⟩ :: parse r'
    else ⟨3, c, false, []⟩ :: parse r
  termination_by l.length
  decreasing_by all_goals simp_all <;> omega
theorem parse_length (l : List Int) : (parse l).length ≤ l.length := by
  match l with
  | [] => unfold parse; simp
  | c :: r =>
    unfold parse
    split
    · have := parse_length r; simp; omega
    · split
      · have := parse_length r; simp; omega
      · split
        · have := parse_length (r.drop (cls r).2); simp at this ⊢; omega
        · split
          · cases r with
            | nil => simp
            | cons d r' => have := parse_length r'; simp; omega
          · have := parse_length r; simp; omega
  termination_by l.length
  decreasing_by all_goals simp_all <;> omega
/-- Does a byte match a part of one byte? -/
def hits (rs : List Span) (c : Int) (fold : Bool) : Bool := rs.any fun s => decide (min (smallF s.lo fold) (smallF s.hi fold) ≤ c) && decide (c ≤ max (smallF s.lo fold) (smallF s.hi fold))
def oneB (g : Glob) (c : Int) (fold : Bool) : Bool := if g.kind = 2 then true else if g.kind = 3 then decide (smallF c fold = smallF g.c fold) else if g.kind = 4 then hits g.rs (smallF c fold) fold != g.neg else false
/-- Which parts match which text. -/
def matches_ (fold : Bool) : List Glob → List Int → Bool
  | [], s => s.isEmpty
  | g :: l, s => if g.kind = 1 then matches_ fold l s || (match s with | [] => false | _ :: r => matches_ fold (g :: l) r) else match s with
    | [] => false
    | c :: r => oneB g c fold && matches_ fold l r
  termination_by l s => (l.length, s.length)

theorem smallF_in (c : Int) (fold : Bool) (h0 : 0 ≤ c) (h1 : c ≤ 255) : 0 ≤ smallF c fold ∧ smallF c fold ≤ 255 := by
  unfold smallF smallI
  split <;> (try split) <;> omega
/-- A span of bytes; a part of bytes. -/
def GoodS (x : Span) : Prop := 0 ≤ x.lo ∧ x.lo ≤ 255 ∧ 0 ≤ x.hi ∧ x.hi ≤ 255
def GoodG (g : Glob) : Prop := 0 ≤ g.c ∧ g.c ≤ 255 ∧ ∀ x ∈ g.rs, GoodS x
theorem GoodG.at {g : Glob} (h : GoodG g) (i : Int) : GoodS (at_ spanR g.rs i) := by
  unfold at_
  rw [List.getD_eq_getElem?_getD]
  cases hi : g.rs[i.toNat]? with
  | none => show GoodS ⟨0, 0⟩; unfold GoodS; simp
  | some x => exact h.2.2 x (List.mem_of_getElem? hi)
theorem good_at {l : List Glob} (h : ∀ x ∈ l, GoodG x) (i : Int) : GoodG (at_ globR l i) := by
  unfold at_
  rw [List.getD_eq_getElem?_getD]
  cases hi : l[i.toNat]? with
  | none => show GoodG ⟨0, 0, false, []⟩; unfold GoodG; simp
  | some x => exact h x (List.mem_of_getElem? hi)
theorem hits_step (rs : List Span) (k : Nat) (x : Int) (fold : Bool) (h : k < rs.length) : hits (rs.drop k) x fold =
    if min (smallF (at_ spanR rs k).lo fold) (smallF (at_ spanR rs k).hi fold) ≤ x ∧ x ≤ max (smallF (at_ spanR rs k).lo fold) (smallF (at_ spanR rs k).hi fold) then true else hits (rs.drop (k + 1)) x fold := by
  have h1 : rs[k]? = some (at_ spanR rs k) := at_some spanR (i := (k : Int)) (by omega) (by omega)
  have h2 : rs.drop k = at_ spanR rs k :: rs.drop (k + 1) := by
    rw [List.drop_eq_getElem_cons h]
    rw [List.getElem?_eq_getElem h] at h1
    injection h1 with h1
    rw [h1]
  rw [h2]
  unfold hits
  rw [List.any_cons]
  split
  · rename_i h3; simp [h3.1, h3.2]
  · rename_i h3
    by_cases h4 : min (smallF (at_ spanR rs k).lo fold) (smallF (at_ spanR rs k).hi fold) ≤ x
    · have h5 : ¬ x ≤ max (smallF (at_ spanR rs k).lo fold) (smallF (at_ spanR rs k).hi fold) := fun h5 => h3 ⟨h4, h5⟩
      simp only [h4, h5, decide_true, decide_false, Bool.and_false, Bool.false_or]
    · simp only [h4, decide_false, Bool.false_and, Bool.false_or]
/-! what a class's text says, place by place -/
section
variable {s : ByteArray} {k : Nat}
theorem sp_end (h : s.size ≤ k) : spans ((ints s).drop k) = ([], 0) := by rw [drop_end s k h]; rfl
theorem sp_close (h : k < s.size) (hc : bi s k = 93) : spans ((ints s).drop k) = ([], 1) := by
  rw [drop_ints s k h, hc]
  match (ints s).drop (k + 1) with
  | [] => rfl
  | [d] => rfl
  | d :: e :: r => rfl
theorem sp_esc (h : k + 1 < s.size) (hc : bi s k = 92) : spans ((ints s).drop k) = (⟨bi s (k + 1 : Nat), bi s (k + 1 : Nat)⟩ :: (spans ((ints s).drop (k + 2))).1, (spans ((ints s).drop (k + 2))).2 + 2) := by
  rw [drop_ints s k (by omega), drop_ints s (k + 1) h, hc]
  match (ints s).drop (k + 1 + 1) with
  | [] => rfl
  | e :: r => rfl
theorem sp_range (h : k + 2 < s.size) (hc : bi s k ≠ 93) (hc' : bi s k ≠ 92) (hd : bi s (k + 1 : Nat) = 45) :
    spans ((ints s).drop k) = (⟨min (bi s k) (bi s (k + 2 : Nat)), max (bi s k) (bi s (k + 2 : Nat))⟩ :: (spans ((ints s).drop (k + 3))).1, (spans ((ints s).drop (k + 3))).2 + 3) := by
  rw [drop_ints s k (by omega), drop_ints s (k + 1) (by omega), drop_ints s (k + 2) h, hd]
  conv => lhs; unfold spans
  rw [if_neg hc, if_neg hc', if_pos rfl]
theorem sp_one (h : k < s.size) (hc : bi s k ≠ 93) (hc' : bi s k = 92 → ¬ k + 1 < s.size) (hd : k + 2 < s.size → bi s (k + 1 : Nat) ≠ 45) :
    spans ((ints s).drop k) = (⟨bi s k, bi s k⟩ :: (spans ((ints s).drop (k + 1))).1, (spans ((ints s).drop (k + 1))).2 + 1) := by
  rw [drop_ints s k h]
  by_cases h1 : k + 1 < s.size
  · have hne : bi s k ≠ 92 := fun e => hc' e h1
    rw [drop_ints s (k + 1) h1]
    by_cases h2 : k + 2 < s.size
    · rw [drop_ints s (k + 2) h2]
      conv => lhs; unfold spans
      rw [if_neg hc, if_neg hne, if_neg (hd h2)]
    · rw [drop_end s (k + 2) (by omega)]
      conv => lhs; unfold spans
      rw [if_neg hc, if_neg hne]
  · rw [drop_end s (k + 1) (by omega)]
    conv => lhs; unfold spans
    rw [if_neg hc]
    rfl
theorem cls_at (neg : Bool) (i : Nat) (h : (neg = true ∧ i = 1 ∧ 0 < s.size ∧ bi s 0 = 94) ∨ (neg = false ∧ i = 0 ∧ (0 < s.size → bi s 0 ≠ 94))) :
    cls (ints s) = (⟨4, 0, neg, (spans ((ints s).drop i)).1⟩, (spans ((ints s).drop i)).2 + i) := by
  rcases h with ⟨rfl, rfl, hs, hb⟩ | ⟨rfl, rfl, hb⟩
  · have := drop_ints s 0 hs
    rw [List.drop_zero] at this
    rw [this, show bi s (0 : Nat) = 94 from hb]
    rfl
  · rw [List.drop_zero]
    by_cases hs : 0 < s.size
    · have h1 := drop_ints s 0 hs
      rw [List.drop_zero] at h1
      have h2 : bi s (0 : Nat) ≠ 94 := hb hs
      rw [h1]
      unfold cls
      split
      · rename_i r e; injection e with e1 _; exact absurd e1 h2
      · rfl
    · have h1 := drop_end s 0 (by omega)
      rw [List.drop_zero] at h1
      rw [h1]; rfl
end
/-! what a pattern's text says, place by place -/
section
variable {s : ByteArray} {k : Nat}
theorem ps_nil : parse [] = [] := by unfold parse; rfl
theorem ps_cons (c : Int) (r : List Int) : parse (c :: r) = if c = 42 then ⟨1, 0, false, []⟩ :: parse r else if c = 63 then ⟨2, 0, false, []⟩ :: parse r
    else if c = 91 then (cls r).1 :: parse (r.drop (cls r).2)
    else if c = 92 then match r with
      | [] => [⟨3, 92, false, []⟩]
      | d :: r' => ⟨3, d, false, []⟩ :: parse r'
    else ⟨3, c, false, []⟩ :: parse r := by conv => lhs; unfold parse
theorem ps_end (h : s.size ≤ k) : parse ((ints s).drop k) = [] := by rw [drop_end s k h, ps_nil]
theorem ps_any (h : k < s.size) (hc : bi s k = 42) : parse ((ints s).drop k) = ⟨1, 0, false, []⟩ :: parse ((ints s).drop (k + 1)) := by
  rw [drop_ints s k h, ps_cons, if_pos hc]
theorem ps_one (h : k < s.size) (hc : bi s k = 63) : parse ((ints s).drop k) = ⟨2, 0, false, []⟩ :: parse ((ints s).drop (k + 1)) := by
  rw [drop_ints s k h, ps_cons, if_neg (by omega), if_pos hc]
theorem ps_cls (h : k < s.size) (hc : bi s k = 91) : parse ((ints s).drop k) = (cls ((ints s).drop (k + 1))).1 :: parse ((ints s).drop (k + 1 + (cls ((ints s).drop (k + 1))).2)) := by
  rw [drop_ints s k h, ps_cons, if_neg (by omega), if_neg (by omega), if_pos hc, List.drop_drop]
theorem ps_esc (h : k + 1 < s.size) (hc : bi s k = 92) : parse ((ints s).drop k) = ⟨3, bi s ((k : Int) + 1), false, []⟩ :: parse ((ints s).drop (k + 2)) := by
  rw [drop_ints s k (by omega), ps_cons, if_neg (by omega), if_neg (by omega), if_neg (by omega), if_pos hc, drop_ints s (k + 1) h]
  rfl
theorem ps_byte (h : k < s.size) (h1 : bi s k ≠ 42) (h2 : bi s k ≠ 63) (h3 : bi s k ≠ 91) (h4 : bi s k = 92 → ¬ k + 1 < s.size) : parse ((ints s).drop k) = ⟨3, bi s k, false, []⟩ :: parse ((ints s).drop (k + 1)) := by
  rw [drop_ints s k h, ps_cons, if_neg h1, if_neg h2, if_neg h3]
  by_cases h5 : bi s k = 92
  · rw [if_pos h5, drop_end s (k + 1) (by have := h4 h5; omega), h5, ps_nil]
  · rw [if_neg h5]
theorem ints_from (s : ByteArray) (k : Nat) : ints (s.extract ((k : Int) + 1).toNat ((s.size : Int)).toNat) = (ints s).drop (k + 1) := by
  rw [ints_extract, List.take_of_length_le (by rw [List.length_drop, ints_length]; omega)]
  congr 1
end
/-! the reference's rows: which beginnings of a text do the first parts match? -/
def dp (fold : Bool) (l : List Glob) (s : ByteArray) : Nat → Nat → Bool
  | 0, j => decide (j = 0)
  | i + 1, 0 => decide ((at_ globR l i).kind = 1) && dp fold l s i 0
  | i + 1, j + 1 => if (at_ globR l i).kind = 1 then dp fold l s i (j + 1) || dp fold l s (i + 1) j else dp fold l s i j && oneB (at_ globR l i) (bi s j) fold
  termination_by i j => (i, j)
theorem dp_step (fold : Bool) (l : List Glob) (s : ByteArray) (i k : Nat) : dp fold l s (i + 1) k = if (at_ globR l i).kind = 1 then dp fold l s i k || (decide (0 < k) && dp fold l s (i + 1) ((k : Int) - 1).toNat)
    else decide (0 < k) && (dp fold l s i ((k : Int) - 1).toNat && oneB (at_ globR l i) (bi s ((k : Int) - 1)) fold) := by
  cases k with
  | zero => rw [dp]; split <;> simp_all
  | succ k =>
    rw [dp]
    rw [show (((k + 1 : Nat) : Int) - 1) = (k : Int) by omega]
    simp
theorem row_step {f : Nat → Bool} {ns : List Bool} {k : Nat} {v : Bool} (h : ∀ j, j < k → ns.getD j false = f j) (hk : k < ns.length) (hv : v = f k) : ∀ j, j < k + 1 → (ns.set (k : Int).toNat v).getD j false = f j := by
  intro j hj
  rw [Int.toNat_natCast]
  by_cases he : j = k
  · subst he; simp [List.getD_eq_getElem?_getD, List.getElem?_set, hk, hv]
  · have := h j (by omega)
    rw [List.getD_eq_getElem?_getD] at this ⊢
    rw [List.getElem?_set_ne (fun e => he e.symm)]; exact this
end Go.Proofs.Ytmlohijidjbbjaa
