/- What stands under a key: what was last put there. -/
import Derived.Test.YtalhmegjomfbaaaTabW
namespace Go.V
set_option linter.unusedVariables false
set_option linter.unusedSimpArgs false
section
variable {α : Type} {T : Tb α} {seed : Nat}
/-- The values under a key, in a bucket; in a row; in a table. -/
def vl (k : ByteArray) (l : List (ByteArray × α)) : List α := l.filterMap fun x => if x.1 = k then some x.2 else none
def va (seed : Nat) (a : List (List (ByteArray × α))) (k : ByteArray) : List α := vl k (a.getD (bkt seed a.length k) [])
def vt (T : Tb α) (k : ByteArray) : List α := va T.seed T.a k ++ va T.seed T.b k
theorem bktlt (seed : Nat) {n : Nat} (h : 0 < n) (k : ByteArray) : bkt seed n k < n := Nat.mod_lt _ h
theorem vl_app (k : ByteArray) (l m : List (ByteArray × α)) : vl k (l ++ m) = vl k l ++ vl k m := List.filterMap_append
theorem vl_one (k : ByteArray) (x : ByteArray × α) : vl k [x] = if x.1 = k then [x.2] else [] := by
  unfold vl
  by_cases h : x.1 = k
  · simp [h]
  · simp [h]
theorem vl_cons (k : ByteArray) (x : ByteArray × α) (l : List (ByteArray × α)) : vl k (x :: l) = (if x.1 = k then [x.2] else []) ++ vl k l := by
  rw [← List.singleton_append, vl_app, vl_one]
def placed (seed : Nat) (a : List (List (ByteArray × α))) : Prop := ∀ i, ∀ x ∈ a.getD i [], bkt seed a.length x.1 = i
theorem vl_none {k : ByteArray} {l : List (ByteArray × α)} (h : ∀ x ∈ l, x.1 ≠ k) : vl k l = [] := by
  induction l with
  | nil => rfl
  | cons x l ih => rw [vl_cons, if_neg (h x (List.mem_cons_self ..)), ih fun y hy => h y (List.mem_cons_of_mem _ hy)]; rfl
theorem ix_some {k : ByteArray} {l : List (ByteArray × α)} (h : ixI l k ≥ 0) : ∃ p x q, l = p ++ x :: q ∧ x.1 = k ∧ (ixI l k).toNat = p.length := by
  unfold ixI at h ⊢
  by_cases hlt : l.findIdx (fun x => decide (x.1 = k)) < l.length
  · rw [if_pos hlt]
    refine ⟨l.take (l.findIdx fun x => decide (x.1 = k)), l[l.findIdx fun x => decide (x.1 = k)], l.drop (l.findIdx (fun x => decide (x.1 = k)) + 1), ?_, ?_, ?_⟩
    · rw [List.getElem_cons_drop, List.take_append_drop]
    · have := List.findIdx_getElem (w := hlt); simpa using this
    · rw [List.length_take, Int.toNat_natCast]; omega
  · rw [if_neg hlt] at h; omega
theorem ix_none {k : ByteArray} {l : List (ByteArray × α)} (h : ¬ ixI l k ≥ 0) : vl k l = [] := by
  refine vl_none fun x hx he => h ?_
  unfold ixI
  have : l.findIdx (fun x => decide (x.1 = k)) < l.length := List.findIdx_lt_length_of_exists ⟨x, hx, by simpa using he⟩
  rw [if_pos this]; omega
theorem find_ab (T : Tb α) (k : ByteArray) : (ixI (T.a.getD (bkt T.seed T.a.length k) []) k ≥ 0 ∧ findT T k = ((0, (bkt T.seed T.a.length k : Int), ixI (T.a.getD (bkt T.seed T.a.length k) []) k), true)) ∨
    (¬ ixI (T.a.getD (bkt T.seed T.a.length k) []) k ≥ 0 ∧ ixI (T.b.getD (bkt T.seed T.b.length k) []) k ≥ 0 ∧ findT T k = ((1, (bkt T.seed T.b.length k : Int), ixI (T.b.getD (bkt T.seed T.b.length k) []) k), true)) ∨
    (¬ ixI (T.a.getD (bkt T.seed T.a.length k) []) k ≥ 0 ∧ ¬ ixI (T.b.getD (bkt T.seed T.b.length k) []) k ≥ 0 ∧ findT T k = ((0, 0, 0), false)) := by
  unfold findT
  by_cases h1 : ixI (T.a.getD (bkt T.seed T.a.length k) []) k ≥ 0
  · exact .inl ⟨h1, if_pos h1⟩
  rw [if_neg h1]
  by_cases h2 : ixI (T.b.getD (bkt T.seed T.b.length k) []) k ≥ 0
  · refine .inr (.inl ⟨h1, h2, if_pos ⟨fun hb => ?_, h2⟩⟩)
    rw [List.eq_nil_of_length_eq_zero hb] at h2
    simp [ixI] at h2
  · exact .inr (.inr ⟨h1, h2, if_neg fun h => h2 h.2⟩)
theorem getD_mid {p q : List (ByteArray × α)} {x z : ByteArray × α} {i : Nat} (h : i = p.length) : (p ++ x :: q).getD i z = x := by
  subst h; rw [List.getD_eq_getElem?_getD, List.getElem?_append_right (by omega)]; simp
theorem look_vt (d : α) (T : Tb α) (k : ByteArray) : lookT d T k = match vt T k with
    | [] => (d, false)
    | v :: _ => (v, true) := by
  unfold lookT vt va
  rcases find_ab T k with ⟨h1, hf⟩ | ⟨h1, h2, hf⟩ | ⟨h1, h2, hf⟩
  · obtain ⟨p, x, q, hl, hk, hi⟩ := ix_some h1
    have hp : (bkt T.seed T.a.length k : Int).toNat = bkt T.seed T.a.length k := rfl
    have hv : vl k (T.a.getD (bkt T.seed T.a.length k) []) ≠ [] := by rw [hl, vl_app, vl_cons, if_pos hk]; simp
    have hnone : vl k p = [] := by
      refine vl_none fun y hy he => ?_
      obtain ⟨j, hj, hjy⟩ := List.mem_iff_getElem.1 hy
      have hlt : ixI (T.a.getD (bkt T.seed T.a.length k) []) k = (p.length : Int) := by omega
      unfold ixI at hlt
      split at hlt
      · have := List.not_of_lt_findIdx (p := fun x : ByteArray × α => decide (x.1 = k)) (xs := T.a.getD (bkt T.seed T.a.length k) []) (i := j) (by omega)
        rw [List.getElem_of_eq hl, List.getElem_append_left hj, hjy] at this
        simp [he] at this
      · omega
    rw [hf, if_pos rfl]
    simp only [if_true, hp]
    rw [hl] at hi ⊢
    rw [getD_mid hi, vl_app, vl_cons, if_pos hk, hnone]; rfl
  · obtain ⟨p, x, q, hl, hk, hi⟩ := ix_some h2
    have hp : (bkt T.seed T.b.length k : Int).toNat = bkt T.seed T.b.length k := rfl
    have hnone : vl k p = [] := by
      refine vl_none fun y hy he => ?_
      obtain ⟨j, hj, hjy⟩ := List.mem_iff_getElem.1 hy
      have hlt : ixI (T.b.getD (bkt T.seed T.b.length k) []) k = (p.length : Int) := by omega
      unfold ixI at hlt
      split at hlt
      · have := List.not_of_lt_findIdx (p := fun x : ByteArray × α => decide (x.1 = k)) (xs := T.b.getD (bkt T.seed T.b.length k) []) (i := j) (by omega)
        rw [List.getElem_of_eq hl, List.getElem_append_left hj, hjy] at this
        simp [he] at this
      · omega
    rw [hf, if_pos rfl, ix_none h1]
    simp only [if_neg (show ¬ (1 : Int) = 0 by decide), hp]
    rw [hl] at hi ⊢
    rw [getD_mid hi, vl_app, vl_cons, if_pos hk, hnone]; rfl
  · rw [hf, if_neg (by simp), ix_none h1, ix_none h2]; rfl
/-- Every key stands in its bucket, once. -/
structure Tb.Wf (T : Tb α) : Prop where
  pa : placed T.seed T.a
  pb : placed T.seed T.b
  un : ∀ k, (vt T k).length ≤ 1
theorem placed_nil (n : Nat) : placed seed (List.replicate n ([] : List (ByteArray × α))) := by
  intro i x hx
  have : (List.replicate n ([] : List (ByteArray × α))).getD i [] = [] := by rw [List.getD_eq_getElem?_getD, List.getElem?_replicate]; split <;> rfl
  rw [this] at hx; cases hx
theorem va_nil (n : Nat) (k : ByteArray) : va seed (List.replicate n ([] : List (ByteArray × α))) k = [] := by
  unfold va
  have : (List.replicate n ([] : List (ByteArray × α))).getD (bkt seed (List.replicate n ([] : List (ByteArray × α))).length k) [] = [] := by rw [List.getD_eq_getElem?_getD, List.getElem?_replicate]; split <;> rfl
  rw [this]; rfl
theorem va_nil0 (k : ByteArray) : va seed ([] : List (List (ByteArray × α))) k = [] := va_nil 0 k
theorem newT_wf (s : Nat) : (newT s : Tb α).Wf := ⟨placed_nil 4, placed_nil 0, fun k => by
  have : vt (newT s : Tb α) k = [] := by unfold vt newT; rw [va_nil, va_nil0]; rfl
  rw [this]; exact Nat.zero_le _⟩
theorem putB_placed {b : List (List (ByteArray × α))} (h : placed seed b) (hb : 0 < b.length) (x : ByteArray × α) : placed seed (putB seed b x) := by
  intro i y hy
  rw [putB_length]
  unfold putB at hy
  by_cases hi : bkt seed b.length x.1 = i
  · subst hi
    rw [getD_set_self (bktlt _ hb _)] at hy
    rcases List.mem_append.1 hy with hy | hy
    · exact h _ y hy
    · rw [List.mem_singleton.1 hy]
  · rw [Go.V.getD_set_ne hi] at hy; exact h i y hy
theorem putB_va {b : List (List (ByteArray × α))} (hb : 0 < b.length) (x : ByteArray × α) (k : ByteArray) : va seed (putB seed b x) k = va seed b k ++ vl k [x] := by
  unfold va
  rw [putB_length]
  unfold putB
  by_cases hi : bkt seed b.length x.1 = bkt seed b.length k
  · rw [hi, getD_set_self (bktlt _ hb _), vl_app]
  · rw [Go.V.getD_set_ne hi, vl_one, if_neg (fun h => hi (by rw [h])), List.append_nil]
theorem putBs_va : ∀ (m : List (ByteArray × α)) {b : List (List (ByteArray × α))}, 0 < b.length → ∀ k, va seed (m.foldl (putB seed) b) k = va seed b k ++ vl k m
  | [], b, hb, k => by simp [vl]
  | x :: m, b, hb, k => by rw [List.foldl_cons, putBs_va m (by rw [putB_length]; exact hb), putB_va hb, List.append_assoc, ← vl_app]; rfl
theorem putBs_placed : ∀ (m : List (ByteArray × α)) {b : List (List (ByteArray × α))}, 0 < b.length → placed seed b → placed seed (m.foldl (putB seed) b)
  | [], b, hb, h => h
  | x :: m, b, hb, h => putBs_placed m (by rw [putB_length]; exact hb) (putB_placed h hb x)
theorem placed_set {a : List (List (ByteArray × α))} (h : placed seed a) (i : Nat) {y : List (ByteArray × α)} (hy : ∀ x ∈ y, bkt seed a.length x.1 = i) : placed seed (a.set i y) := by
  intro j x hx
  rw [List.length_set]
  by_cases hj : i = j
  · subst hj
    rcases Nat.lt_or_ge i a.length with hl | hl
    · rw [getD_set_self hl] at hx; exact hy x hx
    · rw [List.set_eq_of_length_le hl] at hx; exact h i x hx
  · rw [Go.V.getD_set_ne hj] at hx; exact h j x hx
theorem va_set {a : List (List (ByteArray × α))} (i : Nat) (y : List (ByteArray × α)) (hi : i < a.length) (k : ByteArray) : va seed (a.set i y) k = if bkt seed a.length k = i then vl k y else va seed a k := by
  unfold va
  rw [List.length_set]
  split
  · rename_i h; rw [h, getD_set_self hi]
  · rename_i h; rw [Go.V.getD_set_ne (fun e => h e.symm)]
theorem comm1 {l m : List α} (h : (l ++ m).length ≤ 1) : m ++ l = l ++ m := by
  cases l with
  | nil => simp
  | cons x l =>
    cases m with
    | nil => simp
    | cons y m => simp at h
theorem movedT_vt (hw : T.Wf) (h : T.Ok) (hb : T.b.length ≠ 0) (k : ByteArray) : vt (movedT T) k = vt T k := by
  have hmv := h.mv hb
  show va T.seed (T.a.set T.moved []) k ++ va T.seed ((T.a.getD T.moved []).foldl (putB T.seed) T.b) k = _
  rw [va_set _ _ hmv, putBs_va _ (by omega)]
  have hun := hw.un k
  by_cases hk : bkt T.seed T.a.length k = T.moved
  · rw [if_pos hk]
    have hva : va T.seed T.a k = vl k (T.a.getD T.moved []) := by unfold va; rw [hk]
    unfold vt at hun ⊢
    rw [hva] at hun ⊢
    show [] ++ _ = _
    rw [List.nil_append, comm1 hun]
  · rw [if_neg hk, vl_none (l := T.a.getD T.moved []) (fun x hx he => hk (by rw [← he]; exact hw.pa _ x hx)), List.append_nil]
    rfl
theorem movedT_placed (hw : T.Wf) (hb : T.b.length ≠ 0) : placed T.seed (movedT T).a ∧ placed T.seed (movedT T).b :=
  ⟨placed_set hw.pa _ (fun x hx => by cases hx), putBs_placed _ (by omega) hw.pb⟩
theorem tbStep_seed (T : Tb α) : (tbStep T).seed = T.seed := by
  unfold tbStep
  split
  · rfl
  · split
    · rfl
    · split <;> rfl
theorem tbStep_vt (hw : T.Wf) (h : T.Ok) (hm : T.Mv) : (tbStep T).Wf ∧ ∀ k, vt (tbStep T) k = vt T k := by
  have key : (∀ k, vt (tbStep T) k = vt T k) ∧ placed T.seed (tbStep T).a ∧ placed T.seed (tbStep T).b := by
    unfold tbStep
    by_cases hb : T.b.length = 0
    · rw [if_pos hb]; exact ⟨fun _ => rfl, hw.pa, hw.pb⟩
    rw [if_neg hb]
    obtain ⟨p1, p2⟩ := movedT_placed hw hb
    have hv := movedT_vt hw h hb
    by_cases hl : T.moved + 1 < T.a.length
    · rw [if_pos hl]; exact ⟨hv, p1, p2⟩
    rw [if_neg hl]
    have hmv := h.mv hb
    have hz : ∀ k, va T.seed (movedT T).a k = [] := fun k => by
      have hlt := Nat.mod_lt (hashN T.seed k) h.pa
      show va T.seed (T.a.set T.moved []) k = []
      rw [va_set _ _ hmv]
      split
      · rfl
      · rename_i hne
        unfold va
        have hlt2 : bkt T.seed T.a.length k < T.a.length := hlt
        rw [hm _ (by omega)]; rfl
    have hs : ∀ k, vt (swapT (movedT T)) k = vt T k := fun k => by
      rw [← hv k]
      unfold vt
      show va T.seed (movedT T).b k ++ va T.seed [] k = va T.seed (movedT T).a k ++ va T.seed (movedT T).b k
      rw [hz, va_nil0]; simp
    split
    · refine ⟨fun k => ?_, p2, placed_nil _⟩
      rw [← hs k]
      show va T.seed (movedT T).b k ++ va T.seed (List.replicate _ []) k = va T.seed (movedT T).b k ++ va T.seed [] k
      rw [va_nil, va_nil0]
    · exact ⟨hs, p2, placed_nil 0⟩
  refine ⟨⟨by rw [tbStep_seed]; exact key.2.1, by rw [tbStep_seed]; exact key.2.2, fun k => by rw [key.1 k]; exact hw.un k⟩, key.1⟩
theorem start_vt (hb : T.b = []) (n : Nat) (k : ByteArray) : vt (startT T n) k = vt T k := by
  unfold vt
  show va T.seed T.a k ++ va T.seed (List.replicate n []) k = va T.seed T.a k ++ va T.seed T.b k
  rw [hb, va_nil, va_nil0]
theorem start_wf (hw : T.Wf) (hb : T.b = []) (n : Nat) : (startT T n).Wf := ⟨hw.pa, placed_nil n, fun k => by rw [start_vt hb]; exact hw.un k⟩
/-- A bucket with one value under k, at p.length. -/
theorem mid_nil {k : ByteArray} {p q : List (ByteArray × α)} {x : ByteArray × α} (hk : x.1 = k) (h : (vl k (p ++ x :: q)).length ≤ 1) : vl k p = [] ∧ vl k q = [] := by
  rw [vl_app, vl_cons, if_pos hk] at h
  simp at h
  exact ⟨List.eq_nil_of_length_eq_zero (by omega), List.eq_nil_of_length_eq_zero (by omega)⟩
theorem vl_mid {k k' : ByteArray} {p q : List (ByteArray × α)} {x : ByteArray × α} (hk : x.1 = k) (hne : k' ≠ k) : vl k' (p ++ x :: q) = vl k' (p ++ q) := by
  rw [vl_app, vl_cons, if_neg (by rw [hk]; exact fun e => hne e.symm), vl_app]; rfl
theorem modify_mid {p q : List (ByteArray × α)} {x : ByteArray × α} {f : ByteArray × α → ByteArray × α} {j : Nat} (h : j = p.length) : (p ++ x :: q).modify j f = p ++ f x :: q := by
  subst h
  apply List.ext_getElem?
  intro i
  rw [List.getElem?_modify]
  rcases Nat.lt_trichotomy i p.length with hi | hi | hi
  · rw [List.getElem?_append_left hi, List.getElem?_append_left hi]
    cases p[i]? <;> simp [show ¬ p.length = i by omega]
  · subst hi; simp
  · rw [List.getElem?_append_right (by omega), List.getElem?_append_right (by omega)]
    obtain ⟨m, hm⟩ : ∃ m, i - p.length = m + 1 := ⟨i - p.length - 1, by omega⟩
    rw [hm, List.getElem?_cons_succ, List.getElem?_cons_succ]
    cases q[m]? <;> simp [show ¬ p.length = i by omega]
theorem erase_mid {p q : List (ByteArray × α)} {x : ByteArray × α} {j : Nat} (h : j = p.length) : (p ++ x :: q).eraseIdx j = p ++ q := by
  subst h
  rw [List.eraseIdx_append_of_length_le (Nat.le_refl _), Nat.sub_self]; rfl
/-- A row whose bucket of k holds it: with another value; without it. -/
theorem row_turn {a : List (List (ByteArray × α))} {k : ByteArray} (hp : placed seed a) (ha : 0 < a.length) (h1 : (va seed a k).length ≤ 1) (hx : ixI (a.getD (bkt seed a.length k) []) k ≥ 0) (v : α) :
    (placed seed (setV a (bkt seed a.length k) (ixI (a.getD (bkt seed a.length k) []) k).toNat v) ∧ ∀ k', va seed (setV a (bkt seed a.length k) (ixI (a.getD (bkt seed a.length k) []) k).toNat v) k' = if k' = k then [v] else va seed a k') ∧
    (placed seed (rmV a (bkt seed a.length k) (ixI (a.getD (bkt seed a.length k) []) k).toNat) ∧ ∀ k', va seed (rmV a (bkt seed a.length k) (ixI (a.getD (bkt seed a.length k) []) k).toNat) k' = if k' = k then [] else va seed a k') := by
  have hlt : bkt seed a.length k < a.length := Nat.mod_lt _ ha
  obtain ⟨p, x, q, hl, hk, hi⟩ := ix_some hx
  have hpl := hp (bkt seed a.length k)
  unfold va at h1
  rw [hl] at h1 hpl
  obtain ⟨z1, z2⟩ := mid_nil hk h1
  unfold setV rmV
  rw [hl] at hi
  rw [hl, modify_mid hi, erase_mid hi]
  refine ⟨⟨placed_set hp _ fun y hy => ?_, fun k' => ?_⟩, ⟨placed_set hp _ fun y hy => ?_, fun k' => ?_⟩⟩
  · rcases List.mem_append.1 hy with hy | hy
    · exact hpl y (List.mem_append_left _ hy)
    · rcases List.mem_cons.1 hy with rfl | hy
      · exact hpl x (List.mem_append_right _ (List.mem_cons_self ..))
      · exact hpl y (List.mem_append_right _ (List.mem_cons_of_mem _ hy))
  · rw [va_set _ _ hlt]
    by_cases he : k' = k
    · subst he
      rw [if_pos rfl, if_pos rfl, vl_app, vl_cons, if_pos hk, z1, z2]; rfl
    · rw [if_neg he]
      split
      · rename_i hbk
        unfold va
        rw [hbk, hl, vl_mid hk he, vl_mid (x := (x.1, v)) hk he]
      · rfl
  · rcases List.mem_append.1 hy with hy | hy
    · exact hpl y (List.mem_append_left _ hy)
    · exact hpl y (List.mem_append_right _ (List.mem_cons_of_mem _ hy))
  · rw [va_set _ _ hlt]
    by_cases he : k' = k
    · subst he
      rw [if_pos rfl, if_pos rfl, vl_app, z1, z2]; rfl
    · rw [if_neg he]
      split
      · rename_i hbk
        unfold va
        rw [hbk, hl, vl_mid hk he]
      · rfl
theorem un_of {T' : Tb α} (pa : placed T'.seed T'.a) (pb : placed T'.seed T'.b) {k : ByteArray} {l : List α} (hl : l.length ≤ 1) (hw : T.Wf) (h : ∀ k', vt T' k' = if k' = k then l else vt T k') : T'.Wf :=
  ⟨pa, pb, fun k' => by rw [h k']; split <;> first | exact hl | exact hw.un k'⟩
theorem len_ab (hw : T.Wf) (k : ByteArray) : (va T.seed T.a k).length ≤ 1 ∧ (va T.seed T.b k).length ≤ 1 ∧ (va T.seed T.a k ≠ [] → va T.seed T.b k = []) := by
  have := hw.un k
  unfold vt at this
  rw [List.length_append] at this
  refine ⟨by omega, by omega, fun h => List.eq_nil_of_length_eq_zero ?_⟩
  have : 0 < (va T.seed T.a k).length := List.length_pos_iff.2 h
  omega
theorem ix_ne {k : ByteArray} {l : List (ByteArray × α)} (h : ixI l k ≥ 0) : vl k l ≠ [] := by
  obtain ⟨p, x, q, hl, hk, _⟩ := ix_some h
  rw [hl, vl_app, vl_cons, if_pos hk]; simp
theorem put_vt (hw : T.Wf) (h : T.Ok) (k : ByteArray) (v : α) : (put1T T k v).Wf ∧ ∀ k', vt (put1T T k v) k' = if k' = k then [v] else vt T k' := by
  obtain ⟨l1, l2, l3⟩ := len_ab hw k
  unfold put1T
  rcases find_ab T k with ⟨h1, hf⟩ | ⟨h1, h2, hf⟩ | ⟨h1, h2, hf⟩
  · rw [hf, if_pos rfl]
    unfold updT
    rw [hf, if_pos rfl]
    obtain ⟨q1, q2⟩ := (row_turn hw.pa h.pa l1 h1 v).1
    have hz := l3 (ix_ne h1)
    have key : ∀ k', vt ({ T with a := setV T.a (bkt T.seed T.a.length k) (ixI (T.a.getD (bkt T.seed T.a.length k) []) k).toNat v } : Tb α) k' = if k' = k then [v] else vt T k' := fun k' => by
      show va T.seed _ k' ++ va T.seed T.b k' = _
      rw [q2 k']
      split
      · rename_i he; rw [he, hz]; rfl
      · rfl
    exact ⟨un_of q1 hw.pb (k := k) (l := [v]) (Nat.le_refl _) hw key, key⟩
  · rw [hf, if_pos rfl]
    unfold updT
    rw [hf, if_neg (show ¬ (1 : Int) = 0 by decide)]
    have hb : 0 < T.b.length := by
      rcases Nat.eq_zero_or_pos T.b.length with h0 | h0
      · rw [List.eq_nil_of_length_eq_zero h0] at h2; simp [ixI] at h2
      · exact h0
    obtain ⟨q1, q2⟩ := (row_turn hw.pb hb l2 h2 v).1
    have key : ∀ k', vt ({ T with b := setV T.b (bkt T.seed T.b.length k) (ixI (T.b.getD (bkt T.seed T.b.length k) []) k).toNat v } : Tb α) k' = if k' = k then [v] else vt T k' := fun k' => by
      show va T.seed T.a k' ++ va T.seed _ k' = _
      rw [q2 k']
      split
      · rename_i he
        have : va T.seed T.a k = [] := ix_none h1
        rw [he, this]; rfl
      · rfl
    exact ⟨un_of hw.pa q1 (k := k) (l := [v]) (Nat.le_refl _) hw key, key⟩
  · rw [hf, if_neg (by simp)]
    have z1 : va T.seed T.a k = [] := ix_none h1
    have z2 : va T.seed T.b k = [] := ix_none h2
    have hone : ∀ k', vl k' [(k, v)] = if k' = k then [v] else [] := fun k' => by
      rw [vl_one]
      by_cases he : k' = k
      · rw [if_pos he, if_pos he.symm]
      · rw [if_neg he, if_neg fun e => he e.symm]
    have keyA : ∀ k', va T.seed (putB T.seed T.a (k, v)) k' ++ va T.seed T.b k' = if k' = k then [v] else vt T k' := fun k' => by
      rw [putB_va h.pa, hone]
      split
      · rename_i he; rw [he, z1, z2]; rfl
      · rw [List.append_nil]; rfl
    unfold insT
    by_cases hb : T.b.length = 0
    · rw [if_pos hb]
      have hb0 := List.eq_nil_of_length_eq_zero hb
      have hwA : ({ T with a := putB T.seed T.a (k, v), n := T.n + 1 } : Tb α).Wf := un_of (putB_placed hw.pa h.pa _) hw.pb (k := k) (l := [v]) (Nat.le_refl _) hw keyA
      split
      · exact ⟨start_wf hwA hb0 _, fun k' => by rw [start_vt (T := { T with a := putB T.seed T.a (k, v), n := T.n + 1 }) hb0]; exact keyA k'⟩
      · exact ⟨hwA, keyA⟩
    · rw [if_neg hb]
      have keyB : ∀ k', va T.seed T.a k' ++ va T.seed (putB T.seed T.b (k, v)) k' = if k' = k then [v] else vt T k' := fun k' => by
        rw [putB_va (by omega), hone]
        split
        · rename_i he; rw [he, z1, z2]; rfl
        · rw [List.append_nil]; rfl
      exact ⟨un_of hw.pa (putB_placed hw.pb (by omega) _) (k := k) (l := [v]) (Nat.le_refl _) hw keyB, keyB⟩
theorem del_vt (hw : T.Wf) (h : T.Ok) (k : ByteArray) : (del1T T k).Wf ∧ ∀ k', vt (del1T T k) k' = if k' = k then [] else vt T k' := by
  obtain ⟨l1, l2, l3⟩ := len_ab hw k
  have shr : ∀ {U : Tb α}, U.Wf → (shrT U).Wf ∧ ∀ k', vt (shrT U) k' = vt U k' := fun {U} hu => by
    unfold shrT
    split
    · rename_i hc
      have hb0 := List.eq_nil_of_length_eq_zero hc.1
      exact ⟨start_wf hu hb0 _, fun k' => start_vt hb0 _ k'⟩
    · exact ⟨hu, fun _ => rfl⟩
  unfold del1T
  rcases find_ab T k with ⟨h1, hf⟩ | ⟨h1, h2, hf⟩ | ⟨h1, h2, hf⟩
  · rw [hf, if_pos rfl]
    unfold rm1T
    rw [hf, if_pos rfl]
    obtain ⟨q1, q2⟩ := (row_turn (v := ((T.a.getD (bkt T.seed T.a.length k) []).getD (ixI (T.a.getD (bkt T.seed T.a.length k) []) k).toNat ((ix_some h1).choose_spec.choose)).2) hw.pa h.pa l1 h1).2
    have hz := l3 (ix_ne h1)
    have key : ∀ k', vt ({ T with a := rmV T.a (bkt T.seed T.a.length k) (ixI (T.a.getD (bkt T.seed T.a.length k) []) k).toNat, n := T.n - 1 } : Tb α) k' = if k' = k then [] else vt T k' := fun k' => by
      show va T.seed _ k' ++ va T.seed T.b k' = _
      rw [q2 k']
      split
      · rename_i he; rw [he, hz]; rfl
      · rfl
    have hu := un_of (T' := { T with a := rmV T.a (bkt T.seed T.a.length k) (ixI (T.a.getD (bkt T.seed T.a.length k) []) k).toNat, n := T.n - 1 }) q1 hw.pb (k := k) (l := []) (Nat.zero_le _) hw key
    exact ⟨(shr hu).1, fun k' => ((shr hu).2 k').trans (key k')⟩
  · rw [hf, if_pos rfl]
    unfold rm1T
    rw [hf, if_neg (show ¬ (1 : Int) = 0 by decide)]
    have hb : 0 < T.b.length := by
      rcases Nat.eq_zero_or_pos T.b.length with h0 | h0
      · rw [List.eq_nil_of_length_eq_zero h0] at h2; simp [ixI] at h2
      · exact h0
    obtain ⟨q1, q2⟩ := (row_turn (v := ((T.b.getD (bkt T.seed T.b.length k) []).getD (ixI (T.b.getD (bkt T.seed T.b.length k) []) k).toNat ((ix_some h2).choose_spec.choose)).2) hw.pb hb l2 h2).2
    have key : ∀ k', vt ({ T with b := rmV T.b (bkt T.seed T.b.length k) (ixI (T.b.getD (bkt T.seed T.b.length k) []) k).toNat, n := T.n - 1 } : Tb α) k' = if k' = k then [] else vt T k' := fun k' => by
      show va T.seed T.a k' ++ va T.seed _ k' = _
      rw [q2 k']
      split
      · rename_i he
        have : va T.seed T.a k = [] := ix_none h1
        rw [he, this]; rfl
      · rfl
    have hu := un_of (T' := { T with b := rmV T.b (bkt T.seed T.b.length k) (ixI (T.b.getD (bkt T.seed T.b.length k) []) k).toNat, n := T.n - 1 }) hw.pa q1 (k := k) (l := []) (Nat.zero_le _) hw key
    exact ⟨(shr hu).1, fun k' => ((shr hu).2 k').trans (key k')⟩
  · rw [hf, if_neg (by simp)]
    have z1 : va T.seed T.a k = [] := ix_none h1
    have z2 : va T.seed T.b k = [] := ix_none h2
    refine ⟨hw, fun k' => ?_⟩
    split
    · rename_i he; rw [he]; unfold vt; rw [z1, z2]; rfl
    · rfl
theorem putT_vt (hw : T.Wf) (h : T.Ok) (hm : T.Mv) (k : ByteArray) (v : α) : (putT T k v).Wf ∧ ∀ k', vt (putT T k v) k' = if k' = k then [v] else vt T k' := by
  obtain ⟨w1, e1⟩ := tbStep_vt hw h hm
  obtain ⟨w2, e2⟩ := put_vt w1 (tbStep_ok h hm).1 k v
  exact ⟨w2, fun k' => by rw [show putT T k v = put1T (tbStep T) k v from rfl, e2 k', e1 k']⟩
theorem delT_vt (hw : T.Wf) (h : T.Ok) (hm : T.Mv) (k : ByteArray) : (delT T k).Wf ∧ ∀ k', vt (delT T k) k' = if k' = k then [] else vt T k' := by
  obtain ⟨w1, e1⟩ := tbStep_vt hw h hm
  obtain ⟨w2, e2⟩ := del_vt w1 (tbStep_ok h hm).1 k
  exact ⟨w2, fun k' => by rw [show delT T k = del1T (tbStep T) k from rfl, e2 k', e1 k']⟩
end
end Go.V
