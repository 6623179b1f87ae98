/- The table as data: its steps; what they keep. -/
import Derived.Test.YtalhmegjomfbaaaTab
namespace Go.V
set_option linter.unusedVariables false
set_option linter.unusedSimpArgs false
section
variable {α : Type}
def startT (T : Tb α) (n : Nat) : Tb α := { T with b := List.replicate n [], moved := 0 }
def putB (seed : Nat) (b : List (List (ByteArray × α))) (x : ByteArray × α) : List (List (ByteArray × α)) := b.set (bkt seed b.length x.1) (b.getD (bkt seed b.length x.1) [] ++ [x])
def movedT (T : Tb α) : Tb α := { T with a := T.a.set T.moved [], b := (T.a.getD T.moved []).foldl (putB T.seed) T.b, moved := T.moved + 1 }
def swapT (T : Tb α) : Tb α := { T with a := T.b, b := [], moved := 0 }
def tbStep (T : Tb α) : Tb α :=
  if T.b.length = 0 then T
  else if T.moved + 1 < T.a.length then movedT T
  else if T.n > (movedT T).b.length then startT (swapT (movedT T)) (2 * (movedT T).b.length) else swapT (movedT T)
/-- A value anew, at a place. -/
def setV (l : List (List (ByteArray × α))) (i j : Nat) (v : α) : List (List (ByteArray × α)) := l.set i ((l.getD i []).modify j fun x => (x.1, v))
def insT (T : Tb α) (k : ByteArray) (v : α) : Tb α :=
  if T.b.length = 0 then
    if T.n + 1 > T.a.length then startT { T with a := putB T.seed T.a (k, v), n := T.n + 1 } (2 * T.a.length) else { T with a := putB T.seed T.a (k, v), n := T.n + 1 }
  else { T with b := putB T.seed T.b (k, v), n := T.n + 1 }
def updT (T : Tb α) (k : ByteArray) (v : α) : Tb α :=
  if (findT T k).1.1 = 0 then { T with a := setV T.a (findT T k).1.2.1.toNat (findT T k).1.2.2.toNat v } else { T with b := setV T.b (findT T k).1.2.1.toNat (findT T k).1.2.2.toNat v }
def put1T (T : Tb α) (k : ByteArray) (v : α) : Tb α := if (findT T k).2 = true then updT T k v else insT T k v
def putT (T : Tb α) (k : ByteArray) (v : α) : Tb α := put1T (tbStep T) k v
theorem putB_length (seed : Nat) (b : List (List (ByteArray × α))) (x : ByteArray × α) : (putB seed b x).length = b.length := by simp [putB]
theorem putBs_length (seed : Nat) : ∀ (l : List (ByteArray × α)) (b : List (List (ByteArray × α))), (l.foldl (putB seed) b).length = b.length
  | [], b => rfl
  | x :: l, b => by rw [List.foldl_cons, putBs_length seed l, putB_length]
theorem movedT_b (T : Tb α) : (movedT T).b.length = T.b.length := putBs_length _ _ _
theorem movedT_a (T : Tb α) : (movedT T).a.length = T.a.length := by simp [movedT]
/-! how many -/
theorem flat_set {β : Type} : ∀ (l : List (List β)) (i : Nat) (y : List β), i < l.length → (l.set i y).flatten.length + (l.getD i []).length = l.flatten.length + y.length
  | [], i, y, h => by simp at h
  | x :: l, 0, y, h => by simp; omega
  | x :: l, i + 1, y, h => by
    have := flat_set l i y (by simpa using h)
    simp at this ⊢
    omega
theorem flat_getD {β : Type} (l : List (List β)) (i : Nat) : (l.getD i []).length ≤ l.flatten.length := by
  rcases Nat.lt_or_ge i l.length with h | h
  · have := flat_set l i [] h
    simp at this ⊢; omega
  · rw [List.getD_eq_getElem?_getD, List.getElem?_eq_none h]; simp
theorem flat_nil {β : Type} (n : Nat) : (List.replicate n ([] : List β)).flatten.length = 0 := by simp
theorem putB_flat {seed : Nat} {b : List (List (ByteArray × α))} (h : 0 < b.length) (x : ByteArray × α) : (putB seed b x).flatten.length = b.flatten.length + 1 := by
  have := flat_set b (bkt seed b.length x.1) (b.getD (bkt seed b.length x.1) [] ++ [x]) (Nat.mod_lt _ h)
  unfold putB
  rw [List.length_append] at this
  simp at this ⊢; omega
theorem putBs_flat {seed : Nat} : ∀ (l : List (ByteArray × α)) (b : List (List (ByteArray × α))), 0 < b.length → (l.foldl (putB seed) b).flatten.length = b.flatten.length + l.length
  | [], b, h => rfl
  | x :: l, b, h => by rw [List.foldl_cons, putBs_flat l _ (by rw [putB_length]; exact h), putB_flat h, List.length_cons]; omega
theorem setV_length (l : List (List (ByteArray × α))) (i j : Nat) (v : α) : (setV l i j v).length = l.length := by simp [setV]
theorem setV_flat (l : List (List (ByteArray × α))) (i j : Nat) (v : α) : (setV l i j v).flatten.length = l.flatten.length := by
  unfold setV
  rcases Nat.lt_or_ge i l.length with h | h
  · have := flat_set l i ((l.getD i []).modify j fun x => (x.1, v)) h
    rw [List.length_modify] at this
    omega
  · rw [List.set_eq_of_length_le h]
theorem Tb.Ok.sum {T : Tb α} (h : T.Ok) : T.a.flatten.length + T.b.flatten.length = T.n := by
  have := h.cn
  rwa [List.flatten_append, List.length_append] at this
theorem Tb.Ok.bl {T : Tb α} (h : T.Ok) (i : Nat) : (T.a.getD i []).length ≤ T.n ∧ (T.b.getD i []).length ≤ T.n := by
  have := h.sum
  have := flat_getD T.a i
  have := flat_getD T.b i
  omega
theorem Tb.Ok.moved {T : Tb α} (h : T.Ok) (hb : T.b.length ≠ 0) : (movedT T).a.flatten.length + (movedT T).b.flatten.length = T.n ∧ ((movedT T).a.getD T.moved []) = [] := by
  have h1 := h.sum
  have h2 := flat_set T.a T.moved [] (h.mv hb)
  have h3 := putBs_flat (seed := T.seed) (T.a.getD T.moved []) T.b (by omega)
  refine ⟨?_, getD_set_self (h.mv hb) _ _⟩
  show (T.a.set T.moved []).flatten.length + ((T.a.getD T.moved []).foldl (putB T.seed) T.b).flatten.length = T.n
  rw [List.length_nil] at h2
  omega
/-- All keys of a row are of a length that there is. -/
def KsR (l : List (List (ByteArray × α))) : Prop := ∀ (i : Nat), ∀ x ∈ l.getD i [], x.1.size ≤ 9223372036854775807
theorem getD_nil {β : Type} {l : List (List β)} {i : Nat} (h : l.length ≤ i) : l.getD i [] = [] := by rw [List.getD_eq_getElem?_getD, List.getElem?_eq_none h]; rfl
theorem KsR.set {l : List (List (ByteArray × α))} (h : KsR l) (i : Nat) {y : List (ByteArray × α)} (hy : ∀ x ∈ y, x.1.size ≤ 9223372036854775807) : KsR (l.set i y) := by
  intro j x hx
  by_cases hj : i = j
  · subst hj
    rcases Nat.lt_or_ge i l.length with hl | hl
    · rw [getD_set_self hl] at hx; exact hy x hx
    · rw [List.set_eq_of_length_le hl] at hx; exact h i x hx
  · rw [getD_set_ne hj] at hx; exact h j x hx
theorem KsR.put {seed : Nat} {b : List (List (ByteArray × α))} (h : KsR b) {x : ByteArray × α} (hx : x.1.size ≤ 9223372036854775807) : KsR (putB seed b x) :=
  KsR.set h _ fun y hy => by
    rcases List.mem_append.1 hy with hy | hy
    · exact h _ y hy
    · rw [List.mem_singleton.1 hy]; exact hx
theorem KsR.puts {seed : Nat} : ∀ (l : List (ByteArray × α)) {b : List (List (ByteArray × α))}, KsR b → (∀ x ∈ l, x.1.size ≤ 9223372036854775807) → KsR (l.foldl (putB seed) b)
  | [], b, h, _ => h
  | x :: l, b, h, hl => KsR.puts l (h.put (hl x (List.mem_cons_self ..))) fun y hy => hl y (List.mem_cons_of_mem _ hy)
theorem KsR.nils (n : Nat) : KsR (List.replicate n ([] : List (ByteArray × α))) := by
  intro i x hx
  have : (List.replicate n ([] : List (ByteArray × α))).getD i [] = [] := by
    rw [List.getD_eq_getElem?_getD, List.getElem?_replicate]; split <;> rfl
  rw [this] at hx; cases hx
theorem KsR.setV {l : List (List (ByteArray × α))} (h : KsR l) (i j : Nat) (v : α) : KsR (setV l i j v) :=
  KsR.set h _ fun y hy => by
    obtain ⟨q, hq⟩ := List.mem_iff_getElem?.1 hy
    rw [List.getElem?_modify] at hq
    obtain ⟨z, hz, rfl⟩ := Option.map_eq_some_iff.1 hq
    have := h i z (List.mem_of_getElem? hz)
    split <;> exact this
theorem ks_at {R : Rp (ByteArray × α)} {l : List (ByteArray × α)} (h : ∀ x ∈ l, x.1.size ≤ 9223372036854775807) {i : Int} (h0 : 0 ≤ i) (h1 : i < l.length) : (at_ R l i).1.size ≤ 9223372036854775807 := h _ (List.mem_of_getElem? (at_some R h0 h1))
theorem startT_ok {T : Tb α} (h : T.Ok) (hb : T.b = []) {n : Nat} (hn : 0 < n) (hn2 : n ≤ 4398046511104) : (startT T n).Ok :=
  ⟨h.sd, h.pa, h.la, by simp [startT]; exact hn2, fun _ => h.pa, fun _ => rfl, h.nn, by
    have := h.sum
    rw [List.flatten_append, List.length_append]
    show T.a.flatten.length + (List.replicate n []).flatten.length = T.n
    rw [flat_nil]
    rw [hb] at this
    exact this, h.ks.1, KsR.nils n⟩
/-- While it moves: the buckets that were moved hold nothing. -/
def Tb.Mv (T : Tb α) : Prop := ∀ i, i < T.moved → T.a.getD i [] = []
theorem flat_zero {β : Type} : ∀ (l : List (List β)), (∀ i, l.getD i [] = []) → l.flatten.length = 0
  | [], _ => rfl
  | x :: l, h => by
    have h0 := h 0
    have := flat_zero l (fun i => by simpa using h (i + 1))
    simp at h0 ⊢
    simp at this
    exact ⟨h0, this⟩
theorem tbStep_ok {T : Tb α} (h : T.Ok) (hm : T.Mv) : (tbStep T).Ok ∧ (tbStep T).Mv := by
  unfold tbStep
  by_cases hb : T.b.length = 0
  · rw [if_pos hb]; exact ⟨h, hm⟩
  rw [if_neg hb]
  obtain ⟨h1, h2⟩ := h.moved hb
  have hmv := h.mv hb
  have hmm : ∀ i, i < T.moved + 1 → (movedT T).a.getD i [] = [] := by
    intro i hi
    by_cases he : i = T.moved
    · subst he; exact h2
    · show (T.a.set T.moved []).getD i [] = []
      rw [getD_set_ne (fun e => he e.symm)]; exact hm i (by omega)
  by_cases hl : T.moved + 1 < T.a.length
  · rw [if_pos hl]
    exact ⟨⟨h.sd, by rw [movedT_a]; exact h.pa, by rw [movedT_a]; exact h.la, by rw [movedT_b]; exact h.lb, fun _ => by rw [movedT_a]; exact hl, fun h0 => absurd (by rw [movedT_b] at h0; exact h0) hb, h.nn, by rw [List.flatten_append, List.length_append]; exact h1, KsR.set h.ks.1 _ (fun x hx => by cases hx), KsR.puts _ h.ks.2 (h.ks.1 T.moved)⟩, hmm⟩
  · rw [if_neg hl]
    have hz : (movedT T).a.flatten.length = 0 := flat_zero _ fun i => by
      rcases Nat.lt_or_ge i T.a.length with hi | hi
      · exact hmm i (by omega)
      · rw [List.getD_eq_getElem?_getD, List.getElem?_eq_none (by rw [movedT_a]; exact hi)]; rfl
    have hs : (swapT (movedT T)).Ok := ⟨h.sd, by show 0 < (movedT T).b.length; rw [movedT_b]; omega, by show (movedT T).b.length ≤ _; rw [movedT_b]; exact h.lb, by show 0 ≤ _; omega, fun h0 => absurd rfl h0, fun _ => rfl, h.nn, by
      show ((movedT T).b ++ []).flatten.length = T.n
      rw [List.append_nil]; omega, KsR.puts _ h.ks.2 (h.ks.1 T.moved), fun i x hx => by rw [getD_nil (Nat.zero_le _)] at hx; cases hx⟩
    by_cases hn : T.n > (movedT T).b.length
    · rw [if_pos hn]
      have := h.nn
      exact ⟨startT_ok hs rfl (by rw [movedT_b]; omega) (by omega), fun i hi => absurd hi (by show ¬ i < 0; omega)⟩
    · rw [if_neg hn]; exact ⟨hs, fun i hi => absurd hi (by show ¬ i < 0; omega)⟩
theorem findT_cases {T : Tb α} (h : T.Ok) (k : ByteArray) :
    (findT T k = ((0, 0, 0), false)) ∨ (∃ j : Nat, findT T k = ((0, (bkt T.seed T.a.length k : Int), (j : Int)), true) ∧ j < (T.a.getD (bkt T.seed T.a.length k) []).length) ∨
      (T.b.length ≠ 0 ∧ ∃ j : Nat, findT T k = ((1, (bkt T.seed T.b.length k : Int), (j : Int)), true) ∧ j < (T.b.getD (bkt T.seed T.b.length k) []).length) := by
  unfold findT
  have h1 := ixI_lt (T.a.getD (bkt T.seed T.a.length k) []) k
  have h2 := ixI_lt (T.b.getD (bkt T.seed T.b.length k) []) k
  split
  · refine .inr (.inl ⟨(ixI (T.a.getD (bkt T.seed T.a.length k) []) k).toNat, ?_, by omega⟩)
    rw [show (((ixI (T.a.getD (bkt T.seed T.a.length k) []) k).toNat : Nat) : Int) = ixI (T.a.getD (bkt T.seed T.a.length k) []) k by omega]
  · split
    · rename_i hb
      refine .inr (.inr ⟨hb.1, (ixI (T.b.getD (bkt T.seed T.b.length k) []) k).toNat, ?_, by omega⟩)
      rw [show (((ixI (T.b.getD (bkt T.seed T.b.length k) []) k).toNat : Nat) : Int) = ixI (T.b.getD (bkt T.seed T.b.length k) []) k by omega]
    · exact .inl rfl
theorem insT_ok {T : Tb α} (h : T.Ok) (hm : T.Mv) (hn : T.n < 1099511627776) (k : ByteArray) (hk : k.size ≤ 9223372036854775807) (v : α) : (insT T k v).Ok ∧ (insT T k v).Mv := by
  have hs := h.sum
  unfold insT
  by_cases hb : T.b.length = 0
  · rw [if_pos hb]
    have hb' : T.b = [] := List.eq_nil_of_length_eq_zero hb
    have ho : ({ T with a := putB T.seed T.a (k, v), n := T.n + 1 } : Tb α).Ok := ⟨h.sd, by show 0 < (putB _ _ _).length; rw [putB_length]; exact h.pa, by show (putB _ _ _).length ≤ _; rw [putB_length]; exact h.la, h.lb, fun h0 => absurd hb h0, fun _ => h.mz hb, by show T.n + 1 ≤ _; omega, by
      show (putB T.seed T.a (k, v) ++ T.b).flatten.length = T.n + 1
      rw [List.flatten_append, List.length_append, putB_flat h.pa]; omega, KsR.put h.ks.1 hk, h.ks.2⟩
    have hm0 := h.mz hb
    by_cases hg : T.n + 1 > T.a.length
    · rw [if_pos hg]
      exact ⟨startT_ok ho hb' (by have := h.pa; omega) (by omega), fun i hi => absurd hi (by show ¬ i < 0; omega)⟩
    · rw [if_neg hg]; exact ⟨ho, fun i hi => absurd hi (by show ¬ i < T.moved; omega)⟩
  · rw [if_neg hb]
    refine ⟨⟨h.sd, h.pa, h.la, by show (putB _ _ _).length ≤ _; rw [putB_length]; exact h.lb, fun _ => h.mv hb, fun h0 => absurd (by have h1 : (putB T.seed T.b (k, v)).length = 0 := h0; rwa [putB_length] at h1) hb, by show T.n + 1 ≤ _; omega, ?_, h.ks.1, KsR.put h.ks.2 hk⟩, hm⟩
    show (T.a ++ putB T.seed T.b (k, v)).flatten.length = T.n + 1
    rw [List.flatten_append, List.length_append, putB_flat (by omega)]; omega
theorem updT_ok {T : Tb α} (h : T.Ok) (hm : T.Mv) (k : ByteArray) (v : α) : (updT T k v).Ok ∧ (updT T k v).Mv := by
  have hs := h.sum
  unfold updT
  split
  · refine ⟨⟨h.sd, by show 0 < (setV ..).length; rw [setV_length]; exact h.pa, by show (setV ..).length ≤ _; rw [setV_length]; exact h.la, h.lb, fun h0 => by show _ < (setV ..).length; rw [setV_length]; exact h.mv h0, h.mz, h.nn, by
      show (setV .. ++ T.b).flatten.length = T.n
      rw [List.flatten_append, List.length_append, setV_flat]; omega, KsR.setV h.ks.1 _ _ v, h.ks.2⟩, fun i hi => ?_⟩
    show (setV ..).getD i [] = []
    have h0 := hm i hi
    unfold setV
    by_cases he : (findT T k).1.2.1.toNat = i
    · rcases Nat.lt_or_ge i T.a.length with hl | hl
      · rw [he, getD_set_self hl, h0]; simp
      · rw [List.getD_eq_getElem?_getD, List.getElem?_eq_none (by simpa using hl)]; rfl
    · rw [getD_set_ne he]; exact h0
  · refine ⟨⟨h.sd, h.pa, h.la, by show (setV ..).length ≤ _; rw [setV_length]; exact h.lb, fun h0 => h.mv (by have h1 : (setV ..).length ≠ 0 := h0; rwa [setV_length] at h1), fun h0 => h.mz (by have h1 : (setV ..).length = 0 := h0; rwa [setV_length] at h1), h.nn, by
      show (T.a ++ setV ..).flatten.length = T.n
      rw [List.flatten_append, List.length_append, setV_flat]; omega, h.ks.1, KsR.setV h.ks.2 _ _ v⟩, hm⟩
theorem put1T_ok {T : Tb α} (h : T.Ok) (hm : T.Mv) (hn : T.n < 1099511627776) (k : ByteArray) (hk : k.size ≤ 9223372036854775807) (v : α) : (put1T T k v).Ok ∧ (put1T T k v).Mv := by
  unfold put1T
  split
  · exact updT_ok h hm k v
  · exact insT_ok h hm hn k hk v
end
end Go.V
