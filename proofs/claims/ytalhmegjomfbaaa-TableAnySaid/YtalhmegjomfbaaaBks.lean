/- Rows of slices of one's own: each slice has a block of its own; none of them lies among the blocks that are to be avoided. -/
import Derived.Test.YtalhmegjomfbaaaTk
import Derived.Test.YtalhmegjomfbaaaRow
namespace Go.V
open Go.Base Go.RowKit
set_option linter.unusedVariables false
set_option linter.unusedSimpArgs false
abbrev idV : Value → Value := fun v => v
abbrev nilS : Value := .slice none 0 0
/-- What turned lies among P's blocks, or is new. -/
structure FrP (P : Nat → Prop) (w w' : World) : Prop where
  os : w'.os = w.os
  tape : w'.tape = w.tape
  output : w'.output = w.output
  size : w.heap.size ≤ w'.heap.size
  block : ∀ k, k < w.heap.size → ¬ P k → w'.heap[k]? = w.heap[k]?
section
variable {P P' : Nat → Prop} {w w1 w2 : World} {l : List Nat}
theorem FrP.refl (P : Nat → Prop) (w : World) : FrP P w w := ⟨rfl, rfl, rfl, Nat.le_refl _, fun _ _ _ => rfl⟩
theorem FrP.trP (h : FrP P w w1) (f : FrP P' w1 w2) (hs : ∀ k, P' k → P k ∨ w.heap.size ≤ k) : FrP P w w2 :=
  ⟨f.os.trans h.os, f.tape.trans h.tape, f.output.trans h.output, Nat.le_trans h.size f.size, fun k hk hn =>
    (f.block k (Nat.lt_of_lt_of_le hk h.size) fun hp => (hs k hp).elim hn fun h' => by omega).trans (h.block k hk hn)⟩
theorem FrP.of (f : Fr l w w1) : FrP (fun k => k ∈ l) w w1 := ⟨f.os, f.tape, f.output, f.size, fun k hk hn => f.block k hk hn⟩
theorem FrP.tr (h : FrP P w w1) (f : Fr l w1 w2) (hl : ∀ k ∈ l, P k ∨ w.heap.size ≤ k) : FrP P w w2 := h.trP (FrP.of f) hl
theorem FrP.tr1 {b : Nat} (h : FrP P w w1) (f : Fr [b] w1 w2) (hb : P b ∨ w.heap.size ≤ b) : FrP P w w2 := h.tr f fun k hk => by rw [List.mem_singleton.1 hk]; exact hb
theorem FrP.tr0 (h : FrP P w w1) (f : Fr [] w1 w2) : FrP P w w2 := h.tr f fun k hk => by cases hk
theorem FrP.mono (h : FrP P w w1) (hs : ∀ k, P k → P' k) : FrP P' w w1 := ⟨h.os, h.tape, h.output, h.size, fun k hk hn => h.block k hk fun hp => hn (hs k hp)⟩
theorem FrP.fr (h : FrP P w w1) (hn : ∀ k, P k → w.heap.size ≤ k) : Fr [] w w1 := ⟨h.os, h.tape, h.output, h.size, fun k hk _ => h.block k hk fun hp => by have := hn k hp; omega⟩
theorem _root_.Go.Base.Fr.trP {w0 : World} {l : List Nat} (h : Fr l w0 w) (f : FrP P w w1) (hs : ∀ k, P k → k ∈ l ∨ w0.heap.size ≤ k) : Fr l w0 w1 :=
  ⟨f.os.trans h.os, f.tape.trans h.tape, f.output.trans h.output, Nat.le_trans h.size f.size, fun k hk hn => (f.block k (Nat.lt_of_lt_of_le hk h.size) fun hp => (hs k hp).elim hn fun h' => by omega).trans (h.block k hk hn)⟩
theorem _root_.Go.Base.Blk.frP {b t : Nat} {cs : List Value} (h : Blk w b cs t) (f : FrP P w w1) (hb : ¬ P b) : Blk w1 b cs t := h.same (f.block b h.lt hb)
theorem SlR.frP {α : Type} {R : Rp α} {Z : Nat → Prop} {v : Value} {xs : List α} (h : SlR R Z w v xs) (f : FrP P w w1) (hz : ∀ k, Z k → ¬ P k) : SlR R Z w1 v xs :=
  h.mono (fun b hb hZ => ⟨hZ, f.block b hb (hz b hZ)⟩) f.size
theorem OwR.frP {α : Type} {R : Rp α} {base : Nat} {e : TypeId} {v : Value} {xs : List α} (h : OwR R NoZ w base e v xs) (f : FrP P w w1) (hv : ∀ b, v.ownBlock = some b → ¬ P b) : OwR R NoZ w1 base e v xs := by
  obtain ⟨cs, h1, h2, h3⟩ := h
  refine ⟨cs, ?_, h2.mono (fun b hb hz => hz.elim) f.size, h3⟩
  rcases h1.2 with ⟨rfl, hn⟩ | ⟨g, cap, cur, rfl, hg, hh, hr⟩
  · exact ⟨h1.1, .inl ⟨rfl, hn⟩⟩
  · exact ⟨h1.1, .inr ⟨g, cap, cur, rfl, hg, (f.block g (lt_of_block hh) (hv g rfl)).trans hh, hr⟩⟩
end
structure Bks {α : Type} (R : Rp α) (w : World) (e : TypeId) (H : Nat → Prop) (av : List Nat) (vs : List Value) (xs : List (List α)) : Prop where
  len : vs.length = xs.length
  own : ∀ (i : Nat) (v : Value), vs[i]? = some v → OwR R NoZ w 0 e v (xs.getD i [])
  nd : ∀ (i j : Nat) (u v : Value) (k : Nat), vs[i]? = some u → vs[j]? = some v → u.ownBlock = some k → v.ownBlock = some k → i = j
  hom : ∀ (i : Nat) (v : Value) (k : Nat), vs[i]? = some v → v.ownBlock = some k → k ∉ av ∧ H k
  avl : ∀ k ∈ av, k < w.heap.size
section
variable {α : Type} {R : Rp α} {w w1 : World} {e : TypeId} {H H' : Nat → Prop} {av av' : List Nat} {vs us : List Value} {xs ys : List (List α)} {l : List Nat} {i : Nat}
theorem Bks.frP {P : Nat → Prop} (h : Bks R w e H av vs xs) (f : FrP P w w1) (hl : ∀ k, P k → k ∈ av ∨ ¬ H k) : Bks R w1 e H av vs xs :=
  ⟨h.len, fun i v hv => (h.own i v hv).frP f fun b hb hp => (hl b hp).elim (h.hom i v b hv hb).1 fun hn => hn (h.hom i v b hv hb).2, h.nd, h.hom, fun k hk => Nat.lt_of_lt_of_le (h.avl k hk) f.size⟩
theorem Bks.fr (h : Bks R w e H av vs xs) (f : Fr l w w1) (hl : ∀ k ∈ l, k ∈ av) : Bks R w1 e H av vs xs := h.frP (FrP.of f) fun k hk => .inl (hl k hk)
theorem Bks.fr0 (h : Bks R w e H av vs xs) (f : Fr [] w w1) : Bks R w1 e H av vs xs := h.fr f fun k hk => by cases hk
theorem Bks.lt (h : Bks R w e H av vs xs) {v : Value} (hv : vs[i]? = some v) {k : Nat} (hk : v.ownBlock = some k) : k < w.heap.size := ((h.own i v hv).lt k hk).2
/-- A new block of another's is avoided. -/
theorem Bks.alloc (h : Bks R w e H av vs xs) (f : Fr [] w w1) {b : Nat} (hb : b = w.heap.size) (hlt : b < w1.heap.size) : Bks R w1 e H (b :: av) vs xs := by
  have h1 := h.fr0 f
  refine ⟨h1.len, h1.own, h1.nd, fun i v k hv hk => ⟨fun hm => ?_, (h1.hom i v k hv hk).2⟩, fun k hk => ?_⟩
  · rcases List.mem_cons.1 hm with rfl | hm
    · have := h.lt hv hk; omega
    · exact (h1.hom i v k hv hk).1 hm
  · rcases List.mem_cons.1 hk with rfl | hk
    · exact hlt
    · exact h1.avl k hk
theorem Bks.sub (h : Bks R w e H av vs xs) (hs : ∀ k ∈ av', k ∈ av) (hH : ∀ k, k < w.heap.size → k ∉ av → H k → H' k) : Bks R w e H' av' vs xs :=
  ⟨h.len, h.own, h.nd, fun i v k hv hk => ⟨fun hm => (h.hom i v k hv hk).1 (hs k hm), hH k (h.lt hv hk) (h.hom i v k hv hk).1 (h.hom i v k hv hk).2⟩, fun k hk => h.avl k (hs k hk)⟩
theorem Bks.get (h : Bks R w e H av vs xs) (hi : i < xs.length) (d : Value) : ∃ A c, vs.getD i d = .slice A (xs.getD i []).length c := by
  have hv : vs[i]? = some (vs.getD i d) := by
    rw [List.getD_eq_getElem?_getD, List.getElem?_eq_getElem (by rw [h.len]; exact hi)]; rfl
  exact (h.own i _ hv).slice
theorem Bks.get' (h : Bks R w e H av vs xs) (hi : i < xs.length) (d : Value) : vs[i]? = some (vs.getD i d) := by
  rw [List.getD_eq_getElem?_getD, List.getElem?_eq_getElem (by rw [h.len]; exact hi)]; rfl
/-- A slice of the row, read. -/
theorem Bks.sl (h : Bks R w e H av vs xs) (hi : i < xs.length) {d : Value} {v : Value} (hv : vs.getD i d = v) : SlR R (fun _ => True) w v (xs.getD i []) := by
  subst hv
  exact (h.own i _ (h.get' hi d)).read (fun _ _ h => h.elim) (fun _ _ _ => trivial)
theorem Bks.nil (R : Rp α) (w : World) (e : TypeId) (H : Nat → Prop) {av : List Nat} (hav : ∀ k ∈ av, k < w.heap.size) (n : Nat) : Bks R w e H av (List.replicate n nilS) (List.replicate n []) := by
  have hn : ∀ (i : Nat) (v : Value), (List.replicate n nilS)[i]? = some v → v = nilS := fun i v hv => List.eq_of_mem_replicate (List.mem_of_getElem? hv)
  refine ⟨by simp, fun i v hv => ?_, fun i j u v k hu hv hk => ?_, fun i v k hv hk => ?_, hav⟩
  · rw [hn i v hv]
    have : (List.replicate n ([] : List α)).getD i [] = [] := by
      rw [List.getD_eq_getElem?_getD, List.getElem?_replicate]; split <;> rfl
    rw [this]; exact OwR.nil _ _ _ _ _
  · rw [hn i u hu] at hk; cases hk
  · rw [hn i v hv] at hk; cases hk
/-- A row more, of nil slices. -/
theorem Bks.addNil (h : Bks R w e H av vs xs) (n : Nat) : Bks R w e H av (vs ++ List.replicate n nilS) (xs ++ List.replicate n []) := by
  have hn : ∀ (i : Nat) (v : Value), (vs ++ List.replicate n nilS)[i]? = some v → vs[i]? = some v ∨ (v = nilS ∧ vs.length ≤ i) := fun i v hv => by
    rcases Nat.lt_or_ge i vs.length with hi | hi
    · rw [List.getElem?_append_left hi] at hv; exact .inl hv
    · rw [List.getElem?_append_right hi] at hv; exact .inr ⟨List.eq_of_mem_replicate (List.mem_of_getElem? hv), hi⟩
  refine ⟨by simp [h.len], fun i v hv => ?_, fun i j u v k hu hv hku hkv => ?_, fun i v k hv hk => ?_, h.avl⟩
  · rcases hn i v hv with hv' | ⟨rfl, hi⟩
    · have hlt := (List.getElem?_eq_some_iff.1 hv').1
      have : (xs ++ List.replicate n []).getD i [] = xs.getD i [] := by
        rw [List.getD_eq_getElem?_getD, List.getElem?_append_left (by rw [← h.len]; exact hlt), ← List.getD_eq_getElem?_getD]
      rw [this]; exact h.own i v hv'
    · have : (xs ++ List.replicate n []).getD i [] = [] := by
        rw [List.getD_eq_getElem?_getD, List.getElem?_append_right (by rw [← h.len]; exact hi), List.getElem?_replicate]; split <;> rfl
      rw [this]; exact OwR.nil _ _ _ _ _
  · rcases hn i u hu with hu' | ⟨rfl, _⟩
    · rcases hn j v hv with hv' | ⟨rfl, _⟩
      · exact h.nd i j u v k hu' hv' hku hkv
      · cases hkv
    · cases hku
  · rcases hn i v hv with hv' | ⟨rfl, _⟩
    · exact h.hom i v k hv' hk
    · cases hk
/-- What stood behind a row of nils stands alone. -/
theorem Bks.dropNil (h : Bks R w e H av (us ++ vs) (ys ++ xs)) (hl : us.length = ys.length) : Bks R w e H av vs xs := by
  have hx : ∀ i, (ys ++ xs).getD (us.length + i) [] = xs.getD i [] := fun i => by
    rw [List.getD_eq_getElem?_getD, List.getElem?_append_right (by omega), List.getD_eq_getElem?_getD]; congr 2; omega
  have hv : ∀ (i : Nat) (v : Value), vs[i]? = some v → (us ++ vs)[us.length + i]? = some v := fun i v hv => by
    rw [List.getElem?_append_right (by omega)]; rw [← hv]; congr 1; omega
  refine ⟨by have := h.len; simp at this; omega, fun i v h1 => by rw [← hx i]; exact h.own _ v (hv i v h1), fun i j u v k hu hv' hk1 hk2 => ?_, fun i v k h1 hk => h.hom _ v k (hv i v h1) hk, h.avl⟩
  have := h.nd _ _ u v k (hv i u hu) (hv j v hv') hk1 hk2
  omega
theorem getD_set_self {β : Type} {l : List β} (hi : i < l.length) (v d : β) : (l.set i v).getD i d = v := by
  rw [List.getD_eq_getElem?_getD, List.getElem?_set_self hi]; rfl
theorem getD_set_ne {β : Type} {l : List β} {j : Nat} (h : i ≠ j) (v d : β) : (l.set i v).getD j d = l.getD j d := by
  rw [List.getD_eq_getElem?_getD, List.getElem?_set_ne h, ← List.getD_eq_getElem?_getD]
/-- One slice turned. -/
theorem Bks.upd (h : Bks R w e H av vs xs) (hi : i < xs.length) {v v' : Value} {x' : List α} (hv : vs[i]? = some v) (f : Fr v.ownBlock.toList w w1) (ho : OwR R NoZ w1 0 e v' x') (hat : v'.ownBlock = v.ownBlock ∨ v'.ownBlock = some w.heap.size ∨ v'.ownBlock = none) (hH : H w.heap.size) :
    Bks R w1 e H av (vs.set i v') (xs.set i x') := by
  have hil : i < vs.length := by rw [h.len]; exact hi
  have hset : ∀ (j : Nat) (u : Value), (vs.set i v')[j]? = some u → (j = i ∧ u = v') ∨ (j ≠ i ∧ vs[j]? = some u) := fun j u hu => by
    by_cases hj : j = i
    · subst hj; rw [List.getElem?_set_self hil] at hu; injection hu with hu; exact .inl ⟨rfl, hu.symm⟩
    · rw [List.getElem?_set_ne (fun e => hj e.symm)] at hu; exact .inr ⟨hj, hu⟩
  have hat' : ∀ k, v'.ownBlock = some k → v.ownBlock = some k ∨ k = w.heap.size := fun k hk => by
    rcases hat with h1 | h1 | h1
    · exact .inl (h1 ▸ hk)
    · rw [h1] at hk; injection hk with hk; exact .inr hk.symm
    · rw [h1] at hk; cases hk
  refine ⟨by simp [h.len], fun j u hu => ?_, fun j j' u u' k hu hu' hk hk' => ?_, fun j u k hu hk => ?_, fun k hk => Nat.lt_of_lt_of_le (h.avl k hk) f.size⟩
  · rcases hset j u hu with ⟨rfl, rfl⟩ | ⟨hj, hu⟩
    · rw [getD_set_self hi]; exact ho
    · rw [getD_set_ne (fun e => hj e.symm)]
      exact (h.own j u hu).fr f (fun b _ hz => hz.elim) fun b hb hm => by
        cases hv' : v.ownBlock with
        | none => rw [hv'] at hm; simp at hm
        | some q => rw [hv'] at hm; simp at hm; subst hm; exact hj (h.nd j i u v b hu hv hb hv')
  · rcases hset j u hu with ⟨rfl, rfl⟩ | ⟨hj, hu1⟩ <;> rcases hset j' u' hu' with ⟨rfl, rfl⟩ | ⟨hj', hu2⟩
    · rfl
    · exfalso
      rcases hat' k hk with h1 | rfl
      · exact hj' (h.nd j' j u' v k hu2 hv hk' h1)
      · exact Nat.lt_irrefl _ (h.lt hu2 hk')
    · exfalso
      rcases hat' k hk' with h1 | rfl
      · exact hj (h.nd j j' u v k hu1 hv hk h1)
      · exact Nat.lt_irrefl _ (h.lt hu1 hk)
    · exact h.nd j j' u u' k hu1 hu2 hk hk'
  · rcases hset j u hu with ⟨rfl, rfl⟩ | ⟨hj, hu⟩
    · rcases hat' k hk with h1 | rfl
      · exact h.hom j v k hv h1
      · exact ⟨fun hm => Nat.lt_irrefl _ (h.avl _ hm), hH⟩
    · exact h.hom j u k hu hk
/-- One slice is taken out: its block is avoided from now on. -/
theorem Bks.take (h : Bks R w e H av vs xs) (hi : i < xs.length) {v : Value} (hv : vs[i]? = some v) : Bks R w e H (v.ownBlock.toList ++ av) (vs.set i nilS) (xs.set i []) := by
  have hil : i < vs.length := by rw [h.len]; exact hi
  have hset : ∀ (j : Nat) (u : Value), (vs.set i nilS)[j]? = some u → (j = i ∧ u = nilS) ∨ (j ≠ i ∧ vs[j]? = some u) := fun j u hu => by
    by_cases hj : j = i
    · subst hj; rw [List.getElem?_set_self hil] at hu; injection hu with hu; exact .inl ⟨rfl, hu.symm⟩
    · rw [List.getElem?_set_ne (fun e => hj e.symm)] at hu; exact .inr ⟨hj, hu⟩
  refine ⟨by simp [h.len], fun j u hu => ?_, fun j j' u u' k hu hu' hk hk' => ?_, fun j u k hu hk => ?_, fun k hk => ?_⟩
  · rcases hset j u hu with ⟨rfl, rfl⟩ | ⟨hj, hu⟩
    · rw [getD_set_self hi]; exact OwR.nil _ _ _ _ _
    · rw [getD_set_ne (fun e => hj e.symm)]; exact h.own j u hu
  · rcases hset j u hu with ⟨rfl, rfl⟩ | ⟨hj, hu⟩
    · cases hk
    · rcases hset j' u' hu' with ⟨rfl, rfl⟩ | ⟨hj', hu'⟩
      · cases hk'
      · exact h.nd j j' u u' k hu hu' hk hk'
  · rcases hset j u hu with ⟨rfl, rfl⟩ | ⟨hj, hu⟩
    · cases hk
    · refine ⟨fun hm => ?_, (h.hom j u k hu hk).2⟩
      rcases List.mem_append.1 hm with hm | hm
      · cases hv' : v.ownBlock with
        | none => rw [hv'] at hm; simp at hm
        | some q => rw [hv'] at hm; simp at hm; subst hm; exact hj (h.nd j i u v k hu hv hk hv')
      · exact (h.hom j u k hu hk).1 hm
  · rcases List.mem_append.1 hk with hk | hk
    · cases hv' : v.ownBlock with
      | none => rw [hv'] at hk; simp at hk
      | some q => rw [hv'] at hk; simp at hk; subst hk; exact h.lt hv hv'
    · exact h.avl k hk
/-- .. read on: what turns is not that block. -/
theorem Bks.slO (h : Bks R w e H av vs xs) (hi : i < xs.length) {v : Value} (hv : vs[i]? = some v) : SlR R (fun k => k ∈ v.ownBlock.toList) w v (xs.getD i []) := by
  have ho := h.own i v hv
  have hlen := ho.len_le
  obtain ⟨cs, h1, h2, h3⟩ := ho
  rcases h1.2 with ⟨rfl, hn⟩ | ⟨g, cap, cur, rfl, hg, hh, hnc, _⟩
  · rw [List.eq_nil_of_length_eq_zero hn]; exact SlR.nil _ _ _
  · refine ⟨_, cap, rfl, hnc, hlen, fun j x hj => ?_⟩
    obtain ⟨c, hok, hc⟩ := h2.get j x hj
    refine ⟨g, 0, c, rfl, by simp [Value.ownBlock], lt_of_block hh, R.mono (fun b hb hZ => hZ.elim) (Nat.le_refl _) hok, fun j' u hj' => ?_⟩
    have := h1.cells (g := g) rfl (j * R.sz + j') u (hc j' u hj')
    rw [Base.add_plain] at this
    rw [Nat.zero_add]; exact this
theorem Bks.home (h : Bks R w e H av vs xs) {v : Value} (hv : vs[i]? = some v) : ∀ k ∈ v.ownBlock.toList, k ∉ av ∧ H k := fun k hk => by
  cases hv' : v.ownBlock with
  | none => rw [hv'] at hk; simp at hk
  | some q => rw [hv'] at hk; simp at hk; subst hk; exact h.hom i v k hv hv'
end
section
variable {α : Type} {R : Rp α} {w w1 : World} {e : TypeId} {H : Nat → Prop} {av : List Nat} {vs : List Value} {xs : List (List α)} {i : Nat}
variable {ro : Option Nat} {P : Program} {Q : Exit → Act → World → Prop} {a : Act} {ops : Array Oper} {rest : List Oper} {d : Option Tmp} {ty : TypeId} {pos : String} {aft : Array Edge} {g : Option (Nat × Bool)}
/-- append to one of the slices. -/
theorem appB {t : TypeId} {s x : Operand} {z v : Value} {bytes : Nat} (h : Bks R w e H av vs xs) (hi : i < xs.length) (hv : vs[i]? = some v) (hs : a.eval s = v) (ad : Addr) (m c : Nat) (hx : a.eval x = .slice (some ad) m c) (ht : P.underlying t = some (.slice e))
    (hinfo : (P.info? e).map (fun i => (i.zero, i.size, i.bytes)) = some (some z, R.sz, bytes)) (hzs : z.cells.size = R.sz) (hsz : 0 < R.sz) {ys : List α} {news : List Value} (hm : ys.length = m) (hys : Cells R NoZ w ys news)
    (hnews : ∀ j u, news[j]? = some u → w.cell? (ad.add j) = some u) (hbytes : ((xs.getD i []).length + m) * bytes ≤ 140737488355328) (hb0 : 0 < bytes) (hH : H w.heap.size)
    (k : ∀ A' c' w1, Bks R w1 e H av (vs.set i (.slice A' ((xs.getD i []).length + m) c')) (xs.set i (xs.getD i [] ++ ys)) → Fr (v.ownBlock.toList) w w1 → (∀ k ∈ v.ownBlock.toList, k ∉ av ∧ H k) →
      L ro P ops Q rest (a.put d (.slice A' ((xs.getD i []).length + m) c')) w1) : St ro P ops Q rest ⟨d, .call ⟨.builtin .append, #[s, x], #[t, t]⟩, ty, pos, aft, g⟩ a w := by
  refine app hs ad m c hx ht hinfo hzs hsz (h.own i v hv) hm hys hnews hbytes hb0 (Nat.zero_le _) ?_
  intro A' c' w1 ho f hat
  exact k A' c' w1 (h.upd hi hv f (ho.zone (fun _ _ q => q.1) (fun _ _ q => q)) (hat.imp id .inl) hH) f (h.home hv)
end
end Go.V
