/- A hash table of two rows of buckets: as data; as it lies in memory. -/
import Derived.Test.YtalhmegjomfbaaaBks
import Derived.Test.YtalhmegjomfbaaaWord
namespace Go.V
open Go.Base Go.RowKit
set_option linter.unusedVariables false
set_option linter.unusedSimpArgs false
/-! ### As data -/
structure Tb (α : Type) where
  seed : Nat
  a : List (List (ByteArray × α))
  b : List (List (ByteArray × α))
  moved : Nat
  n : Nat
section
variable {α : Type}
def bkt (seed n : Nat) (k : ByteArray) : Nat := hashN seed k % n
/-- Where a key stands in a bucket; -1: nowhere. -/
def ixI (l : List (ByteArray × α)) (k : ByteArray) : Int := if l.findIdx (fun x => decide (x.1 = k)) < l.length then (l.findIdx (fun x => decide (x.1 = k)) : Int) else -1
theorem ixI_hit {l : List (ByteArray × α)} {k : ByteArray} {i : Nat} (hi : i < l.length) (h : ∀ (j : Nat) (x : ByteArray × α), j < i → l[j]? = some x → x.1 ≠ k) {y : ByteArray × α} (hy : l[i]? = some y) (hk : y.1 = k) : ixI l k = (i : Int) := by
  have hf : l.findIdx (fun x => decide (x.1 = k)) = i := by
    rw [List.findIdx_eq hi]
    rw [List.getElem?_eq_getElem hi] at hy
    injection hy with hy
    subst hy
    refine ⟨decide_eq_true hk, fun j hj => decide_eq_false (h j _ hj (List.getElem?_eq_getElem (by omega)))⟩
  unfold ixI
  rw [hf, if_pos hi]
theorem ixI_miss {l : List (ByteArray × α)} {k : ByteArray} (h : ∀ (j : Nat) (x : ByteArray × α), l[j]? = some x → x.1 ≠ k) : ixI l k = -1 := by
  unfold ixI
  rw [if_neg]
  intro hlt
  have := List.findIdx_getElem (w := hlt)
  exact h _ _ (List.getElem?_eq_getElem hlt) (by simpa using this)
theorem ixI_lt (l : List (ByteArray × α)) (k : ByteArray) : -1 ≤ ixI l k ∧ ixI l k < l.length := by
  unfold ixI
  split <;> omega
/-- Row, bucket, place of a key; is it there? -/
def findT (T : Tb α) (k : ByteArray) : (Int × Int × Int) × Bool :=
  if ixI (T.a.getD (bkt T.seed T.a.length k) []) k ≥ 0 then ((0, (bkt T.seed T.a.length k : Int), ixI (T.a.getD (bkt T.seed T.a.length k) []) k), true)
  else if T.b.length ≠ 0 ∧ ixI (T.b.getD (bkt T.seed T.b.length k) []) k ≥ 0 then ((1, (bkt T.seed T.b.length k : Int), ixI (T.b.getD (bkt T.seed T.b.length k) []) k), true)
  else ((0, 0, 0), false)
end
/-! ### In memory -/
section
variable {α : Type}
/-- What is in a row of buckets at rest. -/
structure TabN (tt te e : TypeId) (R : Rp (ByteArray × α)) (w : World) (H : Nat → Prop) (av : List Nat) (t gA : Nat) (vsA : List Value) (T : Tb α) : Prop where
  blk : Blk w t [.int .u64 (T.seed : Int), .slice (some ⟨gA, 0, none⟩) T.a.length T.a.length, .slice none 0 0, .int .i64 (T.moved : Int), .int .i64 (T.n : Int)] tt
  ra : Row idV w gA vsA te
  la : vsA.length = T.a.length
  bk : Bks R w e H (t :: gA :: av) (vsA ++ []) (T.a ++ [])
  ne : t ≠ gA
  pt : H t ∧ t ∉ av
  pg : H gA ∧ gA ∉ av
structure TabM (tt te e : TypeId) (R : Rp (ByteArray × α)) (w : World) (H : Nat → Prop) (av : List Nat) (t gA gB : Nat) (vsA vsB : List Value) (T : Tb α) : Prop where
  blk : Blk w t [.int .u64 (T.seed : Int), .slice (some ⟨gA, 0, none⟩) T.a.length T.a.length, .slice (some ⟨gB, 0, none⟩) T.b.length T.b.length, .int .i64 (T.moved : Int), .int .i64 (T.n : Int)] tt
  ra : Row idV w gA vsA te
  rb : Row idV w gB vsB te
  la : vsA.length = T.a.length
  lb : vsB.length = T.b.length
  bk : Bks R w e H (t :: gA :: gB :: av) (vsA ++ vsB) (T.a ++ T.b)
  ne : t ≠ gA
  ne2 : t ≠ gB
  ne3 : gA ≠ gB
  pt : H t ∧ t ∉ av
  pg : H gA ∧ gA ∉ av
  ph : H gB ∧ gB ∉ av
/-- What holds of every table that was made. -/
structure Tb.Ok (T : Tb α) : Prop where
  sd : T.seed < 18446744073709551616
  pa : 0 < T.a.length
  la : T.a.length ≤ 4398046511104
  lb : T.b.length ≤ 4398046511104
  mv : T.b.length ≠ 0 → T.moved < T.a.length
  mz : T.b.length = 0 → T.moved = 0
  nn : T.n ≤ 1099511627776
  cn : (T.a ++ T.b).flatten.length = T.n
  ks : (∀ (i : Nat), ∀ x ∈ T.a.getD i [], x.1.size ≤ 9223372036854775807) ∧ (∀ (i : Nat), ∀ x ∈ T.b.getD i [], x.1.size ≤ 9223372036854775807)
def TabX (tt te e : TypeId) (R : Rp (ByteArray × α)) (w : World) (H : Nat → Prop) (av : List Nat) (t : Nat) (T : Tb α) : Prop :=
  T.Ok ∧ ((T.b = [] ∧ ∃ gA vsA, TabN tt te e R w H av t gA vsA T) ∨ (T.b ≠ [] ∧ ∃ gA gB vsA vsB, TabM tt te e R w H av t gA gB vsA vsB T))
variable {tt te e : TypeId} {R : Rp (ByteArray × α)} {w w1 : World} {H H' P : Nat → Prop} {av av' : List Nat} {t gA gB : Nat} {vsA vsB : List Value} {T : Tb α}
theorem Row.frP {w w1 : World} {b tt : Nat} {xs : List Value} (h : Row idV w b xs tt) (f : FrP P w w1) (hb : ¬ P b) : Row idV w1 b xs tt := ⟨h.blk.frP f hb⟩
theorem TabN.frP (h : TabN tt te e R w H av t gA vsA T) (f : FrP P w w1) (hl : ∀ k, P k → k ∈ av ∨ ¬ H k) : TabN tt te e R w1 H av t gA vsA T := by
  have hn : ∀ b, H b ∧ b ∉ av → ¬ P b := fun b hb hp => (hl b hp).elim hb.2 fun q => q hb.1
  exact ⟨h.blk.frP f (hn _ h.pt), h.ra.frP f (hn _ h.pg), h.la, h.bk.frP f fun k hk => (hl k hk).imp (by intro q; simp [q]) id, h.ne, h.pt, h.pg⟩
theorem TabM.frP (h : TabM tt te e R w H av t gA gB vsA vsB T) (f : FrP P w w1) (hl : ∀ k, P k → k ∈ av ∨ ¬ H k) : TabM tt te e R w1 H av t gA gB vsA vsB T := by
  have hn : ∀ b, H b ∧ b ∉ av → ¬ P b := fun b hb hp => (hl b hp).elim hb.2 fun q => q hb.1
  exact ⟨h.blk.frP f (hn _ h.pt), h.ra.frP f (hn _ h.pg), h.rb.frP f (hn _ h.ph), h.la, h.lb, h.bk.frP f fun k hk => (hl k hk).imp (by intro q; simp [q]) id, h.ne, h.ne2, h.ne3, h.pt, h.pg, h.ph⟩
theorem TabX.frP (h : TabX tt te e R w H av t T) (f : FrP P w w1) (hl : ∀ k, P k → k ∈ av ∨ ¬ H k) : TabX tt te e R w1 H av t T :=
  ⟨h.1, h.2.imp (fun ⟨hb, gA, vsA, h⟩ => ⟨hb, gA, vsA, h.frP f hl⟩) fun ⟨hb, gA, gB, vsA, vsB, h⟩ => ⟨hb, gA, gB, vsA, vsB, h.frP f hl⟩⟩
theorem TabX.fr (h : TabX tt te e R w H av t T) {l : List Nat} (f : Fr l w w1) (hl : ∀ k ∈ l, k ∈ av ∨ ¬ H k) : TabX tt te e R w1 H av t T := h.frP (FrP.of f) hl
theorem TabX.fr0 (h : TabX tt te e R w H av t T) (f : Fr [] w w1) : TabX tt te e R w1 H av t T := h.fr f fun k hk => by cases hk
theorem TabX.alloc (h : TabX tt te e R w H av t T) (f : Fr [] w w1) {b : Nat} (hb : b = w.heap.size) (hlt : b < w1.heap.size) : TabX tt te e R w1 H (b :: av) t T := by
  have hne : ∀ x, x < w.heap.size → ¬ x = b := fun x hx e => by omega
  have hperm : ∀ {x y : Nat} {l : List Nat}, ∀ k ∈ x :: y :: b :: l, k ∈ b :: x :: y :: l := by intro x y l k hk; simp at hk ⊢; rcases hk with h | h | h | h <;> simp [h]
  refine ⟨h.1, h.2.imp (fun ⟨he, gA, vsA, h⟩ => ⟨he, gA, vsA, ?_⟩) fun ⟨he, gA, gB, vsA, vsB, h⟩ => ⟨he, gA, gB, vsA, vsB, ?_⟩⟩
  · have ht := h.blk.lt
    have hg := h.ra.lt
    exact ⟨h.blk.fr0 f, h.ra.fr0 f, h.la, (h.bk.alloc f hb hlt).sub hperm (fun k _ _ q => q), h.ne, ⟨h.pt.1, by simp [hne t ht, h.pt.2]⟩, ⟨h.pg.1, by simp [hne gA hg, h.pg.2]⟩⟩
  · have ht := h.blk.lt
    have hg := h.ra.lt
    have hg2 := h.rb.lt
    refine ⟨h.blk.fr0 f, h.ra.fr0 f, h.rb.fr0 f, h.la, h.lb, (h.bk.alloc f hb hlt).sub (fun k hk => ?_) (fun k _ _ q => q), h.ne, h.ne2, h.ne3, ⟨h.pt.1, by simp [hne t ht, h.pt.2]⟩, ⟨h.pg.1, by simp [hne gA hg, h.pg.2]⟩, ⟨h.ph.1, by simp [hne gB hg2, h.ph.2]⟩⟩
    simp at hk ⊢
    rcases hk with h | h | h | h | h <;> simp [h]
theorem TabX.sub (h : TabX tt te e R w H av t T) (hs : ∀ k ∈ av', k ∈ av) (hH : ∀ k, k < w.heap.size → H k → H' k) : TabX tt te e R w H' av' t T := by
  refine ⟨h.1, h.2.imp (fun ⟨he, gA, vsA, h⟩ => ⟨he, gA, vsA, ?_⟩) fun ⟨he, gA, gB, vsA, vsB, h⟩ => ⟨he, gA, gB, vsA, vsB, ?_⟩⟩
  · exact ⟨h.blk, h.ra, h.la, h.bk.sub (fun k hk => by simp at hk ⊢; exact hk.imp id (Or.imp id (hs k))) (fun k hk _ q => hH k hk q), h.ne, ⟨hH _ h.blk.lt h.pt.1, fun hm => h.pt.2 (hs _ hm)⟩, ⟨hH _ h.ra.lt h.pg.1, fun hm => h.pg.2 (hs _ hm)⟩⟩
  · exact ⟨h.blk, h.ra, h.rb, h.la, h.lb, h.bk.sub (fun k hk => by simp at hk ⊢; exact hk.imp id (Or.imp id (Or.imp id (hs k)))) (fun k hk _ q => hH k hk q), h.ne, h.ne2, h.ne3, ⟨hH _ h.blk.lt h.pt.1, fun hm => h.pt.2 (hs _ hm)⟩, ⟨hH _ h.ra.lt h.pg.1, fun hm => h.pg.2 (hs _ hm)⟩, ⟨hH _ h.rb.lt h.ph.1, fun hm => h.ph.2 (hs _ hm)⟩⟩
theorem TabX.lt (h : TabX tt te e R w H av t T) : t < w.heap.size := by
  rcases h.2 with ⟨_, gA, vsA, h⟩ | ⟨_, gA, gB, vsA, vsB, h⟩
  · exact h.blk.lt
  · exact h.blk.lt
theorem TabX.pt (h : TabX tt te e R w H av t T) : H t ∧ t ∉ av := by
  rcases h.2 with ⟨_, gA, vsA, h⟩ | ⟨_, gA, gB, vsA, vsB, h⟩
  · exact h.pt
  · exact h.pt
end
theorem held_row {P : Program} {a : Act} {t tt : TypeId} {x : Operand} {g i : Nat} {w w' : World} {vs : List Value} (hx : a.eval x = .pointer (some ⟨g, 0 + i * 1, none⟩)) (h : Row idV w g vs tt) (h' : Row idV w' g vs tt)
    (hn : (P.info? t).map (fun i => max 1 i.size) = some 1) (hi : i < vs.length) : Plan.CellsKept P t (a.eval x) w w' :=
  held_blk (n := 1) (off := 0 + i * 1) hx h.blk h'.blk hn rfl (by rw [List.length_map]; omega)
/-! ### Two rows' slices in one -/
section
variable {α : Type} {R : Rp α} {w w1 : World} {e : TypeId} {H : Nat → Prop} {av : List Nat} {vsA vsB : List Value} {xa xb : List (List α)} {i : Nat} {d v : Value}
theorem appA_get {β : Type} {l m : List β} {i : Nat} (hi : i < l.length) (d : β) : (l ++ m).getD i d = l.getD i d := by
  rw [List.getD_eq_getElem?_getD, List.getElem?_append_left hi, ← List.getD_eq_getElem?_getD]
theorem appB_get {β : Type} {l m : List β} {i : Nat} (d : β) : (l ++ m).getD (l.length + i) d = m.getD i d := by
  rw [List.getD_eq_getElem?_getD, List.getElem?_append_right (by omega), List.getD_eq_getElem?_getD]; congr 2; omega
theorem Bks.getA (h : Bks R w e H av (vsA ++ vsB) (xa ++ xb)) (hl : vsA.length = xa.length) (hi : i < xa.length) (d : Value) : ∃ A c, vsA.getD i d = .slice A (xa.getD i []).length c := by
  have := h.get (i := i) (by simp; omega) d
  rwa [appA_get (by omega), appA_get hi] at this
theorem Bks.getB (h : Bks R w e H av (vsA ++ vsB) (xa ++ xb)) (hl : vsA.length = xa.length) (hi : i < xb.length) (d : Value) : ∃ A c, vsB.getD i d = .slice A (xb.getD i []).length c := by
  have := h.get (i := xa.length + i) (by simp; omega) d
  rw [appB_get, ← hl, appB_get] at this
  exact this
theorem Bks.slA (h : Bks R w e H av (vsA ++ vsB) (xa ++ xb)) (hl : vsA.length = xa.length) (hi : i < xa.length) (hv : vsA.getD i d = v) : SlR R (fun _ => True) w v (xa.getD i []) := by
  have := h.sl (i := i) (by simp; omega) (d := d) (v := v) (by rw [appA_get (by omega)]; exact hv)
  rwa [appA_get hi] at this
theorem Bks.slB (h : Bks R w e H av (vsA ++ vsB) (xa ++ xb)) (hl : vsA.length = xa.length) (hi : i < xb.length) (hv : vsB.getD i d = v) : SlR R (fun _ => True) w v (xb.getD i []) := by
  have := h.sl (i := xa.length + i) (by simp; omega) (d := d) (v := v) (by rw [← hl, appB_get]; exact hv)
  rwa [appB_get] at this
theorem Bks.atA (h : Bks R w e H av (vsA ++ vsB) (xa ++ xb)) (hl : vsA.length = xa.length) (hi : i < xa.length) (hv : vsA.getD i d = v) : (vsA ++ vsB)[i]? = some v := by
  subst hv
  rw [List.getElem?_append_left (by omega), List.getD_eq_getElem?_getD, List.getElem?_eq_getElem (by omega)]; rfl
theorem Bks.atB (h : Bks R w e H av (vsA ++ vsB) (xa ++ xb)) (hl : vsA.length = xa.length) (hi : i < xb.length) (hv : vsB.getD i d = v) : (vsA ++ vsB)[xa.length + i]? = some v := by
  subst hv
  have := h.len
  simp at this
  rw [List.getElem?_append_right (by omega), List.getD_eq_getElem?_getD, ← hl, Nat.add_sub_cancel_left, List.getElem?_eq_getElem (by omega)]; rfl
variable {ro : Option Nat} {P : Program} {Q : Exit → Act → World → Prop} {a : Act} {ops : Array Oper} {rest : List Oper} {d' : Option Tmp} {ty : TypeId} {pos : String} {aft : Array Edge} {g : Option (Nat × Bool)}
theorem appRA {t : TypeId} {s x : Operand} {z : Value} {bytes : Nat} (h : Bks R w e H av (vsA ++ vsB) (xa ++ xb)) (hl : vsA.length = xa.length) (hi : i < xa.length) (hv : vsA.getD i d = v) (hs : a.eval s = v) (ad : Addr) (m c : Nat) (hx : a.eval x = .slice (some ad) m c) (ht : P.underlying t = some (.slice e))
    (hinfo : (P.info? e).map (fun i => (i.zero, i.size, i.bytes)) = some (some z, R.sz, bytes)) (hzs : z.cells.size = R.sz) (hsz : 0 < R.sz) {ys : List α} {news : List Value} (hm : ys.length = m) (hys : Cells R NoZ w ys news)
    (hnews : ∀ j u, news[j]? = some u → w.cell? (ad.add j) = some u) (hbytes : ((xa.getD i []).length + m) * bytes ≤ 140737488355328) (hb0 : 0 < bytes) (hH : H w.heap.size)
    (k : ∀ A' c' w1, Bks R w1 e H av (vsA.set i (.slice A' ((xa.getD i []).length + m) c') ++ vsB) (xa.set i (xa.getD i [] ++ ys) ++ xb) → Fr (v.ownBlock.toList) w w1 → (∀ k ∈ v.ownBlock.toList, k ∉ av ∧ H k) →
      L ro P ops Q rest (a.put d' (.slice A' ((xa.getD i []).length + m) c')) w1) : St ro P ops Q rest ⟨d', .call ⟨.builtin .append, #[s, x], #[t, t]⟩, ty, pos, aft, g⟩ a w := by
  refine appB h (i := i) (by simp; omega) (h.atA hl hi hv) hs ad m c hx ht hinfo hzs hsz hm hys hnews (by rw [appA_get hi]; exact hbytes) hb0 hH ?_
  intro A' c' w1 h1 f ho
  rw [appA_get hi] at h1 ⊢
  rw [List.set_append_left _ _ (by omega), List.set_append_left _ _ hi] at h1
  exact k A' c' w1 h1 f ho
theorem appRB {t : TypeId} {s x : Operand} {z : Value} {bytes : Nat} (h : Bks R w e H av (vsA ++ vsB) (xa ++ xb)) (hl : vsA.length = xa.length) (hi : i < xb.length) (hv : vsB.getD i d = v) (hs : a.eval s = v) (ad : Addr) (m c : Nat) (hx : a.eval x = .slice (some ad) m c) (ht : P.underlying t = some (.slice e))
    (hinfo : (P.info? e).map (fun i => (i.zero, i.size, i.bytes)) = some (some z, R.sz, bytes)) (hzs : z.cells.size = R.sz) (hsz : 0 < R.sz) {ys : List α} {news : List Value} (hm : ys.length = m) (hys : Cells R NoZ w ys news)
    (hnews : ∀ j u, news[j]? = some u → w.cell? (ad.add j) = some u) (hbytes : ((xb.getD i []).length + m) * bytes ≤ 140737488355328) (hb0 : 0 < bytes) (hH : H w.heap.size)
    (k : ∀ A' c' w1, Bks R w1 e H av (vsA ++ vsB.set i (.slice A' ((xb.getD i []).length + m) c')) (xa ++ xb.set i (xb.getD i [] ++ ys)) → Fr (v.ownBlock.toList) w w1 → (∀ k ∈ v.ownBlock.toList, k ∉ av ∧ H k) →
      L ro P ops Q rest (a.put d' (.slice A' ((xb.getD i []).length + m) c')) w1) : St ro P ops Q rest ⟨d', .call ⟨.builtin .append, #[s, x], #[t, t]⟩, ty, pos, aft, g⟩ a w := by
  refine appB h (i := xa.length + i) (by simp; omega) (h.atB hl hi hv) hs ad m c hx ht hinfo hzs hsz hm hys hnews (by rw [appB_get]; exact hbytes) hb0 hH ?_
  intro A' c' w1 h1 f ho
  rw [appB_get] at h1 ⊢
  rw [show xa.length + i = vsA.length + i by omega, List.set_append_right _ _ (by omega), Nat.add_sub_cancel_left, hl, List.set_append_right _ _ (by omega), Nat.add_sub_cancel_left] at h1
  exact k A' c' w1 h1 f ho
end
end Go.V
