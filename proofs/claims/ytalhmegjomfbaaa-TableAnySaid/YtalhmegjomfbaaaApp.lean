/- append(v, l...): a row that is read is appended to a row of one's own; stretches of a row. -/
import Derived.Test.YtalhmegjomfbaaaTabD
namespace Go.V
open Go.Base Go.RowKit
set_option linter.unusedVariables false
set_option linter.unusedSimpArgs false
section
variable {α : Type} {R : Rp α} {Z : Nat → Prop} {w : World} {xs ys : List α} {g o n c : Nat}
/-- The first ones of a slice. -/
theorem SlR.takeN (h : SlR R Z w (.slice (some ⟨g, o, none⟩) n c) xs) {i : Nat} (hi : i ≤ xs.length) : SlR R Z w (.slice (some ⟨g, o, none⟩) i c) (xs.take i) := by
  obtain ⟨A', c', e, h1, h2, h3⟩ := h
  injection e with e1 e2 e3
  subst e1; subst e3
  refine ⟨_, c, by rw [List.length_take, Nat.min_eq_left hi], by rw [List.length_take]; omega, by rw [List.length_take]; omega, fun j x hj => ?_⟩
  rw [List.getElem?_take] at hj
  split at hj
  · exact h3 j x hj
  · cases hj
/-- .. the last ones. -/
theorem SlR.dropN (h : SlR R Z w (.slice (some ⟨g, o, none⟩) n c) xs) {i : Nat} (hi : i ≤ xs.length) {ad : Addr} (had : c - i ≠ 0 → ad = ⟨g, o + i * R.sz, none⟩) {m : Nat} (hm : m = xs.length - i) : SlR R Z w (.slice (some ad) m (c - i)) (xs.drop i) := by
  subst hm
  obtain ⟨A', c', e, h1, h2, h3⟩ := h
  injection e with e1 e2 e3
  subst e1; subst e3
  refine ⟨_, c - i, by rw [List.length_drop], by rw [List.length_drop]; omega, by rw [List.length_drop]; omega, fun j x hj => ?_⟩
  rw [List.getElem?_drop] at hj
  have hlt := (List.getElem?_eq_some_iff.1 hj).1
  obtain ⟨g', o', cs, hA, hz, hg, hok, hc⟩ := h3 (i + j) x hj
  injection hA with hA
  injection hA with e4 e5
  subst e4; subst e5
  refine ⟨g, o + i * R.sz, cs, by rw [had (by omega)], hz, hg, hok, fun q u hq => ?_⟩
  have := hc q u hq
  rwa [Nat.add_mul, ← Nat.add_assoc o] at this
/-- The cells of a slice that is read. -/
theorem SlR.cells {Z' : Nat → Prop} (hz : ∀ x cs, R.ok Z w x cs → R.ok Z' w x cs) : ∀ {ys : List α} {o n c : Nat}, SlR R Z w (.slice (some ⟨g, o, none⟩) n c) ys → ∃ news, Cells R Z' w ys news ∧ ∀ j u, news[j]? = some u → w.cell? ⟨g, o + j, none⟩ = some u
  | [], o, n, c, _ => ⟨[], rfl, fun j u h => by simp at h⟩
  | y :: ys, o, n, c, h => by
    have hd := h.dropN (i := 1) (by simp) (ad := ⟨g, o + 1 * R.sz, none⟩) (fun _ => rfl) (m := ys.length) (by simp)
    simp only [List.drop_succ_cons, List.drop_zero] at hd
    obtain ⟨A', c', e, h1, h2, h3⟩ := h
    injection e with e1 e2 e3
    subst e1
    obtain ⟨g', o', cs, hA, _, hg, hok, hc⟩ := h3 0 y (by simp)
    injection hA with hA
    injection hA with e4 e5
    subst e4; subst e5
    obtain ⟨r, hr, hrc⟩ := SlR.cells hz hd
    refine ⟨cs ++ r, ⟨cs, r, rfl, hz _ _ hok, hr⟩, fun j u hj => ?_⟩
    have hl := R.len hok
    rcases Nat.lt_or_ge j cs.length with hjl | hjl
    · rw [List.getElem?_append_left hjl] at hj
      have := hc j u hj
      rwa [Nat.zero_mul, Nat.add_zero] at this
    · rw [List.getElem?_append_right hjl] at hj
      have := hrc _ u hj
      rwa [Nat.one_mul, show o + R.sz + (j - cs.length) = o + j by omega] at this
end
section
variable {α : Type} {R : Rp α} {Z : Nat → Prop} {w : World} {xs ys : List α} {base : Nat} {e : TypeId} {v : Value} {A : Option Addr} {m c : Nat}
variable {ro : Option Nat} {P : Program} {Q : Exit → Act → World → Prop} {a : Act} {ops : Array Oper} {rest : List Oper} {d : Option Tmp} {ty : TypeId} {pos : String} {aft : Array Edge} {gd : Option (Nat × Bool)}
theorem app0 {t : TypeId} {s x : Operand} {n0 c0 : Nat} {A0 : Option Addr} (hs : a.eval s = .slice A0 n0 c0) (hx : a.eval x = .slice A 0 c) (ht : P.underlying t = some (.slice e)) (hinfo : (P.info? e).map (·.size) = some R.sz) (hle : n0 ≤ c0)
    (k : L ro P ops Q rest (a.put d (.slice A0 n0 c0)) w) : St ro P ops Q rest ⟨d, .call ⟨.builtin .append, #[s, x], #[t, t]⟩, ty, pos, aft, gd⟩ a w := by
  obtain ⟨i, hi, hsz⟩ := Option.map_eq_some_iff.1 hinfo
  refine St.val (v := .slice A0 n0 c0) (w' := w) ?_ k
  simp only [execOp, resolve, invoke, builtin, Sem.run_bind, Sem.run_pure, Result.andThen_ok, List.map_toArray, List.map_cons, List.map_nil, hs, hx]
  cases A <;> cases A0 <;> simp [Builtin.append_, Builtin.lenOf, Builtin.firstCells, loadCells, loadCellsFrom, storeCells, sizeOf, typeInfo, run_underlying ht, hi, Sem.run_bind, hle]
theorem appS {t : TypeId} {s x : Operand} {z : Value} {bytes : Nat} (hs : a.eval s = v) (hx : a.eval x = .slice A m c) (ht : P.underlying t = some (.slice e))
    (hinfo : (P.info? e).map (fun i => (i.zero, i.size, i.bytes)) = some (some z, R.sz, bytes)) (hzs : z.cells.size = R.sz) (hsz : 0 < R.sz) (hown : OwR R NoZ w base e v xs) (hS : SlR R Z w (.slice A m c) ys) (hz : ∀ x cs, R.ok Z w x cs → R.ok NoZ w x cs)
    (hbytes : (xs.length + ys.length) * bytes ≤ 140737488355328) (hb0 : 0 < bytes) (hbase : base ≤ w.heap.size)
    (k : ∀ A' c' w1, OwR R NoZ w1 base e (.slice A' (xs.length + ys.length) c') (xs ++ ys) → Fr (v.ownBlock.toList) w w1 → L ro P ops Q rest (a.put d (.slice A' (xs.length + ys.length) c')) w1) : St ro P ops Q rest ⟨d, .call ⟨.builtin .append, #[s, x], #[t, t]⟩, ty, pos, aft, gd⟩ a w := by
  obtain rfl : m = ys.length := by obtain ⟨A', c', e, _⟩ := hS; injection e with e1 e2 e3
  cases ys with
  | nil =>
    obtain ⟨i, hi, hzz⟩ := Option.map_eq_some_iff.1 hinfo
    simp only [Prod.mk.injEq] at hzz
    have hown' := hown
    obtain ⟨A0, c0, rfl⟩ := hown.slice
    have hle : xs.length ≤ c0 := by
      obtain ⟨cs, h1, _⟩ := hown'
      rcases h1.2 with ⟨he, h⟩ | ⟨g, cap, cur, he, _, _, hnc, _⟩
      · injection he; omega
      · injection he with e1 e2 e3; omega
    refine app0 (R := R) hs hx ht (by rw [hi]; exact congrArg some hzz.2.1) hle ?_
    have := k A0 c0 w
    rw [List.append_nil] at this
    exact this hown (Fr.refl _ _)
  | cons y ys =>
    obtain ⟨g, o, rfl, _, _⟩ := hS.addr (by simp)
    obtain ⟨news, h1, h2⟩ := hS.cells hz
    refine app hs ⟨g, o, none⟩ _ c hx ht hinfo hzs hsz hown rfl h1 (fun j u hj => ?_) hbytes hb0 hbase fun A' c' w1 ho hf _ => k A' c' w1 (ho.zone (fun _ _ q => q.1) (fun _ _ q => q)) hf
    rw [show (⟨g, o, none⟩ : Addr).add j = ⟨g, o + j, none⟩ by unfold Addr.add; split <;> simp_all]
    exact h2 j u hj
/-- An empty row. -/
theorem OwR.empty {g : Nat} (hB : Blk w g [] e) (hg : base ≤ g) : OwR R NoZ w base e (.slice (some ⟨g, 0, none⟩) 0 0) [] :=
  ⟨[], ⟨by simp, .inr ⟨g, 0, #[], rfl, hg, hB, Nat.le_refl _, Nat.zero_le _, by simp, by simp⟩⟩, rfl, fun b hb hz => hz⟩
theorem OwR.rebase {base' : Nat} (h : OwR R NoZ w base e v xs) (hb : base' ≤ base) : OwR R NoZ w base' e v xs := by
  obtain ⟨cs, h1, h2, h3⟩ := h
  refine ⟨cs, ⟨h1.1, ?_⟩, h2, h3⟩
  rcases h1.2 with h | ⟨g, cap, cur, he, hg, hr⟩
  · exact .inl h
  · exact .inr ⟨g, cap, cur, he, Nat.le_trans hb hg, hr⟩
end
section
variable {α : Type} {R : Rp α} {w w1 : World} {e : TypeId} {H : Nat → Prop} {av : List Nat} {vs vsA vsB : List Value} {xs xa xb : List (List α)} {i n c : Nat} {d v' : Value}
/-- A slice made anew in the place of one. -/
theorem Bks.updN (h : Bks R w e H av vs xs) (hi : i < xs.length) {v : Value} {x' : List α} (hv : vs[i]? = some v) (f : Fr [] w w1) (ho : OwR R NoZ w1 w.heap.size e v' x') (hH : ∀ k, w.heap.size ≤ k → H k) : Bks R w1 e H av (vs.set i v') (xs.set i x') := by
  have hil : i < vs.length := by rw [h.len]; exact hi
  have h0 := h.fr0 f
  have hnew : ∀ k, v'.ownBlock = some k → w.heap.size ≤ k := fun k hk => (ho.lt k hk).1
  have hset : ∀ (j : Nat) (u : Value), (vs.set i v')[j]? = some u → (j = i ∧ u = v') ∨ (j ≠ i ∧ vs[j]? = some u) := fun j u hu => by
    by_cases hj : j = i
    · subst hj; rw [List.getElem?_set_self hil] at hu; injection hu with hu; exact .inl ⟨rfl, hu.symm⟩
    · rw [List.getElem?_set_ne (fun e => hj e.symm)] at hu; exact .inr ⟨hj, hu⟩
  refine ⟨by simp [h.len], fun j u hu => ?_, fun j j' u u' k hu hu' hk hk' => ?_, fun j u k hu hk => ?_, h0.avl⟩
  · rcases hset j u hu with ⟨rfl, rfl⟩ | ⟨hj, hu⟩
    · rw [getD_set_self hi]; exact ho.rebase (Nat.zero_le _)
    · rw [Go.V.getD_set_ne (fun e => hj e.symm)]; exact h0.own j u hu
  · rcases hset j u hu with ⟨rfl, rfl⟩ | ⟨hj, hu1⟩ <;> rcases hset j' u' hu' with ⟨rfl, rfl⟩ | ⟨hj', hu2⟩
    · rfl
    · have := h.lt hu2 hk'; have := hnew k hk; omega
    · have := h.lt hu1 hk; have := hnew k hk'; omega
    · exact h.nd j j' u u' k hu1 hu2 hk hk'
  · rcases hset j u hu with ⟨rfl, rfl⟩ | ⟨hj, hu⟩
    · exact ⟨fun hm => by have := h.avl _ hm; have := hnew k hk; omega, hH k (hnew k hk)⟩
    · exact h.hom j u k hu hk
theorem Bks.newA (h : Bks R w e H av (vsA ++ vsB) (xa ++ xb)) (hl : vsA.length = xa.length) (hi : i < xa.length) (f : Fr [] w w1) {x' : List α} (ho : OwR R NoZ w1 w.heap.size e v' x') (hH : ∀ k, w.heap.size ≤ k → H k) : Bks R w1 e H av (vsA.set i v' ++ vsB) (xa.set i x' ++ xb) := by
  have := h.updN (i := i) (by simp; omega) (h.atA hl hi (d := nilS) rfl) f ho hH
  rwa [List.set_append_left _ _ (by omega), List.set_append_left _ _ hi] at this
theorem Bks.newB (h : Bks R w e H av (vsA ++ vsB) (xa ++ xb)) (hl : vsA.length = xa.length) (hi : i < xb.length) (f : Fr [] w w1) {x' : List α} (ho : OwR R NoZ w1 w.heap.size e v' x') (hH : ∀ k, w.heap.size ≤ k → H k) : Bks R w1 e H av (vsA ++ vsB.set i v') (xa ++ xb.set i x') := by
  have := h.updN (i := xa.length + i) (by simp; omega) (h.atB hl hi (d := nilS) rfl) f ho hH
  rwa [show xa.length + i = vsA.length + i by omega, List.set_append_right _ _ (by omega), Nat.add_sub_cancel_left, hl, List.set_append_right _ _ (by omega), Nat.add_sub_cancel_left] at this
end
end Go.V
