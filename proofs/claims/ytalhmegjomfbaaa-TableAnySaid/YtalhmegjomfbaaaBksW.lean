/- A cell of an element of one of the slices is written. -/
import Derived.Test.YtalhmegjomfbaaaTab
namespace Go.V
open Go.Base Go.RowKit
set_option linter.unusedVariables false
section
variable {α : Type} {R : Rp α} {w w1 : World}
theorem Cells.setc (hs : w.heap.size ≤ w1.heap.size) {f : Nat} {u : Value} (hf : f < R.sz) {y : α} : ∀ {xs : List α} {cs : List Value} {j : Nat} {x : α}, Cells R NoZ w xs cs → xs[j]? = some x → (∀ c, R.ok NoZ w x c → R.ok NoZ w1 y (c.set f u)) → Cells R NoZ w1 (xs.set j y) (cs.set (j * R.sz + f) u)
  | [], cs, j, x, _, hj, _ => by simp at hj
  | z :: xs, cs, 0, x, ⟨c, r, e, h1, h2⟩, hj, hok => by
    simp at hj; subst hj; subst e
    refine ⟨c.set f u, r, ?_, hok c h1, h2.mono (fun b hb hz => hz.elim) hs⟩
    rw [Nat.zero_mul, Nat.zero_add, List.set_append_left _ _ (by rw [R.len h1]; exact hf)]
  | z :: xs, cs, j + 1, x, ⟨c, r, e, h1, h2⟩, hj, hok => by
    subst e
    refine ⟨c, r.set (j * R.sz + f) u, ?_, R.mono (fun b hb hz => hz.elim) hs h1, Cells.setc hs hf h2 (by simpa using hj) hok⟩
    have hl := R.len h1
    rw [List.set_append_right _ _ (by rw [hl, Nat.add_mul]; omega)]
    congr 2
    rw [hl, Nat.add_mul]; omega
theorem own_set {base g o n c : Nat} {e : TypeId} {xs : List α} (ho : OwR R NoZ w base e (.slice (some ⟨g, o, none⟩) n c) xs) {j f : Nat} {x : α} (hx : xs[j]? = some x) (hf : f < R.sz) {u : Value} {y : α} :
    ∃ cur : List Value, o = 0 ∧ Blk w g cur e ∧ j * R.sz + f < cur.length ∧ ∀ w1, Blk w1 g (cur.set (j * R.sz + f) u) e → w.heap.size ≤ w1.heap.size → (∀ c, R.ok NoZ w x c → R.ok NoZ w1 y (c.set f u)) → OwR R NoZ w1 base e (.slice (some ⟨g, o, none⟩) n c) (xs.set j y) := by
  obtain ⟨cs, h1, h2, h3⟩ := ho
  have hj : j < xs.length := (List.getElem?_eq_some_iff.1 hx).1
  rcases h1.2 with ⟨h, _⟩ | ⟨g', cap, cur, he, hb, hh, hnc, hcm, hsz, htk⟩
  · cases h
  · injection he with e1 e2 e3
    injection e1 with e1
    injection e1 with e1 e4
    subst e1; subst e4; subst e2; subst e3
    have hjs : j * R.sz + f < xs.length * R.sz := Nat.lt_of_lt_of_le (show j * R.sz + f < (j + 1) * R.sz by rw [Nat.add_mul]; omega) (Nat.mul_le_mul_right _ hj)
    have hcl : xs.length * R.sz ≤ cur.size := by rw [hsz]; exact Nat.mul_le_mul_right _ hnc
    refine ⟨cur.toList, rfl, by unfold Blk; rw [hh], by rw [Array.length_toList]; omega, fun w1 hB1 hs hok => ?_⟩
    refine ⟨cs.set (j * R.sz + f) u, ⟨by rw [List.length_set, List.length_set]; exact h1.1, .inr ⟨g, c, (cur.toList.set (j * R.sz + f) u).toArray, by rw [List.length_set], hb, hB1, by rw [List.length_set]; exact hnc, hcm, by simp [hsz], ?_⟩⟩, Cells.setc hs hf h2 hx hok, fun b hb' hz => hz.elim⟩
    rw [List.length_set, List.toList_toArray, List.take_set, htk]
end
section
variable {α : Type} {R : Rp α} {w : World} {e : TypeId} {H : Nat → Prop} {av : List Nat} {vs vsA vsB : List Value} {xs xa xb : List (List α)} {i j f : Nat} {d v : Value}
variable {ro : Option Nat} {P : Program} {Q : Exit → Act → World → Prop} {a : Act} {ops : Array Oper} {rest : List Oper} {ty : TypeId} {pos : String} {aft : Array Edge} {g : Option (Nat × Bool)}
theorem Bks.setE {w1 : World} {g o n c : Nat} (h : Bks R w e H av vs xs) (hi : i < xs.length) (hv : vs[i]? = some (.slice (some ⟨g, o, none⟩) n c)) {x' : List α} (f : Fr [g] w w1) (ho : OwR R NoZ w1 0 e (.slice (some ⟨g, o, none⟩) n c) x') : Bks R w1 e H av vs (xs.set i x') := by
  have hil : i < vs.length := by rw [h.len]; exact hi
  refine ⟨by simp [h.len], fun k u hu => ?_, h.nd, h.hom, fun k hk => Nat.lt_of_lt_of_le (h.avl k hk) f.size⟩
  by_cases hk : k = i
  · subst hk
    rw [hv] at hu; injection hu with hu; subst hu
    rw [getD_set_self hi]; exact ho
  · rw [getD_set_ne (fun e => hk e.symm)]
    exact (h.own k u hu).fr f (fun b _ hz => hz.elim) fun b hb hm => by
      simp at hm; subst hm
      exact hk (h.nd k i u _ b hu hv hb rfl)
theorem stB {t : TypeId} {x y : Operand} {g0 o0 n c : Nat} (h : Bks R w e H av vs xs) (hi : i < xs.length) (hv : vs[i]? = some (.slice (some ⟨g0, o0, none⟩) n c)) (hj : j < (xs.getD i []).length) (hf : f < R.sz) (u : Value) (fy : α → α)
    (hx : a.eval x = .pointer (some ⟨g0, o0 + j * R.sz + f, none⟩)) (hy : a.eval y = u) (hu : u.cells = #[u]) (h1 : u.oneCell' = true) (ht : (P.info? t).map (·.size) = some 1) (hok : ∀ w1 x c, R.ok NoZ w x c → R.ok NoZ w1 (fy x) (c.set f u))
    (k : ∀ w1, Bks R w1 e H av vs (xs.set i ((xs.getD i []).modify j fy)) → Fr [g0] w w1 → w1.heap.size = w.heap.size → (∀ k ∈ [g0], k ∉ av ∧ H k) → L ro P ops Q rest a w1) : St ro P ops Q rest ⟨none, .store t x y, ty, pos, aft, g⟩ a w := by
  have hxj : (xs.getD i [])[j]? = some (xs.getD i [])[j] := List.getElem?_eq_getElem hj
  obtain ⟨cur, rfl, hB, hlt, hset⟩ := own_set (R := R) (u := u) (y := fy (xs.getD i [])[j]) (h.own i _ hv) hxj hf
  rw [Nat.zero_add] at hx
  refine stn g0 (j * R.sz + f) u [u] hx hy hu (by simp [h1]) ht hB (by simp; omega) (cur.set (j * R.sz + f) u) ?_ fun w1 hB1 hF hs => ?_
  · rfl
  · have ho := hset w1 hB1 (by omega) (hok w1 _)
    have hmod : (xs.getD i []).modify j fy = (xs.getD i []).set j (fy (xs.getD i [])[j]) := by
      apply List.ext_getElem?
      intro q
      rw [List.getElem?_modify, List.getElem?_set]
      by_cases hq : j = q
      · subst hq; rw [hxj]; simp only [if_true, if_pos hj]; rfl
      · simp [hq]
    refine k w1 (by rw [hmod]; exact h.setE hi hv hF ho) hF hs fun q hq => ?_
    simp at hq; subst hq
    exact h.hom i _ q hv rfl
theorem stRA {t : TypeId} {x y : Operand} {g0 o0 n c : Nat} {A : Option Addr} (h : Bks R w e H av (vsA ++ vsB) (xa ++ xb)) (hl : vsA.length = xa.length) (hi : i < xa.length) (hv : vsA.getD i d = .slice A n c) (hA : A = some ⟨g0, o0, none⟩) (hj : j < (xa.getD i []).length) (hf : f < R.sz) (u : Value) (fy : α → α)
    (hx : a.eval x = .pointer (some ⟨g0, o0 + j * R.sz + f, none⟩)) (hy : a.eval y = u) (hu : u.cells = #[u]) (h1 : u.oneCell' = true) (ht : (P.info? t).map (·.size) = some 1) (hok : ∀ w1 x c, R.ok NoZ w x c → R.ok NoZ w1 (fy x) (c.set f u))
    (k : ∀ w1, Bks R w1 e H av (vsA ++ vsB) (xa.set i ((xa.getD i []).modify j fy) ++ xb) → Fr [g0] w w1 → w1.heap.size = w.heap.size → (∀ k ∈ [g0], k ∉ av ∧ H k) → L ro P ops Q rest a w1) : St ro P ops Q rest ⟨none, .store t x y, ty, pos, aft, g⟩ a w := by
  subst hA
  refine stB h (i := i) (by simp; omega) (h.atA hl hi hv) (by rw [appA_get hi]; exact hj) hf u fy hx hy hu h1 ht hok fun w1 hk hF hs hh => k w1 ?_ hF hs hh
  rw [appA_get hi, List.set_append_left _ _ hi] at hk
  exact hk
theorem stRB {t : TypeId} {x y : Operand} {g0 o0 n c : Nat} {A : Option Addr} (h : Bks R w e H av (vsA ++ vsB) (xa ++ xb)) (hl : vsA.length = xa.length) (hi : i < xb.length) (hv : vsB.getD i d = .slice A n c) (hA : A = some ⟨g0, o0, none⟩) (hj : j < (xb.getD i []).length) (hf : f < R.sz) (u : Value) (fy : α → α)
    (hx : a.eval x = .pointer (some ⟨g0, o0 + j * R.sz + f, none⟩)) (hy : a.eval y = u) (hu : u.cells = #[u]) (h1 : u.oneCell' = true) (ht : (P.info? t).map (·.size) = some 1) (hok : ∀ w1 x c, R.ok NoZ w x c → R.ok NoZ w1 (fy x) (c.set f u))
    (k : ∀ w1, Bks R w1 e H av (vsA ++ vsB) (xa ++ xb.set i ((xb.getD i []).modify j fy)) → Fr [g0] w w1 → w1.heap.size = w.heap.size → (∀ k ∈ [g0], k ∉ av ∧ H k) → L ro P ops Q rest a w1) : St ro P ops Q rest ⟨none, .store t x y, ty, pos, aft, g⟩ a w := by
  subst hA
  refine stB h (i := xa.length + i) (by simp; omega) (h.atB hl hi hv) (by rw [appB_get]; exact hj) hf u fy hx hy hu h1 ht hok fun w1 hk hF hs hh => k w1 ?_ hF hs hh
  rw [appB_get, List.set_append_right _ _ (by omega), Nat.add_sub_cancel_left] at hk
  exact hk
end
end Go.V
