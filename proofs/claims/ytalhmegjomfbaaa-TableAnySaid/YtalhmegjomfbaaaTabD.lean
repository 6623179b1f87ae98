/- A key taken out; a key's value; a new table. -/
import Derived.Test.YtalhmegjomfbaaaTabF
import Derived.Test.YtalhmegjomfbaaaDel
namespace Go.V
open Go.Base Go.RowKit
set_option linter.unusedVariables false
set_option linter.unusedSimpArgs false
section
variable {α : Type}
def rmV (l : List (List (ByteArray × α))) (i j : Nat) : List (List (ByteArray × α)) := l.set i ((l.getD i []).eraseIdx j)
def rm1T (T : Tb α) (k : ByteArray) : Tb α :=
  if (findT T k).1.1 = 0 then { T with a := rmV T.a (findT T k).1.2.1.toNat (findT T k).1.2.2.toNat, n := T.n - 1 } else { T with b := rmV T.b (findT T k).1.2.1.toNat (findT T k).1.2.2.toNat, n := T.n - 1 }
def shrT (T : Tb α) : Tb α := if T.b.length = 0 ∧ 4 < T.a.length ∧ T.n < T.a.length / 8 then startT T (T.a.length / 2) else T
def del1T (T : Tb α) (k : ByteArray) : Tb α := if (findT T k).2 = true then shrT (rm1T T k) else T
def delT (T : Tb α) (k : ByteArray) : Tb α := del1T (tbStep T) k
def lookT (d : α) (T : Tb α) (k : ByteArray) : α × Bool :=
  if (findT T k).2 = true then ((((if (findT T k).1.1 = 0 then T.a else T.b).getD (findT T k).1.2.1.toNat []).getD (findT T k).1.2.2.toNat (⟨#[]⟩, d)).2, true) else (d, false)
def newT (seed : Nat) : Tb α := ⟨seed, List.replicate 4 [], [], 0, 0⟩
theorem newT_ok {seed : Nat} (h : seed < 18446744073709551616) : (newT seed : Tb α).Ok ∧ (newT seed : Tb α).Mv :=
  ⟨⟨h, by simp [newT], by simp [newT], by simp [newT], fun h => absurd rfl h, fun _ => rfl, Nat.zero_le _, rfl, KsR.nils 4, fun i x hx => by rw [getD_nil (Nat.zero_le _)] at hx; cases hx⟩, fun i hi => absurd hi (Nat.not_lt_zero _)⟩
theorem rmV_length (l : List (List (ByteArray × α))) (i j : Nat) : (rmV l i j).length = l.length := by simp [rmV]
theorem rmV_flat {l : List (List (ByteArray × α))} {i j : Nat} (hj : j < (l.getD i []).length) : (rmV l i j).flatten.length + 1 = l.flatten.length := by
  unfold rmV
  rcases Nat.lt_or_ge i l.length with h | h
  · have := flat_set l i ((l.getD i []).eraseIdx j) h
    rw [List.length_eraseIdx_of_lt hj] at this
    omega
  · rw [getD_nil h] at hj; simp at hj
theorem KsR.rm {l : List (List (ByteArray × α))} (h : KsR l) (i j : Nat) : KsR (rmV l i j) :=
  KsR.set h _ fun y hy => h i y (List.mem_of_mem_eraseIdx hy)
theorem rm1T_ok {T : Tb α} (h : T.Ok) (hm : T.Mv) (k : ByteArray) (hf : (findT T k).2 = true) : (rm1T T k).Ok ∧ (rm1T T k).Mv := by
  have hs := h.sum
  unfold rm1T
  rcases findT_cases h k with hc | ⟨j, hc, hj⟩ | ⟨hb, j, hc, hj⟩
  · rw [hc] at hf; cases hf
  · rw [hc, if_pos rfl]
    have hfl := rmV_flat (l := T.a) (i := bkt T.seed T.a.length k) hj
    refine ⟨⟨h.sd, by show 0 < (rmV ..).length; rw [rmV_length]; exact h.pa, by show (rmV ..).length ≤ _; rw [rmV_length]; exact h.la, h.lb, fun h0 => by show _ < (rmV ..).length; rw [rmV_length]; exact h.mv h0, h.mz, by show T.n - 1 ≤ _; have := h.nn; omega, by
      show (rmV T.a ((bkt T.seed T.a.length k : Nat) : Int).toNat ((j : Nat) : Int).toNat ++ T.b).flatten.length = T.n - 1
      rw [Int.toNat_natCast, Int.toNat_natCast, List.flatten_append, List.length_append]; omega, KsR.rm h.ks.1 _ _, h.ks.2⟩, fun i hi => ?_⟩
    show (rmV ..).getD i [] = []
    have h0 := hm i hi
    unfold rmV
    rw [Int.toNat_natCast]
    by_cases he : bkt T.seed T.a.length k = i
    · rw [he, h0] at hj; simp at hj
    · rw [getD_set_ne he]; exact h0
  · rw [hc, if_neg (by simp)]
    have hfl := rmV_flat (l := T.b) (i := bkt T.seed T.b.length k) hj
    refine ⟨⟨h.sd, h.pa, h.la, by show (rmV ..).length ≤ _; rw [rmV_length]; exact h.lb, fun h0 => h.mv hb, fun h0 => absurd (by have h1 : (rmV ..).length = 0 := h0; rwa [rmV_length] at h1) hb, by show T.n - 1 ≤ _; have := h.nn; omega, by
      show (T.a ++ rmV T.b ((bkt T.seed T.b.length k : Nat) : Int).toNat ((j : Nat) : Int).toNat).flatten.length = T.n - 1
      rw [Int.toNat_natCast, Int.toNat_natCast, List.flatten_append, List.length_append]; omega, h.ks.1, KsR.rm h.ks.2 _ _⟩, hm⟩
theorem shrT_ok {T : Tb α} (h : T.Ok) (hm : T.Mv) : (shrT T).Ok ∧ (shrT T).Mv := by
  unfold shrT
  split
  · rename_i hc
    have := h.la
    exact ⟨startT_ok h (List.eq_nil_of_length_eq_zero hc.1) (by omega) (by omega), fun i hi => absurd hi (Nat.not_lt_zero _)⟩
  · exact ⟨h, hm⟩
theorem del1T_ok {T : Tb α} (h : T.Ok) (hm : T.Mv) (k : ByteArray) : (del1T T k).Ok ∧ (del1T T k).Mv := by
  unfold del1T
  split
  · rename_i hf
    obtain ⟨h1, h2⟩ := rm1T_ok h hm k hf
    exact shrT_ok h1 h2
  · exact ⟨h, hm⟩
theorem putT_ok {T : Tb α} (h : T.Ok) (hm : T.Mv) (hn : T.n < 1099511627776) (k : ByteArray) (hk : k.size ≤ 9223372036854775807) (v : α) : (putT T k v).Ok ∧ (putT T k v).Mv := by
  obtain ⟨h1, h2⟩ := tbStep_ok h hm
  refine put1T_ok h1 h2 ?_ k hk v
  have : (tbStep T).n = T.n := by
    unfold tbStep
    split
    · rfl
    · split
      · rfl
      · split <;> rfl
  omega
theorem delT_ok {T : Tb α} (h : T.Ok) (hm : T.Mv) (k : ByteArray) : (delT T k).Ok ∧ (delT T k).Mv := by
  obtain ⟨h1, h2⟩ := tbStep_ok h hm
  exact del1T_ok h1 h2 k
end
section
variable {α : Type} {R : Rp α} {w w1 : World} {e : TypeId} {H : Nat → Prop} {av : List Nat} {vs vsA vsB : List Value} {xs xa xb : List (List α)} {i n c g : Nat} {d : Value} {A : Option Addr}
theorem OwR.open1 {base : Nat} {xs : List α} (h : OwR R NoZ w base e (.slice A n c) xs) (hn : 0 < xs.length) : ∃ g, A = some ⟨g, 0, none⟩ ∧ n = xs.length ∧ n ≤ c := by
  obtain ⟨cs, h1, h2, h3⟩ := h
  rcases h1.2 with ⟨_, he⟩ | ⟨g, cap, cur, he, hb, hh, hnc, _⟩
  · omega
  · injection he with e1 e2 e3
    exact ⟨g, e1, e2, by omega⟩
theorem Bks.own1 (h : Bks R w e H av vs xs) (hv : vs[i]? = some (.slice A n c)) (hne : 0 < (xs.getD i []).length) : ∃ g, A = some ⟨g, 0, none⟩ ∧ OwR R NoZ w 0 e (.slice (some ⟨g, 0, none⟩) (xs.getD i []).length c) (xs.getD i []) ∧ (xs.getD i []).length ≤ c ∧ (∀ k ∈ [g], k ∉ av ∧ H k) := by
  have ho := h.own i _ hv
  obtain ⟨g, rfl, rfl, hc⟩ := ho.open1 hne
  exact ⟨g, rfl, ho, hc, fun k hk => by simp at hk; subst hk; exact h.hom i _ k hv rfl⟩
theorem Bks.ownA (h : Bks R w e H av (vsA ++ vsB) (xa ++ xb)) (hl : vsA.length = xa.length) (hi : i < xa.length) (hv : vsA.getD i d = .slice A n c) (hne : 0 < (xa.getD i []).length) : ∃ g, A = some ⟨g, 0, none⟩ ∧ OwR R NoZ w 0 e (.slice (some ⟨g, 0, none⟩) (xa.getD i []).length c) (xa.getD i []) ∧ (xa.getD i []).length ≤ c ∧ (∀ k ∈ [g], k ∉ av ∧ H k) := by
  have := h.own1 (i := i) (h.atA hl hi hv) (by rw [appA_get hi]; exact hne)
  rwa [appA_get hi] at this
theorem Bks.ownB (h : Bks R w e H av (vsA ++ vsB) (xa ++ xb)) (hl : vsA.length = xa.length) (hi : i < xb.length) (hv : vsB.getD i d = .slice A n c) (hne : 0 < (xb.getD i []).length) : ∃ g, A = some ⟨g, 0, none⟩ ∧ OwR R NoZ w 0 e (.slice (some ⟨g, 0, none⟩) (xb.getD i []).length c) (xb.getD i []) ∧ (xb.getD i []).length ≤ c ∧ (∀ k ∈ [g], k ∉ av ∧ H k) := by
  have := h.own1 (i := xa.length + i) (h.atB hl hi hv) (by rw [appB_get]; exact hne)
  rwa [appB_get] at this
theorem Bks.setA (h : Bks R w e H av (vsA ++ vsB) (xa ++ xb)) (hl : vsA.length = xa.length) (hi : i < xa.length) (hv : vsA.getD i d = .slice (some ⟨g, 0, none⟩) n c) (f : Fr [g] w w1) {n' c' : Nat} {x' : List α} (ho : OwR R NoZ w1 0 e (.slice (some ⟨g, 0, none⟩) n' c') x') (hH : H w.heap.size) :
    Bks R w1 e H av (vsA.set i (.slice (some ⟨g, 0, none⟩) n' c') ++ vsB) (xa.set i x' ++ xb) := by
  have := h.upd (i := i) (by simp; omega) (h.atA hl hi hv) f ho (.inl rfl) hH
  rwa [List.set_append_left _ _ (by omega), List.set_append_left _ _ hi] at this
theorem Bks.setB (h : Bks R w e H av (vsA ++ vsB) (xa ++ xb)) (hl : vsA.length = xa.length) (hi : i < xb.length) (hv : vsB.getD i d = .slice (some ⟨g, 0, none⟩) n c) (f : Fr [g] w w1) {n' c' : Nat} {x' : List α} (ho : OwR R NoZ w1 0 e (.slice (some ⟨g, 0, none⟩) n' c') x') (hH : H w.heap.size) :
    Bks R w1 e H av (vsA ++ vsB.set i (.slice (some ⟨g, 0, none⟩) n' c')) (xa ++ xb.set i x') := by
  have := h.upd (i := xa.length + i) (by simp; omega) (h.atB hl hi hv) f ho (.inl rfl) hH
  rwa [show xa.length + i = vsA.length + i by omega, List.set_append_right _ _ (by omega), Nat.add_sub_cancel_left, hl, List.set_append_right _ _ (by omega), Nat.add_sub_cancel_left] at this
variable {ro : Option Nat} {P : Program} {Q : Exit → Act → World → Prop} {a : Act} {ops : Array Oper} {rest : List Oper} {d' : Option Tmp} {ty : TypeId} {pos : String} {aft : Array Edge} {gd : Option (Nat × Bool)}
theorem quoN {t t' : TypeId} {x y : Operand} (n m : Nat) (hx : a.eval x = .int .i64 (n : Int)) (hy : a.eval y = .int .i64 (m : Int)) (hm : 0 < m) (hb : n ≤ 9223372036854775807)
    (k : L ro P ops Q rest (a.put d' (.int .i64 ((n / m : Nat) : Int))) w) : St ro P ops Q rest ⟨d', .binOp .quo t x y t', ty, pos, aft, gd⟩ a w := by
  refine St.val (v := .int .i64 ((n / m : Nat) : Int)) (w' := w) ?_ k
  have hne : ¬ ((m : Nat) : Int) = 0 := by omega
  have h1 : Value.int .i64 (IntKind.i64.wrap (Int.tdiv (n : Int) (m : Int))) = .int .i64 ((n / m : Nat) : Int) := quo_i64 (Int.natCast_nonneg _) (by omega) (by omega)
  rw [← h1]
  simp only [execOp, hx, hy, eqGuard, binOp, Op.intDiv, ne_eq, not_true_eq_false, if_false, hne]
  rfl
end
section
variable {α : Type} {tt te e : TypeId} {R : Rp (ByteArray × α)} {w w1 w2 : World} {H : Nat → Prop} {av : List Nat} {t g seed : Nat} {T : Tb α}
theorem newT_tab (hB : Blk w1 t [.int .u64 (seed : Int), .slice (some ⟨g, 0, none⟩) 4 4, .slice none 0 0, .int .i64 0, .int .i64 0] tt) (hR : Row idV w1 g (List.replicate 4 nilS) te) (hne : t ≠ g) (ht : w.heap.size ≤ t) (hg : w.heap.size ≤ g) (hsd : seed < 18446744073709551616) (hav : ∀ k ∈ av, k < w.heap.size) :
    TabX tt te e R w1 (gr (fun _ => False) w w1) av t (newT seed) := by
  have hlt := hB.lt
  have hlg := hR.lt
  have hn : ∀ k ∈ t :: g :: av, k < w1.heap.size := fun k hk => by
    rcases List.mem_cons.1 hk with rfl | hk
    · exact hlt
    · rcases List.mem_cons.1 hk with rfl | hk
      · exact hlg
      · have := hav k hk; omega
  refine ⟨(newT_ok hsd).1, .inl ⟨rfl, g, _, hB, hR, rfl, ?_, hne, ⟨.inr ⟨ht, hlt⟩, fun hm => ?_⟩, ⟨.inr ⟨hg, hlg⟩, fun hm => ?_⟩⟩⟩
  · exact Bks.nil R w1 e _ hn 4
  · have := hav _ hm; omega
  · have := hav _ hm; omega
theorem TabX.gr4 {w0 : World} (h : TabX tt te e R w2 (gr (gr H w w0) w1 w2) av t T) (h1 : w.heap.size ≤ w1.heap.size) : TabX tt te e R w2 (gr H w w2) av t T :=
  h.sub (fun _ q => q) fun k hk q => by
    rcases q with q | q
    · rcases q with q | q
      · exact .inl q
      · exact .inr ⟨q.1, hk⟩
    · exact .inr ⟨by omega, hk⟩
theorem TabX.grl (h : TabX tt te e R w2 (gr H w w1) av t T) (hw : w1.heap.size ≤ w2.heap.size) : TabX tt te e R w2 (gr H w w2) av t T :=
  h.sub (fun _ q => q) fun k hk q => q.imp id fun q => ⟨q.1, by omega⟩
end
end Go.V
