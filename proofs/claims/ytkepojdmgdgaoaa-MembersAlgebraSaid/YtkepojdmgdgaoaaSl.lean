/- Slices that are read are cut, appended; texts of one's own are written. -/
import Derived.Test.YtkepojdmgdgaoaaRep
import Derived.Test.YtkepojdmgdgaoaaRun
namespace Go.V
open Go.Base Go.RowKit
set_option linter.unusedVariables false
set_option linter.unusedSimpArgs false
section
variable {α : Type} {R : Rp α} {Z : Nat → Prop} {w : World} {xs ys : List α} {g o n c : Nat}
/-- The first ones of a slice. -/
theorem SlR.takeN (h : SlR R Z w (.slice (some ⟨g, o, none⟩) n c) xs) {i : Nat} (hi : i ≤ xs.length) : SlR R Z w (.slice (some ⟨g, o, none⟩) i c) (xs.take i) := by
  obtain ⟨A', c', e, h1, h2, h3⟩ := h
  injection e with e1 e2 e3
  subst e1; subst e3
  refine ⟨_, c, by rw [List.length_take, Nat.min_eq_left hi], by rw [List.length_take]; omega, by rw [List.length_take]; omega, fun j x hj => ?_⟩
  rw [List.getElem?_take] at hj
  split at hj
  · exact h3 j x hj
  · cases hj
/-- .. the last ones. -/
theorem SlR.dropN (h : SlR R Z w (.slice (some ⟨g, o, none⟩) n c) xs) {i : Nat} (hi : i ≤ xs.length) {ad : Addr} (had : c - i ≠ 0 → ad = ⟨g, o + i * R.sz, none⟩) {m : Nat} (hm : m = xs.length - i) : SlR R Z w (.slice (some ad) m (c - i)) (xs.drop i) := by
  subst hm
  obtain ⟨A', c', e, h1, h2, h3⟩ := h
  injection e with e1 e2 e3
  subst e1; subst e3
  refine ⟨_, c - i, by rw [List.length_drop], by rw [List.length_drop]; omega, by rw [List.length_drop]; omega, fun j x hj => ?_⟩
  rw [List.getElem?_drop] at hj
  have hlt := (List.getElem?_eq_some_iff.1 hj).1
  obtain ⟨g', o', cs, hA, hz, hg, hok, hc⟩ := h3 (i + j) x hj
  injection hA with hA
  injection hA with e4 e5
  subst e4; subst e5
  refine ⟨g, o + i * R.sz, cs, by rw [had (by omega)], hz, hg, hok, fun q u hq => ?_⟩
  have := hc q u hq
  rwa [Nat.add_mul, ← Nat.add_assoc o] at this
/-- The cells of a slice that is read. -/
theorem SlR.cells {Z' : Nat → Prop} (hz : ∀ x cs, R.ok Z w x cs → R.ok Z' w x cs) : ∀ {ys : List α} {o n c : Nat}, SlR R Z w (.slice (some ⟨g, o, none⟩) n c) ys → ∃ news, Cells R Z' w ys news ∧ ∀ j u, news[j]? = some u → w.cell? ⟨g, o + j, none⟩ = some u
  | [], o, n, c, _ => ⟨[], rfl, fun j u h => by simp at h⟩
  | y :: ys, o, n, c, h => by
    have hd := h.dropN (i := 1) (by simp) (ad := ⟨g, o + 1 * R.sz, none⟩) (fun _ => rfl) (m := ys.length) (by simp)
    simp only [List.drop_succ_cons, List.drop_zero] at hd
    obtain ⟨A', c', e, h1, h2, h3⟩ := h
    injection e with e1 e2 e3
    subst e1
    obtain ⟨g', o', cs, hA, _, hg, hok, hc⟩ := h3 0 y (by simp)
    injection hA with hA
    injection hA with e4 e5
    subst e4; subst e5
    obtain ⟨r, hr, hrc⟩ := SlR.cells hz hd
    refine ⟨cs ++ r, ⟨cs, r, rfl, hz _ _ hok, hr⟩, fun j u hj => ?_⟩
    have hl := R.len hok
    rcases Nat.lt_or_ge j cs.length with hjl | hjl
    · rw [List.getElem?_append_left hjl] at hj
      have := hc j u hj
      rwa [Nat.zero_mul, Nat.add_zero] at this
    · rw [List.getElem?_append_right hjl] at hj
      have := hrc _ u hj
      rwa [Nat.one_mul, show o + R.sz + (j - cs.length) = o + j by omega] at this
end
section
variable {α : Type} {R : Rp α} {Z : Nat → Prop} {w : World} {xs ys : List α} {base : Nat} {e : TypeId} {v : Value} {A : Option Addr} {m c : Nat}
variable {ro : Option Nat} {P : Program} {Q : Exit → Act → World → Prop} {a : Act} {ops : Array Oper} {rest : List Oper} {d : Option Tmp} {ty : TypeId} {pos : String} {aft : Array Edge} {gd : Option (Nat × Bool)}
theorem app0 {t : TypeId} {s x : Operand} {n0 c0 : Nat} {A0 : Option Addr} (hs : a.eval s = .slice A0 n0 c0) (hx : a.eval x = .slice A 0 c) (ht : P.underlying t = some (.slice e)) (hinfo : (P.info? e).map (·.size) = some R.sz) (hle : n0 ≤ c0)
    (k : L ro P ops Q rest (a.put d (.slice A0 n0 c0)) w) : St ro P ops Q rest ⟨d, .call ⟨.builtin .append, #[s, x], #[t, t]⟩, ty, pos, aft, gd⟩ a w := by
  obtain ⟨i, hi, hsz⟩ := Option.map_eq_some_iff.1 hinfo
  refine St.val (v := .slice A0 n0 c0) (w' := w) ?_ k
  simp only [execOp, resolve, invoke, builtin, Sem.run_bind, Sem.run_pure, Result.andThen_ok, List.map_toArray, List.map_cons, List.map_nil, hs, hx]
  cases A <;> cases A0 <;> simp [Builtin.append_, Builtin.lenOf, Builtin.firstCells, loadCells, loadCellsFrom, storeCells, sizeOf, typeInfo, run_underlying ht, hi, Sem.run_bind, hle]
theorem appS {t : TypeId} {s x : Operand} {z : Value} {bytes : Nat} (hs : a.eval s = v) (hx : a.eval x = .slice A m c) (ht : P.underlying t = some (.slice e))
    (hinfo : (P.info? e).map (fun i => (i.zero, i.size, i.bytes)) = some (some z, R.sz, bytes)) (hzs : z.cells.size = R.sz) (hsz : 0 < R.sz) (hown : OwR R NoZ w base e v xs) (hS : SlR R Z w (.slice A m c) ys) (hz : ∀ x cs, R.ok Z w x cs → R.ok NoZ w x cs)
    (hbytes : (xs.length + ys.length) * bytes ≤ 140737488355328) (hb0 : 0 < bytes) (hbase : base ≤ w.heap.size)
    (k : ∀ A' c' w1, OwR R NoZ w1 base e (.slice A' (xs.length + ys.length) c') (xs ++ ys) → Fr (v.ownBlock.toList) w w1 → L ro P ops Q rest (a.put d (.slice A' (xs.length + ys.length) c')) w1) : St ro P ops Q rest ⟨d, .call ⟨.builtin .append, #[s, x], #[t, t]⟩, ty, pos, aft, gd⟩ a w := by
  obtain rfl : m = ys.length := by obtain ⟨A', c', e, _⟩ := hS; injection e with e1 e2 e3
  cases ys with
  | nil =>
    obtain ⟨i, hi, hzz⟩ := Option.map_eq_some_iff.1 hinfo
    simp only [Prod.mk.injEq] at hzz
    have hown' := hown
    obtain ⟨A0, c0, rfl⟩ := hown.slice
    have hle : xs.length ≤ c0 := by
      obtain ⟨cs, h1, _⟩ := hown'
      rcases h1.2 with ⟨he, h⟩ | ⟨g, cap, cur, he, _, _, hnc, _⟩
      · injection he; omega
      · injection he with e1 e2 e3; omega
    refine app0 (R := R) hs hx ht (by rw [hi]; exact congrArg some hzz.2.1) hle ?_
    have := k A0 c0 w
    rw [List.append_nil] at this
    exact this hown (Fr.refl _ _)
  | cons y ys =>
    obtain ⟨g, o, rfl, _, _⟩ := hS.addr (by simp)
    obtain ⟨news, h1, h2⟩ := hS.cells hz
    refine app hs ⟨g, o, none⟩ _ c hx ht hinfo hzs hsz hown rfl h1 (fun j u hj => ?_) hbytes hb0 hbase fun A' c' w1 ho hf _ => k A' c' w1 (ho.zone (fun _ _ q => q.1) (fun _ _ q => q)) hf
    rw [show (⟨g, o, none⟩ : Addr).add j = ⟨g, o + j, none⟩ by unfold Addr.add; split <;> simp_all]
    exact h2 j u hj
/-- An empty row. -/
theorem OwR.empty {g : Nat} (hB : Blk w g [] e) (hg : base ≤ g) : OwR R NoZ w base e (.slice (some ⟨g, 0, none⟩) 0 0) [] :=
  ⟨[], ⟨by simp, .inr ⟨g, 0, #[], rfl, hg, hB, Nat.le_refl _, Nat.zero_le _, by simp, by simp⟩⟩, rfl, fun b hb hz => hz⟩
theorem OwR.rebase {base' : Nat} (h : OwR R NoZ w base e v xs) (hb : base' ≤ base) : OwR R NoZ w base' e v xs := by
  obtain ⟨cs, h1, h2, h3⟩ := h
  refine ⟨cs, ⟨h1.1, ?_⟩, h2, h3⟩
  rcases h1.2 with h | ⟨g, cap, cur, he, hg, hr⟩
  · exact .inl h
  · exact .inr ⟨g, cap, cur, he, Nat.le_trans hb hg, hr⟩
end
section
variable {α : Type} {R : Rp α} {Z : Nat → Prop} {w : World} {xs : List α} {A : Option Addr} {n c : Nat}
/-- The first ones, wherever the slice lies. -/
theorem SlR.tk (h : SlR R Z w (.slice A n c) xs) {i : Nat} (hi : i ≤ xs.length) : SlR R Z w (.slice A i c) (xs.take i) := by
  obtain ⟨A', c', e, h1, h2, h3⟩ := h
  injection e with e1 e2 e3
  subst e1; subst e3
  refine ⟨_, _, by rw [List.length_take, Nat.min_eq_left hi], by rw [List.length_take]; omega, by rw [List.length_take]; omega, fun j x hj => ?_⟩
  rw [List.getElem?_take] at hj
  split at hj
  · exact h3 j x hj
  · cases hj
theorem SlR.old {v : Value} (h : SlR R Z w v xs) : SlR R (fun k => k < w.heap.size) w v xs := h.zone fun _ hb _ => hb
theorem SlR.tke (h : SlR R Z w (.slice A n c) xs) (i : Nat) : SlR R Z w (.slice A (xs.take i).length c) (xs.take i) := by
  rcases Nat.lt_or_ge xs.length i with hi | hi
  · rw [List.take_of_length_le (by omega)]
    obtain ⟨A', c', e, h1⟩ := h
    injection e with e1 e2 e3
    subst e1; subst e3
    exact ⟨_, _, rfl, h1⟩
  · have := h.tk hi
    rwa [show (xs.take i).length = i by rw [List.length_take]; omega]
def cutA (A : Option Addr) (l c sz : Nat) : Option Addr := if c = l then A else A.map (·.add (l * sz))
theorem SlR.dr (h : SlR R Z w (.slice A n c) xs) {i : Nat} (hi : i ≤ xs.length) : SlR R Z w (.slice (cutA A i c R.sz) (xs.length - i) (c - i)) (xs.drop i) := by
  obtain ⟨A', c', e, h1, h2, h3⟩ := h
  injection e with e1 e2 e3
  subst e1; subst e3
  refine ⟨_, c - i, by rw [List.length_drop], by rw [List.length_drop]; omega, by rw [List.length_drop]; omega, fun j x hj => ?_⟩
  rw [List.getElem?_drop] at hj
  obtain ⟨g, o, cs, hA, hZ, hg, hok, hc⟩ := h3 (i + j) x hj
  have hlt : i + j < xs.length := (List.getElem?_eq_some_iff.1 hj).1
  refine ⟨g, o + i * R.sz, cs, ?_, hZ, hg, hok, fun k u hk => ?_⟩
  · unfold cutA
    rw [if_neg (by omega), hA]
    have : (⟨g, o, none⟩ : Addr).add (i * R.sz) = ⟨g, o + i * R.sz, none⟩ := by unfold Addr.add; split <;> simp_all
    simp [this]
  · have := hc k u hk
    rwa [show o + (i + j) * R.sz + k = o + i * R.sz + j * R.sz + k by rw [Nat.add_mul]; omega] at this
theorem SlR.cp (h : SlR R Z w (.slice A n c) xs) : n = xs.length ∧ xs.length ≤ c := by
  obtain ⟨A', c', e, h1, h2, h3⟩ := h
  injection e with e1 e2 e3
  exact ⟨e2, by omega⟩
end
section
variable {P : Program} {w : World}
def sl1 (P : Program) (t : TypeId) : Option Nat := match P.underlying t with
  | some (.slice e) => (P.info? e).map (·.size)
  | _ => none
/-- A cut of a slice: from one number on, up to another. -/
def It.cut (A : Option Addr) (n c : Nat) (l h : Int) (sz : Nat) (hb : 0 ≤ l ∧ l ≤ h ∧ h ≤ c := by omega) : It P w where
  c R o := match o.op with
    | .slice t x lo hi none => .vs [opv R x, match lo with | some q => opv R q | none => some (.int .i64 0), match hi with | some q => opv R q | none => some (.int .i64 n)] (sl1 P t == some sz)
    | _ => .bad
  want := .vs [some (.slice A n c), some (.int .i64 l), some (.int .i64 h)] true
  x := .slice (cutA A l.toNat c sz) (h.toNat - l.toNat) (c - l.toNat)
  h := fun a R o he hk => by
    obtain ⟨d, op, ty, pos, aft, g⟩ := o
    cases op <;> simp only [reduceCtorEq] at hk
    case slice t x lo hi mx =>
      cases mx with
      | some _ => cases hk
      | none =>
        injection hk with h1 h2
        injection h1 with h1 h3
        injection h3 with h3 h4
        injection h4 with h4 _
        have hx := opv_eval he h1
        have ht : sl1 P t = some sz := by simpa using h2
        obtain ⟨ha, hb1, hc1⟩ := hb
        unfold sl1 at ht
        split at ht
        · rename_i e hte
          obtain ⟨i, hi', hsz⟩ := Option.map_eq_some_iff.1 ht
          have hbd : (Instr.sliceBounds true n c (lo.map a.eval) (hi.map a.eval) none).run P w = .ok (l.toNat, h.toNat, c) w := by
            have h5 : 0 ≤ h := by omega
            unfold Instr.sliceBounds
            cases hi with
            | none =>
              simp only [Option.some.injEq, Value.int.injEq, true_and] at h4
              subst h4
              cases lo with
              | none =>
                simp only [Option.some.injEq, Value.int.injEq, true_and] at h3
                subst h3
                simp [Sem.run_bind]
              | some q =>
                have hq := opv_eval he h3
                simp [Sem.run_bind, hq, Instr.sliceBound, asIntOf, ha, hb1]
            | some p =>
              have hp := opv_eval he h4
              cases lo with
              | none =>
                simp only [Option.some.injEq, Value.int.injEq, true_and] at h3
                subst h3
                simp [Sem.run_bind, hp, Instr.sliceBound, asIntOf, h5, hc1]
              | some q =>
                have hq := opv_eval he h3
                simp [Sem.run_bind, hp, hq, Instr.sliceBound, asIntOf, h5, hc1, ha]
                intro hlt
                omega
          simp only [execOp, hx]
          unfold Instr.sliceAt
          simp only [Sem.run_bind, run_underlying hte, Result.andThen_ok, Option.map_none]
          unfold Instr.slice
          simp only [Sem.run_bind, run_underlying hte, Result.andThen_ok]
          rw [hbd]
          simp only [Result.andThen_ok, sizeOf, typeInfo, run_program, Sem.run_bind, hi', hsz, Sem.run_pure, cutA]
        · cases ht
theorem cutA_zero (A : Option Addr) (c sz : Nat) : cutA A 0 c sz = A := by
  unfold cutA
  split
  · rfl
  · cases A <;> simp [Addr.add]
/-- .. from the first on. -/
def It.cut0 (A : Option Addr) (n c : Nat) (h : Int) (m sz : Nat) (hb : 0 ≤ h ∧ h ≤ c ∧ h = m := by omega) : It P w :=
  let i : It P w := .cut A n c 0 h sz ⟨by omega, by omega, by omega⟩
  { c := i.c, want := i.want, x := .slice A m c, h := fun a R o he hc => by
      have := i.h a R o he hc
      rw [this]
      show Result.ok (Next.value (.slice (cutA A (0 : Int).toNat c sz) (h.toNat - (0 : Int).toNat) (c - (0 : Int).toNat))) w = _
      rw [Int.toNat_zero, cutA_zero, Nat.sub_zero, Nat.sub_zero, hb.2.2, Int.toNat_natCast] }
/-- .. from one on, to the end. -/
def It.cutE (A : Option Addr) (n c : Nat) (l : Int) (m sz : Nat) (hb : l = m ∧ m ≤ n ∧ n ≤ c := by omega) : It P w :=
  let i : It P w := .cut A n c l n sz ⟨by omega, by omega, by omega⟩
  { c := i.c, want := i.want, x := .slice (cutA A m c sz) (n - m) (c - m), h := fun a R o he hc => by
      have := i.h a R o he hc
      rw [this]
      show Result.ok (Next.value (.slice (cutA A l.toNat c sz) ((n : Int).toNat - l.toNat) (c - l.toNat))) w = _
      rw [hb.1, Int.toNat_natCast, Int.toNat_natCast] }
end
/-! ### Texts of one's own -/
section
variable {w w1 : World} {base g n c : Nat} {e : TypeId} {l l' : List ByteArray}
theorem cells_str {Z : Nat → Prop} : ∀ {l : List ByteArray} {cs : List Value}, Cells Rp.str Z w l cs ↔ cs = l.map Value.string
  | [], cs => Iff.rfl
  | x :: l, cs => by
    constructor
    · rintro ⟨c, r, rfl, hc, hr⟩
      have hc' : c = [.string x] := hc
      rw [hc', (cells_str (Z := Z) (l := l)).1 hr]
      rfl
    · rintro rfl
      exact ⟨[.string x], l.map Value.string, rfl, rfl, (cells_str (Z := Z) (l := l)).2 rfl⟩
theorem OwR.openS (h : OwR Rp.str NoZ w base e (.slice (some ⟨g, 0, none⟩) n c) l) : ∃ cur, Blk w g cur e ∧ cur.length = c ∧ n = l.length ∧ n ≤ c ∧ c ≤ maxLen ∧ base ≤ g ∧ cur.take n = l.map Value.string := by
  obtain ⟨cs, h1, h2, h3⟩ := h
  rcases h1.2 with ⟨he, _⟩ | ⟨g', cap, cur, he, hg, hh, hnc, hcm, hs, ht⟩
  · cases he
  · injection he with e1 e2 e3
    injection e1 with e1
    injection e1 with e1
    subst e1; subst e2; subst e3
    have hsz : Rp.str.sz = 1 := rfl
    rw [hsz, Nat.mul_one] at hs ht
    refine ⟨cur.toList, by simpa [Blk] using hh, by simpa using hs, rfl, hnc, hcm, hg, ?_⟩
    rw [ht, cells_str.1 h2]
theorem OwR.mkS {cur : List Value} (hB : Blk w g cur e) (hc : cur.length = c) (hn : l.length ≤ c) (hcm : c ≤ maxLen) (hg : base ≤ g) (ht : cur.take l.length = l.map Value.string) : OwR Rp.str NoZ w base e (.slice (some ⟨g, 0, none⟩) l.length c) l := by
  have hsz : Rp.str.sz = 1 := rfl
  refine ⟨l.map Value.string, ⟨by rw [hsz]; simp, .inr ⟨g, c, cur.toArray, rfl, hg, hB, hn, hcm, by rw [hsz]; simpa using hc, by rw [hsz, Nat.mul_one]; simpa using ht⟩⟩, cells_str.2 rfl, fun b _ hz => hz⟩
/-- A row of texts, of one's own or of none. -/
theorem OwR.caseS {v : Value} (h : OwR Rp.str NoZ w base e v l) : (v = .slice none 0 0 ∧ l = []) ∨ ∃ g c, v = .slice (some ⟨g, 0, none⟩) l.length c := by
  obtain ⟨cs, h1, h2, h3⟩ := h
  rcases h1.2 with ⟨he, hn⟩ | ⟨g', cap, cur, he, _⟩
  · exact .inl ⟨he, List.eq_nil_of_length_eq_zero hn⟩
  · exact .inr ⟨g', cap, he⟩
variable {ro : Option Nat} {P : Program} {Q : Exit → Act → World → Prop} {a : Act} {ops : Array Oper} {rest : List Oper} {ty : TypeId} {pos : String} {aft : Array Edge} {gd : Option (Nat × Bool)}
theorem sto {t : TypeId} {x y : Operand} (i : Nat) (s : ByteArray) (h : OwR Rp.str NoZ w base e (.slice (some ⟨g, 0, none⟩) n c) l) (hx : a.eval x = .pointer (some ⟨g, 0 + i * 1, none⟩)) (hy : a.eval y = .string s) (ht : (P.info? t).map (·.size) = some 1) (hi : i < l.length)
    (k : ∀ w1, OwR Rp.str NoZ w1 base e (.slice (some ⟨g, 0, none⟩) n c) (l.set i s) → Fr [g] w w1 → w1.heap.size = w.heap.size → L ro P ops Q rest a w1) : St ro P ops Q rest ⟨none, .store t x y, ty, pos, aft, gd⟩ a w := by
  obtain ⟨cur, hB, hcl, hn, hnc, hcm, hg, htk⟩ := h.openS
  refine stn g (0 + i * 1) (.string s) [.string s] hx hy rfl rfl ht hB (by simp; omega) (cur.set i (.string s)) (by simp [over]) fun w1 h1 hf hs => k w1 ?_ hf hs
  have hr := OwR.mkS (l := l.set i s) h1 (by simpa using hcl) (by rw [List.length_set]; omega) hcm hg (by rw [List.length_set, ← hn, List.map_set, ← htk, List.take_set])
  rw [List.length_set, ← hn] at hr
  exact hr
theorem OwR.is {v : Value} (h : OwR Rp.str NoZ w base e v l) : SlR Rp.str (fun _ => True) w v l := h.read (fun _ _ _ => trivial) (fun _ _ _ => trivial)
theorem OwR.il {v : Value} (h : OwR Rp.str NoZ w base e v l) : SlR Rp.str (fun b => base ≤ b) w v l := h.read (fun _ _ h => h.elim) (fun _ h _ => h)
end
end Go.V
